import PyProof.Rows.All
import Wide.All
import OpenK.AllK
import Wide.FinOn
import KE.KStateDown
import Lean
import HandS.ForMost
import HandS.Deep
import HandS.IsInst
import HandS.More
import HandS.Defaults
import HandS.Head0
import HandS.Head1
import HandS.Head2
import HandS.HeadEnd
import HandS.HeadHook1
import HandS.HeadHook2
import HandS.HeadHook3
import HandS.HeadHook4
import HandS.Conv
import HandS.Sort
import HandS.SortOrd
import HandS.SortRule
import PySem.Challenge.RW_driftkept_k06_whole_deeds_that_last
set_option Elab.async false
set_option linter.all false
set_option maxRecDepth 100000
set_option maxHeartbeats 4000000
namespace Dk
open PySem PySem.Spec PyProof.Rows L2
/-! the text by places -/
def top (i : Nat) : Stmt := PySem.Challenge.pw_driftkept_k06_whole_deeds_that_last.main.body.getD i (.Pass ⟨0, 0, 0, 0⟩)
abbrev s_is_within : Stmt := top 12
abbrev s_is_mark : Stmt := top 13
abbrev s_deed_record : Stmt := top 19
abbrev s_shown_by : Stmt := top 22
abbrev s_shown_now : Stmt := top 23
abbrev s_law_tape : Stmt := top 25
abbrev s_law_at : Stmt := top 26
abbrev s_law_shown : Stmt := top 27
abbrev s_law_begin : Stmt := top 28
abbrev s_law_decided : Stmt := top 29
abbrev s_law_kept : Stmt := top 30
abbrev s_law_past : Stmt := top 31
abbrev s_law_step : Stmt := top 32
abbrev s_law_end : Stmt := top 33
abbrev s_law_recovered : Stmt := top 34
abbrev s_law_cut : Stmt := top 35
abbrev s_law : Stmt := top 36
abbrev s_Stack___init__ : Stmt := inClass (top 2) 0
abbrev s_Stack_settle : Stmt := inClass (top 2) 1
abbrev s_Stack_pass_on : Stmt := inClass (top 2) 2
abbrev s_Stack_step : Stmt := inClass (top 2) 3
abbrev s_Stack_ended : Stmt := inClass (top 2) 4
abbrev s_Stack_value : Stmt := inClass (top 2) 5
abbrev s_Layout___init__ : Stmt := inClass (top 14) 0
abbrev s_Layout_epoch : Stmt := inClass (top 14) 1
abbrev s_Layout_call_slot : Stmt := inClass (top 14) 3
abbrev s_Layout_word : Stmt := inClass (top 14) 4
abbrev s_Layout_record : Stmt := inClass (top 14) 5
abbrev s_Layout_cells : Stmt := inClass (top 14) 6
abbrev s_Layout_is_lasting : Stmt := inClass (top 14) 8
abbrev s_Memory___init__ : Stmt := inClass (top 15) 0
abbrev s_Memory_no_notes : Stmt := inClass (top 15) 1
abbrev s_Memory_check_cell : Stmt := inClass (top 15) 2
abbrev s_Memory_check_lasting : Stmt := inClass (top 15) 3
abbrev s_Memory_check_request : Stmt := inClass (top 15) 4
abbrev s_Memory_access : Stmt := inClass (top 15) 5
abbrev s_Memory_result : Stmt := inClass (top 15) 6
abbrev s_Memory_give : Stmt := inClass (top 15) 7
abbrev s_Memory_fence : Stmt := inClass (top 15) 8
abbrev s_Memory_shorten : Stmt := inClass (top 15) 9
abbrev s_Memory_peek : Stmt := inClass (top 15) 10
abbrev s_Memory_lasting : Stmt := inClass (top 15) 11
abbrev s_Memory_trail : Stmt := inClass (top 15) 12
abbrev s_Memory_drift : Stmt := inClass (top 15) 13
abbrev s_Memory_cut : Stmt := inClass (top 15) 14
abbrev s_Doing___init__ : Stmt := inClass (top 20) 0
abbrev s_Doing_mark_of : Stmt := inClass (top 20) 1
abbrev s_Doing_request : Stmt := inClass (top 20) 2
abbrev s_Doing_accept : Stmt := inClass (top 20) 3
abbrev s_Doing_take_status : Stmt := inClass (top 20) 4
abbrev s_Doing_last_requests : Stmt := inClass (top 20) 5
abbrev s_Doing_take_word : Stmt := inClass (top 20) 6
abbrev s_Doing_take_swap : Stmt := inClass (top 20) 7
abbrev s_Doing_pass_entry : Stmt := inClass (top 20) 8
/-! the defs -/
def d_is_within : He.DefD := ⟨("is_within", none), "is_within", "is_within", defArgs s_is_within, defBody s_is_within, defScope s_is_within, [], []⟩
def d_is_mark : He.DefD := ⟨("is_mark", none), "is_mark", "is_mark", defArgs s_is_mark, defBody s_is_mark, defScope s_is_mark, [], []⟩
def d_deed_record : He.DefD := ⟨("deed_record", none), "deed_record", "deed_record", defArgs s_deed_record, defBody s_deed_record, defScope s_deed_record, [], []⟩
def d_shown_by : He.DefD := ⟨("shown_by", none), "shown_by", "shown_by", defArgs s_shown_by, defBody s_shown_by, defScope s_shown_by, [], []⟩
def d_shown_now : He.DefD := ⟨("shown_now", none), "shown_now", "shown_now", defArgs s_shown_now, defBody s_shown_now, defScope s_shown_now, [], []⟩
def d_law_tape : He.DefD := ⟨("_law_tape", none), "_law_tape", "_law_tape", defArgs s_law_tape, defBody s_law_tape, defScope s_law_tape, [], []⟩
def d_law_at : He.DefD := ⟨("_law_at", none), "_law_at", "_law_at", defArgs s_law_at, defBody s_law_at, defScope s_law_at, [], []⟩
def d_law_shown : He.DefD := ⟨("_law_shown", none), "_law_shown", "_law_shown", defArgs s_law_shown, defBody s_law_shown, defScope s_law_shown, [], []⟩
def d_law_begin : He.DefD := ⟨("_law_begin", none), "_law_begin", "_law_begin", defArgs s_law_begin, defBody s_law_begin, defScope s_law_begin, [], []⟩
def d_law_decided : He.DefD := ⟨("_law_decided", none), "_law_decided", "_law_decided", defArgs s_law_decided, defBody s_law_decided, defScope s_law_decided, [], []⟩
def d_law_kept : He.DefD := ⟨("_law_kept", none), "_law_kept", "_law_kept", defArgs s_law_kept, defBody s_law_kept, defScope s_law_kept, [], []⟩
def d_law_past : He.DefD := ⟨("_law_past", none), "_law_past", "_law_past", defArgs s_law_past, defBody s_law_past, defScope s_law_past, [], []⟩
def d_law_step : He.DefD := ⟨("_law_step", none), "_law_step", "_law_step", defArgs s_law_step, defBody s_law_step, defScope s_law_step, [], []⟩
def d_law_end : He.DefD := ⟨("_law_end", none), "_law_end", "_law_end", defArgs s_law_end, defBody s_law_end, defScope s_law_end, [], []⟩
def d_law_recovered : He.DefD := ⟨("_law_recovered", none), "_law_recovered", "_law_recovered", defArgs s_law_recovered, defBody s_law_recovered, defScope s_law_recovered, [], []⟩
def d_law_cut : He.DefD := ⟨("_law_cut", none), "_law_cut", "_law_cut", defArgs s_law_cut, defBody s_law_cut, defScope s_law_cut, [], []⟩
def d_law : He.DefD := ⟨("law", none), "law", "law", defArgs s_law, defBody s_law, defScope s_law, [], []⟩
def d_Stack___init__ : He.DefD := ⟨("Stack", some "__init__"), "__init__", "Stack.__init__", defArgs s_Stack___init__, defBody s_Stack___init__, defScope s_Stack___init__, [], []⟩
def d_Stack_settle : He.DefD := ⟨("Stack", some "settle"), "settle", "Stack.settle", defArgs s_Stack_settle, defBody s_Stack_settle, defScope s_Stack_settle, [], []⟩
def d_Stack_pass_on : He.DefD := ⟨("Stack", some "pass_on"), "pass_on", "Stack.pass_on", defArgs s_Stack_pass_on, defBody s_Stack_pass_on, defScope s_Stack_pass_on, [], []⟩
def d_Stack_step : He.DefD := ⟨("Stack", some "step"), "step", "Stack.step", defArgs s_Stack_step, defBody s_Stack_step, defScope s_Stack_step, [], []⟩
def d_Stack_ended : He.DefD := ⟨("Stack", some "ended"), "ended", "Stack.ended", defArgs s_Stack_ended, defBody s_Stack_ended, defScope s_Stack_ended, [], []⟩
def d_Stack_value : He.DefD := ⟨("Stack", some "value"), "value", "Stack.value", defArgs s_Stack_value, defBody s_Stack_value, defScope s_Stack_value, [], []⟩
def d_Layout___init__ : He.DefD := ⟨("Layout", some "__init__"), "__init__", "Layout.__init__", defArgs s_Layout___init__, defBody s_Layout___init__, defScope s_Layout___init__, [], []⟩
def d_Layout_epoch : He.DefD := ⟨("Layout", some "epoch"), "epoch", "Layout.epoch", defArgs s_Layout_epoch, defBody s_Layout_epoch, defScope s_Layout_epoch, [], []⟩
def d_Layout_call_slot : He.DefD := ⟨("Layout", some "call_slot"), "call_slot", "Layout.call_slot", defArgs s_Layout_call_slot, defBody s_Layout_call_slot, defScope s_Layout_call_slot, [], []⟩
def d_Layout_word : He.DefD := ⟨("Layout", some "word"), "word", "Layout.word", defArgs s_Layout_word, defBody s_Layout_word, defScope s_Layout_word, [], []⟩
def d_Layout_record : He.DefD := ⟨("Layout", some "record"), "record", "Layout.record", defArgs s_Layout_record, defBody s_Layout_record, defScope s_Layout_record, [], []⟩
def d_Layout_cells : He.DefD := ⟨("Layout", some "cells"), "cells", "Layout.cells", defArgs s_Layout_cells, defBody s_Layout_cells, defScope s_Layout_cells, [], []⟩
def d_Layout_is_lasting : He.DefD := ⟨("Layout", some "is_lasting"), "is_lasting", "Layout.is_lasting", defArgs s_Layout_is_lasting, defBody s_Layout_is_lasting, defScope s_Layout_is_lasting, [], []⟩
def d_Memory___init__ : He.DefD := ⟨("Memory", some "__init__"), "__init__", "Memory.__init__", defArgs s_Memory___init__, defBody s_Memory___init__, defScope s_Memory___init__, [], []⟩
def d_Memory_no_notes : He.DefD := ⟨("Memory", some "no_notes"), "no_notes", "Memory.no_notes", defArgs s_Memory_no_notes, defBody s_Memory_no_notes, defScope s_Memory_no_notes, [], []⟩
def d_Memory_check_cell : He.DefD := ⟨("Memory", some "check_cell"), "check_cell", "Memory.check_cell", defArgs s_Memory_check_cell, defBody s_Memory_check_cell, defScope s_Memory_check_cell, [], []⟩
def d_Memory_check_lasting : He.DefD := ⟨("Memory", some "check_lasting"), "check_lasting", "Memory.check_lasting", defArgs s_Memory_check_lasting, defBody s_Memory_check_lasting, defScope s_Memory_check_lasting, [], []⟩
def d_Memory_check_request : He.DefD := ⟨("Memory", some "check_request"), "check_request", "Memory.check_request", defArgs s_Memory_check_request, defBody s_Memory_check_request, defScope s_Memory_check_request, [], []⟩
def d_Memory_access : He.DefD := ⟨("Memory", some "access"), "access", "Memory.access", defArgs s_Memory_access, defBody s_Memory_access, defScope s_Memory_access, [], []⟩
def d_Memory_result : He.DefD := ⟨("Memory", some "result"), "result", "Memory.result", defArgs s_Memory_result, defBody s_Memory_result, defScope s_Memory_result, [], []⟩
def d_Memory_give : He.DefD := ⟨("Memory", some "give"), "give", "Memory.give", defArgs s_Memory_give, defBody s_Memory_give, defScope s_Memory_give, [], []⟩
def d_Memory_fence : He.DefD := ⟨("Memory", some "fence"), "fence", "Memory.fence", defArgs s_Memory_fence, defBody s_Memory_fence, defScope s_Memory_fence, [], []⟩
def d_Memory_shorten : He.DefD := ⟨("Memory", some "shorten"), "shorten", "Memory.shorten", defArgs s_Memory_shorten, defBody s_Memory_shorten, defScope s_Memory_shorten, [], []⟩
def d_Memory_peek : He.DefD := ⟨("Memory", some "peek"), "peek", "Memory.peek", defArgs s_Memory_peek, defBody s_Memory_peek, defScope s_Memory_peek, [], []⟩
def d_Memory_lasting : He.DefD := ⟨("Memory", some "lasting"), "lasting", "Memory.lasting", defArgs s_Memory_lasting, defBody s_Memory_lasting, defScope s_Memory_lasting, [], []⟩
def d_Memory_trail : He.DefD := ⟨("Memory", some "trail"), "trail", "Memory.trail", defArgs s_Memory_trail, defBody s_Memory_trail, defScope s_Memory_trail, [], []⟩
def d_Memory_drift : He.DefD := ⟨("Memory", some "drift"), "drift", "Memory.drift", defArgs s_Memory_drift, defBody s_Memory_drift, defScope s_Memory_drift, [], []⟩
def d_Memory_cut : He.DefD := ⟨("Memory", some "cut"), "cut", "Memory.cut", defArgs s_Memory_cut, defBody s_Memory_cut, defScope s_Memory_cut, [], []⟩
def d_Doing___init__ : He.DefD := ⟨("Doing", some "__init__"), "__init__", "Doing.__init__", defArgs s_Doing___init__, defBody s_Doing___init__, defScope s_Doing___init__, [.int 0], []⟩
def d_Doing_mark_of : He.DefD := ⟨("Doing", some "mark_of"), "mark_of", "Doing.mark_of", defArgs s_Doing_mark_of, defBody s_Doing_mark_of, defScope s_Doing_mark_of, [], []⟩
def d_Doing_request : He.DefD := ⟨("Doing", some "request"), "request", "Doing.request", defArgs s_Doing_request, defBody s_Doing_request, defScope s_Doing_request, [], []⟩
def d_Doing_accept : He.DefD := ⟨("Doing", some "accept"), "accept", "Doing.accept", defArgs s_Doing_accept, defBody s_Doing_accept, defScope s_Doing_accept, [], []⟩
def d_Doing_take_status : He.DefD := ⟨("Doing", some "take_status"), "take_status", "Doing.take_status", defArgs s_Doing_take_status, defBody s_Doing_take_status, defScope s_Doing_take_status, [], []⟩
def d_Doing_last_requests : He.DefD := ⟨("Doing", some "last_requests"), "last_requests", "Doing.last_requests", defArgs s_Doing_last_requests, defBody s_Doing_last_requests, defScope s_Doing_last_requests, [], []⟩
def d_Doing_take_word : He.DefD := ⟨("Doing", some "take_word"), "take_word", "Doing.take_word", defArgs s_Doing_take_word, defBody s_Doing_take_word, defScope s_Doing_take_word, [], []⟩
def d_Doing_take_swap : He.DefD := ⟨("Doing", some "take_swap"), "take_swap", "Doing.take_swap", defArgs s_Doing_take_swap, defBody s_Doing_take_swap, defScope s_Doing_take_swap, [], []⟩
def d_Doing_pass_entry : He.DefD := ⟨("Doing", some "pass_entry"), "pass_entry", "Doing.pass_entry", defArgs s_Doing_pass_entry, defBody s_Doing_pass_entry, defScope s_Doing_pass_entry, [], []⟩
def fn0 : List He.DefD := [d_is_within, d_is_mark, d_deed_record, d_shown_by, d_shown_now, d_law_tape, d_law_at, d_law_shown, d_law_begin, d_law_decided, d_law_kept, d_law_past, d_law_step, d_law_end, d_law_recovered, d_law_cut, d_law, d_Stack___init__, d_Stack_settle, d_Stack_pass_on]
def fn1 : List He.DefD := [d_Stack_step, d_Stack_ended, d_Stack_value, d_Layout___init__, d_Layout_epoch, d_Layout_call_slot, d_Layout_word, d_Layout_record, d_Layout_cells, d_Layout_is_lasting, d_Memory___init__, d_Memory_no_notes, d_Memory_check_cell, d_Memory_check_lasting, d_Memory_check_request, d_Memory_access, d_Memory_result, d_Memory_give, d_Memory_fence, d_Memory_shorten]
def fn2 : List He.DefD := [d_Memory_peek, d_Memory_lasting, d_Memory_trail, d_Memory_drift, d_Memory_cut, d_Doing___init__, d_Doing_mark_of, d_Doing_request, d_Doing_accept, d_Doing_take_status, d_Doing_last_requests, d_Doing_take_word, d_Doing_take_swap, d_Doing_pass_entry]
def fn : List He.DefD := fn0 ++ (fn1 ++ (fn2))
def fa0 : List He.Fa := [.glo "is_within", .glo "is_mark", .glo "deed_record", .glo "shown_by", .glo "shown_now", .glo "_law_tape", .glo "_law_at", .glo "_law_shown", .glo "_law_begin", .glo "_law_decided", .glo "_law_kept", .glo "_law_past", .glo "_law_step", .glo "_law_end", .glo "_law_recovered", .glo "_law_cut", .glo "law", .glo "Stack", .cls "Stack", .mkr "Stack"]
def fa1 : List He.Fa := [.noat "Stack" "machines", .noat "Stack" "result", .glo "Layout", .cls "Layout", .mkr "Layout", .noat "Layout" "threads", .noat "Layout" "words", .noat "Layout" "records", .glo "Memory", .cls "Memory", .mkr "Memory", .noat "Memory" "layout", .noat "Memory" "count", .noat "Memory" "rows", .noat "Memory" "trails", .noat "Memory" "notes", .glo "Doing", .cls "Doing", .mkr "Doing", .noat "Doing" "address"]
def fa2 : List He.Fa := [.noat "Doing" "without", .noat "Doing" "status", .noat "Doing" "entries", .noat "Doing" "index", .noat "Doing" "state", .noat "Doing" "helper", .noat "Doing" "verdict", .noat "Doing" "left", .meth "Stack" "settle", .meth "Stack" "pass_on", .meth "Stack" "step", .meth "Stack" "ended", .meth "Stack" "value", .meth "Layout" "epoch", .meth "Layout" "call_slot", .meth "Layout" "word", .meth "Layout" "record", .meth "Layout" "cells", .meth "Layout" "is_lasting", .meth "Memory" "no_notes"]
def fa3 : List He.Fa := [.meth "Memory" "check_cell", .meth "Memory" "check_lasting", .meth "Memory" "check_request", .meth "Memory" "access", .meth "Memory" "result", .meth "Memory" "give", .meth "Memory" "fence", .meth "Memory" "shorten", .meth "Memory" "peek", .meth "Memory" "lasting", .meth "Memory" "trail", .meth "Memory" "drift", .meth "Memory" "cut", .meth "Doing" "mark_of", .meth "Doing" "request", .meth "Doing" "accept", .meth "Doing" "take_status", .meth "Doing" "last_requests", .meth "Doing" "take_word", .meth "Doing" "take_swap"]
def fa4 : List He.Fa := [.meth "Doing" "pass_entry", .free "isinstance", .free "int", .free "bool", .free "tuple", .free "list", .free "len", .free "range", .free "max", .free "min", .free "sorted", .free "abs", .int "MOST_THREADS" 3, .int "MOST_WORDS" 4, .int "LEAST_RECORDS" 4, .int "MOST_RECORDS" 200, .int "NO_STATUS_FLUSH" 4, .int "NO_WORD_FLUSH" 5, .glo "LENGTHS"]
def fa : List He.Fa := fa0 ++ (fa1 ++ (fa2 ++ (fa3 ++ (fa4))))
def lens : List (Str × He.Dv) := [("read", .int 2), ("write", .int 3), ("swap", .int 4), ("decide", .int 3), ("flush", .int 2), ("fence", .int 1)]
def ts : List He.Tab := [(fun K => He.ga K "LENGTHS", ["read", "write", "swap", "decide", "flush", "fence"])]
def ex (K : PySem.W.Frag) : Bool := He.valsB K (He.ga K "LENGTHS") lens
/-- what the top has left -/
structure Tx (w : World) (K : PySem.W.Frag) (mg : Str → Option Value) : Prop where
  c : He.SaysT fa fn ts w K
  e : ex K = true
  h : ∃ h : Heap, K.In h ∧ h.Ns mainGlobals mg
section
variable {P : Program} {w : World} {K : PySem.W.Frag} {mg : Str → Option Value} {base : Heap}
noncomputable def Tx.hp (T : Tx w K mg) : Heap := T.h.choose
theorem Tx.X (T : Tx w K mg) : K.In T.hp := T.h.choose_spec.1
theorem Tx.G (T : Tx w K mg) : T.hp.Ns mainGlobals mg := T.h.choose_spec.2
theorem Tx.fact (T : Tx w K mg) (i : Nat) {f : He.Fa} (h : fa[i]? = some f) : f.ok K = true := T.c.d.fact i h
theorem Tx.g_is_within (T : Tx w K mg) : mg "is_within" = some (.ref (He.ga K "is_within")) := He.glo_ok T.X T.G (T.fact 0 rfl)
theorem Tx.g_is_mark (T : Tx w K mg) : mg "is_mark" = some (.ref (He.ga K "is_mark")) := He.glo_ok T.X T.G (T.fact 1 rfl)
theorem Tx.g_deed_record (T : Tx w K mg) : mg "deed_record" = some (.ref (He.ga K "deed_record")) := He.glo_ok T.X T.G (T.fact 2 rfl)
theorem Tx.g_shown_by (T : Tx w K mg) : mg "shown_by" = some (.ref (He.ga K "shown_by")) := He.glo_ok T.X T.G (T.fact 3 rfl)
theorem Tx.g_shown_now (T : Tx w K mg) : mg "shown_now" = some (.ref (He.ga K "shown_now")) := He.glo_ok T.X T.G (T.fact 4 rfl)
theorem Tx.g_law_tape (T : Tx w K mg) : mg "_law_tape" = some (.ref (He.ga K "_law_tape")) := He.glo_ok T.X T.G (T.fact 5 rfl)
theorem Tx.g_law_at (T : Tx w K mg) : mg "_law_at" = some (.ref (He.ga K "_law_at")) := He.glo_ok T.X T.G (T.fact 6 rfl)
theorem Tx.g_law_shown (T : Tx w K mg) : mg "_law_shown" = some (.ref (He.ga K "_law_shown")) := He.glo_ok T.X T.G (T.fact 7 rfl)
theorem Tx.g_law_begin (T : Tx w K mg) : mg "_law_begin" = some (.ref (He.ga K "_law_begin")) := He.glo_ok T.X T.G (T.fact 8 rfl)
theorem Tx.g_law_decided (T : Tx w K mg) : mg "_law_decided" = some (.ref (He.ga K "_law_decided")) := He.glo_ok T.X T.G (T.fact 9 rfl)
theorem Tx.g_law_kept (T : Tx w K mg) : mg "_law_kept" = some (.ref (He.ga K "_law_kept")) := He.glo_ok T.X T.G (T.fact 10 rfl)
theorem Tx.g_law_past (T : Tx w K mg) : mg "_law_past" = some (.ref (He.ga K "_law_past")) := He.glo_ok T.X T.G (T.fact 11 rfl)
theorem Tx.g_law_step (T : Tx w K mg) : mg "_law_step" = some (.ref (He.ga K "_law_step")) := He.glo_ok T.X T.G (T.fact 12 rfl)
theorem Tx.g_law_end (T : Tx w K mg) : mg "_law_end" = some (.ref (He.ga K "_law_end")) := He.glo_ok T.X T.G (T.fact 13 rfl)
theorem Tx.g_law_recovered (T : Tx w K mg) : mg "_law_recovered" = some (.ref (He.ga K "_law_recovered")) := He.glo_ok T.X T.G (T.fact 14 rfl)
theorem Tx.g_law_cut (T : Tx w K mg) : mg "_law_cut" = some (.ref (He.ga K "_law_cut")) := He.glo_ok T.X T.G (T.fact 15 rfl)
theorem Tx.g_law (T : Tx w K mg) : mg "law" = some (.ref (He.ga K "law")) := He.glo_ok T.X T.G (T.fact 16 rfl)
theorem Tx.g_Stack (T : Tx w K mg) : mg "Stack" = some (.ref (He.ga K "Stack")) := He.glo_ok T.X T.G (T.fact 17 rfl)
theorem Tx.c_Stack (T : Tx w K mg) : Cls K (He.ga K "Stack") := He.cls_ok (T.fact 18 rfl)
theorem Tx.k_Stack (T : Tx w K mg) : Mk K (He.ga K "Stack") (He.ma K (He.ga K "Stack") "__init__") := He.mkr_ok (T.fact 19 rfl)
theorem Tx.n_Stack_machines (T : Tx w K mg) : NoAttr K (He.ga K "Stack") "machines" := He.noat_ok (T.fact 20 rfl)
theorem Tx.n_Stack_result (T : Tx w K mg) : NoAttr K (He.ga K "Stack") "result" := He.noat_ok (T.fact 21 rfl)
theorem Tx.g_Layout (T : Tx w K mg) : mg "Layout" = some (.ref (He.ga K "Layout")) := He.glo_ok T.X T.G (T.fact 22 rfl)
theorem Tx.c_Layout (T : Tx w K mg) : Cls K (He.ga K "Layout") := He.cls_ok (T.fact 23 rfl)
theorem Tx.k_Layout (T : Tx w K mg) : Mk K (He.ga K "Layout") (He.ma K (He.ga K "Layout") "__init__") := He.mkr_ok (T.fact 24 rfl)
theorem Tx.n_Layout_threads (T : Tx w K mg) : NoAttr K (He.ga K "Layout") "threads" := He.noat_ok (T.fact 25 rfl)
theorem Tx.n_Layout_words (T : Tx w K mg) : NoAttr K (He.ga K "Layout") "words" := He.noat_ok (T.fact 26 rfl)
theorem Tx.n_Layout_records (T : Tx w K mg) : NoAttr K (He.ga K "Layout") "records" := He.noat_ok (T.fact 27 rfl)
theorem Tx.g_Memory (T : Tx w K mg) : mg "Memory" = some (.ref (He.ga K "Memory")) := He.glo_ok T.X T.G (T.fact 28 rfl)
theorem Tx.c_Memory (T : Tx w K mg) : Cls K (He.ga K "Memory") := He.cls_ok (T.fact 29 rfl)
theorem Tx.k_Memory (T : Tx w K mg) : Mk K (He.ga K "Memory") (He.ma K (He.ga K "Memory") "__init__") := He.mkr_ok (T.fact 30 rfl)
theorem Tx.n_Memory_layout (T : Tx w K mg) : NoAttr K (He.ga K "Memory") "layout" := He.noat_ok (T.fact 31 rfl)
theorem Tx.n_Memory_count (T : Tx w K mg) : NoAttr K (He.ga K "Memory") "count" := He.noat_ok (T.fact 32 rfl)
theorem Tx.n_Memory_rows (T : Tx w K mg) : NoAttr K (He.ga K "Memory") "rows" := He.noat_ok (T.fact 33 rfl)
theorem Tx.n_Memory_trails (T : Tx w K mg) : NoAttr K (He.ga K "Memory") "trails" := He.noat_ok (T.fact 34 rfl)
theorem Tx.n_Memory_notes (T : Tx w K mg) : NoAttr K (He.ga K "Memory") "notes" := He.noat_ok (T.fact 35 rfl)
theorem Tx.g_Doing (T : Tx w K mg) : mg "Doing" = some (.ref (He.ga K "Doing")) := He.glo_ok T.X T.G (T.fact 36 rfl)
theorem Tx.c_Doing (T : Tx w K mg) : Cls K (He.ga K "Doing") := He.cls_ok (T.fact 37 rfl)
theorem Tx.k_Doing (T : Tx w K mg) : Mk K (He.ga K "Doing") (He.ma K (He.ga K "Doing") "__init__") := He.mkr_ok (T.fact 38 rfl)
theorem Tx.n_Doing_address (T : Tx w K mg) : NoAttr K (He.ga K "Doing") "address" := He.noat_ok (T.fact 39 rfl)
theorem Tx.n_Doing_without (T : Tx w K mg) : NoAttr K (He.ga K "Doing") "without" := He.noat_ok (T.fact 40 rfl)
theorem Tx.n_Doing_status (T : Tx w K mg) : NoAttr K (He.ga K "Doing") "status" := He.noat_ok (T.fact 41 rfl)
theorem Tx.n_Doing_entries (T : Tx w K mg) : NoAttr K (He.ga K "Doing") "entries" := He.noat_ok (T.fact 42 rfl)
theorem Tx.n_Doing_index (T : Tx w K mg) : NoAttr K (He.ga K "Doing") "index" := He.noat_ok (T.fact 43 rfl)
theorem Tx.n_Doing_state (T : Tx w K mg) : NoAttr K (He.ga K "Doing") "state" := He.noat_ok (T.fact 44 rfl)
theorem Tx.n_Doing_helper (T : Tx w K mg) : NoAttr K (He.ga K "Doing") "helper" := He.noat_ok (T.fact 45 rfl)
theorem Tx.n_Doing_verdict (T : Tx w K mg) : NoAttr K (He.ga K "Doing") "verdict" := He.noat_ok (T.fact 46 rfl)
theorem Tx.n_Doing_left (T : Tx w K mg) : NoAttr K (He.ga K "Doing") "left" := He.noat_ok (T.fact 47 rfl)
theorem Tx.m_Stack_settle (T : Tx w K mg) : Meth K (He.ga K "Stack") "settle" (He.ma K (He.ga K "Stack") "settle") := He.meth_ok (T.fact 48 rfl)
theorem Tx.m_Stack_pass_on (T : Tx w K mg) : Meth K (He.ga K "Stack") "pass_on" (He.ma K (He.ga K "Stack") "pass_on") := He.meth_ok (T.fact 49 rfl)
theorem Tx.m_Stack_step (T : Tx w K mg) : Meth K (He.ga K "Stack") "step" (He.ma K (He.ga K "Stack") "step") := He.meth_ok (T.fact 50 rfl)
theorem Tx.m_Stack_ended (T : Tx w K mg) : Meth K (He.ga K "Stack") "ended" (He.ma K (He.ga K "Stack") "ended") := He.meth_ok (T.fact 51 rfl)
theorem Tx.m_Stack_value (T : Tx w K mg) : Meth K (He.ga K "Stack") "value" (He.ma K (He.ga K "Stack") "value") := He.meth_ok (T.fact 52 rfl)
theorem Tx.m_Layout_epoch (T : Tx w K mg) : Meth K (He.ga K "Layout") "epoch" (He.ma K (He.ga K "Layout") "epoch") := He.meth_ok (T.fact 53 rfl)
theorem Tx.m_Layout_call_slot (T : Tx w K mg) : Meth K (He.ga K "Layout") "call_slot" (He.ma K (He.ga K "Layout") "call_slot") := He.meth_ok (T.fact 54 rfl)
theorem Tx.m_Layout_word (T : Tx w K mg) : Meth K (He.ga K "Layout") "word" (He.ma K (He.ga K "Layout") "word") := He.meth_ok (T.fact 55 rfl)
theorem Tx.m_Layout_record (T : Tx w K mg) : Meth K (He.ga K "Layout") "record" (He.ma K (He.ga K "Layout") "record") := He.meth_ok (T.fact 56 rfl)
theorem Tx.m_Layout_cells (T : Tx w K mg) : Meth K (He.ga K "Layout") "cells" (He.ma K (He.ga K "Layout") "cells") := He.meth_ok (T.fact 57 rfl)
theorem Tx.m_Layout_is_lasting (T : Tx w K mg) : Meth K (He.ga K "Layout") "is_lasting" (He.ma K (He.ga K "Layout") "is_lasting") := He.meth_ok (T.fact 58 rfl)
theorem Tx.m_Memory_no_notes (T : Tx w K mg) : Meth K (He.ga K "Memory") "no_notes" (He.ma K (He.ga K "Memory") "no_notes") := He.meth_ok (T.fact 59 rfl)
theorem Tx.m_Memory_check_cell (T : Tx w K mg) : Meth K (He.ga K "Memory") "check_cell" (He.ma K (He.ga K "Memory") "check_cell") := He.meth_ok (T.fact 60 rfl)
theorem Tx.m_Memory_check_lasting (T : Tx w K mg) : Meth K (He.ga K "Memory") "check_lasting" (He.ma K (He.ga K "Memory") "check_lasting") := He.meth_ok (T.fact 61 rfl)
theorem Tx.m_Memory_check_request (T : Tx w K mg) : Meth K (He.ga K "Memory") "check_request" (He.ma K (He.ga K "Memory") "check_request") := He.meth_ok (T.fact 62 rfl)
theorem Tx.m_Memory_access (T : Tx w K mg) : Meth K (He.ga K "Memory") "access" (He.ma K (He.ga K "Memory") "access") := He.meth_ok (T.fact 63 rfl)
theorem Tx.m_Memory_result (T : Tx w K mg) : Meth K (He.ga K "Memory") "result" (He.ma K (He.ga K "Memory") "result") := He.meth_ok (T.fact 64 rfl)
theorem Tx.m_Memory_give (T : Tx w K mg) : Meth K (He.ga K "Memory") "give" (He.ma K (He.ga K "Memory") "give") := He.meth_ok (T.fact 65 rfl)
theorem Tx.m_Memory_fence (T : Tx w K mg) : Meth K (He.ga K "Memory") "fence" (He.ma K (He.ga K "Memory") "fence") := He.meth_ok (T.fact 66 rfl)
theorem Tx.m_Memory_shorten (T : Tx w K mg) : Meth K (He.ga K "Memory") "shorten" (He.ma K (He.ga K "Memory") "shorten") := He.meth_ok (T.fact 67 rfl)
theorem Tx.m_Memory_peek (T : Tx w K mg) : Meth K (He.ga K "Memory") "peek" (He.ma K (He.ga K "Memory") "peek") := He.meth_ok (T.fact 68 rfl)
theorem Tx.m_Memory_lasting (T : Tx w K mg) : Meth K (He.ga K "Memory") "lasting" (He.ma K (He.ga K "Memory") "lasting") := He.meth_ok (T.fact 69 rfl)
theorem Tx.m_Memory_trail (T : Tx w K mg) : Meth K (He.ga K "Memory") "trail" (He.ma K (He.ga K "Memory") "trail") := He.meth_ok (T.fact 70 rfl)
theorem Tx.m_Memory_drift (T : Tx w K mg) : Meth K (He.ga K "Memory") "drift" (He.ma K (He.ga K "Memory") "drift") := He.meth_ok (T.fact 71 rfl)
theorem Tx.m_Memory_cut (T : Tx w K mg) : Meth K (He.ga K "Memory") "cut" (He.ma K (He.ga K "Memory") "cut") := He.meth_ok (T.fact 72 rfl)
theorem Tx.m_Doing_mark_of (T : Tx w K mg) : Meth K (He.ga K "Doing") "mark_of" (He.ma K (He.ga K "Doing") "mark_of") := He.meth_ok (T.fact 73 rfl)
theorem Tx.m_Doing_request (T : Tx w K mg) : Meth K (He.ga K "Doing") "request" (He.ma K (He.ga K "Doing") "request") := He.meth_ok (T.fact 74 rfl)
theorem Tx.m_Doing_accept (T : Tx w K mg) : Meth K (He.ga K "Doing") "accept" (He.ma K (He.ga K "Doing") "accept") := He.meth_ok (T.fact 75 rfl)
theorem Tx.m_Doing_take_status (T : Tx w K mg) : Meth K (He.ga K "Doing") "take_status" (He.ma K (He.ga K "Doing") "take_status") := He.meth_ok (T.fact 76 rfl)
theorem Tx.m_Doing_last_requests (T : Tx w K mg) : Meth K (He.ga K "Doing") "last_requests" (He.ma K (He.ga K "Doing") "last_requests") := He.meth_ok (T.fact 77 rfl)
theorem Tx.m_Doing_take_word (T : Tx w K mg) : Meth K (He.ga K "Doing") "take_word" (He.ma K (He.ga K "Doing") "take_word") := He.meth_ok (T.fact 78 rfl)
theorem Tx.m_Doing_take_swap (T : Tx w K mg) : Meth K (He.ga K "Doing") "take_swap" (He.ma K (He.ga K "Doing") "take_swap") := He.meth_ok (T.fact 79 rfl)
theorem Tx.m_Doing_pass_entry (T : Tx w K mg) : Meth K (He.ga K "Doing") "pass_entry" (He.ma K (He.ga K "Doing") "pass_entry") := He.meth_ok (T.fact 80 rfl)
theorem Tx.f_isinstance (T : Tx w K mg) : mg "isinstance" = none := He.free_ok T.X T.G (T.fact 81 rfl)
theorem Tx.f_int (T : Tx w K mg) : mg "int" = none := He.free_ok T.X T.G (T.fact 82 rfl)
theorem Tx.f_bool (T : Tx w K mg) : mg "bool" = none := He.free_ok T.X T.G (T.fact 83 rfl)
theorem Tx.f_tuple (T : Tx w K mg) : mg "tuple" = none := He.free_ok T.X T.G (T.fact 84 rfl)
theorem Tx.f_list (T : Tx w K mg) : mg "list" = none := He.free_ok T.X T.G (T.fact 85 rfl)
theorem Tx.f_len (T : Tx w K mg) : mg "len" = none := He.free_ok T.X T.G (T.fact 86 rfl)
theorem Tx.f_range (T : Tx w K mg) : mg "range" = none := He.free_ok T.X T.G (T.fact 87 rfl)
theorem Tx.f_max (T : Tx w K mg) : mg "max" = none := He.free_ok T.X T.G (T.fact 88 rfl)
theorem Tx.f_min (T : Tx w K mg) : mg "min" = none := He.free_ok T.X T.G (T.fact 89 rfl)
theorem Tx.f_sorted (T : Tx w K mg) : mg "sorted" = none := He.free_ok T.X T.G (T.fact 90 rfl)
theorem Tx.f_abs (T : Tx w K mg) : mg "abs" = none := He.free_ok T.X T.G (T.fact 91 rfl)
theorem Tx.i_MOST_THREADS (T : Tx w K mg) : ∃ t, mg "MOST_THREADS" = some (.int 3 t) := He.int_ok T.X T.G (T.fact 92 rfl)
theorem Tx.i_MOST_WORDS (T : Tx w K mg) : ∃ t, mg "MOST_WORDS" = some (.int 4 t) := He.int_ok T.X T.G (T.fact 93 rfl)
theorem Tx.i_LEAST_RECORDS (T : Tx w K mg) : ∃ t, mg "LEAST_RECORDS" = some (.int 4 t) := He.int_ok T.X T.G (T.fact 94 rfl)
theorem Tx.i_MOST_RECORDS (T : Tx w K mg) : ∃ t, mg "MOST_RECORDS" = some (.int 200 t) := He.int_ok T.X T.G (T.fact 95 rfl)
theorem Tx.i_NO_STATUS_FLUSH (T : Tx w K mg) : ∃ t, mg "NO_STATUS_FLUSH" = some (.int 4 t) := He.int_ok T.X T.G (T.fact 96 rfl)
theorem Tx.i_NO_WORD_FLUSH (T : Tx w K mg) : ∃ t, mg "NO_WORD_FLUSH" = some (.int 5 t) := He.int_ok T.X T.G (T.fact 97 rfl)
theorem Tx.g_LENGTHS (T : Tx w K mg) : mg "LENGTHS" = some (.ref (He.ga K "LENGTHS")) := He.glo_ok T.X T.G (T.fact 98 rfl)
/-- a def that is called by positional values -/
structure Cal (P : Program) (w : World) (K : PySem.W.Frag) (mg : Str → Option Value) (base : Heap) (k : Nat) (f : Addr) (ps : List Str) (sp : Sp) : Prop where
  ex : ∃ fd, FnOk P w K mg base CX0 k f fd ps sp ∧ Binds K fd ps [] ∧ PySem.W.keepIn K (.ref f) = true
theorem Tx.F_is_within (T : Tx w K mg) : ∃ fd, FunD K d_is_within.name d_is_within.qual d_is_within.params d_is_within.body d_is_within.scope [] [] (He.fAd K d_is_within.at_) fd := T.c.d.def_ 0 rfl
theorem Tx.F_is_mark (T : Tx w K mg) : ∃ fd, FunD K d_is_mark.name d_is_mark.qual d_is_mark.params d_is_mark.body d_is_mark.scope [] [] (He.fAd K d_is_mark.at_) fd := T.c.d.def_ 1 rfl
theorem Tx.F_deed_record (T : Tx w K mg) : ∃ fd, FunD K d_deed_record.name d_deed_record.qual d_deed_record.params d_deed_record.body d_deed_record.scope [] [] (He.fAd K d_deed_record.at_) fd := T.c.d.def_ 2 rfl
theorem Tx.F_shown_by (T : Tx w K mg) : ∃ fd, FunD K d_shown_by.name d_shown_by.qual d_shown_by.params d_shown_by.body d_shown_by.scope [] [] (He.fAd K d_shown_by.at_) fd := T.c.d.def_ 3 rfl
theorem Tx.F_shown_now (T : Tx w K mg) : ∃ fd, FunD K d_shown_now.name d_shown_now.qual d_shown_now.params d_shown_now.body d_shown_now.scope [] [] (He.fAd K d_shown_now.at_) fd := T.c.d.def_ 4 rfl
theorem Tx.F_law_tape (T : Tx w K mg) : ∃ fd, FunD K d_law_tape.name d_law_tape.qual d_law_tape.params d_law_tape.body d_law_tape.scope [] [] (He.fAd K d_law_tape.at_) fd := T.c.d.def_ 5 rfl
theorem Tx.F_law_at (T : Tx w K mg) : ∃ fd, FunD K d_law_at.name d_law_at.qual d_law_at.params d_law_at.body d_law_at.scope [] [] (He.fAd K d_law_at.at_) fd := T.c.d.def_ 6 rfl
theorem Tx.F_law_shown (T : Tx w K mg) : ∃ fd, FunD K d_law_shown.name d_law_shown.qual d_law_shown.params d_law_shown.body d_law_shown.scope [] [] (He.fAd K d_law_shown.at_) fd := T.c.d.def_ 7 rfl
theorem Tx.F_law_begin (T : Tx w K mg) : ∃ fd, FunD K d_law_begin.name d_law_begin.qual d_law_begin.params d_law_begin.body d_law_begin.scope [] [] (He.fAd K d_law_begin.at_) fd := T.c.d.def_ 8 rfl
theorem Tx.F_law_decided (T : Tx w K mg) : ∃ fd, FunD K d_law_decided.name d_law_decided.qual d_law_decided.params d_law_decided.body d_law_decided.scope [] [] (He.fAd K d_law_decided.at_) fd := T.c.d.def_ 9 rfl
theorem Tx.F_law_kept (T : Tx w K mg) : ∃ fd, FunD K d_law_kept.name d_law_kept.qual d_law_kept.params d_law_kept.body d_law_kept.scope [] [] (He.fAd K d_law_kept.at_) fd := T.c.d.def_ 10 rfl
theorem Tx.F_law_past (T : Tx w K mg) : ∃ fd, FunD K d_law_past.name d_law_past.qual d_law_past.params d_law_past.body d_law_past.scope [] [] (He.fAd K d_law_past.at_) fd := T.c.d.def_ 11 rfl
theorem Tx.F_law_step (T : Tx w K mg) : ∃ fd, FunD K d_law_step.name d_law_step.qual d_law_step.params d_law_step.body d_law_step.scope [] [] (He.fAd K d_law_step.at_) fd := T.c.d.def_ 12 rfl
theorem Tx.F_law_end (T : Tx w K mg) : ∃ fd, FunD K d_law_end.name d_law_end.qual d_law_end.params d_law_end.body d_law_end.scope [] [] (He.fAd K d_law_end.at_) fd := T.c.d.def_ 13 rfl
theorem Tx.F_law_recovered (T : Tx w K mg) : ∃ fd, FunD K d_law_recovered.name d_law_recovered.qual d_law_recovered.params d_law_recovered.body d_law_recovered.scope [] [] (He.fAd K d_law_recovered.at_) fd := T.c.d.def_ 14 rfl
theorem Tx.F_law_cut (T : Tx w K mg) : ∃ fd, FunD K d_law_cut.name d_law_cut.qual d_law_cut.params d_law_cut.body d_law_cut.scope [] [] (He.fAd K d_law_cut.at_) fd := T.c.d.def_ 15 rfl
theorem Tx.F_law (T : Tx w K mg) : ∃ fd, FunD K d_law.name d_law.qual d_law.params d_law.body d_law.scope [] [] (He.fAd K d_law.at_) fd := T.c.d.def_ 16 rfl
theorem Tx.F_Stack___init__ (T : Tx w K mg) : ∃ fd, FunD K d_Stack___init__.name d_Stack___init__.qual d_Stack___init__.params d_Stack___init__.body d_Stack___init__.scope [] [] (He.fAd K d_Stack___init__.at_) fd := T.c.d.def_ 17 rfl
theorem Tx.F_Stack_settle (T : Tx w K mg) : ∃ fd, FunD K d_Stack_settle.name d_Stack_settle.qual d_Stack_settle.params d_Stack_settle.body d_Stack_settle.scope [] [] (He.fAd K d_Stack_settle.at_) fd := T.c.d.def_ 18 rfl
theorem Tx.F_Stack_pass_on (T : Tx w K mg) : ∃ fd, FunD K d_Stack_pass_on.name d_Stack_pass_on.qual d_Stack_pass_on.params d_Stack_pass_on.body d_Stack_pass_on.scope [] [] (He.fAd K d_Stack_pass_on.at_) fd := T.c.d.def_ 19 rfl
theorem Tx.F_Stack_step (T : Tx w K mg) : ∃ fd, FunD K d_Stack_step.name d_Stack_step.qual d_Stack_step.params d_Stack_step.body d_Stack_step.scope [] [] (He.fAd K d_Stack_step.at_) fd := T.c.d.def_ 20 rfl
theorem Tx.F_Stack_ended (T : Tx w K mg) : ∃ fd, FunD K d_Stack_ended.name d_Stack_ended.qual d_Stack_ended.params d_Stack_ended.body d_Stack_ended.scope [] [] (He.fAd K d_Stack_ended.at_) fd := T.c.d.def_ 21 rfl
theorem Tx.F_Stack_value (T : Tx w K mg) : ∃ fd, FunD K d_Stack_value.name d_Stack_value.qual d_Stack_value.params d_Stack_value.body d_Stack_value.scope [] [] (He.fAd K d_Stack_value.at_) fd := T.c.d.def_ 22 rfl
theorem Tx.F_Layout___init__ (T : Tx w K mg) : ∃ fd, FunD K d_Layout___init__.name d_Layout___init__.qual d_Layout___init__.params d_Layout___init__.body d_Layout___init__.scope [] [] (He.fAd K d_Layout___init__.at_) fd := T.c.d.def_ 23 rfl
theorem Tx.F_Layout_epoch (T : Tx w K mg) : ∃ fd, FunD K d_Layout_epoch.name d_Layout_epoch.qual d_Layout_epoch.params d_Layout_epoch.body d_Layout_epoch.scope [] [] (He.fAd K d_Layout_epoch.at_) fd := T.c.d.def_ 24 rfl
theorem Tx.F_Layout_call_slot (T : Tx w K mg) : ∃ fd, FunD K d_Layout_call_slot.name d_Layout_call_slot.qual d_Layout_call_slot.params d_Layout_call_slot.body d_Layout_call_slot.scope [] [] (He.fAd K d_Layout_call_slot.at_) fd := T.c.d.def_ 25 rfl
theorem Tx.F_Layout_word (T : Tx w K mg) : ∃ fd, FunD K d_Layout_word.name d_Layout_word.qual d_Layout_word.params d_Layout_word.body d_Layout_word.scope [] [] (He.fAd K d_Layout_word.at_) fd := T.c.d.def_ 26 rfl
theorem Tx.F_Layout_record (T : Tx w K mg) : ∃ fd, FunD K d_Layout_record.name d_Layout_record.qual d_Layout_record.params d_Layout_record.body d_Layout_record.scope [] [] (He.fAd K d_Layout_record.at_) fd := T.c.d.def_ 27 rfl
theorem Tx.F_Layout_cells (T : Tx w K mg) : ∃ fd, FunD K d_Layout_cells.name d_Layout_cells.qual d_Layout_cells.params d_Layout_cells.body d_Layout_cells.scope [] [] (He.fAd K d_Layout_cells.at_) fd := T.c.d.def_ 28 rfl
theorem Tx.F_Layout_is_lasting (T : Tx w K mg) : ∃ fd, FunD K d_Layout_is_lasting.name d_Layout_is_lasting.qual d_Layout_is_lasting.params d_Layout_is_lasting.body d_Layout_is_lasting.scope [] [] (He.fAd K d_Layout_is_lasting.at_) fd := T.c.d.def_ 29 rfl
theorem Tx.F_Memory___init__ (T : Tx w K mg) : ∃ fd, FunD K d_Memory___init__.name d_Memory___init__.qual d_Memory___init__.params d_Memory___init__.body d_Memory___init__.scope [] [] (He.fAd K d_Memory___init__.at_) fd := T.c.d.def_ 30 rfl
theorem Tx.F_Memory_no_notes (T : Tx w K mg) : ∃ fd, FunD K d_Memory_no_notes.name d_Memory_no_notes.qual d_Memory_no_notes.params d_Memory_no_notes.body d_Memory_no_notes.scope [] [] (He.fAd K d_Memory_no_notes.at_) fd := T.c.d.def_ 31 rfl
theorem Tx.F_Memory_check_cell (T : Tx w K mg) : ∃ fd, FunD K d_Memory_check_cell.name d_Memory_check_cell.qual d_Memory_check_cell.params d_Memory_check_cell.body d_Memory_check_cell.scope [] [] (He.fAd K d_Memory_check_cell.at_) fd := T.c.d.def_ 32 rfl
theorem Tx.F_Memory_check_lasting (T : Tx w K mg) : ∃ fd, FunD K d_Memory_check_lasting.name d_Memory_check_lasting.qual d_Memory_check_lasting.params d_Memory_check_lasting.body d_Memory_check_lasting.scope [] [] (He.fAd K d_Memory_check_lasting.at_) fd := T.c.d.def_ 33 rfl
theorem Tx.F_Memory_check_request (T : Tx w K mg) : ∃ fd, FunD K d_Memory_check_request.name d_Memory_check_request.qual d_Memory_check_request.params d_Memory_check_request.body d_Memory_check_request.scope [] [] (He.fAd K d_Memory_check_request.at_) fd := T.c.d.def_ 34 rfl
theorem Tx.F_Memory_access (T : Tx w K mg) : ∃ fd, FunD K d_Memory_access.name d_Memory_access.qual d_Memory_access.params d_Memory_access.body d_Memory_access.scope [] [] (He.fAd K d_Memory_access.at_) fd := T.c.d.def_ 35 rfl
theorem Tx.F_Memory_result (T : Tx w K mg) : ∃ fd, FunD K d_Memory_result.name d_Memory_result.qual d_Memory_result.params d_Memory_result.body d_Memory_result.scope [] [] (He.fAd K d_Memory_result.at_) fd := T.c.d.def_ 36 rfl
theorem Tx.F_Memory_give (T : Tx w K mg) : ∃ fd, FunD K d_Memory_give.name d_Memory_give.qual d_Memory_give.params d_Memory_give.body d_Memory_give.scope [] [] (He.fAd K d_Memory_give.at_) fd := T.c.d.def_ 37 rfl
theorem Tx.F_Memory_fence (T : Tx w K mg) : ∃ fd, FunD K d_Memory_fence.name d_Memory_fence.qual d_Memory_fence.params d_Memory_fence.body d_Memory_fence.scope [] [] (He.fAd K d_Memory_fence.at_) fd := T.c.d.def_ 38 rfl
theorem Tx.F_Memory_shorten (T : Tx w K mg) : ∃ fd, FunD K d_Memory_shorten.name d_Memory_shorten.qual d_Memory_shorten.params d_Memory_shorten.body d_Memory_shorten.scope [] [] (He.fAd K d_Memory_shorten.at_) fd := T.c.d.def_ 39 rfl
theorem Tx.F_Memory_peek (T : Tx w K mg) : ∃ fd, FunD K d_Memory_peek.name d_Memory_peek.qual d_Memory_peek.params d_Memory_peek.body d_Memory_peek.scope [] [] (He.fAd K d_Memory_peek.at_) fd := T.c.d.def_ 40 rfl
theorem Tx.F_Memory_lasting (T : Tx w K mg) : ∃ fd, FunD K d_Memory_lasting.name d_Memory_lasting.qual d_Memory_lasting.params d_Memory_lasting.body d_Memory_lasting.scope [] [] (He.fAd K d_Memory_lasting.at_) fd := T.c.d.def_ 41 rfl
theorem Tx.F_Memory_trail (T : Tx w K mg) : ∃ fd, FunD K d_Memory_trail.name d_Memory_trail.qual d_Memory_trail.params d_Memory_trail.body d_Memory_trail.scope [] [] (He.fAd K d_Memory_trail.at_) fd := T.c.d.def_ 42 rfl
theorem Tx.F_Memory_drift (T : Tx w K mg) : ∃ fd, FunD K d_Memory_drift.name d_Memory_drift.qual d_Memory_drift.params d_Memory_drift.body d_Memory_drift.scope [] [] (He.fAd K d_Memory_drift.at_) fd := T.c.d.def_ 43 rfl
theorem Tx.F_Memory_cut (T : Tx w K mg) : ∃ fd, FunD K d_Memory_cut.name d_Memory_cut.qual d_Memory_cut.params d_Memory_cut.body d_Memory_cut.scope [] [] (He.fAd K d_Memory_cut.at_) fd := T.c.d.def_ 44 rfl
theorem Tx.F_Doing___init__ (T : Tx w K mg) : ∃ fd, FunD K d_Doing___init__.name d_Doing___init__.qual d_Doing___init__.params d_Doing___init__.body d_Doing___init__.scope (d_Doing___init__.dvs K) (d_Doing___init__.kws K) (He.fAd K d_Doing___init__.at_) fd := T.c.d.def_ 45 rfl
theorem Tx.F_Doing_mark_of (T : Tx w K mg) : ∃ fd, FunD K d_Doing_mark_of.name d_Doing_mark_of.qual d_Doing_mark_of.params d_Doing_mark_of.body d_Doing_mark_of.scope [] [] (He.fAd K d_Doing_mark_of.at_) fd := T.c.d.def_ 46 rfl
theorem Tx.F_Doing_request (T : Tx w K mg) : ∃ fd, FunD K d_Doing_request.name d_Doing_request.qual d_Doing_request.params d_Doing_request.body d_Doing_request.scope [] [] (He.fAd K d_Doing_request.at_) fd := T.c.d.def_ 47 rfl
theorem Tx.F_Doing_accept (T : Tx w K mg) : ∃ fd, FunD K d_Doing_accept.name d_Doing_accept.qual d_Doing_accept.params d_Doing_accept.body d_Doing_accept.scope [] [] (He.fAd K d_Doing_accept.at_) fd := T.c.d.def_ 48 rfl
theorem Tx.F_Doing_take_status (T : Tx w K mg) : ∃ fd, FunD K d_Doing_take_status.name d_Doing_take_status.qual d_Doing_take_status.params d_Doing_take_status.body d_Doing_take_status.scope [] [] (He.fAd K d_Doing_take_status.at_) fd := T.c.d.def_ 49 rfl
theorem Tx.F_Doing_last_requests (T : Tx w K mg) : ∃ fd, FunD K d_Doing_last_requests.name d_Doing_last_requests.qual d_Doing_last_requests.params d_Doing_last_requests.body d_Doing_last_requests.scope [] [] (He.fAd K d_Doing_last_requests.at_) fd := T.c.d.def_ 50 rfl
theorem Tx.F_Doing_take_word (T : Tx w K mg) : ∃ fd, FunD K d_Doing_take_word.name d_Doing_take_word.qual d_Doing_take_word.params d_Doing_take_word.body d_Doing_take_word.scope [] [] (He.fAd K d_Doing_take_word.at_) fd := T.c.d.def_ 51 rfl
theorem Tx.F_Doing_take_swap (T : Tx w K mg) : ∃ fd, FunD K d_Doing_take_swap.name d_Doing_take_swap.qual d_Doing_take_swap.params d_Doing_take_swap.body d_Doing_take_swap.scope [] [] (He.fAd K d_Doing_take_swap.at_) fd := T.c.d.def_ 52 rfl
theorem Tx.F_Doing_pass_entry (T : Tx w K mg) : ∃ fd, FunD K d_Doing_pass_entry.name d_Doing_pass_entry.qual d_Doing_pass_entry.params d_Doing_pass_entry.body d_Doing_pass_entry.scope [] [] (He.fAd K d_Doing_pass_entry.at_) fd := T.c.d.def_ 53 rfl
end
end Dk

set_option linter.all false
set_option maxHeartbeats 1000000
namespace DkM
/-! ### values of trails, memory -/
inductive TV where
  | non | bl (b : Bool) | int (i : Int) | don (t : Int) | fai (t : Int) | mark (a s o n : Int)
  | deed (s : Int) (es : List (Int × Int × Int)) (th nu : Int) | items
  deriving DecidableEq
def isDon : TV → Bool
  | .don _ => true
  | _ => false
structure Mem where
  cnt : Int
  tr : Int → List TV
  nt : Int → Int → Option Int
def upC {α : Type} (f : Int → α) (c : Int) (v : α) : Int → α := fun x => if x = c then v else f x
theorem upC_same {α : Type} {f : Int → α} {c : Int} {v : α} : upC f c v c = v := by unfold upC; rw [if_pos rfl]
theorem upC_ne {α : Type} {f : Int → α} {c x : Int} {v : α} (h : x ≠ c) : upC f c v x = f x := by unfold upC; rw [if_neg h]
def lastD (l : List TV) : TV := l.getLastD .non
def Mem.last (m : Mem) (c : Int) : TV := lastD (m.tr c)
def Mem.fst (m : Mem) (c : Int) : TV := (m.tr c).headD .non
theorem lastD_app (l : List TV) (v : TV) : lastD (l ++ [v]) = v := by
  unfold lastD; simp
theorem lastD_drop {l : List TV} {s : Nat} (h : s < l.length) : lastD (l.drop s) = lastD l := by
  unfold lastD
  rw [List.getLastD_eq_getLast?, List.getLastD_eq_getLast?, List.getLast?_drop, if_neg (by omega)]
theorem lastD_mem {l : List TV} (h : l ≠ []) : lastD l ∈ l := by
  rcases List.eq_nil_or_concat l with e | ⟨l', a, e⟩
  · exact absurd e h
  · rw [e, List.concat_eq_append, lastD_app]
    simp
theorem headD_mem {l : List TV} (h : l ≠ []) : l.headD .non ∈ l := by
  cases l with
  | nil => exact absurd rfl h
  | cons a r => exact List.mem_cons_self
theorem headD_drop_mem {l : List TV} {s : Nat} (h : s < l.length) : (l.drop s).headD .non ∈ l.drop s := by
  apply headD_mem
  intro e
  have := congrArg List.length e
  rw [List.length_drop, List.length_nil] at this
  omega
/-- how many values go: Python's max(0, min(k, n - 1)) -/
def clip (k : Int) (n : Nat) : Nat := (max 0 (min k ((n : Int) - 1))).toNat
theorem clip_lt {k : Int} {n : Nat} (h : 0 < n) : clip k n < n := by unfold clip; omega
theorem clip_eq {k : Int} {n : Nat} (h0 : 0 ≤ k) (h : k < n) : clip k n = k.toNat := by unfold clip; omega
/-- cell c drifts by k -/
def Mem.shorten (m : Mem) (c k : Int) : Mem :=
  { m with
    tr := upC m.tr c ((m.tr c).drop (clip k (m.tr c).length))
    nt := fun t x => if x = c then (m.nt t x).map (fun p => max 0 (p - (clip k (m.tr c).length : Int))) else m.nt t x }
/-- every cell drifts by its own number -/
def Mem.drops (m : Mem) (s : Int → Nat) : Mem :=
  { m with
    tr := fun c => (m.tr c).drop (s c)
    nt := fun t c => (m.nt t c).map (fun p => max 0 (p - (s c : Int))) }
def Mem.fenceS (m : Mem) (t : Int) (c : Int) : Nat := match m.nt t c with
  | some p => clip p (m.tr c).length
  | none => 0
/-- what the thread has noted lasts -/
def Mem.fence (m : Mem) (t : Int) : Mem := ({ m with nt := upC m.nt t (fun _ => none) } : Mem).drops (m.fenceS t)
def Mem.give (m : Mem) (c : Int) (v : TV) : Mem := { m with tr := upC m.tr c (m.tr c ++ [v]) }
def Mem.note (m : Mem) (t c : Int) : Mem := { m with nt := upC m.nt t (upC (m.nt t) c (some (((m.tr c).length : Int) - 1))) }
inductive Req where
  | read (c : Int) | write (c : Int) (v : TV) | swap (c : Int) (o n : TV) | dec (c : Int) (d : Bool) | flush (c : Int) | fence
  deriving DecidableEq
def Mem.acc1 (m : Mem) (t : Int) : Req → TV × Mem
  | .read c => (m.last c, m)
  | .write c v => (.non, m.give c v)
  | .swap c o n => if m.last c = o then (.bl true, m.give c n) else (.bl false, m)
  | .dec c d => if m.last c = .int 0 then (.bl true, m.give c (if d then .don m.cnt else .fai m.cnt)) else (.bl false, m)
  | .flush c => (.non, m.note t c)
  | .fence => (.non, m.fence t)
def Mem.tick (m : Mem) : Mem := { m with cnt := m.cnt + 1 }
/-- an access: the count first -/
def Mem.acc (m : Mem) (t : Int) (r : Req) : TV × Mem := m.tick.acc1 t r
/-! ### a Doing -/
abbrev Ent := Int × Int × Int
inductive St where
  | record | status | word | swap | help | failed | done | final | last | fin
  deriving DecidableEq
structure DS where
  a : Int
  s : Int
  es : List Ent
  ix : Nat
  st : St
  v : TV
  left : List Req
def DS.init (a : Int) : DS := ⟨a, 0, [], 0, .record, .non, []⟩
def DS.mk1 (d : DS) (e : Ent) : TV := .mark d.a d.s e.2.1 e.2.2
def DS.ent (d : DS) : Ent := d.es.getD d.ix (0, 0, 0)
def DS.req (d : DS) : Req := match d.st with
  | .record => .read d.a
  | .status => .read d.s
  | .final => .read d.s
  | .failed => .dec d.s false
  | .done => .dec d.s true
  | .last => d.left.headD .fence
  | .word => .read d.ent.1
  | .swap => .swap d.ent.1 (.int d.ent.2.1) (d.mk1 d.ent)
  | .help => .fence
  | .fin => .fence
def DS.pass (d : DS) : DS := { d with ix := d.ix + 1, st := if d.ix + 1 = d.es.length then .done else .word }
def DS.shown (v : TV) (e : Ent) : Int := if isDon v then e.2.2 else e.2.1
def DS.lasts (d : DS) (v : TV) : List Req :=
  [.flush d.s, .fence] ++ d.es.map (fun e => .swap e.1 (d.mk1 e) (.int (DS.shown v e))) ++ d.es.map (fun e => .flush e.1) ++ [.fence]
def DS.takeStatus (d : DS) (v : TV) : DS := if v = .int 0 then { d with st := .word } else { d with v := v, left := d.lasts v, st := .last }
def isMark : TV → Bool
  | .mark _ _ _ _ => true
  | _ => false
def markA : TV → Int
  | .mark a _ _ _ => a
  | _ => 0
def DS.takeWord (d : DS) (v : TV) : DS :=
  if v = d.mk1 d.ent then d.pass else if v = .int d.ent.2.1 then { d with st := .swap } else if isMark v then { d with st := .help } else { d with st := .failed }
def DS.takeSwap (d : DS) (v : TV) : DS := if v = .bl true then d.pass else { d with st := .word }
def DS.takeRecord (d : DS) : TV → DS
  | .deed s es _ _ => { d with s := s, es := es, st := .status }
  | _ => d
/-- accept the result of an access -/
def DS.acc (d : DS) (v : TV) : DS := match d.st with
  | .help => { d with st := .word }
  | .record => d.takeRecord v
  | .status => d.takeStatus v
  | .final => d.takeStatus v
  | .word => d.takeWord v
  | .swap => d.takeSwap v
  | .last => { d with left := d.left.tail, st := if d.left.tail = [] then .fin else .last }
  | _ => { d with st := .final }
/-- behind the access: push, pop -/
def settle (v : TV) (d : DS) (rest : List DS) : List DS := match d.st with
  | .help => DS.init (markA v) :: d :: rest
  | .fin => (match rest with
    | [] => []
    | l :: r => { l with st := .word } :: r)
  | _ => d :: rest
/-- a step of a settled stack, the top first: the memory, the stack, the top's verdict -/
def step1 (m : Mem) (t : Int) (d : DS) (rest : List DS) : Mem × List DS × TV :=
  ((m.acc t d.req).2, settle (m.acc t d.req).1 (d.acc (m.acc t d.req).1) rest, (d.acc (m.acc t d.req).1).v)
end DkM

set_option linter.all false
set_option maxHeartbeats 1000000
namespace DkM
/-! ### deeds, what words show -/
structure Deed where
  es : List Ent
  st : TV
  fits : Bool
abbrev Ad (i : Nat) : Int := 16 + 2 * (i : Int)
abbrev Sc (i : Nat) : Int := 17 + 2 * (i : Int)
def nwA (i : Nat) (w : Int) : Int := 70 + 5 * (i : Int) + (w - 7)
def mkA (i : Nat) (e : Ent) : TV := .mark (Ad i) (Sc i) e.2.1 e.2.2
structure EsOk (i : Nat) (es : List Ent) : Prop where
  ne : es ≠ []
  le : es.length ≤ 4
  up : es.Pairwise (fun a b => a.1 < b.1)
  at_ : ∀ e ∈ es, 7 ≤ e.1 ∧ e.1 ≤ 10 ∧ e.2.2 = nwA i e.1
def hist (dn : Int → List Nat) (w : Int) : List Int := (w + 4) :: (dn w).map (fun i => nwA i w)
def baseV : TV → Int
  | .int a => a
  | .mark _ _ o _ => o
  | _ => 0
def tmV : TV → Int
  | .don t => t
  | _ => 0
def tmD (ds : List Deed) (i : Nat) : Int := match ds[i]? with
  | some D => tmV D.st
  | none => 0
structure Inv (m : Mem) (ds : List Deed) (sh : Int → Int) (dn : Int → List Nat) : Prop where
  n24 : ds.length ≤ 24
  ne : ∀ (c : Int), 4 ≤ c → c ≤ 200 → m.tr c ≠ []
  es : ∀ (i : Nat) (D : Deed), ds[i]? = some D → EsOk i D.es
  rc : ∀ (i : Nat) (D : Deed), ds[i]? = some D → ∃ th nu, m.last (Ad i) = .deed (Sc i) D.es th nu
  sl : ∀ (i : Nat) (D : Deed), ds[i]? = some D → m.last (Sc i) = D.st
  sv : ∀ (i : Nat) (D : Deed), ds[i]? = some D → m.tr (Sc i) = [D.st] ∨ (D.st ≠ .int 0 ∧ m.tr (Sc i) = [.int 0, D.st])
  st : ∀ (i : Nat) (D : Deed), ds[i]? = some D → D.st = .int 0 ∨ (∃ (t : Int), D.st = .don t ∧ t ≤ m.cnt) ∨ (∃ (t : Int), D.st = .fai t)
  dnd : ∀ (w : Int) (i : Nat), i ∈ dn w → ∃ (D : Deed) (e : Ent), ds[i]? = some D ∧ isDon D.st = true ∧ e ∈ D.es ∧ e.1 = w
  dna : ∀ (i : Nat) (D : Deed) (e : Ent), ds[i]? = some D → isDon D.st = true → e ∈ D.es → i ∈ dn e.1
  dnn : ∀ (w : Int), (dn w).Nodup
  dnt : ∀ (w : Int), (dn w).Pairwise (fun (i j : Nat) => tmD ds i < tmD ds j)
  dti : ∀ (i : Nat) (j : Nat) (D : Deed) (E : Deed), ds[i]? = some D → ds[j]? = some E → isDon D.st = true → D.st = E.st → i = j
  chain : ∀ (w : Int) (k : Nat) (i : Nat) (D : Deed) (e : Ent), (dn w)[k]? = some i → ds[i]? = some D → e ∈ D.es → e.1 = w → (hist dn w)[k]? = some e.2.1
  shn : ∀ (w : Int), 7 ≤ w → w ≤ 10 → (hist dn w)[(dn w).length]? = some (sh w)
  wd : ∀ (w : Int), 7 ≤ w → w ≤ 10 → m.last w = .int (sh w) ∨ ∃ (i : Nat) (D : Deed) (e : Ent), ds[i]? = some D ∧ e ∈ D.es ∧ e.1 = w ∧ m.last w = mkA i e ∧ sh w = DS.shown D.st e
  tr : ∀ (w : Int) (v : TV), 7 ≤ w → w ≤ 10 → v ∈ m.tr w → (∃ (a : Int), a ∈ hist dn w ∧ v = .int a) ∨ (∃ (i : Nat) (D : Deed) (e : Ent), ds[i]? = some D ∧ e ∈ D.es ∧ e.1 = w ∧ v = mkA i e ∧ e.2.1 ∈ hist dn w)
  kept : ∀ (i : Nat) (D : Deed) (e : Ent), ds[i]? = some D → isDon D.st = true → e ∈ D.es → m.fst (Sc i) = D.st ∨ (m.last e.1 = mkA i e ∧ ∀ v ∈ m.tr e.1, baseV v ≠ e.2.2)
  ord : ∀ (i : Nat) (D : Deed) (e : Ent) (e' : Ent), ds[i]? = some D → D.st = .int 0 → e ∈ D.es → e' ∈ D.es → m.last e.1 = mkA i e → e'.1 < e.1 → m.last e'.1 = mkA i e'
  fit : ∀ (i : Nat) (D : Deed) (e : Ent), ds[i]? = some D → D.st = .int 0 → D.fits = true → e ∈ D.es → sh e.1 = e.2.1
/-! ### machines -/
def NoteSuf (m : Mem) (t c : Int) (P : TV → Prop) : Prop := ∃ p : Int, m.nt t c = some p ∧ 0 ≤ p ∧ p < (m.tr c).length ∧ ∀ v ∈ (m.tr c).drop p.toNat, P v
def NB (i : Nat) (e : Ent) (v : TV) : Prop := v ≠ mkA i e ∧ v ≠ .int e.2.1
structure LastOk (m : Mem) (t : Int) (i : Nat) (D : Deed) (d : DS) (k : Nat) : Prop where
  lt : k ≤ 2 * D.es.length + 2
  left : d.left = (d.lasts D.st).drop k
  h1 : k = 1 → NoteSuf m t (Sc i) (fun v => v = D.st)
  h2 : 2 ≤ k → m.fst (Sc i) = D.st
  h3 : isDon D.st = true → ∀ (j : Nat) (e : Ent), D.es[j]? = some e → 2 + j < k → m.last e.1 ≠ mkA i e
  h4 : isDon D.st = true → ∀ (j : Nat) (e : Ent), D.es[j]? = some e → 2 + D.es.length + j < k → NoteSuf m t e.1 (NB i e)
structure MOk (m : Mem) (t : Int) (i : Nat) (D : Deed) (d : DS) : Prop where
  a : d.a = Ad i
  se : d.st ≠ .record → d.s = Sc i ∧ d.es = D.es
  ix0 : d.st = .record ∨ d.st = .status → d.ix = 0
  ix : d.st = .word ∨ d.st = .swap ∨ d.st = .help → d.ix < D.es.length
  dn : d.st = .done → d.ix = D.es.length
  pas : d.st = .word ∨ d.st = .swap ∨ d.st = .help ∨ d.st = .done → D.st = .int 0 → ∀ e ∈ D.es.take d.ix, m.last e.1 = mkA i e
  fl : d.st = .failed → D.st = .int 0 → D.fits = false
  fi : d.st = .final → D.st ≠ .int 0
  la : d.st = .last → D.st ≠ .int 0 ∧ d.v = D.st ∧ ∃ (k : Nat), LastOk m t i D d k
def Low (m : Mem) (ds : List Deed) (t : Int) (i : Nat) (D : Deed) : List DS → Prop
  | [] => True
  | l :: r => l.st = .help ∧ ∃ (j : Nat) (E : Deed), ds[j]? = some E ∧ MOk m t j E l ∧ (∃ e ∈ D.es, e.1 = l.ent.1 ∧ (D.st = .int 0 → m.last e.1 = mkA i e)) ∧ Low m ds t j E r
def StkOk (m : Mem) (ds : List Deed) (t : Int) : List DS → Prop
  | [] => True
  | d :: r => d.st ≠ .help ∧ d.st ≠ .fin ∧ ∃ (i : Nat) (D : Deed), ds[i]? = some D ∧ MOk m t i D d ∧ Low m ds t i D r
def RespM (i : Nat) (D : Deed) (e : Ent) (d : DS) : Prop :=
  d.a = Ad i ∧ (((d.st = .word ∨ d.st = .swap ∨ d.st = .help ∨ d.st = .done ∨ d.st = .failed ∨ d.st = .final) ∧ e ∈ D.es.take d.ix) ∨
    (d.st = .last ∧ D.st ≠ .int 0 ∧ ∃ (j : Nat) (k : Nat), D.es[j]? = some e ∧ d.left = (d.lasts D.st).drop k ∧ k ≤ 2 + j))
def Resp (m : Mem) (ds : List Deed) (stk : Int → List DS) : Prop :=
  ∀ (i : Nat) (D : Deed) (e : Ent), ds[i]? = some D → e ∈ D.es → m.last e.1 = mkA i e → ∃ (t : Int) (d : DS), 0 ≤ t ∧ t < 3 ∧ d ∈ stk t ∧ RespM i D e d
/-! ### small facts -/
theorem mkA_inj {i j : Nat} {e f : Ent} (h : mkA i e = mkA j f) : i = j ∧ e.2.1 = f.2.1 ∧ e.2.2 = f.2.2 := by
  unfold mkA at h
  injection h with h1 h2 h3 h4
  refine ⟨?_, h3, h4⟩
  unfold Ad at h1; omega
theorem mkA_int {i : Nat} {e : Ent} {a : Int} : mkA i e ≠ .int a := by unfold mkA; intro h; cases h
theorem nwA_inj {i j : Nat} {w : Int} (h : nwA i w = nwA j w) : i = j := by unfold nwA at h; omega
theorem EsOk.cell {i : Nat} {es : List Ent} (h : EsOk i es) {e f : Ent} (he : e ∈ es) (hf : f ∈ es) (hc : e.1 = f.1) : e = f := by
  obtain ⟨a, ha, rfl⟩ := List.getElem_of_mem he
  obtain ⟨b, hb, rfl⟩ := List.getElem_of_mem hf
  rcases Nat.lt_trichotomy a b with h1 | h1 | h1
  · have := (List.pairwise_iff_getElem.mp h.up) a b ha hb h1; omega
  · subst h1; rfl
  · have := (List.pairwise_iff_getElem.mp h.up) b a hb ha h1; omega
theorem isDon_ne0 {v : TV} (h : isDon v = true) : v ≠ .int 0 := by intro e; rw [e] at h; cases h
section
variable {m : Mem} {ds : List Deed} {sh : Int → Int} {dn : Int → List Nat}
theorem Inv.w7 (I : Inv m ds sh dn) {i : Nat} {D : Deed} {e : Ent} (h : ds[i]? = some D) (he : e ∈ D.es) : 7 ≤ e.1 ∧ e.1 ≤ 10 := let x := (I.es i D h).at_ e he; ⟨x.1, x.2.1⟩
theorem Inv.new (I : Inv m ds sh dn) {i : Nat} {D : Deed} {e : Ent} (h : ds[i]? = some D) (he : e ∈ D.es) : e.2.2 = nwA i e.1 := ((I.es i D h).at_ e he).2.2
theorem hist_nd (I : Inv m ds sh dn) {w : Int} (h : w ≤ 10) (h7 : 7 ≤ w) : (hist dn w).Nodup := by
  unfold hist
  refine List.nodup_cons.mpr ⟨?_, ?_⟩
  · intro hm
    obtain ⟨i, _, e⟩ := List.mem_map.mp hm
    unfold nwA at e
    omega
  · have nd := I.dnn w
    rw [List.nodup_iff_pairwise_ne] at nd ⊢ 
    exact List.pairwise_map.mpr (nd.imp fun hne e => hne (nwA_inj e))
theorem nd_getq {α : Type} {l : List α} (h : l.Nodup) {a b : Nat} {x : α} (ha : l[a]? = some x) (hb : l[b]? = some x) : a = b := by
  obtain ⟨h1, e1⟩ := List.getElem?_eq_some_iff.mp ha
  obtain ⟨h2, e2⟩ := List.getElem?_eq_some_iff.mp hb
  exact (List.getElem_inj h).mp (e1.trans e2.symm)
/-- a done deed's old address is not shown any more -/
theorem Inv.noaba (I : Inv m ds sh dn) {i : Nat} {D : Deed} {e : Ent} (h : ds[i]? = some D) (hd : isDon D.st = true) (he : e ∈ D.es) : sh e.1 ≠ e.2.1 := by
  obtain ⟨h7, h10⟩ := I.w7 h he
  have hm := I.dna i D e h hd he
  obtain ⟨k, hk⟩ := List.getElem?_of_mem hm
  have c := I.chain e.1 k i D e hk h he rfl
  have s := I.shn e.1 h7 h10
  intro x
  rw [x] at s
  have := nd_getq (hist_nd I h10 h7) c s
  have lt := (List.getElem?_eq_some_iff.mp hk).1
  omega
theorem Inv.plain (I : Inv m ds sh dn) {w a : Int} (h7 : 7 ≤ w) (h10 : w ≤ 10) (h : m.last w = .int a) : a = sh w := by
  rcases I.wd w h7 h10 with q | ⟨i, D, e, _, _, _, q, _⟩
  · rw [h] at q; injection q
  · rw [h] at q; exact absurd q.symm mkA_int
theorem Inv.noold (I : Inv m ds sh dn) {i : Nat} {D : Deed} {e : Ent} (h : ds[i]? = some D) (hd : isDon D.st = true) (he : e ∈ D.es) : m.last e.1 ≠ .int e.2.1 := fun q => by
  obtain ⟨h7, h10⟩ := I.w7 h he
  exact I.noaba h hd he (I.plain h7 h10 q).symm
/-- what the mark in a word is -/
theorem Inv.mark (I : Inv m ds sh dn) {i : Nat} {D : Deed} {e : Ent} (h : ds[i]? = some D) (he : e ∈ D.es) (q : m.last e.1 = mkA i e) : sh e.1 = DS.shown D.st e := by
  obtain ⟨h7, h10⟩ := I.w7 h he
  rcases I.wd e.1 h7 h10 with p | ⟨j, E, f, hj, hf, fc, p, s⟩
  · rw [q] at p; exact absurd p mkA_int
  · rw [q] at p
    obtain ⟨rfl, _, _⟩ := mkA_inj p
    have : D = E := Option.some.inj (h.symm.trans hj)
    subst this
    have := (I.es i D h).cell he hf fc.symm
    subst this
    exact s
theorem Inv.tr_pos (I : Inv m ds sh dn) {c : Int} (h4 : 4 ≤ c) (h : c ≤ 200) : 0 < (m.tr c).length := List.length_pos_iff.mpr (I.ne c h4 h)
theorem Inv.ilt (I : Inv m ds sh dn) {i : Nat} {D : Deed} (h : ds[i]? = some D) : i < 24 := Nat.lt_of_lt_of_le (List.getElem?_eq_some_iff.mp h).1 I.n24
end
end DkM

set_option linter.all false
set_option maxHeartbeats 1000000
namespace DkM
def pop : List DS → List DS
  | [] => []
  | l :: r => { l with st := .word } :: r
/-- what a step of the top machine d, of the deed i, comes to -/
inductive Out (m : Mem) (ds : List Deed) (sh : Int → Int) (t : Int) (d : DS) (rest : List DS) (i : Nat) (D : Deed) : Mem → List DS → Prop
  | record : d.st = .record → Out m ds sh t d rest i D m.tick ({ d with s := Sc i, es := D.es, st := .status } :: rest)
  | statusW : d.st = .status → D.st = .int 0 → Out m ds sh t d rest i D m.tick ({ d with st := .word } :: rest)
  | statusL : d.st = .status ∨ d.st = .final → D.st ≠ .int 0 → Out m ds sh t d rest i D m.tick ({ d with v := D.st, left := d.lasts D.st, st := .last } :: rest)
  | wordP (e : Ent) : d.st = .word → D.es[d.ix]? = some e → m.last e.1 = mkA i e → Out m ds sh t d rest i D m.tick (d.pass :: rest)
  | wordS (e : Ent) : d.st = .word → D.es[d.ix]? = some e → m.last e.1 = .int e.2.1 → Out m ds sh t d rest i D m.tick ({ d with st := .swap } :: rest)
  | wordH (e : Ent) (j : Nat) (E : Deed) (f : Ent) : d.st = .word → D.es[d.ix]? = some e → ds[j]? = some E → f ∈ E.es → f.1 = e.1 → j ≠ i → m.last e.1 = mkA j f →
      Out m ds sh t d rest i D m.tick (DS.init (Ad j) :: { d with st := .help } :: rest)
  | wordF (e : Ent) : d.st = .word → D.es[d.ix]? = some e → m.last e.1 = .int (sh e.1) → sh e.1 ≠ e.2.1 → Out m ds sh t d rest i D m.tick ({ d with st := .failed } :: rest)
  | swapY (e : Ent) : d.st = .swap → D.es[d.ix]? = some e → m.last e.1 = .int e.2.1 → Out m ds sh t d rest i D (m.tick.give e.1 (mkA i e)) (d.pass :: rest)
  | swapN (e : Ent) : d.st = .swap → D.es[d.ix]? = some e → m.last e.1 ≠ .int e.2.1 → Out m ds sh t d rest i D m.tick ({ d with st := .word } :: rest)
  | decF : d.st = .failed → D.st = .int 0 → Out m ds sh t d rest i D (m.tick.give (Sc i) (.fai (m.cnt + 1))) ({ d with st := .final } :: rest)
  | decD : d.st = .done → D.st = .int 0 → Out m ds sh t d rest i D (m.tick.give (Sc i) (.don (m.cnt + 1))) ({ d with st := .final } :: rest)
  | decN : d.st = .failed ∨ d.st = .done → D.st ≠ .int 0 → Out m ds sh t d rest i D m.tick ({ d with st := .final } :: rest)
  | flush0 : d.st = .last → LastOk m t i D d 0 → Out m ds sh t d rest i D (m.tick.note t (Sc i)) ({ d with left := (d.lasts D.st).drop 1 } :: rest)
  | fence1 : d.st = .last → LastOk m t i D d 1 → Out m ds sh t d rest i D (m.tick.fence t) ({ d with left := (d.lasts D.st).drop 2 } :: rest)
  | clY (j : Nat) (e : Ent) : d.st = .last → LastOk m t i D d (2 + j) → D.es[j]? = some e → m.last e.1 = mkA i e →
      Out m ds sh t d rest i D (m.tick.give e.1 (.int (DS.shown D.st e))) ({ d with left := (d.lasts D.st).drop (2 + j + 1) } :: rest)
  | clN (j : Nat) (e : Ent) : d.st = .last → LastOk m t i D d (2 + j) → D.es[j]? = some e → m.last e.1 ≠ mkA i e →
      Out m ds sh t d rest i D m.tick ({ d with left := (d.lasts D.st).drop (2 + j + 1) } :: rest)
  | flW (j : Nat) (e : Ent) : d.st = .last → LastOk m t i D d (2 + D.es.length + j) → D.es[j]? = some e →
      Out m ds sh t d rest i D (m.tick.note t e.1) ({ d with left := (d.lasts D.st).drop (2 + D.es.length + j + 1) } :: rest)
  | fin : d.st = .last → LastOk m t i D d (2 * D.es.length + 2) → Out m ds sh t d rest i D (m.tick.fence t) (pop rest)
theorem tick_last (m : Mem) (c : Int) : m.tick.last c = m.last c := rfl
theorem lasts_len (d : DS) (v : TV) : (d.lasts v).length = 2 * d.es.length + 3 := by
  unfold DS.lasts
  simp only [List.length_append, List.length_map, List.length_cons, List.length_nil]
  omega
theorem lasts_sw {d : DS} {v : TV} {j : Nat} {e : Ent} (h : d.es[j]? = some e) : (d.lasts v)[2 + j]? = some (.swap e.1 (d.mk1 e) (.int (DS.shown v e))) := by
  have hj := (List.getElem?_eq_some_iff.mp h).1
  unfold DS.lasts
  rw [List.append_assoc, List.append_assoc, List.getElem?_append_right (by simp)]
  rw [List.getElem?_append_left (by simp; omega)]
  simp [h]
theorem lasts_fl {d : DS} {v : TV} {j : Nat} {e : Ent} (h : d.es[j]? = some e) : (d.lasts v)[2 + d.es.length + j]? = some (.flush e.1) := by
  have hj := (List.getElem?_eq_some_iff.mp h).1
  unfold DS.lasts
  rw [List.append_assoc, List.getElem?_append_right (by simp; omega)]
  rw [List.getElem?_append_left (by simp; omega), List.getElem?_map]
  rw [show 2 + d.es.length + j - ([Req.flush d.s, Req.fence] ++ List.map (fun e : Ent => Req.swap e.1 (d.mk1 e) (TV.int (DS.shown v e))) d.es).length = j by simp; omega, h]
  rfl
theorem lasts_end (d : DS) (v : TV) : (d.lasts v)[2 * d.es.length + 2]? = some .fence := by
  unfold DS.lasts
  rw [List.getElem?_append_right (by simp; omega)]
  rw [show 2 * d.es.length + 2 - ([Req.flush d.s, Req.fence] ++ List.map (fun e : Ent => Req.swap e.1 (d.mk1 e) (TV.int (DS.shown v e))) d.es ++ List.map (fun e : Ent => Req.flush e.1) d.es).length = 0 by simp; omega]
  rfl
theorem lasts_0 (d : DS) (v : TV) : (d.lasts v)[0]? = some (.flush d.s) := rfl
theorem lasts_1 (d : DS) (v : TV) : (d.lasts v)[1]? = some .fence := rfl
theorem headD_drop {l : List Req} {k : Nat} {r : Req} (h : l[k]? = some r) : (l.drop k).headD .fence = r := by
  have : l.drop k = r :: l.drop (k + 1) := by
    obtain ⟨hk, e⟩ := List.getElem?_eq_some_iff.mp h
    rw [List.drop_eq_getElem_cons hk, e]
  rw [this]; rfl
theorem tail_drop (l : List Req) (k : Nat) : (l.drop k).tail = l.drop (k + 1) := by
  rw [List.tail_drop]
section
variable {m : Mem} {ds : List Deed} {sh : Int → Int} {dn : Int → List Nat} {t : Int} {i : Nat} {D : Deed} {d : DS}
theorem ent_of (h : d.es = D.es) {e : Ent} (he : D.es[d.ix]? = some e) : d.ent = e := by
  unfold DS.ent
  rw [h, List.getD_eq_getElem?_getD, he]; rfl
theorem mk1_of (ha : d.a = Ad i) (hs : d.s = Sc i) (e : Ent) : d.mk1 e = mkA i e := by unfold DS.mk1 mkA; rw [ha, hs]
theorem out_of {rest : List DS} (I : Inv m ds sh dn) (hD : ds[i]? = some D) (M : MOk m t i D d) (n1 : d.st ≠ .help) (n2 : d.st ≠ .fin) :
    Out m ds sh t d rest i D (step1 m t d rest).1 (step1 m t d rest).2.1 ∧ ((step1 m t d rest).2.1 = [] → (step1 m t d rest).2.2 = D.st) := by
  have hne := (I.es i D hD).ne
  cases hs : d.st with
  | help => exact absurd hs n1
  | fin => exact absurd hs n2
  | record =>
    obtain ⟨th, nu, hr⟩ := I.rc i D hD
    have e : step1 m t d rest = (m.tick, { d with s := Sc i, es := D.es, st := .status } :: rest, d.v) := by
      unfold step1 Mem.acc DS.req DS.acc
      simp only [hs, Mem.acc1, M.a, tick_last, hr, DS.takeRecord, settle]
    rw [e]
    exact ⟨.record hs, fun h => by cases h⟩
  | status =>
    obtain ⟨q1, q2⟩ := M.se (by rw [hs]; decide)
    have hr := I.sl i D hD
    by_cases h0 : D.st = .int 0
    · have e : step1 m t d rest = (m.tick, { d with st := .word } :: rest, d.v) := by
        unfold step1 Mem.acc DS.req DS.acc
        simp only [hs, Mem.acc1, q1, tick_last, hr, DS.takeStatus, h0, settle, if_true]
      rw [e]
      exact ⟨.statusW hs h0, fun h => by cases h⟩
    · have e : step1 m t d rest = (m.tick, { d with v := D.st, left := d.lasts D.st, st := .last } :: rest, D.st) := by
        unfold step1 Mem.acc DS.req DS.acc
        simp only [hs, Mem.acc1, q1, tick_last, hr, DS.takeStatus, h0, settle, if_false]
      rw [e]
      exact ⟨.statusL (.inl hs) h0, fun h => by cases h⟩
  | final =>
    obtain ⟨q1, q2⟩ := M.se (by rw [hs]; decide)
    have hr := I.sl i D hD
    have h0 := M.fi hs
    have e : step1 m t d rest = (m.tick, { d with v := D.st, left := d.lasts D.st, st := .last } :: rest, D.st) := by
      unfold step1 Mem.acc DS.req DS.acc
      simp only [hs, Mem.acc1, q1, tick_last, hr, DS.takeStatus, h0, settle, if_false]
    rw [e]
    exact ⟨.statusL (.inr hs) h0, fun h => by cases h⟩
  | failed =>
    obtain ⟨q1, q2⟩ := M.se (by rw [hs]; decide)
    have hr := I.sl i D hD
    by_cases h0 : D.st = .int 0
    · have e : step1 m t d rest = (m.tick.give (Sc i) (.fai (m.cnt + 1)), { d with st := .final } :: rest, d.v) := by
        unfold step1 Mem.acc DS.req DS.acc
        simp only [hs, Mem.acc1, q1, tick_last, hr, h0, settle, if_true]
        rfl
      rw [e]
      exact ⟨.decF hs h0, fun h => by cases h⟩
    · have e : step1 m t d rest = (m.tick, { d with st := .final } :: rest, d.v) := by
        unfold step1 Mem.acc DS.req DS.acc
        simp only [hs, Mem.acc1, q1, tick_last, hr, h0, settle, if_false]
      rw [e]
      exact ⟨.decN (.inl hs) h0, fun h => by cases h⟩
  | done =>
    obtain ⟨q1, q2⟩ := M.se (by rw [hs]; decide)
    have hr := I.sl i D hD
    by_cases h0 : D.st = .int 0
    · have e : step1 m t d rest = (m.tick.give (Sc i) (.don (m.cnt + 1)), { d with st := .final } :: rest, d.v) := by
        unfold step1 Mem.acc DS.req DS.acc
        simp only [hs, Mem.acc1, q1, tick_last, hr, h0, settle, if_true]
        rfl
      rw [e]
      exact ⟨.decD hs h0, fun h => by cases h⟩
    · have e : step1 m t d rest = (m.tick, { d with st := .final } :: rest, d.v) := by
        unfold step1 Mem.acc DS.req DS.acc
        simp only [hs, Mem.acc1, q1, tick_last, hr, h0, settle, if_false]
      rw [e]
      exact ⟨.decN (.inr hs) h0, fun h => by cases h⟩
  | word =>
    obtain ⟨q1, q2⟩ := M.se (by rw [hs]; decide)
    have hix := M.ix (.inl hs)
    obtain ⟨e, he⟩ : ∃ e : Ent, D.es[d.ix]? = some e := ⟨D.es[d.ix], List.getElem?_eq_getElem hix⟩
    have hem : e ∈ D.es := List.mem_of_getElem? he
    have hent := ent_of q2 he
    have hmk := mk1_of M.a q1 e
    obtain ⟨h7, h10⟩ := I.w7 hD hem
    by_cases c1 : m.last e.1 = mkA i e
    · have x : step1 m t d rest = (m.tick, settle (m.last e.1) d.pass rest, d.pass.v) := by
        unfold step1 Mem.acc DS.req DS.acc
        simp only [hs, Mem.acc1, hent, tick_last, DS.takeWord, hmk, c1, if_true]
      have y : settle (m.last e.1) d.pass rest = d.pass :: rest := by
        unfold settle DS.pass
        by_cases q : d.ix + 1 = d.es.length <;> simp [q]
      rw [x, y]
      exact ⟨.wordP e hs he c1, fun h => by cases h⟩
    · by_cases c2 : m.last e.1 = .int e.2.1
      · have x : step1 m t d rest = (m.tick, { d with st := .swap } :: rest, d.v) := by
          unfold step1 Mem.acc DS.req DS.acc
          have c3 : ¬ (TV.int e.2.1 = mkA i e) := fun q => mkA_int q.symm
          simp only [hs, Mem.acc1, hent, tick_last, DS.takeWord, hmk, c2, c3, if_true, if_false, settle]
        rw [x]
        exact ⟨.wordS e hs he c2, fun h => by cases h⟩
      · rcases I.wd e.1 h7 h10 with p | ⟨j, E, f, hj, hf, fc, p, s⟩
        · have hne2 : sh e.1 ≠ e.2.1 := fun q => c2 (by rw [p, q])
          have x : step1 m t d rest = (m.tick, { d with st := .failed } :: rest, d.v) := by
            unfold step1 Mem.acc DS.req DS.acc
            simp only [hs, Mem.acc1, hent, tick_last, DS.takeWord, hmk, c1, c2, if_false]
            rw [p]
            simp only [isMark, settle]
            rfl
          rw [x]
          exact ⟨.wordF e hs he p hne2, fun h => by cases h⟩
        · have hji : j ≠ i := by
            rintro rfl
            have eE : E = D := Option.some.inj (hj.symm.trans hD)
            subst eE
            have := (I.es j E hj).cell hf hem fc
            subst this
            exact c1 p
          have x : step1 m t d rest = (m.tick, DS.init (Ad j) :: { d with st := .help } :: rest, d.v) := by
            unfold step1 Mem.acc DS.req DS.acc
            simp only [hs, Mem.acc1, hent, tick_last, DS.takeWord, hmk, c1, c2, if_false]
            rw [p]
            unfold mkA
            simp only [isMark, settle, markA, if_true]
          rw [x]
          exact ⟨.wordH e j E f hs he hj hf fc hji p, fun h => by cases h⟩
  | swap =>
    obtain ⟨q1, q2⟩ := M.se (by rw [hs]; decide)
    have hix := M.ix (.inr (.inl hs))
    obtain ⟨e, he⟩ : ∃ e : Ent, D.es[d.ix]? = some e := ⟨D.es[d.ix], List.getElem?_eq_getElem hix⟩
    have hent := ent_of q2 he
    have hmk := mk1_of M.a q1 e
    by_cases c : m.last e.1 = .int e.2.1
    · have x : step1 m t d rest = (m.tick.give e.1 (mkA i e), settle (.bl true) d.pass rest, d.pass.v) := by
        unfold step1 Mem.acc DS.req DS.acc
        simp only [hs, Mem.acc1, hent, tick_last, DS.takeSwap, hmk, c, if_true]
      have y : settle (.bl true) d.pass rest = d.pass :: rest := by
        unfold settle DS.pass
        by_cases q : d.ix + 1 = d.es.length <;> simp [q]
      rw [x, y]
      exact ⟨.swapY e hs he c, fun h => by cases h⟩
    · have x : step1 m t d rest = (m.tick, { d with st := .word } :: rest, d.v) := by
        unfold step1 Mem.acc DS.req DS.acc
        have c3 : ¬ (TV.bl false = TV.bl true) := fun q => by cases q
        simp only [hs, Mem.acc1, hent, tick_last, DS.takeSwap, hmk, c, c3, if_false, settle]
      rw [x]
      exact ⟨.swapN e hs he c, fun h => by cases h⟩
  | last =>
    obtain ⟨q1, q2⟩ := M.se (by rw [hs]; decide)
    obtain ⟨h0, hv, k, L⟩ := M.la hs
    have hlen := lasts_len d D.st
    rw [q2] at hlen
    have hl := L.left
    have lt := L.lt
    have key : ∀ r : Req, (d.lasts D.st)[k]? = some r → step1 m t d rest = ((m.tick.acc1 t r).2, settle (m.tick.acc1 t r).1 { d with left := (d.lasts D.st).drop (k + 1), st := if (d.lasts D.st).drop (k + 1) = [] then .fin else .last } rest, D.st) := by
      intro r hr
      have hh : d.left.headD .fence = r := by rw [hl]; exact headD_drop hr
      unfold step1 Mem.acc DS.req DS.acc
      simp only [hs, hh]
      rw [hl, tail_drop, hv]
    have nf : k < 2 * D.es.length + 2 → ¬ (d.lasts D.st).drop (k + 1) = [] := fun hk e => by
      have := congrArg List.length e
      rw [List.length_drop, hlen] at this
      simp at this
      omega
    have st2 : ∀ v : TV, k < 2 * D.es.length + 2 → settle v { d with left := (d.lasts D.st).drop (k + 1), st := if (d.lasts D.st).drop (k + 1) = [] then .fin else .last } rest = { d with left := (d.lasts D.st).drop (k + 1) } :: rest := fun v hk => by
      rw [if_neg (nf hk)]
      unfold settle
      simp only
      rw [show ({ d with left := (d.lasts D.st).drop (k + 1), st := .last } : DS) = { d with left := (d.lasts D.st).drop (k + 1) } by rw [← hs]]
    by_cases k0 : k = 0
    · subst k0
      rw [key _ (lasts_0 d D.st), st2 _ (by omega)]
      refine ⟨?_, fun h => by cases h⟩
      have z := Out.flush0 (ds := ds) (sh := sh) (rest := rest) hs L
      rw [← q1] at z
      exact z
    · by_cases k1 : k = 1
      · subst k1
        rw [key _ (lasts_1 d D.st), st2 _ (by have := List.length_pos_iff.mpr hne; omega)]
        exact ⟨.fence1 hs L, fun h => by cases h⟩
      · by_cases k2 : k < 2 + D.es.length
        · obtain ⟨j, rfl⟩ : ∃ j : Nat, k = 2 + j := ⟨k - 2, by omega⟩
          obtain ⟨e, he⟩ : ∃ e : Ent, D.es[j]? = some e := ⟨D.es[j]'(by omega), List.getElem?_eq_getElem (by omega)⟩
          have hmk := mk1_of M.a q1 e
          rw [key _ (lasts_sw (by rw [q2]; exact he)), st2 _ (by omega)]
          rw [hmk]
          by_cases c : m.last e.1 = mkA i e
          · refine ⟨?_, fun h => by cases h⟩
            have x : (m.tick.acc1 t (.swap e.1 (mkA i e) (.int (DS.shown D.st e)))).2 = m.tick.give e.1 (.int (DS.shown D.st e)) := by
              simp only [Mem.acc1, tick_last, c, if_true]
            rw [x]
            exact .clY j e hs L he c
          · refine ⟨?_, fun h => by cases h⟩
            have x : (m.tick.acc1 t (.swap e.1 (mkA i e) (.int (DS.shown D.st e)))).2 = m.tick := by
              simp only [Mem.acc1, tick_last, c, if_false]
            rw [x]
            exact .clN j e hs L he c
        · by_cases k3 : k < 2 + D.es.length + D.es.length
          · obtain ⟨j, rfl⟩ : ∃ j : Nat, k = 2 + D.es.length + j := ⟨k - 2 - D.es.length, by omega⟩
            obtain ⟨e, he⟩ : ∃ e : Ent, D.es[j]? = some e := ⟨D.es[j]'(by omega), List.getElem?_eq_getElem (by omega)⟩
            have g := lasts_fl (d := d) (v := D.st) (j := j) (e := e) (by rw [q2]; exact he)
            rw [q2] at g
            rw [key _ g, st2 _ (by omega)]
            exact ⟨.flW j e hs L he, fun h => by cases h⟩
          · have kk : k = 2 * D.es.length + 2 := by omega
            subst kk
            have g := lasts_end d D.st
            rw [q2] at g
            rw [key _ g]
            have nil : (d.lasts D.st).drop (2 * D.es.length + 2 + 1) = [] := by
              apply List.drop_eq_nil_of_le
              omega
            rw [if_pos nil]
            refine ⟨?_, fun _ => rfl⟩
            have y : ∀ v : TV, settle v { d with left := (d.lasts D.st).drop (2 * D.es.length + 2 + 1), st := .fin } rest = pop rest := fun v => by
              unfold settle pop
              cases rest <;> rfl
            rw [y]
            exact .fin hs L
end
end DkM

set_option linter.all false
set_option maxHeartbeats 1000000
namespace DkM
def shUp (es : List Ent) (sh : Int → Int) : Int → Int := es.foldl (fun s e => upC s e.1 e.2.2) sh
def fitD (sh : Int → Int) (D : Deed) : Deed := if D.st = .int 0 then { D with fits := D.fits && D.es.all (fun e => decide (sh e.1 = e.2.1)) } else D
def fitUp (sh : Int → Int) (ds : List Deed) : List Deed := ds.map (fitD sh)
theorem shUp_out : ∀ {es : List Ent} {sh : Int → Int} {w : Int}, (∀ e ∈ es, e.1 ≠ w) → shUp es sh w = sh w
  | [], _, _, _ => rfl
  | a :: r, sh, w, h => by
    have h1 : a.1 ≠ w := h a List.mem_cons_self
    have h2 := shUp_out (es := r) (sh := upC sh a.1 a.2.2) (w := w) fun e he => h e (List.mem_cons_of_mem _ he)
    show shUp r (upC sh a.1 a.2.2) w = sh w
    rw [h2, upC_ne h1.symm]
theorem shUp_in : ∀ {es : List Ent} {sh : Int → Int} {e : Ent}, es.Pairwise (fun a b => a.1 < b.1) → e ∈ es → shUp es sh e.1 = e.2.2
  | [], _, _, _, h => by cases h
  | a :: r, sh, e, p, h => by
    obtain ⟨p1, p2⟩ := List.pairwise_cons.mp p
    show shUp r (upC sh a.1 a.2.2) e.1 = e.2.2
    rcases List.mem_cons.mp h with rfl | h
    · rw [shUp_out fun f hf => by have := p1 f hf; omega, upC_same]
    · exact shUp_in p2 h
theorem fitD_es (sh : Int → Int) (D : Deed) : (fitD sh D).es = D.es := by unfold fitD; split <;> rfl
theorem fitD_st (sh : Int → Int) (D : Deed) : (fitD sh D).st = D.st := by unfold fitD; split <;> rfl
theorem fitUp_get {sh : Int → Int} {ds : List Deed} {i : Nat} {D : Deed} (h : (fitUp sh ds)[i]? = some D) : ∃ D0, ds[i]? = some D0 ∧ D = fitD sh D0 := by
  unfold fitUp at h
  rw [List.getElem?_map] at h
  cases q : ds[i]? with
  | none => rw [q] at h; cases h
  | some D0 => rw [q] at h; exact ⟨D0, rfl, (Option.some.inj h).symm⟩
theorem fitUp_at {sh : Int → Int} {ds : List Deed} {i : Nat} {D : Deed} (h : ds[i]? = some D) : (fitUp sh ds)[i]? = some (fitD sh D) := by
  unfold fitUp
  rw [List.getElem?_map, h]; rfl
section
variable {m : Mem} {ds : List Deed} {sh : Int → Int} {dn : Int → List Nat}
theorem Inv.fitid (I : Inv m ds sh dn) : fitUp sh ds = ds := by
  apply List.ext_getElem?
  intro i
  cases q : ds[i]? with
  | none =>
    unfold fitUp
    rw [List.getElem?_map, q]; rfl
  | some D =>
    rw [fitUp_at q]
    congr 1
    unfold fitD
    split
    · rename_i h0
      have : (D.fits && D.es.all fun e => decide (sh e.1 = e.2.1)) = D.fits := by
        cases hf : D.fits with
        | false => rfl
        | true =>
          show (true && D.es.all fun e => decide (sh e.1 = e.2.1)) = true
          rw [Bool.true_and, List.all_eq_true]
          intro e he
          exact decide_eq_true (I.fit i D e q h0 hf he)
      rw [this]
    · rfl
/-- what Inv sees of a memory -/
structure SameM (m m' : Mem) : Prop where
  cnt : m.cnt ≤ m'.cnt
  tr : m'.tr = m.tr
theorem SameM.last {m' : Mem} (h : SameM m m') (c : Int) : m'.last c = m.last c := by unfold Mem.last; rw [h.tr]
theorem SameM.fst {m' : Mem} (h : SameM m m') (c : Int) : m'.fst c = m.fst c := by unfold Mem.fst; rw [h.tr]
theorem Inv.same {m' : Mem} (I : Inv m ds sh dn) (h : SameM m m') : Inv m' ds sh dn where
  n24 := I.n24
  ne := by rw [h.tr]; exact I.ne
  es := I.es
  rc := fun i D hD => by rw [h.last]; exact I.rc i D hD
  sl := fun i D hD => by rw [h.last]; exact I.sl i D hD
  sv := by rw [h.tr]; exact I.sv
  st := fun i D hD => by
    have := h.cnt
    rcases I.st i D hD with q | ⟨t, q, l⟩ | q
    · exact .inl q
    · exact .inr (.inl ⟨t, q, by omega⟩)
    · exact .inr (.inr q)
  dnd := I.dnd
  dna := I.dna
  dnn := I.dnn
  dnt := I.dnt
  dti := I.dti
  chain := I.chain
  shn := I.shn
  wd := fun w h7 h10 => by rw [h.last]; exact I.wd w h7 h10
  tr := by rw [h.tr]; exact I.tr
  kept := fun i D e hD hd he => by rw [h.fst, h.last, h.tr]; exact I.kept i D e hD hd he
  ord := fun i D e e' hD h0 he he' => by rw [h.last, h.last]; exact I.ord i D e e' hD h0 he he'
  fit := I.fit
theorem sameM_tick (m : Mem) : SameM m m.tick := ⟨by unfold Mem.tick; simp only; omega, rfl⟩
theorem sameM_note (m : Mem) (t c : Int) : SameM m (m.tick.note t c) := ⟨by unfold Mem.tick Mem.note; simp only; omega, rfl⟩
/-- drifting: each trail loses some of its first values, never all -/
structure DropM (m m' : Mem) (s : Int → Nat) : Prop where
  cnt : m.cnt ≤ m'.cnt
  tr : ∀ c, m'.tr c = (m.tr c).drop (s c)
  lt : ∀ c, 4 ≤ c → c ≤ 200 → s c < (m.tr c).length
theorem DropM.last {m' : Mem} {s : Int → Nat} (h : DropM m m' s) {c : Int} (h4 : 4 ≤ c) (h2 : c ≤ 200) : m'.last c = m.last c := by
  unfold Mem.last
  rw [h.tr, lastD_drop (h.lt c h4 h2)]
theorem sc_rng {i : Nat} (h : i < 24) : 4 ≤ Sc i ∧ Sc i ≤ 200 ∧ 4 ≤ Ad i ∧ Ad i ≤ 200 := by unfold Sc Ad; omega
theorem DropM.sv {m' : Mem} {s : Int → Nat} (I : Inv m ds sh dn) (h : DropM m m' s) {i : Nat} {D : Deed} (hD : ds[i]? = some D) :
    m'.tr (Sc i) = [D.st] ∨ (D.st ≠ .int 0 ∧ m'.tr (Sc i) = [.int 0, D.st] ∧ m.tr (Sc i) = [.int 0, D.st]) := by
  obtain ⟨r1, r2, _, _⟩ := sc_rng (I.ilt hD)
  have lt := h.lt (Sc i) r1 r2
  rw [h.tr]
  rcases I.sv i D hD with q | ⟨h0, q⟩
  · rw [q] at lt ⊢
    have : s (Sc i) = 0 := by simp at lt; omega
    rw [this]; exact .inl rfl
  · rw [q] at lt ⊢
    have : s (Sc i) = 0 ∨ s (Sc i) = 1 := by simp at lt; omega
    rcases this with e | e
    · rw [e]; exact .inr ⟨h0, rfl, rfl⟩
    · rw [e]; exact .inl rfl
theorem DropM.fst {m' : Mem} {s : Int → Nat} (I : Inv m ds sh dn) (h : DropM m m' s) {i : Nat} {D : Deed} (hD : ds[i]? = some D) (q : m.fst (Sc i) = D.st) : m'.fst (Sc i) = D.st := by
  unfold Mem.fst at q ⊢
  rcases h.sv I hD with e | ⟨h0, e, e2⟩
  · rw [e]; rfl
  · rw [e2] at q
    exact absurd q.symm h0
theorem Inv.drop {m' : Mem} {s : Int → Nat} (I : Inv m ds sh dn) (h : DropM m m' s) : Inv m' ds sh dn where
  n24 := I.n24
  ne := fun c h4 h2 e => by
    have := h.lt c h4 h2
    rw [h.tr] at e
    have := congrArg List.length e
    rw [List.length_drop] at this
    simp at this; omega
  es := I.es
  rc := fun i D hD => by
    obtain ⟨_, _, r3, r4⟩ := sc_rng (I.ilt hD)
    rw [h.last r3 r4]; exact I.rc i D hD
  sl := fun i D hD => by
    obtain ⟨r1, r2, _, _⟩ := sc_rng (I.ilt hD)
    rw [h.last r1 r2]; exact I.sl i D hD
  sv := fun i D hD => by
    rcases h.sv I hD with e | ⟨h0, e, _⟩
    · exact .inl e
    · exact .inr ⟨h0, e⟩
  st := fun i D hD => by
    have := h.cnt
    rcases I.st i D hD with q | ⟨t, q, l⟩ | q
    · exact .inl q
    · exact .inr (.inl ⟨t, q, by omega⟩)
    · exact .inr (.inr q)
  dnd := I.dnd
  dna := I.dna
  dnn := I.dnn
  dnt := I.dnt
  dti := I.dti
  chain := I.chain
  shn := I.shn
  wd := fun w h7 h10 => by rw [h.last (by omega) (by omega)]; exact I.wd w h7 h10
  tr := fun w v h7 h10 hv => by
    rw [h.tr] at hv
    exact I.tr w v h7 h10 (List.mem_of_mem_drop hv)
  kept := fun i D e hD hd he => by
    obtain ⟨h7, h10⟩ := I.w7 hD he
    rcases I.kept i D e hD hd he with q | ⟨q, r⟩
    · exact .inl (h.fst I hD q)
    · refine .inr ⟨by rw [h.last (by omega) (by omega)]; exact q, fun v hv => r v ?_⟩
      rw [h.tr] at hv
      exact List.mem_of_mem_drop hv
  ord := fun i D e e' hD h0 he he' => by
    obtain ⟨h7, h10⟩ := I.w7 hD he
    obtain ⟨g7, g10⟩ := I.w7 hD he'
    rw [h.last (by omega) (by omega), h.last (by omega) (by omega)]; exact I.ord i D e e' hD h0 he he'
  fit := I.fit
theorem drop_shorten (I : Inv m ds sh dn) (c k : Int) : DropM m (m.shorten c k) (fun x => if x = c then clip k (m.tr c).length else 0) where
  cnt := Int.le_refl _
  tr := fun x => by
    unfold Mem.shorten
    simp only
    by_cases h : x = c
    · rw [h, upC_same, if_pos rfl]
    · rw [upC_ne h, if_neg h, List.drop_zero]
  lt := fun x h4 h2 => by
    by_cases h : x = c
    · rw [if_pos h, ← h]; exact clip_lt (I.tr_pos h4 h2)
    · rw [if_neg h]; exact I.tr_pos h4 h2
theorem drop_fence (I : Inv m ds sh dn) (t : Int) : DropM m (m.tick.fence t) (m.fenceS t) where
  cnt := by unfold Mem.fence Mem.tick Mem.drops; simp only; omega
  tr := fun x => rfl
  lt := fun x h4 h2 => by
    unfold Mem.fenceS
    have := I.tr_pos h4 h2
    split
    · exact clip_lt this
    · exact this
/-! ### a word gets a value -/
theorem give_tr (m : Mem) (c : Int) (v : TV) : (m.tick.give c v).tr = upC m.tr c (m.tr c ++ [v]) := rfl
theorem give_last {m : Mem} {c : Int} {v : TV} : (m.tick.give c v).last c = v := by unfold Mem.last; rw [give_tr, upC_same, lastD_app]
theorem give_last_ne {m : Mem} {c x : Int} {v : TV} (h : x ≠ c) : (m.tick.give c v).last x = m.last x := by unfold Mem.last; rw [give_tr, upC_ne h]
theorem give_tr_ne {m : Mem} {c x : Int} {v : TV} (h : x ≠ c) : (m.tick.give c v).tr x = m.tr x := by rw [give_tr, upC_ne h]
theorem give_fst_ne {m : Mem} {c x : Int} {v : TV} (h : x ≠ c) : (m.tick.give c v).fst x = m.fst x := by unfold Mem.fst; rw [give_tr, upC_ne h]
theorem give_tr_same {m : Mem} {c : Int} {v : TV} : (m.tick.give c v).tr c = m.tr c ++ [v] := by rw [give_tr, upC_same]
theorem sc_w {i : Nat} {w : Int} (h : w ≤ 10) : Sc i ≠ w ∧ Ad i ≠ w := by unfold Sc Ad; omega
theorem Inv.giveW (I : Inv m ds sh dn) {w : Int} {v : TV} (h7 : 7 ≤ w) (h10 : w ≤ 10)
    (hw : v = .int (sh w) ∨ ∃ (i : Nat) (D : Deed) (e : Ent), ds[i]? = some D ∧ e ∈ D.es ∧ e.1 = w ∧ v = mkA i e ∧ sh w = DS.shown D.st e ∧ isDon D.st = false)
    (hk : ∀ (i : Nat) (D : Deed) (e : Ent), ds[i]? = some D → isDon D.st = true → e ∈ D.es → e.1 = w → m.last w = mkA i e → m.fst (Sc i) = D.st)
    (ho1 : ∀ (i : Nat) (D : Deed) (e : Ent), ds[i]? = some D → D.st = .int 0 → e ∈ D.es → e.1 = w → m.last w ≠ mkA i e)
    (ho2 : ∀ (i : Nat) (D : Deed) (e e' : Ent), ds[i]? = some D → D.st = .int 0 → e ∈ D.es → e.1 = w → v = mkA i e → e' ∈ D.es → e'.1 < e.1 → m.last e'.1 = mkA i e') :
    Inv (m.tick.give w v) ds sh dn where
  n24 := I.n24
  ne := fun c h4 h2 => by
    by_cases h : c = w
    · rw [h, give_tr_same]; simp
    · rw [give_tr_ne h]; exact I.ne c h4 h2
  es := I.es
  rc := fun i D hD => by rw [give_last_ne (sc_w h10).2]; exact I.rc i D hD
  sl := fun i D hD => by rw [give_last_ne (sc_w h10).1]; exact I.sl i D hD
  sv := fun i D hD => by rw [give_tr_ne (sc_w h10).1]; exact I.sv i D hD
  st := fun i D hD => by
    rcases I.st i D hD with q | ⟨t, q, l⟩ | q
    · exact .inl q
    · exact .inr (.inl ⟨t, q, by show t ≤ m.cnt + 1; omega⟩)
    · exact .inr (.inr q)
  dnd := I.dnd
  dna := I.dna
  dnn := I.dnn
  dnt := I.dnt
  dti := I.dti
  chain := I.chain
  shn := I.shn
  wd := fun x h7' h10' => by
    by_cases h : x = w
    · subst h
      rw [give_last]
      rcases hw with e | ⟨i, D, e, hD, he, ec, ev, es, _⟩
      · exact .inl e
      · exact .inr ⟨i, D, e, hD, he, ec, ev, es⟩
    · rw [give_last_ne h]; exact I.wd x h7' h10'
  tr := fun x u h7' h10' hu => by
    by_cases h : x = w
    · subst h
      rw [give_tr_same] at hu
      rcases List.mem_append.mp hu with hu | hu
      · exact I.tr x u h7' h10' hu
      · have hu : u = v := by simpa using hu
        have hs : sh x ∈ hist dn x := List.mem_of_getElem? (I.shn x h7' h10')
        rcases hw with e | ⟨i, D, e, hD, he, ec, ev, es, nd⟩
        · exact .inl ⟨sh x, hs, by rw [hu, e]⟩
        · refine .inr ⟨i, D, e, hD, he, ec, by rw [hu, ev], ?_⟩
          unfold DS.shown at es
          rw [nd] at es
          rw [show e.2.1 = sh x from es.symm]; exact hs
    · rw [give_tr_ne h] at hu; exact I.tr x u h7' h10' hu
  kept := fun i D e hD hd he => by
    rw [give_fst_ne (sc_w h10).1]
    by_cases h : e.1 = w
    · rcases I.kept i D e hD hd he with q | ⟨q, _⟩
      · exact .inl q
      · exact .inl (hk i D e hD hd he h (by rw [← h]; exact q))
    · rw [give_last_ne h, give_tr_ne h]; exact I.kept i D e hD hd he
  ord := fun i D e e' hD h0 he he' hl hlt => by
    by_cases h : e.1 = w
    · by_cases h' : e'.1 = w
      · omega
      · rw [give_last_ne h']
        rw [h, give_last] at hl
        exact ho2 i D e e' hD h0 he h hl he' hlt
    · rw [give_last_ne h] at hl
      have := I.ord i D e e' hD h0 he he' hl hlt
      by_cases h' : e'.1 = w
      · rw [h'] at this; exact absurd this (ho1 i D e' hD h0 he' h')
      · rw [give_last_ne h']; exact this
  fit := I.fit
end
end DkM

set_option linter.all false
set_option maxHeartbeats 1000000
namespace DkM
section
variable {m : Mem} {ds : List Deed} {sh : Int → Int} {dn : Int → List Nat}
theorem set_get {ds : List Deed} {i j : Nat} {D0 D1 E : Deed} (h0 : ds[i]? = some D0) (h : (ds.set i D1)[j]? = some E) : (j = i ∧ E = D1) ∨ (j ≠ i ∧ ds[j]? = some E) := by
  by_cases e : j = i
  · subst e
    rw [List.getElem?_set_self (List.getElem?_eq_some_iff.mp h0).1] at h
    exact .inl ⟨rfl, (Option.some.inj h).symm⟩
  · rw [List.getElem?_set_ne (Ne.symm e)] at h
    exact .inr ⟨e, h⟩
theorem set_at {ds : List Deed} {i : Nat} {D0 D1 : Deed} (h0 : ds[i]? = some D0) : (ds.set i D1)[i]? = some D1 := List.getElem?_set_self (List.getElem?_eq_some_iff.mp h0).1
theorem set_ne {ds : List Deed} {i j : Nat} {D1 : Deed} (h : j ≠ i) : (ds.set i D1)[j]? = ds[j]? := List.getElem?_set_ne (Ne.symm h)
theorem tr_und (I : Inv m ds sh dn) {i : Nat} {D : Deed} (hD : ds[i]? = some D) (h0 : D.st = .int 0) : m.tr (Sc i) = [.int 0] := by
  rcases I.sv i D hD with q | ⟨n, _⟩
  · rw [q, h0]
  · exact absurd h0 n
theorem sc_ne {i j : Nat} (h : j ≠ i) : Sc j ≠ Sc i := by unfold Sc; omega
theorem sc_ad {i j : Nat} : Ad j ≠ Sc i := by unfold Sc Ad; omega
/-- the status is decided as failed -/
theorem Inv.decF (I : Inv m ds sh dn) {i : Nat} {D : Deed} (hD : ds[i]? = some D) (h0 : D.st = .int 0) :
    Inv (m.tick.give (Sc i) (.fai (m.cnt + 1))) (ds.set i { D with st := .fai (m.cnt + 1) }) sh dn := by
  have hi := I.ilt hD
  have inv : ∀ (j : Nat) (E : Deed), (ds.set i { D with st := .fai (m.cnt + 1) })[j]? = some E → ∃ E0 : Deed, ds[j]? = some E0 ∧ E.es = E0.es ∧ (isDon E.st = true → E.st = E0.st) ∧ (E.st = .int 0 → E = E0) ∧ (j = i → E = { D with st := .fai (m.cnt + 1) }) ∧ (j ≠ i → E = E0) := by
    intro j E h
    rcases set_get hD h with ⟨rfl, rfl⟩ | ⟨e, h⟩
    · exact ⟨D, hD, rfl, fun q => (by cases q), fun q => (by cases q), fun _ => rfl, fun q => absurd rfl q⟩
    · exact ⟨E, h, rfl, fun _ => rfl, fun _ => rfl, fun q => absurd q e, fun _ => rfl⟩
  have fwd : ∀ (j : Nat) (E : Deed), ds[j]? = some E → isDon E.st = true → (ds.set i { D with st := .fai (m.cnt + 1) })[j]? = some E := by
    intro j E h hd
    have : j ≠ i := by
      rintro rfl
      have := Option.some.inj (h.symm.trans hD)
      rw [this, h0] at hd; cases hd
    rw [set_ne this]; exact h
  have tm : ∀ j : Nat, tmD (ds.set i { D with st := .fai (m.cnt + 1) }) j = tmD ds j := by
    intro j
    unfold tmD
    by_cases e : j = i
    · subst e
      rw [set_at hD, hD]
      simp only [tmV, h0]
    · rw [set_ne e]
  exact {
    n24 := by rw [List.length_set]; exact I.n24
    ne := fun c h4 h2 => by
      by_cases h : c = Sc i
      · rw [h, give_tr_same]; simp
      · rw [give_tr_ne h]; exact I.ne c h4 h2
    es := fun j E hE => by
      obtain ⟨E0, h, e, _⟩ := inv j E hE
      rw [e]; exact I.es j E0 h
    rc := fun j E hE => by
      obtain ⟨E0, h, e, _⟩ := inv j E hE
      rw [give_last_ne sc_ad, e]; exact I.rc j E0 h
    sl := fun j E hE => by
      obtain ⟨E0, h, e, _, _, e1, e2⟩ := inv j E hE
      by_cases q : j = i
      · rw [e1 q, q, give_last]
      · rw [give_last_ne (sc_ne q), e2 q]; exact I.sl j E0 h
    sv := fun j E hE => by
      obtain ⟨E0, h, e, _, _, e1, e2⟩ := inv j E hE
      by_cases q : j = i
      · rw [e1 q, q, give_tr_same, tr_und I hD h0]
        exact .inr ⟨fun z => (by cases z), rfl⟩
      · rw [give_tr_ne (sc_ne q), e2 q]; exact I.sv j E0 h
    st := fun j E hE => by
      obtain ⟨E0, h, e, _, _, e1, e2⟩ := inv j E hE
      by_cases q : j = i
      · exact .inr (.inr ⟨_, by rw [e1 q]⟩)
      · rw [e2 q]
        rcases I.st j E0 h with z | ⟨t, z, l⟩ | z
        · exact .inl z
        · exact .inr (.inl ⟨t, z, by show t ≤ m.cnt + 1; omega⟩)
        · exact .inr (.inr z)
    dnd := fun w j hj => by
      obtain ⟨E, e, h, hd, he, hw⟩ := I.dnd w j hj
      exact ⟨E, e, fwd j E h hd, hd, he, hw⟩
    dna := fun j E e hE hd he => by
      obtain ⟨E0, h, q, q2, _⟩ := inv j E hE
      exact I.dna j E0 e h (by rw [← q2 hd]; exact hd) (by rw [← q]; exact he)
    dnn := I.dnn
    dnt := fun w => by
      refine (I.dnt w).imp fun {a b} h => ?_
      rw [tm, tm]; exact h
    dti := fun a b A B ha hb hd hq => by
      obtain ⟨A0, h1, _, q1, _⟩ := inv a A ha
      obtain ⟨B0, h2, _, q2, _⟩ := inv b B hb
      exact I.dti a b A0 B0 h1 h2 (by rw [← q1 hd]; exact hd) (by rw [← q1 hd, ← q2 (by rw [← hq]; exact hd)]; exact hq)
    chain := fun w k j E e hk hE he hw => by
      obtain ⟨E0, h, q, _⟩ := inv j E hE
      exact I.chain w k j E0 e hk h (by rw [← q]; exact he) hw
    shn := I.shn
    wd := fun w h7 h10 => by
      rw [give_last_ne (sc_w h10).1.symm]
      rcases I.wd w h7 h10 with q | ⟨j, E, e, h, he, hw, hl, hs⟩
      · exact .inl q
      · by_cases z : j = i
        · subst z
          have eD := Option.some.inj (h.symm.trans hD)
          subst eD
          refine .inr ⟨j, _, e, set_at hD, he, hw, hl, ?_⟩
          rw [hs, h0]; rfl
        · exact .inr ⟨j, E, e, by rw [set_ne z]; exact h, he, hw, hl, hs⟩
    tr := fun w v h7 h10 hv => by
      rw [give_tr_ne (sc_w h10).1.symm] at hv
      rcases I.tr w v h7 h10 hv with q | ⟨j, E, e, h, he, hw, hl, hs⟩
      · exact .inl q
      · by_cases z : j = i
        · subst z
          have eD := Option.some.inj (h.symm.trans hD)
          subst eD
          exact .inr ⟨j, _, e, set_at hD, he, hw, hl, hs⟩
        · exact .inr ⟨j, E, e, by rw [set_ne z]; exact h, he, hw, hl, hs⟩
    kept := fun j E e hE hd he => by
      obtain ⟨E0, h, q, q2, _⟩ := inv j E hE
      have hw := I.w7 h (by rw [← q]; exact he)
      have z : j ≠ i := by
        rintro rfl
        have := Option.some.inj (h.symm.trans hD)
        rw [q2 hd, this, h0] at hd; cases hd
      rw [give_last_ne (sc_w hw.2).1.symm, give_fst_ne (sc_ne z), give_tr_ne (sc_w hw.2).1.symm, q2 hd]
      exact I.kept j E0 e h (by rw [← q2 hd]; exact hd) (by rw [← q]; exact he)
    ord := fun j E e e' hE hz he he' => by
      obtain ⟨E0, h, q, _, q2, _⟩ := inv j E hE
      have eE := q2 hz
      subst eE
      have hw := I.w7 h he
      have hw' := I.w7 h he'
      rw [give_last_ne (sc_w hw.2).1.symm, give_last_ne (sc_w hw'.2).1.symm]
      exact I.ord j E e e' h hz he he'
    fit := fun j E e hE hz hf he => by
      obtain ⟨E0, h, q, _, q2, _⟩ := inv j E hE
      have eE := q2 hz
      subst eE
      exact I.fit j E e h hz hf he }
/-- the words of a deed done now -/
def dnUp (es : List Ent) (i : Nat) (dn : Int → List Nat) : Int → List Nat := fun w => if es.any (fun e => decide (e.1 = w)) then dn w ++ [i] else dn w
theorem dnUp_in {es : List Ent} {i : Nat} {dn : Int → List Nat} {e : Ent} (h : e ∈ es) : dnUp es i dn e.1 = dn e.1 ++ [i] := by
  unfold dnUp
  rw [if_pos (List.any_eq_true.mpr ⟨e, h, decide_eq_true rfl⟩)]
theorem dnUp_out {es : List Ent} {i : Nat} {dn : Int → List Nat} {w : Int} (h : ∀ e ∈ es, e.1 ≠ w) : dnUp es i dn w = dn w := by
  unfold dnUp
  rw [if_neg]
  intro q
  obtain ⟨e, he, q⟩ := List.any_eq_true.mp q
  exact h e he (of_decide_eq_true q)
theorem dnUp_or (es : List Ent) (i : Nat) (dn : Int → List Nat) (w : Int) : (∃ e ∈ es, e.1 = w ∧ dnUp es i dn w = dn w ++ [i]) ∨ ((∀ e ∈ es, e.1 ≠ w) ∧ dnUp es i dn w = dn w) := by
  by_cases h : ∃ e ∈ es, e.1 = w
  · obtain ⟨e, he, rfl⟩ := h
    exact .inl ⟨e, he, rfl, dnUp_in he⟩
  · have h2 : ∀ e ∈ es, e.1 ≠ w := fun e he q => h ⟨e, he, q⟩
    exact .inr ⟨h2, dnUp_out h2⟩
theorem hist_app (dn dn' : Int → List Nat) (w : Int) (i : Nat) (h : dn' w = dn w ++ [i]) : hist dn' w = hist dn w ++ [nwA i w] := by
  unfold hist
  rw [h, List.map_append]; rfl
theorem hist_eq (dn dn' : Int → List Nat) (w : Int) (h : dn' w = dn w) : hist dn' w = hist dn w := by unfold hist; rw [h]
theorem hist_len (dn : Int → List Nat) (w : Int) : (hist dn w).length = (dn w).length + 1 := by unfold hist; simp
theorem base_hist (I : Inv m ds sh dn) {w : Int} {v : TV} (h7 : 7 ≤ w) (h10 : w ≤ 10) (hv : v ∈ m.tr w) : baseV v ∈ hist dn w := by
  rcases I.tr w v h7 h10 hv with ⟨a, ha, rfl⟩ | ⟨i, D, e, _, _, _, rfl, ho⟩
  · exact ha
  · exact ho
theorem hist_not (I : Inv m ds sh dn) {w : Int} {i : Nat} {D : Deed} (h7 : 7 ≤ w) (hD : ds[i]? = some D) (hd : isDon D.st = false) (h10 : w ≤ 10) : nwA i w ∉ hist dn w := by
  unfold hist
  intro q
  rcases List.mem_cons.mp q with q | q
  · unfold nwA at q; omega
  · obtain ⟨j, hj, e⟩ := List.mem_map.mp q
    have := nwA_inj e
    subst this
    obtain ⟨E, f, hE, hd2, _⟩ := I.dnd w j hj
    have := Option.some.inj (hE.symm.trans hD)
    rw [this, hd] at hd2; cases hd2
/-- the status is decided as done -/
theorem Inv.decD (I : Inv m ds sh dn) {i : Nat} {D : Deed} (hD : ds[i]? = some D) (h0 : D.st = .int 0) (hm : ∀ e ∈ D.es, m.last e.1 = mkA i e) :
    Inv (m.tick.give (Sc i) (.don (m.cnt + 1))) (fitUp (shUp D.es sh) (ds.set i { D with st := .don (m.cnt + 1) })) (shUp D.es sh) (dnUp D.es i dn) := by
  have hi := I.ilt hD
  have EO := I.es i D hD
  have nd0 : isDon D.st = false := by rw [h0]; rfl
  have nidn : ∀ w, i ∉ dn w := fun w h => by
    obtain ⟨E, e, hE, hd, _⟩ := I.dnd w i h
    have := Option.some.inj (hE.symm.trans hD)
    rw [this, nd0] at hd; cases hd
  have shold : ∀ e ∈ D.es, sh e.1 = e.2.1 := fun e he => by
    rw [I.mark hD he (hm e he)]; unfold DS.shown; rw [nd0]; rfl
  have inv : ∀ (j : Nat) (E : Deed), (fitUp (shUp D.es sh) (ds.set i { D with st := .don (m.cnt + 1) }))[j]? = some E →
      ∃ E0 : Deed, ds[j]? = some E0 ∧ E.es = E0.es ∧ (j = i → E.st = .don (m.cnt + 1)) ∧ (j ≠ i → E.st = E0.st ∧ E = fitD (shUp D.es sh) E0) := by
    intro j E h
    obtain ⟨E1, h1, rfl⟩ := fitUp_get h
    rcases set_get hD h1 with ⟨rfl, rfl⟩ | ⟨e, h1⟩
    · exact ⟨D, hD, fitD_es _ _, fun _ => fitD_st _ _, fun q => absurd rfl q⟩
    · exact ⟨E1, h1, fitD_es _ _, fun q => absurd q e, fun _ => ⟨fitD_st _ _, rfl⟩⟩
  have fwd : ∀ (j : Nat) (E : Deed), j ≠ i → ds[j]? = some E → (fitUp (shUp D.es sh) (ds.set i { D with st := .don (m.cnt + 1) }))[j]? = some (fitD (shUp D.es sh) E) := by
    intro j E e h
    exact fitUp_at (by rw [set_ne e]; exact h)
  have fwi : ∃ D', (fitUp (shUp D.es sh) (ds.set i { D with st := .don (m.cnt + 1) }))[i]? = some D' ∧ D'.es = D.es ∧ D'.st = .don (m.cnt + 1) := ⟨_, fitUp_at (set_at hD), fitD_es _ _, fitD_st _ _⟩
  have tmi : tmD (fitUp (shUp D.es sh) (ds.set i { D with st := .don (m.cnt + 1) })) i = m.cnt + 1 := by
    obtain ⟨D', h1, h2, h3⟩ := fwi
    unfold tmD
    rw [h1]
    simp only [h3, tmV]
  have tmj : ∀ j : Nat, j ≠ i → tmD (fitUp (shUp D.es sh) (ds.set i { D with st := .don (m.cnt + 1) })) j = tmD ds j := by
    intro j e
    unfold tmD
    cases q : ds[j]? with
    | none =>
      have : (fitUp (shUp D.es sh) (ds.set i { D with st := .don (m.cnt + 1) }))[j]? = none := by
        unfold fitUp
        rw [List.getElem?_map, set_ne e, q]; rfl
      rw [this]
    | some E =>
      rw [fwd j E e q]
      simp only [fitD_st]
  have tmle : ∀ w j, j ∈ dn w → tmD ds j ≤ m.cnt := fun w j hj => by
    obtain ⟨E, e, hE, hd, _⟩ := I.dnd w j hj
    unfold tmD
    rw [hE]
    simp only
    rcases I.st j E hE with z | ⟨t, z, l⟩ | ⟨t, z⟩
    · rw [z] at hd; cases hd
    · rw [z]; exact l
    · rw [z] at hd; cases hd
  exact {
    n24 := by unfold fitUp; rw [List.length_map, List.length_set]; exact I.n24
    ne := fun c h4 h2 => by
      by_cases h : c = Sc i
      · rw [h, give_tr_same]; simp
      · rw [give_tr_ne h]; exact I.ne c h4 h2
    es := fun j E hE => by
      obtain ⟨E0, h, e, _⟩ := inv j E hE
      rw [e]; exact I.es j E0 h
    rc := fun j E hE => by
      obtain ⟨E0, h, e, _⟩ := inv j E hE
      rw [give_last_ne sc_ad, e]; exact I.rc j E0 h
    sl := fun j E hE => by
      obtain ⟨E0, h, e, e1, e2⟩ := inv j E hE
      by_cases q : j = i
      · rw [e1 q, q, give_last]
      · rw [give_last_ne (sc_ne q), (e2 q).1]; exact I.sl j E0 h
    sv := fun j E hE => by
      obtain ⟨E0, h, e, e1, e2⟩ := inv j E hE
      by_cases q : j = i
      · rw [e1 q, q, give_tr_same, tr_und I hD h0]
        exact .inr ⟨fun z => (by cases z), rfl⟩
      · rw [give_tr_ne (sc_ne q), (e2 q).1]; exact I.sv j E0 h
    st := fun j E hE => by
      obtain ⟨E0, h, e, e1, e2⟩ := inv j E hE
      by_cases q : j = i
      · exact .inr (.inl ⟨_, e1 q, Int.le_refl _⟩)
      · rw [(e2 q).1]
        rcases I.st j E0 h with z | ⟨t, z, l⟩ | z
        · exact .inl z
        · exact .inr (.inl ⟨t, z, by show t ≤ m.cnt + 1; omega⟩)
        · exact .inr (.inr z)
    dnd := fun w j hj => by
      rcases dnUp_or D.es i dn w with ⟨e, he, hw, q⟩ | ⟨_, q⟩
      · rw [q] at hj
        rcases List.mem_append.mp hj with hj | hj
        · obtain ⟨E, f, h, hd, hf, hw⟩ := I.dnd w j hj
          have z : j ≠ i := fun z => nidn w (z ▸ hj)
          exact ⟨_, f, fwd j E z h, by rw [fitD_st]; exact hd, by rw [fitD_es]; exact hf, hw⟩
        · have : j = i := by simpa using hj
          subst this
          obtain ⟨D', h1, h2, h3⟩ := fwi
          exact ⟨D', e, h1, by rw [h3]; rfl, by rw [h2]; exact he, hw⟩
      · rw [q] at hj
        obtain ⟨E, f, h, hd, hf, hw⟩ := I.dnd w j hj
        have z : j ≠ i := fun z => nidn w (z ▸ hj)
        exact ⟨_, f, fwd j E z h, by rw [fitD_st]; exact hd, by rw [fitD_es]; exact hf, hw⟩
    dna := fun j E e hE hd he => by
      obtain ⟨E0, h, q, q1, q2⟩ := inv j E hE
      by_cases z : j = i
      · subst z
        have := Option.some.inj (h.symm.trans hD)
        subst this
        rw [dnUp_in (by rw [← q]; exact he)]
        exact List.mem_append_right _ (List.mem_singleton.mpr rfl)
      · have hm := I.dna j E0 e h (by rw [← (q2 z).1]; exact hd) (by rw [← q]; exact he)
        rcases dnUp_or D.es i dn e.1 with ⟨_, _, _, q⟩ | ⟨_, q⟩
        · rw [q]; exact List.mem_append_left _ hm
        · rw [q]; exact hm
    dnn := fun w => by
      rcases dnUp_or D.es i dn w with ⟨_, _, _, q⟩ | ⟨_, q⟩
      · rw [q]
        refine List.nodup_append.mpr ⟨I.dnn w, by simp, ?_⟩
        intro a ha b hb e
        have : b = i := by simpa using hb
        exact nidn w (by rw [← this, ← e]; exact ha)
      · rw [q]; exact I.dnn w
    dnt := fun w => by
      have base : (dn w).Pairwise fun (a b : Nat) => tmD (fitUp (shUp D.es sh) (ds.set i { D with st := .don (m.cnt + 1) })) a < tmD (fitUp (shUp D.es sh) (ds.set i { D with st := .don (m.cnt + 1) })) b := by
        refine List.Pairwise.imp_of_mem (fun {a b} ha hb h => ?_) (I.dnt w)
        rw [tmj a fun z => nidn w (z ▸ ha), tmj b fun z => nidn w (z ▸ hb)]; exact h
      rcases dnUp_or D.es i dn w with ⟨_, _, _, q⟩ | ⟨_, q⟩
      · rw [q]
        refine List.pairwise_append.mpr ⟨base, List.pairwise_singleton _ _, ?_⟩
        intro a ha b hb
        have : b = i := by simpa using hb
        rw [this, tmi, tmj a fun z => nidn w (z ▸ ha)]
        have := tmle w a ha
        omega
      · rw [q]; exact base
    dti := fun a b A B ha hb hd hq => by
      obtain ⟨A0, h1, _, q1, q2⟩ := inv a A ha
      obtain ⟨B0, h2, _, p1, p2⟩ := inv b B hb
      have old : ∀ (j : Nat) (E0 : Deed), ds[j]? = some E0 → E0.st ≠ .don (m.cnt + 1) := fun j E0 h z => by
        rcases I.st j E0 h with y | ⟨t, y, l⟩ | ⟨t, y⟩
        · rw [y] at z; cases z
        · rw [y] at z; injection z; omega
        · rw [y] at z; cases z
      by_cases za : a = i
      · by_cases zb : b = i
        · rw [za, zb]
        · rw [q1 za, (p2 zb).1] at hq
          exact absurd hq.symm (old b B0 h2)
      · by_cases zb : b = i
        · rw [p1 zb, (q2 za).1] at hq
          exact absurd hq (old a A0 h1)
        · exact I.dti a b A0 B0 h1 h2 (by rw [← (q2 za).1]; exact hd) (by rw [← (q2 za).1, ← (p2 zb).1]; exact hq)
    chain := fun w k j E e hk hE he hw => by
      obtain ⟨E0, h, q, q1, q2⟩ := inv j E hE
      rw [q] at he
      have w7 := I.w7 h he
      rcases dnUp_or D.es i dn w with ⟨f, hf, hfw, p⟩ | ⟨no, p⟩
      · rw [hist_app dn _ w i p]
        rw [p] at hk
        by_cases lt : k < (dn w).length
        · rw [List.getElem?_append_left lt] at hk
          rw [List.getElem?_append_left (by rw [hist_len]; omega)]
          exact I.chain w k j E0 e hk h he hw
        · have hk1 := (List.getElem?_eq_some_iff.mp hk).1
          rw [List.length_append] at hk1
          simp at hk1
          have ke : k = (dn w).length := by omega
          subst ke
          rw [List.getElem?_append_right (Nat.le_refl _), Nat.sub_self] at hk
          have ji : i = j := Option.some.inj hk
          subst ji
          have := Option.some.inj (h.symm.trans hD)
          subst this
          rw [List.getElem?_append_left (by rw [hist_len]; omega), I.shn w (by omega) (by omega), ← hw, shold e he]
      · rw [hist_eq dn _ w p]
        rw [p] at hk
        exact I.chain w k j E0 e hk h he hw
    shn := fun w h7 h10 => by
      rcases dnUp_or D.es i dn w with ⟨f, hf, hfw, p⟩ | ⟨no, p⟩
      · rw [hist_app dn _ w i p, p, List.length_append, List.getElem?_append_right (by rw [hist_len]; simp), hist_len]
        subst hfw
        rw [shUp_in EO.up hf, I.new hD hf]
        simp
      · rw [hist_eq dn _ w p, p, shUp_out no]
        exact I.shn w h7 h10
    wd := fun w h7 h10 => by
      rw [give_last_ne (sc_w h10).1.symm]
      by_cases c : ∃ f ∈ D.es, f.1 = w
      · obtain ⟨f, hf, rfl⟩ := c
        obtain ⟨D', h1, h2, h3⟩ := fwi
        refine .inr ⟨i, D', f, h1, by rw [h2]; exact hf, rfl, hm f hf, ?_⟩
        rw [shUp_in EO.up hf, h3]; rfl
      · have no : ∀ f ∈ D.es, f.1 ≠ w := fun f hf z => c ⟨f, hf, z⟩
        rw [shUp_out no]
        rcases I.wd w h7 h10 with q | ⟨j, E, e, h, he, hw, hl, hs⟩
        · exact .inl q
        · have z : j ≠ i := by
            rintro rfl
            have := Option.some.inj (h.symm.trans hD)
            subst this
            exact no e he hw
          exact .inr ⟨j, _, e, fwd j E z h, by rw [fitD_es]; exact he, hw, hl, by rw [fitD_st]; exact hs⟩
    tr := fun w v h7 h10 hv => by
      rw [give_tr_ne (sc_w h10).1.symm] at hv
      have sub : ∀ a, a ∈ hist dn w → a ∈ hist (dnUp D.es i dn) w := fun a ha => by
        rcases dnUp_or D.es i dn w with ⟨_, _, _, p⟩ | ⟨_, p⟩
        · rw [hist_app dn _ w i p]; exact List.mem_append_left _ ha
        · rw [hist_eq dn _ w p]; exact ha
      rcases I.tr w v h7 h10 hv with ⟨a, ha, e⟩ | ⟨j, E, e, h, he, hw, hl, hs⟩
      · exact .inl ⟨a, sub a ha, e⟩
      · by_cases z : j = i
        · subst z
          have := Option.some.inj (h.symm.trans hD)
          subst this
          obtain ⟨D', h1, h2, h3⟩ := fwi
          exact .inr ⟨j, D', e, h1, by rw [h2]; exact he, hw, hl, sub _ hs⟩
        · exact .inr ⟨j, _, e, fwd j E z h, by rw [fitD_es]; exact he, hw, hl, sub _ hs⟩
    kept := fun j E e hE hd he => by
      obtain ⟨E0, h, q, q1, q2⟩ := inv j E hE
      rw [q] at he
      have hw := I.w7 h he
      rw [give_last_ne (sc_w hw.2).1.symm, give_tr_ne (sc_w hw.2).1.symm]
      by_cases z : j = i
      · subst z
        have := Option.some.inj (h.symm.trans hD)
        subst this
        refine .inr ⟨hm e he, fun v hv ev => ?_⟩
        have b := base_hist I hw.1 hw.2 hv
        rw [ev, I.new h he] at b
        exact hist_not I hw.1 h nd0 hw.2 b
      · rw [give_fst_ne (sc_ne z), (q2 z).1]
        exact I.kept j E0 e h (by rw [← (q2 z).1]; exact hd) he
    ord := fun j E e e' hE hz he he' => by
      obtain ⟨E0, h, q, q1, q2⟩ := inv j E hE
      by_cases z : j = i
      · rw [q1 z] at hz; cases hz
      · rw [q] at he he'
        have hw := I.w7 h he
        have hw' := I.w7 h he'
        rw [give_last_ne (sc_w hw.2).1.symm, give_last_ne (sc_w hw'.2).1.symm]
        exact I.ord j E0 e e' h (by rw [← (q2 z).1]; exact hz) he he'
    fit := fun j E e hE hz hf he => by
      obtain ⟨E0, h, q, q1, q2⟩ := inv j E hE
      by_cases z : j = i
      · rw [q1 z] at hz; cases hz
      · rw [(q2 z).2] at hf
        rw [q] at he
        unfold fitD at hf
        rw [if_pos (by rw [← (q2 z).1]; exact hz)] at hf
        have hf2 := (Bool.and_eq_true_iff.mp hf).2
        exact of_decide_eq_true (List.all_eq_true.mp hf2 e he) }
end
end DkM

set_option linter.all false
set_option maxHeartbeats 1000000
namespace DkM
/-- how the memory and the deeds may change by a step of thread t, as seen by all other machines -/
structure Ev (m : Mem) (ds : List Deed) (m' : Mem) (ds' : List Deed) (t : Int) : Prop where
  e1 : ∀ (i : Nat) (D : Deed), ds[i]? = some D → ∃ D' : Deed, ds'[i]? = some D' ∧ D'.es = D.es ∧ (D.st ≠ .int 0 → D'.st = D.st) ∧ (D.fits = false → D'.fits = false)
  e2 : ∀ (i : Nat) (D D' : Deed) (e : Ent), ds[i]? = some D → ds'[i]? = some D' → D'.st = .int 0 → e ∈ D.es → m.last e.1 = mkA i e → m'.last e.1 = mkA i e
  e3 : ∀ (i : Nat) (D : Deed), ds[i]? = some D → D.st ≠ .int 0 → m.fst (Sc i) = D.st → m'.fst (Sc i) = D.st
  e4 : ∀ (i : Nat) (D : Deed) (e : Ent), ds[i]? = some D → isDon D.st = true → e ∈ D.es → m.last e.1 ≠ mkA i e → m'.last e.1 ≠ mkA i e
  e5 : ∀ (u : Int) (i : Nat) (D : Deed), u ≠ t → ds[i]? = some D → D.st ≠ .int 0 → NoteSuf m u (Sc i) (fun v => v = D.st) → NoteSuf m' u (Sc i) (fun v => v = D.st)
  e6 : ∀ (u : Int) (i : Nat) (D : Deed) (e : Ent), u ≠ t → ds[i]? = some D → isDon D.st = true → e ∈ D.es → m.last e.1 ≠ mkA i e → NoteSuf m u e.1 (NB i e) → NoteSuf m' u e.1 (NB i e)
section
variable {m m' : Mem} {ds ds' : List Deed} {sh : Int → Int} {dn : Int → List Nat} {t u : Int} {i : Nat} {D D' : Deed} {d : DS}
theorem Ev.get (E : Ev m ds m' ds' t) (h : ds[i]? = some D) (h' : ds'[i]? = some D') : D'.es = D.es ∧ (D.st ≠ .int 0 → D'.st = D.st) ∧ (D.fits = false → D'.fits = false) := by
  obtain ⟨D2, h2, r⟩ := E.e1 i D h
  have := Option.some.inj (h2.symm.trans h')
  rw [← this]; exact r
theorem Ev.und (E : Ev m ds m' ds' t) (h : ds[i]? = some D) (h' : ds'[i]? = some D') (z : D'.st = .int 0) : D.st = .int 0 := by
  obtain ⟨_, r, _⟩ := E.get h h'
  by_cases q : D.st = .int 0
  · exact q
  · rw [r q] at z; exact absurd z q
theorem MOk.ev (E : Ev m ds m' ds' t) (h : ds[i]? = some D) (h' : ds'[i]? = some D') (M : MOk m u i D d) (hu : d.st = .last → u ≠ t) : MOk m' u i D' d := by
  obtain ⟨q1, q2, q3⟩ := E.get h h'
  exact {
    a := M.a
    se := fun z => by rw [q1]; exact M.se z
    ix0 := M.ix0
    ix := fun z => by rw [q1]; exact M.ix z
    dn := fun z => by rw [q1]; exact M.dn z
    pas := fun z hz e he => by
      rw [q1] at he
      exact E.e2 i D D' e h h' hz (List.mem_of_mem_take he) (M.pas z (E.und h h' hz) e he)
    fl := fun z hz => q3 (M.fl z (E.und h h' hz))
    fi := fun z => by rw [q2 (M.fi z)]; exact M.fi z
    la := fun z => by
      obtain ⟨n0, hv, k, L⟩ := M.la z
      have hs := q2 n0
      refine ⟨by rw [hs]; exact n0, by rw [hs]; exact hv, k, ?_⟩
      exact {
        lt := by rw [q1]; exact L.lt
        left := by rw [hs]; exact L.left
        h1 := fun hk => by rw [hs]; exact E.e5 u i D (hu z) h n0 (L.h1 hk)
        h2 := fun hk => by rw [hs]; exact E.e3 i D h n0 (L.h2 hk)
        h3 := fun hd j e he hk => by
          rw [hs] at hd
          rw [q1] at he
          exact E.e4 i D e h hd (List.mem_of_getElem? he) (L.h3 hd j e he hk)
        h4 := fun hd j e he hk => by
          rw [hs] at hd
          rw [q1] at he hk
          exact E.e6 u i D e (hu z) h hd (List.mem_of_getElem? he) (L.h3 hd j e he (by omega)) (L.h4 hd j e he hk) } }
theorem Low.ev (E : Ev m ds m' ds' t) : ∀ {l : List DS} {i : Nat} {D D' : Deed}, ds[i]? = some D → ds'[i]? = some D' → Low m ds u i D l → Low m' ds' u i D' l
  | [], _, _, _, _, _, _ => trivial
  | l :: r, i, D, D', h, h', L => by
    obtain ⟨hs, j, F, hF, M, ⟨e, he, hc, hm⟩, L2⟩ := L
    obtain ⟨F', hF', _⟩ := E.e1 j F hF
    obtain ⟨q1, q2, q3⟩ := E.get h h'
    refine ⟨hs, j, F', hF', M.ev E hF hF' (fun z => (by rw [hs] at z; cases z)), ⟨e, by rw [q1]; exact he, hc, fun z => ?_⟩, Low.ev E hF hF' L2⟩
    exact E.e2 i D D' e h h' z he (hm (E.und h h' z))
theorem StkOk.ev (E : Ev m ds m' ds' t) (hu : u ≠ t) {l : List DS} (S : StkOk m ds u l) : StkOk m' ds' u l := by
  cases l with
  | nil => trivial
  | cons d r =>
    obtain ⟨n1, n2, i, D, hD, M, L⟩ := S
    obtain ⟨D', hD', _⟩ := E.e1 i D hD
    exact ⟨n1, n2, i, D', hD', M.ev E hD hD' (fun _ => hu), L.ev E hD hD'⟩
/-! ### the changes -/
theorem Ev.of_same (hl : ∀ c, m'.last c = m.last c) (hf : ∀ c, m'.fst c = m.fst c) (hn : ∀ (u c : Int) (P : TV → Prop), u ≠ t → NoteSuf m u c P → NoteSuf m' u c P) : Ev m ds m' ds t where
  e1 := fun i D h => ⟨D, h, rfl, fun _ => rfl, fun z => z⟩
  e2 := fun i D D' e _ _ _ _ q => by rw [hl]; exact q
  e3 := fun i D _ _ q => by rw [hf]; exact q
  e4 := fun i D e _ _ _ q => by rw [hl]; exact q
  e5 := fun u i D hu _ _ q => hn _ _ _ hu q
  e6 := fun u i D e hu _ _ _ _ q => hn _ _ _ hu q
theorem ev_tick (m : Mem) (ds : List Deed) (t : Int) : Ev m ds m.tick ds t := Ev.of_same (fun _ => rfl) (fun _ => rfl) fun _ _ _ _ q => q
theorem ev_note (m : Mem) (ds : List Deed) (t c : Int) : Ev m ds (m.tick.note t c) ds t := Ev.of_same (fun _ => rfl) (fun _ => rfl) fun u x P hu q => by
  obtain ⟨p, h1, h2, h3, h4⟩ := q
  exact ⟨p, by show (upC m.nt t _) u x = some p; rw [upC_ne hu]; exact h1, h2, h3, h4⟩
theorem NoteSuf.drop {s : Nat} {c : Int} {P : TV → Prop} (q : NoteSuf m u c P) (ht : m'.tr c = (m.tr c).drop s) (hs : s < (m.tr c).length) (hn : m'.nt u c = (m.nt u c).map (fun p => max 0 (p - (s : Int)))) : NoteSuf m' u c P := by
  obtain ⟨p, h1, h2, h3, h4⟩ := q
  refine ⟨max 0 (p - (s : Int)), by rw [hn, h1]; rfl, by omega, by rw [ht, List.length_drop]; omega, fun v hv => h4 v ?_⟩
  rw [ht, List.drop_drop] at hv
  have : s + (max 0 (p - (s : Int))).toNat = p.toNat + (s - p.toNat) := by omega
  rw [this, ← List.drop_drop] at hv
  exact List.mem_of_mem_drop hv
theorem ev_shorten (I : Inv m ds sh dn) (c k t : Int) : Ev m ds (m.shorten c k) ds t := by
  have dr := drop_shorten I c k
  have hn : ∀ (u x : Int) (P : TV → Prop), 4 ≤ x → x ≤ 200 → NoteSuf m u x P → NoteSuf (m.shorten c k) u x P := fun u x P h4 h2 q => by
    refine q.drop (dr.tr x) (dr.lt x h4 h2) ?_
    by_cases h : x = c
    · subst h
      show (if x = x then _ else _) = _
      rw [if_pos rfl, if_pos rfl]
    · show (if x = c then _ else m.nt u x) = _
      rw [if_neg h, if_neg h]
      cases z : m.nt u x with
      | none => rfl
      | some p =>
        obtain ⟨p', h1, h2, _⟩ := q
        rw [z] at h1
        have := Option.some.inj h1
        subst this
        show some p = some (max 0 (p - ((0 : Nat) : Int)))
        congr 1
        omega
  exact {
    e1 := fun i D h => ⟨D, h, rfl, fun _ => rfl, fun z => z⟩
    e2 := fun i D D' e h _ _ he q => by
      obtain ⟨h7, h10⟩ := I.w7 h he
      rw [dr.last (by omega) (by omega)]; exact q
    e3 := fun i D h _ q => dr.fst I h q
    e4 := fun i D e h _ he q => by
      obtain ⟨h7, h10⟩ := I.w7 h he
      rw [dr.last (by omega) (by omega)]; exact q
    e5 := fun u i D _ h _ q => by
      obtain ⟨r1, r2, _, _⟩ := sc_rng (I.ilt h)
      exact hn u _ _ r1 r2 q
    e6 := fun u i D e _ h _ he _ q => by
      obtain ⟨h7, h10⟩ := I.w7 h he
      exact hn u _ _ (by omega) (by omega) q }
theorem ev_fence (I : Inv m ds sh dn) (t : Int) : Ev m ds (m.tick.fence t) ds t := by
  have dr := drop_fence I t
  have hn : ∀ (u x : Int) (P : TV → Prop), u ≠ t → 4 ≤ x → x ≤ 200 → NoteSuf m u x P → NoteSuf (m.tick.fence t) u x P := fun u x P hu h4 h2 q => by
    refine q.drop (dr.tr x) (dr.lt x h4 h2) ?_
    show ((upC m.nt t (fun _ => none)) u x).map _ = _
    rw [upC_ne hu]; rfl
  exact {
    e1 := fun i D h => ⟨D, h, rfl, fun _ => rfl, fun z => z⟩
    e2 := fun i D D' e h _ _ he q => by
      obtain ⟨h7, h10⟩ := I.w7 h he
      rw [dr.last (by omega) (by omega)]; exact q
    e3 := fun i D h _ q => dr.fst I h q
    e4 := fun i D e h _ he q => by
      obtain ⟨h7, h10⟩ := I.w7 h he
      rw [dr.last (by omega) (by omega)]; exact q
    e5 := fun u i D hu h _ q => by
      obtain ⟨r1, r2, _, _⟩ := sc_rng (I.ilt h)
      exact hn u _ _ hu r1 r2 q
    e6 := fun u i D e hu h _ he _ q => by
      obtain ⟨h7, h10⟩ := I.w7 h he
      exact hn u _ _ hu (by omega) (by omega) q }
theorem NoteSuf.give {c : Int} {v : TV} {w : Int} {P : TV → Prop} (q : NoteSuf m u w P) (hv : w = c → P v) : NoteSuf (m.tick.give c v) u w P := by
  obtain ⟨p, h1, h2, h3, h4⟩ := q
  by_cases h : w = c
  · subst h
    refine ⟨p, h1, h2, by rw [give_tr_same, List.length_append]; simp; omega, fun x hx => ?_⟩
    rw [give_tr_same, List.drop_append_of_le_length (by omega)] at hx
    rcases List.mem_append.mp hx with hx | hx
    · exact h4 x hx
    · have : x = v := by simpa using hx
      rw [this]; exact hv rfl
  · exact ⟨p, h1, h2, by rw [give_tr_ne h]; exact h3, by rw [give_tr_ne h]; exact h4⟩
theorem ev_giveW (I : Inv m ds sh dn) {w : Int} {v : TV} (t : Int) (h7 : 7 ≤ w) (h10 : w ≤ 10)
    (ho1 : ∀ (i : Nat) (D : Deed) (e : Ent), ds[i]? = some D → D.st = .int 0 → e ∈ D.es → e.1 = w → m.last w ≠ mkA i e)
    (hv : ∀ (i : Nat) (D : Deed) (e : Ent), ds[i]? = some D → isDon D.st = true → e ∈ D.es → e.1 = w → m.last w ≠ mkA i e → NB i e v) : Ev m ds (m.tick.give w v) ds t where
  e1 := fun i D h => ⟨D, h, rfl, fun _ => rfl, fun z => z⟩
  e2 := fun i D D' e h h' hz he q => by
    have := Option.some.inj (h.symm.trans h')
    subst this
    by_cases c : e.1 = w
    · rw [c] at q; exact absurd q (ho1 i D e h hz he c)
    · rw [give_last_ne c]; exact q
  e3 := fun i D h _ q => by rw [give_fst_ne (sc_w h10).1]; exact q
  e4 := fun i D e h hd he q => by
    by_cases c : e.1 = w
    · rw [c] at q ⊢
      rw [give_last]; exact (hv i D e h hd he c q).1
    · rw [give_last_ne c]; exact q
  e5 := fun u i D _ _ _ q => q.give fun z => absurd z (sc_w h10).1
  e6 := fun u i D e _ h hd he hq q => q.give fun z => hv i D e h hd he z (by rw [← z]; exact hq)
theorem ev_decF (I : Inv m ds sh dn) (t : Int) (hD : ds[i]? = some D) (h0 : D.st = .int 0) (v : TV) : Ev m ds (m.tick.give (Sc i) v) (ds.set i { D with st := v }) t where
  e1 := fun j E h => by
    by_cases z : j = i
    · subst z
      have := Option.some.inj (h.symm.trans hD)
      subst this
      exact ⟨_, set_at hD, rfl, fun q => absurd h0 q, fun q => q⟩
    · exact ⟨E, by rw [set_ne z]; exact h, rfl, fun _ => rfl, fun q => q⟩
  e2 := fun j E E' e h _ _ he q => by rw [give_last_ne (sc_w (I.w7 h he).2).1.symm]; exact q
  e3 := fun j E h n q => by
    have z : j ≠ i := by
      rintro rfl
      have := Option.some.inj (h.symm.trans hD)
      subst this
      exact n h0
    rw [give_fst_ne (sc_ne z)]; exact q
  e4 := fun j E e h _ he q => by rw [give_last_ne (sc_w (I.w7 h he).2).1.symm]; exact q
  e5 := fun u j E _ h n q => q.give fun z => by
    have : j = i := by unfold Sc at z; omega
    subst this
    have := Option.some.inj (h.symm.trans hD)
    subst this
    exact absurd h0 n
  e6 := fun u j E e _ h _ he _ q => q.give fun z => absurd z (sc_w (I.w7 h he).2).1.symm
theorem Ev.fit (E : Ev m ds m' ds' t) (s : Int → Int) : Ev m ds m' (fitUp s ds') t where
  e1 := fun i D h => by
    obtain ⟨D', h1, h2, h3, h4⟩ := E.e1 i D h
    refine ⟨_, fitUp_at h1, by rw [fitD_es]; exact h2, fun z => by rw [fitD_st]; exact h3 z, fun z => ?_⟩
    unfold fitD
    split
    · show (D'.fits && _) = false
      rw [h4 z]; rfl
    · exact h4 z
  e2 := fun i D D' e h h' hz he q => by
    obtain ⟨D0, h1, rfl⟩ := fitUp_get h'
    exact E.e2 i D D0 e h h1 (by rw [← fitD_st s]; exact hz) he q
  e3 := E.e3
  e4 := E.e4
  e5 := E.e5
  e6 := E.e6
end
end DkM

set_option linter.all false
set_option maxHeartbeats 1000000
namespace DkM
section
variable {m m' : Mem} {ds ds' : List Deed} {sh : Int → Int} {dn : Int → List Nat} {t : Int} {i : Nat} {D D' : Deed} {d : DS} {rest : List DS}
/-- in the deed's words: the entry at the index joins those that are passed -/
theorem mem_take_succ {l : List Ent} {n : Nat} {e x : Ent} (h : l[n]? = some e) (hx : x ∈ l.take (n + 1)) : x ∈ l.take n ∨ x = e := by
  rw [List.take_add_one, h] at hx
  rcases List.mem_append.mp hx with q | q
  · exact .inl q
  · exact .inr (by simpa using q)
theorem take_succ_mem {l : List Ent} {n : Nat} {e : Ent} (h : l[n]? = some e) : e ∈ l.take (n + 1) := by
  rw [List.take_add_one, h]
  simp
theorem take_mono {l : List Ent} {n k : Nat} {x : Ent} (h : n ≤ k) (hx : x ∈ l.take n) : x ∈ l.take k := by
  have : l.take n = (l.take k).take n := by rw [List.take_take, Nat.min_eq_left h]
  rw [this] at hx
  exact List.mem_of_mem_take hx
theorem MOk.of_st {s : St} (hs : d.st = s) (a : d.a = Ad i) (se : s ≠ .record → d.s = Sc i ∧ d.es = D.es) (ix0 : s = .record ∨ s = .status → d.ix = 0) (ix : s = .word ∨ s = .swap ∨ s = .help → d.ix < D.es.length) (dn : s = .done → d.ix = D.es.length)
    (pas : s = .word ∨ s = .swap ∨ s = .help ∨ s = .done → D.st = .int 0 → ∀ e ∈ D.es.take d.ix, m.last e.1 = mkA i e) (fl : s = .failed → D.st = .int 0 → D.fits = false) (fi : s = .final → D.st ≠ .int 0)
    (la : s = .last → D.st ≠ .int 0 ∧ d.v = D.st ∧ ∃ k, LastOk m t i D d k) : MOk m t i D d := by
  subst hs
  exact ⟨a, se, ix0, ix, dn, pas, fl, fi, la⟩
theorem MOk.pass (M : MOk m t i D d) (hs : d.st = .word ∨ d.st = .swap) {e : Ent} (he : D.es[d.ix]? = some e) (hp : D.st = .int 0 → ∀ x ∈ D.es.take (d.ix + 1), m'.last x.1 = mkA i x) : MOk m' t i D d.pass := by
  have hr : d.st ≠ .record := by rcases hs with q | q <;> rw [q] <;> decide
  obtain ⟨q1, q2⟩ := M.se hr
  have lt := (List.getElem?_eq_some_iff.mp he).1
  by_cases c : d.ix + 1 = d.es.length
  · have st : d.pass.st = .done := by unfold DS.pass; simp only [c, if_true]
    exact MOk.of_st (s := .done) st M.a (fun _ => ⟨q1, q2⟩) (fun z => absurd z (by decide)) (fun z => absurd z (by decide)) (fun _ => by show d.ix + 1 = _; rw [c, q2]) (fun _ => hp) (fun z => absurd z (by decide)) (fun z => absurd z (by decide)) (fun z => absurd z (by decide))
  · have st : d.pass.st = .word := by unfold DS.pass; simp only [c, if_false]
    exact MOk.of_st (s := .word) st M.a (fun _ => ⟨q1, q2⟩) (fun z => absurd z (by decide)) (fun _ => by show d.ix + 1 < _; rw [q2] at c; omega) (fun z => absurd z (by decide)) (fun _ => hp) (fun z => absurd z (by decide)) (fun z => absurd z (by decide)) (fun z => absurd z (by decide))
theorem pass_st (d : DS) : d.pass.st = .done ∨ d.pass.st = .word := by
  unfold DS.pass
  simp only
  split
  · exact .inl rfl
  · exact .inr rfl
/-- plain states: nothing is asked but the old facts -/
theorem MOk.word (M : MOk m t i D d) (hr : d.st ≠ .record) (hix : d.ix < D.es.length) (hp : D.st = .int 0 → ∀ x ∈ D.es.take d.ix, m'.last x.1 = mkA i x) {s : St} (hs : s = .word ∨ s = .swap ∨ s = .help) : MOk m' t i D { d with st := s } := by
  obtain ⟨q1, q2⟩ := M.se hr
  refine MOk.of_st (s := s) rfl M.a (fun _ => ⟨q1, q2⟩) (fun z => ?_) (fun _ => hix) (fun z => ?_) (fun _ => hp) (fun z => ?_) (fun z => ?_) (fun z => ?_) <;> (rcases hs with rfl | rfl | rfl <;> exact absurd z (by decide))
theorem MOk.final (M : MOk m t i D d) (hr : d.st ≠ .record) (hD : D'.es = D.es) (h0 : D'.st ≠ .int 0) : MOk m' t i D' { d with st := .final } := by
  obtain ⟨q1, q2⟩ := M.se hr
  exact MOk.of_st (s := .final) rfl M.a (fun _ => ⟨q1, by rw [hD]; exact q2⟩) (fun z => absurd z (by decide)) (fun z => absurd z (by decide)) (fun z => absurd z (by decide)) (fun z => absurd z (by decide)) (fun z => absurd z (by decide)) (fun _ => h0) (fun z => absurd z (by decide))
theorem MOk.failed (M : MOk m t i D d) (hr : d.st ≠ .record) (h0 : D.st = .int 0 → D.fits = false) : MOk m' t i D { d with st := .failed } := by
  obtain ⟨q1, q2⟩ := M.se hr
  exact MOk.of_st (s := .failed) rfl M.a (fun _ => ⟨q1, q2⟩) (fun z => absurd z (by decide)) (fun z => absurd z (by decide)) (fun z => absurd z (by decide)) (fun z => absurd z (by decide)) (fun _ => h0) (fun z => absurd z (by decide)) (fun z => absurd z (by decide))
theorem MOk.init (m : Mem) (t : Int) (i : Nat) (D : Deed) : MOk m t i D (DS.init (Ad i)) :=
  MOk.of_st (s := .record) rfl rfl (fun z => absurd rfl z) (fun _ => rfl) (fun z => absurd z (by decide)) (fun z => absurd z (by decide)) (fun z => absurd z (by decide)) (fun z => absurd z (by decide)) (fun z => absurd z (by decide)) (fun z => absurd z (by decide))
/-- the last phase, one request further -/
theorem MOk.last (M : MOk m t i D d) (hs : d.st = .last) {k : Nat} (L : LastOk m' t i D { d with left := (d.lasts D.st).drop k } k) : MOk m' t i D { d with left := (d.lasts D.st).drop k } := by
  have hr : d.st ≠ .record := by rw [hs]; decide
  obtain ⟨q1, q2⟩ := M.se hr
  obtain ⟨h0, hv, _⟩ := M.la hs
  exact MOk.of_st (s := .last) hs M.a (fun _ => ⟨q1, q2⟩) (fun z => absurd z (by decide)) (fun z => absurd z (by decide)) (fun z => absurd z (by decide)) (fun z => absurd z (by decide)) (fun z => absurd z (by decide)) (fun z => absurd z (by decide)) (fun _ => ⟨h0, hv, k, L⟩)
theorem lasts_same {d : DS} {a b : TV} {l : List Req} {s : St} : ({ d with v := a, left := l, st := s } : DS).lasts b = d.lasts b := rfl
theorem MOk.toLast (M : MOk m t i D d) (hr : d.st ≠ .record) (h0 : D.st ≠ .int 0) : MOk m' t i D { d with v := D.st, left := d.lasts D.st, st := .last } := by
  obtain ⟨q1, q2⟩ := M.se hr
  refine MOk.of_st (s := .last) rfl M.a (fun _ => ⟨q1, q2⟩) (fun z => absurd z (by decide)) (fun z => absurd z (by decide)) (fun z => absurd z (by decide)) (fun z => absurd z (by decide)) (fun z => absurd z (by decide)) (fun z => absurd z (by decide)) (fun _ => ⟨h0, rfl, 0, ?_⟩)
  exact ⟨by omega, rfl, fun z => by omega, fun z => by omega, fun _ j e _ z => by omega, fun _ j e _ z => by omega⟩
/-! ### the last phase's notes -/
theorem note_here (m : Mem) (t c : Int) {P : TV → Prop} (hp : 0 < (m.tr c).length) (hP : P (m.last c)) : NoteSuf (m.tick.note t c) t c P := by
  refine ⟨((m.tr c).length : Int) - 1, ?_, by omega, ?_, fun v hv => ?_⟩
  · show (upC m.nt t _) t c = _
    rw [upC_same, upC_same]; rfl
  · show ((m.tr c).length : Int) - 1 < (m.tr c).length
    omega
  · have hv : v ∈ (m.tr c).drop (((m.tr c).length : Int) - 1).toNat := hv
    have e : (((m.tr c).length : Int) - 1).toNat = (m.tr c).length - 1 := by omega
    rw [e] at hv
    have hl : (m.tr c).drop ((m.tr c).length - 1) = [m.last c] := by
      unfold Mem.last
      rcases List.eq_nil_or_concat (m.tr c) with q | ⟨l, a, q⟩
      · rw [q] at hp; simp at hp
      · rw [q, List.concat_eq_append, lastD_app]
        simp
    rw [hl] at hv
    have : v = m.last c := by simpa using hv
    rw [this]; exact hP
theorem note_keep {u c x : Int} {P : TV → Prop} (q : NoteSuf m u x P) (h : x ≠ c ∨ u ≠ t) : NoteSuf (m.tick.note t c) u x P := by
  obtain ⟨p, h1, h2, h3, h4⟩ := q
  refine ⟨p, ?_, h2, h3, h4⟩
  show (upC m.nt t _) u x = some p
  by_cases hu : u = t
  · subst hu
    rw [upC_same, upC_ne (h.resolve_right fun z => z rfl)]
    exact h1
  · rw [upC_ne hu]; exact h1
theorem fence_note {c : Int} {P : TV → Prop} (q : NoteSuf m t c P) : ∀ v ∈ (m.tick.fence t).tr c, P v := by
  obtain ⟨p, h1, h2, h3, h4⟩ := q
  intro v hv
  have hv : v ∈ (m.tr c).drop (m.fenceS t c) := hv
  unfold Mem.fenceS at hv
  rw [h1] at hv
  simp only at hv
  rw [clip_eq h2 h3] at hv
  exact h4 v hv
end
end DkM

set_option linter.all false
set_option maxHeartbeats 2000000
namespace DkM
/-- what the law's look behind a step comes to: ds1, sh' -/
inductive Dec (m : Mem) (ds : List Deed) (sh : Int → Int) : List Deed → (Int → Int) → Prop
  | same : (∀ (i : Nat) (D : Deed), ds[i]? = some D → m.last (Sc i) = D.st) → Dec m ds sh ds sh
  | fail (i : Nat) (D : Deed) : ds[i]? = some D → D.st = .int 0 → D.fits = false → m.last (Sc i) = .fai m.cnt → (∀ (j : Nat) (E : Deed), j ≠ i → ds[j]? = some E → m.last (Sc j) = E.st) → Dec m ds sh (ds.set i { D with st := .fai m.cnt }) sh
  | done (i : Nat) (D : Deed) : ds[i]? = some D → D.st = .int 0 → (∀ e ∈ D.es, sh e.1 = e.2.1) → m.last (Sc i) = .don m.cnt → (∀ (j : Nat) (E : Deed), j ≠ i → ds[j]? = some E → m.last (Sc j) = E.st) →
      Dec m ds sh (ds.set i { D with st := .don m.cnt }) (shUp D.es sh)
def Past (m : Mem) (i : Nat) (D : Deed) : Prop := D.st ≠ .int 0 ∧ (isDon D.st = true → ∀ e ∈ D.es, ∀ v ∈ m.tr e.1, NB i e v)
/-- who is responsible behind a step of the top machine d -/
def RT (m m' : Mem) (ds' : List Deed) (d : DS) (rest l' : List DS) : Prop :=
  ∀ (j : Nat) (E : Deed) (e : Ent), ds'[j]? = some E → e ∈ E.es → m'.last e.1 = mkA j e →
    (m.last e.1 = mkA j e ∧ ∀ x ∈ d :: rest, RespM j E e x → ∃ y ∈ l', RespM j E e y) ∨ ∃ y ∈ l', RespM j E e y
structure CoreW (m : Mem) (ds : List Deed) (sh : Int → Int) (dn : Int → List Nat) (t : Int) (d : DS) (rest : List DS) (i : Nat) (m' : Mem) (l' : List DS) (ds1 : List Deed) (sh' : Int → Int) (dn' : Int → List Nat) : Prop where
  dec : Dec m' ds sh ds1 sh'
  inv : Inv m' (fitUp sh' ds1) sh' dn'
  ev : Ev m ds m' (fitUp sh' ds1) t
  stk : StkOk m' (fitUp sh' ds1) t l'
  rt : RT m m' (fitUp sh' ds1) d rest l'
  past : l' = [] → ∀ D' : Deed, (fitUp sh' ds1)[i]? = some D' → Past m' i D'
def Core (m : Mem) (ds : List Deed) (sh : Int → Int) (dn : Int → List Nat) (t : Int) (d : DS) (rest : List DS) (i : Nat) (m' : Mem) (l' : List DS) : Prop :=
  ∃ (ds1 : List Deed) (sh' : Int → Int) (dn' : Int → List Nat), CoreW m ds sh dn t d rest i m' l' ds1 sh' dn'
section
variable {m m' : Mem} {ds ds' : List Deed} {sh : Int → Int} {dn : Int → List Nat} {t : Int} {i : Nat} {D D' : Deed} {d : DS} {rest l' : List DS}
theorem core_same (I : Inv m' ds sh dn) (E : Ev m ds m' ds t) (S : StkOk m' ds t l') (R : RT m m' ds d rest l') (hp : l' = [] → ∀ D' : Deed, ds[i]? = some D' → Past m' i D') : Core m ds sh dn t d rest i m' l' := by
  refine ⟨ds, sh, dn, ?_⟩
  have e := I.fitid
  exact ⟨.same fun j F h => I.sl j F h, by rw [e]; exact I, by rw [e]; exact E, by rw [e]; exact S, by rw [e]; exact R, by rw [e]; exact hp⟩
/-- the top machine is replaced by another of the same deed, nothing else of the stack changes -/
theorem ns {d : DS} {s : St} (h : d.st = s) (q : s ≠ .help ∧ s ≠ .fin) : d.st ≠ .help ∧ d.st ≠ .fin := by rw [h]; exact q
theorem ns_pass (d : DS) : d.pass.st ≠ .help ∧ d.pass.st ≠ .fin := by rcases pass_st d with q | q <;> rw [q] <;> decide
theorem stk_top (E : Ev m ds m' ds' t) (hD : ds[i]? = some D) (hD' : ds'[i]? = some D') {d' : DS} (M : MOk m' t i D' d') (n : d'.st ≠ .help ∧ d'.st ≠ .fin) (L : Low m ds t i D rest) : StkOk m' ds' t (d' :: rest) :=
  ⟨n.1, n.2, i, D', hD', M, L.ev E hD hD'⟩
/-- responsibility when only the top changes and no mark is new -/
theorem rt_top {d' : DS} (hl : ∀ (j : Nat) (F : Deed) (e : Ent), ds'[j]? = some F → e ∈ F.es → m'.last e.1 = mkA j e → m.last e.1 = mkA j e)
    (hr : ∀ (j : Nat) (F : Deed) (e : Ent), ds'[j]? = some F → e ∈ F.es → m'.last e.1 = mkA j e → RespM j F e d → RespM j F e d') : RT m m' ds' d rest (d' :: rest) := fun j F e hF he hm =>
  .inl ⟨hl j F e hF he hm, fun x hx r => by
    rcases List.mem_cons.mp hx with rfl | hx
    · exact ⟨d', List.mem_cons_self, hr j F e hF he hm r⟩
    · exact ⟨x, List.mem_cons_of_mem _ hx, r⟩⟩
theorem resp_ix {F : Deed} {j : Nat} {e : Ent} {d' : DS} (r : RespM j F e d) (ha : d'.a = d.a) (hx : d.ix ≤ d'.ix) (hl : d.st ≠ .last) (hs : d'.st = .word ∨ d'.st = .swap ∨ d'.st = .help ∨ d'.st = .done ∨ d'.st = .failed ∨ d'.st = .final) : RespM j F e d' := by
  obtain ⟨r1, r2⟩ := r
  refine ⟨by rw [ha]; exact r1, .inl ⟨hs, ?_⟩⟩
  rcases r2 with ⟨_, r2⟩ | ⟨r2, _⟩
  · exact take_mono hx r2
  · exact absurd r2 hl
theorem resp_no {F : Deed} {j : Nat} {e : Ent} (hs : d.st = .record ∨ d.st = .status) (r : RespM j F e d) : False := by
  rcases r.2 with ⟨q, _⟩ | ⟨q, _⟩
  · rcases hs with h | h <;> rw [h] at q <;> exact absurd q (by decide)
  · rcases hs with h | h <;> rw [h] at q <;> exact absurd q (by decide)
theorem Ev.und0 (E : Ev m ds m' ds t) (hD : ds[i]? = some D) (h0 : D.st = .int 0) {e : Ent} (he : e ∈ D.es) (q : m.last e.1 = mkA i e) : m'.last e.1 = mkA i e := E.e2 i D D e hD hD h0 he q
theorem drop_k {l : List Req} {a b : Nat} (h : l.drop a = l.drop b) (ha : a < l.length) (hb : b ≤ l.length) : a = b := by
  have := congrArg List.length h
  rw [List.length_drop, List.length_drop] at this
  omega
/-- in the last phase: how far it is -/
theorem resp_last {F : Deed} {j : Nat} {e : Ent} (hD : ds[i]? = some D) (hF : ds[j]? = some F) (M : MOk m t i D d) (hs : d.st = .last) {k : Nat} (L : LastOk m t i D d k) (r : RespM j F e d) :
    j = i ∧ F = D ∧ ∃ jj : Nat, D.es[jj]? = some e ∧ k ≤ 2 + jj := by
  obtain ⟨r1, r2⟩ := r
  have ji : j = i := by
    rw [M.a] at r1
    unfold Ad at r1; omega
  subst ji
  have := Option.some.inj (hF.symm.trans hD)
  subst this
  refine ⟨rfl, rfl, ?_⟩
  rcases r2 with ⟨q, _⟩ | ⟨_, _, jj, k', h1, h2, h3⟩
  · rw [hs] at q; exact absurd q (by decide)
  · have hj := (List.getElem?_eq_some_iff.mp h1).1
    obtain ⟨q1, q2⟩ := M.se (by rw [hs]; decide)
    have hl := lasts_len d F.st
    rw [q2] at hl
    have lt := L.lt
    rw [L.left] at h2
    have := drop_k h2 (by omega) (by omega)
    exact ⟨jj, h1, by omega⟩
theorem resp_left {e : Ent} (hs : d.st = .last) (ha : d.a = Ad i) (h0 : D.st ≠ .int 0) {jj k : Nat} (h : D.es[jj]? = some e) (hk : k ≤ 2 + jj) : RespM i D e { d with left := (d.lasts D.st).drop k } :=
  ⟨ha, .inr ⟨hs, h0, jj, k, h, rfl, hk⟩⟩
theorem LastOk.stepk {k : Nat} (M : MOk m t i D d) (hs : d.st = .last) (E : Ev m ds m' ds t) (hD : ds[i]? = some D) (L : LastOk m t i D d k) (lt : k + 1 ≤ 2 * D.es.length + 2) (h1 : k + 1 = 1 → NoteSuf m' t (Sc i) (fun v => v = D.st)) (h2 : k + 1 = 2 → m'.fst (Sc i) = D.st)
    (h3 : isDon D.st = true → ∀ (j : Nat) (e : Ent), D.es[j]? = some e → k = 2 + j → m'.last e.1 ≠ mkA i e)
    (h4 : isDon D.st = true → ∀ (j : Nat) (e : Ent), D.es[j]? = some e → 2 + D.es.length + j < k + 1 → NoteSuf m' t e.1 (NB i e)) :
    LastOk m' t i D { d with left := (d.lasts D.st).drop (k + 1) } (k + 1) := by
  obtain ⟨h0, _⟩ := M.la hs
  exact {
    lt := lt
    left := rfl
    h1 := h1
    h2 := fun hk => by
      by_cases c : k + 1 = 2
      · exact h2 c
      · exact E.e3 i D hD h0 (L.h2 (by omega))
    h3 := fun hd j e he hk => by
      by_cases c : k = 2 + j
      · exact h3 hd j e he c
      · exact E.e4 i D e hD hd (List.mem_of_getElem? he) (L.h3 hd j e he (by omega))
    h4 := h4 }
theorem step_core (I : Inv m ds sh dn) (hD : ds[i]? = some D) (M : MOk m t i D d) (L : Low m ds t i D rest) (O : Out m ds sh t d rest i D m' l') : Core m ds sh dn t d rest i m' l' := by
  cases O with
  | record hs =>
    refine core_same (I.same (sameM_tick m)) (ev_tick m ds t) (stk_top (ev_tick m ds t) hD hD ?_ (ns (s := .status) rfl (by decide)) L) (rt_top (fun j F e _ _ h => h) fun j F e _ _ _ r => (resp_no (.inl hs) r).elim) fun h => by cases h
    exact MOk.of_st (s := .status) rfl M.a (fun _ => ⟨rfl, rfl⟩) (fun _ => M.ix0 (.inl hs)) (fun z => absurd z (by decide)) (fun z => absurd z (by decide)) (fun z => absurd z (by decide)) (fun z => absurd z (by decide)) (fun z => absurd z (by decide)) (fun z => absurd z (by decide))
  | statusW hs h0 =>
    refine core_same (I.same (sameM_tick m)) (ev_tick m ds t) (stk_top (ev_tick m ds t) hD hD ?_ (ns (s := .word) rfl (by decide)) L) (rt_top (fun j F e _ _ h => h) fun j F e _ _ _ r => (resp_no (.inr hs) r).elim) fun h => by cases h
    have ix := M.ix0 (.inr hs)
    have hl := List.length_pos_iff.mpr (I.es i D hD).ne
    exact M.word (m' := m.tick) (by rw [hs]; decide) (by omega) (fun _ x hx => by rw [ix] at hx; cases hx) (.inl rfl)
  | statusL hs h0 =>
    have hr : d.st ≠ .record := by rcases hs with q | q <;> rw [q] <;> decide
    refine core_same (I.same (sameM_tick m)) (ev_tick m ds t) (stk_top (ev_tick m ds t) hD hD (M.toLast hr h0) (ns (s := .last) rfl (by decide)) L) (rt_top (fun j F e _ _ h => h) fun j F e hF he _ r => ?_) fun h => by cases h
    have ji : j = i := by
      have := r.1
      rw [M.a] at this
      unfold Ad at this; omega
    subst ji
    have := Option.some.inj (hF.symm.trans hD)
    subst this
    obtain ⟨jj, hj⟩ := List.getElem?_of_mem he
    exact ⟨M.a, .inr ⟨rfl, h0, jj, 0, hj, rfl, Nat.zero_le _⟩⟩
  | wordP e hs he hm =>
    have hem := List.mem_of_getElem? he
    refine core_same (I.same (sameM_tick m)) (ev_tick m ds t) (stk_top (ev_tick m ds t) hD hD (M.pass (.inl hs) he fun h0 x hx => ?_) (ns_pass d) L) (rt_top (fun j F e _ _ h => h) fun j F e _ _ _ r => resp_ix r rfl (Nat.le_succ _) (by rw [hs]; decide) (by rcases pass_st d with q | q <;> rw [q] <;> decide)) fun h => by cases h
    rcases mem_take_succ he hx with q | q
    · exact M.pas (.inl hs) h0 x q
    · rw [q]; exact hm
  | wordS e hs he hm =>
    refine core_same (I.same (sameM_tick m)) (ev_tick m ds t) (stk_top (ev_tick m ds t) hD hD (M.word (m' := m.tick) (by rw [hs]; decide) (M.ix (.inl hs)) (M.pas (.inl hs)) (.inr (.inl rfl))) (ns (s := .swap) rfl (by decide)) L) (rt_top (fun j F e _ _ h => h) fun j F e _ _ _ r => resp_ix r rfl (Nat.le_refl _) (by rw [hs]; decide) (.inr (.inl rfl))) fun h => by cases h
  | wordH e j E f hs he hE hf hc hji hm =>
    have hem := List.mem_of_getElem? he
    have q2 := (M.se (by rw [hs]; decide)).2
    refine core_same (I.same (sameM_tick m)) (ev_tick m ds t) ⟨(ns (d := DS.init (Ad j)) (s := .record) rfl (by decide)).1, (ns (d := DS.init (Ad j)) (s := .record) rfl (by decide)).2, j, E, hE, MOk.init _ _ _ _, rfl, i, D, hD, M.word (m' := m.tick) (by rw [hs]; decide) (M.ix (.inl hs)) (M.pas (.inl hs)) (.inr (.inr rfl)), ⟨f, hf, ?_, fun _ => ?_⟩, L.ev (ev_tick m ds t) hD hD⟩ ?_ fun h => by cases h
    · rw [hc]
      have : ({ d with st := .help } : DS).ent = d.ent := rfl
      rw [this, ent_of q2 he]
    · show m.last f.1 = mkA j f
      rw [hc]; exact hm
    · intro k F x hF hx hmx
      refine .inl ⟨hmx, fun y hy r => ?_⟩
      rcases List.mem_cons.mp hy with rfl | hy
      · exact ⟨_, List.mem_cons_of_mem _ List.mem_cons_self, resp_ix r rfl (Nat.le_refl _) (by rw [hs]; decide) (.inr (.inr (.inl rfl)))⟩
      · exact ⟨y, List.mem_cons_of_mem _ (List.mem_cons_of_mem _ hy), r⟩
  | wordF e hs he hm hne =>
    have hem := List.mem_of_getElem? he
    refine core_same (I.same (sameM_tick m)) (ev_tick m ds t) (stk_top (ev_tick m ds t) hD hD (M.failed (by rw [hs]; decide) fun h0 => ?_) (ns (s := .failed) rfl (by decide)) L) (rt_top (fun j F e _ _ h => h) fun j F e _ _ _ r => resp_ix r rfl (Nat.le_refl _) (by rw [hs]; decide) (.inr (.inr (.inr (.inr (.inl rfl)))))) fun h => by cases h
    cases hf : D.fits with
    | false => rfl
    | true => exact absurd (I.fit i D e hD h0 hf hem) hne
  | swapY e hs he hm =>
    have hem := List.mem_of_getElem? he
    obtain ⟨h7, h10⟩ := I.w7 hD hem
    have nd : isDon D.st = false := by
      cases q : isDon D.st with
      | false => rfl
      | true => exact absurd hm (I.noold hD q hem)
    have hsh : sh e.1 = e.2.1 := (I.plain h7 h10 hm).symm
    have nomark : ∀ (j : Nat) (f : Ent), m.last e.1 ≠ mkA j f := fun j f q => by rw [hm] at q; exact mkA_int q.symm
    have I' : Inv (m.tick.give e.1 (mkA i e)) ds sh dn := by
      refine I.giveW h7 h10 (.inr ⟨i, D, e, hD, hem, rfl, rfl, by unfold DS.shown; rw [nd]; exact hsh, nd⟩) (fun j F f _ _ _ _ q => absurd q (nomark j f)) (fun j F f _ _ _ _ => nomark j f) fun j F f f' hF h0 hf hc hv hf' hlt => ?_
      obtain ⟨ji, _, _⟩ := mkA_inj hv
      subst ji
      have := Option.some.inj (hF.symm.trans hD)
      subst this
      have := (I.es i F hD).cell hem hf hc.symm
      subst this
      obtain ⟨a, ha, rfl⟩ := List.getElem_of_mem hf'
      obtain ⟨hb, eb⟩ := List.getElem?_eq_some_iff.mp he
      have lt : a < d.ix := by
        rcases Nat.lt_or_ge a d.ix with h | h
        · exact h
        · rcases Nat.eq_or_lt_of_le h with h | h
          · subst h; rw [eb] at hlt; omega
          · have := (List.pairwise_iff_getElem.mp (I.es i F hD).up) d.ix a hb ha h
            rw [eb] at this; omega
      refine M.pas (.inr (.inl hs)) h0 _ ?_
      rw [List.mem_take_iff_getElem]
      exact ⟨a, by omega, rfl⟩
    have E : Ev m ds (m.tick.give e.1 (mkA i e)) ds t := by
      refine ev_giveW I t h7 h10 (fun j F f _ _ _ _ => nomark j f) fun j F f hF hd hf hc _ => ⟨fun q => ?_, mkA_int⟩
      obtain ⟨ji, _, _⟩ := mkA_inj q
      subst ji
      have := Option.some.inj (hF.symm.trans hD)
      subst this
      rw [nd] at hd; cases hd
    refine core_same I' E (stk_top E hD hD (M.pass (.inr hs) he fun h0 x hx => ?_) (ns_pass d) L) ?_ fun h => by cases h
    · rcases mem_take_succ he hx with q | q
      · exact E.und0 hD h0 (List.mem_of_mem_take q) (M.pas (.inr (.inl hs)) h0 x q)
      · rw [q, give_last]
    · intro j F x hF hx hmx
      by_cases c : x.1 = e.1
      · rw [c, give_last] at hmx
        obtain ⟨ji, _, _⟩ := mkA_inj hmx
        subst ji
        have := Option.some.inj (hF.symm.trans hD)
        subst this
        have := (I.es i F hD).cell hem hx c.symm
        subst this
        refine .inr ⟨_, List.mem_cons_self, M.a, .inl ⟨?_, take_succ_mem he⟩⟩
        rcases pass_st d with q | q <;> rw [q] <;> decide
      · rw [give_last_ne c] at hmx
        refine .inl ⟨hmx, fun y hy r => ?_⟩
        rcases List.mem_cons.mp hy with rfl | hy
        · exact ⟨_, List.mem_cons_self, resp_ix r rfl (Nat.le_succ _) (by rw [hs]; decide) (by rcases pass_st y with q | q <;> rw [q] <;> decide)⟩
        · exact ⟨y, List.mem_cons_of_mem _ hy, r⟩
  | swapN e hs he hm =>
    refine core_same (I.same (sameM_tick m)) (ev_tick m ds t) (stk_top (ev_tick m ds t) hD hD (M.word (m' := m.tick) (by rw [hs]; decide) (M.ix (.inr (.inl hs))) (M.pas (.inr (.inl hs))) (.inl rfl)) (ns (s := .word) rfl (by decide)) L) (rt_top (fun j F e _ _ h => h) fun j F e _ _ _ r => resp_ix r rfl (Nat.le_refl _) (by rw [hs]; decide) (.inl rfl)) fun h => by cases h
  | decF hs h0 =>
    have hf := M.fl hs h0
    have I' := I.decF hD h0
    have E := ev_decF I t hD h0 (.fai (m.cnt + 1))
    have e := I'.fitid
    refine ⟨ds.set i { D with st := .fai (m.cnt + 1) }, sh, dn, .fail i D hD h0 hf give_last fun j F hj hF => by rw [give_last_ne (sc_ne hj)]; exact I.sl j F hF, by rw [e]; exact I', by rw [e]; exact E, ?_, ?_, fun h => by cases h⟩
    · rw [e]
      exact stk_top E hD (set_at hD) (M.final (by rw [hs]; decide) rfl (by show TV.fai _ ≠ _; intro q; cases q)) (ns (s := .final) rfl (by decide)) L
    · rw [e]
      refine rt_top (fun j F x hF hx hm => ?_) fun j F x _ _ _ r => resp_ix r rfl (Nat.le_refl _) (by rw [hs]; decide) (.inr (.inr (.inr (.inr (.inr rfl)))))
      have : x.1 ≤ 10 := ((I'.es j F hF).at_ x hx).2.1
      rw [give_last_ne (sc_w this).1.symm] at hm
      exact hm
  | decD hs h0 =>
    have hix := M.dn hs
    have hall : ∀ e ∈ D.es, m.last e.1 = mkA i e := fun e he => M.pas (.inr (.inr (.inr hs))) h0 e (by rw [hix, List.take_length]; exact he)
    have I' := I.decD hD h0 hall
    have E := (ev_decF I t hD h0 (.don (m.cnt + 1))).fit (shUp D.es sh)
    refine ⟨ds.set i { D with st := .don (m.cnt + 1) }, shUp D.es sh, dnUp D.es i dn, .done i D hD h0 (fun e he => ?_) give_last fun j F hj hF => by rw [give_last_ne (sc_ne hj)]; exact I.sl j F hF, I', E, ?_, ?_, fun h => by cases h⟩
    · rw [I.mark hD he (hall e he)]; unfold DS.shown; rw [h0]; rfl
    · exact stk_top E hD (fitUp_at (set_at hD)) (M.final (by rw [hs]; decide) (by rw [fitD_es]) (by rw [fitD_st]; show TV.don _ ≠ _; intro q; cases q)) (ns (s := .final) rfl (by decide)) L
    · refine rt_top (fun j F x hF hx hm => ?_) fun j F x _ _ _ r => resp_ix r rfl (Nat.le_refl _) (by rw [hs]; decide) (.inr (.inr (.inr (.inr (.inr rfl)))))
      have : x.1 ≤ 10 := ((I'.es j F hF).at_ x hx).2.1
      rw [give_last_ne (sc_w this).1.symm] at hm
      exact hm
  | decN hs h0 =>
    have hr : d.st ≠ .record := by rcases hs with q | q <;> rw [q] <;> decide
    refine core_same (I.same (sameM_tick m)) (ev_tick m ds t) (stk_top (ev_tick m ds t) hD hD (M.final hr rfl h0) (ns (s := .final) rfl (by decide)) L) (rt_top (fun j F e _ _ h => h) fun j F e _ _ _ r => resp_ix r rfl (Nat.le_refl _) (by rcases hs with q | q <;> rw [q] <;> decide) (.inr (.inr (.inr (.inr (.inr rfl)))))) fun h => by cases h
  | flush0 hs K =>
    obtain ⟨h0, _⟩ := M.la hs
    obtain ⟨r1, r2, _, _⟩ := sc_rng (I.ilt hD)
    have hn : 0 < D.es.length := List.length_pos_iff.mpr (I.es i D hD).ne
    have E := ev_note m ds t (Sc i)
    have K' := K.stepk M hs E hD (by omega) (fun _ => note_here m t (Sc i) (I.tr_pos r1 r2) (I.sl i D hD)) (fun z => by omega) (fun _ j e _ z => by omega) fun _ j e _ z => by omega
    exact core_same (I.same (sameM_note m t (Sc i))) E (stk_top E hD hD (M.last hs K') (ns (s := .last) hs (by decide)) L) (rt_top (fun j F e _ _ h => h) fun j F e hF he hm r => by
      obtain ⟨rfl, rfl, jj, hj, hk⟩ := resp_last hD hF M hs K r
      exact resp_left hs M.a h0 hj (by omega)) fun h => by cases h
  | fence1 hs K =>
    obtain ⟨h0, _⟩ := M.la hs
    obtain ⟨r1, r2, _, _⟩ := sc_rng (I.ilt hD)
    have hn : 0 < D.es.length := List.length_pos_iff.mpr (I.es i D hD).ne
    have E := ev_fence I t
    have I' := I.drop (drop_fence I t)
    have K' := K.stepk M hs E hD (by omega) (fun z => by omega) (fun _ => fence_note (K.h1 rfl) _ (headD_mem (I'.ne (Sc i) r1 r2))) (fun _ j e _ z => by omega) fun _ j e _ z => by omega
    refine core_same I' E (stk_top E hD hD (M.last hs K') (ns (s := .last) hs (by decide)) L) (rt_top (fun j F e hF he h => ?_) fun j F e hF he hm r => ?_) fun h => by cases h
    · obtain ⟨h7, h10⟩ := I.w7 hF he
      rw [(drop_fence I t).last (by omega) (by omega)] at h; exact h
    · obtain ⟨rfl, rfl, jj, hj, hk⟩ := resp_last hD hF M hs K r
      exact resp_left hs M.a h0 hj (by omega)
  | clY j e hs K he hm =>
    have hem := List.mem_of_getElem? he
    obtain ⟨h7, h10⟩ := I.w7 hD hem
    obtain ⟨h0, _⟩ := M.la hs
    have hj := (List.getElem?_eq_some_iff.mp he).1
    have hsh := I.mark hD hem hm
    have I' : Inv (m.tick.give e.1 (.int (DS.shown D.st e))) ds sh dn := by
      refine I.giveW h7 h10 (.inl (by rw [hsh])) (fun a F f hF hd hf hc q => ?_) (fun a F f hF hz hf hc q => ?_) fun a F f f' _ _ _ _ q => absurd q.symm mkA_int
      · rw [hm] at q
        obtain ⟨rfl, _, _⟩ := mkA_inj q
        have := Option.some.inj (hF.symm.trans hD)
        subst this
        exact K.h2 (by omega)
      · rw [hm] at q
        obtain ⟨rfl, _, _⟩ := mkA_inj q
        have := Option.some.inj (hF.symm.trans hD)
        subst this
        exact h0 hz
    have E : Ev m ds (m.tick.give e.1 (.int (DS.shown D.st e))) ds t := by
      refine ev_giveW I t h7 h10 (fun a F f hF hz hf hc q => ?_) fun a F f hF hd hf hc _ => ⟨fun q => mkA_int q.symm, fun q => ?_⟩
      · rw [hm] at q
        obtain ⟨rfl, _, _⟩ := mkA_inj q
        have := Option.some.inj (hF.symm.trans hD)
        subst this
        exact h0 hz
      · injection q with q
        rw [← hsh, ← hc] at q
        exact I.noaba hF hd hf q
    have K' := K.stepk M hs E hD (by omega) (fun z => by omega) (fun z => by omega) (fun _ jj f hf z => by
      have : jj = j := by omega
      subst this
      have := Option.some.inj (hf.symm.trans he)
      subst this
      rw [give_last]; exact fun q => mkA_int q.symm) fun _ jj f hf z => by omega
    refine core_same I' E (stk_top E hD hD (M.last hs K') (ns (s := .last) hs (by decide)) L) (rt_top (fun a F f hF hf h => ?_) fun a F f hF hf hmf r => ?_) fun h => by cases h
    · by_cases c : f.1 = e.1
      · rw [c, give_last] at h; exact absurd h.symm mkA_int
      · rw [give_last_ne c] at h; exact h
    · obtain ⟨rfl, rfl, jj, hjj, hk⟩ := resp_last hD hF M hs K r
      have : jj ≠ j := fun z => by
        subst z
        have := Option.some.inj (hjj.symm.trans he)
        subst this
        rw [give_last] at hmf; exact mkA_int hmf.symm
      exact resp_left hs M.a h0 hjj (by omega)
  | clN j e hs K he hm =>
    obtain ⟨h0, _⟩ := M.la hs
    have hj := (List.getElem?_eq_some_iff.mp he).1
    have E := ev_tick m ds t
    have K' := K.stepk M hs E hD (by omega) (fun z => by omega) (fun z => by omega) (fun _ jj f hf z => by
      have : jj = j := by omega
      subst this
      have := Option.some.inj (hf.symm.trans he)
      subst this
      exact hm) fun _ jj f hf z => by omega
    refine core_same (I.same (sameM_tick m)) E (stk_top E hD hD (M.last hs K') (ns (s := .last) hs (by decide)) L) (rt_top (fun a F f hF hf h => h) fun a F f hF hf hmf r => ?_) fun h => by cases h
    obtain ⟨rfl, rfl, jj, hjj, hk⟩ := resp_last hD hF M hs K r
    have : jj ≠ j := fun z => by
      subst z
      have := Option.some.inj (hjj.symm.trans he)
      subst this
      exact hm hmf
    exact resp_left hs M.a h0 hjj (by omega)
  | flW j e hs K he =>
    have hem := List.mem_of_getElem? he
    obtain ⟨h7, h10⟩ := I.w7 hD hem
    obtain ⟨h0, _⟩ := M.la hs
    have hj := (List.getElem?_eq_some_iff.mp he).1
    have E := ev_note m ds t e.1
    have K' := K.stepk M hs E hD (by omega) (fun z => by omega) (fun z => by omega) (fun _ jj f hf z => by
      have := (List.getElem?_eq_some_iff.mp hf).1
      omega) fun hd jj f hf z => by
        by_cases c : jj = j
        · subst c
          have := Option.some.inj (hf.symm.trans he)
          subst this
          exact note_here m t f.1 (I.tr_pos (by omega) (by omega)) ⟨K.h3 hd jj f hf (by omega), I.noold hD hd hem⟩
        · have n := K.h4 hd jj f hf (by omega)
          refine note_keep n (.inl fun q => ?_)
          have := (I.es i D hD).cell (List.mem_of_getElem? hf) hem q
          subst this
          obtain ⟨a1, b1⟩ := List.getElem?_eq_some_iff.mp hf
          obtain ⟨a2, b2⟩ := List.getElem?_eq_some_iff.mp he
          rcases Nat.lt_trichotomy jj j with h | h | h
          · have := (List.pairwise_iff_getElem.mp (I.es i D hD).up) jj j a1 a2 h
            rw [b1, b2] at this; omega
          · exact c h
          · have := (List.pairwise_iff_getElem.mp (I.es i D hD).up) j jj a2 a1 h
            rw [b1, b2] at this; omega
    refine core_same (I.same (sameM_note m t e.1)) E (stk_top E hD hD (M.last hs K') (ns (s := .last) hs (by decide)) L) (rt_top (fun a F f hF hf h => h) fun a F f hF hf hmf r => ?_) fun h => by cases h
    obtain ⟨rfl, rfl, jj, hjj, hk⟩ := resp_last hD hF M hs K r
    have := (List.getElem?_eq_some_iff.mp hjj).1
    omega
  | fin hs K =>
    obtain ⟨h0, _⟩ := M.la hs
    have E := ev_fence I t
    have I' := I.drop (drop_fence I t)
    have R : RT m (m.tick.fence t) ds d rest (pop rest) := by
      intro a F f hF hf hmf
      obtain ⟨h7, h10⟩ := I.w7 hF hf
      rw [(drop_fence I t).last (by omega) (by omega)] at hmf
      refine .inl ⟨hmf, fun x hx r => ?_⟩
      rcases List.mem_cons.mp hx with rfl | hx
      · obtain ⟨rfl, rfl, jj, hjj, hk⟩ := resp_last hD hF M hs K r
        have := (List.getElem?_eq_some_iff.mp hjj).1
        omega
      · cases rest with
        | nil => cases hx
        | cons l r' =>
          rcases List.mem_cons.mp hx with rfl | hx
          · obtain ⟨hst, _⟩ := L
            exact ⟨_, List.mem_cons_self, resp_ix r rfl (Nat.le_refl _) (by rw [hst]; decide) (.inl rfl)⟩
          · exact ⟨x, List.mem_cons_of_mem _ hx, r⟩
    refine core_same I' E ?_ R fun _ D' hD' => ?_
    · cases rest with
      | nil => trivial
      | cons l r' =>
        have L' := L.ev E hD hD
        obtain ⟨hst, j, F, hF, Ml, _, L2⟩ := L'
        exact ⟨(ns (s := .word) rfl (by decide)).1, (ns (s := .word) rfl (by decide)).2, j, F, hF, Ml.word (by rw [hst]; decide) (Ml.ix (.inr (.inr hst))) (Ml.pas (.inr (.inr (.inl hst)))) (.inl rfl), L2⟩
    · have := Option.some.inj (hD'.symm.trans hD)
      subst this
      refine ⟨h0, fun hd e he v hv => ?_⟩
      obtain ⟨jj, hjj⟩ := List.getElem?_of_mem he
      have := (List.getElem?_eq_some_iff.mp hjj).1
      exact fence_note (K.h4 hd jj e hjj (by omega)) v hv
end
end DkM

set_option linter.all false
set_option maxHeartbeats 2000000
namespace DkM
structure Good (m : Mem) (ds : List Deed) (sh : Int → Int) (dn : Int → List Nat) (stk : Int → List DS) (doing : Int → Int) : Prop where
  inv : Inv m ds sh dn
  so : ∀ (t : Int), 0 ≤ t → t < 3 → StkOk m ds t (stk t)
  resp : Resp m ds stk
  bot : ∀ (t : Int), 0 ≤ t → t < 3 → stk t ≠ [] → ∃ i : Nat, i < ds.length ∧ doing t = Ad i ∧ (stk t).getLast?.map DS.a = some (Ad i)
section
variable {m m' : Mem} {ds ds' : List Deed} {sh : Int → Int} {dn : Int → List Nat} {stk : Int → List DS} {doing : Int → Int} {t : Int} {i : Nat} {D D' : Deed} {d : DS} {rest l' : List DS}
theorem RespM.ev {E E' : Deed} {j : Nat} {e : Ent} {x : DS} (r : RespM j E e x) (h1 : E'.es = E.es) (h2 : E.st ≠ .int 0 → E'.st = E.st) : RespM j E' e x := by
  obtain ⟨ha, r⟩ := r
  refine ⟨ha, ?_⟩
  rcases r with ⟨p, q⟩ | ⟨p, h0, jj, k, q1, q2, q3⟩
  · exact .inl ⟨p, by rw [h1]; exact q⟩
  · have := h2 h0
    exact .inr ⟨p, by rw [this]; exact h0, jj, k, by rw [h1]; exact q1, by rw [this]; exact q2, q3⟩
theorem out_bot (O : Out m ds sh t d rest i D m' l') : l' = [] ∨ l'.getLast?.map DS.a = (d :: rest).getLast?.map DS.a := by
  have top : ∀ d' : DS, d'.a = d.a → (d' :: rest).getLast?.map DS.a = (d :: rest).getLast?.map DS.a := fun d' h => by
    cases rest with
    | nil => simp [h]
    | cons a r => simp [List.getLast?_cons_cons]
  cases O
  case wordH => exact .inr (by rw [List.getLast?_cons_cons]; exact top _ rfl)
  case fin =>
    cases rest with
    | nil => exact .inl rfl
    | cons a r =>
      refine .inr ?_
      rw [List.getLast?_cons_cons]
      cases r with
      | nil => rfl
      | cons b r => simp [pop, List.getLast?_cons_cons]
  all_goals exact .inr (top _ rfl)
theorem fin_rest (O : Out m ds sh t d rest i D m' []) : rest = [] := by
  generalize hl : ([] : List DS) = l at O
  cases O
  case fin =>
    cases rest with
    | nil => rfl
    | cons a r => cases hl
  all_goals cases hl
theorem fin_ne (O : Out m ds sh t d rest i D m' []) (M : MOk m t i D d) : D.st ≠ .int 0 := by
  generalize hl : ([] : List DS) = l at O
  cases O
  case fin hst K => exact (M.la hst).1
  all_goals cases hl
theorem resp_step (R : Resp m ds stk) (E : Ev m ds m' ds' t) (h0 : 0 ≤ t) (h3 : t < 3) (hs : stk t = d :: rest) (T : RT m m' ds' d rest l') (hes : ∀ (j : Nat) (F' : Deed), ds'[j]? = some F' → ∃ F : Deed, ds[j]? = some F) : Resp m' ds' (upC stk t l') := by
  intro j F' e hF' he hm
  obtain ⟨F, hF⟩ := hes j F' hF'
  obtain ⟨q1, q2, _⟩ := E.get hF hF'
  have lift : ∀ y ∈ l', RespM j F' e y → ∃ (u : Int) (x : DS), 0 ≤ u ∧ u < 3 ∧ x ∈ upC stk t l' u ∧ RespM j F' e x := fun y hy r => ⟨t, y, h0, h3, by rw [upC_same]; exact hy, r⟩
  rcases T j F' e hF' he hm with ⟨hold, hk⟩ | ⟨y, hy, r⟩
  · obtain ⟨u, x, hu0, hu3, hx, r⟩ := R j F e hF (by rw [← q1]; exact he) hold
    have r' := r.ev q1 q2
    by_cases c : u = t
    · subst c
      rw [hs] at hx
      obtain ⟨y, hy, ry⟩ := hk x hx r'
      exact lift y hy ry
    · exact ⟨u, x, hu0, hu3, by rw [upC_ne c]; exact hx, r'⟩
  · exact lift y hy r
theorem dec_len {ds1 : List Deed} {sh' : Int → Int} (h : Dec m ds sh ds1 sh') : ds1.length = ds.length := by
  cases h
  · rfl
  · rw [List.length_set]
  · rw [List.length_set]
theorem fitUp_len (s : Int → Int) (l : List Deed) : (fitUp s l).length = l.length := by unfold fitUp; rw [List.length_map]
theorem get_of_len {ds ds' : List Deed} (h : ds'.length = ds.length) {j : Nat} {F' : Deed} (hF : ds'[j]? = some F') : ∃ F : Deed, ds[j]? = some F :=
  ⟨ds[j]'(by have := (List.getElem?_eq_some_iff.mp hF).1; omega), List.getElem?_eq_getElem _⟩
/-- THE STEP -/
structure StepW (m : Mem) (ds : List Deed) (sh : Int → Int) (stk : Int → List DS) (doing : Int → Int) (t : Int) (r : Mem × List DS × TV) (ds1 : List Deed) (sh' : Int → Int) (dn' : Int → List Nat) : Prop where
  dec : Dec r.1 ds sh ds1 sh'
  good : Good r.1 (fitUp sh' ds1) sh' dn' (upC stk t r.2.1) doing
  past : r.2.1 = [] → ∃ (i : Nat) (D' : Deed), doing t = Ad i ∧ (fitUp sh' ds1)[i]? = some D' ∧ r.2.2 = D'.st ∧ Past r.1 i D'
theorem step_good (G : Good m ds sh dn stk doing) (h0 : 0 ≤ t) (h3 : t < 3) (hs : stk t = d :: rest) : ∃ (ds1 : List Deed) (sh' : Int → Int) (dn' : Int → List Nat), StepW m ds sh stk doing t (step1 m t d rest) ds1 sh' dn' := by
  have S := G.so t h0 h3
  rw [hs] at S
  obtain ⟨n1, n2, i, D, hD, M, L⟩ := S
  obtain ⟨O, hv⟩ := out_of (rest := rest) G.inv hD M n1 n2
  obtain ⟨ds1, sh', dn', C⟩ := step_core G.inv hD M L O
  have hlen : (fitUp sh' ds1).length = ds.length := by rw [fitUp_len, dec_len C.dec]
  refine ⟨ds1, sh', dn', C.dec, ⟨C.inv, fun u hu0 hu3 => ?_, resp_step G.resp C.ev h0 h3 hs C.rt (fun j F' hF' => get_of_len hlen hF'), fun u hu0 hu3 hne => ?_⟩, fun hnil => ?_⟩
  · by_cases c : u = t
    · subst c; rw [upC_same]; exact C.stk
    · rw [upC_ne c]; exact (G.so u hu0 hu3).ev C.ev c
  · by_cases c : u = t
    · subst c
      rw [upC_same] at hne ⊢
      obtain ⟨b, hb, hd, hl⟩ := G.bot u hu0 hu3 (by rw [hs]; simp)
      refine ⟨b, by rw [hlen]; exact hb, hd, ?_⟩
      rcases out_bot O with q | q
      · exact absurd q hne
      · rw [q, ← hs]; exact hl
    · rw [upC_ne c] at hne ⊢
      obtain ⟨b, hb, hd, hl⟩ := G.bot u hu0 hu3 hne
      exact ⟨b, by rw [hlen]; exact hb, hd, hl⟩
  · obtain ⟨b, hb, hd, hl⟩ := G.bot t h0 h3 (by rw [hs]; simp)
    rw [hnil] at O
    have hr := fin_rest O
    subst hr
    rw [hs] at hl
    have hda : d.a = Ad b := by simpa using hl
    have bi : b = i := by
      rw [M.a] at hda
      unfold Ad at hda; omega
    subst bi
    obtain ⟨D', hD', e1, e2, _⟩ := C.ev.e1 b D hD
    have P := C.past hnil D' hD'
    refine ⟨b, D', hd, hD', ?_, P⟩
    rw [hv hnil]
    have hne : D.st ≠ .int 0 := fin_ne O M
    exact (e2 hne).symm
/-! ### a drift -/
theorem drift_good (G : Good m ds sh dn stk doing) (c k : Int) : Good (m.shorten c k) ds sh dn stk doing := by
  have E := fun u => ev_shorten G.inv c k u
  have dr := drop_shorten G.inv c k
  refine ⟨G.inv.drop dr, fun u h0 h3 => (G.so u h0 h3).ev (E (u + 1)) (by omega), fun j F e hF he hm => ?_, G.bot⟩
  obtain ⟨h7, h10⟩ := G.inv.w7 hF he
  rw [dr.last (by omega) (by omega)] at hm
  exact G.resp j F e hF he hm
/-! ### a new doing of a deed that was begun -/
theorem start_good (G : Good m ds sh dn stk doing) (hi : i < ds.length) (hs : stk t = []) : Good m ds sh dn (upC stk t [DS.init (Ad i)]) (upC doing t (Ad i)) := by
  refine ⟨G.inv, fun u h0 h3 => ?_, fun j F e hF he hm => ?_, fun u h0 h3 hne => ?_⟩
  · by_cases c : u = t
    · subst c
      rw [upC_same]
      obtain ⟨D, hD⟩ : ∃ D : Deed, ds[i]? = some D := ⟨ds[i], List.getElem?_eq_getElem hi⟩
      exact ⟨(ns (d := DS.init (Ad i)) (s := .record) rfl (by decide)).1, (ns (d := DS.init (Ad i)) (s := .record) rfl (by decide)).2, i, D, hD, MOk.init _ _ _ _, trivial⟩
    · rw [upC_ne c]; exact G.so u h0 h3
  · obtain ⟨u, x, hu0, hu3, hx, r⟩ := G.resp j F e hF he hm
    have c : u ≠ t := fun z => by rw [z, hs] at hx; cases hx
    exact ⟨u, x, hu0, hu3, by rw [upC_ne c]; exact hx, r⟩
  · by_cases c : u = t
    · subst c
      rw [upC_same, upC_same]
      exact ⟨i, hi, rfl, rfl⟩
    · rw [upC_ne c] at hne ⊢
      rw [upC_ne c]
      exact G.bot u h0 h3 hne
/-! ### all ended: the words hold what they show -/
theorem words_plain (G : Good m ds sh dn stk doing) (hs : ∀ (t : Int), 0 ≤ t → t < 3 → stk t = []) {w : Int} (h7 : 7 ≤ w) (h10 : w ≤ 10) : m.last w = .int (sh w) := by
  rcases G.inv.wd w h7 h10 with q | ⟨i, D, e, hD, he, hw, hm, _⟩
  · exact q
  · rw [← hw] at hm
    obtain ⟨u, x, h0, h3, hx, _⟩ := G.resp i D e hD he hm
    rw [hs u h0 h3] at hx; cases hx
end
end DkM

set_option linter.all false
set_option maxHeartbeats 2000000
namespace DkM
/-- the accesses that make a new deed last -/
def beginM (m : Mem) (t : Int) (n : Nat) (es : List Ent) (th nu : Int) : Mem :=
  (((((m.tick.give (Sc n) (.int 0)).tick.give (Ad n) (.deed (Sc n) es th nu)).tick.note t (Ad n)).tick.note t (Sc n)).tick.fence t)
section
variable {m m' : Mem} {ds ds' : List Deed} {sh : Int → Int} {dn : Int → List Nat} {stk : Int → List DS} {doing : Int → Int} {t : Int} {n : Nat} {es : List Ent}
theorem Inv.giveX (I : Inv m ds sh dn) {c : Int} {v : TV} (hc : 10 < c) (hs : ∀ i : Nat, i < ds.length → Sc i ≠ c ∧ Ad i ≠ c) : Inv (m.tick.give c v) ds sh dn where
  n24 := I.n24
  ne := fun x h4 h2 => by
    by_cases h : x = c
    · rw [h, give_tr_same]; simp
    · rw [give_tr_ne h]; exact I.ne x h4 h2
  es := I.es
  rc := fun i D hD => by rw [give_last_ne (hs i (List.getElem?_eq_some_iff.mp hD).1).2]; exact I.rc i D hD
  sl := fun i D hD => by rw [give_last_ne (hs i (List.getElem?_eq_some_iff.mp hD).1).1]; exact I.sl i D hD
  sv := fun i D hD => by rw [give_tr_ne (hs i (List.getElem?_eq_some_iff.mp hD).1).1]; exact I.sv i D hD
  st := fun i D hD => by
    rcases I.st i D hD with q | ⟨t, q, l⟩ | q
    · exact .inl q
    · exact .inr (.inl ⟨t, q, by show t ≤ m.cnt + 1; omega⟩)
    · exact .inr (.inr q)
  dnd := I.dnd
  dna := I.dna
  dnn := I.dnn
  dnt := I.dnt
  dti := I.dti
  chain := I.chain
  shn := I.shn
  wd := fun w h7 h10 => by rw [give_last_ne (by omega)]; exact I.wd w h7 h10
  tr := fun w v h7 h10 hv => by rw [give_tr_ne (by omega)] at hv; exact I.tr w v h7 h10 hv
  kept := fun i D e hD hd he => by
    obtain ⟨h7, h10⟩ := I.w7 hD he
    rw [give_fst_ne (hs i (List.getElem?_eq_some_iff.mp hD).1).1, give_last_ne (by omega), give_tr_ne (by omega)]
    exact I.kept i D e hD hd he
  ord := fun i D e e' hD h0 he he' => by
    obtain ⟨h7, h10⟩ := I.w7 hD he
    obtain ⟨g7, g10⟩ := I.w7 hD he'
    rw [give_last_ne (by omega), give_last_ne (by omega)]
    exact I.ord i D e e' hD h0 he he'
  fit := I.fit
theorem ev_giveX (I : Inv m ds sh dn) {c : Int} {v : TV} (t : Int) (hc : 10 < c) (hs : ∀ i : Nat, i < ds.length → Sc i ≠ c ∧ Ad i ≠ c) : Ev m ds (m.tick.give c v) ds t where
  e1 := fun i D h => ⟨D, h, rfl, fun _ => rfl, fun z => z⟩
  e2 := fun i D D' e h _ _ he q => by
    obtain ⟨h7, h10⟩ := I.w7 h he
    rw [give_last_ne (by omega)]; exact q
  e3 := fun i D h _ q => by rw [give_fst_ne (hs i (List.getElem?_eq_some_iff.mp h).1).1]; exact q
  e4 := fun i D e h _ he q => by
    obtain ⟨h7, h10⟩ := I.w7 h he
    rw [give_last_ne (by omega)]; exact q
  e5 := fun u i D _ h _ q => q.give fun z => absurd z (hs i (List.getElem?_eq_some_iff.mp h).1).1
  e6 := fun u i D e _ h _ he _ q => q.give fun z => by
    obtain ⟨h7, h10⟩ := I.w7 h he
    omega
/-- one more deed -/
theorem Inv.ext (I : Inv m ds sh dn) (hn : ds.length < 24) {fits : Bool} {th nu : Int} (ho : EsOk ds.length es) (hr : m.last (Ad ds.length) = .deed (Sc ds.length) es th nu) (hs : m.tr (Sc ds.length) = [.int 0]) (hf : fits = true → ∀ e ∈ es, sh e.1 = e.2.1)
    (hfresh : ∀ e ∈ es, m.last e.1 ≠ mkA ds.length e) : Inv m (ds ++ [⟨es, .int 0, fits⟩]) sh dn := by
  have get : ∀ (i : Nat) (D : Deed), (ds ++ [⟨es, .int 0, fits⟩])[i]? = some D → ds[i]? = some D ∨ (i = ds.length ∧ D = ⟨es, .int 0, fits⟩) := fun i D h => by
    by_cases c : i < ds.length
    · rw [List.getElem?_append_left c] at h; exact .inl h
    · have hi := (List.getElem?_eq_some_iff.mp h).1
      rw [List.length_append] at hi
      simp at hi
      have e : i = ds.length := by omega
      subst e
      rw [List.getElem?_append_right (Nat.le_refl _), Nat.sub_self] at h
      exact .inr ⟨rfl, (Option.some.inj h).symm⟩
  have put : ∀ (i : Nat) (D : Deed), ds[i]? = some D → (ds ++ [(⟨es, .int 0, fits⟩ : Deed)])[i]? = some D := fun i D h => by
    rw [List.getElem?_append_left (List.getElem?_eq_some_iff.mp h).1]; exact h
  have don : ∀ (i : Nat) (D : Deed), (ds ++ [⟨es, .int 0, fits⟩])[i]? = some D → isDon D.st = true → ds[i]? = some D := fun i D h hd => by
    rcases get i D h with q | ⟨_, rfl⟩
    · exact q
    · cases hd
  exact {
    n24 := by rw [List.length_append]; simp; omega
    ne := I.ne
    es := fun i D h => by
      rcases get i D h with q | ⟨rfl, rfl⟩
      · exact I.es i D q
      · exact ho
    rc := fun i D h => by
      rcases get i D h with q | ⟨rfl, rfl⟩
      · exact I.rc i D q
      · exact ⟨th, nu, hr⟩
    sl := fun i D h => by
      rcases get i D h with q | ⟨rfl, rfl⟩
      · exact I.sl i D q
      · unfold Mem.last; rw [hs]; rfl
    sv := fun i D h => by
      rcases get i D h with q | ⟨rfl, rfl⟩
      · exact I.sv i D q
      · exact .inl hs
    st := fun i D h => by
      rcases get i D h with q | ⟨rfl, rfl⟩
      · exact I.st i D q
      · exact .inl rfl
    dnd := fun w i hi => by
      obtain ⟨D, e, h, r⟩ := I.dnd w i hi
      exact ⟨D, e, put i D h, r⟩
    dna := fun i D e h hd he => I.dna i D e (don i D h hd) hd he
    dnn := I.dnn
    dnt := fun w => by
      refine List.Pairwise.imp_of_mem (fun {a b} ha hb h => ?_) (I.dnt w)
      have tm : ∀ x, x ∈ dn w → tmD (ds ++ [⟨es, .int 0, fits⟩]) x = tmD ds x := fun x hx => by
        obtain ⟨D, e, h, _⟩ := I.dnd w x hx
        unfold tmD
        rw [put x D h, h]
      rw [tm a ha, tm b hb]; exact h
    dti := fun i j D E h h' hd he => by
      have a := don i D h hd
      exact I.dti i j D E a (don j E h' (by rw [← he]; exact hd)) hd he
    chain := fun w k i D e hk h he hw => by
      have hm := List.mem_of_getElem? hk
      obtain ⟨D0, _, h0, hd, _⟩ := I.dnd w i hm
      have : D = D0 := Option.some.inj (h.symm.trans (put i D0 h0))
      subst this
      exact I.chain w k i D e hk h0 he hw
    shn := I.shn
    wd := fun w h7 h10 => by
      rcases I.wd w h7 h10 with q | ⟨i, D, e, h, r⟩
      · exact .inl q
      · exact .inr ⟨i, D, e, put i D h, r⟩
    tr := fun w v h7 h10 hv => by
      rcases I.tr w v h7 h10 hv with q | ⟨i, D, e, h, r⟩
      · exact .inl q
      · exact .inr ⟨i, D, e, put i D h, r⟩
    kept := fun i D e h hd he => I.kept i D e (don i D h hd) hd he
    ord := fun i D e e' h h0 he he' hl hlt => by
      rcases get i D h with q | ⟨rfl, rfl⟩
      · exact I.ord i D e e' q h0 he he' hl hlt
      · exact absurd hl (hfresh e he)
    fit := fun i D e h h0 hfi he => by
      rcases get i D h with q | ⟨rfl, rfl⟩
      · exact I.fit i D e q h0 hfi he
      · exact hf hfi e he }
theorem ev_ext (D : Deed) (t : Int) : Ev m ds m (ds ++ [D]) t where
  e1 := fun i E h => ⟨E, by rw [List.getElem?_append_left (List.getElem?_eq_some_iff.mp h).1]; exact h, rfl, fun _ => rfl, fun z => z⟩
  e2 := fun i D D' e _ _ _ _ q => q
  e3 := fun i D _ _ q => q
  e4 := fun i D e _ _ _ q => q
  e5 := fun u i D _ _ _ q => q
  e6 := fun u i D e _ _ _ _ _ q => q
theorem note_fence {c : Int} (h : 0 < (m.tr c).length) : ((m.tick.note t c).tick.fence t).tr c = [m.last c] := by
  show (m.tr c).drop (Mem.fenceS (m.tick.note t c) t c) = _
  unfold Mem.fenceS
  have e : (m.tick.note t c).nt t c = some (((m.tr c).length : Int) - 1) := by
    show (upC m.nt t _) t c = _
    rw [upC_same, upC_same]; rfl
  rw [e]
  show (m.tr c).drop (clip (((m.tr c).length : Int) - 1) (m.tr c).length) = _
  rw [clip_eq (by omega) (by omega)]
  have e2 : (((m.tr c).length : Int) - 1).toNat = (m.tr c).length - 1 := by omega
  rw [e2]
  unfold Mem.last
  rcases List.eq_nil_or_concat (m.tr c) with q | ⟨l, a, q⟩
  · rw [q] at h; simp at h
  · rw [q, List.concat_eq_append, lastD_app]; simp
theorem begin_good (G : Good m ds sh dn stk doing) (hn : ds.length < 24) (h0 : 0 ≤ t) (h3 : t < 3) (hs : stk t = []) {fits : Bool} {th nu : Int} (ho : EsOk ds.length es) (hf : fits = true → ∀ e ∈ es, sh e.1 = e.2.1) :
    Good (beginM m t ds.length es th nu) (ds ++ [⟨es, .int 0, fits⟩]) sh dn (upC stk t [DS.init (Ad ds.length)]) (upC doing t (Ad ds.length)) := by
  have hS : ∀ i : Nat, i < ds.length → Sc i ≠ Sc ds.length ∧ Ad i ≠ Sc ds.length := fun i hi => by unfold Sc Ad; omega
  have hA : ∀ i : Nat, i < ds.length → Sc i ≠ Ad ds.length ∧ Ad i ≠ Ad ds.length := fun i hi => by unfold Sc Ad; omega
  have cS : 10 < Sc ds.length := by unfold Sc; omega
  have cA : 10 < Ad ds.length := by unfold Ad; omega
  have I1 : Inv (m.tick.give (Sc ds.length) (.int 0)) ds sh dn := G.inv.giveX cS hS
  have E1 : Ev m ds (m.tick.give (Sc ds.length) (.int 0)) ds t := ev_giveX G.inv t cS hS
  have I2 : Inv ((m.tick.give (Sc ds.length) (.int 0)).tick.give (Ad ds.length) (.deed (Sc ds.length) es th nu)) ds sh dn := I1.giveX cA hA
  have E2 : Ev _ ds ((m.tick.give (Sc ds.length) (.int 0)).tick.give (Ad ds.length) (.deed (Sc ds.length) es th nu)) ds t := ev_giveX I1 t cA hA
  have I3 := I2.same (sameM_note _ t (Ad ds.length))
  have E3 := ev_note ((m.tick.give (Sc ds.length) (.int 0)).tick.give (Ad ds.length) (.deed (Sc ds.length) es th nu)) ds t (Ad ds.length)
  have I4 := I3.same (sameM_note _ t (Sc ds.length))
  have E4 := ev_note (((m.tick.give (Sc ds.length) (.int 0)).tick.give (Ad ds.length) (.deed (Sc ds.length) es th nu)).tick.note t (Ad ds.length)) ds t (Sc ds.length)
  have I5 := I4.drop (drop_fence I4 t)
  have E5 := ev_fence I4 t
  have dr := drop_fence I4 t
  have rg : 4 ≤ Sc ds.length ∧ Sc ds.length ≤ 200 ∧ 4 ≤ Ad ds.length ∧ Ad ds.length ≤ 200 := sc_rng hn
  have lastw : ∀ w : Int, 7 ≤ w → w ≤ 10 → (beginM m t ds.length es th nu).last w = m.last w := fun w h7 h10 => by
    unfold beginM
    rw [dr.last (by omega) (by omega)]
    show (((m.tick.give (Sc ds.length) (.int 0)).tick.give (Ad ds.length) (.deed (Sc ds.length) es th nu))).last w = m.last w
    rw [give_last_ne (by omega), give_last_ne (by omega)]
  have I6 : Inv (beginM m t ds.length es th nu) (ds ++ [⟨es, .int 0, fits⟩]) sh dn := by
    refine I5.ext hn ho (th := th) (nu := nu) ?_ ?_ hf fun e he q => ?_
    · rw [dr.last (by omega) (by omega)]
      show (((m.tick.give (Sc ds.length) (.int 0)).tick.give (Ad ds.length) (.deed (Sc ds.length) es th nu))).last (Ad ds.length) = _
      rw [give_last]
    · have hl : 0 < ((((m.tick.give (Sc ds.length) (.int 0)).tick.give (Ad ds.length) (.deed (Sc ds.length) es th nu)).tick.note t (Ad ds.length)).tr (Sc ds.length)).length := I3.tr_pos rg.1 rg.2.1
      rw [note_fence hl]
      show [((m.tick.give (Sc ds.length) (.int 0)).tick.give (Ad ds.length) (.deed (Sc ds.length) es th nu)).last (Sc ds.length)] = _
      rw [give_last_ne (by unfold Sc Ad; omega), give_last]
    · have w := ho.at_ e he
      have q2 : (beginM m t ds.length es th nu).last e.1 = mkA ds.length e := q
      rw [lastw e.1 w.1 w.2.1] at q2
      rcases G.inv.wd e.1 w.1 w.2.1 with p | ⟨j, F, f, hF, _, _, p, _⟩
      · rw [p] at q2; exact mkA_int q2.symm
      · rw [p] at q2
        obtain ⟨rfl, _, _⟩ := mkA_inj q2
        have := (List.getElem?_eq_some_iff.mp hF).1
        omega
  have E6 : Ev (beginM m t ds.length es th nu) ds (beginM m t ds.length es th nu) (ds ++ [⟨es, .int 0, fits⟩]) t := ev_ext _ t
  have hd : (ds ++ [(⟨es, .int 0, fits⟩ : Deed)])[ds.length]? = some ⟨es, .int 0, fits⟩ := by
    rw [List.getElem?_append_right (Nat.le_refl _), Nat.sub_self]; rfl
  refine ⟨I6, fun u hu0 hu3 => ?_, fun j F e hF he hm => ?_, fun u hu0 hu3 hne => ?_⟩
  · by_cases c : u = t
    · subst c
      rw [upC_same]
      exact ⟨(ns (d := DS.init (Ad ds.length)) (s := .record) rfl (by decide)).1, (ns (d := DS.init (Ad ds.length)) (s := .record) rfl (by decide)).2, ds.length, _, hd, MOk.init _ _ _ _, trivial⟩
    · rw [upC_ne c]
      exact ((((((G.so u hu0 hu3).ev E1 c).ev E2 c).ev E3 c).ev E4 c).ev E5 c).ev E6 c
  · by_cases c : j < ds.length
    · rw [List.getElem?_append_left c] at hF
      obtain ⟨h7, h10⟩ := G.inv.w7 hF he
      rw [lastw e.1 h7 h10] at hm
      obtain ⟨u, x, hu0, hu3, hx, r⟩ := G.resp j F e hF he hm
      have ne : u ≠ t := fun z => by rw [z, hs] at hx; cases hx
      exact ⟨u, x, hu0, hu3, by rw [upC_ne ne]; exact hx, r⟩
    · exfalso
      have hj := (List.getElem?_eq_some_iff.mp hF).1
      rw [List.length_append] at hj
      simp at hj
      have e2 : j = ds.length := by omega
      subst e2
      have : F = ⟨es, .int 0, fits⟩ := Option.some.inj (hF.symm.trans hd)
      subst this
      have w := ho.at_ e he
      rw [lastw e.1 w.1 w.2.1] at hm
      rcases G.inv.wd e.1 w.1 w.2.1 with p | ⟨k, F, f, hF, _, _, p, _⟩
      · rw [p] at hm; exact mkA_int hm.symm
      · rw [p] at hm
        obtain ⟨rfl, _, _⟩ := mkA_inj hm
        have := (List.getElem?_eq_some_iff.mp hF).1
        omega
  · by_cases c : u = t
    · subst c
      rw [upC_same, upC_same]
      exact ⟨ds.length, by rw [List.length_append]; simp, rfl, rfl⟩
    · rw [upC_ne c] at hne ⊢
      rw [upC_ne c]
      obtain ⟨b, hb, r⟩ := G.bot u hu0 hu3 hne
      exact ⟨b, by rw [List.length_append]; omega, r⟩
end
end DkM

set_option linter.all false
set_option maxHeartbeats 2000000
namespace DkM
/-! ### behind a cut -/
def shV (st : Int → TV) (v : TV) : Int := match v with
  | .int a => a
  | .mark _ s o n => if isDon (st s) then n else o
  | _ => 0
def stepE (x : Int → Int) (e : Ent) : Int → Int := if x e.1 = e.2.1 then upC x e.1 e.2.2 else x
def putE (x : Int → Int) (e : Ent) : Int → Int := upC x e.1 e.2.2
def round (L : List (Int × List Ent)) (x : Int → Int) : Int → Int := L.foldl (fun x p => p.2.foldl stepE x) x
def rounds (L : List (Int × List Ent)) : Nat → (Int → Int) → (Int → Int)
  | 0, x => x
  | n + 1, x => rounds L n (round L x)
def dueL (S : List (Int × List Ent)) (x : Int → Int) : Int → Int := S.foldl (fun x p => p.2.foldl putE x) x
/-- the memory lv holds, of each cell, one value of its trail -/
def Cut (m : Mem) (lv : Int → TV) : Prop := ∀ c, 4 ≤ c → c ≤ 200 → lv c ∈ m.tr c
def doneL (ds : List Deed) (lv : Int → TV) (i : Nat) : List (Int × List Ent) := match ds with
  | [] => []
  | D :: r => if isDon (lv (Sc i)) then (tmV (lv (Sc i)), D.es) :: doneL r lv (i + 1) else doneL r lv (i + 1)
theorem doneL_mem {lv : Int → TV} {p : Int × List Ent} : ∀ {ds : List Deed} {i : Nat}, p ∈ doneL ds lv i ↔ ∃ (j : Nat) (D : Deed), ds[j]? = some D ∧ isDon (lv (Sc (i + j))) = true ∧ p = (tmV (lv (Sc (i + j))), D.es)
  | [], i => by
    constructor
    · intro h; cases h
    · rintro ⟨j, D, h, _⟩; simp at h
  | D :: r, i => by
    have ih := doneL_mem (p := p) (lv := lv) (ds := r) (i := i + 1)
    constructor
    · intro h
      have tail : p ∈ doneL r lv (i + 1) → ∃ (j : Nat) (E : Deed), (D :: r)[j]? = some E ∧ isDon (lv (Sc (i + j))) = true ∧ p = (tmV (lv (Sc (i + j))), E.es) := fun h => by
        obtain ⟨j, E, h1, h2, h3⟩ := ih.mp h
        have e : i + 1 + j = i + (j + 1) := by omega
        rw [e] at h2 h3
        exact ⟨j + 1, E, by simpa using h1, h2, h3⟩
      unfold doneL at h
      split at h
      · rename_i c
        rcases List.mem_cons.mp h with h | h
        · exact ⟨0, D, rfl, c, h⟩
        · exact tail h
      · exact tail h
    · rintro ⟨j, E, h1, h2, h3⟩
      unfold doneL
      cases j with
      | zero =>
        have : D = E := by simpa using h1
        subst this
        rw [if_pos (by simpa using h2)]
        exact List.mem_cons.mpr (.inl h3)
      | succ j =>
        have e : i + 1 + j = i + (j + 1) := by omega
        have q : p ∈ doneL r lv (i + 1) := ih.mpr ⟨j, E, by simpa using h1, by rw [e]; exact h2, by rw [e]; exact h3⟩
        split
        · exact List.mem_cons_of_mem _ q
        · exact q
section
variable {m : Mem} {ds : List Deed} {sh : Int → Int} {dn : Int → List Nat} {lv : Int → TV}
theorem Inv.lvst (I : Inv m ds sh dn) (C : Cut m lv) {i : Nat} {D : Deed} (hD : ds[i]? = some D) (h : isDon (lv (Sc i)) = true) : lv (Sc i) = D.st := by
  obtain ⟨r1, r2, _⟩ := sc_rng (I.ilt hD)
  have hm := C (Sc i) r1 r2
  rcases I.sv i D hD with q | ⟨_, q⟩
  · rw [q] at hm; simpa using hm
  · rw [q] at hm
    rcases List.mem_cons.mp hm with e | e
    · rw [e] at h; cases h
    · simpa using e
theorem Inv.lvfst (I : Inv m ds sh dn) (C : Cut m lv) {i : Nat} {D : Deed} (hD : ds[i]? = some D) (h0 : D.st ≠ .int 0) (h : m.fst (Sc i) = D.st) : lv (Sc i) = D.st := by
  obtain ⟨r1, r2, _⟩ := sc_rng (I.ilt hD)
  have hm := C (Sc i) r1 r2
  rcases I.sv i D hD with q | ⟨_, q⟩
  · rw [q] at hm; simpa using hm
  · unfold Mem.fst at h
    rw [q] at h
    exact absurd h.symm h0
/-- which of a word's done deeds last: all but perhaps the latest -/
structure Ranks (m : Mem) (ds : List Deed) (dn : Int → List Nat) (lv : Int → TV) (w : Int) (K : Nat) : Prop where
  le : K ≤ (dn w).length
  in_ : ∀ (k : Nat) (i : Nat), (dn w)[k]? = some i → (isDon (lv (Sc i)) = true ↔ k < K)
  base : ∀ v, v ∈ m.tr w → ∃ r, r ≤ K ∧ (hist dn w)[r]? = some (baseV v)
theorem ranks (I : Inv m ds sh dn) (C : Cut m lv) {w : Int} (h7 : 7 ≤ w) (h10 : w ≤ 10) : ∃ K, Ranks m ds dn lv w K := by
  have all : ∀ (k i : Nat), (dn w)[k]? = some i → k + 1 < (dn w).length → isDon (lv (Sc i)) = true := fun k i hk lt => by
    obtain ⟨D, e, hD, hd, he, hw⟩ := I.dnd w i (List.mem_of_getElem? hk)
    rcases I.kept i D e hD hd he with q | ⟨q, _⟩
    · rw [I.lvfst C hD (isDon_ne0 hd) q]; exact hd
    · exfalso
      have s := I.mark hD he q
      unfold DS.shown at s
      rw [hd, if_pos rfl, I.new hD he, hw] at s
      have a := I.shn w h7 h10
      rw [s] at a
      have b : (hist dn w)[k + 1]? = some (nwA i w) := by
        unfold hist
        rw [List.getElem?_cons_succ, List.getElem?_map, hk]; rfl
      have := nd_getq (hist_nd I h10 h7) a b
      omega
  have bh : ∀ v, v ∈ m.tr w → ∃ r, r ≤ (dn w).length ∧ (hist dn w)[r]? = some (baseV v) := fun v hv => by
    obtain ⟨r, hr⟩ := List.getElem?_of_mem (base_hist I h7 h10 hv)
    have := (List.getElem?_eq_some_iff.mp hr).1
    rw [hist_len] at this
    exact ⟨r, by omega, hr⟩
  by_cases hz : (dn w).length = 0
  · refine ⟨0, Nat.zero_le _, fun k i hk => ?_, fun v hv => ?_⟩
    · have := (List.getElem?_eq_some_iff.mp hk).1; omega
    · obtain ⟨r, h1, h2⟩ := bh v hv
      exact ⟨r, by omega, h2⟩
  · obtain ⟨i, hi⟩ : ∃ i, (dn w)[(dn w).length - 1]? = some i := ⟨(dn w)[(dn w).length - 1]'(by omega), List.getElem?_eq_getElem _⟩
    by_cases hl : isDon (lv (Sc i)) = true
    · refine ⟨(dn w).length, Nat.le_refl _, fun k j hk => ?_, bh⟩
      have lt := (List.getElem?_eq_some_iff.mp hk).1
      refine ⟨fun _ => lt, fun _ => ?_⟩
      by_cases c : k + 1 < (dn w).length
      · exact all k j hk c
      · have : k = (dn w).length - 1 := by omega
        subst this
        rw [hi] at hk
        rw [← Option.some.inj hk]; exact hl
    · refine ⟨(dn w).length - 1, by omega, fun k j hk => ?_, fun v hv => ?_⟩
      · have lt := (List.getElem?_eq_some_iff.mp hk).1
        refine ⟨fun hd => ?_, fun _ => all k j hk (by omega)⟩
        rcases Nat.lt_or_ge k ((dn w).length - 1) with q | q
        · exact q
        · have : k = (dn w).length - 1 := by omega
          subst this
          rw [hi] at hk
          rw [← Option.some.inj hk] at hd
          exact absurd hd hl
      · obtain ⟨D, e, hD, hd, he, hw⟩ := I.dnd w i (List.mem_of_getElem? hi)
        obtain ⟨r, h1, h2⟩ := bh v hv
        refine ⟨r, ?_, h2⟩
        rcases I.kept i D e hD hd he with q | ⟨_, q⟩
        · rw [I.lvfst C hD (isDon_ne0 hd) q] at hl
          exact absurd hd hl
        · rw [hw] at q
          have q2 := q v hv
          rcases Nat.lt_or_ge r (dn w).length with c | c
          · omega
          · exfalso
            have : r = (dn w).length := by omega
            subst this
            have b : (hist dn w)[(dn w).length]? = some (nwA i w) := by
              unfold hist
              rw [show (dn w).length = ((dn w).length - 1) + 1 by omega, List.getElem?_cons_succ, List.getElem?_map, hi]; rfl
            rw [b] at h2
            apply q2
            rw [I.new hD he, hw]
            exact (Option.some.inj h2).symm
/-- an entry of a deed that lasts, at this word: its place -/
theorem place (I : Inv m ds sh dn) (C : Cut m lv) {w : Int} {K : Nat} (R : Ranks m ds dn lv w K) {i : Nat} {D : Deed} {e : Ent} (hD : ds[i]? = some D) (hl : isDon (lv (Sc i)) = true) (he : e ∈ D.es) (hw : e.1 = w) :
    ∃ k, k < K ∧ (dn w)[k]? = some i ∧ (hist dn w)[k]? = some e.2.1 ∧ (hist dn w)[k + 1]? = some e.2.2 := by
  have hs := I.lvst C hD hl
  have hd : isDon D.st = true := by rw [← hs]; exact hl
  have hm := I.dna i D e hD hd he
  rw [hw] at hm
  obtain ⟨k, hk⟩ := List.getElem?_of_mem hm
  refine ⟨k, (R.in_ k i hk).mp hl, hk, I.chain w k i D e hk hD he hw, ?_⟩
  unfold hist
  rw [List.getElem?_cons_succ, List.getElem?_map, hk, I.new hD he, hw]; rfl
/-- the word stands at rank r at least -/
def AtR (dn : Int → List Nat) (w : Int) (K : Nat) (x : Int → Int) (r : Nat) : Prop := ∃ q, r ≤ q ∧ q ≤ K ∧ (hist dn w)[q]? = some (x w)
theorem stepE_at (I : Inv m ds sh dn) (C : Cut m lv) {w : Int} {K : Nat} (h7 : 7 ≤ w) (h10 : w ≤ 10) (R : Ranks m ds dn lv w K) {i : Nat} {D : Deed} {e : Ent} (hD : ds[i]? = some D) (hl : isDon (lv (Sc i)) = true) (he : e ∈ D.es) {x : Int → Int} {r : Nat} (h : AtR dn w K x r) :
    AtR dn w K (stepE x e) r ∧ (e.1 = w → (dn w)[r]? = some i → AtR dn w K (stepE x e) (r + 1)) := by
  obtain ⟨q, h1, h2, h3⟩ := h
  unfold stepE
  by_cases hw : e.1 = w
  · obtain ⟨k, hk, hi, ho, hn⟩ := place I C R hD hl he hw
    by_cases c : x e.1 = e.2.1
    · rw [if_pos c]
      rw [hw] at c
      rw [c] at h3
      have : q = k := nd_getq (hist_nd I h10 h7) h3 ho
      subst this
      have v : upC x e.1 e.2.2 w = e.2.2 := by rw [hw, upC_same]
      exact ⟨⟨q + 1, by omega, by omega, by rw [v]; exact hn⟩, fun _ _ => ⟨q + 1, by omega, by omega, by rw [v]; exact hn⟩⟩
    · rw [if_neg c]
      refine ⟨⟨q, h1, h2, h3⟩, fun _ hr => ⟨q, ?_, h2, h3⟩⟩
      have : r = k := nd_getq (I.dnn w) hr hi
      subst this
      rcases Nat.lt_or_ge r q with z | z
      · exact z
      · exfalso
        have : q = r := by omega
        subst this
        rw [ho] at h3
        apply c
        rw [hw]; exact (Option.some.inj h3).symm
  · refine ⟨?_, fun z => absurd z hw⟩
    split
    · exact ⟨q, h1, h2, by rw [upC_ne (Ne.symm hw)]; exact h3⟩
    · exact ⟨q, h1, h2, h3⟩
theorem foldE_at (I : Inv m ds sh dn) (C : Cut m lv) {w : Int} {K : Nat} (h7 : 7 ≤ w) (h10 : w ≤ 10) (R : Ranks m ds dn lv w K) {i : Nat} {D : Deed} (hD : ds[i]? = some D) (hl : isDon (lv (Sc i)) = true) : ∀ (l : List Ent) (x : Int → Int) (r : Nat), (∀ e ∈ l, e ∈ D.es) → AtR dn w K x r →
    AtR dn w K (l.foldl stepE x) r ∧ ((∃ e ∈ l, e.1 = w) → (dn w)[r]? = some i → AtR dn w K (l.foldl stepE x) (r + 1))
  | [], x, r, _, h => ⟨h, fun ⟨e, he, _⟩ => by cases he⟩
  | a :: l, x, r, hs, h => by
    obtain ⟨s1, s2⟩ := stepE_at I C h7 h10 R hD hl (hs a List.mem_cons_self) h
    have ih := foldE_at I C h7 h10 R hD hl l (stepE x a)
    refine ⟨(ih r (fun e he => hs e (List.mem_cons_of_mem _ he)) s1).1, fun ⟨e, he, hw⟩ hr => ?_⟩
    rcases List.mem_cons.mp he with rfl | he
    · exact (ih (r + 1) (fun e he => hs e (List.mem_cons_of_mem _ he)) (s2 hw hr)).1
    · exact (ih r (fun e he => hs e (List.mem_cons_of_mem _ he)) s1).2 ⟨e, he, hw⟩ hr
theorem round_at (I : Inv m ds sh dn) (C : Cut m lv) {w : Int} {K : Nat} (h7 : 7 ≤ w) (h10 : w ≤ 10) (R : Ranks m ds dn lv w K) : ∀ (L : List (Int × List Ent)) (x : Int → Int) (r : Nat),
    (∀ p ∈ L, ∃ (i : Nat) (D : Deed), ds[i]? = some D ∧ isDon (lv (Sc i)) = true ∧ p = (tmV (lv (Sc i)), D.es)) → AtR dn w K x r →
    AtR dn w K (round L x) r ∧ (∀ (i : Nat) (D : Deed), ds[i]? = some D → (tmV (lv (Sc i)), D.es) ∈ L → isDon (lv (Sc i)) = true → (∃ e ∈ D.es, e.1 = w) → (dn w)[r]? = some i → AtR dn w K (round L x) (r + 1))
  | [], x, r, _, h => ⟨h, fun i D _ hm => by cases hm⟩
  | p :: L, x, r, hs, h => by
    obtain ⟨i, D, hD, hl, rfl⟩ := hs p List.mem_cons_self
    obtain ⟨s1, s2⟩ := foldE_at I C h7 h10 R hD hl D.es x r (fun e he => he) h
    have ih := round_at I C h7 h10 R L (D.es.foldl stepE x)
    refine ⟨(ih r (fun q hq => hs q (List.mem_cons_of_mem _ hq)) s1).1, fun j E hE hm hlj hex hr => ?_⟩
    rcases List.mem_cons.mp hm with q | hm
    · have hji : j = i := by
        have a := I.lvst C hD hl
        have b := I.lvst C hE hlj
        have t : tmV (lv (Sc j)) = tmV (lv (Sc i)) := congrArg Prod.fst q
        refine I.dti j i E D hE hD (by rw [← b]; exact hlj) ?_
        rw [← a, ← b]
        cases c : lv (Sc j) with
        | don t1 =>
          cases c2 : lv (Sc i) with
          | don t2 => rw [c, c2] at t; show TV.don t1 = TV.don t2; rw [show t1 = t2 from t]
          | _ => rw [c2] at hl; cases hl
        | _ => rw [c] at hlj; cases hlj
      subst hji
      have : E = D := Option.some.inj (hE.symm.trans hD)
      subst this
      exact (ih (r + 1) (fun q hq => hs q (List.mem_cons_of_mem _ hq)) (s2 hex hr)).1
    · exact (ih r (fun q hq => hs q (List.mem_cons_of_mem _ hq)) s1).2 j E hE hm hlj hex hr
theorem doneL_all (ds : List Deed) (lv : Int → TV) : ∀ p ∈ doneL ds lv 0, ∃ (i : Nat) (D : Deed), ds[i]? = some D ∧ isDon (lv (Sc i)) = true ∧ p = (tmV (lv (Sc i)), D.es) := fun p hp => by
  obtain ⟨j, D, h1, h2, h3⟩ := doneL_mem.mp hp
  rw [Nat.zero_add] at h2 h3
  exact ⟨j, D, h1, h2, h3⟩
theorem doneL_in {i : Nat} {D : Deed} (hD : ds[i]? = some D) (hl : isDon (lv (Sc i)) = true) : (tmV (lv (Sc i)), D.es) ∈ doneL ds lv 0 :=
  doneL_mem.mpr ⟨i, D, hD, by rw [Nat.zero_add]; exact hl, by rw [Nat.zero_add]⟩
theorem rounds_at (I : Inv m ds sh dn) (C : Cut m lv) {w : Int} {K : Nat} (h7 : 7 ≤ w) (h10 : w ≤ 10) (R : Ranks m ds dn lv w K) : ∀ (n : Nat) (x : Int → Int) (r : Nat), AtR dn w K x r → AtR dn w K (rounds (doneL ds lv 0) n x) (min (r + n) K)
  | 0, x, r, h => by
    obtain ⟨q, h1, h2, h3⟩ := h
    exact ⟨q, by omega, h2, h3⟩
  | n + 1, x, r, h => by
    obtain ⟨s1, s2⟩ := round_at I C h7 h10 R (doneL ds lv 0) x r (doneL_all ds lv) h
    by_cases c : r < K
    · obtain ⟨i, hi⟩ : ∃ i, (dn w)[r]? = some i := ⟨(dn w)[r]'(by have := R.le; omega), List.getElem?_eq_getElem _⟩
      obtain ⟨D, e, hD, hd, he, hw⟩ := I.dnd w i (List.mem_of_getElem? hi)
      have hl := (R.in_ r i hi).mpr c
      have ih := rounds_at I C h7 h10 R n (round (doneL ds lv 0) x) (r + 1) (s2 i D hD (doneL_in hD hl) hl ⟨e, he, hw⟩ hi)
      have e2 : r + 1 + n = r + (n + 1) := by omega
      rw [e2] at ih
      exact ih
    · have ih := rounds_at I C h7 h10 R n (round (doneL ds lv 0) x) r s1
      obtain ⟨q, h1, h2, h3⟩ := ih
      exact ⟨q, by omega, h2, h3⟩
theorem start_at (I : Inv m ds sh dn) (C : Cut m lv) {w : Int} {K : Nat} (h7 : 7 ≤ w) (h10 : w ≤ 10) (R : Ranks m ds dn lv w K) : ∃ q, q ≤ K ∧ (hist dn w)[q]? = some (shV lv (lv w)) := by
  have hm := C w (by omega) (by omega)
  obtain ⟨r, h1, h2⟩ := R.base _ hm
  rcases I.tr w _ h7 h10 hm with ⟨a, ha, e⟩ | ⟨i, D, e, hD, he, hw, ev, ho⟩
  · refine ⟨r, h1, ?_⟩
    rw [h2, e]; rfl
  · rw [ev] at h2 ⊢
    show ∃ q, q ≤ K ∧ (hist dn w)[q]? = some (if isDon (lv (Sc i)) then e.2.2 else e.2.1)
    by_cases hl : isDon (lv (Sc i)) = true
    · rw [if_pos hl]
      obtain ⟨k, hk, _, _, hn⟩ := place I C R hD hl he hw
      exact ⟨k + 1, by omega, hn⟩
    · rw [if_neg hl]
      exact ⟨r, h1, h2⟩
/-! ### what is due -/
theorem fold_put_out : ∀ {l : List Ent} {x : Int → Int} {w : Int}, (∀ e ∈ l, e.1 ≠ w) → (l.foldl putE x) w = x w
  | [], _, _, _ => rfl
  | a :: l, x, w, h => by
    show (l.foldl putE (putE x a)) w = x w
    rw [fold_put_out fun e he => h e (List.mem_cons_of_mem _ he)]
    unfold putE
    rw [upC_ne (h a List.mem_cons_self).symm]
theorem fold_put_in : ∀ {l : List Ent} {x : Int → Int} {e : Ent}, l.Pairwise (fun a b => a.1 < b.1) → e ∈ l → (l.foldl putE x) e.1 = e.2.2
  | [], _, _, _, h => by cases h
  | a :: l, x, e, p, h => by
    obtain ⟨p1, p2⟩ := List.pairwise_cons.mp p
    show (l.foldl putE (putE x a)) e.1 = e.2.2
    rcases List.mem_cons.mp h with rfl | h
    · rw [fold_put_out fun f hf => by have := p1 f hf; omega]
      unfold putE
      rw [upC_same]
    · exact fold_put_in p2 h
theorem dueL_out : ∀ {S : List (Int × List Ent)} {x : Int → Int} {w : Int}, (∀ p ∈ S, ∀ e ∈ p.2, e.1 ≠ w) → dueL S x w = x w
  | [], _, _, _ => rfl
  | p :: S, x, w, h => by
    show dueL S (p.2.foldl putE x) w = x w
    rw [dueL_out fun q hq => h q (List.mem_cons_of_mem _ hq), fold_put_out (h p List.mem_cons_self)]
theorem dueL_app (A B : List (Int × List Ent)) (x : Int → Int) : dueL (A ++ B) x = dueL B (dueL A x) := by unfold dueL; rw [List.foldl_append]
theorem last_split {P : Int × List Ent → Prop} : ∀ (S : List (Int × List Ent)), (∃ p ∈ S, P p) → ∃ A p B, S = A ++ p :: B ∧ P p ∧ ∀ q ∈ B, ¬ P q
  | [], ⟨p, h, _⟩ => by cases h
  | a :: S, ⟨p, h, hp⟩ => by
    by_cases c : ∃ p ∈ S, P p
    · obtain ⟨A, q, B, e, h1, h2⟩ := last_split S c
      exact ⟨a :: A, q, B, by rw [e]; rfl, h1, h2⟩
    · rcases List.mem_cons.mp h with rfl | h
      · exact ⟨[], p, S, rfl, hp, fun q hq z => c ⟨q, hq, z⟩⟩
      · exact absurd ⟨p, h, hp⟩ c
theorem due_at (I : Inv m ds sh dn) (C : Cut m lv) {w : Int} {K : Nat} (h7 : 7 ≤ w) (h10 : w ≤ 10) (R : Ranks m ds dn lv w K) {S : List (Int × List Ent)} (hp : S.Perm (doneL ds lv 0)) (ho : S.Pairwise (fun a b => a.1 ≤ b.1)) :
    (hist dn w)[K]? = some (dueL S (fun w => w + 4) w) := by
  have mem : ∀ p ∈ S, ∃ (i : Nat) (D : Deed), ds[i]? = some D ∧ isDon (lv (Sc i)) = true ∧ p = (tmV (lv (Sc i)), D.es) := fun p h => doneL_all ds lv p (hp.mem_iff.mp h)
  by_cases c : ∃ p ∈ S, ∃ e ∈ p.2, e.1 = w
  · obtain ⟨A, p, B, rfl, ⟨e, he, hw⟩, hB⟩ := last_split S c
    obtain ⟨i, D, hD, hl, rfl⟩ := mem p (List.mem_append_right _ List.mem_cons_self)
    obtain ⟨k, hk, hi, _, hn⟩ := place I C R hD hl he hw
    have hkK : k + 1 = K := by
      rcases Nat.lt_or_ge (k + 1) K with z | z
      · exfalso
        obtain ⟨j, hj⟩ : ∃ j, (dn w)[k + 1]? = some j := ⟨(dn w)[k + 1]'(by have := R.le; omega), List.getElem?_eq_getElem _⟩
        obtain ⟨E, f, hE, hd, hf, hfw⟩ := I.dnd w j (List.mem_of_getElem? hj)
        have hlj := (R.in_ (k + 1) j hj).mpr z
        have hin : (tmV (lv (Sc j)), E.es) ∈ A ++ (tmV (lv (Sc i)), D.es) :: B := hp.mem_iff.mpr (doneL_in hE hlj)
        have lt : tmV (lv (Sc i)) < tmV (lv (Sc j)) := by
          obtain ⟨a1, b1⟩ := List.getElem?_eq_some_iff.mp hi
          obtain ⟨a2, b2⟩ := List.getElem?_eq_some_iff.mp hj
          have := (List.pairwise_iff_getElem.mp (I.dnt w)) k (k + 1) a1 a2 (by omega)
          rw [b1, b2] at this
          unfold tmD at this
          rw [hD, hE] at this
          rw [I.lvst C hD hl, I.lvst C hE hlj]
          exact this
        rcases List.mem_append.mp hin with q | q
        · have := (List.pairwise_append.mp ho).2.2 _ q _ List.mem_cons_self
          simp only at this
          omega
        · rcases List.mem_cons.mp q with q | q
          · have : tmV (lv (Sc j)) = tmV (lv (Sc i)) := congrArg Prod.fst q
            omega
          · exact hB _ q ⟨f, hf, hfw⟩
      · omega
    rw [dueL_app]
    show (hist dn w)[K]? = some (dueL B (D.es.foldl putE (dueL A fun w => w + 4)) w)
    rw [dueL_out fun q hq e he hz => hB q hq ⟨e, he, hz⟩, ← hw, fold_put_in (I.es i D hD).up he, hw, ← hkK]
    exact hn
  · rw [dueL_out fun p hp e he hz => c ⟨p, hp, e, he, hz⟩]
    have : K = 0 := by
      rcases Nat.eq_zero_or_pos K with z | z
      · exact z
      · exfalso
        obtain ⟨i, hi⟩ : ∃ i, (dn w)[0]? = some i := ⟨(dn w)[0]'(by have := R.le; omega), List.getElem?_eq_getElem _⟩
        obtain ⟨D, e, hD, hd, he, hw⟩ := I.dnd w i (List.mem_of_getElem? hi)
        exact c ⟨_, hp.mem_iff.mpr (doneL_in hD ((R.in_ 0 i hi).mpr z)), e, he, hw⟩
    subst this
    rfl
theorem nodup_lt : ∀ (n : Nat) (l : List Nat), l.Nodup → (∀ x ∈ l, x < n) → l.length ≤ n
  | 0, l, _, h => by
    cases l with
    | nil => exact Nat.le_refl _
    | cons a r => have := h a List.mem_cons_self; omega
  | n + 1, l, nd, h => by
    have ih := nodup_lt n (l.erase n) (nd.erase n) fun x hx => by
      have m := nd.mem_erase_iff.mp hx
      have := h x m.2
      have := m.1
      omega
    rw [List.length_erase] at ih
    split at ih <;> omega
/-- THE CUT -/
theorem cut_ok (I : Inv m ds sh dn) (C : Cut m lv) {w : Int} (h7 : 7 ≤ w) (h10 : w ≤ 10) {S : List (Int × List Ent)} (hp : S.Perm (doneL ds lv 0)) (ho : S.Pairwise (fun a b => a.1 ≤ b.1)) {x : Int → Int} (hx : x w = shV lv (lv w)) :
    rounds (doneL ds lv 0) 100 x w = dueL S (fun w => w + 4) w := by
  obtain ⟨K, R⟩ := ranks I C h7 h10
  obtain ⟨q, hq, e⟩ := start_at I C h7 h10 R
  have h0 : AtR dn w K x 0 := ⟨q, Nat.zero_le _, hq, by rw [hx]; exact e⟩
  obtain ⟨r, h1, h2, h3⟩ := rounds_at I C h7 h10 R 100 x 0 h0
  have hK : K ≤ 24 := by
    have a := R.le
    have b : (dn w).length ≤ ds.length := by
      exact nodup_lt ds.length (dn w) (I.dnn w) fun i hi => by
        obtain ⟨D, e, hD, _⟩ := I.dnd w i hi
        exact (List.getElem?_eq_some_iff.mp hD).1
    have := I.n24
    omega
  have : r = K := by omega
  subst this
  have d := due_at I C h7 h10 R hp ho
  rw [h3] at d
  exact Option.some.inj d
end
end DkM

set_option linter.all false
set_option maxHeartbeats 2000000
namespace DkM
/-! ### the depth of a stack -/
def cells (l : List DS) : List Int := l.map (fun x => x.ent.1)
def desc : List Int → Nat
  | [] => 0
  | [_] => 0
  | a :: b :: r => (if a ≤ b then 1 else 0) + desc (b :: r)
def cst : St → Nat
  | .record => 0
  | .status => 1
  | _ => 2
def stale (m : Mem) (d : DS) : Nat := if (d.st = .word ∨ d.st = .swap) ∧ m.last d.s ≠ .int 0 then 1 else 0
def pot (m : Mem) : List DS → Nat
  | [] => 0
  | d :: r => 3 * r.length + desc (cells r) + cst d.st + stale m d
theorem stale_le (m : Mem) (d : DS) : stale m d ≤ 1 := by unfold stale; split <;> omega
theorem stale_no {m : Mem} {d : DS} (h : ¬ (d.st = .word ∨ d.st = .swap)) : stale m d = 0 := by unfold stale; rw [if_neg fun q => h q.1]
theorem desc_cons (a : Int) (l : List Int) : desc l ≤ desc (a :: l) := by
  cases l with
  | nil => exact Nat.zero_le _
  | cons b r => show desc (b :: r) ≤ _ + desc (b :: r); omega
theorem cst_le (s : St) : cst s ≤ 2 := by cases s <;> decide
section
variable {m m' : Mem} {ds ds' : List Deed} {sh : Int → Int} {dn : Int → List Nat} {stk : Int → List DS} {t : Int} {i : Nat} {D : Deed} {d : DS} {rest l' : List DS}
theorem pot_any (m m' : Mem) (l : List DS) : pot m' l ≤ pot m l + 1 := by
  cases l with
  | nil => exact Nat.zero_le _
  | cons d r =>
    have := stale_le m' d
    show 3 * r.length + desc (cells r) + cst d.st + stale m' d ≤ 3 * r.length + desc (cells r) + cst d.st + stale m d + 1
    omega
theorem pot_same {l : List DS} (S : StkOk m ds t l) (h : ∀ (i : Nat) (D : Deed), ds[i]? = some D → m'.last (Sc i) = m.last (Sc i)) : pot m' l = pot m l := by
  cases l with
  | nil => rfl
  | cons d r =>
    obtain ⟨_, _, i, D, hD, M, _⟩ := S
    have : stale m' d = stale m d := by
      by_cases c : d.st = .word ∨ d.st = .swap
      · have := (M.se (by rcases c with q | q <;> rw [q] <;> decide)).1
        unfold stale
        rw [this, h i D hD]
      · rw [stale_no c, stale_no c]
    show 3 * r.length + desc (cells r) + cst d.st + stale m' d = _
    rw [this]; rfl
theorem stale_pass (h : m'.last d.s = m.last d.s) (hs : d.st = .word ∨ d.st = .swap) : stale m' d.pass ≤ stale m d := by
  unfold stale
  have : d.pass.s = d.s := rfl
  rw [this, h]
  by_cases c : m.last d.s ≠ .int 0
  · have e2 : (if (d.st = .word ∨ d.st = .swap) ∧ m.last d.s ≠ .int 0 then 1 else 0) = 1 := if_pos ⟨hs, c⟩
    rw [e2]; split <;> omega
  · have e1 : (if (d.pass.st = .word ∨ d.pass.st = .swap) ∧ m.last d.s ≠ .int 0 then 1 else 0) = 0 := if_neg fun q => c q.2
    rw [e1]; omega
theorem cst_pass (d : DS) : cst d.pass.st = 2 := by rcases pass_st d with q | q <;> rw [q] <;> rfl
/-- a step raises the potential by one at most -/
theorem pot_step (I : Inv m ds sh dn) (hD : ds[i]? = some D) (M : MOk m t i D d) (L : Low m ds t i D rest) (O : Out m ds sh t d rest i D m' l') : pot m' l' ≤ pot m (d :: rest) + 1 := by
  have base : pot m (d :: rest) = 3 * rest.length + desc (cells rest) + cst d.st + stale m d := rfl
  have low : ∀ d' : DS, cst d'.st + stale m' d' ≤ cst d.st + stale m d + 1 → pot m' (d' :: rest) ≤ pot m (d :: rest) + 1 := fun d' h => by
    show 3 * rest.length + desc (cells rest) + cst d'.st + stale m' d' ≤ 3 * rest.length + desc (cells rest) + cst d.st + stale m d + 1
    omega
  cases O with
  | record hs =>
    apply low
    rw [stale_no (by show ¬ (St.status = .word ∨ St.status = .swap); decide), hs]
    show 1 + 0 ≤ 0 + _ + 1; omega
  | statusW hs h0 =>
    apply low
    have : stale m.tick { d with st := .word } = 0 := by
      unfold stale
      rw [if_neg]
      intro q
      apply q.2
      show m.last d.s = _
      rw [(M.se (by rw [hs]; decide)).1, I.sl i D hD, h0]
    rw [this, hs]
    show 2 + 0 ≤ 1 + _ + 1; omega
  | statusL hs h0 =>
    apply low
    rw [stale_no (by show ¬ (St.last = .word ∨ St.last = .swap); decide)]
    rcases hs with q | q <;> rw [q] <;> simp [cst] <;> omega
  | wordP e hs he hm =>
    apply low
    have := stale_pass (d := d) (m := m) (m' := m.tick) rfl (.inl hs)
    rw [cst_pass, hs]
    show 2 + _ ≤ 2 + _ + 1; omega
  | wordS e hs he hm =>
    apply low
    have : stale m.tick { d with st := .swap } = stale m d := by
      unfold stale
      rw [show ({ d with st := .swap } : DS).s = d.s from rfl, tick_last, hs]
      simp
    rw [this, hs]
    show 2 + _ ≤ 2 + _ + 1; omega
  | wordH e j E f hs he hE hf hc hji hm =>
    have hem := List.mem_of_getElem? he
    obtain ⟨q1, q2⟩ := M.se (by rw [hs]; decide)
    have hent := ent_of q2 he
    have z1 : stale m.tick (DS.init (Ad j)) = 0 := stale_no (by show ¬ (St.record = .word ∨ St.record = .swap); decide)
    have z2 : cells ({ d with st := .help } :: rest) = e.1 :: cells rest := by
      show ({ d with st := .help } : DS).ent.1 :: _ = _
      rw [show ({ d with st := .help } : DS).ent = d.ent from rfl, hent]; rfl
    show 3 * (rest.length + 1) + desc (cells ({ d with st := .help } :: rest)) + 0 + stale m.tick (DS.init (Ad j)) ≤ _
    rw [z1, z2, base, hs]
    have key : desc (e.1 :: cells rest) ≤ desc (cells rest) + stale m d := by
      cases rest with
      | nil => exact Nat.zero_le _
      | cons l r =>
        show (if e.1 ≤ l.ent.1 then 1 else 0) + desc (cells (l :: r)) ≤ desc (cells (l :: r)) + stale m d
        by_cases c : e.1 ≤ l.ent.1
        · rw [if_pos c]
          obtain ⟨_, jj, F, hF, Ml, ⟨e0, he0, hc0, hm0⟩, _⟩ := L
          have n0 : D.st ≠ .int 0 := fun h0 => by
            have hm1 := hm0 h0
            have : m.last e.1 = mkA i e := by
              rcases Int.lt_or_eq_of_le (show e.1 ≤ e0.1 by rw [hc0]; exact c) with q | q
              · exact I.ord i D e0 e hD h0 he0 hem hm1 q
              · have := (I.es i D hD).cell hem he0 q
                rw [this]; exact hm1
            rw [hm] at this
            exact hji (mkA_inj this).1
          have : stale m d = 1 := by
            unfold stale
            rw [if_pos ⟨.inl hs, by rw [q1, I.sl i D hD]; exact n0⟩]
          omega
        · rw [if_neg c]; omega
    show 3 * (rest.length + 1) + desc (e.1 :: cells rest) + 0 + 0 ≤ 3 * rest.length + desc (cells rest) + 2 + stale m d + 1
    omega
  | wordF e hs he hm hne =>
    apply low
    rw [stale_no (by show ¬ (St.failed = .word ∨ St.failed = .swap); decide), hs]
    show 2 + 0 ≤ 2 + _ + 1; omega
  | swapY e hs he hm =>
    apply low
    have q1 := (M.se (by rw [hs]; decide)).1
    have h10 := (I.w7 hD (List.mem_of_getElem? he)).2
    have := stale_pass (d := d) (m := m) (m' := m.tick.give e.1 (mkA i e)) (by rw [q1, give_last_ne (sc_w h10).1]) (.inr hs)
    rw [cst_pass, hs]
    show 2 + _ ≤ 2 + _ + 1; omega
  | swapN e hs he hm =>
    apply low
    have : stale m.tick { d with st := .word } = stale m d := by
      unfold stale
      rw [show ({ d with st := .word } : DS).s = d.s from rfl, tick_last, hs]
      simp
    rw [this, hs]
    show 2 + _ ≤ 2 + _ + 1; omega
  | decF hs h0 =>
    apply low
    rw [stale_no (by show ¬ (St.final = .word ∨ St.final = .swap); decide), hs]
    show 2 + 0 ≤ 2 + _ + 1; omega
  | decD hs h0 =>
    apply low
    rw [stale_no (by show ¬ (St.final = .word ∨ St.final = .swap); decide), hs]
    show 2 + 0 ≤ 2 + _ + 1; omega
  | decN hs h0 =>
    apply low
    rw [stale_no (by show ¬ (St.final = .word ∨ St.final = .swap); decide)]
    rcases hs with q | q <;> rw [q] <;> simp [cst] <;> omega
  | fin hs K =>
    cases rest with
    | nil => exact Nat.zero_le _
    | cons l r =>
      have h1 := stale_le (m.tick.fence t) { l with st := .word }
      have h2 := desc_cons l.ent.1 (cells r)
      show 3 * r.length + desc (cells r) + 2 + stale (m.tick.fence t) { l with st := .word } ≤ 3 * (r.length + 1) + desc (l.ent.1 :: cells r) + cst d.st + stale m d + 1
      rw [hs]
      show _ ≤ 3 * (r.length + 1) + desc (l.ent.1 :: cells r) + 2 + stale m d + 1
      omega
  | flush0 hs K =>
    apply low
    rw [stale_no (by show ¬ (d.st = .word ∨ d.st = .swap); rw [hs]; decide)]
    show cst d.st + 0 ≤ _; omega
  | fence1 hs K =>
    apply low
    rw [stale_no (by show ¬ (d.st = .word ∨ d.st = .swap); rw [hs]; decide)]
    show cst d.st + 0 ≤ _; omega
  | clY j e hs K he hm =>
    apply low
    rw [stale_no (by show ¬ (d.st = .word ∨ d.st = .swap); rw [hs]; decide)]
    show cst d.st + 0 ≤ _; omega
  | clN j e hs K he hm =>
    apply low
    rw [stale_no (by show ¬ (d.st = .word ∨ d.st = .swap); rw [hs]; decide)]
    show cst d.st + 0 ≤ _; omega
  | flW j e hs K he =>
    apply low
    rw [stale_no (by show ¬ (d.st = .word ∨ d.st = .swap); rw [hs]; decide)]
    show cst d.st + 0 ≤ _; omega
theorem low_cells (I : Inv m ds sh dn) : ∀ {l : List DS} {i : Nat} {D : Deed}, Low m ds t i D l → ∀ c ∈ cells l, 7 ≤ c ∧ c ≤ 10
  | [], _, _, _, c, hc => by cases hc
  | l :: r, i, D, L, c, hc => by
    obtain ⟨hs, j, F, hF, Ml, _, L2⟩ := L
    rcases List.mem_cons.mp hc with q | q
    · have h1 := Ml.ix (.inr (.inr hs))
      have h2 := (Ml.se (by rw [hs]; decide)).2
      have h3 : F.es[l.ix]? = some F.es[l.ix] := List.getElem?_eq_getElem h1
      have q : c = l.ent.1 := q
      rw [q, ent_of h2 h3]
      exact I.w7 hF (List.getElem_mem h1)
    · exact low_cells I L2 c q
theorem desc_len : ∀ (l : List Int), (∀ c ∈ l, 7 ≤ c ∧ c ≤ 10) → ∀ a r, l = a :: r → (l.length : Int) ≤ 4 * (desc l : Int) + (a - 7) + 1
  | [], _, a, r, e => by cases e
  | [x], h, a, r, e => by
    have : x = a := by injection e
    subst this
    have := h x List.mem_cons_self
    show (1 : Int) ≤ 4 * (0 : Int) + (x - 7) + 1
    omega
  | x :: y :: l, h, a, r, e => by
    have xa : x = a := by injection e
    subst xa
    have ih := desc_len (y :: l) (fun c hc => h c (List.mem_cons_of_mem _ hc)) y l rfl
    have hx := h x List.mem_cons_self
    have hy := h y (List.mem_cons_of_mem _ List.mem_cons_self)
    have e2 : desc (x :: y :: l) = (if x ≤ y then 1 else 0) + desc (y :: l) := rfl
    rw [e2]
    simp only [List.length_cons] at ih ⊢
    split <;> omega
/-- at most 34 machines wait -/
theorem depth (I : Inv m ds sh dn) (S : StkOk m ds t (d :: rest)) (h : pot m (d :: rest) ≤ 110) : rest.length ≤ 34 := by
  obtain ⟨_, _, i, D, hD, M, L⟩ := S
  have hp : 3 * rest.length + desc (cells rest) ≤ 110 := by
    have : pot m (d :: rest) = 3 * rest.length + desc (cells rest) + cst d.st + stale m d := rfl
    omega
  cases rest with
  | nil => exact Nat.zero_le _
  | cons l r =>
    have hc := low_cells I L
    have hl := desc_len (cells (l :: r)) hc l.ent.1 (cells r) rfl
    have ha := hc l.ent.1 List.mem_cons_self
    have e : (cells (l :: r)).length = (l :: r).length := by unfold cells; rw [List.length_map]
    rw [e] at hl
    omega
end
end DkM

set_option linter.all false
set_option maxHeartbeats 4000000
namespace DkM
/-! ### a thread alone -/
def isSw (w : Int) : Req → Bool
  | .swap c _ _ => decide (c = w)
  | _ => false
def will (x : DS) (w : Int) : Bool := if x.st = .last then x.left.any (isSw w) else true
def covers (P : List DS) (v : TV) (w : Int) : Bool := P.any (fun x => decide (x.a = markA v) && will x w)
def Fw (m : Mem) (P : List DS) (w : Int) : Nat := if isMark (m.last w) = true ∧ covers P (m.last w) w = false then 1 else 0
def FF (m : Mem) (P : List DS) : Nat := Fw m P 7 + Fw m P 8 + Fw m P 9 + Fw m P 10
def bw (m : Mem) (nw : List DS) (o : DS) (w : Int) : Prop := isMark (m.last w) = true ∧ markA (m.last w) = o.a ∧ covers nw (m.last w) w = false
open Classical in
noncomputable def BB (m : Mem) (nw : List DS) (o : DS) : Nat := if nw ≠ [] ∧ ∃ w : Int, 7 ≤ w ∧ w ≤ 10 ∧ bw m nw o w then 1 else 0
def rem (m : Mem) (d : DS) : Nat := match d.st with
  | .record => if m.last (d.a + 1) = .int 0 then 23 else 13
  | .status => if m.last (d.a + 1) = .int 0 then 22 else 12
  | .word => 2 * (d.es.length - d.ix) + 2 * d.es.length + 5
  | .help => 2 * (d.es.length - d.ix) + 2 * d.es.length + 5
  | .swap => 2 * (d.es.length - d.ix) + 2 * d.es.length + 4
  | .failed => 2 * d.es.length + 5
  | .done => 2 * d.es.length + 5
  | .final => 2 * d.es.length + 4
  | .last => d.left.length
  | .fin => 0
def remL (m : Mem) : List DS → Nat
  | [] => 0
  | d :: r => rem m d + remL m r
noncomputable def psi (m : Mem) (nw : List DS) (o : DS) (os : List DS) : Nat := remL m (nw ++ o :: os) + 38 * FF m (nw ++ [o]) + 14 * BB m nw o
def Solo (m : Mem) : List DS → DS → Prop
  | [], _ => True
  | u :: r, o => ((u.st = .word ∨ u.st = .swap ∨ u.st = .help) → m.last u.s = .int 0) ∧ (∀ x ∈ r, x.a ≠ u.a) ∧ (r = [] → o.a ≠ u.a) ∧ Solo m r o
def SwOk (m : Mem) : List DS → Prop
  | [] => True
  | d :: _ => d.st = .swap → m.last d.ent.1 = .int d.ent.2.1
theorem BB_le (m : Mem) (nw : List DS) (o : DS) : BB m nw o ≤ 1 := by unfold BB; split <;> omega
theorem BB_nil (m : Mem) (o : DS) : BB m [] o = 0 := by unfold BB; rw [if_neg fun h => h.1 rfl]
theorem BB_mono {m m' : Mem} {nw nw' : List DS} {o o' : DS} (hn : nw = [] → nw' = []) (h : ∀ w : Int, 7 ≤ w → w ≤ 10 → bw m' nw' o' w → bw m nw o w) : BB m' nw' o' ≤ BB m nw o := by
  unfold BB
  by_cases c : nw ≠ [] ∧ ∃ w : Int, 7 ≤ w ∧ w ≤ 10 ∧ bw m nw o w
  · rw [if_pos c]; split <;> omega
  · rw [if_neg fun q => c ⟨fun z => q.1 (hn z), let ⟨w, h7, h10, b⟩ := q.2; ⟨w, h7, h10, h w h7 h10 b⟩⟩]; omega
theorem Fw_le (m : Mem) (P : List DS) (w : Int) : Fw m P w ≤ 1 := by unfold Fw; split <;> omega
theorem FF_le (m : Mem) (P : List DS) : FF m P ≤ 4 := by
  have := Fw_le m P 7; have := Fw_le m P 8; have := Fw_le m P 9; have := Fw_le m P 10
  unfold FF; omega
theorem Fw_mono {m m' : Mem} {P P' : List DS} {w : Int} (h : isMark (m'.last w) = true → covers P' (m'.last w) w = false → isMark (m.last w) = true ∧ covers P (m.last w) w = false) : Fw m' P' w ≤ Fw m P w := by
  unfold Fw
  by_cases c : isMark (m'.last w) = true ∧ covers P' (m'.last w) w = false
  · rw [if_pos c, if_pos (h c.1 c.2)]; omega
  · rw [if_neg c]; omega
theorem FF_mono {m m' : Mem} {P P' : List DS} (h : ∀ w : Int, 7 ≤ w → w ≤ 10 → isMark (m'.last w) = true → covers P' (m'.last w) w = false → isMark (m.last w) = true ∧ covers P (m.last w) w = false) : FF m' P' ≤ FF m P := by
  have := Fw_mono (h 7 (by omega) (by omega)); have := Fw_mono (h 8 (by omega) (by omega)); have := Fw_mono (h 9 (by omega) (by omega)); have := Fw_mono (h 10 (by omega) (by omega))
  unfold FF; omega
theorem FF_less {m m' : Mem} {P P' : List DS} (h : ∀ w : Int, 7 ≤ w → w ≤ 10 → isMark (m'.last w) = true → covers P' (m'.last w) w = false → isMark (m.last w) = true ∧ covers P (m.last w) w = false) {w : Int} (h7 : 7 ≤ w) (h10 : w ≤ 10)
    (hw : Fw m' P' w = 0) (hw1 : Fw m P w = 1) : FF m' P' + 1 ≤ FF m P := by
  have := Fw_mono (h 7 (by omega) (by omega)); have := Fw_mono (h 8 (by omega) (by omega)); have := Fw_mono (h 9 (by omega) (by omega)); have := Fw_mono (h 10 (by omega) (by omega))
  unfold FF
  have : w = 7 ∨ w = 8 ∨ w = 9 ∨ w = 10 := by omega
  rcases this with e | e | e | e <;> subst e <;> omega
theorem covers_false {P : List DS} {v : TV} {w : Int} : covers P v w = false ↔ ∀ x ∈ P, x.a = markA v → will x w = false := by
  unfold covers
  rw [List.any_eq_false]
  constructor
  · intro h x hx ha
    have := h x hx
    cases q : will x w with
    | false => rfl
    | true => rw [q, decide_eq_true ha] at this; simp at this
  · intro h x hx q
    obtain ⟨a, b⟩ := Bool.and_eq_true_iff.mp q
    rw [h x hx (of_decide_eq_true a)] at b; cases b
section
variable {m m' : Mem} {ds ds' : List Deed} {sh : Int → Int} {dn : Int → List Nat} {stk : Int → List DS} {t : Int} {i : Nat} {D : Deed} {d : DS} {rest l' : List DS}
theorem low_help : ∀ {l : List DS} {i : Nat} {D : Deed}, Low m ds t i D l → ∀ x ∈ l, x.st = .help ∧ ∃ (j : Nat) (E : Deed), ds[j]? = some E ∧ MOk m t j E x
  | [], _, _, _, x, hx => by cases hx
  | l :: r, i, D, L, x, hx => by
    obtain ⟨hs, j, F, hF, Ml, _, L2⟩ := L
    rcases List.mem_cons.mp hx with rfl | hx
    · exact ⟨hs, j, F, hF, Ml⟩
    · exact low_help L2 x hx
theorem rem_help {x : DS} (h : x.st = .help) : rem m' x = rem m x := by unfold rem; rw [h]
theorem remL_help : ∀ {l : List DS}, (∀ x ∈ l, x.st = .help) → remL m' l = remL m l
  | [], _ => rfl
  | x :: r, h => by
    show rem m' x + remL m' r = rem m x + remL m r
    rw [rem_help (h x List.mem_cons_self), remL_help fun y hy => h y (List.mem_cons_of_mem _ hy)]
theorem Solo.mono : ∀ {r : List DS} {o : DS}, Solo m r o → (∀ x ∈ r, m'.last x.s = m.last x.s) → Solo m' r o
  | [], _, _, _ => trivial
  | u :: r, o, ⟨s1, s2, s3, s4⟩, h => ⟨fun q => by rw [h u List.mem_cons_self]; exact s1 q, s2, s3, Solo.mono s4 fun x hx => h x (List.mem_cons_of_mem _ hx)⟩
/-- whose mark a machine that is sure of its deed cannot meet -/
theorem below (I : Inv m ds sh dn) : ∀ {r : List DS} {i : Nat} {D : Deed} {o : DS} {os : List DS} (_ : Low m ds t i D (r ++ o :: os)) (_ : ds[i]? = some D) (_ : D.st = .int 0) (_ : Solo m r o) (_ : r = [] → o.a ≠ Ad i) (_ : ∀ x ∈ r, x.a ≠ Ad i)
    {c : Int} {e : Ent} (_ : e ∈ D.es) (_ : m.last e.1 ≠ mkA i e) (_ : e.1 ≤ c) {k : Nat} {E : Deed} {f : Ent} (_ : ds[k]? = some E) (_ : f ∈ E.es) (_ : f.1 = c) (_ : m.last c = mkA k f), (∀ x ∈ r, x.a ≠ Ad k) ∧ (o.a = Ad k → E.st ≠ .int 0)
  | [], i, D, o, os, L, hD, h0, S, d1, d2, c, e, he, hne, hc, k, E, f, hE, hf, hfc, hm => by
    obtain ⟨hs, j, F, hF, Mo, ⟨e0, he0, hc0, hm0⟩, _⟩ := L
    refine ⟨fun x hx => (by cases hx), fun ho hE0 => ?_⟩
    have hm1 := hm0 h0
    have lt : e0.1 < e.1 := by
      rcases Int.lt_trichotomy e0.1 e.1 with q | q | q
      · exact q
      · have := (I.es i D hD).cell he0 he q
        rw [this] at hm1; exact absurd hm1 hne
      · exact absurd (I.ord i D e0 e hD h0 he0 he hm1 q) hne
    have jk : j = k := by
      have := Mo.a
      rw [ho] at this
      unfold Ad at this; omega
    subst jk
    have : F = E := Option.some.inj (hF.symm.trans hE)
    subst this
    have hix := Mo.ix (.inr (.inr hs))
    have hoe : F.es[o.ix]? = some F.es[o.ix] := List.getElem?_eq_getElem hix
    have hent := ent_of (Mo.se (by rw [hs]; decide)).2 hoe
    rw [hent] at hc0
    have z := I.ord j F f F.es[o.ix] hF hE0 hf (List.getElem_mem hix) (by rw [hfc]; exact hm) (by rw [← hc0, hfc]; omega)
    rw [← hc0, hm1] at z
    have := (mkA_inj z).1
    subst this
    exact d1 rfl ho
  | l :: r, i, D, o, os, L, hD, h0, S, d1, d2, c, e, he, hne, hc, k, E, f, hE, hf, hfc, hm => by
    obtain ⟨hs, j, F, hF, Ml, ⟨e0, he0, hc0, hm0⟩, L2⟩ := L
    obtain ⟨s1, s2, s3, s4⟩ := S
    have hm1 := hm0 h0
    have lt : e0.1 < e.1 := by
      rcases Int.lt_trichotomy e0.1 e.1 with q | q | q
      · exact q
      · have := (I.es i D hD).cell he0 he q
        rw [this] at hm1; exact absurd hm1 hne
      · exact absurd (I.ord i D e0 e hD h0 he0 he hm1 q) hne
    have q1 := Ml.se (by rw [hs]; decide)
    have hF0 : F.st = .int 0 := by
      have := s1 (.inr (.inr hs))
      rw [q1.1, I.sl j F hF] at this; exact this
    have hix := Ml.ix (.inr (.inr hs))
    have hle : F.es[l.ix]? = some F.es[l.ix] := List.getElem?_eq_getElem hix
    have hent := ent_of q1.2 hle
    rw [hent] at hc0
    have ij : i ≠ j := fun z => d2 l List.mem_cons_self (by rw [Ml.a, z])
    have hne2 : m.last F.es[l.ix].1 ≠ mkA j F.es[l.ix] := fun z => by
      rw [← hc0, hm1] at z
      exact ij (mkA_inj z).1
    have ih := below I L2 hF hF0 s4 (fun z => by rw [← Ml.a]; exact s3 z) (fun x hx => by rw [← Ml.a]; exact s2 x hx) (List.getElem_mem hix) hne2 (by rw [← hc0]; omega) hE hf hfc hm
    refine ⟨fun x hx => ?_, ih.2⟩
    rcases List.mem_cons.mp hx with rfl | hx
    · intro ha
      have jk : j = k := by
        have := Ml.a
        rw [ha] at this
        unfold Ad at this; omega
      subst jk
      have : F = E := Option.some.inj (hF.symm.trans hE)
      subst this
      exact hne2 (I.ord j F f F.es[x.ix] hF hF0 hf (List.getElem_mem hix) (by rw [hfc]; exact hm) (by rw [← hc0, hfc]; omega))
    · exact ih.1 x hx
/-- the split of a stack: nw the machines pushed while the thread is alone, o the topmost of the others -/
inductive Split (d : DS) (rest : List DS) : List DS → DS → List DS → Prop
  | old : Split d rest [] d rest
  | new (r : List DS) (o : DS) (os : List DS) : rest = r ++ o :: os → Split d rest (d :: r) o os
/-- what a solo step gives -/
def SoloS (m' : Mem) (l' : List DS) (N : Nat) : Prop := l' = [] ∧ 1 ≤ N ∨ ∃ (d' : DS) (rest' nw' : List DS) (o' : DS) (os' : List DS), l' = d' :: rest' ∧ Split d' rest' nw' o' os' ∧ Solo m' nw' o' ∧ SwOk m' l' ∧ psi m' nw' o' os' + 1 ≤ N
theorem Split.eq {nw os : List DS} {o : DS} (h : Split d rest nw o os) : d :: rest = nw ++ o :: os := by
  cases h with
  | old => rfl
  | new r o os e => rw [e]; rfl
/-- the top is replaced -/
theorem top_rep {nw os : List DS} {o d' : DS} (X : Split d rest nw o os) (S : Solo m nw o) (hh : ∀ x ∈ rest, x.st = .help) (ha : d'.a = d.a) (hr : rem m' d' + 1 ≤ rem m d)
    (hw : ∀ w : Int, 7 ≤ w → w ≤ 10 → isMark (m'.last w) = true → (m'.last w = m.last w ∧ (d.a = markA (m.last w) → will d w = true → will d' w = true)) ∨ (d.a = markA (m'.last w) ∧ will d' w = true))
    (hu : nw ≠ [] → (d'.st = .word ∨ d'.st = .swap ∨ d'.st = .help) → m'.last d'.s = .int 0) (hs : ∀ x ∈ rest, x.a ≠ d.a → m'.last x.s = m.last x.s) (hsw : SwOk m' (d' :: rest)) : SoloS m' (d' :: rest) (psi m nw o os) := by
  right
  have cov : ∀ (A : List DS) (w : Int), 7 ≤ w → w ≤ 10 → isMark (m'.last w) = true → covers (d' :: A) (m'.last w) w = false → isMark (m.last w) = true ∧ covers (d :: A) (m.last w) w = false ∧ m'.last w = m.last w := by
    intro A w h7 h10 hm hc
    rw [covers_false] at hc
    rcases hw w h7 h10 hm with ⟨e, hd⟩ | ⟨e, hd⟩
    · refine ⟨by rw [← e]; exact hm, covers_false.mpr fun x hx hxa => ?_, e⟩
      rcases List.mem_cons.mp hx with rfl | hx
      · cases q : will x w with
        | false => rfl
        | true =>
          have := hc d' List.mem_cons_self (by rw [ha, e]; exact hxa)
          rw [hd hxa q] at this; cases this
      · exact hc x (List.mem_cons_of_mem _ hx) (by rw [e]; exact hxa)
    · have := hc d' List.mem_cons_self (by rw [ha]; exact e)
      rw [hd] at this; cases this
  cases X with
  | old =>
    refine ⟨d', rest, [], d', rest, rfl, .old, trivial, hsw, ?_⟩
    have f : FF m' [d'] ≤ FF m [d] := FF_mono fun w h7 h10 hm hc => let z := cov [] w h7 h10 hm hc; ⟨z.1, z.2.1⟩
    have r : remL m' (d' :: rest) = rem m' d' + remL m rest := by
      show rem m' d' + remL m' rest = _
      rw [remL_help hh]
    have r2 : remL m (d :: rest) = rem m d + remL m rest := rfl
    unfold psi
    rw [BB_nil, BB_nil]
    show remL m' (d' :: rest) + 38 * FF m' [d'] + 14 * 0 + 1 ≤ remL m (d :: rest) + 38 * FF m [d] + 14 * 0
    rw [r, r2]; omega
  | new r o os e =>
    obtain ⟨s1, s2, s3, s4⟩ := S
    refine ⟨d', rest, d' :: r, o, os, rfl, .new r o os e, ⟨hu (by simp), fun x hx => by rw [ha]; exact s2 x hx, fun z => by rw [ha]; exact s3 z, s4.mono fun x hx => hs x (by rw [e]; exact List.mem_append_left _ hx) (s2 x hx)⟩, hsw, ?_⟩
    have f : FF m' (d' :: (r ++ [o])) ≤ FF m (d :: (r ++ [o])) := FF_mono fun w h7 h10 hm hc => let z := cov (r ++ [o]) w h7 h10 hm hc; ⟨z.1, z.2.1⟩
    have b : BB m' (d' :: r) o ≤ BB m (d :: r) o := BB_mono (fun z => by cases z) fun w h7 h10 ⟨b1, b2, b3⟩ => by
      obtain ⟨c1, c2, c3⟩ := cov r w h7 h10 b1 b3
      exact ⟨c1, by rw [← c3]; exact b2, c2⟩
    have r1 : remL m' (d' :: rest) = rem m' d' + remL m rest := by
      show rem m' d' + remL m' rest = _
      rw [remL_help hh]
    have r2 : remL m (d :: rest) = rem m d + remL m rest := rfl
    unfold psi
    show remL m' (d' :: (r ++ o :: os)) + 38 * FF m' (d' :: (r ++ [o])) + 14 * BB m' (d' :: r) o + 1 ≤ remL m (d :: (r ++ o :: os)) + 38 * FF m (d :: (r ++ [o])) + 14 * BB m (d :: r) o
    rw [← e, r1, r2]; omega
theorem will_of {x : DS} {w : Int} (h : x.st ≠ .last) : will x w = true := by unfold will; rw [if_neg h]
theorem will_last {x : DS} {w : Int} (h : x.st = .last) : will x w = x.left.any (isSw w) := by unfold will; rw [if_pos h]
theorem markA_mkA (i : Nat) (e : Ent) : markA (mkA i e) = Ad i := rfl
theorem isMark_mkA (i : Nat) (e : Ent) : isMark (mkA i e) = true := rfl
/-- a mark whose address is this deed's -/
theorem mark_own (I : Inv m ds sh dn) (hD : ds[i]? = some D) {w : Int} (h7 : 7 ≤ w) (h10 : w ≤ 10) (hm : isMark (m.last w) = true) (ha : Ad i = markA (m.last w)) : ∃ e ∈ D.es, e.1 = w ∧ m.last w = mkA i e := by
  rcases I.wd w h7 h10 with q | ⟨j, F, f, hF, hf, hw, q, _⟩
  · rw [q] at hm; cases hm
  · rw [q, markA_mkA] at ha
    have : j = i := by unfold Ad at ha; omega
    subst this
    have : F = D := Option.some.inj (hF.symm.trans hD)
    subst this
    exact ⟨f, hf, hw, q⟩
theorem any_drop_succ {l : List Req} {k : Nat} {r : Req} {w : Int} (h : l[k]? = some r) : (l.drop k).any (isSw w) = (isSw w r || (l.drop (k + 1)).any (isSw w)) := by
  obtain ⟨hk, e⟩ := List.getElem?_eq_some_iff.mp h
  rw [List.drop_eq_getElem_cons hk, e, List.any_cons]
end
end DkM

set_option linter.all false
set_option maxHeartbeats 4000000
namespace DkM
section
variable {m m' : Mem} {ds ds' : List Deed} {sh : Int → Int} {dn : Int → List Nat} {stk : Int → List DS} {t : Int} {i : Nat} {D : Deed} {d : DS} {rest l' : List DS}
theorem rem_word (h : d.st = .word ∨ d.st = .help) : rem m d = 2 * (d.es.length - d.ix) + 2 * d.es.length + 5 := by unfold rem; rcases h with h | h <;> rw [h]
theorem rem_swap (h : d.st = .swap) : rem m d = 2 * (d.es.length - d.ix) + 2 * d.es.length + 4 := by unfold rem; rw [h]
theorem rem_fd (h : d.st = .failed ∨ d.st = .done) : rem m d = 2 * d.es.length + 5 := by unfold rem; rcases h with h | h <;> rw [h]
theorem rem_final (h : d.st = .final) : rem m d = 2 * d.es.length + 4 := by unfold rem; rw [h]
theorem rem_last (h : d.st = .last) : rem m d = d.left.length := by unfold rem; rw [h]
theorem rem_status (h : d.st = .status) : rem m d = if m.last (d.a + 1) = .int 0 then 22 else 12 := by unfold rem; rw [h]
theorem rem_record (h : d.st = .record) : rem m d = if m.last (d.a + 1) = .int 0 then 23 else 13 := by unfold rem; rw [h]
theorem ad_sc (i : Nat) : Ad i + 1 = Sc i := by unfold Ad Sc; omega
theorem rem_pass {e : Ent} (h2 : d.es = D.es) (he : D.es[d.ix]? = some e) : rem m d.pass = 2 * (d.es.length - (d.ix + 1)) + 2 * d.es.length + 5 := by
  have lt := (List.getElem?_eq_some_iff.mp he).1
  rw [← h2] at lt
  by_cases c : d.ix + 1 = d.es.length
  · have st : d.pass.st = .done := by unfold DS.pass; simp only [c, if_true]
    rw [rem_fd (.inr st)]
    show 2 * d.es.length + 5 = _
    omega
  · have st : d.pass.st = .word := by unfold DS.pass; simp only [c, if_false]
    rw [rem_word (.inl st)]; rfl
theorem sw_no {s : St} (h : d.st = s) (hs : s ≠ .swap) : SwOk m (d :: rest) := fun z => absurd (h.symm.trans z) hs
theorem left_len {k : Nat} (M : MOk m t i D d) (hs : d.st = .last) (K : LastOk m t i D d k) : d.left.length = 2 * D.es.length + 3 - k := by
  rw [K.left, List.length_drop, lasts_len, (M.se (by rw [hs]; decide)).2]
theorem left_len' {k : Nat} (M : MOk m t i D d) (hs : d.st = .last) : ((d.lasts D.st).drop k).length = 2 * D.es.length + 3 - k := by
  rw [List.length_drop, lasts_len, (M.se (by rw [hs]; decide)).2]
theorem will_k {k : Nat} {w : Int} (hs : d.st = .last) (K : LastOk m t i D d k) : will d w = ((d.lasts D.st).drop k).any (isSw w) := by rw [will_last hs, K.left]
theorem will_k' {k : Nat} {w : Int} (hs : d.st = .last) : will { d with left := (d.lasts D.st).drop k } w = ((d.lasts D.st).drop k).any (isSw w) := will_last (x := { d with left := (d.lasts D.st).drop k }) hs
theorem rest_s (L : Low m ds t i D rest) (I : Inv m ds sh dn) : ∀ x ∈ rest, ∃ j : Nat, j < 24 ∧ x.s = Sc j ∧ x.a = Ad j := fun x hx => by
  obtain ⟨hs, j, E, hE, M⟩ := low_help L x hx
  exact ⟨j, I.ilt hE, (M.se (by rw [hs]; decide)).1, M.a⟩
theorem rem_le (I : Inv m ds sh dn) (hD : ds[i]? = some D) (M : MOk m t i D d) : rem m d ≤ 23 ∧ (d.st = .help → rem m d ≤ 21) ∧ (d.st = .swap → rem m d ≤ 20) := by
  have n4 := (I.es i D hD).le
  refine ⟨?_, fun h => ?_, fun h => ?_⟩
  · cases h : d.st with
    | record => rw [rem_record h]; split <;> omega
    | status => rw [rem_status h]; split <;> omega
    | fin => unfold rem; rw [h]; exact Nat.zero_le _
    | last =>
      obtain ⟨_, _, k, K⟩ := M.la h
      rw [rem_last h, left_len M h K]; omega
    | word => rw [rem_word (.inl h), (M.se (by rw [h]; decide)).2]; omega
    | help => rw [rem_word (.inr h), (M.se (by rw [h]; decide)).2]; omega
    | swap => rw [rem_swap h, (M.se (by rw [h]; decide)).2]; omega
    | failed => rw [rem_fd (.inl h), (M.se (by rw [h]; decide)).2]; omega
    | done => rw [rem_fd (.inr h), (M.se (by rw [h]; decide)).2]; omega
    | final => rw [rem_final h, (M.se (by rw [h]; decide)).2]; omega
  · rw [rem_word (.inr h), (M.se (by rw [h]; decide)).2]; omega
  · rw [rem_swap h, (M.se (by rw [h]; decide)).2]; omega
/-- A STEP OF A THREAD ALONE lowers the potential -/
theorem solo_step (I : Inv m ds sh dn) (hD : ds[i]? = some D) (M : MOk m t i D d) (L : Low m ds t i D rest) (O : Out m ds sh t d rest i D m' l') {nw os : List DS} {o : DS} (X : Split d rest nw o os) (S : Solo m nw o) (hsw : SwOk m (d :: rest)) : SoloS m' l' (psi m nw o os) := by
  have hh : ∀ x ∈ rest, x.st = .help := fun x hx => (low_help L x hx).1
  have n4 := (I.es i D hD).le
  have und : nw ≠ [] → (d.st = .word ∨ d.st = .swap ∨ d.st = .help) → m.last d.s = .int 0 := fun hn hs => by
    cases X with
    | old => exact absurd rfl hn
    | new r o os e => exact S.1 hs
  cases O with
  | record hs =>
    refine top_rep X S hh rfl ?_ (fun w _ _ _ => .inl ⟨rfl, fun _ _ => will_of (by show St.status ≠ .last; decide)⟩) (fun _ z => absurd z (by show ¬ (St.status = .word ∨ St.status = .swap ∨ St.status = .help); decide)) (fun x _ _ => rfl) (sw_no (s := .status) rfl (by decide))
    rw [rem_record hs, rem_status (d := { d with s := Sc i, es := D.es, st := .status }) rfl]
    show (if m.last (d.a + 1) = .int 0 then 22 else 12) + 1 ≤ _
    split <;> omega
  | statusW hs h0 =>
    obtain ⟨q1, q2⟩ := M.se (by rw [hs]; decide)
    refine top_rep X S hh rfl ?_ (fun w _ _ _ => .inl ⟨rfl, fun _ _ => will_of (by show St.word ≠ .last; decide)⟩) (fun _ _ => by show m.last d.s = _; rw [q1, I.sl i D hD, h0]) (fun x _ _ => rfl) (sw_no (s := .word) rfl (by decide))
    rw [rem_status hs, rem_word (d := { d with st := .word }) (.inl rfl), M.a, ad_sc, I.sl i D hD, if_pos h0]
    show 2 * (d.es.length - d.ix) + 2 * d.es.length + 5 + 1 ≤ 22
    rw [q2]; omega
  | statusL hs h0 =>
    have hr : d.st ≠ .record := by rcases hs with q | q <;> rw [q] <;> decide
    obtain ⟨q1, q2⟩ := M.se hr
    refine top_rep X S hh rfl ?_ (fun w h7 h10 hm => .inl ⟨rfl, fun ha _ => ?_⟩) (fun _ z => absurd z (by show ¬ (St.last = .word ∨ St.last = .swap ∨ St.last = .help); decide)) (fun x _ _ => rfl) (sw_no (s := .last) rfl (by decide))
    · rw [rem_last (d := { d with v := D.st, left := d.lasts D.st, st := .last }) rfl]
      show (d.lasts D.st).length + 1 ≤ _
      rw [lasts_len, q2]
      rcases hs with q | q
      · rw [rem_status q, M.a, ad_sc, I.sl i D hD, if_neg h0]; omega
      · rw [rem_final q, q2]; omega
    · obtain ⟨e, he, hw, _⟩ := mark_own I hD h7 h10 hm (by rw [← M.a]; exact ha)
      obtain ⟨j, hj⟩ := List.getElem?_of_mem he
      rw [will_last rfl]
      refine List.any_eq_true.mpr ⟨_, List.mem_of_getElem? (lasts_sw (d := d) (v := D.st) (by rw [q2]; exact hj)), ?_⟩
      exact decide_eq_true hw
  | wordP e hs he hm =>
    obtain ⟨q1, q2⟩ := M.se (by rw [hs]; decide)
    have lt := (List.getElem?_eq_some_iff.mp he).1
    refine top_rep X S hh rfl ?_ (fun w _ _ _ => .inl ⟨rfl, fun _ _ => will_of (by rcases pass_st d with q | q <;> rw [q] <;> decide)⟩) (fun hn z => und hn (.inl hs)) (fun x _ _ => rfl) (by rcases pass_st d with q | q <;> exact sw_no q (by decide))
    rw [rem_pass q2 he, rem_word (.inl hs), q2]; omega
  | wordS e hs he hm =>
    obtain ⟨q1, q2⟩ := M.se (by rw [hs]; decide)
    have lt := (List.getElem?_eq_some_iff.mp he).1
    refine top_rep X S hh rfl ?_ (fun w _ _ _ => .inl ⟨rfl, fun _ _ => will_of (by show St.swap ≠ .last; decide)⟩) (fun hn z => und hn (.inl hs)) (fun x _ _ => rfl) (fun _ => by show m.last d.ent.1 = .int d.ent.2.1; rw [ent_of q2 he]; exact hm)
    rw [rem_swap (d := { d with st := .swap }) rfl, rem_word (.inl hs)]
    show 2 * (d.es.length - d.ix) + 2 * d.es.length + 4 + 1 ≤ _
    omega
  | wordF e hs he hm hne =>
    obtain ⟨q1, q2⟩ := M.se (by rw [hs]; decide)
    have lt := (List.getElem?_eq_some_iff.mp he).1
    refine top_rep X S hh rfl ?_ (fun w _ _ _ => .inl ⟨rfl, fun _ _ => will_of (by show St.failed ≠ .last; decide)⟩) (fun _ z => absurd z (by show ¬ (St.failed = .word ∨ St.failed = .swap ∨ St.failed = .help); decide)) (fun x _ _ => rfl) (sw_no (s := .failed) rfl (by decide))
    rw [rem_fd (d := { d with st := .failed }) (.inl rfl), rem_word (.inl hs)]
    show 2 * d.es.length + 5 + 1 ≤ _
    rw [q2]; omega
  | swapY e hs he hm =>
    obtain ⟨q1, q2⟩ := M.se (by rw [hs]; decide)
    have lt := (List.getElem?_eq_some_iff.mp he).1
    have h10 := (I.w7 hD (List.mem_of_getElem? he)).2
    have wl : ∀ w, will d.pass w = true := fun w => will_of (by rcases pass_st d with q | q <;> rw [q] <;> decide)
    refine top_rep X S hh rfl ?_ (fun w _ _ _ => ?_) (fun hn z => ?_) (fun x hx _ => ?_) (by rcases pass_st d with q | q <;> exact sw_no q (by decide))
    · rw [rem_pass q2 he, rem_swap hs, q2]; omega
    · by_cases c : w = e.1
      · right
        rw [c, give_last]
        exact ⟨M.a, wl _⟩
      · left
        exact ⟨give_last_ne c, fun _ _ => wl w⟩
    · show (m.tick.give e.1 (mkA i e)).last d.s = _
      rw [q1, give_last_ne (sc_w h10).1, ← q1]
      exact und hn (.inr (.inl hs))
    · obtain ⟨j, _, hj, _⟩ := rest_s L I x hx
      rw [hj, give_last_ne (sc_w h10).1]
  | swapN e hs he hm =>
    exfalso
    obtain ⟨q1, q2⟩ := M.se (by rw [hs]; decide)
    have := hsw hs
    rw [ent_of q2 he] at this
    exact hm this
  | wordH e j E f hs he hE hf hc hji hm =>
    obtain ⟨q1, q2⟩ := M.se (by rw [hs]; decide)
    have hem := List.mem_of_getElem? he
    obtain ⟨h7, h10⟩ := I.w7 hD hem
    have aij : d.a ≠ Ad j := by rw [M.a]; unfold Ad; omega
    have r1 : rem m.tick (DS.init (Ad j)) ≤ 23 := by rw [rem_record rfl]; split <;> omega
    have r2 : rem m.tick { d with st := .help } = rem m d := by rw [rem_word (d := { d with st := .help }) (.inr rfl), rem_word (.inl hs)]
    have r3 : remL m.tick rest = remL m rest := remL_help hh
    have covi : ∀ (A : List DS) (w : Int), isMark (m.last w) = true → covers (DS.init (Ad j) :: { d with st := .help } :: A) (m.last w) w = false → covers (d :: A) (m.last w) w = false ∧ Ad j ≠ markA (m.last w) := fun A w h1 h2 => by
      rw [covers_false] at h2
      refine ⟨covers_false.mpr fun x hx hxa => ?_, fun z => ?_⟩
      · rcases List.mem_cons.mp hx with rfl | hx
        · have := h2 { x with st := .help } (List.mem_cons_of_mem _ List.mem_cons_self) hxa
          rw [will_of (by show St.help ≠ .last; decide)] at this; cases this
        · exact h2 x (List.mem_cons_of_mem _ (List.mem_cons_of_mem _ hx)) hxa
      · have := h2 (DS.init (Ad j)) List.mem_cons_self z
        rw [will_of (by show St.record ≠ .last; decide)] at this; cases this
    have fw0 : ∀ A : List DS, Fw m.tick (DS.init (Ad j) :: { d with st := .help } :: A) e.1 = 0 := fun A => by
      unfold Fw
      rw [if_neg]
      intro ⟨z1, z2⟩
      have := (covi A e.1 z1 z2).2
      rw [hm] at this
      exact this rfl
    have fw1 : ∀ A : List DS, (∀ x ∈ A, x.a ≠ Ad j) → Fw m (d :: A) e.1 = 1 := fun A hA => by
      unfold Fw
      rw [if_pos]
      refine ⟨by rw [hm]; rfl, covers_false.mpr fun x hx hxa => ?_⟩
      rw [hm, markA_mkA] at hxa
      rcases List.mem_cons.mp hx with rfl | hx
      · exact absurd hxa aij
      · exact absurd hxa (hA x hx)
    right
    cases X with
    | old =>
      refine ⟨DS.init (Ad j), { d with st := .help } :: rest, [DS.init (Ad j)], { d with st := .help }, rest, rfl, .new [] _ _ rfl, ⟨fun z => absurd z (by show ¬ (St.record = .word ∨ St.record = .swap ∨ St.record = .help); decide), fun x hx => (by cases hx), fun _ => aij, trivial⟩, sw_no (s := .record) rfl (by decide), ?_⟩
      have f : FF m.tick [DS.init (Ad j), { d with st := .help }] + 1 ≤ FF m [d] := FF_less (fun w g7 g10 z1 z2 => ⟨z1, (covi [] w z1 z2).1⟩) h7 h10 (fw0 []) (fw1 [] fun x hx => by cases hx)
      have b := BB_le m.tick [DS.init (Ad j)] { d with st := .help }
      unfold psi
      rw [BB_nil]
      show rem m.tick (DS.init (Ad j)) + (rem m.tick { d with st := .help } + remL m.tick rest) + 38 * FF m.tick [DS.init (Ad j), { d with st := .help }] + 14 * BB m.tick [DS.init (Ad j)] { d with st := .help } + 1 ≤ (rem m d + remL m rest) + 38 * FF m [d] + 14 * 0
      rw [r2, r3]; omega
    | new r o os er =>
      obtain ⟨s1, s2, s3, s4⟩ := S
      have h0 : D.st = .int 0 := by
        have := s1 (.inl hs)
        rw [q1, I.sl i D hD] at this; exact this
      have hne : m.last e.1 ≠ mkA i e := fun z => by
        rw [hm] at z
        exact hji (mkA_inj z).1
      rw [er] at L
      obtain ⟨b1, b2⟩ := below I L hD h0 s4 (fun z => by rw [← M.a]; exact s3 z) (fun x hx => by rw [← M.a]; exact s2 x hx) hem hne (Int.le_refl _) hE hf hc hm
      refine ⟨DS.init (Ad j), { d with st := .help } :: rest, DS.init (Ad j) :: { d with st := .help } :: r, o, os, rfl, .new _ _ _ (by rw [er]; rfl), ⟨fun z => absurd z (by show ¬ (St.record = .word ∨ St.record = .swap ∨ St.record = .help); decide), fun x hx => ?_, fun z => (by cases z), fun _ => s1 (.inl hs), s2, s3, s4.mono fun x _ => rfl⟩, sw_no (s := .record) rfl (by decide), ?_⟩
      · rcases List.mem_cons.mp hx with rfl | hx
        · exact aij
        · exact b1 x hx
      · have base : remL m.tick (DS.init (Ad j) :: { d with st := .help } :: (r ++ o :: os)) = rem m.tick (DS.init (Ad j)) + (rem m d + remL m rest) := by
          show rem m.tick (DS.init (Ad j)) + (rem m.tick { d with st := .help } + remL m.tick (r ++ o :: os)) = _
          rw [r2, ← er, r3]
        have base2 : remL m (d :: (r ++ o :: os)) = rem m d + remL m rest := by
          show rem m d + remL m (r ++ o :: os) = _
          rw [← er]
        unfold psi
        show remL m.tick (DS.init (Ad j) :: { d with st := .help } :: (r ++ o :: os)) + 38 * FF m.tick (DS.init (Ad j) :: { d with st := .help } :: (r ++ [o])) + 14 * BB m.tick (DS.init (Ad j) :: { d with st := .help } :: r) o + 1 ≤ remL m (d :: (r ++ o :: os)) + 38 * FF m (d :: (r ++ [o])) + 14 * BB m (d :: r) o
        rw [base, base2]
        by_cases c : o.a = Ad j
        · have n0 := b2 c
          have r4 : rem m.tick (DS.init (Ad j)) = 13 := by
            rw [rem_record rfl, if_neg]
            show m.last (Ad j + 1) ≠ _
            rw [ad_sc, I.sl j E hE]; exact n0
          have f : FF m.tick (DS.init (Ad j) :: { d with st := .help } :: (r ++ [o])) ≤ FF m (d :: (r ++ [o])) := FF_mono fun w g7 g10 z1 z2 => ⟨z1, (covi (r ++ [o]) w z1 z2).1⟩
          have bb1 : BB m (d :: r) o = 1 := by
            unfold BB
            rw [if_pos]
            refine ⟨by simp, e.1, h7, h10, by rw [hm]; rfl, by rw [hm, c]; rfl, covers_false.mpr fun x hx hxa => ?_⟩
            rw [hm, markA_mkA] at hxa
            rcases List.mem_cons.mp hx with rfl | hx
            · exact absurd hxa aij
            · exact absurd hxa (b1 x hx)
          have bb0 : BB m.tick (DS.init (Ad j) :: { d with st := .help } :: r) o = 0 := by
            unfold BB
            rw [if_neg]
            rintro ⟨_, w, g7, g10, z1, z2, z3⟩
            have := (covi r w z1 z3).2
            rw [show markA (m.last w) = o.a from z2, c] at this
            exact this rfl
          rw [r4, bb1, bb0]; omega
        · have f : FF m.tick (DS.init (Ad j) :: { d with st := .help } :: (r ++ [o])) + 1 ≤ FF m (d :: (r ++ [o])) := FF_less (fun w g7 g10 z1 z2 => ⟨z1, (covi (r ++ [o]) w z1 z2).1⟩) h7 h10 (fw0 _) (fw1 _ fun x hx => by
            rcases List.mem_append.mp hx with hx | hx
            · exact b1 x hx
            · have : x = o := by simpa using hx
              rw [this]; exact c)
          have b : BB m.tick (DS.init (Ad j) :: { d with st := .help } :: r) o ≤ BB m (d :: r) o := BB_mono (fun z => by cases z) fun w g7 g10 ⟨z1, z2, z3⟩ => ⟨z1, z2, (covi r w z1 z3).1⟩
          omega
  | decF hs h0 =>
    obtain ⟨q1, q2⟩ := M.se (by rw [hs]; decide)
    refine top_rep X S hh rfl ?_ (fun w _ h10 _ => .inl ⟨give_last_ne (sc_w h10).1.symm, fun _ _ => will_of (by show St.final ≠ .last; decide)⟩) (fun _ z => absurd z (by show ¬ (St.final = .word ∨ St.final = .swap ∨ St.final = .help); decide)) (fun x hx ha => ?_) (sw_no (s := .final) rfl (by decide))
    · rw [rem_final (d := { d with st := .final }) rfl, rem_fd (.inl hs)]; exact Nat.le_refl _
    · obtain ⟨j, _, hj, hja⟩ := rest_s L I x hx
      rw [hj, give_last_ne (sc_ne fun z => ha (by rw [hja, M.a, z]))]
  | decD hs h0 =>
    obtain ⟨q1, q2⟩ := M.se (by rw [hs]; decide)
    refine top_rep X S hh rfl ?_ (fun w _ h10 _ => .inl ⟨give_last_ne (sc_w h10).1.symm, fun _ _ => will_of (by show St.final ≠ .last; decide)⟩) (fun _ z => absurd z (by show ¬ (St.final = .word ∨ St.final = .swap ∨ St.final = .help); decide)) (fun x hx ha => ?_) (sw_no (s := .final) rfl (by decide))
    · rw [rem_final (d := { d with st := .final }) rfl, rem_fd (.inr hs)]; exact Nat.le_refl _
    · obtain ⟨j, _, hj, hja⟩ := rest_s L I x hx
      rw [hj, give_last_ne (sc_ne fun z => ha (by rw [hja, M.a, z]))]
  | decN hs h0 =>
    have hr : d.st ≠ .record := by rcases hs with q | q <;> rw [q] <;> decide
    refine top_rep X S hh rfl ?_ (fun w _ h10 _ => .inl ⟨rfl, fun _ _ => will_of (by show St.final ≠ .last; decide)⟩) (fun _ z => absurd z (by show ¬ (St.final = .word ∨ St.final = .swap ∨ St.final = .help); decide)) (fun x hx ha => rfl) (sw_no (s := .final) rfl (by decide))
    rw [rem_final (d := { d with st := .final }) rfl, rem_fd hs]; exact Nat.le_refl _
  | flush0 hs K =>
    refine top_rep X S hh rfl ?_ (fun w _ _ _ => .inl ⟨rfl, fun _ hw => ?_⟩) (fun _ z => absurd z (by show ¬ (d.st = .word ∨ d.st = .swap ∨ d.st = .help); rw [hs]; decide)) (fun x _ _ => rfl) (sw_no (s := .last) hs (by decide))
    · rw [rem_last (d := { d with left := (d.lasts D.st).drop 1 }) hs, rem_last hs, left_len M hs K]
      show ((d.lasts D.st).drop 1).length + 1 ≤ _
      rw [left_len' M hs]; omega
    · rw [will_k hs K, any_drop_succ (lasts_0 d D.st)] at hw
      rw [will_k' hs]; exact hw
  | fence1 hs K =>
    have dr := drop_fence I t
    refine top_rep X S hh rfl ?_ (fun w _ _ _ => .inl ⟨dr.last (by omega) (by omega), fun _ hw => ?_⟩) (fun _ z => absurd z (by show ¬ (d.st = .word ∨ d.st = .swap ∨ d.st = .help); rw [hs]; decide)) (fun x hx _ => ?_) (sw_no (s := .last) hs (by decide))
    · rw [rem_last (d := { d with left := (d.lasts D.st).drop 2 }) hs, rem_last hs, left_len M hs K]
      show ((d.lasts D.st).drop 2).length + 1 ≤ _
      rw [left_len' M hs]; omega
    · rw [will_k hs K, any_drop_succ (lasts_1 d D.st)] at hw
      rw [will_k' hs]; exact hw
    · obtain ⟨j, hj24, hj, _⟩ := rest_s L I x hx
      obtain ⟨r1, r2, _⟩ := sc_rng hj24
      rw [hj, dr.last r1 r2]
  | clY j e hs K he hm =>
    obtain ⟨q1, q2⟩ := M.se (by rw [hs]; decide)
    have lt := (List.getElem?_eq_some_iff.mp he).1
    have h10' := (I.w7 hD (List.mem_of_getElem? he)).2
    refine top_rep X S hh rfl ?_ (fun w _ _ hmk => .inl ?_) (fun _ z => absurd z (by show ¬ (d.st = .word ∨ d.st = .swap ∨ d.st = .help); rw [hs]; decide)) (fun x hx _ => ?_) (sw_no (s := .last) hs (by decide))
    · rw [rem_last (d := { d with left := (d.lasts D.st).drop (2 + j + 1) }) hs, rem_last hs, left_len M hs K]
      show ((d.lasts D.st).drop (2 + j + 1)).length + 1 ≤ _
      rw [left_len' M hs]; omega
    · by_cases c : w = e.1
      · rw [c, give_last] at hmk; cases hmk
      · refine ⟨give_last_ne c, fun _ hw => ?_⟩
        rw [will_k hs K, any_drop_succ (lasts_sw (d := d) (v := D.st) (by rw [q2]; exact he))] at hw
        rw [will_k' hs]
        rw [show isSw w (.swap e.1 (d.mk1 e) (.int (DS.shown D.st e))) = false from decide_eq_false (Ne.symm c), Bool.false_or] at hw
        exact hw
    · obtain ⟨jj, _, hj, _⟩ := rest_s L I x hx
      rw [hj, give_last_ne (sc_w h10').1]
  | clN j e hs K he hm =>
    obtain ⟨q1, q2⟩ := M.se (by rw [hs]; decide)
    have lt := (List.getElem?_eq_some_iff.mp he).1
    have hem := List.mem_of_getElem? he
    refine top_rep X S hh rfl ?_ (fun w g7 g10 hmk => .inl ⟨rfl, fun ha hw => ?_⟩) (fun _ z => absurd z (by show ¬ (d.st = .word ∨ d.st = .swap ∨ d.st = .help); rw [hs]; decide)) (fun x hx _ => rfl) (sw_no (s := .last) hs (by decide))
    · rw [rem_last (d := { d with left := (d.lasts D.st).drop (2 + j + 1) }) hs, rem_last hs, left_len M hs K]
      show ((d.lasts D.st).drop (2 + j + 1)).length + 1 ≤ _
      rw [left_len' M hs]; omega
    · obtain ⟨f, hf, hfw, hfm⟩ := mark_own I hD g7 g10 hmk (by rw [← M.a]; exact ha)
      have c : e.1 ≠ w := fun z => by
        have := (I.es i D hD).cell hf hem (by rw [hfw, z])
        subst this
        rw [z] at hm
        exact hm hfm
      rw [will_k hs K, any_drop_succ (lasts_sw (d := d) (v := D.st) (by rw [q2]; exact he))] at hw
      rw [will_k' hs]
      rw [show isSw w (.swap e.1 (d.mk1 e) (.int (DS.shown D.st e))) = false from decide_eq_false c, Bool.false_or] at hw
      exact hw
  | flW j e hs K he =>
    obtain ⟨q1, q2⟩ := M.se (by rw [hs]; decide)
    have lt := (List.getElem?_eq_some_iff.mp he).1
    refine top_rep X S hh rfl ?_ (fun w _ _ _ => .inl ⟨rfl, fun _ hw => ?_⟩) (fun _ z => absurd z (by show ¬ (d.st = .word ∨ d.st = .swap ∨ d.st = .help); rw [hs]; decide)) (fun x _ _ => rfl) (sw_no (s := .last) hs (by decide))
    · rw [rem_last (d := { d with left := (d.lasts D.st).drop (2 + D.es.length + j + 1) }) hs, rem_last hs, left_len M hs K]
      show ((d.lasts D.st).drop (2 + D.es.length + j + 1)).length + 1 ≤ _
      rw [left_len' M hs]; omega
    · have g := lasts_fl (d := d) (v := D.st) (j := j) (e := e) (by rw [q2]; exact he)
      rw [q2] at g
      rw [will_k hs K, any_drop_succ g] at hw
      rw [will_k' hs]; exact hw
  | fin hs K =>
    have dr := drop_fence I t
    obtain ⟨q1, q2⟩ := M.se (by rw [hs]; decide)
    have rd : rem m d = 1 := by rw [rem_last hs, left_len M hs K]; omega
    have wd : ∀ w, will d w = false := fun w => by
      have g := lasts_end d D.st
      rw [q2] at g
      rw [will_k hs K, any_drop_succ g]
      have nil : (d.lasts D.st).drop (2 * D.es.length + 2 + 1) = [] := by
        apply List.drop_eq_nil_of_le
        rw [lasts_len, q2]; omega
      rw [nil]; rfl
    have lw : ∀ w : Int, 7 ≤ w → w ≤ 10 → (m.tick.fence t).last w = m.last w := fun w g7 g10 => dr.last (by omega) (by omega)
    have ls : ∀ x ∈ rest, (m.tick.fence t).last x.s = m.last x.s := fun x hx => by
      obtain ⟨j, hj24, hj, _⟩ := rest_s L I x hx
      obtain ⟨r1, r2, _⟩ := sc_rng hj24
      rw [hj, dr.last r1 r2]
    -- the machine below takes its word again
    have cov : ∀ (l : DS) (A : List DS) (w : Int), 7 ≤ w → w ≤ 10 → isMark ((m.tick.fence t).last w) = true → l.st = .help → covers ({ l with st := .word } :: A) ((m.tick.fence t).last w) w = false → isMark (m.last w) = true ∧ covers (d :: l :: A) (m.last w) w = false := fun l A w g7 g10 z1 hl z2 => by
      rw [lw w g7 g10] at z1 z2
      rw [covers_false] at z2
      refine ⟨z1, covers_false.mpr fun x hx hxa => ?_⟩
      rcases List.mem_cons.mp hx with rfl | hx
      · exact wd w
      · rcases List.mem_cons.mp hx with rfl | hx
        · have := z2 { x with st := .word } List.mem_cons_self hxa
          rw [will_of (by show St.word ≠ .last; decide)] at this; cases this
        · exact z2 x (List.mem_cons_of_mem _ hx) hxa
    have rw1 : ∀ l : DS, l.st = .help → rem (m.tick.fence t) { l with st := .word } = rem m l := fun l hl => by
      rw [rem_word (d := { l with st := .word }) (.inl rfl), rem_word (.inr hl)]
    cases X with
    | old =>
      cases rest with
      | nil =>
        left
        refine ⟨rfl, ?_⟩
        unfold psi
        show 1 ≤ (rem m d + 0) + _ + _
        omega
      | cons l r =>
        right
        have hl := hh l List.mem_cons_self
        refine ⟨{ l with st := .word }, r, [], { l with st := .word }, r, rfl, .old, trivial, sw_no (s := .word) rfl (by decide), ?_⟩
        have f : FF (m.tick.fence t) [{ l with st := .word }] ≤ FF m [d] := FF_mono fun w g7 g10 z1 z2 => by
          obtain ⟨y1, y2⟩ := cov l [] w g7 g10 z1 hl z2
          rw [covers_false] at y2
          refine ⟨y1, covers_false.mpr fun x hx hxa => ?_⟩
          have hxd : x = d := by simpa using hx
          exact y2 x (by rw [hxd]; exact List.mem_cons_self) hxa
        have r3 : remL (m.tick.fence t) r = remL m r := remL_help fun x hx => hh x (List.mem_cons_of_mem _ hx)
        unfold psi
        rw [BB_nil, BB_nil]
        show (rem (m.tick.fence t) { l with st := .word } + remL (m.tick.fence t) r) + 38 * FF (m.tick.fence t) [{ l with st := .word }] + 14 * 0 + 1 ≤ (rem m d + (rem m l + remL m r)) + 38 * FF m [d] + 14 * 0
        rw [rw1 l hl, r3, rd]; omega
    | new r o os er =>
      obtain ⟨s1, s2, s3, s4⟩ := S
      right
      cases r with
      | nil =>
        have er : rest = o :: os := er
        subst er
        have hl := hh o List.mem_cons_self
        refine ⟨{ o with st := .word }, os, [], { o with st := .word }, os, rfl, .old, trivial, sw_no (s := .word) rfl (by decide), ?_⟩
        have f : FF (m.tick.fence t) [{ o with st := .word }] ≤ FF m [d, o] := FF_mono fun w g7 g10 z1 z2 => cov o [] w g7 g10 z1 hl z2
        have r3 : remL (m.tick.fence t) os = remL m os := remL_help fun x hx => hh x (List.mem_cons_of_mem _ hx)
        unfold psi
        rw [BB_nil]
        show (rem (m.tick.fence t) { o with st := .word } + remL (m.tick.fence t) os) + 38 * FF (m.tick.fence t) [{ o with st := .word }] + 14 * 0 + 1 ≤ (rem m d + (rem m o + remL m os)) + 38 * FF m [d, o] + 14 * _
        rw [rw1 o hl, r3, rd]; omega
      | cons l r =>
        have er : rest = l :: (r ++ o :: os) := er
        subst er
        have hl := hh l List.mem_cons_self
        obtain ⟨p1, p2, p3, p4⟩ := s4
        refine ⟨{ l with st := .word }, r ++ o :: os, { l with st := .word } :: r, o, os, rfl, .new _ _ _ rfl, ⟨fun _ => ?_, p2, p3, p4.mono fun x hx => ls x (List.mem_cons_of_mem _ (List.mem_append_left _ hx))⟩, sw_no (s := .word) rfl (by decide), ?_⟩
        · show (m.tick.fence t).last l.s = _
          rw [ls l List.mem_cons_self]
          exact p1 (.inr (.inr hl))
        · have f : FF (m.tick.fence t) ({ l with st := .word } :: (r ++ [o])) ≤ FF m (d :: l :: (r ++ [o])) := FF_mono fun w g7 g10 z1 z2 => cov l (r ++ [o]) w g7 g10 z1 hl z2
          have b : BB (m.tick.fence t) ({ l with st := .word } :: r) o ≤ BB m (d :: l :: r) o := BB_mono (fun z => by cases z) fun w g7 g10 ⟨z1, z2, z3⟩ => by
            obtain ⟨y1, y2⟩ := cov l r w g7 g10 z1 hl z3
            exact ⟨y1, by rw [← lw w g7 g10]; exact z2, y2⟩
          have r3 : remL (m.tick.fence t) (r ++ o :: os) = remL m (r ++ o :: os) := remL_help fun x hx => hh x (List.mem_cons_of_mem _ hx)
          unfold psi
          show (rem (m.tick.fence t) { l with st := .word } + remL (m.tick.fence t) (r ++ o :: os)) + 38 * FF (m.tick.fence t) ({ l with st := .word } :: (r ++ [o])) + 14 * BB (m.tick.fence t) ({ l with st := .word } :: r) o + 1 ≤ (rem m d + (rem m l + remL m (r ++ o :: os))) + 38 * FF m (d :: l :: (r ++ [o])) + 14 * BB m (d :: l :: r) o
          rw [rw1 l hl, r3, rd]; omega
end
end DkM

set_option linter.all false
set_option maxHeartbeats 4000000
namespace DkM
section
variable {m m' : Mem} {ds ds' : List Deed} {sh : Int → Int} {dn : Int → List Nat} {stk : Int → List DS} {doing : Int → Int} {t : Int} {i : Nat} {D : Deed} {d : DS} {rest l' : List DS}
theorem SoloS.mono {N K : Nat} (h : SoloS m' l' N) (hk : N ≤ K) : SoloS m' l' K := by
  rcases h with ⟨a, b⟩ | ⟨d', r', nw, o, os, h1, h2, h3, h4, h5⟩
  · exact .inl ⟨a, by omega⟩
  · exact .inr ⟨d', r', nw, o, os, h1, h2, h3, h4, by omega⟩
theorem remL_le (I : Inv m ds sh dn) : ∀ {l : List DS} {i : Nat} {D : Deed}, Low m ds t i D l → remL m l ≤ 21 * l.length
  | [], _, _, _ => Nat.zero_le _
  | x :: r, i, D, L => by
    obtain ⟨hs, j, E, hE, M, _, L2⟩ := L
    have := (rem_le I hE M).2.1 hs
    have ih := remL_le I L2
    show rem m x + remL m r ≤ 21 * (r.length + 1)
    omega
theorem first_step (I : Inv m ds sh dn) (hD : ds[i]? = some D) (M : MOk m t i D d) (L : Low m ds t i D rest) (O : Out m ds sh t d rest i D m' l') (hl : rest.length ≤ 34) : SoloS m' l' 890 := by
  have r1 := remL_le I L
  have r2 := (rem_le I hD M).1
  have f := FF_le m [d]
  by_cases h : SwOk m (d :: rest)
  · refine (solo_step I hD M L O .old trivial h).mono ?_
    unfold psi
    rw [BB_nil]
    show (rem m d + remL m rest) + 38 * FF m [d] + 14 * 0 ≤ 890
    omega
  · have hs : d.st = .swap := Classical.byContradiction fun q => h fun z => absurd z q
    have hn : m.last d.ent.1 ≠ .int d.ent.2.1 := fun q => h fun _ => q
    have q2 := (M.se (by rw [hs]; decide)).2
    have r3 := (rem_le I hD M).2.2 hs
    cases O with
    | swapN e hs' he hm =>
      right
      refine ⟨{ d with st := .word }, rest, [], { d with st := .word }, rest, rfl, .old, trivial, sw_no (s := .word) rfl (by decide), ?_⟩
      have r4 : rem m.tick { d with st := .word } = rem m d + 1 := by
        rw [rem_word (d := { d with st := .word }) (.inl rfl), rem_swap hs]
      have r5 : remL m.tick rest = remL m rest := remL_help fun x hx => (low_help L x hx).1
      have f2 := FF_le m.tick [{ d with st := .word }]
      unfold psi
      rw [BB_nil]
      show (rem m.tick { d with st := .word } + remL m.tick rest) + 38 * FF m.tick [{ d with st := .word }] + 14 * 0 + 1 ≤ 890
      rw [r4, r5]; omega
    | swapY e hs' he hm =>
      rw [ent_of q2 he] at hn
      exact absurd hm hn
    | record q => rw [hs] at q; cases q
    | statusW q => rw [hs] at q; cases q
    | statusL q => rw [hs] at q; rcases q with q | q <;> cases q
    | wordP e q => rw [hs] at q; cases q
    | wordS e q => rw [hs] at q; cases q
    | wordH e j E f q => rw [hs] at q; cases q
    | wordF e q => rw [hs] at q; cases q
    | decF q => rw [hs] at q; cases q
    | decD q => rw [hs] at q; cases q
    | decN q => rw [hs] at q; rcases q with q | q <;> cases q
    | flush0 q => rw [hs] at q; cases q
    | fence1 q => rw [hs] at q; cases q
    | clY j e q => rw [hs] at q; cases q
    | clN j e q => rw [hs] at q; cases q
    | flW j e q => rw [hs] at q; cases q
    | fin q => rw [hs] at q; cases q
/-! ### sizes -/
structure Sz (m : Mem) : Prop where
  c0 : 0 ≤ m.cnt
  tl : ∀ c, ((m.tr c).length : Int) ≤ m.cnt + 1
  nk : ∀ u c, m.nt u c ≠ none → (7 ≤ c ∧ c ≤ 10) ∨ (16 ≤ c ∧ c ≤ 63)
  np : ∀ u c p, m.nt u c = some p → 0 ≤ p
theorem Sz.tick (S : Sz m) : Sz m.tick := ⟨by have := S.c0; show 0 ≤ m.cnt + 1; omega, fun c => by have := S.tl c; show _ ≤ m.cnt + 1 + 1; exact Int.le_trans this (by omega), S.nk, S.np⟩
theorem Sz.give (S : Sz m) (c : Int) (v : TV) : Sz (m.tick.give c v) := by
  refine ⟨S.tick.c0, fun x => ?_, S.nk, S.np⟩
  show _ ≤ m.cnt + 1 + 1
  by_cases h : x = c
  · rw [h, give_tr_same, List.length_append]
    have := S.tl c
    simp
    omega
  · rw [give_tr_ne h]
    have := S.tl x
    omega
theorem Sz.note (S : Sz m) (u c : Int) (h : (7 ≤ c ∧ c ≤ 10) ∨ (16 ≤ c ∧ c ≤ 63)) (hp : 0 < (m.tr c).length) : Sz (m.tick.note u c) := by
  refine ⟨S.tick.c0, S.tick.tl, fun v x hx => ?_, fun v x p hx => ?_⟩
  · have hx : (upC m.nt u (upC (m.nt u) c (some (((m.tr c).length : Int) - 1)))) v x ≠ none := hx
    by_cases hv : v = u
    · subst hv
      rw [upC_same] at hx
      by_cases hc : x = c
      · rw [hc]; exact h
      · rw [upC_ne hc] at hx; exact S.nk v x hx
    · rw [upC_ne hv] at hx; exact S.nk v x hx
  · have hx : (upC m.nt u (upC (m.nt u) c (some (((m.tr c).length : Int) - 1)))) v x = some p := hx
    by_cases hv : v = u
    · subst hv
      rw [upC_same] at hx
      by_cases hc : x = c
      · rw [hc, upC_same] at hx
        have := Option.some.inj hx
        omega
      · rw [upC_ne hc] at hx; exact S.np v x p hx
    · rw [upC_ne hv] at hx; exact S.np v x p hx
theorem map_max {o : Option Int} {s p : Int} (h : o.map (fun p => max 0 (p - s)) = some p) : 0 ≤ p := by
  cases o with
  | none => cases h
  | some q =>
    have : max 0 (q - s) = p := Option.some.inj h
    omega
theorem Sz.fence (S : Sz m) (u : Int) : Sz (m.tick.fence u) := by
  refine ⟨S.tick.c0, fun c => ?_, fun v x hx => ?_, fun v x p hx => map_max hx⟩
  · show (((m.tr c).drop (m.fenceS u c)).length : Int) ≤ m.cnt + 1 + 1
    rw [List.length_drop]
    have := S.tl c
    omega
  · have hx : ((upC m.nt u (fun _ => none)) v x).map (fun p => max 0 (p - ((m.tick.fenceS u x : Nat) : Int))) ≠ none := hx
    by_cases hv : v = u
    · subst hv; rw [upC_same] at hx; exact absurd rfl hx
    · rw [upC_ne hv] at hx
      refine S.nk v x fun z => ?_
      rw [z] at hx; exact hx rfl
theorem Sz.shorten (S : Sz m) (c k : Int) : Sz (m.shorten c k) := by
  refine ⟨S.c0, fun x => ?_, fun v x hx => ?_, fun v x p hx => ?_⟩
  · show (((upC m.tr c ((m.tr c).drop (clip k (m.tr c).length))) x).length : Int) ≤ m.cnt + 1
    have := S.tl x
    by_cases h : x = c
    · rw [h, upC_same, List.length_drop]
      rw [h] at this; omega
    · rw [upC_ne h]; exact this
  · refine S.nk v x fun z => hx ?_
    show (if x = c then _ else m.nt v x) = none
    split
    · rw [z]; rfl
    · exact z
  · have hx : (if x = c then (m.nt v x).map (fun p => max 0 (p - (clip k (m.tr c).length : Int))) else m.nt v x) = some p := hx
    split at hx
    · exact map_max hx
    · exact S.np v x p hx
theorem sc_rng2 {i : Nat} (h : i < 24) : 16 ≤ Sc i ∧ Sc i ≤ 63 ∧ 16 ≤ Ad i ∧ Ad i ≤ 63 := by unfold Sc Ad; omega
theorem Sz.step (S : Sz m) (I : Inv m ds sh dn) (hD : ds[i]? = some D) (O : Out m ds sh t d rest i D m' l') : Sz m' ∧ m'.cnt = m.cnt + 1 := by
  have r := sc_rng2 (I.ilt hD)
  have r4 := sc_rng (I.ilt hD)
  cases O with
  | swapY e => exact ⟨S.give _ _, rfl⟩
  | decF => exact ⟨S.give _ _, rfl⟩
  | decD => exact ⟨S.give _ _, rfl⟩
  | flush0 => exact ⟨S.note _ _ (.inr ⟨r.1, r.2.1⟩) (I.tr_pos r4.1 r4.2.1), rfl⟩
  | fence1 => exact ⟨S.fence _, rfl⟩
  | clY j e => exact ⟨S.give _ _, rfl⟩
  | flW j e _ _ he =>
    have w := I.w7 hD (List.mem_of_getElem? he)
    exact ⟨S.note _ _ (.inl w) (I.tr_pos (by omega) (by omega)), rfl⟩
  | fin => exact ⟨S.fence _, rfl⟩
  | _ => exact ⟨S.tick, rfl⟩
/-! ### the phases -/
def dep (l : List DS) : Nat := match l with
  | [] => 0
  | _ :: r => 3 * r.length + desc (cells r)
theorem dep_pot (m : Mem) (l : List DS) : dep l ≤ pot m l := by
  cases l with
  | nil => exact Nat.le_refl _
  | cons d r => show 3 * r.length + desc (cells r) ≤ 3 * r.length + desc (cells r) + cst d.st + stale m d; omega
theorem dep_len (I : Inv m ds sh dn) (S : StkOk m ds t (d :: rest)) (h : dep (d :: rest) ≤ 110) : rest.length ≤ 34 := by
  obtain ⟨_, _, i, D, hD, M, L⟩ := S
  have hp : 3 * rest.length + desc (cells rest) ≤ 110 := h
  cases rest with
  | nil => exact Nat.zero_le _
  | cons l r =>
    have hc := low_cells I L
    have hl := desc_len (cells (l :: r)) hc l.ent.1 (cells r) rfl
    have ha := hc l.ent.1 List.mem_cons_self
    have e : (cells (l :: r)).length = (l :: r).length := by unfold cells; rw [List.length_map]
    rw [e] at hl
    omega
/-- the state between two picks: n picks were made -/
structure Pk (m : Mem) (ds : List Deed) (sh : Int → Int) (stk : Int → List DS) (doing : Int → Int) (n : Nat) : Prop where
  good : ∃ dn, Good m ds sh dn stk doing
  sz : Sz m
  cnt : m.cnt ≤ 6 * (n : Int)
  pot : ∀ u : Int, 0 ≤ u → u < 3 → pot m (stk u) ≤ n
theorem Pk.drift {n : Nat} (P : Pk m ds sh stk doing n) (c k : Int) : Pk (m.shorten c k) ds sh stk doing n := by
  obtain ⟨dn, G⟩ := P.good
  refine ⟨⟨dn, drift_good G c k⟩, P.sz.shorten c k, P.cnt, fun u h0 h3 => ?_⟩
  rw [pot_same (G.so u h0 h3) fun i D hD => ?_]
  · exact P.pot u h0 h3
  · obtain ⟨r1, r2, _⟩ := sc_rng (G.inv.ilt hD)
    exact (drop_shorten G.inv c k).last r1 r2
/-- ready for the step of a pick: the thread has a machine; up to five accesses more than at the pick's begin -/
structure Rd (m : Mem) (ds : List Deed) (sh : Int → Int) (stk : Int → List DS) (doing : Int → Int) (n : Nat) : Prop where
  good : ∃ dn, Good m ds sh dn stk doing
  sz : Sz m
  cnt : m.cnt ≤ 6 * (n : Int) + 5
  pot : ∀ u : Int, 0 ≤ u → u < 3 → pot m (stk u) ≤ n
theorem Pk.rd {n : Nat} (P : Pk m ds sh stk doing n) : Rd m ds sh stk doing n := ⟨P.good, P.sz, by have := P.cnt; omega, P.pot⟩
theorem pot_init (m : Mem) (i : Nat) : DkM.pot m [DS.init (Ad i)] = 0 := by
  show 3 * 0 + 0 + cst St.record + stale m (DS.init (Ad i)) = 0
  rw [stale_no (by show ¬ (St.record = .word ∨ St.record = .swap); decide)]; rfl
theorem Pk.start {n : Nat} (P : Pk m ds sh stk doing n) (hi : i < ds.length) (hs : stk t = []) : Rd m ds sh (upC stk t [DS.init (Ad i)]) (upC doing t (Ad i)) n := by
  obtain ⟨dn, G⟩ := P.good
  refine ⟨⟨dn, start_good G hi hs⟩, P.sz, by have := P.cnt; omega, fun u h0 h3 => ?_⟩
  by_cases c : u = t
  · rw [c, upC_same, pot_init]; exact Nat.zero_le _
  · rw [upC_ne c]; exact P.pot u h0 h3
theorem Pk.begin {n : Nat} (P : Pk m ds sh stk doing n) (hn : ds.length < 24) (h0 : 0 ≤ t) (h3 : t < 3) (hs : stk t = []) {es : List Ent} {fits : Bool} {th nu : Int} (ho : EsOk ds.length es) (hf : fits = true → ∀ e ∈ es, sh e.1 = e.2.1) :
    Rd (beginM m t ds.length es th nu) (ds ++ [⟨es, .int 0, fits⟩]) sh (upC stk t [DS.init (Ad ds.length)]) (upC doing t (Ad ds.length)) n := by
  obtain ⟨dn, G⟩ := P.good
  have G' := begin_good (th := th) (nu := nu) G hn h0 h3 hs ho hf
  have r := sc_rng2 hn
  have S : Sz (beginM m t ds.length es th nu) := ((((P.sz.give _ _).give _ _).note _ _ (.inr ⟨r.2.2.1, r.2.2.2⟩) (by rw [give_tr_same]; simp)).note _ _ (.inr ⟨r.1, r.2.1⟩) (by
    show 0 < (((m.tick.give (Sc ds.length) (.int 0)).tick.give (Ad ds.length) (.deed (Sc ds.length) es th nu)).tr (Sc ds.length)).length
    rw [give_tr_ne (by unfold Sc Ad; omega), give_tr_same]; simp)).fence _
  refine ⟨⟨dn, G'⟩, S, ?_, fun u hu0 hu3 => ?_⟩
  · have := P.cnt
    show m.cnt + 1 + 1 + 1 + 1 + 1 ≤ _
    omega
  · by_cases c : u = t
    · rw [c, upC_same, pot_init]; exact Nat.zero_le _
    · rw [upC_ne c]
      rw [pot_same (G.so u hu0 hu3) fun i D hD => ?_]
      · exact P.pot u hu0 hu3
      · rw [G.inv.sl i D hD]
        exact G'.inv.sl i D (by rw [List.getElem?_append_left (List.getElem?_eq_some_iff.mp hD).1]; exact hD)
/-- the step of a pick -/
theorem Rd.step {n : Nat} (R : Rd m ds sh stk doing n) (h0 : 0 ≤ t) (h3 : t < 3) (hs : stk t = d :: rest) : ∃ (ds1 : List Deed) (sh' : Int → Int), (∃ dn', StepW m ds sh stk doing t (step1 m t d rest) ds1 sh' dn') ∧ Pk (step1 m t d rest).1 (fitUp sh' ds1) sh' (upC stk t (step1 m t d rest).2.1) doing (n + 1) := by
  obtain ⟨dn, G⟩ := R.good
  have Sk := G.so t h0 h3
  rw [hs] at Sk
  obtain ⟨n1, n2, i, D, hD, M, L⟩ := Sk
  obtain ⟨O, _⟩ := out_of (rest := rest) G.inv hD M n1 n2
  obtain ⟨ds1, sh', dn', W⟩ := step_good G h0 h3 hs
  obtain ⟨S', c'⟩ := R.sz.step G.inv hD O
  refine ⟨ds1, sh', ⟨dn', W⟩, ⟨dn', W.good⟩, S', ?_, fun u hu0 hu3 => ?_⟩
  · have := R.cnt
    rw [c']
    omega
  · by_cases c : u = t
    · subst c
      rw [upC_same]
      have := pot_step G.inv hD M L O
      have := R.pot u hu0 hu3
      rw [hs] at this
      omega
    · rw [upC_ne c]
      have := pot_any m (step1 m t d rest).1 (stk u)
      have := R.pot u hu0 hu3
      omega
/-- the end phase: all that is kept -/
structure En (m : Mem) (ds : List Deed) (sh : Int → Int) (stk : Int → List DS) (doing : Int → Int) (N : Int) : Prop where
  good : ∃ dn, Good m ds sh dn stk doing
  sz : Sz m
  cnt : m.cnt ≤ N
  dep : ∀ u : Int, 0 ≤ u → u < 3 → dep (stk u) ≤ 110
theorem Pk.en {n : Nat} (P : Pk m ds sh stk doing n) (h : n ≤ 110) : En m ds sh stk doing 660 := by
  refine ⟨P.good, P.sz, by have := P.cnt; omega, fun u h0 h3 => ?_⟩
  have := dep_pot m (stk u)
  have := P.pot u h0 h3
  omega
/-- at the turn k of the thread's own loop -/
def Turn (m : Mem) (l : List DS) (k : Nat) : Prop := k = 0 ∨ (l = [] ∧ k ≤ 896) ∨ ∃ (d : DS) (rest nw : List DS) (o : DS) (os : List DS), l = d :: rest ∧ Split d rest nw o os ∧ Solo m nw o ∧ SwOk m l ∧ psi m nw o os + k ≤ 895
theorem Turn.end_ {l : List DS} (h : Turn m l 900) : False := by
  rcases h with h | ⟨_, h⟩ | ⟨d, rest, nw, o, os, _, _, _, _, h⟩ <;> omega
/-- a thread alone, at its turn k -/
structure Al (m : Mem) (ds : List Deed) (sh : Int → Int) (stk : Int → List DS) (doing : Int → Int) (t : Int) (k : Nat) (N : Int) : Prop where
  good : ∃ dn, Good m ds sh dn stk doing
  sz : Sz m
  cnt : m.cnt ≤ N + k
  dep : ∀ u : Int, 0 ≤ u → u < 3 → u ≠ t → dep (stk u) ≤ 110
  dep0 : k = 0 → DkM.dep (stk t) ≤ 110
  turn : Turn m (stk t) k
theorem En.al {N : Int} (E : En m ds sh stk doing N) (h0 : 0 ≤ t) (h3 : t < 3) : Al m ds sh stk doing t 0 N :=
  ⟨E.good, E.sz, by have := E.cnt; omega, fun u a b _ => E.dep u a b, fun _ => E.dep t h0 h3, .inl rfl⟩
theorem Al.en {N : Int} {k : Nat} (A : Al m ds sh stk doing t k N) (hk : k ≤ 900) (hs : stk t = []) : En m ds sh stk doing (N + 900) := by
  refine ⟨A.good, A.sz, by have := A.cnt; omega, fun u a b => ?_⟩
  by_cases c : u = t
  · rw [c, hs]; exact Nat.zero_le _
  · exact A.dep u a b c
theorem Al.step {N : Int} {k : Nat} (A : Al m ds sh stk doing t k N) (h0 : 0 ≤ t) (h3 : t < 3) (hs : stk t = d :: rest) :
    ∃ (ds1 : List Deed) (sh' : Int → Int), (∃ dn', StepW m ds sh stk doing t (step1 m t d rest) ds1 sh' dn') ∧ Al (step1 m t d rest).1 (fitUp sh' ds1) sh' (upC stk t (step1 m t d rest).2.1) doing t (k + 1) N := by
  obtain ⟨dn, G⟩ := A.good
  have Sk := G.so t h0 h3
  rw [hs] at Sk
  have hlen : k = 0 → rest.length ≤ 34 := fun z => dep_len G.inv Sk (by rw [← hs]; exact A.dep0 z)
  obtain ⟨n1, n2, i, D, hD, M, L⟩ := Sk
  obtain ⟨O, _⟩ := out_of (rest := rest) G.inv hD M n1 n2
  obtain ⟨ds1, sh', dn', W⟩ := step_good G h0 h3 hs
  obtain ⟨S', c'⟩ := A.sz.step G.inv hD O
  have fin : ∀ N : Nat, N + k ≤ 895 ∨ (k = 0 ∧ N ≤ 890) → SoloS (step1 m t d rest).1 (step1 m t d rest).2.1 N → Turn (step1 m t d rest).1 (step1 m t d rest).2.1 (k + 1) := fun N hN s => by
    rcases s with ⟨a, b⟩ | ⟨d', r', nw, o, os, z1, z2, z3, z4, z5⟩
    · exact .inr (.inl ⟨a, by omega⟩)
    · exact .inr (.inr ⟨d', r', nw, o, os, z1, z2, z3, z4, by omega⟩)
  refine ⟨ds1, sh', ⟨dn', W⟩, ⟨dn', W.good⟩, S', by have := A.cnt; rw [c']; omega, fun u a b c => by rw [upC_ne c]; exact A.dep u a b c, fun z => by omega, ?_⟩
  rw [upC_same]
  rcases A.turn with z | ⟨z, _⟩ | ⟨d', r', nw, o, os, z1, z2, z3, z4, z5⟩
  · exact fin 890 (.inr ⟨z, Nat.le_refl _⟩) (first_step G.inv hD M L O (hlen z))
  · rw [hs] at z; cases z
  · rw [hs] at z1 z4
    injection z1 with e1 e2
    subst e1 e2
    exact fin _ (.inl z5) (solo_step G.inv hD M L O z2 z3 z4)
/-! ### the beginning -/
def initM : Mem := ⟨0, fun c => if 7 ≤ c ∧ c ≤ 10 then [.int (c + 4)] else if 11 ≤ c ∧ c ≤ 14 then [.items] else if c = 0 then [.int 0] else [.non], fun _ _ => none⟩
theorem init_pk : Pk initM [] (fun w => w + 4) (fun _ => []) (fun _ => 0) 0 := by
  have ln : ∀ c, (initM.tr c).length = 1 := fun c => by
    show (if 7 ≤ c ∧ c ≤ 10 then [TV.int (c + 4)] else if 11 ≤ c ∧ c ≤ 14 then [TV.items] else if c = 0 then [TV.int 0] else [TV.non]).length = 1
    split
    · rfl
    · split
      · rfl
      · split <;> rfl
  have no : ∀ (i : Nat) (D : Deed), ([] : List Deed)[i]? = some D → False := fun i D h => by simp at h
  have wt : ∀ w : Int, 7 ≤ w → w ≤ 10 → initM.tr w = [.int (w + 4)] := fun w h7 h10 => by
    show (if 7 ≤ w ∧ w ≤ 10 then [TV.int (w + 4)] else _) = _
    rw [if_pos ⟨h7, h10⟩]
  refine ⟨⟨fun _ => [], ?_, fun t _ _ => trivial, fun i D e h => (no i D h).elim, fun t _ _ h => absurd rfl h⟩, ⟨Int.le_refl _, fun c => ?_, fun u c h => absurd rfl h, fun u c p h => (by cases h)⟩, by show (0 : Int) ≤ 6 * 0; omega, fun u _ _ => Nat.le_refl _⟩
  · exact {
      n24 := Nat.zero_le _
      ne := fun c _ _ e => by have := ln c; rw [e] at this; simp at this
      es := fun i D h => (no i D h).elim
      rc := fun i D h => (no i D h).elim
      sl := fun i D h => (no i D h).elim
      sv := fun i D h => (no i D h).elim
      st := fun i D h => (no i D h).elim
      dnd := fun w i h => by cases h
      dna := fun i D e h => (no i D h).elim
      dnn := fun w => List.nodup_nil
      dnt := fun w => List.Pairwise.nil
      dti := fun i j D E h => (no i D h).elim
      chain := fun w k i D e hk => by simp at hk
      shn := fun w h7 h10 => rfl
      wd := fun w h7 h10 => .inl (by unfold Mem.last; rw [wt w h7 h10]; rfl)
      tr := fun w v h7 h10 hv => .inl ⟨w + 4, List.mem_cons_self, by rw [wt w h7 h10] at hv; simpa using hv⟩
      kept := fun i D e h => (no i D h).elim
      ord := fun i D e e' h => (no i D h).elim
      fit := fun i D e h => (no i D h).elim }
  · rw [ln c]
    show (1 : Int) ≤ 0 + 1
    omega
end
end DkM

set_option Elab.async false
set_option linter.all false
set_option maxRecDepth 100000
set_option maxHeartbeats 4000000
namespace Dk
open PySem PySem.Spec PyProof.Rows L2
theorem sc_Stack___init__ : FnScope ["self", "machine"] ["self", "machine"] (defScope s_Stack___init__) := ⟨rfl, rfl, rfl, by decide +kernel, rfl, by decide +kernel, by decide +kernel⟩
-- Stack___init__: 0=self 1=machine
theorem sc_Stack_settle : FnScope ["self", "request"] ["self"] (defScope s_Stack_settle) := ⟨rfl, rfl, rfl, by decide +kernel, rfl, by decide +kernel, by decide +kernel⟩
-- Stack_settle: 0=self 1=request
theorem sc_Stack_pass_on : FnScope ["self", "value"] ["self", "value"] (defScope s_Stack_pass_on) := ⟨rfl, rfl, rfl, by decide +kernel, rfl, by decide +kernel, by decide +kernel⟩
-- Stack_pass_on: 0=self 1=value
theorem sc_Stack_step : FnScope ["self", "memory", "thread", "top"] ["self", "memory", "thread"] (defScope s_Stack_step) := ⟨rfl, rfl, rfl, by decide +kernel, rfl, by decide +kernel, by decide +kernel⟩
-- Stack_step: 0=self 1=memory 2=thread 3=top
theorem sc_Stack_ended : FnScope ["self"] ["self"] (defScope s_Stack_ended) := ⟨rfl, rfl, rfl, by decide +kernel, rfl, by decide +kernel, by decide +kernel⟩
-- Stack_ended: 0=self
theorem sc_Stack_value : FnScope ["self"] ["self"] (defScope s_Stack_value) := ⟨rfl, rfl, rfl, by decide +kernel, rfl, by decide +kernel, by decide +kernel⟩
-- Stack_value: 0=self
theorem sc_is_within : FnScope ["value", "low", "high"] ["value", "low", "high"] (defScope s_is_within) := ⟨rfl, rfl, rfl, by decide +kernel, rfl, by decide +kernel, by decide +kernel⟩
-- is_within: 0=value 1=low 2=high
theorem sc_is_mark : FnScope ["value"] ["value"] (defScope s_is_mark) := ⟨rfl, rfl, rfl, by decide +kernel, rfl, by decide +kernel, by decide +kernel⟩
-- is_mark: 0=value
theorem sc_Layout___init__ : FnScope ["self", "threads", "words", "records"] ["self", "threads", "words", "records"] (defScope s_Layout___init__) := ⟨rfl, rfl, rfl, by decide +kernel, rfl, by decide +kernel, by decide +kernel⟩
-- Layout___init__: 0=self 1=threads 2=words 3=records
theorem sc_Layout_epoch : FnScope ["self"] ["self"] (defScope s_Layout_epoch) := ⟨rfl, rfl, rfl, by decide +kernel, rfl, by decide +kernel, by decide +kernel⟩
-- Layout_epoch: 0=self
theorem sc_Layout_call_slot : FnScope ["self", "thread"] ["self", "thread"] (defScope s_Layout_call_slot) := ⟨rfl, rfl, rfl, by decide +kernel, rfl, by decide +kernel, by decide +kernel⟩
-- Layout_call_slot: 0=self 1=thread
theorem sc_Layout_word : FnScope ["self", "index"] ["self", "index"] (defScope s_Layout_word) := ⟨rfl, rfl, rfl, by decide +kernel, rfl, by decide +kernel, by decide +kernel⟩
-- Layout_word: 0=self 1=index
theorem sc_Layout_record : FnScope ["self", "index"] ["self", "index"] (defScope s_Layout_record) := ⟨rfl, rfl, rfl, by decide +kernel, rfl, by decide +kernel, by decide +kernel⟩
-- Layout_record: 0=self 1=index
theorem sc_Layout_cells : FnScope ["self"] ["self"] (defScope s_Layout_cells) := ⟨rfl, rfl, rfl, by decide +kernel, rfl, by decide +kernel, by decide +kernel⟩
-- Layout_cells: 0=self
theorem sc_Layout_is_lasting : FnScope ["self", "cell"] ["self", "cell"] (defScope s_Layout_is_lasting) := ⟨rfl, rfl, rfl, by decide +kernel, rfl, by decide +kernel, by decide +kernel⟩
-- Layout_is_lasting: 0=self 1=cell
theorem sc_Memory___init__ : FnScope ["self", "layout", "index", "_"] ["self", "layout"] (defScope s_Memory___init__) := ⟨rfl, rfl, rfl, by decide +kernel, rfl, by decide +kernel, by decide +kernel⟩
-- Memory___init__: 0=self 1=layout 2=index 3=_
theorem sc_Memory_no_notes : FnScope ["self", "_"] ["self"] (defScope s_Memory_no_notes) := ⟨rfl, rfl, rfl, by decide +kernel, rfl, by decide +kernel, by decide +kernel⟩
-- Memory_no_notes: 0=self 1=_
theorem sc_Memory_check_cell : FnScope ["self", "cell"] ["self", "cell"] (defScope s_Memory_check_cell) := ⟨rfl, rfl, rfl, by decide +kernel, rfl, by decide +kernel, by decide +kernel⟩
-- Memory_check_cell: 0=self 1=cell
theorem sc_Memory_check_lasting : FnScope ["self", "cell"] ["self", "cell"] (defScope s_Memory_check_lasting) := ⟨rfl, rfl, rfl, by decide +kernel, rfl, by decide +kernel, by decide +kernel⟩
-- Memory_check_lasting: 0=self 1=cell
theorem sc_Memory_check_request : FnScope ["self", "thread", "request"] ["self", "thread", "request"] (defScope s_Memory_check_request) := ⟨rfl, rfl, rfl, by decide +kernel, rfl, by decide +kernel, by decide +kernel⟩
-- Memory_check_request: 0=self 1=thread 2=request
theorem sc_Memory_access : FnScope ["self", "thread", "request"] ["self", "thread", "request"] (defScope s_Memory_access) := ⟨rfl, rfl, rfl, by decide +kernel, rfl, by decide +kernel, by decide +kernel⟩
-- Memory_access: 0=self 1=thread 2=request
theorem sc_Memory_result : FnScope ["self", "thread", "request", "kind", "cell", "value"] ["self", "thread", "request"] (defScope s_Memory_result) := ⟨rfl, rfl, rfl, by decide +kernel, rfl, by decide +kernel, by decide +kernel⟩
-- Memory_result: 0=self 1=thread 2=request 3=kind 4=cell 5=value
theorem sc_Memory_give : FnScope ["self", "cell", "value"] ["self", "cell", "value"] (defScope s_Memory_give) := ⟨rfl, rfl, rfl, by decide +kernel, rfl, by decide +kernel, by decide +kernel⟩
-- Memory_give: 0=self 1=cell 2=value
theorem sc_Memory_fence : FnScope ["self", "thread", "places", "cell"] ["self", "thread"] (defScope s_Memory_fence) := ⟨rfl, rfl, rfl, by decide +kernel, rfl, by decide +kernel, by decide +kernel⟩
-- Memory_fence: 0=self 1=thread 2=places 3=cell
theorem sc_Memory_shorten : FnScope ["self", "cell", "steps", "places"] ["self", "cell", "steps"] (defScope s_Memory_shorten) := ⟨rfl, rfl, rfl, by decide +kernel, rfl, by decide +kernel, by decide +kernel⟩
-- Memory_shorten: 0=self 1=cell 2=steps 3=places
theorem sc_Memory_peek : FnScope ["self", "cell"] ["self", "cell"] (defScope s_Memory_peek) := ⟨rfl, rfl, rfl, by decide +kernel, rfl, by decide +kernel, by decide +kernel⟩
-- Memory_peek: 0=self 1=cell
theorem sc_Memory_lasting : FnScope ["self", "cell"] ["self", "cell"] (defScope s_Memory_lasting) := ⟨rfl, rfl, rfl, by decide +kernel, rfl, by decide +kernel, by decide +kernel⟩
-- Memory_lasting: 0=self 1=cell
theorem sc_Memory_trail : FnScope ["self", "cell"] ["self", "cell"] (defScope s_Memory_trail) := ⟨rfl, rfl, rfl, by decide +kernel, rfl, by decide +kernel, by decide +kernel⟩
-- Memory_trail: 0=self 1=cell
theorem sc_Memory_drift : FnScope ["self", "cell", "steps"] ["self", "cell", "steps"] (defScope s_Memory_drift) := ⟨rfl, rfl, rfl, by decide +kernel, rfl, by decide +kernel, by decide +kernel⟩
-- Memory_drift: 0=self 1=cell 2=steps
theorem sc_Memory_cut : FnScope ["self", "choices", "choice", "first", "cell"] ["self", "choices"] (defScope s_Memory_cut) := ⟨rfl, rfl, rfl, by decide +kernel, rfl, by decide +kernel, by decide +kernel⟩
-- Memory_cut: 0=self 1=choices 2=choice 3=first 4=cell
theorem sc_deed_record : FnScope ["status", "entries", "thread", "number", "answer", "index", "entry"] ["status", "entries", "thread", "number", "answer"] (defScope s_deed_record) := ⟨rfl, rfl, rfl, by decide +kernel, rfl, by decide +kernel, by decide +kernel⟩
-- deed_record: 0=status 1=entries 2=thread 3=number 4=answer 5=index 6=entry
theorem sc_Doing___init__ : FnScope ["self", "address", "without"] ["self", "address", "without"] (defScope s_Doing___init__) := ⟨rfl, rfl, rfl, by decide +kernel, rfl, by decide +kernel, by decide +kernel⟩
-- Doing___init__: 0=self 1=address 2=without
theorem sc_Doing_mark_of : FnScope ["self", "entry"] ["self", "entry"] (defScope s_Doing_mark_of) := ⟨rfl, rfl, rfl, by decide +kernel, rfl, by decide +kernel, by decide +kernel⟩
-- Doing_mark_of: 0=self 1=entry
theorem sc_Doing_request : FnScope ["self", "state", "entry"] ["self"] (defScope s_Doing_request) := ⟨rfl, rfl, rfl, by decide +kernel, rfl, by decide +kernel, by decide +kernel⟩
-- Doing_request: 0=self 1=state 2=entry
theorem sc_Doing_accept : FnScope ["self", "result", "state"] ["self", "result"] (defScope s_Doing_accept) := ⟨rfl, rfl, rfl, by decide +kernel, rfl, by decide +kernel, by decide +kernel⟩
-- Doing_accept: 0=self 1=result 2=state
theorem sc_Doing_take_status : FnScope ["self", "value"] ["self", "value"] (defScope s_Doing_take_status) := ⟨rfl, rfl, rfl, by decide +kernel, rfl, by decide +kernel, by decide +kernel⟩
-- Doing_take_status: 0=self 1=value
theorem sc_Doing_last_requests : FnScope ["self", "requests", "entry", "shown"] ["self"] (defScope s_Doing_last_requests) := ⟨rfl, rfl, rfl, by decide +kernel, rfl, by decide +kernel, by decide +kernel⟩
-- Doing_last_requests: 0=self 1=requests 2=entry 3=shown
theorem sc_Doing_take_word : FnScope ["self", "value", "entry"] ["self", "value"] (defScope s_Doing_take_word) := ⟨rfl, rfl, rfl, by decide +kernel, rfl, by decide +kernel, by decide +kernel⟩
-- Doing_take_word: 0=self 1=value 2=entry
theorem sc_Doing_take_swap : FnScope ["self", "swapped"] ["self", "swapped"] (defScope s_Doing_take_swap) := ⟨rfl, rfl, rfl, by decide +kernel, rfl, by decide +kernel, by decide +kernel⟩
-- Doing_take_swap: 0=self 1=swapped
theorem sc_Doing_pass_entry : FnScope ["self"] ["self"] (defScope s_Doing_pass_entry) := ⟨rfl, rfl, rfl, by decide +kernel, rfl, by decide +kernel, by decide +kernel⟩
-- Doing_pass_entry: 0=self
theorem sc_shown_by : FnScope ["mark", "status", "first"] ["mark", "status", "first"] (defScope s_shown_by) := ⟨rfl, rfl, rfl, by decide +kernel, rfl, by decide +kernel, by decide +kernel⟩
-- shown_by: 0=mark 1=status 2=first
theorem sc_shown_now : FnScope ["memory", "index", "value"] ["memory", "index"] (defScope s_shown_now) := ⟨rfl, rfl, rfl, by decide +kernel, rfl, by decide +kernel, by decide +kernel⟩
-- shown_now: 0=memory 1=index 2=value
theorem sc_law_tape : FnScope ["_law_script", "_law_tape_here", "_law_k", "_law_value", "_law_step_here"] ["_law_script"] (defScope s_law_tape) := ⟨rfl, rfl, rfl, by decide +kernel, rfl, by decide +kernel, by decide +kernel⟩
-- law_tape: 0=_law_script 1=_law_tape_here 2=_law_k 3=_law_value 4=_law_step_here
theorem sc_law_at : FnScope ["_law_tape_here", "_law_k"] ["_law_tape_here", "_law_k"] (defScope s_law_at) := ⟨rfl, rfl, rfl, by decide +kernel, rfl, by decide +kernel, by decide +kernel⟩
-- law_at: 0=_law_tape_here 1=_law_k
theorem sc_law_shown : FnScope ["_law_memory", "_law_index", "_law_value", "_law_status"] ["_law_memory", "_law_index"] (defScope s_law_shown) := ⟨rfl, rfl, rfl, by decide +kernel, rfl, by decide +kernel, by decide +kernel⟩
-- law_shown: 0=_law_memory 1=_law_index 2=_law_value 3=_law_status
theorem sc_law_begin : FnScope ["_law_memory", "_law_thread", "_law_deeds", "_law_shown_here", "_law_number", "_law_pick", "_law_address", "_law_entries", "_law_fits", "_law_index", "_law_old", "_law_request"] ["_law_memory", "_law_thread", "_law_deeds", "_law_shown_here", "_law_number", "_law_pick"] (defScope s_law_begin) := ⟨rfl, rfl, rfl, by decide +kernel, rfl, by decide +kernel, by decide +kernel⟩
-- law_begin: 0=_law_memory 1=_law_thread 2=_law_deeds 3=_law_shown_here 4=_law_number 5=_law_pick 6=_law_address 7=_law_entries 8=_law_fits 9=_law_index 10=_law_old 11=_law_request
theorem sc_law_decided : FnScope ["_law_memory", "_law_deeds", "_law_shown_here", "_law_deed", "_law_status", "_law_entry", "_law_index"] ["_law_memory", "_law_deeds", "_law_shown_here"] (defScope s_law_decided) := ⟨rfl, rfl, rfl, by decide +kernel, rfl, by decide +kernel, by decide +kernel⟩
-- law_decided: 0=_law_memory 1=_law_deeds 2=_law_shown_here 3=_law_deed 4=_law_status 5=_law_entry 6=_law_index
theorem sc_law_kept : FnScope ["_law_memory", "_law_deed", "_law_entry"] ["_law_memory", "_law_deed", "_law_entry"] (defScope s_law_kept) := ⟨rfl, rfl, rfl, by decide +kernel, rfl, by decide +kernel, by decide +kernel⟩
-- law_kept: 0=_law_memory 1=_law_deed 2=_law_entry
theorem sc_law_past : FnScope ["_law_memory", "_law_deed", "_law_entry", "_law_trail"] ["_law_memory", "_law_deed"] (defScope s_law_past) := ⟨rfl, rfl, rfl, by decide +kernel, rfl, by decide +kernel, by decide +kernel⟩
-- law_past: 0=_law_memory 1=_law_deed 2=_law_entry 3=_law_trail
theorem sc_law_step : FnScope ["_law_memory", "_law_thread", "_law_stacks", "_law_doing", "_law_deeds", "_law_shown_here", "_law_stack", "_law_before", "_law_moved", "_law_deed"] ["_law_memory", "_law_thread", "_law_stacks", "_law_doing", "_law_deeds", "_law_shown_here"] (defScope s_law_step) := ⟨rfl, rfl, rfl, by decide +kernel, rfl, by decide +kernel, by decide +kernel⟩
-- law_step: 0=_law_memory 1=_law_thread 2=_law_stacks 3=_law_doing 4=_law_deeds 5=_law_shown_here 6=_law_stack 7=_law_before 8=_law_moved 9=_law_deed
theorem sc_law_end : FnScope ["_law_memory", "_law_thread", "_law_stacks", "_law_doing", "_law_deeds", "_law_shown_here", "_law_k"] ["_law_memory", "_law_thread", "_law_stacks", "_law_doing", "_law_deeds", "_law_shown_here"] (defScope s_law_end) := ⟨rfl, rfl, rfl, by decide +kernel, rfl, by decide +kernel, by decide +kernel⟩
-- law_end: 0=_law_memory 1=_law_thread 2=_law_stacks 3=_law_doing 4=_law_deeds 5=_law_shown_here 6=_law_k
theorem sc_law_recovered : FnScope ["_law_memory", "_law_deeds", "_law_words", "_law_done", "_law_deed", "_law_status", "_law_turn", "_law_number", "_law_entries", "_law_entry", "_law_index"] ["_law_memory", "_law_deeds"] (defScope s_law_recovered) := ⟨rfl, rfl, rfl, by decide +kernel, rfl, by decide +kernel, by decide +kernel⟩
-- law_recovered: 0=_law_memory 1=_law_deeds 2=_law_words 3=_law_done 4=_law_deed 5=_law_status 6=_law_turn 7=_law_number 8=_law_entries 9=_law_entry 10=_law_index
theorem sc_law_cut : FnScope ["_law_memory", "_law_tape_here", "_law_deeds", "_law_words", "_law_done", "_law_due", "_law_number", "_law_entries", "_law_entry", "_law_k"] ["_law_memory", "_law_tape_here", "_law_deeds"] (defScope s_law_cut) := ⟨rfl, rfl, rfl, by decide +kernel, rfl, by decide +kernel, by decide +kernel⟩
-- law_cut: 0=_law_memory 1=_law_tape_here 2=_law_deeds 3=_law_words 4=_law_done 5=_law_due 6=_law_number 7=_law_entries 8=_law_entry 9=_law_k
theorem sc_law : FnScope ["_law_script", "_law_tape_here", "_law_threads", "_law_memory", "_law_index", "_law_shown_here", "_law_deeds", "_law_stacks", "_law_doing", "_law_k", "_law_number", "_law_thread", "_law_cell", "_law_address", "_law_first", "_law_turn"] ["_law_script"] (defScope s_law) := ⟨rfl, rfl, rfl, by decide +kernel, rfl, by decide +kernel, by decide +kernel⟩
-- law: 0=_law_script 1=_law_tape_here 2=_law_threads 3=_law_memory 4=_law_index 5=_law_shown_here 6=_law_deeds 7=_law_stacks 8=_law_doing 9=_law_k 10=_law_number 11=_law_thread 12=_law_cell 13=_law_address 14=_law_first 15=_law_turn
/-- a def without defaults, its body by the layer -/
theorem mkCal {P : Program} {w : World} {K : PySem.W.Frag} {mg : Str → Option Value} {base : Heap} {st : Stmt} {x qual : Str} {f : Addr} {N ps : List Str} {k : Nat} {sp : Sp} (F : ∃ fd, FunD K x qual (defArgs st) (defBody st) (defScope st) [] [] f fd)
    (S : FnScope N ps (defScope st)) (len : ∀ vs H Q E, sp vs H Q E → vs.length = ps.length)
    (hb : ∀ (kV doc pm : Value) (an : Option Addr) (cdv ct : Value) (us : List Value), us.length = ps.length → bindArgs (PySem.W.fnOf x qual (defArgs st) (defBody st) (defScope st) .none kV doc pm an cdv ct) ⟨us, []⟩ = pure (ps.zip us))
    (hbody : ∀ (cdv : Value) (A : Around) (outer : List Env) (s : Shared) (H : Hp) (vs : List V) (Q : VK) (E : XK), Room k (A.deeper (envOfC qual (defScope st) s.heap.objs.size f cdv)) → sp vs H Q E →
      ∃ t, PSs (cxOf CX0 P w K mg base N qual (defScope st) f cdv A outer s H E).nox (defBody st) t ∧ t { nx := fun _ H' => Q .non H', rt := Q } (start N vs) H) : Cal P w K mg base (k + 1) f ps sp := by
  obtain ⟨fd, F⟩ := F
  refine ⟨fd, F.ok S len fun cdv A outer s H vs Q E hr h => ?_, F.bindsN hb, F.kp⟩
  obtain ⟨t, h1, h2⟩ := hbody cdv A outer s H vs Q E hr h
  exact ⟨t, PSs.nox h1, h2⟩
section
variable {X : Cx} {k : Nat} {f C : Addr} {ps : List Str} {sp : Sp} {x m : Str} {p pos apos : Pos} {e o : Expr} {es : List Expr} {ta : TE} {t : TA}
theorem pe_callC (c : Cal X.prog X.w X.K X.mg X.base k f ps sp) (hr : Room k X.A) (hg : Gl X x) (hm : X.mg x = some (.ref f)) (ha : PA X (e :: es) t) (hdb : (x == ("__debug__" : Str)) = false := by decide)
    (he : starEach (e :: es) X.env = (false, eval e X.env) :: starEach es X.env := by rfl) (hpl : (backTo pos (starEach es X.env)).any (·.1) = false := by rfl) : PE X (.Call (.Name x p) (e :: es) [] pos) (tCall sp [] E0 t) := by
  obtain ⟨fd, G, b, kp⟩ := c.ex
  exact pe_call G hr hg hm kp b .nil pass0 ha hdb he hpl
theorem pe_methC {pl : Sem Bool} (he : PE X o ta) (cl : Cls X.K C) (hm : Meth X.K C m f) (c : Cal X.prog X.w X.K X.mg X.base k f ps sp) (hr : Room k X.A) (ha : PA X (e :: es) t)
    (hst : starEach (e :: es) X.env = (false, eval e X.env) :: starEach es X.env := by rfl) (hpl : (backTo pos (starEach es X.env)).any (·.1) = false := by rfl)
    (ht : eval (.Call (.Attribute o m apos) (e :: es) [] pos) X.env = (do
      let ov ← eval o X.env
      standAt apos.atName
      let (f, first) ← holding [ov] (getMethod ov m pl)
      callWith pos f first (backTo pos (starEach (e :: es) X.env)) (backToKw pos (keywordEach [] X.env))) := by rfl) :
    PE X (.Call (.Attribute o m apos) (e :: es) [] pos) (tMeth C m sp [] E0 ta t) := by
  obtain ⟨fd, G, b, kp⟩ := c.ex
  exact pe_meth he cl hm G hr b .nil pass0 ha hst hpl ht
theorem pe_methC0 {pl : Sem Bool} (he : PE X o ta) (cl : Cls X.K C) (hm : Meth X.K C m f) (c : Cal X.prog X.w X.K X.mg X.base k f ps sp) (hr : Room k X.A)
    (ht : eval (.Call (.Attribute o m apos) [] [] pos) X.env = (do
      let ov ← eval o X.env
      standAt apos.atName
      let (f, first) ← holding [ov] (getMethod ov m pl)
      callWith pos f first (backTo pos (starEach [] X.env)) (backToKw pos (keywordEach [] X.env))) := by rfl) :
    PE X (.Call (.Attribute o m apos) [] [] pos) (tMeth C m sp [] E0 ta tNil) := by
  obtain ⟨fd, G, b, kp⟩ := c.ex
  exact pe_meth0 he cl hm G hr b .nil pass0 ht
theorem pe_makeC (M : Mk X.K C f) (c : Cal X.prog X.w X.K X.mg X.base k f ps sp) (hr : Room (k + 1) X.A) (hg : Gl X x) (hm : X.mg x = some (.ref C))
    (ha : PA X (e :: es) t) (hdb : (x == ("__debug__" : Str)) = false := by decide) (he : starEach (e :: es) X.env = (false, eval e X.env) :: starEach es X.env := by rfl) (hpl : (backTo pos (starEach es X.env)).any (·.1) = false := by rfl) :
    PE X (.Call (.Name x p) (e :: es) [] pos) (tMake C sp [] E0 t) := by
  obtain ⟨fd, G, b, kp⟩ := c.ex
  exact pe_make M G hr hg hm b .nil pass0 ha hdb he hpl
end
theorem Cal.mono {P : Program} {w : World} {K : PySem.W.Frag} {mg : Str → Option Value} {base : Heap} {j k : Nat} {f : Addr} {ps : List Str} {sp : Sp} (c : Cal P w K mg base j f ps sp) (h : j ≤ k) : Cal P w K mg base k f ps sp := by
  obtain ⟨fd, G, b, kp⟩ := c.ex
  exact ⟨fd, G.mono h, b, kp⟩
end Dk

set_option Elab.async false
set_option linter.all false
set_option maxRecDepth 100000
set_option maxHeartbeats 4000000
namespace Dk
open PySem PySem.Spec PyProof.Rows L2
open DkM (TV Mem DS Req Ent Deed upC upC_same upC_ne)
/-! ### attributes by place -/
theorem lk_at : ∀ {fs : List (Str × V)} {ks : List Str} (i : Nat) {m : Str} {v : V}, fs.map (·.1) = ks → fs[i]? = some (m, v) → (ks.take i).all (fun k => !(m == k)) = true → fs.lookup m = some v
  | [], _, i, _, _, _, h, _ => by simp at h
  | (k, u) :: r, ks, 0, m, v, hk, h, _ => by
    have e : (k, u) = (m, v) := by simpa using h
    injection e with e1 e2
    subst e1 e2
    show List.lookup k ((k, u) :: r) = _
    simp [List.lookup]
  | (k, u) :: r, ks, i + 1, m, v, hk, h, hn => by
    subst hk
    have hn2 : (!(m == k)) = true ∧ ((r.map (·.1)).take i).all (fun k => !(m == k)) = true := by simpa using hn
    have hb : (m == k) = false := by simpa using hn2.1
    simp only [List.lookup, hb]
    exact lk_at i rfl (by simpa using h) hn2.2
theorem lk_no : ∀ {fs : List (Str × V)} {ks : List Str} {m : Str}, fs.map (·.1) = ks → ks.all (fun k => !(m == k)) = true → fs.lookup m = none
  | [], _, _, _, _ => rfl
  | (k, u) :: r, ks, m, hk, hn => by
    subst hk
    have hn2 : (!(m == k)) = true ∧ (r.map (·.1)).all (fun k => !(m == k)) = true := by simpa using hn
    have hb : (m == k) = false := by simpa using hn2.1
    simp only [List.lookup, hb]
    exact lk_no rfl hn2.2
theorem putF_at : ∀ {fs : List (Str × V)} {ks : List Str} (i : Nat) {m : Str} {v u : V}, fs.map (·.1) = ks → fs[i]? = some (m, u) → (ks.take i).all (fun k => !(m == k)) = true → putF m v fs = fs.set i (m, v)
  | [], _, i, _, _, _, _, h, _ => by simp at h
  | (k, w) :: r, ks, 0, m, v, u, hk, h, _ => by
    have e : (k, w) = (m, u) := by simpa using h
    injection e with e1 e2
    subst e1
    show (if k = k then _ else _) = _
    rw [if_pos rfl]; rfl
  | (k, w) :: r, ks, i + 1, m, v, u, hk, h, hn => by
    subst hk
    have hn2 : (!(m == k)) = true ∧ ((r.map (·.1)).take i).all (fun k => !(m == k)) = true := by simpa using hn
    have hb : ¬ k = m := by
      have : (m == k) = false := by simpa using hn2.1
      intro e
      subst e
      simp at this
    show (if k = m then _ else (k, w) :: putF m v r) = _
    rw [if_neg hb, putF_at i rfl (by simpa using h) hn2.2]; rfl
theorem putF_new : ∀ {fs : List (Str × V)} {ks : List Str} {m : Str} {v : V}, fs.map (·.1) = ks → ks.all (fun k => !(m == k)) = true → putF m v fs = fs ++ [(m, v)]
  | [], _, _, _, _, _ => rfl
  | (k, w) :: r, ks, m, v, hk, hn => by
    subst hk
    have hn2 : (!(m == k)) = true ∧ (r.map (·.1)).all (fun k => !(m == k)) = true := by simpa using hn
    have hb : ¬ k = m := by
      have : (m == k) = false := by simpa using hn2.1
      intro e
      subst e
      simp at this
    show (if k = m then _ else (k, w) :: putF m v r) = _
    rw [if_neg hb, putF_new rfl hn2.2]; rfl
/-! ### lists by places -/
def All2 {α : Type} (R : α → V → Prop) : List α → List V → Prop
  | [], [] => True
  | a :: l, x :: xs => R a x ∧ All2 R l xs
  | _, _ => False
section
variable {α : Type} {R R' : α → V → Prop}
theorem All2.len : ∀ {l : List α} {xs : List V}, All2 R l xs → l.length = xs.length
  | [], [], _ => rfl
  | [], _ :: _, h => h.elim
  | _ :: _, [], h => h.elim
  | _ :: _, _ :: _, h => congrArg Nat.succ (All2.len h.2)
theorem All2.mono (f : ∀ a x, R a x → R' a x) : ∀ {l : List α} {xs : List V}, All2 R l xs → All2 R' l xs
  | [], [], _ => trivial
  | [], _ :: _, h => h.elim
  | _ :: _, [], h => h.elim
  | _ :: _, _ :: _, h => ⟨f _ _ h.1, All2.mono f h.2⟩
theorem All2.get : ∀ {l : List α} {xs : List V} {i : Nat} {a : α}, All2 R l xs → l[i]? = some a → ∃ x, xs[i]? = some x ∧ R a x
  | [], _, _, _, _, h => by simp at h
  | _ :: _, [], _, _, h, _ => h.elim
  | a :: l, x :: xs, 0, b, h, e => by
    have : a = b := by simpa using e
    subst this
    exact ⟨x, rfl, h.1⟩
  | a :: l, x :: xs, i + 1, b, h, e => by
    obtain ⟨y, h1, h2⟩ := All2.get (i := i) h.2 (by simpa using e)
    exact ⟨y, by simpa using h1, h2⟩
theorem All2.get' : ∀ {l : List α} {xs : List V} {i : Nat} {x : V}, All2 R l xs → xs[i]? = some x → ∃ a, l[i]? = some a ∧ R a x
  | _, [], _, _, _, h => by simp at h
  | [], _ :: _, _, _, h, _ => h.elim
  | a :: l, x :: xs, 0, b, h, e => by
    have : x = b := by simpa using e
    subst this
    exact ⟨a, rfl, h.1⟩
  | a :: l, x :: xs, i + 1, b, h, e => by
    obtain ⟨y, h1, h2⟩ := All2.get' (i := i) h.2 (by simpa using e)
    exact ⟨y, by simpa using h1, h2⟩
theorem All2.app : ∀ {l l' : List α} {xs xs' : List V}, All2 R l xs → All2 R l' xs' → All2 R (l ++ l') (xs ++ xs')
  | [], _, [], _, _, h => h
  | [], _, _ :: _, _, h, _ => h.elim
  | _ :: _, _, [], _, h, _ => h.elim
  | _ :: _, _, _ :: _, _, h, h' => ⟨h.1, All2.app h.2 h'⟩
theorem All2.drop : ∀ {l : List α} {xs : List V} (n : Nat), All2 R l xs → All2 R (l.drop n) (xs.drop n)
  | [], [], n, _ => by simp [All2]
  | [], _ :: _, _, h => h.elim
  | _ :: _, [], _, h => h.elim
  | _ :: _, _ :: _, 0, h => h
  | _ :: _, _ :: _, n + 1, h => All2.drop n h.2
theorem All2.take : ∀ {l : List α} {xs : List V} (n : Nat), All2 R l xs → All2 R (l.take n) (xs.take n)
  | [], [], n, _ => by simp [All2]
  | [], _ :: _, _, h => h.elim
  | _ :: _, [], _, h => h.elim
  | _ :: _, _ :: _, 0, _ => trivial
  | _ :: _, _ :: _, n + 1, h => ⟨h.1, All2.take n h.2⟩
end
/-! ### values -/
def TupK (H H' : Hp) : Prop := ∀ a xs, H a = some (.tup xs) → H' a = some (.tup xs)
theorem TupK.refl (H : Hp) : TupK H H := fun _ _ h => h
theorem TupK.trans {H H1 H2 : Hp} (a : TupK H H1) (b : TupK H1 H2) : TupK H H2 := fun x xs h => b x xs (a x xs h)
theorem TupK.of_same {H H' : Hp} (h : Same H H') : TupK H H' := fun a xs q => h a _ q
theorem TupK.new {H : Hp} {p : Addr} {o : HO} (h : H p = none) : TupK H (upd H p o) := fun a xs q => by rw [upd_ne (ne_of_none q h)]; exact q
theorem TupK.upd {H : Hp} {p : Addr} {o u : HO} (h : H p = some u) (hu : ∀ xs, u ≠ .tup xs) : TupK H (L2.upd H p o) := fun a xs q => by rw [upd_ne (ne_of q h fun e => hu xs e.symm)]; exact q
theorem same_new {H : Hp} {p : Addr} {o : HO} (h : H p = none) : Same H (L2.upd H p o) := fun b x e => by rw [upd_ne (ne_of_none e h)]; exact e
def EntR (H : Hp) (e : Ent) (x : V) : Prop := ∃ p, x = .ref p ∧ H p = some (.tup [.int e.1, .int e.2.1, .int e.2.2])
def EsR (H : Hp) (a : Addr) (es : List Ent) : Prop := ∃ xs, H a = some (.tup xs) ∧ All2 (EntR H) es xs
def RT (H : Hp) : TV → V → Prop
  | .non, x => x = .non
  | .bl b, x => x = .bl b
  | .int i, x => x = .int i
  | .don t, x => ∃ p, x = .ref p ∧ H p = some (.tup [.str "done", .int t])
  | .fai t, x => ∃ p, x = .ref p ∧ H p = some (.tup [.str "failed", .int t])
  | .mark a s o n, x => ∃ p, x = .ref p ∧ H p = some (.tup [.int a, .int s, .int o, .int n])
  | .deed s es th nu, x => ∃ p e, x = .ref p ∧ H p = some (.tup [.str "deed", .int s, .ref e, .int th, .int nu, .non]) ∧ EsR H e es
  | .items, x => ∃ p q, x = .ref p ∧ H p = some (.tup [.str "items", .ref q])
def ReqR (H : Hp) : Req → V → Prop
  | .read c, x => ∃ p, x = .ref p ∧ H p = some (.tup [.str "read", .int c])
  | .write c v, x => ∃ p u, x = .ref p ∧ H p = some (.tup [.str "write", .int c, u]) ∧ RT H v u
  | .swap c o n, x => ∃ p u v, x = .ref p ∧ H p = some (.tup [.str "swap", .int c, u, v]) ∧ RT H o u ∧ RT H n v
  | .dec c d, x => ∃ p, x = .ref p ∧ H p = some (.tup [.str "decide", .int c, .str (if d then "done" else "failed")])
  | .flush c, x => ∃ p, x = .ref p ∧ H p = some (.tup [.str "flush", .int c])
  | .fence, x => ∃ p, x = .ref p ∧ H p = some (.tup [.str "fence"])
section
variable {H H' : Hp}
theorem EntR.mono (k : TupK H H') (e : Ent) (x : V) : EntR H e x → EntR H' e x := fun ⟨p, h1, h2⟩ => ⟨p, h1, k _ _ h2⟩
theorem EsR.mono (k : TupK H H') {a : Addr} {es : List Ent} (h : EsR H a es) : EsR H' a es := by
  obtain ⟨xs, h1, h2⟩ := h
  exact ⟨xs, k _ _ h1, h2.mono (EntR.mono k)⟩
theorem RT.mono (k : TupK H H') : ∀ (v : TV) (x : V), RT H v x → RT H' v x
  | .non, _, h => h
  | .bl _, _, h => h
  | .int _, _, h => h
  | .don _, _, ⟨p, h1, h2⟩ => ⟨p, h1, k _ _ h2⟩
  | .fai _, _, ⟨p, h1, h2⟩ => ⟨p, h1, k _ _ h2⟩
  | .mark _ _ _ _, _, ⟨p, h1, h2⟩ => ⟨p, h1, k _ _ h2⟩
  | .deed _ _ _ _, _, ⟨p, e, h1, h2, h3⟩ => ⟨p, e, h1, k _ _ h2, h3.mono k⟩
  | .items, _, ⟨p, q, h1, h2⟩ => ⟨p, q, h1, k _ _ h2⟩
theorem ReqR.mono (k : TupK H H') : ∀ (v : Req) (x : V), ReqR H v x → ReqR H' v x
  | .read _, _, ⟨p, h1, h2⟩ => ⟨p, h1, k _ _ h2⟩
  | .write _ _, _, ⟨p, u, h1, h2, h3⟩ => ⟨p, u, h1, k _ _ h2, h3.mono k⟩
  | .swap _ _ _, _, ⟨p, u, v, h1, h2, h3, h4⟩ => ⟨p, u, v, h1, k _ _ h2, h3.mono k, h4.mono k⟩
  | .dec _ _, _, ⟨p, h1, h2⟩ => ⟨p, h1, k _ _ h2⟩
  | .flush _, _, ⟨p, h1, h2⟩ => ⟨p, h1, k _ _ h2⟩
  | .fence, _, ⟨p, h1, h2⟩ => ⟨p, h1, k _ _ h2⟩
/-- data as the library compares it -/
def pdE (e : Ent) : PyData := .tuple [.int e.1, .int e.2.1, .int e.2.2]
def pd : TV → PyData
  | .non => .none
  | .bl b => .bool b
  | .int i => .int i
  | .don t => .tuple [.str "done", .int t]
  | .fai t => .tuple [.str "failed", .int t]
  | .mark a s o n => .tuple [.int a, .int s, .int o, .int n]
  | .deed s es th nu => .tuple [.str "deed", .int s, .tuple (es.map pdE), .int th, .int nu, .none]
  | .items => .none
def flatT : TV → Bool
  | .int _ => true
  | .don _ => true
  | .fai _ => true
  | .mark _ _ _ _ => true
  | _ => false
theorem RT.dp {K : PySem.W.Frag} : ∀ {v : TV} {x : V}, RT H v x → flatT v = true → Dp K H x (pd v)
  | .int i, _, h, _ => by
    have h : _ = V.int i := h
    subst h; exact .int i
  | .don t, _, ⟨p, h1, h2⟩, _ => by subst h1; exact .tup (SqT.of h2) (.cons (.str _) (.cons (.int _) .nil))
  | .fai t, _, ⟨p, h1, h2⟩, _ => by subst h1; exact .tup (SqT.of h2) (.cons (.str _) (.cons (.int _) .nil))
  | .mark a s o n, _, ⟨p, h1, h2⟩, _ => by subst h1; exact .tup (SqT.of h2) (.cons (.int _) (.cons (.int _) (.cons (.int _) (.cons (.int _) .nil))))
theorem sok1 : PyData.strOk (Str.ofString "done") = true := by decide +kernel
theorem sok2 : PyData.strOk (Str.ofString "failed") = true := by decide +kernel
theorem pd_shaped : ∀ {v : TV}, flatT v = true → SeqAt.shaped (pd v) = true
  | .int i, _ => by simp [pd, SeqAt.shaped, PyData.canLay0, PyData.canLayAll0, PyData.depth, PyData.depthAll]
  | .don t, _ => by simp [pd, SeqAt.shaped, PyData.canLay0, PyData.canLayAll0, PyData.depth, PyData.depthAll, sok1]
  | .fai t, _ => by simp [pd, SeqAt.shaped, PyData.canLay0, PyData.canLayAll0, PyData.depth, PyData.depthAll, sok2]
  | .mark a s o n, _ => by simp [pd, SeqAt.shaped, PyData.canLay0, PyData.canLayAll0, PyData.depth, PyData.depthAll]
theorem nodf : (("done" : Str) == "failed") = false := by decide +kernel
theorem nofd : (("failed" : Str) == "done") = false := by decide +kernel
theorem pd_eqv : ∀ {v w : TV}, flatT v = true → flatT w = true → PyData.eqv (pd v) (pd w) = decide (v = w)
  | .int i, .int j, _, _ => by simp only [pd, PyData.eqv, TV.int.injEq]; exact Bool.beq_eq_decide_eq i j
  | .int i, .don _, _, _ => by simp [pd, PyData.eqv]
  | .int i, .fai _, _, _ => by simp [pd, PyData.eqv]
  | .int i, .mark _ _ _ _, _, _ => by simp [pd, PyData.eqv]
  | .don i, .int j, _, _ => by simp [pd, PyData.eqv]
  | .don i, .don j, _, _ => by simp [pd, PyData.eqv, PyData.eqvAll, TV.don.injEq, Bool.beq_eq_decide_eq]
  | .don i, .fai j, _, _ => by simp [pd, PyData.eqv, PyData.eqvAll, nodf]
  | .don i, .mark _ _ _ _, _, _ => by simp [pd, PyData.eqv, PyData.eqvAll]
  | .fai i, .int j, _, _ => by simp [pd, PyData.eqv]
  | .fai i, .don j, _, _ => by simp [pd, PyData.eqv, PyData.eqvAll, nofd]
  | .fai i, .fai j, _, _ => by simp [pd, PyData.eqv, PyData.eqvAll, TV.fai.injEq, Bool.beq_eq_decide_eq]
  | .fai i, .mark _ _ _ _, _, _ => by simp [pd, PyData.eqv, PyData.eqvAll]
  | .mark _ _ _ _, .int j, _, _ => by simp [pd, PyData.eqv]
  | .mark _ _ _ _, .don j, _, _ => by simp [pd, PyData.eqv, PyData.eqvAll]
  | .mark _ _ _ _, .fai j, _, _ => by simp [pd, PyData.eqv, PyData.eqvAll]
  | .mark a b c d, .mark a' b' c' d', _, _ => by
    simp only [pd, PyData.eqv, PyData.eqvAll, TV.mark.injEq, Bool.beq_eq_decide_eq, Bool.and_true]
    by_cases h1 : a = a' <;> by_cases h2 : b = b' <;> by_cases h3 : c = c' <;> by_cases h4 : d = d' <;> simp [h1, h2, h3, h4]
end
end Dk

set_option Elab.async false
set_option linter.all false
set_option maxRecDepth 100000
set_option maxHeartbeats 4000000
namespace Dk
open PySem PySem.Spec PyProof.Rows L2
open DkM (TV Mem DS Req Ent Deed upC upC_same upC_ne)
/-! ### a layout, a memory -/
def layF : List (Str × V) := [("threads", .int 3), ("words", .int 4), ("records", .int 190)]
def LayAt (CL : Addr) (H : Hp) (p : Addr) : Prop := ∃ dx, H p = some (.ins CL dx layF)
def memK : List Str := ["layout", "count", "rows", "trails", "notes"]
structure MA where
  dx : Addr
  lay : Addr
  rows : Addr
  L : Addr
  N : Addr
  T : Int → Addr
  Dn : Int → Addr
def memF (a : MA) (cnt : Int) : List (Str × V) := [("layout", .ref a.lay), ("count", .int cnt), ("rows", .ref a.rows), ("trails", .ref a.L), ("notes", .ref a.N)]
theorem memF_ks (a : MA) (c : Int) : (memF a c).map (·.1) = memK := rfl
theorem memF_lay (a : MA) (c : Int) : (memF a c).lookup ("layout" : Str) = some (V.ref a.lay) := lk_at (fs := memF a c) (ks := memK) 0 (memF_ks a c) rfl (by decide +kernel)
theorem memF_count (a : MA) (c : Int) : (memF a c).lookup ("count" : Str) = some (V.int c) := lk_at (fs := memF a c) (ks := memK) 1 (memF_ks a c) rfl (by decide +kernel)
theorem memF_rows (a : MA) (c : Int) : (memF a c).lookup ("rows" : Str) = some (V.ref a.rows) := lk_at (fs := memF a c) (ks := memK) 2 (memF_ks a c) rfl (by decide +kernel)
theorem memF_trails (a : MA) (c : Int) : (memF a c).lookup ("trails" : Str) = some (V.ref a.L) := lk_at (fs := memF a c) (ks := memK) 3 (memF_ks a c) rfl (by decide +kernel)
theorem memF_notes (a : MA) (c : Int) : (memF a c).lookup ("notes" : Str) = some (V.ref a.N) := lk_at (fs := memF a c) (ks := memK) 4 (memF_ks a c) rfl (by decide +kernel)
theorem memF_put (a : MA) (c d : Int) : putF "count" (.int d) (memF a c) = memF a d := putF_at (fs := memF a c) (ks := memK) (u := .int c) 1 (memF_ks a c) rfl (by decide +kernel)
theorem layF_th : layF.lookup ("threads" : Str) = some (V.int 3) := by decide +kernel
theorem layF_wo : layF.lookup ("words" : Str) = some (V.int 4) := by decide +kernel
theorem layF_re : layF.lookup ("records" : Str) = some (V.int 190) := by decide +kernel
def Tl (T : Int → Addr) : List V := (List.range 201).map fun (i : Nat) => V.ref (T (i : Int))
theorem Tl_len (T : Int → Addr) : (Tl T).length = 201 := by unfold Tl; rw [List.length_map, List.length_range]
theorem Tl_get {T : Int → Addr} {c : Int} (h0 : 0 ≤ c) (h : c < 201) : (Tl T)[c.toNat]? = some (.ref (T c)) := by
  unfold Tl
  rw [List.getElem?_map, List.getElem?_range (by omega)]
  show some (V.ref (T ((c.toNat : Nat) : Int))) = _
  rw [Int.toNat_of_nonneg h0]
theorem Tl_at {T : Int → Addr} {c : Int} (h0 : 0 ≤ c) (h : c < 201) : atI (Tl T) c = some (.ref (T c)) := by
  have e : c = ((c.toNat : Nat) : Int) := (Int.toNat_of_nonneg h0).symm
  rw [e]
  have := atI_nat (Tl_get (T := T) h0 h)
  rw [Int.toNat_of_nonneg h0] at this ⊢
  exact this
theorem Tl_set {T : Int → Addr} {c : Int} (h0 : 0 ≤ c) (h : c < 201) (q : Addr) : (Tl T).set c.toNat (.ref q) = Tl (upC T c q) := by
  apply List.ext_getElem?
  intro i
  by_cases hi : i < 201
  · by_cases e : i = c.toNat
    · subst e
      rw [List.getElem?_set_self (by rw [Tl_len]; exact hi), Tl_get h0 h, upC_same]
    · rw [List.getElem?_set_ne (Ne.symm e)]
      have a := Tl_get (T := T) (c := (i : Int)) (by omega) (by omega)
      have b := Tl_get (T := upC T c q) (c := (i : Int)) (by omega) (by omega)
      rw [Int.toNat_natCast] at a b
      rw [a, b, upC_ne (by omega)]
  · rw [List.getElem?_eq_none (by rw [List.length_set, Tl_len]; omega), List.getElem?_eq_none (by rw [Tl_len]; omega)]
theorem ixN_of {n : Nat} {c : Int} (h0 : 0 ≤ c) (h : c < n) : ixN n c = some c.toNat := by unfold ixN; rw [if_pos h0, if_pos h]
def NtR (kvs : List (Key × V)) (f : Int → Option Int) : Prop := (kvs.map (·.1)).Nodup ∧ (∀ q ∈ kvs, ∃ c : Int, q.1 = Sum.inl c) ∧ ∀ c : Int, valV kvs (Sum.inl c : Key) = (f c).map V.int
def Nl (D : Int → Addr) : List V := [.ref (D 0), .ref (D 1), .ref (D 2)]
theorem Nl_at {D : Int → Addr} {t : Int} (h0 : 0 ≤ t) (h : t < 3) : atI (Nl D) t = some (.ref (D t)) := by
  have : t = 0 ∨ t = 1 ∨ t = 2 := by omega
  rcases this with e | e | e <;> subst e <;> rfl
theorem Nl_set {D : Int → Addr} {t : Int} (h0 : 0 ≤ t) (h : t < 3) (q : Addr) : (Nl D).set t.toNat (.ref q) = Nl (upC D t q) := by
  have : t = 0 ∨ t = 1 ∨ t = 2 := by omega
  rcases this with e | e | e <;> subst e <;> rfl
structure MemAt (C CL : Addr) (H : Hp) (p : Addr) (a : MA) (m : Mem) : Prop where
  ob : H p = some (.ins C a.dx (memF a m.cnt))
  la : LayAt CL H a.lay
  rw : ∃ rs, H a.rows = some (.lst rs) ∧ (rs.length : Int) = m.cnt
  tl : H a.L = some (.lst (Tl a.T))
  tr : ∀ c, 0 ≤ c → c < 201 → ∃ xs, H (a.T c) = some (.lst xs) ∧ All2 (RT H) (m.tr c) xs
  nl : H a.N = some (.lst (Nl a.Dn))
  nt : ∀ t, 0 ≤ t → t < 3 → ∃ kvs, H (a.Dn t) = some (.dK kvs) ∧ NtR kvs (m.nt t)
  pl : p ≠ a.lay
  rL : a.rows ≠ a.L
  rN : a.rows ≠ a.N
  LN : a.L ≠ a.N
  Tr : ∀ c, 0 ≤ c → c < 201 → a.T c ≠ a.rows ∧ a.T c ≠ a.L ∧ a.T c ≠ a.N
  Ti : ∀ c c', 0 ≤ c → c < 201 → 0 ≤ c' → c' < 201 → a.T c = a.T c' → c = c'
  Di : ∀ c c', 0 ≤ c → c < 3 → 0 ≤ c' → c' < 3 → a.Dn c = a.Dn c' → c = c'
/-- what belongs to a memory -/
def FM (p : Addr) (a : MA) (x : Addr) : Prop := x = p ∨ x = a.lay ∨ x = a.rows ∨ x = a.L ∨ x = a.N ∨ (∃ c, 0 ≤ c ∧ c < 201 ∧ x = a.T c) ∨ (∃ t, 0 ≤ t ∧ t < 3 ∧ x = a.Dn t)
/-- from F at H to F' at H': what is new is fresh, what is outside stands, tuples stand -/
structure Stp (F : Addr → Prop) (H : Hp) (F' : Addr → Prop) (H' : Hp) : Prop where
  nw : ∀ x, F' x → F x ∨ H x = none
  ou : ∀ x o, H x = some o → ¬ F x → H' x = some o
  tu : TupK H H'
section
variable {F F' F'' : Addr → Prop} {H H' H'' : Hp} {C CL p : Addr} {a : MA} {m : Mem}
theorem Stp.refl : Stp F H F H := ⟨fun _ h => .inl h, fun _ _ h _ => h, TupK.refl H⟩
theorem Stp.trans (s : Stp F H F' H') (s' : Stp F' H' F'' H'') : Stp F H F'' H'' where
  nw := fun x h => by
    rcases s'.nw x h with h | h
    · exact s.nw x h
    · by_cases f : F x
      · exact .inl f
      · right
        cases q : H x with
        | none => rfl
        | some o => rw [s.ou x o q f] at h; cases h
  ou := fun x o h f => s'.ou x o (s.ou x o h f) fun f' => by
    rcases s.nw x f' with q | q
    · exact f q
    · rw [h] at q; cases q
  tu := s.tu.trans s'.tu
theorem Stp.out {x : Addr} {o : HO} (s : Stp F H F' H') (h : H x = some o) (f : ¬ F x) : H' x = some o ∧ ¬ F' x := ⟨s.ou x o h f, fun f' => by
  rcases s.nw x f' with q | q
  · exact f q
  · rw [h] at q; cases q⟩
theorem Stp.new {q : Addr} {o : HO} (h : H q = none) : Stp F H F (upd H q o) := ⟨fun _ h => .inl h, fun x u hx _ => by rw [upd_ne (ne_of_none hx h)]; exact hx, TupK.new h⟩
theorem Stp.upd {q : Addr} {o u : HO} (hq : H q = some u) (hu : ∀ xs, u ≠ .tup xs) (f : F q) : Stp F H F (L2.upd H q o) := ⟨fun _ h => .inl h, fun x w hx hf => by
  rw [upd_ne (fun e => hf (by rw [e]; exact f))]; exact hx, TupK.upd hq hu⟩
theorem Stp.of_same (s : Same H H') : Stp F H F H' := ⟨fun _ h => .inl h, fun x o h _ => s x o h, TupK.of_same s⟩
/-- a memory stands where nothing of it is touched -/
theorem MemAt.stay (M : MemAt C CL H p a m) (k : ∀ x o, FM p a x → H x = some o → H' x = some o) (t : TupK H H') : MemAt C CL H' p a m where
  ob := k _ _ (.inl rfl) M.ob
  la := by
    obtain ⟨dx, h⟩ := M.la
    exact ⟨dx, k _ _ (.inr (.inl rfl)) h⟩
  rw := by
    obtain ⟨rs, h, l⟩ := M.rw
    exact ⟨rs, k _ _ (.inr (.inr (.inl rfl))) h, l⟩
  tl := k _ _ (.inr (.inr (.inr (.inl rfl)))) M.tl
  tr := fun c h0 h => by
    obtain ⟨xs, h1, h2⟩ := M.tr c h0 h
    exact ⟨xs, k _ _ (.inr (.inr (.inr (.inr (.inr (.inl ⟨c, h0, h, rfl⟩)))))) h1, h2.mono (RT.mono t)⟩
  nl := k _ _ (.inr (.inr (.inr (.inr (.inl rfl))))) M.nl
  nt := fun u h0 h => by
    obtain ⟨kvs, h1, h2⟩ := M.nt u h0 h
    exact ⟨kvs, k _ _ (.inr (.inr (.inr (.inr (.inr (.inr ⟨u, h0, h, rfl⟩)))))) h1, h2⟩
  pl := M.pl
  rL := M.rL
  rN := M.rN
  LN := M.LN
  Tr := M.Tr
  Ti := M.Ti
  Di := M.Di
theorem MemAt.same (M : MemAt C CL H p a m) (s : Same H H') : MemAt C CL H' p a m := M.stay (fun x o _ h => s x o h) (TupK.of_same s)
/-- what is new in F' is not tracked before; the members of FM stand -/
theorem FM.some (M : MemAt C CL H p a m) {x : Addr} (h : FM p a x) : ∃ o, H x = some o ∧ ∀ xs, o ≠ .tup xs := by
  rcases h with rfl | rfl | rfl | rfl | rfl | ⟨c, h0, h, rfl⟩ | ⟨t, h0, h, rfl⟩
  · exact ⟨_, M.ob, fun xs e => by cases e⟩
  · obtain ⟨dx, h⟩ := M.la
    exact ⟨_, h, fun xs e => by cases e⟩
  · obtain ⟨rs, h, _⟩ := M.rw
    exact ⟨_, h, fun xs e => by cases e⟩
  · exact ⟨_, M.tl, fun xs e => by cases e⟩
  · exact ⟨_, M.nl, fun xs e => by cases e⟩
  · obtain ⟨xs, h, _⟩ := M.tr c h0 h
    exact ⟨_, h, fun xs e => by cases e⟩
  · obtain ⟨kvs, h, _⟩ := M.nt t h0 h
    exact ⟨_, h, fun xs e => by cases e⟩
/-- an append to a trail -/
theorem MemAt.app (M : MemAt C CL H p a m) {c : Int} (h0 : 0 ≤ c) (h : c < 201) {xs : List V} {x : V} {v : TV} (hx : H (a.T c) = some (.lst xs)) (hv : RT H v x) :
    MemAt C CL (upd H (a.T c) (.lst (xs ++ [x]))) p a { m with tr := upC m.tr c (m.tr c ++ [v]) } ∧ Stp (FM p a) H (FM p a) (upd H (a.T c) (.lst (xs ++ [x]))) := by
  have tk : TupK H (upd H (a.T c) (.lst (xs ++ [x]))) := TupK.upd hx fun ys e => by cases e
  have st : Stp (FM p a) H (FM p a) (upd H (a.T c) (.lst (xs ++ [x]))) := Stp.upd hx (fun ys e => by cases e) (.inr (.inr (.inr (.inr (.inr (.inl ⟨c, h0, h, rfl⟩))))))
  have np : p ≠ a.T c := ne_of M.ob hx (fun e => by cases e)
  have nr := M.Tr c h0 h
  refine ⟨?_, st⟩
  exact {
    ob := by rw [upd_ne np]; exact M.ob
    la := by
      obtain ⟨dx, hl⟩ := M.la
      exact ⟨dx, by rw [upd_ne (ne_of hl hx (fun e => by cases e))]; exact hl⟩
    rw := by
      obtain ⟨rs, hl, l⟩ := M.rw
      exact ⟨rs, by rw [upd_ne nr.1.symm]; exact hl, l⟩
    tl := by rw [upd_ne nr.2.1.symm]; exact M.tl
    tr := fun d d0 d1 => by
      by_cases e : d = c
      · subst e
        obtain ⟨ys, g1, g2⟩ := M.tr d d0 d1
        have : ys = xs := by rw [hx] at g1; injection g1 with g1; injection g1 with g1; exact g1.symm
        subst this
        refine ⟨_, upd_same, ?_⟩
        show All2 _ (upC m.tr d (m.tr d ++ [v]) d) _
        rw [upC_same]
        exact (g2.mono (RT.mono tk)).app ⟨RT.mono tk _ _ hv, trivial⟩
      · obtain ⟨ys, g1, g2⟩ := M.tr d d0 d1
        refine ⟨ys, by rw [upd_ne fun z => e (M.Ti d c d0 d1 h0 h z)]; exact g1, ?_⟩
        show All2 _ (upC m.tr c (m.tr c ++ [v]) d) _
        rw [upC_ne e]
        exact g2.mono (RT.mono tk)
    nl := by rw [upd_ne nr.2.2.symm]; exact M.nl
    nt := fun u u0 u3 => by
      obtain ⟨kvs, g1, g2⟩ := M.nt u u0 u3
      exact ⟨kvs, by rw [upd_ne (ne_of g1 hx (fun e => by cases e))]; exact g1, g2⟩
    pl := M.pl
    rL := M.rL
    rN := M.rN
    LN := M.LN
    Tr := M.Tr
    Ti := M.Ti
    Di := M.Di }
/-- a trail is replaced by a new list -/
theorem MemAt.setT (M : MemAt C CL H p a m) {c : Int} (h0 : 0 ≤ c) (h : c < 201) {q : Addr} {xs : List V} {l : List TV} (hq : H q = none) (hl : All2 (RT H) l xs) :
    MemAt C CL (upd (upd H q (.lst xs)) a.L (.lst (Tl (upC a.T c q)))) p { a with T := upC a.T c q } { m with tr := upC m.tr c l } ∧
      Stp (FM p a) H (FM p { a with T := upC a.T c q }) (upd (upd H q (.lst xs)) a.L (.lst (Tl (upC a.T c q)))) := by
  have nq : ∀ x o, H x = some o → x ≠ q := fun x o hx => ne_of_none hx hq
  have LL : (upd H q (.lst xs)) a.L = some (.lst (Tl a.T)) := by rw [upd_ne (nq _ _ M.tl)]; exact M.tl
  have tk : TupK H (upd (upd H q (.lst xs)) a.L (.lst (Tl (upC a.T c q)))) := (TupK.new hq).trans (TupK.upd LL fun ys e => by cases e)
  have keep : ∀ x o, H x = some o → x ≠ a.L → (upd (upd H q (.lst xs)) a.L (.lst (Tl (upC a.T c q)))) x = some o := fun x o hx hn => by rw [upd_ne hn, upd_ne (nq x o hx)]; exact hx
  have hqL : q ≠ a.L := fun e => by rw [e, M.tl] at hq; cases hq
  constructor
  · exact {
      ob := keep _ _ M.ob (ne_of M.ob M.tl (fun e => by cases e))
      la := by
        obtain ⟨dx, hl⟩ := M.la
        exact ⟨dx, keep _ _ hl (ne_of hl M.tl (fun e => by cases e))⟩
      rw := by
        obtain ⟨rs, hl, l⟩ := M.rw
        exact ⟨rs, keep _ _ hl M.rL, l⟩
      tl := upd_same
      tr := fun d d0 d1 => by
        by_cases e : d = c
        · subst e
          refine ⟨xs, ?_, ?_⟩
          · show (upd (upd H q (.lst xs)) a.L _) (upC a.T d q d) = _
            rw [upC_same, upd_ne hqL, upd_same]
          · show All2 _ (upC m.tr d l d) _
            rw [upC_same]
            exact hl.mono (RT.mono tk)
        · obtain ⟨ys, g1, g2⟩ := M.tr d d0 d1
          refine ⟨ys, ?_, ?_⟩
          · show (upd (upd H q (.lst xs)) a.L _) (upC a.T c q d) = _
            rw [upC_ne e]
            exact keep _ _ g1 (M.Tr d d0 d1).2.1
          · show All2 _ (upC m.tr c l d) _
            rw [upC_ne e]
            exact g2.mono (RT.mono tk)
      nl := keep _ _ M.nl M.LN.symm
      nt := fun u u0 u3 => by
        obtain ⟨kvs, g1, g2⟩ := M.nt u u0 u3
        exact ⟨kvs, keep _ _ g1 (ne_of g1 M.tl (fun e => by cases e)), g2⟩
      pl := M.pl
      rL := M.rL
      rN := M.rN
      LN := M.LN
      Tr := fun d d0 d1 => by
        show upC a.T c q d ≠ _ ∧ upC a.T c q d ≠ _ ∧ upC a.T c q d ≠ _
        by_cases e : d = c
        · rw [e, upC_same]
          obtain ⟨rs, g, _⟩ := M.rw
          exact ⟨(nq _ _ g).symm, hqL, (nq _ _ M.nl).symm⟩
        · rw [upC_ne e]; exact M.Tr d d0 d1
      Ti := fun d d' d0 d1 e0 e1 z => by
        have z : upC a.T c q d = upC a.T c q d' := z
        have old : ∀ x, 0 ≤ x → x < 201 → a.T x ≠ q := fun x x0 x1 => by
          obtain ⟨ys, g1, _⟩ := M.tr x x0 x1
          exact nq _ _ g1
        by_cases e : d = c
        · by_cases e' : d' = c
          · rw [e, e']
          · rw [e, upC_same, upC_ne e'] at z
            exact absurd z.symm (old d' e0 e1)
        · by_cases e' : d' = c
          · rw [e', upC_same, upC_ne e] at z
            exact absurd z (old d d0 d1)
          · rw [upC_ne e, upC_ne e'] at z
            exact M.Ti d d' d0 d1 e0 e1 z
      Di := M.Di }
  · refine ⟨fun x hx => ?_, fun x o hx f => keep x o hx fun e => f (.inr (.inr (.inr (.inl e)))), tk⟩
    rcases hx with e | e | e | e | e | ⟨d, d0, d1, e⟩ | e
    · exact .inl (.inl e)
    · exact .inl (.inr (.inl e))
    · exact .inl (.inr (.inr (.inl e)))
    · exact .inl (.inr (.inr (.inr (.inl e))))
    · exact .inl (.inr (.inr (.inr (.inr (.inl e)))))
    · have e : x = upC a.T c q d := e
      by_cases ec : d = c
      · rw [ec, upC_same] at e
        right
        rw [e]; exact hq
      · rw [upC_ne ec] at e
        exact .inl (.inr (.inr (.inr (.inr (.inr (.inl ⟨d, d0, d1, e⟩))))))
    · exact .inl (.inr (.inr (.inr (.inr (.inr (.inr e))))))
/-- a thread's notes are changed in place -/
theorem MemAt.setN (M : MemAt C CL H p a m) {t : Int} (h0 : 0 ≤ t) (h3 : t < 3) {kvs : List (Key × V)} {f : Int → Option Int} (hf : NtR kvs f) :
    MemAt C CL (upd H (a.Dn t) (.dK kvs)) p a { m with nt := upC m.nt t f } ∧ Stp (FM p a) H (FM p a) (upd H (a.Dn t) (.dK kvs)) := by
  obtain ⟨k0, hk, _⟩ := M.nt t h0 h3
  have tk : TupK H (upd H (a.Dn t) (.dK kvs)) := TupK.upd hk fun ys e => by cases e
  have keep : ∀ x o, H x = some o → (∀ k, o ≠ .dK k) → (upd H (a.Dn t) (.dK kvs)) x = some o := fun x o hx hn => by rw [upd_ne (ne_of hx hk (hn _))]; exact hx
  refine ⟨?_, Stp.upd hk (fun ys e => by cases e) (.inr (.inr (.inr (.inr (.inr (.inr ⟨t, h0, h3, rfl⟩))))))⟩
  exact {
    ob := keep _ _ M.ob (fun k e => by cases e)
    la := by
      obtain ⟨dx, hl⟩ := M.la
      exact ⟨dx, keep _ _ hl (fun k e => by cases e)⟩
    rw := by
      obtain ⟨rs, hl, l⟩ := M.rw
      exact ⟨rs, keep _ _ hl (fun k e => by cases e), l⟩
    tl := keep _ _ M.tl (fun k e => by cases e)
    tr := fun d d0 d1 => by
      obtain ⟨ys, g1, g2⟩ := M.tr d d0 d1
      exact ⟨ys, keep _ _ g1 (fun k e => by cases e), g2.mono (RT.mono tk)⟩
    nl := keep _ _ M.nl (fun k e => by cases e)
    nt := fun u u0 u3 => by
      by_cases e : u = t
      · subst e
        refine ⟨kvs, upd_same, ?_⟩
        show NtR kvs (upC m.nt u f u)
        rw [upC_same]; exact hf
      · obtain ⟨ks, g1, g2⟩ := M.nt u u0 u3
        refine ⟨ks, by rw [upd_ne fun z => e (M.Di u t u0 u3 h0 h3 z)]; exact g1, ?_⟩
        show NtR ks (upC m.nt t f u)
        rw [upC_ne e]; exact g2
    pl := M.pl
    rL := M.rL
    rN := M.rN
    LN := M.LN
    Tr := M.Tr
    Ti := M.Ti
    Di := M.Di }
/-- a thread's notes are replaced by a new dict -/
theorem MemAt.newN (M : MemAt C CL H p a m) {t : Int} (h0 : 0 ≤ t) (h3 : t < 3) {q : Addr} (hq : H q = none) :
    MemAt C CL (upd (upd H q (.dK [])) a.N (.lst (Nl (upC a.Dn t q)))) p { a with Dn := upC a.Dn t q } { m with nt := upC m.nt t (fun _ => none) } ∧
      Stp (FM p a) H (FM p { a with Dn := upC a.Dn t q }) (upd (upd H q (.dK [])) a.N (.lst (Nl (upC a.Dn t q)))) := by
  have nq : ∀ x o, H x = some o → x ≠ q := fun x o hx => ne_of_none hx hq
  have NN : (upd H q (.dK [])) a.N = some (.lst (Nl a.Dn)) := by rw [upd_ne (nq _ _ M.nl)]; exact M.nl
  have tk : TupK H (upd (upd H q (.dK [])) a.N (.lst (Nl (upC a.Dn t q)))) := (TupK.new hq).trans (TupK.upd NN fun ys e => by cases e)
  have keep : ∀ x o, H x = some o → x ≠ a.N → (upd (upd H q (.dK [])) a.N (.lst (Nl (upC a.Dn t q)))) x = some o := fun x o hx hn => by rw [upd_ne hn, upd_ne (nq x o hx)]; exact hx
  have hqN : q ≠ a.N := fun e => by rw [e, M.nl] at hq; cases hq
  constructor
  · exact {
      ob := keep _ _ M.ob (ne_of M.ob M.nl (fun e => by cases e))
      la := by
        obtain ⟨dx, hl⟩ := M.la
        exact ⟨dx, keep _ _ hl (ne_of hl M.nl (fun e => by cases e))⟩
      rw := by
        obtain ⟨rs, hl, l⟩ := M.rw
        exact ⟨rs, keep _ _ hl M.rN, l⟩
      tl := keep _ _ M.tl M.LN
      tr := fun d d0 d1 => by
        obtain ⟨ys, g1, g2⟩ := M.tr d d0 d1
        exact ⟨ys, keep _ _ g1 (M.Tr d d0 d1).2.2, g2.mono (RT.mono tk)⟩
      nl := upd_same
      nt := fun u u0 u3 => by
        by_cases e : u = t
        · subst e
          refine ⟨[], ?_, ?_⟩
          · show (upd (upd H q (.dK [])) a.N _) (upC a.Dn u q u) = _
            rw [upC_same, upd_ne hqN, upd_same]
          · show NtR [] (upC m.nt u (fun _ => none) u)
            rw [upC_same]
            exact ⟨List.nodup_nil, fun q h => (by cases h), fun c => rfl⟩
        · obtain ⟨ks, g1, g2⟩ := M.nt u u0 u3
          refine ⟨ks, ?_, ?_⟩
          · show (upd (upd H q (.dK [])) a.N _) (upC a.Dn t q u) = _
            rw [upC_ne e]
            exact keep _ _ g1 (ne_of g1 M.nl (fun e => by cases e))
          · show NtR ks (upC m.nt t (fun _ => none) u)
            rw [upC_ne e]; exact g2
      pl := M.pl
      rL := M.rL
      rN := M.rN
      LN := M.LN
      Tr := M.Tr
      Ti := M.Ti
      Di := fun d d' d0 d1 e0 e1 z => by
        have z : upC a.Dn t q d = upC a.Dn t q d' := z
        have old : ∀ x, 0 ≤ x → x < 3 → a.Dn x ≠ q := fun x x0 x1 => by
          obtain ⟨ks, g1, _⟩ := M.nt x x0 x1
          exact nq _ _ g1
        by_cases e : d = t
        · by_cases e' : d' = t
          · rw [e, e']
          · rw [e, upC_same, upC_ne e'] at z
            exact absurd z.symm (old d' e0 e1)
        · by_cases e' : d' = t
          · rw [e', upC_same, upC_ne e] at z
            exact absurd z (old d d0 d1)
          · rw [upC_ne e, upC_ne e'] at z
            exact M.Di d d' d0 d1 e0 e1 z }
  · refine ⟨fun x hx => ?_, fun x o hx f => keep x o hx fun e => f (.inr (.inr (.inr (.inr (.inl e))))), tk⟩
    rcases hx with e | e | e | e | e | e | ⟨d, d0, d1, e⟩
    · exact .inl (.inl e)
    · exact .inl (.inr (.inl e))
    · exact .inl (.inr (.inr (.inl e)))
    · exact .inl (.inr (.inr (.inr (.inl e))))
    · exact .inl (.inr (.inr (.inr (.inr (.inl e)))))
    · exact .inl (.inr (.inr (.inr (.inr (.inr (.inl e))))))
    · have e : x = upC a.Dn t q d := e
      by_cases ec : d = t
      · rw [ec, upC_same] at e
        right
        rw [e]; exact hq
      · rw [upC_ne ec] at e
        exact .inl (.inr (.inr (.inr (.inr (.inr (.inr ⟨d, d0, d1, e⟩))))))
/-- the count and the rows -/
theorem MemAt.tick (M : MemAt C CL H p a m) {rs : List V} (hr : H a.rows = some (.lst rs)) (hl : (rs.length : Int) = m.cnt) {x : V} :
    MemAt C CL (upd (upd H p (.ins C a.dx (memF a (m.cnt + 1)))) a.rows (.lst (rs ++ [x]))) p a m.tick ∧ Stp (FM p a) H (FM p a) (upd (upd H p (.ins C a.dx (memF a (m.cnt + 1)))) a.rows (.lst (rs ++ [x]))) := by
  have npr : p ≠ a.rows := ne_of M.ob hr (fun e => by cases e)
  have h1 : (upd H p (.ins C a.dx (memF a (m.cnt + 1)))) a.rows = some (.lst rs) := by rw [upd_ne npr.symm]; exact hr
  have s1 : Stp (FM p a) H (FM p a) (upd H p (.ins C a.dx (memF a (m.cnt + 1)))) := Stp.upd M.ob (fun ys e => by cases e) (.inl rfl)
  have s2 : Stp (FM p a) (upd H p (.ins C a.dx (memF a (m.cnt + 1)))) (FM p a) (upd (upd H p (.ins C a.dx (memF a (m.cnt + 1)))) a.rows (.lst (rs ++ [x]))) := Stp.upd h1 (fun ys e => by cases e) (.inr (.inr (.inl rfl)))
  have st := s1.trans s2
  have keep : ∀ y o, H y = some o → y ≠ p → y ≠ a.rows → (upd (upd H p (.ins C a.dx (memF a (m.cnt + 1)))) a.rows (.lst (rs ++ [x]))) y = some o := fun y o hy n1 n2 => by rw [upd_ne n2, upd_ne n1]; exact hy
  refine ⟨?_, st⟩
  exact {
    ob := by rw [upd_ne npr, upd_same]; rfl
    la := by
      obtain ⟨dx, hl⟩ := M.la
      exact ⟨dx, keep _ _ hl M.pl.symm (ne_of hl hr (fun e => by cases e))⟩
    rw := ⟨rs ++ [x], upd_same, by rw [List.length_append]; show ((rs.length + 1 : Nat) : Int) = m.cnt + 1; omega⟩
    tl := keep _ _ M.tl (ne_of M.tl M.ob (fun e => by cases e)) M.rL.symm
    tr := fun d d0 d1 => by
      obtain ⟨ys, g1, g2⟩ := M.tr d d0 d1
      exact ⟨ys, keep _ _ g1 (ne_of g1 M.ob (fun e => by cases e)) (M.Tr d d0 d1).1, g2.mono (RT.mono st.tu)⟩
    nl := keep _ _ M.nl (ne_of M.nl M.ob (fun e => by cases e)) M.rN.symm
    nt := fun u u0 u3 => by
      obtain ⟨ks, g1, g2⟩ := M.nt u u0 u3
      exact ⟨ks, keep _ _ g1 (ne_of g1 M.ob (fun e => by cases e)) (ne_of g1 hr (fun e => by cases e)), g2⟩
    pl := M.pl
    rL := M.rL
    rN := M.rN
    LN := M.LN
    Tr := M.Tr
    Ti := M.Ti
    Di := M.Di }
end
end Dk

set_option Elab.async false
set_option linter.all false
set_option maxRecDepth 100000
set_option maxHeartbeats 4000000
namespace Dk
open PySem PySem.Spec PyProof.Rows L2
open DkM (TV Mem DS Req Ent Deed upC upC_same upC_ne)
section
variable {P : Program} {w : World} {K : PySem.W.Frag} {mg : Str → Option Value} {base : Heap}
abbrev CM (K : PySem.W.Frag) : Addr := He.ga K "Memory"
abbrev CL (K : PySem.W.Frag) : Addr := He.ga K "Layout"
abbrev CD (K : PySem.W.Frag) : Addr := He.ga K "Doing"
abbrev CS (K : PySem.W.Frag) : Addr := He.ga K "Stack"
abbrev fM (K : PySem.W.Frag) (m : Str) : Addr := He.ma K (CM K) m
abbrev fL (K : PySem.W.Frag) (m : Str) : Addr := He.ma K (CL K) m
abbrev fD (K : PySem.W.Frag) (m : Str) : Addr := He.ma K (CD K) m
abbrev fS (K : PySem.W.Frag) (m : Str) : Addr := He.ma K (CS K) m
abbrev MemA (K : PySem.W.Frag) := MemAt (CM K) (CL K)
/-! ### is_within, is_mark -/
def spWithin : Sp := fun vs H Q _ => ∃ v lo hi : Int, vs = [.int v, .int lo, .int hi] ∧ Q (.bl (decide (lo ≤ v) && decide (v ≤ hi))) H
theorem ok_within (T : Tx w K mg) : Cal P w K mg base 1 (He.ga K "is_within") ["value", "low", "high"] spWithin := by
  refine mkCal T.F_is_within sc_is_within (fun vs H Q E h => ?_) (fun _ _ _ _ _ _ us hl => match us, hl with | [_, _, _], _ => rfl) fun cdv A outer s H vs Q E hr h => ?_
  · obtain ⟨v, lo, hi, rfl, _⟩ := h
    rfl
  · obtain ⟨v, lo, hi, rfl, q⟩ := h
    refine ⟨_, pss_one (ps_ret (pe_and (pe_callB call_isi (by rfl) T.f_isinstance (by decide +kernel) (pa_cons (pv 0) (pa_cons (pe_bltn (v := .ty "int") (by rfl) T.f_int (by decide +kernel) rfl) pa_nil)))
      (pe_and (pe_not (pe_callB call_isi (by rfl) T.f_isinstance (by decide +kernel) (pa_cons (pv 0) (pa_cons (pe_bltn (v := .ty "bool") (by rfl) T.f_bool (by decide +kernel) rfl) pa_nil))))
        (pe_one (pe_chain op_le op_le (pv 1) (pv 0) (pv 2)))))), ?_⟩
    refine ⟨_, rfl, _, _, _, _, true, rfl, .ty _, .base (.int v), kit_ty (by decide +kernel), true, rfl, iteT ?_⟩
    refine ⟨_, rfl, _, _, _, _, false, rfl, .ty _, .base (.int v), kit_ty (by decide +kernel), false, rfl, true, rfl, iteT ?_⟩
    refine ⟨_, rfl, _, rfl, _, _, rfl, rfl, _, rfl, ?_⟩
    by_cases c : lo ≤ v
    · rw [if_pos (decide_eq_true c)]
      refine ⟨_, rfl, _, _, rfl, rfl, ?_⟩
      rw [decide_eq_true c, Bool.true_and] at q
      exact q
    · rw [if_neg (by simp [c])]
      rw [decide_eq_false c, Bool.false_and] at q
      exact q
def spIsMark (K : PySem.W.Frag) : Sp := fun vs H Q _ => ∃ (v : TV) (x : V), vs = [x] ∧ RT H v x ∧ (DkM.isMark v = true ∨ ∃ i, v = .int i) ∧ Q (.bl (DkM.isMark v)) H
theorem ok_isMark (T : Tx w K mg) : Cal P w K mg base 1 (He.ga K "is_mark") ["value"] (spIsMark K) := by
  refine mkCal T.F_is_mark sc_is_mark (fun vs H Q E h => ?_) (fun _ _ _ _ _ _ us hl => match us, hl with | [_], _ => rfl) fun cdv A outer s H vs Q E hr h => ?_
  · obtain ⟨v, x, rfl, _⟩ := h
    rfl
  · obtain ⟨v, x, rfl, hv, hm, q⟩ := h
    refine ⟨_, pss_one (ps_ret (pe_callB call_isi (by rfl) T.f_isinstance (by decide +kernel) (pa_cons (pv 0) (pa_cons (pe_bltn (v := .ty "tuple") (by rfl) T.f_tuple (by decide +kernel) rfl) pa_nil)))), ?_⟩
    rcases hm with hm | ⟨i, rfl⟩
    · rw [hm] at q
      cases v with
      | mark a s o n =>
        obtain ⟨p, rfl, hp⟩ := hv
        exact ⟨_, rfl, _, _, _, _, true, rfl, .ty _, .base (.tup hp), kit_ty (by decide +kernel), q⟩
      | _ => cases hm
    · have hv : x = V.int i := hv
      subst hv
      exact ⟨_, rfl, _, _, _, _, false, rfl, .ty _, .base (.int i), kit_ty (by decide +kernel), q⟩
/-! ### the layout -/
def spLay1 (K : PySem.W.Frag) (off : Int) : Sp := fun vs H Q _ => ∃ (p : Addr) (i : Int), vs = [.ref p, .int i] ∧ LayAt (CL K) H p ∧ Q (.int (off + i)) H
def spLay0 (K : PySem.W.Frag) (v : Int) : Sp := fun vs H Q _ => ∃ p : Addr, vs = [.ref p] ∧ LayAt (CL K) H p ∧ Q (.int v) H
theorem ok_epoch (T : Tx w K mg) : Cal P w K mg base 1 (fL K "epoch") ["self"] (spLay0 K 0) := by
  refine mkCal T.F_Layout_epoch sc_Layout_epoch (fun vs H Q E h => ?_) (fun _ _ _ _ _ _ us hl => match us, hl with | [_], _ => rfl) fun cdv A outer s H vs Q E hr h => ?_
  · obtain ⟨p, rfl, _⟩ := h
    rfl
  · obtain ⟨p, rfl, _, q⟩ := h
    exact ⟨_, pss_one (ps_ret pe_int), q⟩
theorem ok_call_slot (T : Tx w K mg) : Cal P w K mg base 1 (fL K "call_slot") ["self", "thread"] (spLay1 K 4) := by
  refine mkCal T.F_Layout_call_slot sc_Layout_call_slot (fun vs H Q E h => ?_) (fun _ _ _ _ _ _ us hl => match us, hl with | [_, _], _ => rfl) fun cdv A outer s H vs Q E hr h => ?_
  · obtain ⟨p, i, rfl, _⟩ := h
    rfl
  · obtain ⟨p, i, rfl, ⟨dx, hl⟩, q⟩ := h
    refine ⟨_, pss_one (ps_ret (pe_op op_add (pe_op op_add pe_int (pe_fld (pv 0) rfl)) (pv 1))), ?_⟩
    refine ⟨_, rfl, p, _, dx, _, _, rfl, hl, T.c_Layout, T.n_Layout_threads, layF_th, _, _, rfl, rfl, _, rfl, _, _, rfl, rfl, ?_⟩
    exact q
theorem ok_word (T : Tx w K mg) : Cal P w K mg base 1 (fL K "word") ["self", "index"] (spLay1 K 7) := by
  refine mkCal T.F_Layout_word sc_Layout_word (fun vs H Q E h => ?_) (fun _ _ _ _ _ _ us hl => match us, hl with | [_, _], _ => rfl) fun cdv A outer s H vs Q E hr h => ?_
  · obtain ⟨p, i, rfl, _⟩ := h
    rfl
  · obtain ⟨p, i, rfl, ⟨dx, hl⟩, q⟩ := h
    refine ⟨_, pss_one (ps_ret (pe_op op_add (pe_op op_add pe_int (pe_op op_mul pe_int (pe_fld (pv 0) rfl))) (pv 1))), ?_⟩
    refine ⟨_, rfl, p, _, dx, _, _, rfl, hl, T.c_Layout, T.n_Layout_threads, layF_th, _, _, rfl, rfl, .inl ⟨by decide, by decide⟩, _, _, rfl, rfl, _, rfl, _, _, rfl, rfl, ?_⟩
    exact q
theorem ok_record (T : Tx w K mg) : Cal P w K mg base 1 (fL K "record") ["self", "index"] (spLay1 K 11) := by
  refine mkCal T.F_Layout_record sc_Layout_record (fun vs H Q E h => ?_) (fun _ _ _ _ _ _ us hl => match us, hl with | [_, _], _ => rfl) fun cdv A outer s H vs Q E hr h => ?_
  · obtain ⟨p, i, rfl, _⟩ := h
    rfl
  · obtain ⟨p, i, rfl, ⟨dx, hl⟩, q⟩ := h
    refine ⟨_, pss_one (ps_ret (pe_op op_add (pe_op op_add (pe_op op_add pe_int (pe_op op_mul pe_int (pe_fld (pv 0) rfl))) (pe_fld (pv 0) rfl)) (pv 1))), ?_⟩
    refine ⟨_, rfl, p, _, dx, _, _, rfl, hl, T.c_Layout, T.n_Layout_threads, layF_th, _, _, rfl, rfl, .inl ⟨by decide, by decide⟩, _, _, rfl, rfl, _, rfl, p, _, dx, _, _, rfl, hl, T.c_Layout, T.n_Layout_words, layF_wo, _, _, rfl, rfl, _, rfl, _, _, rfl, rfl, ?_⟩
    exact q
theorem lay_no {m : Str} (h : (["threads", "words", "records"] : List Str).all (fun k => !(m == k)) = true) : layF.lookup m = none := lk_no (fs := layF) rfl h
theorem ok_cells (T : Tx w K mg) : Cal P w K mg base 2 (fL K "cells") ["self"] (spLay0 K 201) := by
  refine mkCal T.F_Layout_cells sc_Layout_cells (fun vs H Q E h => ?_) (fun _ _ _ _ _ _ us hl => match us, hl with | [_], _ => rfl) fun cdv A outer s H vs Q E hr h => ?_
  · obtain ⟨p, rfl, _⟩ := h
    rfl
  · obtain ⟨p, rfl, ⟨dx, hl⟩, q⟩ := h
    refine ⟨_, pss_one (ps_ret (pe_methC (pv 0) T.c_Layout T.m_Layout_record (ok_record T) hr (pa_cons (pe_fld (pv 0) rfl) pa_nil))), ?_⟩
    refine ⟨_, rfl, p, dx, _, rfl, hl, lay_no (by decide +kernel), _, rfl, p, _, dx, _, _, rfl, hl, T.c_Layout, T.n_Layout_records, layF_re, p, _, rfl, ⟨dx, hl⟩, ?_⟩
    exact q
def spLasting (K : PySem.W.Frag) : Sp := fun vs H Q _ => ∃ (p : Addr) (i : Int), vs = [.ref p, .int i] ∧ LayAt (CL K) H p ∧ Q (.bl (decide (4 ≤ i) && decide (i < 201))) H
theorem ok_is_lasting (T : Tx w K mg) : Cal P w K mg base 3 (fL K "is_lasting") ["self", "cell"] (spLasting K) := by
  refine mkCal T.F_Layout_is_lasting sc_Layout_is_lasting (fun vs H Q E h => ?_) (fun _ _ _ _ _ _ us hl => match us, hl with | [_, _], _ => rfl) fun cdv A outer s H vs Q E hr h => ?_
  · obtain ⟨p, i, rfl, _⟩ := h
    rfl
  · obtain ⟨p, i, rfl, ⟨dx, hl⟩, q⟩ := h
    refine ⟨_, pss_one (ps_ret (pe_chain op_le op_lt (pe_methC (pv 0) T.c_Layout T.m_Layout_call_slot (ok_call_slot T) (hr.mono (by decide)) (pa_cons pe_int pa_nil)) (pv 1) (pe_methC0 (pv 0) T.c_Layout T.m_Layout_cells (ok_cells T) hr))), ?_⟩
    refine ⟨_, rfl, p, dx, _, rfl, hl, lay_no (by decide +kernel), p, _, rfl, ⟨dx, hl⟩, _, rfl, _, _, rfl, rfl, _, rfl, ?_⟩
    by_cases c : 4 ≤ i
    · rw [if_pos (decide_eq_true (show (4 : Int) + 0 ≤ i by omega))]
      refine ⟨_, rfl, p, dx, _, rfl, hl, lay_no (by decide +kernel), p, rfl, ⟨dx, hl⟩, _, _, rfl, rfl, ?_⟩
      rw [decide_eq_true c, Bool.true_and] at q
      exact q
    · rw [if_neg (by simp; omega)]
      rw [decide_eq_false c, Bool.false_and] at q
      exact q
end
end Dk

set_option Elab.async false
set_option linter.all false
set_option maxRecDepth 100000
set_option maxHeartbeats 4000000
namespace Dk
open PySem PySem.Spec PyProof.Rows L2
open DkM (TV Mem DS Req Ent Deed upC upC_same upC_ne)
section
variable {P : Program} {w : World} {K : PySem.W.Frag} {mg : Str → Option Value} {base : Heap}
theorem mem_no {m : Str} (a : MA) (c : Int) (h : memK.all (fun k => !(m == k)) = true) : (memF a c).lookup m = none := lk_no (fs := memF a c) (memF_ks a c) h
theorem last_of {H : Hp} {l : List TV} {xs : List V} (h : All2 (RT H) l xs) (hn : l ≠ []) : ∃ x, atI xs (-1) = some x ∧ RT H (DkM.lastD l) x := by
  have hl := h.len
  have hp : 0 < l.length := List.length_pos_iff.mpr hn
  obtain ⟨x, hx, hr⟩ := h.get (i := l.length - 1) (a := l[l.length - 1]'(by omega)) (List.getElem?_eq_getElem _)
  refine ⟨x, ?_, ?_⟩
  · unfold atI ixN
    rw [if_neg (by omega), if_pos (by omega)]
    show xs[(-1 + (xs.length : Int)).toNat]? = some x
    rw [show (-1 + (xs.length : Int)).toNat = l.length - 1 by omega]
    exact hx
  · have : DkM.lastD l = l[l.length - 1]'(by omega) := by
      unfold DkM.lastD
      rw [List.getLastD_eq_getLast?, List.getLast?_eq_getElem?, List.getElem?_eq_getElem (by omega)]
      rfl
    rw [this]; exact hr
theorem head_of {H : Hp} {l : List TV} {xs : List V} (h : All2 (RT H) l xs) (hn : l ≠ []) : ∃ x, atI xs 0 = some x ∧ RT H (l.headD .non) x := by
  cases l with
  | nil => exact absurd rfl hn
  | cons a r =>
    cases xs with
    | nil => exact h.elim
    | cons x xs => exact ⟨x, atI_nat (j := 0) rfl, h.1⟩
/-! ### check_cell, check_lasting -/
def spCheck (K : PySem.W.Frag) (lo : Int) : Sp := fun vs H Q _ => ∃ (p : Addr) (a : MA) (m : Mem) (c : Int), vs = [.ref p, .int c] ∧ MemA K H p a m ∧ lo ≤ c ∧ c < 201 ∧ Q .non H
theorem ok_check_cell (T : Tx w K mg) : Cal P w K mg base 2 (fM K "check_cell") ["self", "cell"] (spCheck K 0) := by
  refine mkCal T.F_Memory_check_cell sc_Memory_check_cell (fun vs H Q E h => ?_) (fun _ _ _ _ _ _ us hl => match us, hl with | [_, _], _ => rfl) fun cdv A outer s H vs Q E hr h => ?_
  · obtain ⟨p, a, m, c, rfl, _⟩ := h
    rfl
  · obtain ⟨p, a, m, c, rfl, M, h0, h1, q⟩ := h
    refine ⟨_, pss_one (ps_if (pt_not (pt_val (pe_callC (ok_within T) hr rfl T.g_is_within (pa_cons (pv 1) (pa_cons pe_int (pa_cons (pe_op op_sub (pe_callB call_len_seq (by rfl) T.f_len (by decide +kernel) (pa_cons (pe_fld (pv 0) rfl) pa_nil)) pe_int) pa_nil))))))
      (pss_one ps_never) pss_nil), ?_⟩
    refine ⟨_, rfl, _, rfl, p, _, _, _, _, rfl, M.ob, T.c_Memory, T.n_Memory_trails, memF_trails _ _, _, _, rfl, .inl (SqL.of M.tl), _, _, rfl, rfl, _, _, _, rfl, true, ?_, ?_⟩
    · rw [Tl_len]
      rw [decide_eq_true h0, decide_eq_true (show c ≤ ((201 : Nat) : Int) - 1 by omega)]; rfl
    · exact iteF q
theorem ok_check_lasting (T : Tx w K mg) : Cal P w K mg base 4 (fM K "check_lasting") ["self", "cell"] (spCheck K 4) := by
  refine mkCal T.F_Memory_check_lasting sc_Memory_check_lasting (fun vs H Q E h => ?_) (fun _ _ _ _ _ _ us hl => match us, hl with | [_, _], _ => rfl) fun cdv A outer s H vs Q E hr h => ?_
  · obtain ⟨p, a, m, c, rfl, _⟩ := h
    rfl
  · obtain ⟨p, a, m, c, rfl, M, h0, h1, q⟩ := h
    refine ⟨_, pss_cons (ps_expr (pe_methC (pv 0) T.c_Memory T.m_Memory_check_cell (ok_check_cell T) (hr.mono (by decide)) (pa_cons (pv 1) pa_nil)))
      (pss_one (ps_if (pt_not (pt_val (pe_methC (pe_fld (pv 0) rfl) T.c_Layout T.m_Layout_is_lasting (ok_is_lasting T) hr (pa_cons (pv 1) pa_nil)))) (pss_one ps_never) pss_nil)), ?_⟩
    obtain ⟨ldx, hl⟩ := M.la
    refine ⟨_, rfl, p, _, _, rfl, M.ob, mem_no _ _ (by decide +kernel), _, rfl, p, a, m, c, rfl, M, by omega, h1, ?_⟩
    refine ⟨_, rfl, p, _, _, _, _, rfl, M.ob, T.c_Memory, T.n_Memory_layout, memF_lay _ _, a.lay, ldx, _, rfl, hl, lay_no (by decide +kernel), _, rfl, a.lay, c, rfl, ⟨ldx, hl⟩, true, ?_, ?_⟩
    · rw [decide_eq_true h0, decide_eq_true h1]; rfl
    · exact iteF q
/-! ### peek, lasting, trail -/
def spPeek (K : PySem.W.Frag) : Sp := fun vs H Q _ => ∃ (p : Addr) (a : MA) (m : Mem) (c : Int), vs = [.ref p, .int c] ∧ MemA K H p a m ∧ 0 ≤ c ∧ c < 201 ∧ m.tr c ≠ [] ∧ ∀ x, RT H (m.last c) x → Q x H
theorem ok_peek (T : Tx w K mg) : Cal P w K mg base 3 (fM K "peek") ["self", "cell"] (spPeek K) := by
  refine mkCal T.F_Memory_peek sc_Memory_peek (fun vs H Q E h => ?_) (fun _ _ _ _ _ _ us hl => match us, hl with | [_, _], _ => rfl) fun cdv A outer s H vs Q E hr h => ?_
  · obtain ⟨p, a, m, c, rfl, _⟩ := h
    rfl
  · obtain ⟨p, a, m, c, rfl, M, h0, h1, hn, q⟩ := h
    refine ⟨_, pss_cons (ps_expr (pe_methC (pv 0) T.c_Memory T.m_Memory_check_cell (ok_check_cell T) hr (pa_cons (pv 1) pa_nil)))
      (pss_one (ps_ret (pe_ix ix_list (pe_ix ix_list (pe_fld (pv 0) rfl) (pv 1) (fun _ _ => rfl)) (pe_un un_neg pe_int) (fun _ _ => rfl)))), ?_⟩
    obtain ⟨xs, hx, hr2⟩ := M.tr c h0 h1
    obtain ⟨x, ha, hv⟩ := last_of hr2 hn
    refine ⟨_, rfl, p, _, _, rfl, M.ob, mem_no _ _ (by decide +kernel), _, rfl, p, a, m, c, rfl, M, h0, h1, ?_⟩
    refine ⟨_, rfl, p, _, _, _, _, rfl, M.ob, T.c_Memory, T.n_Memory_trails, memF_trails _ _, _, rfl, _, _, _, _, rfl, rfl, SqL.of M.tl, Tl_at h0 h1, _, rfl, _, _, _, _, rfl, rfl, SqL.of hx, ha, ?_⟩
    exact q x hv
def spLast (K : PySem.W.Frag) : Sp := fun vs H Q _ => ∃ (p : Addr) (a : MA) (m : Mem) (c : Int), vs = [.ref p, .int c] ∧ MemA K H p a m ∧ 4 ≤ c ∧ c < 201 ∧ m.tr c ≠ [] ∧ ∀ x, RT H (m.fst c) x → Q x H
theorem ok_lasting (T : Tx w K mg) : Cal P w K mg base 5 (fM K "lasting") ["self", "cell"] (spLast K) := by
  refine mkCal T.F_Memory_lasting sc_Memory_lasting (fun vs H Q E h => ?_) (fun _ _ _ _ _ _ us hl => match us, hl with | [_, _], _ => rfl) fun cdv A outer s H vs Q E hr h => ?_
  · obtain ⟨p, a, m, c, rfl, _⟩ := h
    rfl
  · obtain ⟨p, a, m, c, rfl, M, h0, h1, hn, q⟩ := h
    refine ⟨_, pss_cons (ps_expr (pe_methC (pv 0) T.c_Memory T.m_Memory_check_lasting (ok_check_lasting T) hr (pa_cons (pv 1) pa_nil)))
      (pss_one (ps_ret (pe_ix ix_list (pe_ix ix_list (pe_fld (pv 0) rfl) (pv 1) (fun _ _ => rfl)) pe_int (fun _ _ => rfl)))), ?_⟩
    obtain ⟨xs, hx, hr2⟩ := M.tr c (by omega) h1
    obtain ⟨x, ha, hv⟩ := head_of hr2 hn
    refine ⟨_, rfl, p, _, _, rfl, M.ob, mem_no _ _ (by decide +kernel), _, rfl, p, a, m, c, rfl, M, h0, h1, ?_⟩
    refine ⟨_, rfl, p, _, _, _, _, rfl, M.ob, T.c_Memory, T.n_Memory_trails, memF_trails _ _, _, rfl, _, _, _, _, rfl, rfl, SqL.of M.tl, Tl_at (by omega) h1, _, _, _, _, rfl, rfl, SqL.of hx, ha, ?_⟩
    exact q x hv
def spTrail (K : PySem.W.Frag) : Sp := fun vs H Q _ => ∃ (p : Addr) (a : MA) (m : Mem) (c : Int), vs = [.ref p, .int c] ∧ MemA K H p a m ∧ 4 ≤ c ∧ c < 201 ∧ ∀ xs l, All2 (RT H) (m.tr c) xs → H l = none → Q (.ref l) (upd H l (.lst xs))
theorem ok_trail (T : Tx w K mg) : Cal P w K mg base 5 (fM K "trail") ["self", "cell"] (spTrail K) := by
  refine mkCal T.F_Memory_trail sc_Memory_trail (fun vs H Q E h => ?_) (fun _ _ _ _ _ _ us hl => match us, hl with | [_, _], _ => rfl) fun cdv A outer s H vs Q E hr h => ?_
  · obtain ⟨p, a, m, c, rfl, _⟩ := h
    rfl
  · obtain ⟨p, a, m, c, rfl, M, h0, h1, q⟩ := h
    refine ⟨_, pss_cons (ps_expr (pe_methC (pv 0) T.c_Memory T.m_Memory_check_lasting (ok_check_lasting T) hr (pa_cons (pv 1) pa_nil)))
      (pss_one (ps_ret (pe_callTy call_list_of (by rfl) T.f_list (by decide +kernel) (pa_cons (pe_ix ix_list (pe_fld (pv 0) rfl) (pv 1) (fun _ _ => rfl)) pa_nil)))), ?_⟩
    obtain ⟨xs, hx, hr2⟩ := M.tr c (by omega) h1
    refine ⟨_, rfl, p, _, _, rfl, M.ob, mem_no _ _ (by decide +kernel), _, rfl, p, a, m, c, rfl, M, h0, h1, ?_⟩
    refine ⟨_, rfl, p, _, _, _, _, rfl, M.ob, T.c_Memory, T.n_Memory_trails, memF_trails _ _, _, rfl, _, _, _, _, rfl, rfl, SqL.of M.tl, Tl_at (by omega) h1, _, _, rfl, .inl (SqL.of hx), fun l hl => ?_⟩
    exact q xs l hr2 hl
/-! ### give -/
def spGive (K : PySem.W.Frag) : Sp := fun vs H Q _ => ∃ (p : Addr) (a : MA) (m : Mem) (c : Int) (v : TV) (x : V), vs = [.ref p, .int c, x] ∧ MemA K H p a m ∧ 4 ≤ c ∧ c < 201 ∧ RT H v x ∧ (m.tr c).length ≤ 200000 ∧
  ∀ H', MemA K H' p a (m.give c v) → Stp (FM p a) H (FM p a) H' → Q .non H'
theorem ok_give (T : Tx w K mg) : Cal P w K mg base 4 (fM K "give") ["self", "cell", "value"] (spGive K) := by
  refine mkCal T.F_Memory_give sc_Memory_give (fun vs H Q E h => ?_) (fun _ _ _ _ _ _ us hl => match us, hl with | [_, _, _], _ => rfl) fun cdv A outer s H vs Q E hr h => ?_
  · obtain ⟨p, a, m, c, v, x, rfl, _⟩ := h
    rfl
  · obtain ⟨p, a, m, c, v, x, rfl, M, h0, h1, hv, hz, q⟩ := h
    refine ⟨_, pss_one (ps_if (pt_val (pe_methC (pe_fld (pv 0) rfl) T.c_Layout T.m_Layout_is_lasting (ok_is_lasting T) hr (pa_cons (pv 1) pa_nil)))
      (pss_one (ps_expr (pe_bm PySem.F.plainAttrs_list PySem.F.slot_list_append PySem.F.type_list_append mt_append (pe_ix ix_list (pe_fld (pv 0) rfl) (pv 1) (fun _ _ => rfl)) (pa_cons (pv 2) pa_nil)))) pss_never), ?_⟩
    obtain ⟨ldx, hl⟩ := M.la
    obtain ⟨xs, hx, hr2⟩ := M.tr c (by omega) h1
    refine ⟨_, rfl, p, _, _, _, _, rfl, M.ob, T.c_Memory, T.n_Memory_layout, memF_lay _ _, a.lay, ldx, _, rfl, hl, lay_no (by decide +kernel), _, rfl, a.lay, c, rfl, ⟨ldx, hl⟩, true, ?_, ?_⟩
    · rw [decide_eq_true h0, decide_eq_true h1]; rfl
    · refine iteT ?_
      have hz2 : xs.length < sizeLine := by rw [← hr2.len]; exact Nat.lt_of_le_of_lt hz (by decide)
      refine ⟨_, rfl, p, _, _, _, _, rfl, M.ob, T.c_Memory, T.n_Memory_trails, memF_trails _ _, _, rfl, _, _, _, _, rfl, rfl, SqL.of M.tl, Tl_at (by omega) h1, .inl ⟨rfl, _, SqL.of hx⟩, _, rfl, _, _, _, rfl, rfl, hx, hz2, ?_⟩
      obtain ⟨M', S'⟩ := M.app (by omega) h1 hx hv
      exact q _ M' S'
end
end Dk

set_option Elab.async false
set_option linter.all false
set_option maxRecDepth 100000
set_option maxHeartbeats 4000000
namespace Dk
open PySem PySem.Spec PyProof.Rows L2
open DkM (TV Mem DS Req Ent Deed upC upC_same upC_ne)
/-! ### notes -/
def Nk (m : Mem) : Prop := ∀ u c, m.nt u c ≠ none → 7 ≤ c ∧ c ≤ 63
theorem Nk.of {m : Mem} (S : DkM.Sz m) : Nk m := fun u c h => by
  have := S.nk u c h
  omega
def keyI : Key → Int
  | .inl c => c
  | .inr _ => 0
theorem putK_old {kvs : List (Key × V)} {k : Key} {v u : V} (h : valV kvs k = some u) : putK kvs k v = kvs.map fun kv => if kv.1 = k then (kv.1, v) else kv := by
  unfold putK
  rw [if_pos (by rw [valV_any, h]; rfl)]
theorem valV_mem {kvs : List (Key × V)} {k : Key} (h : k ∈ kvs.map (·.1)) : (valV kvs k).isSome = true := by
  rw [← valV_any]
  obtain ⟨q, hq, e⟩ := List.mem_map.mp h
  exact List.any_eq_true.mpr ⟨q, hq, decide_eq_true e⟩
theorem NtR.put {kvs : List (Key × V)} {f : Int → Option Int} (h : NtR kvs f) (c v : Int) : NtR (putK kvs (Sum.inl c : Key) (.int v)) (upC f c (some v)) := by
  obtain ⟨h1, h2, h3⟩ := h
  refine ⟨?_, ?_, fun d => ?_⟩
  · cases e : valV kvs (Sum.inl c : Key) with
    | none =>
      rw [putK_new _ e, List.map_append]
      refine List.nodup_append.mpr ⟨h1, by simp, ?_⟩
      intro a ha b hb eab
      have hb : b = (Sum.inl c : Key) := by simpa using hb
      have := valV_mem (kvs := kvs) (k := (Sum.inl c : Key)) (by rw [← hb, ← eab]; exact ha)
      rw [e] at this; cases this
    | some u =>
      rw [putK_old e, List.map_map]
      have : ((fun x : Key × V => x.1) ∘ fun kv : Key × V => if kv.1 = (Sum.inl c : Key) then (kv.1, V.int v) else kv) = fun x => x.1 := by
        funext x
        show (if x.1 = (Sum.inl c : Key) then (x.1, V.int v) else x).1 = x.1
        split <;> rfl
      rw [this]; exact h1
  · intro q hq
    cases e : valV kvs (Sum.inl c : Key) with
    | none =>
      rw [putK_new _ e] at hq
      rcases List.mem_append.mp hq with hq | hq
      · exact h2 q hq
      · have : q = ((Sum.inl c : Key), V.int v) := by simpa using hq
        exact ⟨c, by rw [this]⟩
    | some u =>
      rw [putK_old e] at hq
      obtain ⟨x, hx, rfl⟩ := List.mem_map.mp hq
      obtain ⟨d, hd⟩ := h2 x hx
      refine ⟨d, ?_⟩
      split
      · exact hd
      · exact hd
  · rw [valV_put]
    by_cases e : d = c
    · subst e
      rw [if_pos rfl, upC_same]; rfl
    · rw [if_neg (fun z => e (Sum.inl.inj z)), upC_ne e]
      exact h3 d
theorem NtR.ks {kvs : List (Key × V)} {f : Int → Option Int} (h : NtR kvs f) : kvs.map (·.1) = (kvs.map fun q => keyI q.1).map Sum.inl ∧ (kvs.map fun q => keyI q.1).Nodup ∧ ∀ c, c ∈ (kvs.map fun q => keyI q.1) ↔ f c ≠ none := by
  obtain ⟨h1, h2, h3⟩ := h
  have e : kvs.map (·.1) = (kvs.map fun q => keyI q.1).map Sum.inl := by
    rw [List.map_map]
    apply List.map_congr_left
    intro q hq
    obtain ⟨c, hc⟩ := h2 q hq
    show q.1 = Sum.inl (keyI q.1)
    rw [hc]; rfl
  refine ⟨e, ?_, fun c => ⟨fun hc z => ?_, fun hc => ?_⟩⟩
  · rw [e] at h1
    have h1' := List.nodup_iff_pairwise_ne.mp h1
    rw [List.pairwise_map] at h1'
    exact List.nodup_iff_pairwise_ne.mpr (h1'.imp fun hne z => hne (by rw [z]))
  · have : (Sum.inl c : Key) ∈ kvs.map (·.1) := by rw [e]; exact List.mem_map.mpr ⟨c, hc, rfl⟩
    have := valV_mem this
    rw [h3 c, z] at this; cases this
  · have : (valV kvs (Sum.inl c : Key)).isSome = true := by
      rw [h3 c]
      cases q : f c with
      | none => exact absurd q hc
      | some v => rfl
    rw [← valV_any] at this
    obtain ⟨q, hq, z⟩ := List.any_eq_true.mp this
    refine List.mem_map.mpr ⟨q, hq, ?_⟩
    rw [of_decide_eq_true z]; rfl
theorem NtR.len {kvs : List (Key × V)} {f : Int → Option Int} (h : NtR kvs f) (hk : ∀ c, f c ≠ none → 7 ≤ c ∧ c ≤ 63) : kvs.length ≤ 57 := by
  obtain ⟨_, h1, h2⟩ := h.ks
  have nd : ((kvs.map fun q => keyI q.1).map fun c => (c - 7).toNat).Nodup := by
    have h1' := List.nodup_iff_pairwise_ne.mp h1
    apply List.nodup_iff_pairwise_ne.mpr
    rw [List.pairwise_map]
    refine List.Pairwise.imp_of_mem (fun {a b} ha hb hne z => hne ?_) h1'
    have := hk a ((h2 a).mp ha)
    have := hk b ((h2 b).mp hb)
    omega
  have := DkM.nodup_lt 57 _ nd fun x hx => by
    obtain ⟨c, hc, rfl⟩ := List.mem_map.mp hx
    have := hk c ((h2 c).mp hc)
    omega
  rw [List.length_map, List.length_map] at this
  exact this
theorem MemAt.ext {C CL : Addr} {H : Hp} {p : Addr} {a : MA} {m m' : Mem} (M : MemAt C CL H p a m) (hc : m'.cnt = m.cnt) (ht : ∀ c, 0 ≤ c → c < 201 → m'.tr c = m.tr c) (hn : ∀ t, 0 ≤ t → t < 3 → ∀ x, m'.nt t x = m.nt t x) : MemAt C CL H p a m' where
  ob := by rw [hc]; exact M.ob
  la := M.la
  rw := by rw [hc]; exact M.rw
  tl := M.tl
  tr := fun c h0 h => by rw [ht c h0 h]; exact M.tr c h0 h
  nl := M.nl
  nt := fun t h0 h => by
    obtain ⟨kvs, h1, h2, h3, h4⟩ := M.nt t h0 h
    exact ⟨kvs, h1, h2, h3, fun x => by rw [hn t h0 h]; exact h4 x⟩
  pl := M.pl
  rL := M.rL
  rN := M.rN
  LN := M.LN
  Tr := M.Tr
  Ti := M.Ti
  Di := M.Di
theorem cut_from (xs : List V) (s : Nat) : cutV xs (some (s : Int)) none = xs.drop s := by
  unfold cutV
  rw [HT.sIx_nat, HT.sIx_none]
  rcases Nat.le_total s xs.length with h | h
  · rw [Nat.min_eq_left h]
    exact List.take_of_length_le (by rw [List.length_drop]; exact Nat.le_refl _)
  · rw [Nat.min_eq_right h, List.drop_eq_nil_of_le (Nat.le_refl _), List.drop_eq_nil_of_le h, List.take_nil]
theorem cut_to1 (xs : List V) : cutV xs none (some 1) = xs.take 1 := by
  unfold cutV
  rw [show HT.sIx xs.length xs.length (some (1 : Int)) = min 1 xs.length from HT.sIx_nat xs.length xs.length 1, HT.sIx_none, List.drop_zero, Nat.sub_zero]
  cases xs with
  | nil => rfl
  | cons x r => rw [show min 1 (x :: r).length = 1 by rw [List.length_cons]; omega]
section
variable {P : Program} {w : World} {K : PySem.W.Frag} {mg : Str → Option Value} {base : Heap}
/-! ### shorten -/
def ntS (m : Mem) (c : Int) (s : Nat) (i : Nat) : Int → Int → Option Int := fun t x => if x = c ∧ 0 ≤ t ∧ t < (i : Int) then (m.nt t x).map (fun p => max 0 (p - (s : Int))) else m.nt t x
def spShort (K : PySem.W.Frag) : Sp := fun vs H Q _ => ∃ (p : Addr) (a : MA) (m : Mem) (c k : Int), vs = [.ref p, .int c, .int k] ∧ MemA K H p a m ∧ 0 ≤ c ∧ c < 201 ∧ Nk m ∧
  ∀ H' a', MemA K H' p a' (m.shorten c k) → Stp (FM p a) H (FM p a') H' → Q .non H'
theorem ok_shorten (T : Tx w K mg) : Cal P w K mg base 1 (fM K "shorten") ["self", "cell", "steps"] (spShort K) := by
  refine mkCal T.F_Memory_shorten sc_Memory_shorten (fun vs H Q E h => ?_) (fun _ _ _ _ _ _ us hl => match us, hl with | [_, _, _], _ => rfl) fun cdv A outer s H vs Q E hr h => ?_
  · obtain ⟨p, a, m, c, k, rfl, _⟩ := h
    rfl
  · obtain ⟨p, a, m, c, k, rfl, M, h0, h1, nk, q⟩ := h
    have hu := hu_of hr
    refine ⟨_, pss_cons (ps_set (i := 2) sc_Memory_shorten.nd rfl (Or.inl rfl) (pe_callB (call_max2 rfl) (by rfl) T.f_max (by decide +kernel) (pa_cons pe_int (pa_cons
          (pe_callB (call_min2 rfl) (by rfl) T.f_min (by decide +kernel) (pa_cons (pv 2) (pa_cons (pe_op op_sub (pe_callB call_len_seq (by rfl) T.f_len (by decide +kernel) (pa_cons (pe_ix ix_list (pe_fld (pv 0) rfl) (pv 1) (fun _ _ => rfl)) pa_nil)) pe_int) pa_nil))) pa_nil))))
      (pss_cons (ps_asg (pe_slice sl_list (pe_ix ix_list (pe_fld (pv 0) rfl) (pv 1) (fun _ _ => rfl)) (po_some (pv 2)) po_none) (pg_sub (pe_fld (pv 0) rfl) (pv 1) set_list))
      (pss_one (ps_for PassesOwn.never rfl (pi_list (pe_fld (pv 0) rfl)) (pg_name (i := 3) sc_Memory_shorten.nd rfl (Or.inl rfl))
        (pss_one (ps_if (pt_cmp (pc_din hu (pv 1) (pv 3)))
          (pss_one (ps_dput hu (pv 3) (pv 1) (pe_callB (call_max2 rfl) (by rfl) T.f_max (by decide +kernel) (pa_cons pe_int (pa_cons (pe_op op_sub (pe_dget hu (pv 3) (pv 1) (fun _ _ => rfl)) (pv 2)) pa_nil))) rfl)) pss_nil))))), ?_⟩
    obtain ⟨xs, hx, hr2⟩ := M.tr c h0 h1
    -- steps
    refine ⟨_, rfl, _, rfl, p, _, _, _, _, rfl, M.ob, T.c_Memory, T.n_Memory_trails, memF_trails _ _, _, rfl, _, _, _, _, rfl, rfl, SqL.of M.tl, Tl_at h0 h1, _, _, rfl, .inl (SqL.of hx), _, _, rfl, rfl, _, _, rfl, _, _, rfl, ?_⟩
    have es : (if (if (xs.length : Int) - 1 < k then (xs.length : Int) - 1 else k) > 0 then (if (xs.length : Int) - 1 < k then (xs.length : Int) - 1 else k) else 0) = ((DkM.clip k (m.tr c).length : Nat) : Int) := by
      rw [hr2.len]
      unfold DkM.clip
      split <;> split <;> omega
    rw [es]
    generalize hs : DkM.clip k (m.tr c).length = st
    -- the slice, stored
    refine ⟨_, rfl, p, _, _, _, _, rfl, M.ob, T.c_Memory, T.n_Memory_trails, memF_trails _ _, _, rfl, _, _, _, _, rfl, rfl, SqL.of M.tl, Tl_at h0 h1, _, rfl, _, rfl, _, xs, rfl, SqL.of hx, fun qa hq => ?_⟩
    rw [cut_from]
    have keep : ∀ x o, H x = some o → (upd H qa (.lst (xs.drop st))) x = some o := fun x o e => by rw [upd_ne (ne_of_none e hq)]; exact e
    refine ⟨_, rfl, p, _, _, _, _, rfl, keep _ _ M.ob, T.c_Memory, T.n_Memory_trails, memF_trails _ _, _, rfl, _, _, _, _, rfl, rfl, keep _ _ M.tl, ixN_of h0 (by rw [Tl_len]; exact h1), ?_⟩
    rw [Tl_set h0 h1]
    obtain ⟨M1, S1⟩ := M.setT h0 h1 hq (hr2.drop st)
    generalize (upd (upd H qa (.lst (xs.drop st))) a.L (.lst (Tl (upC a.T c qa)))) = H1 at M1 S1
    -- the notes
    refine ⟨_, rfl, p, _, _, _, _, rfl, M1.ob, T.c_Memory, T.n_Memory_notes, memF_notes _ _, _, rfl, ⟨_, SqL.of M1.nl⟩, for_list (K := K) (xs := Nl a.Dn)
      (fun i σ H3 => ∃ y3, σ = [some (.ref p), some (.int c), some (.int (st : Int)), y3] ∧ MemA K H3 p { a with T := upC a.T c qa } { cnt := m.cnt, tr := upC m.tr c ((m.tr c).drop st), nt := ntS m c st i } ∧ Stp (FM p a) H (FM p { a with T := upC a.T c qa }) H3)
      ⟨none, rfl, M1.ext rfl (fun _ _ _ => rfl) (fun t t0 t3 x => ?_), S1⟩ (fun i σ H3 _ ⟨_, _, M3, _⟩ => SqL.of M3.nl) ?_ ?_⟩
    · show ntS m c st 0 t x = m.nt t x
      unfold ntS
      rw [if_neg (by omega)]
    · rintro i x σ H3 hi ⟨y3, rfl, M3, S3⟩
      have hi3 : i < 3 := (List.getElem?_eq_some_iff.mp hi).1
      have hx3 : x = .ref (a.Dn (i : Int)) := by
        have := Nl_at (D := a.Dn) (t := (i : Int)) (by omega) (by omega)
        have h2 := atI_nat hi
        rw [this] at h2
        exact (Option.some.inj h2).symm
      subst hx3
      obtain ⟨kvs, hk, nr⟩ := M3.nt (i : Int) (by omega) (by omega)
      have hnt : ∀ y, ntS m c st i (i : Int) y = m.nt (i : Int) y := fun y => by
        unfold ntS
        rw [if_neg (by omega)]
      refine ⟨_, rfl, _, rfl, _, _, rfl, DGet.k (k := Sum.inl c) hk, _, rfl, ?_⟩
      have hv := nr.2.2 c
      rw [show ({ cnt := m.cnt, tr := upC m.tr c ((m.tr c).drop st), nt := ntS m c st i } : Mem).nt (i : Int) c = m.nt (i : Int) c from hnt c] at hv
      have nxt : ∀ t, 0 ≤ t → t < 3 → ∀ y, t ≠ (i : Int) → ntS m c st (i + 1) t y = ntS m c st i t y := fun t t0 t3 y ne => by
        unfold ntS
        by_cases z : y = c ∧ 0 ≤ t ∧ t < (i : Int)
        · rw [if_pos z, if_pos ⟨z.1, z.2.1, by omega⟩]
        · rw [if_neg z, if_neg (by omega)]
      cases hm : m.nt (i : Int) c with
      | none =>
        rw [hm] at hv
        have hv : valV kvs (Sum.inl c : Key) = none := hv
        rw [hv]
        refine iteF ⟨_, rfl, M3.ext rfl (fun _ _ _ => rfl) fun t t0 t3 y => ?_, S3⟩
        show ntS m c st (i + 1) t y = ntS m c st i t y
        by_cases e : t = (i : Int)
        · subst e
          unfold ntS
          by_cases ey : y = c
          · subst ey
            rw [if_pos ⟨rfl, by omega, by omega⟩, if_neg (by omega), hm]; rfl
          · rw [if_neg (by omega), if_neg (by omega)]
        · exact nxt t t0 t3 y e
      | some pl =>
        rw [hm] at hv
        have hv : valV kvs (Sum.inl c : Key) = some (V.int pl) := hv
        rw [hv]
        refine iteT ?_
        have nlen : kvs.length ≤ 57 := nr.len fun d hd => nk (i : Int) d (by
          have hd : ntS m c st i (i : Int) d ≠ none := hd
          rw [hnt d] at hd; exact hd)
        refine ⟨_, rfl, _, rfl, _, _, rfl, (by rw [← hv]; exact DGet.k (k := Sum.inl c) hk), _, rfl, _, _, rfl, rfl, _, _, rfl, _, rfl, _, rfl, _, _, rfl, DPut.k (k := Sum.inl c) hk (Nat.lt_of_le_of_lt nlen (by decide)), ?_⟩
        obtain ⟨M4, S4⟩ := M3.setN (t := (i : Int)) (by omega) (by omega) (nr.put c (if pl - (st : Int) > 0 then pl - (st : Int) else 0))
        refine ⟨_, rfl, M4.ext rfl (fun _ _ _ => rfl) fun t t0 t3 y => ?_, S3.trans S4⟩
        show ntS m c st (i + 1) t y = upC (ntS m c st i) (i : Int) (upC (ntS m c st i (i : Int)) c (some (if pl - (st : Int) > 0 then pl - (st : Int) else 0))) t y
        by_cases e : t = (i : Int)
        · subst e
          rw [upC_same]
          by_cases ey : y = c
          · subst ey
            rw [upC_same]
            unfold ntS
            rw [if_pos ⟨rfl, by omega, by omega⟩, hm]
            show some (max 0 (pl - (st : Int))) = _
            congr 1
            split <;> omega
          · rw [upC_ne ey]
            unfold ntS
            rw [if_neg (by omega), if_neg (by omega)]
        · rw [upC_ne e]
          exact nxt t t0 t3 y e
    · rintro σ H3 ⟨y3, rfl, M3, S3⟩
      refine q H3 _ (M3.ext rfl (fun d d0 d1 => ?_) fun t t0 t3 y => ?_) S3
      · show upC m.tr c ((m.tr c).drop (DkM.clip k (m.tr c).length)) d = upC m.tr c ((m.tr c).drop st) d
        rw [hs]
      · show (if y = c then (m.nt t y).map (fun p => max 0 (p - (DkM.clip k (m.tr c).length : Int))) else m.nt t y) = ntS m c st 3 t y
        rw [hs]
        unfold ntS
        by_cases e : y = c
        · rw [if_pos e, if_pos ⟨e, t0, by omega⟩]
        · rw [if_neg e, if_neg (by omega)]
end
end Dk

set_option Elab.async false
set_option linter.all false
set_option maxRecDepth 100000
set_option maxHeartbeats 4000000
namespace Dk
open PySem PySem.Spec PyProof.Rows L2
open DkM (TV Mem DS Req Ent Deed upC upC_same upC_ne)
/-! ### the fold of a fence -/
def shL (pl : Int → Option Int) (ys : List Int) (m : Mem) : Mem := ys.foldl (fun m c => m.shorten c ((pl c).getD 0)) m
theorem shL_eq (pl : Int → Option Int) : ∀ (ys : List Int) (m : Mem), ys.Nodup → (shL pl ys m).cnt = m.cnt ∧
    (∀ c, (shL pl ys m).tr c = if c ∈ ys then (m.tr c).drop (DkM.clip ((pl c).getD 0) (m.tr c).length) else m.tr c) ∧
    ∀ u c, (shL pl ys m).nt u c = if c ∈ ys then (m.nt u c).map (fun p => max 0 (p - (DkM.clip ((pl c).getD 0) (m.tr c).length : Int))) else m.nt u c
  | [], m, _ => ⟨rfl, fun c => by rw [if_neg (by simp)]; rfl, fun u c => by rw [if_neg (by simp)]; rfl⟩
  | y :: ys, m, nd => by
    obtain ⟨n1, n2⟩ := List.nodup_cons.mp nd
    obtain ⟨h1, h2, h3⟩ := shL_eq pl ys (m.shorten y ((pl y).getD 0)) n2
    have tr0 : ∀ c, (m.shorten y ((pl y).getD 0)).tr c = if c = y then (m.tr y).drop (DkM.clip ((pl y).getD 0) (m.tr y).length) else m.tr c := fun c => rfl
    have nt0 : ∀ u c, (m.shorten y ((pl y).getD 0)).nt u c = if c = y then (m.nt u c).map (fun p => max 0 (p - (DkM.clip ((pl y).getD 0) (m.tr y).length : Int))) else m.nt u c := fun u c => rfl
    refine ⟨h1, fun c => ?_, fun u c => ?_⟩
    · show (shL pl ys (m.shorten y ((pl y).getD 0))).tr c = _
      rw [h2, tr0]
      by_cases e : c = y
      · subst e
        rw [if_neg n1, if_pos rfl, if_pos List.mem_cons_self]
      · rw [if_neg e]
        by_cases hc : c ∈ ys
        · rw [if_pos hc, if_pos (List.mem_cons_of_mem _ hc)]
        · rw [if_neg hc, if_neg fun z => by
            rcases List.mem_cons.mp z with z | z
            · exact e z
            · exact hc z]
    · show (shL pl ys (m.shorten y ((pl y).getD 0))).nt u c = _
      rw [h3, tr0, nt0]
      by_cases e : c = y
      · subst e
        rw [if_neg n1, if_pos rfl, if_pos List.mem_cons_self]
      · rw [if_neg e, if_neg e]
        by_cases hc : c ∈ ys
        · rw [if_pos hc, if_pos (List.mem_cons_of_mem _ hc)]
        · rw [if_neg hc, if_neg fun z => by
            rcases List.mem_cons.mp z with z | z
            · exact e z
            · exact hc z]
theorem shL_nk (pl : Int → Option Int) : ∀ (ys : List Int) (m : Mem), Nk m → Nk (shL pl ys m)
  | [], m, h => h
  | y :: ys, m, h => shL_nk pl ys (m.shorten y ((pl y).getD 0)) fun u c hc => h u c fun z => hc (by
      show (if c = y then (m.nt u c).map _ else m.nt u c) = none
      rw [z]
      split <;> rfl)
theorem shL_snoc (pl : Int → Option Int) (ys : List Int) (y : Int) (m : Mem) : shL pl (ys ++ [y]) m = (shL pl ys m).shorten y ((pl y).getD 0) := by unfold shL; rw [List.foldl_append]; rfl
section
variable {P : Program} {w : World} {K : PySem.W.Frag} {mg : Str → Option Value} {base : Heap}
def spFence (K : PySem.W.Frag) : Sp := fun vs H Q _ => ∃ (p : Addr) (a : MA) (m : Mem) (t : Int), vs = [.ref p, .int t] ∧ MemA K H p a m ∧ 0 ≤ t ∧ t < 3 ∧ Nk m ∧ (∀ u c q, m.nt u c = some q → 0 ≤ q) ∧
  ∀ H' a', MemA K H' p a' (m.fence t) → Stp (FM p a) H (FM p a') H' → Q .non H'
theorem ok_fence (T : Tx w K mg) : Cal P w K mg base 2 (fM K "fence") ["self", "thread"] (spFence K) := by
  refine mkCal T.F_Memory_fence sc_Memory_fence (fun vs H Q E h => ?_) (fun _ _ _ _ _ _ us hl => match us, hl with | [_, _], _ => rfl) fun cdv A outer s H vs Q E hr h => ?_
  · obtain ⟨p, a, m, t, rfl, _⟩ := h
    rfl
  · obtain ⟨p, a, m, t, rfl, M, t0, t3, nk, np, q⟩ := h
    have hu := hu_of hr
    refine ⟨_, pss_cons (ps_set (i := 2) sc_Memory_fence.nd rfl (Or.inl rfl) (pe_ix ix_list (pe_fld (pv 0) rfl) (pv 1) (fun _ _ => rfl)))
      (pss_cons (ps_asg pe_dnewK (pg_sub (pe_fld (pv 0) rfl) (pv 1) set_list))
      (pss_one (ps_for PassesOwn.never rfl (pi_list (pe_callB (call_sortedDI rfl) (by rfl) T.f_sorted (by decide +kernel) (pa_cons (pv 2) pa_nil))) (pg_name (i := 3) sc_Memory_fence.nd rfl (Or.inl rfl))
        (pss_one (ps_expr (pe_methC (pv 0) T.c_Memory T.m_Memory_shorten (ok_shorten T) hr (pa_cons (pv 3) (pa_cons (pe_dget hu (pv 2) (pv 3) (fun _ _ => rfl)) pa_nil)))))))), ?_⟩
    obtain ⟨kvs, hk, nr⟩ := M.nt t t0 t3
    refine ⟨_, rfl, p, _, _, _, _, rfl, M.ob, T.c_Memory, T.n_Memory_notes, memF_notes _ _, _, rfl, _, _, _, _, rfl, rfl, SqL.of M.nl, Nl_at t0 t3, ?_⟩
    intro d0 hd0
    have keep : ∀ x o, H x = some o → (upd H d0 (.dK [])) x = some o := fun x o e => by rw [upd_ne (ne_of_none e hd0)]; exact e
    refine ⟨_, rfl, p, _, _, _, _, rfl, keep _ _ M.ob, T.c_Memory, T.n_Memory_notes, memF_notes _ _, _, rfl, _, _, _, _, rfl, rfl, keep _ _ M.nl, ixN_of t0 (by show t < ((3 : Nat) : Int); omega), ?_⟩
    rw [Nl_set t0 t3]
    obtain ⟨M1, S1⟩ := M.newN t0 t3 hd0
    have hk1 : (upd (upd H d0 (.dK [])) a.N (.lst (Nl (upC a.Dn t d0)))) (a.Dn t) = some (.dK kvs) := by
      rw [upd_ne (ne_of hk M.nl (fun e => by cases e))]
      exact keep _ _ hk
    have out1 : ¬ FM p { a with Dn := upC a.Dn t d0 } (a.Dn t) := fun h => by
      rcases h with e | e | e | e | e | ⟨c, c0, c1, e⟩ | ⟨u, u0, u3, e⟩
      · exact ne_of hk M.ob (fun e => by cases e) e
      · obtain ⟨dx, hl⟩ := M.la
        exact ne_of hk hl (fun e => by cases e) e
      · obtain ⟨rs, hl, _⟩ := M.rw
        exact ne_of hk hl (fun e => by cases e) e
      · exact ne_of hk M.tl (fun e => by cases e) e
      · exact ne_of hk M.nl (fun e => by cases e) e
      · obtain ⟨xs, hl, _⟩ := M.tr c c0 c1
        exact ne_of hk hl (fun e => by cases e) e
      · have e : a.Dn t = upC a.Dn t d0 u := e
        by_cases c : u = t
        · rw [c, upC_same] at e
          rw [e, hd0] at hk; cases hk
        · rw [upC_ne c] at e
          exact c (M.Di t u t0 t3 u0 u3 e).symm
    generalize (upd (upd H d0 (.dK [])) a.N (.lst (Nl (upC a.Dn t d0)))) = H1 at M1 S1 hk1
    obtain ⟨k1, k2, k3⟩ := nr.ks
    have klen : (kvs.map fun q => keyI q.1).length ≤ 57 := by
      rw [List.length_map]
      exact nr.len fun d hd => nk t d hd
    refine ⟨_, rfl, _, kvs, _, rfl, .of hk1, k1, by omega, fun ys l perm srt hl => ?_⟩
    have ynd : ys.Nodup := perm.nodup_iff.mpr k2
    have hkl : (upd H1 l (.lst (ys.map V.int))) (a.Dn t) = some (.dK kvs) := by rw [upd_ne (ne_of_none hk1 hl)]; exact hk1
    have Ml := M1.same (same_new (o := .lst (ys.map V.int)) hl)
    have Sl : Stp (FM p a) H (FM p { a with Dn := upC a.Dn t d0 }) (upd H1 l (.lst (ys.map V.int))) := S1.trans (Stp.new hl)
    have out2 : ¬ FM p { a with Dn := upC a.Dn t d0 } l := fun h => by
      obtain ⟨o, ho, _⟩ := FM.some M1 h
      rw [hl] at ho; cases ho
    refine ⟨l, rfl, ⟨_, SqL.of upd_same⟩, for_list (K := K) (xs := ys.map V.int)
      (fun i σ H3 => ∃ y3 a3, σ = [some (.ref p), some (.int t), some (.ref (a.Dn t)), y3] ∧ MemA K H3 p a3 (shL (m.nt t) (ys.take i) { m with nt := upC m.nt t (fun _ => none) }) ∧ Stp (FM p a) H (FM p a3) H3 ∧
        (H3 l = some (.lst (ys.map V.int)) ∧ ¬ FM p a3 l) ∧ (H3 (a.Dn t) = some (.dK kvs) ∧ ¬ FM p a3 (a.Dn t)))
      ⟨none, _, rfl, Ml, Sl, ⟨upd_same, out2⟩, hkl, out1⟩ (fun i σ H3 _ ⟨_, _, _, _, _, ⟨hl3, _⟩, _⟩ => SqL.of hl3) ?_ ?_⟩
    · rintro i x σ H3 hi ⟨y3, a3, rfl, M3, S3, ⟨hl3, ol⟩, hk3, ok⟩
      rw [List.getElem?_map] at hi
      cases hy : ys[i]? with
      | none => rw [hy] at hi; cases hi
      | some y =>
        rw [hy] at hi
        have hx : V.int y = x := Option.some.inj hi
        subst hx
        have ym : m.nt t y ≠ none := (k3 y).mp (perm.mem_iff.mp (List.mem_of_getElem? hy))
        cases hp : m.nt t y with
        | none => exact absurd hp ym
        | some pl =>
          have hv : valV kvs (Sum.inl y : Key) = some (V.int pl) := by rw [nr.2.2 y, hp]; rfl
          have hyr := nk t y ym
          refine ⟨_, rfl, p, _, _, rfl, M3.ob, mem_no _ _ (by decide +kernel), _, rfl, _, rfl, _, rfl, _, _, rfl, (by rw [← hv]; exact DGet.k (k := Sum.inl y) hk3), ?_⟩
          refine ⟨p, a3, _, y, pl, rfl, M3, by omega, by omega, shL_nk _ _ _ fun u c hc => ?_, fun H4 a4 M4 S4 => ?_⟩
          · by_cases e : u = t
            · subst e
              have hc : upC m.nt u (fun _ => none) u c ≠ none := hc
              rw [upC_same] at hc
              exact absurd rfl hc
            · have hc : upC m.nt t (fun _ => none) u c ≠ none := hc
              rw [upC_ne e] at hc
              exact nk u c hc
          · refine ⟨_, a4, rfl, ?_, S3.trans S4, S4.out hl3 ol, S4.out hk3 ok⟩
            rw [List.take_add_one, hy]
            show MemA K H4 p a4 (shL (m.nt t) (ys.take i ++ [y]) _)
            rw [shL_snoc, hp]
            exact M4
    · rintro σ H3 ⟨y3, a3, rfl, M3, S3, _, _⟩
      rw [List.length_map, List.take_length] at M3
      obtain ⟨e1, e2, e3⟩ := shL_eq (m.nt t) ys { m with nt := upC m.nt t (fun _ => none) } ynd
      have memy : ∀ c, c ∈ ys ↔ m.nt t c ≠ none := fun c => by rw [perm.mem_iff]; exact k3 c
      refine q H3 a3 (M3.ext (by rw [e1]; rfl) (fun c c0 c1 => ?_) fun u u0 u3 c => ?_) S3
      · rw [e2]
        show (m.tr c).drop (m.fenceS t c) = _
        unfold DkM.Mem.fenceS
        cases hp : m.nt t c with
        | none => rw [if_neg fun z => (memy c).mp z hp]; rfl
        | some pl => rw [if_pos ((memy c).mpr (by rw [hp]; intro z; cases z))]; rfl
      · rw [e3]
        show (upC m.nt t (fun _ => none) u c).map (fun p => max 0 (p - ((m.fenceS t c : Nat) : Int))) = if c ∈ ys then (upC m.nt t (fun _ => none) u c).map _ else upC m.nt t (fun _ => none) u c
        unfold DkM.Mem.fenceS
        cases hp : m.nt t c with
        | none =>
          rw [if_neg fun z => (memy c).mp z hp]
          by_cases e : u = t
          · rw [e, upC_same]; rfl
          · rw [upC_ne e]
            cases hq : m.nt u c with
            | none => rfl
            | some z =>
              have := np u c z hq
              show some (max 0 (z - ((0 : Nat) : Int))) = some z
              congr 1
              omega
        | some pl => rw [if_pos ((memy c).mpr (by rw [hp]; intro z; cases z))]; rfl
/-! ### drift -/
def spDrift (K : PySem.W.Frag) : Sp := fun vs H Q _ => ∃ (p : Addr) (a : MA) (m : Mem) (c k : Int), vs = [.ref p, .int c, .int k] ∧ MemA K H p a m ∧ 4 ≤ c ∧ c < 201 ∧ 0 ≤ k ∧ Nk m ∧
  ∀ H' a', MemA K H' p a' (m.shorten c k) → Stp (FM p a) H (FM p a') H' → Q .non H'
theorem ok_drift (T : Tx w K mg) : Cal P w K mg base 5 (fM K "drift") ["self", "cell", "steps"] (spDrift K) := by
  refine mkCal T.F_Memory_drift sc_Memory_drift (fun vs H Q E h => ?_) (fun _ _ _ _ _ _ us hl => match us, hl with | [_, _, _], _ => rfl) fun cdv A outer s H vs Q E hr h => ?_
  · obtain ⟨p, a, m, c, k, rfl, _⟩ := h
    rfl
  · obtain ⟨p, a, m, c, k, rfl, M, h0, h1, hk, nk, q⟩ := h
    refine ⟨_, pss_cons (ps_expr (pe_methC (pv 0) T.c_Memory T.m_Memory_check_lasting (ok_check_lasting T) hr (pa_cons (pv 1) pa_nil)))
      (pss_cons (ps_if (PW.pt (pw_or (pt_not (pt_val (pe_callB call_isi (by rfl) T.f_isinstance (by decide +kernel) (pa_cons (pv 2) (pa_cons (pe_bltn (v := .ty "int") (by rfl) T.f_int (by decide +kernel) rfl) pa_nil)))))
          (pw_or (pt_val (pe_callB call_isi (by rfl) T.f_isinstance (by decide +kernel) (pa_cons (pv 2) (pa_cons (pe_bltn (v := .ty "bool") (by rfl) T.f_bool (by decide +kernel) rfl) pa_nil))))
            (pw_or1 (pt_cmpR op_lt (pv 2) pe_int (nomark _)))))) (pss_one ps_never) pss_nil)
      (pss_one (ps_expr (pe_methC (pv 0) T.c_Memory T.m_Memory_shorten (ok_shorten T) (hr.mono (by decide)) (pa_cons (pv 1) (pa_cons (pv 2) pa_nil)))))), ?_⟩
    refine ⟨_, rfl, p, _, _, rfl, M.ob, mem_no _ _ (by decide +kernel), _, rfl, p, a, m, c, rfl, M, h0, h1, ?_⟩
    refine ⟨_, rfl, _, _, _, _, true, rfl, .ty _, .base (.int k), kit_ty (by decide +kernel), true, rfl, iteF ?_⟩
    refine ⟨_, rfl, _, _, _, _, false, rfl, .ty _, .base (.int k), kit_ty (by decide +kernel), false, rfl, iteF ?_⟩
    refine ⟨_, rfl, _, _, rfl, rfl, false, ?_, iteF ?_⟩
    · exact congrArg V.bl (decide_eq_false (by omega))
    · refine ⟨_, rfl, p, _, _, rfl, M.ob, mem_no _ _ (by decide +kernel), _, rfl, _, rfl, p, a, m, c, k, rfl, M, by omega, h1, nk, fun H' a' M' S' => ?_⟩
      exact q H' a' M' S'
end
end Dk

set_option Elab.async false
set_option linter.all false
set_option maxRecDepth 100000
set_option maxHeartbeats 4000000
namespace Dk
open PySem PySem.Spec PyProof.Rows L2
open DkM (TV Mem DS Req Ent Deed upC upC_same upC_ne)
/-! ### d.get(k) of a dict of the top -/
def tGetKd (K : PySem.W.Frag) (d : Addr) (to ty : TE) : TE := fun σ H Q => to σ H fun x H1 => x = .ref d ∧ ty σ H1 fun y H2 => ∃ (z : Str) (u : Value) (v : V), y = .str z ∧ PySem.W.nsIn K d z = some (some u) ∧ RelV v u ∧ Q v H2
section
variable {X : Cx} {o e : Expr} {apos cpos : Pos} {to ty : TE} {d : Addr} {es : Array DictEntry} {n : Nat}
theorem pe_getkd (D : KDict X.K X.w d es n) (ho : PE X o to) (he : PE X e ty) (m : M1 X o "get" apos e cpos) : PE X (.Call (.Attribute o "get" apos) [e] [] cpos) (tGetKd X.K d to ty) := by
  refine ⟨fun pins s σ H Q I h => ?_⟩
  refine wpAny_Call_method m.base m.few m.line PySem.F.plainAttrs_dict PySem.F.slot_dict_get PySem.F.type_dict_get (thn (ho.run pins s σ H _ I h) fun u s1 ⟨x, H1, I1, rx, ex, q1⟩ => ?_)
  subst ex
  obtain rfl : u = Value.ref d := rx
  refine ⟨kd_type D I1, fun b q => ?_, ?_⟩
  · cases q
    exact ⟨_, I1.kIn _ _ D.at_, rfl⟩
  · rw [m.trees]
    refine Calls.callWith_builtin rfl (Calls.evalArgs_plain (Calls.spliced_cons (thn (he.run pins s1 σ H1 _ I1 q1) fun iv s2 ⟨y, H2, I2, ry, z, u, v, ey, hn, rv, q2⟩ => Calls.spliced_nil ?_)))
    subst ey
    obtain ⟨t, rfl⟩ := ry
    refine call_meetsIn PySem.F.slot_dict_get (kd_type D I2) PySem.F.entry_dict_get (PySem.F.args_dict_get_2 _ _) (meets_dict_get (strKind X.prog X.w) d (PySem.strKind_is X.prog X.w z t) D.low) ⟨_, PySem.W.mapOf_K (prog := X.prog) I2.kIn D.at_ D.lit, ?_⟩
    rw [PySem.W.find_K D.at_ hn]
    exact ⟨v, H2, I2.tok _, rv, q2⟩
end
/-! ### requests -/
def kd : Req → Str
  | .read _ => "read"
  | .write _ _ => "write"
  | .swap _ _ _ => "swap"
  | .dec _ _ => "decide"
  | .flush _ => "flush"
  | .fence => "fence"
def cellR : Req → Int
  | .read c => c
  | .write c _ => c
  | .swap c _ _ => c
  | .dec c _ => c
  | .flush c => c
  | .fence => 0
/-- what a request asks of the memory -/
def ReqOk (m : Mem) : Req → Prop
  | .read c => 0 ≤ c ∧ c < 201 ∧ m.tr c ≠ []
  | .write c _ => 4 ≤ c ∧ c < 201 ∧ m.tr c ≠ []
  | .swap c o _ => 4 ≤ c ∧ c < 201 ∧ m.tr c ≠ [] ∧ flatT (m.last c) = true ∧ flatT o = true
  | .dec c _ => 4 ≤ c ∧ c < 201 ∧ m.tr c ≠ [] ∧ flatT (m.last c) = true
  | .flush c => (7 ≤ c ∧ c ≤ 10) ∨ (16 ≤ c ∧ c ≤ 63)
  | .fence => True
theorem strF {a b : Str} (h : (a == b) = false) : decide (V.str a = V.str b) = false := decide_eq_false fun e => by
  injection e with e
  rw [e] at h
  simp at h
theorem strT (a : Str) : decide (V.str a = V.str a) = true := decide_eq_true rfl
section
variable {P : Program} {w : World} {K : PySem.W.Frag} {mg : Str → Option Value} {base : Heap}
theorem Tx.len (T : Tx w K mg) {x : Str} {i : Int} (h : (x, He.Dv.int i) ∈ lens) : ∃ u, PySem.W.nsIn K (He.ga K "LENGTHS") x = some (some u) ∧ RelV (.int i) u := He.valsB_ok T.e h
def spChk (K : PySem.W.Frag) : Sp := fun vs H Q _ => ∃ (p : Addr) (a : MA) (m : Mem) (t : Int) (r : Req) (x : V), vs = [.ref p, .int t, x] ∧ MemA K H p a m ∧ 0 ≤ t ∧ t < 3 ∧ ReqR H r x ∧ ReqOk m r ∧ Q .non H
theorem ok_check_request (T : Tx w K mg) : Cal P w K mg base 5 (fM K "check_request") ["self", "thread", "request"] (spChk K) := by
  refine mkCal T.F_Memory_check_request sc_Memory_check_request (fun vs H Q E h => ?_) (fun _ _ _ _ _ _ us hl => match us, hl with | [_, _, _], _ => rfl) fun cdv A outer s H vs Q E hr h => ?_
  · obtain ⟨p, a, m, t, r, x, rfl, _⟩ := h
    rfl
  · obtain ⟨p, a, m, t, r, x, rfl, M, t0, t3, hR, hO, q⟩ := h
    have hu := hu_of hr
    obtain ⟨es, n, D⟩ := T.c.tab 0 (t := (fun K => He.ga K "LENGTHS", ["read", "write", "swap", "decide", "flush", "fence"])) rfl
    refine ⟨_, pss_cons (ps_if (PW.pt (pw_or (pt_not (pt_val (pe_callC (ok_within T) (hr.mono (by decide)) rfl T.g_is_within (pa_cons (pv 1) (pa_cons pe_int (pa_cons (pe_op op_sub (pe_fld (pe_fld (pv 0) rfl) rfl) pe_int) pa_nil))))))
          (pw_or (pt_not (pt_val (pe_callB call_isi (by rfl) T.f_isinstance (by decide +kernel) (pa_cons (pv 2) (pa_cons (pe_bltn (v := .ty "tuple") (by rfl) T.f_tuple (by decide +kernel) rfl) pa_nil)))))
            (pw_or1 (pt_cmpR op_eq (pe_callB call_len_seq (by rfl) T.f_len (by decide +kernel) (pa_cons (pv 2) pa_nil)) pe_int (nomark _)))))) (pss_one ps_never) pss_nil)
      (pss_cons (ps_if (pt_cmpR op_ne (pe_getkd D (pe_glob (v := .ref (He.ga K "LENGTHS")) (by rfl) T.g_LENGTHS rfl) (pe_ix ix_tup (pv 2) pe_int (fun _ _ => rfl)) ⟨by rfl, by rfl, by rfl, by rfl⟩) (pe_callB call_len_seq (by rfl) T.f_len (by decide +kernel) (pa_cons (pv 2) pa_nil)) (nomark _)) (pss_one ps_never) pss_nil)
      (pss_one (ps_if (pt_cmpR op_eq (pe_ix ix_tup (pv 2) pe_int (fun _ _ => rfl)) pe_str (nomark _))
        (pss_one (ps_expr (pe_methC (pv 0) T.c_Memory T.m_Memory_check_lasting (ok_check_lasting T) hr (pa_cons (pe_ix ix_tup (pv 2) pe_int (fun _ _ => rfl)) pa_nil))))
        (pss_one (ps_if (pt_cmpR op_ne (pe_ix ix_tup (pv 2) pe_int (fun _ _ => rfl)) pe_str (nomark _))
          (pss_one (ps_expr (pe_methC (pv 0) T.c_Memory T.m_Memory_check_cell (ok_check_cell T) (hr.mono (by decide)) (pa_cons (pe_ix ix_tup (pv 2) pe_int (fun _ _ => rfl)) pa_nil)))) pss_nil))))), ?_⟩
    obtain ⟨ldx, hl⟩ := M.la
    refine ⟨_, rfl, _, rfl, p, _, _, _, _, rfl, M.ob, T.c_Memory, T.n_Memory_layout, memF_lay _ _, a.lay, _, ldx, _, _, rfl, hl, T.c_Layout, T.n_Layout_threads, layF_th, _, _, rfl, rfl, _, _, _, rfl, true, ?_, iteF ?_⟩
    · rw [decide_eq_true t0, decide_eq_true (show t ≤ 3 - 1 by omega)]; rfl
    obtain ⟨qq, items, ex, hq, hlen, hc⟩ : ∃ (qq : Addr) (items : List V), x = .ref qq ∧ H qq = some (.tup (.str (kd r) :: items)) ∧ ((kd r, He.Dv.int ((items.length : Int) + 1)) ∈ lens) ∧ (r ≠ .fence → ∃ more, items = .int (cellR r) :: more) := by
      cases r with
      | read c =>
        obtain ⟨qq, ex, hq⟩ := hR
        exact ⟨qq, [.int c], ex, hq, by simp [lens, kd], fun _ => ⟨[], rfl⟩⟩
      | write c v =>
        obtain ⟨qq, u, ex, hq, _⟩ := hR
        exact ⟨qq, [.int c, u], ex, hq, by simp [lens, kd], fun _ => ⟨[u], rfl⟩⟩
      | swap c o n =>
        obtain ⟨qq, u, v, ex, hq, _⟩ := hR
        exact ⟨qq, [.int c, u, v], ex, hq, by simp [lens, kd], fun _ => ⟨[u, v], rfl⟩⟩
      | dec c d =>
        obtain ⟨qq, ex, hq⟩ := hR
        exact ⟨qq, [.int c, .str (if d then "done" else "failed")], ex, hq, by simp [lens, kd], fun _ => ⟨[_], rfl⟩⟩
      | flush c =>
        obtain ⟨qq, ex, hq⟩ := hR
        exact ⟨qq, [.int c], ex, hq, by simp [lens, kd], fun _ => ⟨[], rfl⟩⟩
      | fence =>
        obtain ⟨qq, ex, hq⟩ := hR
        exact ⟨qq, [], ex, hq, by simp [lens, kd], fun z => absurd rfl z⟩
    subst ex
    obtain ⟨u, hn, ru⟩ := T.len hlen
    have hll : ((V.str (kd r) :: items).length : Int) = (items.length : Int) + 1 := by rw [List.length_cons]; omega
    refine ⟨_, rfl, _, _, _, _, true, rfl, .ty _, .base (.tup hq), kit_ty (by decide +kernel), true, rfl, iteF ?_⟩
    refine ⟨_, rfl, _, _, rfl, .inr (SqT.of hq), rfl, false, ?_, iteF ?_⟩
    · rw [hll]
      exact congrArg V.bl (decide_eq_false fun z => by injection z with z; omega)
    refine ⟨rfl, _, rfl, _, _, _, _, rfl, rfl, SqT.of hq, atI_nat (j := 0) rfl, _, u, .int ((items.length : Int) + 1), rfl, hn, ru, _, rfl, _, _, rfl, .inr (SqT.of hq), rfl, false, ?_, iteF ?_⟩
    · rw [hll]
      exact congrArg V.bl (by simp)
    refine ⟨_, rfl, _, _, _, _, rfl, rfl, SqT.of hq, atI_nat (j := 0) rfl, rfl, _, rfl, ?_⟩
    by_cases cf : r = .fence
    · subst cf
      rw [strF (show (kd .fence == "flush") = false by decide +kernel)]
      refine iteF ?_
      refine ⟨_, rfl, _, _, _, _, rfl, rfl, SqT.of hq, atI_nat (j := 0) rfl, rfl, _, rfl, ?_⟩
      rw [show (!decide (V.str (kd .fence) = V.str "fence")) = false from by rw [show V.str (kd .fence) = V.str "fence" from rfl, strT]; rfl]
      exact iteF q
    · obtain ⟨more, em⟩ := hc cf
      subst em
      have cellrng : 0 ≤ cellR r ∧ cellR r < 201 := by
        cases r with
        | read c => exact ⟨hO.1, hO.2.1⟩
        | write c v => have := hO.1; exact ⟨by show 0 ≤ c; omega, hO.2.1⟩
        | swap c o n => have := hO.1; exact ⟨by show 0 ≤ c; omega, hO.2.1⟩
        | dec c d => have := hO.1; exact ⟨by show 0 ≤ c; omega, hO.2.1⟩
        | flush c =>
          have hO : (7 ≤ c ∧ c ≤ 10) ∨ (16 ≤ c ∧ c ≤ 63) := hO
          exact ⟨by show 0 ≤ c; omega, by show c < 201; omega⟩
        | fence => exact absurd rfl cf
      by_cases cl : ∃ c, r = .flush c
      · obtain ⟨c, rfl⟩ := cl
        rw [show decide (V.str (kd (.flush c)) = V.str "flush") = true from strT _]
        refine iteT ?_
        have hO : (7 ≤ c ∧ c ≤ 10) ∨ (16 ≤ c ∧ c ≤ 63) := hO
        exact ⟨_, rfl, p, _, _, rfl, M.ob, mem_no _ _ (by decide +kernel), _, rfl, _, _, _, _, rfl, rfl, SqT.of hq, atI_nat (j := 1) rfl, p, a, m, c, rfl, M, by omega, by omega, q⟩
      · have n1 : (kd r == "flush") = false := by
          cases r with
          | flush c => exact absurd ⟨c, rfl⟩ cl
          | fence => exact absurd rfl cf
          | read c => exact (show (("read" : Str) == "flush") = false by decide +kernel)
          | write c v => exact (show (("write" : Str) == "flush") = false by decide +kernel)
          | swap c o n => exact (show (("swap" : Str) == "flush") = false by decide +kernel)
          | dec c d => exact (show (("decide" : Str) == "flush") = false by decide +kernel)
        have n2 : (kd r == "fence") = false := by
          cases r with
          | flush c => exact absurd ⟨c, rfl⟩ cl
          | fence => exact absurd rfl cf
          | read c => exact (show (("read" : Str) == "fence") = false by decide +kernel)
          | write c v => exact (show (("write" : Str) == "fence") = false by decide +kernel)
          | swap c o n => exact (show (("swap" : Str) == "fence") = false by decide +kernel)
          | dec c d => exact (show (("decide" : Str) == "fence") = false by decide +kernel)
        rw [strF n1]
        refine iteF ?_
        refine ⟨_, rfl, _, _, _, _, rfl, rfl, SqT.of hq, atI_nat (j := 0) rfl, rfl, _, rfl, ?_⟩
        rw [strF n2]
        refine iteT ?_
        exact ⟨_, rfl, p, _, _, rfl, M.ob, mem_no _ _ (by decide +kernel), _, rfl, _, _, _, _, rfl, rfl, SqT.of hq, atI_nat (j := 1) rfl, p, a, m, cellR r, rfl, M, cellrng.1, cellrng.2, q⟩
end
end Dk

set_option Elab.async false
set_option linter.all false
set_option maxRecDepth 100000
set_option maxHeartbeats 4000000
namespace Dk
open PySem PySem.Spec PyProof.Rows L2
open DkM (TV Mem DS Req Ent Deed upC upC_same upC_ne)
section
variable {P : Program} {w : World} {K : PySem.W.Frag} {mg : Str → Option Value} {base : Heap}
structure Bd (m : Mem) : Prop where
  nk : Nk m
  np : ∀ u c q, m.nt u c = some q → 0 ≤ q
  tl : ∀ c, (m.tr c).length ≤ 200000
theorem Bd.of {m : Mem} (S : DkM.Sz m) (h : m.cnt ≤ 100000) : Bd m := ⟨Nk.of S, S.np, fun c => by have := S.tl c; omega⟩
def spResult (K : PySem.W.Frag) : Sp := fun vs H Q _ => ∃ (p : Addr) (a : MA) (m : Mem) (t : Int) (r : Req) (x : V), vs = [.ref p, .int t, x] ∧ MemA K H p a m ∧ 0 ≤ t ∧ t < 3 ∧ ReqR H r x ∧ ReqOk m r ∧ Bd m ∧
  ∀ H' a' y, MemA K H' p a' (m.acc1 t r).2 → Stp (FM p a) H (FM p a') H' → RT H' (m.acc1 t r).1 y → Q y H'
theorem ok_result (T : Tx w K mg) : Cal P w K mg base 5 (fM K "result") ["self", "thread", "request"] (spResult K) := by
  refine mkCal T.F_Memory_result sc_Memory_result (fun vs H Q E h => ?_) (fun _ _ _ _ _ _ us hl => match us, hl with | [_, _, _], _ => rfl) fun cdv A outer s H vs Q E hr h => ?_
  · obtain ⟨p, a, m, t, r, x, rfl, _⟩ := h
    rfl
  · obtain ⟨p, a, m, t, r, x, rfl, M, t0, t3, hR, hO, B, q⟩ := h
    have hu := hu_of hr
    refine ⟨_, pss_cons (ps_set (i := 3) sc_Memory_result.nd rfl (Or.inl rfl) (pe_ix ix_tup (pv 2) pe_int (fun _ _ => rfl)))
      (pss_cons (ps_if (pt_cmpR op_eq (pv 3) pe_str (nomark _)) (pss_one (ps_ret (pe_methC (pv 0) T.c_Memory T.m_Memory_fence (ok_fence T) (hr.mono (by decide)) (pa_cons (pv 1) pa_nil)))) pss_nil)
      (pss_cons (ps_set (i := 4) sc_Memory_result.nd rfl (Or.inl rfl) (pe_ix ix_tup (pv 2) pe_int (fun _ _ => rfl)))
      (pss_cons (ps_if (pt_cmpR op_eq (pv 3) pe_str (nomark _)) (pss_cons (ps_dput hu (pe_ix ix_list (pe_fld (pv 0) rfl) (pv 1) (fun _ _ => rfl)) (pv 4)
          (pe_op op_sub (pe_callB call_len_seq (by rfl) T.f_len (by decide +kernel) (pa_cons (pe_ix ix_list (pe_fld (pv 0) rfl) (pv 4) (fun _ _ => rfl)) pa_nil)) pe_int) rfl) (pss_one (ps_ret pe_non))) pss_nil)
      (pss_cons (ps_set (i := 5) sc_Memory_result.nd rfl (Or.inl rfl) (pe_ix ix_list (pe_ix ix_list (pe_fld (pv 0) rfl) (pv 4) (fun _ _ => rfl)) (pe_un un_neg pe_int) (fun _ _ => rfl)))
      (pss_cons (ps_if (pt_cmpR op_eq (pv 3) pe_str (nomark _)) (pss_one (ps_ret (pv 5))) pss_nil)
      (pss_cons (ps_if (pt_cmpR op_eq (pv 3) pe_str (nomark _)) (pss_cons (ps_expr (pe_methC (pv 0) T.c_Memory T.m_Memory_give (ok_give T) hr (pa_cons (pv 4) (pa_cons (pe_ix ix_tup (pv 2) pe_int (fun _ _ => rfl)) pa_nil)))) (pss_one (ps_ret pe_non))) pss_nil)
      (pss_cons (ps_if (pt_cmpR op_eq (pv 3) pe_str (nomark _)) (pss_cons (ps_if (pt_cmpR (op_neD hr.units) (pv 5) (pe_ix ix_tup (pv 2) pe_int (fun _ _ => rfl)) (nomark _)) (pss_one (ps_ret pe_bl)) pss_nil)
          (pss_cons (ps_expr (pe_methC (pv 0) T.c_Memory T.m_Memory_give (ok_give T) hr (pa_cons (pv 4) (pa_cons (pe_ix ix_tup (pv 2) pe_int (fun _ _ => rfl)) pa_nil)))) (pss_one (ps_ret pe_bl)))) pss_nil)
      (pss_cons (ps_if (pt_cmpR (op_neD hr.units) (pv 5) pe_int (nomark _)) (pss_one (ps_ret pe_bl)) pss_nil)
      (pss_cons (ps_expr (pe_methC (pv 0) T.c_Memory T.m_Memory_give (ok_give T) hr (pa_cons (pv 4) (pa_cons (pe_tup (pa_cons (pe_ix ix_tup (pv 2) pe_int (fun _ _ => rfl)) (pa_cons (pe_fld (pv 0) rfl) pa_nil))) pa_nil))))
      (pss_one (ps_ret pe_bl))))))))))), ?_⟩
    cases r with
    | fence =>
      obtain ⟨qq, rfl, hq⟩ := hR
      refine ⟨_, rfl, _, _, _, _, rfl, rfl, SqT.of hq, atI_nat (j := 0) rfl, _, rfl, rfl, _, rfl, ?_⟩
      rw [strT]
      refine iteT ⟨_, rfl, p, _, _, rfl, M.ob, mem_no _ _ (by decide +kernel), _, rfl, p, a, m, t, rfl, M, t0, t3, B.nk, B.np, fun H' a' M' S' => ?_⟩
      exact q H' a' _ M' S' rfl
    | flush c =>
      obtain ⟨qq, rfl, hq⟩ := hR
      have hO : (7 ≤ c ∧ c ≤ 10) ∨ (16 ≤ c ∧ c ≤ 63) := hO
      have c0 : 0 ≤ c := by omega
      have c1 : c < 201 := by omega
      obtain ⟨xs, hx, hr2⟩ := M.tr c c0 c1
      obtain ⟨kvs, hk, nr⟩ := M.nt t t0 t3
      refine ⟨_, rfl, _, _, _, _, rfl, rfl, SqT.of hq, atI_nat (j := 0) rfl, _, rfl, rfl, _, rfl, ?_⟩
      rw [strF (show (("flush" : Str) == "fence") = false by decide +kernel)]
      refine iteF ⟨_, rfl, _, _, _, _, rfl, rfl, SqT.of hq, atI_nat (j := 1) rfl, _, rfl, rfl, _, rfl, ?_⟩
      rw [strT]
      refine iteT ?_
      have nlen : kvs.length ≤ 57 := nr.len fun d hd => B.nk t d hd
      refine ⟨_, rfl, p, _, _, _, _, rfl, M.ob, T.c_Memory, T.n_Memory_trails, memF_trails _ _, _, rfl, _, _, _, _, rfl, rfl, SqL.of M.tl, Tl_at c0 c1, _, _, rfl, .inl (SqL.of hx), _, _, rfl, rfl, ?_⟩
      refine ⟨_, rfl, p, _, _, _, _, rfl, M.ob, T.c_Memory, T.n_Memory_notes, memF_notes _ _, _, rfl, _, _, _, _, rfl, rfl, SqL.of M.nl, Nl_at t0 t3, _, rfl, _, _, rfl, DPut.k (k := Sum.inl c) hk (Nat.lt_of_le_of_lt nlen (by decide)), ?_⟩
      obtain ⟨M4, S4⟩ := M.setN t0 t3 (nr.put c ((xs.length : Int) - 1))
      refine q _ a _ (M4.ext rfl (fun _ _ _ => rfl) fun u u0 u3 y => ?_) S4 rfl
      show upC m.nt t (upC (m.nt t) c (some (((m.tr c).length : Int) - 1))) u y = upC m.nt t (upC (m.nt t) c (some ((xs.length : Int) - 1))) u y
      rw [hr2.len]
    | read c =>
      obtain ⟨qq, rfl, hq⟩ := hR
      obtain ⟨c0, c1, hn⟩ := hO
      obtain ⟨xs, hx, hr2⟩ := M.tr c c0 c1
      obtain ⟨y, hy, ry⟩ := last_of hr2 hn
      refine ⟨_, rfl, _, _, _, _, rfl, rfl, SqT.of hq, atI_nat (j := 0) rfl, _, rfl, rfl, _, rfl, ?_⟩
      rw [strF (show (("read" : Str) == "fence") = false by decide +kernel)]
      refine iteF ⟨_, rfl, _, _, _, _, rfl, rfl, SqT.of hq, atI_nat (j := 1) rfl, _, rfl, rfl, _, rfl, ?_⟩
      rw [strF (show (("read" : Str) == "flush") = false by decide +kernel)]
      refine iteF ⟨_, rfl, p, _, _, _, _, rfl, M.ob, T.c_Memory, T.n_Memory_trails, memF_trails _ _, _, rfl, _, _, _, _, rfl, rfl, SqL.of M.tl, Tl_at c0 c1, _, rfl, _, _, _, _, rfl, rfl, SqL.of hx, hy, _, rfl, rfl, _, rfl, ?_⟩
      rw [strT]
      refine iteT ⟨_, rfl, ?_⟩
      exact q H a y M Stp.refl ry
    | write c v =>
      obtain ⟨qq, u, rfl, hq, ru⟩ := hR
      obtain ⟨c4, c1, hn⟩ := hO
      have c0 : 0 ≤ c := by omega
      obtain ⟨xs, hx, hr2⟩ := M.tr c c0 c1
      obtain ⟨y, hy, ry⟩ := last_of hr2 hn
      refine ⟨_, rfl, _, _, _, _, rfl, rfl, SqT.of hq, atI_nat (j := 0) rfl, _, rfl, rfl, _, rfl, ?_⟩
      rw [strF (show (("write" : Str) == "fence") = false by decide +kernel)]
      refine iteF ⟨_, rfl, _, _, _, _, rfl, rfl, SqT.of hq, atI_nat (j := 1) rfl, _, rfl, rfl, _, rfl, ?_⟩
      rw [strF (show (("write" : Str) == "flush") = false by decide +kernel)]
      refine iteF ⟨_, rfl, p, _, _, _, _, rfl, M.ob, T.c_Memory, T.n_Memory_trails, memF_trails _ _, _, rfl, _, _, _, _, rfl, rfl, SqL.of M.tl, Tl_at c0 c1, _, rfl, _, _, _, _, rfl, rfl, SqL.of hx, hy, _, rfl, rfl, _, rfl, ?_⟩
      rw [strF (show (("write" : Str) == "read") = false by decide +kernel)]
      refine iteF ⟨_, rfl, rfl, _, rfl, ?_⟩
      rw [strT]
      refine iteT ⟨_, rfl, p, _, _, rfl, M.ob, mem_no _ _ (by decide +kernel), _, rfl, _, rfl, _, _, _, _, rfl, rfl, SqT.of hq, atI_nat (j := 2) rfl, p, a, m, c, v, u, rfl, M, c4, c1, ru, B.tl c, fun H' M' S' => ?_⟩
      exact q H' a _ M' S' rfl
    | swap c o n =>
      obtain ⟨qq, u, v, rfl, hq, ru, rv⟩ := hR
      obtain ⟨c4, c1, hn, f1, f2⟩ := hO
      have c0 : 0 ≤ c := by omega
      obtain ⟨xs, hx, hr2⟩ := M.tr c c0 c1
      obtain ⟨y, hy, ry⟩ := last_of hr2 hn
      refine ⟨_, rfl, _, _, _, _, rfl, rfl, SqT.of hq, atI_nat (j := 0) rfl, _, rfl, rfl, _, rfl, ?_⟩
      rw [strF (show (("swap" : Str) == "fence") = false by decide +kernel)]
      refine iteF ⟨_, rfl, _, _, _, _, rfl, rfl, SqT.of hq, atI_nat (j := 1) rfl, _, rfl, rfl, _, rfl, ?_⟩
      rw [strF (show (("swap" : Str) == "flush") = false by decide +kernel)]
      refine iteF ⟨_, rfl, p, _, _, _, _, rfl, M.ob, T.c_Memory, T.n_Memory_trails, memF_trails _ _, _, rfl, _, _, _, _, rfl, rfl, SqL.of M.tl, Tl_at c0 c1, _, rfl, _, _, _, _, rfl, rfl, SqL.of hx, hy, _, rfl, rfl, _, rfl, ?_⟩
      rw [strF (show (("swap" : Str) == "read") = false by decide +kernel)]
      refine iteF ⟨_, rfl, rfl, _, rfl, ?_⟩
      rw [strF (show (("swap" : Str) == "write") = false by decide +kernel)]
      refine iteF ⟨_, rfl, rfl, _, rfl, ?_⟩
      rw [strT]
      have ev : PyData.eqv (pd (DkM.lastD (m.tr c))) (pd o) = decide (m.last c = o) := pd_eqv f1 f2
      by_cases e : m.last c = o
      · refine iteT ⟨_, rfl, _, rfl, _, _, _, _, rfl, rfl, SqT.of hq, atI_nat (j := 2) rfl, _, _, RT.dp ry f1, RT.dp ru f2, pd_shaped f1, pd_shaped f2, false, congrArg V.bl (by rw [ev, decide_eq_true e]; rfl), iteF ?_⟩
        refine ⟨_, rfl, p, _, _, rfl, M.ob, mem_no _ _ (by decide +kernel), _, rfl, _, rfl, _, _, _, _, rfl, rfl, SqT.of hq, atI_nat (j := 3) rfl, p, a, m, c, n, v, rfl, M, c4, c1, rv, B.tl c, fun H' M' S' => ?_⟩
        have z : m.acc1 t (.swap c o n) = (.bl true, m.give c n) := if_pos e
        rw [z] at q
        exact q H' a _ M' S' rfl
      · have z : m.acc1 t (.swap c o n) = (.bl false, m) := if_neg e
        rw [z] at q
        refine iteT ⟨_, rfl, _, rfl, _, _, _, _, rfl, rfl, SqT.of hq, atI_nat (j := 2) rfl, _, _, RT.dp ry f1, RT.dp ru f2, pd_shaped f1, pd_shaped f2, true, congrArg V.bl (by rw [ev, decide_eq_false e]; rfl), iteT ?_⟩
        exact q H a _ M Stp.refl rfl
    | dec c d =>
      obtain ⟨qq, rfl, hq⟩ := hR
      obtain ⟨c4, c1, hn, f1⟩ := hO
      have c0 : 0 ≤ c := by omega
      obtain ⟨xs, hx, hr2⟩ := M.tr c c0 c1
      obtain ⟨y, hy, ry⟩ := last_of hr2 hn
      refine ⟨_, rfl, _, _, _, _, rfl, rfl, SqT.of hq, atI_nat (j := 0) rfl, _, rfl, rfl, _, rfl, ?_⟩
      rw [strF (show (("decide" : Str) == "fence") = false by decide +kernel)]
      refine iteF ⟨_, rfl, _, _, _, _, rfl, rfl, SqT.of hq, atI_nat (j := 1) rfl, _, rfl, rfl, _, rfl, ?_⟩
      rw [strF (show (("decide" : Str) == "flush") = false by decide +kernel)]
      refine iteF ⟨_, rfl, p, _, _, _, _, rfl, M.ob, T.c_Memory, T.n_Memory_trails, memF_trails _ _, _, rfl, _, _, _, _, rfl, rfl, SqL.of M.tl, Tl_at c0 c1, _, rfl, _, _, _, _, rfl, rfl, SqL.of hx, hy, _, rfl, rfl, _, rfl, ?_⟩
      rw [strF (show (("decide" : Str) == "read") = false by decide +kernel)]
      refine iteF ⟨_, rfl, rfl, _, rfl, ?_⟩
      rw [strF (show (("decide" : Str) == "write") = false by decide +kernel)]
      refine iteF ⟨_, rfl, rfl, _, rfl, ?_⟩
      rw [strF (show (("decide" : Str) == "swap") = false by decide +kernel)]
      have ev : PyData.eqv (pd (DkM.lastD (m.tr c))) (pd (.int 0)) = decide (m.last c = .int 0) := pd_eqv f1 rfl
      by_cases e : m.last c = .int 0
      · refine iteF ⟨_, rfl, _, _, RT.dp ry f1, RT.dp (v := .int 0) rfl rfl, pd_shaped f1, pd_shaped (v := .int 0) rfl, false, congrArg V.bl (by rw [ev, decide_eq_true e]; rfl), iteF ?_⟩
        have z : m.acc1 t (.dec c d) = (.bl true, m.give c (if d then .don m.cnt else .fai m.cnt)) := if_pos e
        rw [z] at q
        refine ⟨_, rfl, p, _, _, rfl, M.ob, mem_no _ _ (by decide +kernel), _, rfl, _, rfl, _, _, _, _, rfl, rfl, SqT.of hq, atI_nat (j := 2) rfl, _, rfl, p, _, _, _, _, rfl, M.ob, T.c_Memory, T.n_Memory_count, memF_count _ _, (by show 2 ≤ sizeLine; decide), fun tp htp => ?_⟩
        have Mt := M.same (same_new (o := .tup [.str (if d then "done" else "failed"), .int m.cnt]) htp)
        have rt : RT (upd H tp (.tup [.str (if d then "done" else "failed"), .int m.cnt])) (if d then .don m.cnt else .fai m.cnt) (.ref tp) := by
          cases d with
          | true => exact ⟨tp, rfl, upd_same⟩
          | false => exact ⟨tp, rfl, upd_same⟩
        refine ⟨p, a, m, c, _, _, rfl, Mt, c4, c1, rt, B.tl c, fun H' M' S' => ?_⟩
        exact q H' a _ M' ((Stp.new htp).trans S') rfl
      · have z : m.acc1 t (.dec c d) = (.bl false, m) := if_neg e
        rw [z] at q
        refine iteF ⟨_, rfl, _, _, RT.dp ry f1, RT.dp (v := .int 0) rfl rfl, pd_shaped f1, pd_shaped (v := .int 0) rfl, true, congrArg V.bl (by rw [ev, decide_eq_false e]; rfl), iteT ?_⟩
        exact q H a _ M Stp.refl rfl
/-! ### access -/
def spAccess (K : PySem.W.Frag) : Sp := fun vs H Q _ => ∃ (p : Addr) (a : MA) (m : Mem) (t : Int) (r : Req) (x : V), vs = [.ref p, .int t, x] ∧ MemA K H p a m ∧ 0 ≤ t ∧ t < 3 ∧ ReqR H r x ∧ ReqOk m r ∧ Bd m ∧ m.cnt ≤ 100000 ∧ 0 ≤ m.cnt ∧
  ∀ H' a' y tp, MemA K H' p a' (m.acc t r).2 → Stp (FM p a) H (FM p a') H' → RT H' (m.acc t r).1 y → H' tp = some (.tup [y, .int (m.cnt + 1)]) → Q (.ref tp) H'
theorem ok_access (T : Tx w K mg) : Cal P w K mg base 6 (fM K "access") ["self", "thread", "request"] (spAccess K) := by
  refine mkCal T.F_Memory_access sc_Memory_access (fun vs H Q E h => ?_) (fun _ _ _ _ _ _ us hl => match us, hl with | [_, _, _], _ => rfl) fun cdv A outer s H vs Q E hr h => ?_
  · obtain ⟨p, a, m, t, r, x, rfl, _⟩ := h
    rfl
  · obtain ⟨p, a, m, t, r, x, rfl, M, t0, t3, hR, hO, B, hc, hc0, q⟩ := h
    refine ⟨_, pss_cons (ps_expr (pe_methC (pv 0) T.c_Memory T.m_Memory_check_request (ok_check_request T) hr (pa_cons (pv 1) (pa_cons (pv 2) pa_nil))))
      (pss_cons (ps_fldaug (pv 0) pe_int in_add)
      (pss_cons (ps_expr (pe_bm PySem.F.plainAttrs_list PySem.F.slot_list_append PySem.F.type_list_append mt_append (pe_fld (pv 0) rfl) (pa_cons (pe_tup (pa_cons (pe_fld (pv 0) rfl) (pa_cons (pv 1) (pa_cons (pv 2) pa_nil)))) pa_nil)))
      (pss_one (ps_ret (pe_tup (pa_cons (pe_methC (pv 0) T.c_Memory T.m_Memory_result (ok_result T) hr (pa_cons (pv 1) (pa_cons (pv 2) pa_nil))) (pa_cons (pe_fld (pv 0) rfl) pa_nil))))))), ?_⟩
    obtain ⟨rs, hrs, lrs⟩ := M.rw
    refine ⟨_, rfl, p, _, _, rfl, M.ob, mem_no _ _ (by decide +kernel), _, rfl, _, rfl, p, a, m, t, r, x, rfl, M, t0, t3, hR, hO, ?_⟩
    refine ⟨_, rfl, p, _, _, _, _, rfl, M.ob, T.c_Memory, T.n_Memory_count, memF_count _ _, _, _, rfl, rfl, _, _, M.ob, (by show 5 < 1000; decide), ?_⟩
    rw [memF_put]
    have npr : p ≠ a.rows := ne_of M.ob hrs (fun e => by cases e)
    have hrs1 : (upd H p (.ins (CM K) a.dx (memF a (m.cnt + 1)))) a.rows = some (.lst rs) := by rw [upd_ne npr.symm]; exact hrs
    refine ⟨_, rfl, p, _, _, _, _, rfl, upd_same, T.c_Memory, T.n_Memory_rows, memF_rows _ _, .inl ⟨rfl, _, SqL.of hrs1⟩, _, rfl, p, _, _, _, _, rfl, upd_same, T.c_Memory, T.n_Memory_count, memF_count _ _, _, rfl, _, rfl, (by show 3 ≤ sizeLine; decide), fun tp htp => ?_⟩
    have hrs2 : (upd (upd H p (.ins (CM K) a.dx (memF a (m.cnt + 1)))) tp (.tup [.int (m.cnt + 1), .int t, x])) a.rows = some (.lst rs) := by rw [upd_ne (ne_of_none hrs1 htp)]; exact hrs1
    refine ⟨_, _, _, rfl, rfl, hrs2, (by have : rs.length ≤ 100000 := by omega
                                         exact Nat.lt_of_le_of_lt this (by decide)), ?_⟩
    -- the same as: first the tuple, then the count and the rows
    have htp0 : H tp = none := by
      by_cases e : tp = p
      · rw [e, upd_same] at htp; cases htp
      · rw [upd_ne e] at htp; exact htp
    have M0 := M.same (same_new (o := .tup [.int (m.cnt + 1), .int t, x]) htp0)
    have hrs0 : (upd H tp (.tup [.int (m.cnt + 1), .int t, x])) a.rows = some (.lst rs) := by rw [upd_ne (ne_of_none hrs htp0)]; exact hrs
    obtain ⟨M1, S1⟩ := M0.tick hrs0 lrs (x := .ref tp)
    have comm : upd (upd (upd H tp (.tup [.int (m.cnt + 1), .int t, x])) p (.ins (CM K) a.dx (memF a (m.cnt + 1)))) a.rows (.lst (rs ++ [.ref tp])) = upd (upd (upd H p (.ins (CM K) a.dx (memF a (m.cnt + 1)))) tp (.tup [.int (m.cnt + 1), .int t, x])) a.rows (.lst (rs ++ [.ref tp])) := by
      have hpt : p ≠ tp := ne_of_none M.ob htp0
      congr 1
      funext b
      unfold upd
      by_cases e1 : b = p
      · rw [if_pos e1, if_neg (by rw [e1]; exact hpt), if_pos e1]
      · rw [if_neg e1]
        by_cases e2 : b = tp
        · rw [if_pos e2, if_pos e2]
        · rw [if_neg e2, if_neg e2, if_neg e1]
    rw [comm] at M1 S1
    have S01 := (Stp.new (F := FM p a) (o := .tup [.int (m.cnt + 1), .int t, x]) htp0).trans S1
    generalize (upd (upd (upd H p (.ins (CM K) a.dx (memF a (m.cnt + 1)))) tp (.tup [.int (m.cnt + 1), .int t, x])) a.rows (.lst (rs ++ [.ref tp]))) = H1 at M1 S1 S01
    have hO1 : ReqOk m.tick r := by cases r <;> exact hO
    have B1 : Bd m.tick := ⟨B.nk, B.np, B.tl⟩
    refine ⟨_, rfl, p, _, _, rfl, M1.ob, mem_no _ _ (by decide +kernel), _, rfl, _, rfl, p, a, m.tick, t, r, x, rfl, M1, t0, t3, ReqR.mono S01.tu _ _ hR, hO1, B1, fun H' a' y M' S' ry => ?_⟩
    have cnt' : (m.tick.acc1 t r).2.cnt = m.cnt + 1 := by
      cases r with
      | swap c o n => show (if _ then _ else _ : TV × Mem).2.cnt = _; split <;> rfl
      | dec c d => show (if _ then _ else _ : TV × Mem).2.cnt = _; split <;> rfl
      | _ => rfl
    refine ⟨_, rfl, p, _, _, _, _, rfl, M'.ob, T.c_Memory, T.n_Memory_count, memF_count _ _, (by show 2 ≤ sizeLine; decide), fun tq htq => ?_⟩
    have M2 := M'.same (same_new (o := .tup [y, .int (m.tick.acc1 t r).2.cnt]) htq)
    refine q _ a' y tq M2 ((S01.trans S').trans (Stp.new htq)) (RT.mono (TupK.new htq) _ _ ry) ?_
    rw [upd_same, cnt']
end
end Dk

set_option Elab.async false
set_option linter.all false
set_option maxRecDepth 100000
set_option maxHeartbeats 4000000
namespace Dk
open PySem PySem.Spec PyProof.Rows L2
open DkM (TV Mem DS Req Ent Deed upC upC_same upC_ne)
/-! ### a Doing in the heap -/
def stS : DkM.St → Str
  | .record => "record"
  | .status => "status"
  | .word => "word"
  | .swap => "swap"
  | .help => "help"
  | .failed => "failed"
  | .done => "done"
  | .final => "final"
  | .last => "last"
  | .fin => "end"
theorem iteT' {A B : Prop} {b : Bool} (e : b = true) (h : A) : if b = true then A else B := by rw [if_pos e]; exact h
theorem iteF' {A B : Prop} {b : Bool} (e : b = false) (h : B) : if b = true then A else B := by rw [if_neg (by rw [e]; exact Bool.false_ne_true)]; exact h
theorem stS_inj (a b : DkM.St) : (stS a == stS b) = decide (a = b) := by cases a <;> cases b <;> decide +kernel
structure DA where
  dx : Addr
  sv : V
  ev : V
  hv : V
  vv : V
  l : Addr
def doK : List Str := ["address", "without", "status", "entries", "index", "state", "helper", "verdict", "left"]
def doF (a : DA) (ad : Int) (ix : Nat) (st : DkM.St) : List (Str × V) := [("address", .int ad), ("without", .int 0), ("status", a.sv), ("entries", a.ev), ("index", .int (ix : Int)), ("state", .str (stS st)), ("helper", a.hv), ("verdict", a.vv), ("left", .ref a.l)]
section
variable (a : DA) (ad : Int) (ix : Nat) (st : DkM.St)
theorem doF_ks : (doF a ad ix st).map (·.1) = doK := rfl
theorem doF_address : (doF a ad ix st).lookup ("address" : Str) = some (V.int ad) := lk_at (ks := doK) 0 (doF_ks a ad ix st) rfl (by decide +kernel)
theorem doF_without : (doF a ad ix st).lookup ("without" : Str) = some (V.int 0) := lk_at (ks := doK) 1 (doF_ks a ad ix st) rfl (by decide +kernel)
theorem doF_status : (doF a ad ix st).lookup ("status" : Str) = some a.sv := lk_at (ks := doK) 2 (doF_ks a ad ix st) rfl (by decide +kernel)
theorem doF_entries : (doF a ad ix st).lookup ("entries" : Str) = some a.ev := lk_at (ks := doK) 3 (doF_ks a ad ix st) rfl (by decide +kernel)
theorem doF_index : (doF a ad ix st).lookup ("index" : Str) = some (V.int (ix : Int)) := lk_at (ks := doK) 4 (doF_ks a ad ix st) rfl (by decide +kernel)
theorem doF_state : (doF a ad ix st).lookup ("state" : Str) = some (V.str (stS st)) := lk_at (ks := doK) 5 (doF_ks a ad ix st) rfl (by decide +kernel)
theorem doF_helper : (doF a ad ix st).lookup ("helper" : Str) = some a.hv := lk_at (ks := doK) 6 (doF_ks a ad ix st) rfl (by decide +kernel)
theorem doF_verdict : (doF a ad ix st).lookup ("verdict" : Str) = some a.vv := lk_at (ks := doK) 7 (doF_ks a ad ix st) rfl (by decide +kernel)
theorem doF_left : (doF a ad ix st).lookup ("left" : Str) = some (V.ref a.l) := lk_at (ks := doK) 8 (doF_ks a ad ix st) rfl (by decide +kernel)
theorem doF_no {m : Str} (h : doK.all (fun k => !(m == k)) = true) : (doF a ad ix st).lookup m = none := lk_no (doF_ks a ad ix st) h
theorem doF_pstatus (v : V) : putF "status" v (doF a ad ix st) = doF { a with sv := v } ad ix st := putF_at (ks := doK) 2 (doF_ks a ad ix st) rfl (by decide +kernel)
theorem doF_pentries (v : V) : putF "entries" v (doF a ad ix st) = doF { a with ev := v } ad ix st := putF_at (ks := doK) 3 (doF_ks a ad ix st) rfl (by decide +kernel)
theorem doF_pindex (j : Nat) : putF "index" (.int (j : Int)) (doF a ad ix st) = doF a ad j st := putF_at (ks := doK) 4 (doF_ks a ad ix st) rfl (by decide +kernel)
theorem doF_pstate (z : DkM.St) : putF "state" (.str (stS z)) (doF a ad ix st) = doF a ad ix z := putF_at (ks := doK) 5 (doF_ks a ad ix st) rfl (by decide +kernel)
theorem doF_phelper (v : V) : putF "helper" v (doF a ad ix st) = doF { a with hv := v } ad ix st := putF_at (ks := doK) 6 (doF_ks a ad ix st) rfl (by decide +kernel)
theorem doF_pverdict (v : V) : putF "verdict" v (doF a ad ix st) = doF { a with vv := v } ad ix st := putF_at (ks := doK) 7 (doF_ks a ad ix st) rfl (by decide +kernel)
theorem doF_pleft (x : Addr) : putF "left" (.ref x) (doF a ad ix st) = doF { a with l := x } ad ix st := putF_at (ks := doK) 8 (doF_ks a ad ix st) rfl (by decide +kernel)
end
structure DoAt (C : Addr) (H : Hp) (q : Addr) (a : DA) (d : DS) : Prop where
  ob : H q = some (.ins C a.dx (doF a d.a d.ix d.st))
  es : d.st ≠ .record → a.sv = .int d.s ∧ ∃ e, a.ev = .ref e ∧ EsR H e d.es
  le : ∃ xs, H a.l = some (.lst xs) ∧ All2 (ReqR H) d.left xs
  vd : d.st = .last ∨ d.st = .fin → RT H d.v a.vv
def FD (q : Addr) (a : DA) (x : Addr) : Prop := x = q ∨ x = a.l
section
variable {C q : Addr} {a : DA} {d : DS} {H H' : Hp}
theorem DoAt.stay (D : DoAt C H q a d) (k : ∀ x o, FD q a x → H x = some o → H' x = some o) (t : TupK H H') : DoAt C H' q a d where
  ob := k _ _ (.inl rfl) D.ob
  es := fun h => by
    obtain ⟨h1, e, h2, h3⟩ := D.es h
    exact ⟨h1, e, h2, h3.mono t⟩
  le := by
    obtain ⟨xs, h1, h2⟩ := D.le
    exact ⟨xs, k _ _ (.inr rfl) h1, h2.mono (ReqR.mono t)⟩
  vd := fun h => RT.mono t _ _ (D.vd h)
theorem DoAt.same (D : DoAt C H q a d) (s : Same H H') : DoAt C H' q a d := D.stay (fun x o _ h => s x o h) (TupK.of_same s)
theorem DoAt.ne (D : DoAt C H q a d) : q ≠ a.l := by
  obtain ⟨xs, h1, _⟩ := D.le
  exact ne_of D.ob h1 (fun e => by cases e)
theorem FD.some (D : DoAt C H q a d) {x : Addr} (h : FD q a x) : ∃ o, H x = some o ∧ ∀ xs, o ≠ .tup xs := by
  rcases h with rfl | rfl
  · exact ⟨_, D.ob, fun xs e => by cases e⟩
  · obtain ⟨xs, h1, _⟩ := D.le
    exact ⟨_, h1, fun xs e => by cases e⟩
/-- the object's own attributes are put anew -/
theorem DoAt.put (D : DoAt C H q a d) {a' : DA} {d' : DS} (hdx : a'.dx = a.dx) (hl : a'.l = a.l) (hlf : d'.left = d.left) (hes : d'.st ≠ .record → a'.sv = .int d'.s ∧ ∃ e, a'.ev = .ref e ∧ EsR H e d'.es) (hvd : d'.st = .last ∨ d'.st = .fin → RT H d'.v a'.vv) :
    DoAt C (upd H q (.ins C a.dx (doF a' d'.a d'.ix d'.st))) q a' d' ∧ Stp (FD q a) H (FD q a') (upd H q (.ins C a.dx (doF a' d'.a d'.ix d'.st))) := by
  have tk : TupK H (upd H q (.ins C a.dx (doF a' d'.a d'.ix d'.st))) := TupK.upd D.ob fun ys e => by cases e
  refine ⟨⟨?_, fun h => ?_, ?_, fun h => RT.mono tk _ _ (hvd h)⟩, fun x h => ?_, fun x o hx f => ?_, tk⟩
  · rw [upd_same, hdx]
  · obtain ⟨h1, e, h2, h3⟩ := hes h
    exact ⟨h1, e, h2, h3.mono tk⟩
  · obtain ⟨xs, h1, h2⟩ := D.le
    refine ⟨xs, ?_, ?_⟩
    · rw [hl, upd_ne D.ne.symm]; exact h1
    · rw [hlf]; exact h2.mono (ReqR.mono tk)
  · rcases h with h | h
    · exact .inl (.inl h)
    · exact .inl (.inr (by rw [h, hl]))
  · rw [upd_ne fun e => f (.inl e)]; exact hx
/-- the state alone -/
theorem DoAt.putSt (D : DoAt C H q a d) {z : DkM.St} (h1 : d.st ≠ .record) (h2 : z = .last ∨ z = .fin → d.st = .last ∨ d.st = .fin) :
    DoAt C (upd H q (.ins C a.dx (doF a d.a d.ix z))) q a { d with st := z } ∧ Stp (FD q a) H (FD q a) (upd H q (.ins C a.dx (doF a d.a d.ix z))) :=
  DoAt.put (d' := { d with st := z }) D rfl rfl rfl (fun _ => D.es h1) fun h => D.vd (h2 h)
end
section
variable {P : Program} {w : World} {K : PySem.W.Frag} {mg : Str → Option Value} {base : Heap}
abbrev DoA (K : PySem.W.Frag) := DoAt (CD K)
/-! ### mark_of -/
def spMark (K : PySem.W.Frag) : Sp := fun vs H Q _ => ∃ (q : Addr) (a : DA) (d : DS) (e : Ent) (x : V), vs = [.ref q, x] ∧ DoA K H q a d ∧ d.st ≠ .record ∧ EntR H e x ∧
  ∀ p, H p = none → Q (.ref p) (upd H p (.tup [.int d.a, .int d.s, .int e.2.1, .int e.2.2]))
theorem ok_mark_of (T : Tx w K mg) : Cal P w K mg base 1 (fD K "mark_of") ["self", "entry"] (spMark K) := by
  refine mkCal T.F_Doing_mark_of sc_Doing_mark_of (fun vs H Q E h => ?_) (fun _ _ _ _ _ _ us hl => match us, hl with | [_, _], _ => rfl) fun cdv A outer s H vs Q E hr h => ?_
  · obtain ⟨q, a, d, e, x, rfl, _⟩ := h
    rfl
  · obtain ⟨q, a, d, e, x, rfl, D, hst, ⟨ep, rfl, he⟩, hq⟩ := h
    refine ⟨_, pss_one (ps_ret (pe_tup (pa_cons (pe_fld (pv 0) rfl) (pa_cons (pe_fld (pv 0) rfl) (pa_cons (pe_ix ix_tup (pv 1) pe_int (fun _ _ => rfl)) (pa_cons (pe_ix ix_tup (pv 1) pe_int (fun _ _ => rfl)) pa_nil)))))), ?_⟩
    obtain ⟨hsv, _⟩ := D.es hst
    refine ⟨_, rfl, q, _, _, _, _, rfl, D.ob, T.c_Doing, T.n_Doing_address, doF_address _ _ _ _, ?_⟩
    refine ⟨_, rfl, q, _, _, _, _, rfl, D.ob, T.c_Doing, T.n_Doing_status, doF_status _ _ _ _, ?_⟩
    refine ⟨_, rfl, _, _, _, _, rfl, rfl, SqT.of he, atI_nat (j := 1) rfl, ?_⟩
    refine ⟨_, rfl, _, _, _, _, rfl, rfl, SqT.of he, atI_nat (j := 2) rfl, (by show 4 ≤ sizeLine; decide), fun p hp => ?_⟩
    rw [hsv]
    exact hq p hp
/-! ### pass_entry -/
def spPass (K : PySem.W.Frag) : Sp := fun vs H Q _ => ∃ (q : Addr) (a : DA) (d : DS), vs = [.ref q] ∧ DoA K H q a d ∧ d.st ≠ .record ∧
  ∀ H', DoA K H' q a d.pass → Stp (FD q a) H (FD q a) H' → Q .non H'
theorem ok_pass_entry (T : Tx w K mg) : Cal P w K mg base 1 (fD K "pass_entry") ["self"] (spPass K) := by
  refine mkCal T.F_Doing_pass_entry sc_Doing_pass_entry (fun vs H Q E h => ?_) (fun _ _ _ _ _ _ us hl => match us, hl with | [_], _ => rfl) fun cdv A outer s H vs Q E hr h => ?_
  · obtain ⟨q, a, d, rfl, _⟩ := h
    rfl
  · obtain ⟨q, a, d, rfl, D, hst, hq⟩ := h
    refine ⟨_, pss_cons (ps_fldaug (pv 0) pe_int in_add) (pss_one (ps_if (pt_cmpR op_eq (pe_fld (pv 0) rfl) (pe_callB call_len_seq (by rfl) T.f_len (by decide +kernel) (pa_cons (pe_fld (pv 0) rfl) pa_nil)) (nomark _))
        (pss_one (ps_fld (pv 0) pe_str rfl)) (pss_one (ps_fld (pv 0) pe_str rfl)))), ?_⟩
    obtain ⟨_, e, hev, xs, he, ha2⟩ := D.es hst
    obtain ⟨D1, S1⟩ := DoAt.put (d' := { d with ix := d.ix + 1 }) D rfl rfl rfl (fun _ => D.es hst) D.vd
    have he1 := S1.tu _ _ he
    refine ⟨_, rfl, q, _, _, _, _, rfl, D.ob, T.c_Doing, T.n_Doing_index, doF_index _ _ _ _, _, _, rfl, rfl, _, _, D.ob, (by show 9 < 1000; decide), ?_⟩
    have ei : V.int ((d.ix : Int) + 1) = V.int ((d.ix + 1 : Nat) : Int) := by congr 1
    rw [ei, doF_pindex]
    generalize (upd H q (HO.ins (CD K) a.dx (doF a d.a (d.ix + 1) d.st))) = H1 at D1 S1 he1
    refine ⟨_, rfl, q, _, _, _, _, rfl, D1.ob, T.c_Doing, T.n_Doing_index, doF_index _ _ _ _, _, rfl, q, _, _, _, _, rfl, D1.ob, T.c_Doing, T.n_Doing_entries, doF_entries _ _ _ _, ?_⟩
    rw [hev]
    refine ⟨_, _, rfl, .inr (SqT.of he1), ?_⟩
    have ew : (decide (V.int ((d.ix + 1 : Nat) : Int) = V.int (xs.length : Int))) = decide (d.ix + 1 = d.es.length) := by
      rw [ha2.len]
      by_cases c : d.ix + 1 = xs.length
      · rw [decide_eq_true c, c, decide_eq_true rfl]
      · rw [decide_eq_false c, decide_eq_false]
        intro z
        injection z with z
        omega
    refine ⟨rfl, _, congrArg V.bl ew, ?_⟩
    have hp : d.pass = { { d with ix := d.ix + 1 } with st := if d.ix + 1 = d.es.length then .done else .word } := rfl
    rw [hp] at hq
    by_cases c : d.ix + 1 = d.es.length
    · refine iteT' (decide_eq_true c) ?_
      rw [if_pos c] at hq
      obtain ⟨D2, S2⟩ := D1.putSt (z := .done) hst (by intro h; rcases h with h | h <;> cases h)
      refine ⟨_, rfl, q, _, _, _, rfl, D1.ob, T.c_Doing, T.n_Doing_state, (by show 9 < 1000; decide), ?_⟩
      rw [show V.str "done" = V.str (stS .done) from rfl, doF_pstate]
      exact hq _ D2 (S1.trans S2)
    · refine iteF' (decide_eq_false c) ?_
      rw [if_neg c] at hq
      obtain ⟨D2, S2⟩ := D1.putSt (z := .word) hst (by intro h; rcases h with h | h <;> cases h)
      refine ⟨_, rfl, q, _, _, _, rfl, D1.ob, T.c_Doing, T.n_Doing_state, (by show 9 < 1000; decide), ?_⟩
      rw [show V.str "word" = V.str (stS .word) from rfl, doF_pstate]
      exact hq _ D2 (S1.trans S2)
end
end Dk

set_option Elab.async false
set_option linter.all false
set_option maxRecDepth 100000
set_option maxHeartbeats 4000000
namespace Dk
open PySem PySem.Spec PyProof.Rows L2
open DkM (TV Mem DS Req Ent Deed upC upC_same upC_ne)
section
variable {P : Program} {w : World} {K : PySem.W.Frag} {mg : Str → Option Value} {base : Heap}
/-! ### Doing(..) -/
/-- an object that is being made -/
structure Bl (H0 H : Hp) (q C dx : Addr) (fs : List (Str × V)) : Prop where
  ob : H q = some (.ins C dx fs)
  ou : ∀ x o, H0 x = some o → x ≠ q → H x = some o
  tu : TupK H0 H
theorem Bl.put {H0 H : Hp} {q C dx : Addr} {fs fs' : List (Str × V)} {k : Str} {v : V} (B : Bl H0 H q C dx fs) (e : putF k v fs = fs') : Bl H0 (upd H q (.ins C dx (putF k v fs))) q C dx fs' :=
  ⟨by rw [upd_same, e], fun x o h n => by rw [upd_ne n]; exact B.ou x o h n, B.tu.trans (TupK.upd B.ob fun ys e => by cases e)⟩
theorem Bl.new {H0 H : Hp} {q C dx p : Addr} {fs : List (Str × V)} {o : HO} (B : Bl H0 H q C dx fs) (hp : H p = none) : Bl H0 (upd H p o) q C dx fs :=
  ⟨by rw [upd_ne (ne_of_none B.ob hp)]; exact B.ob, fun x u h n => by rw [upd_ne (ne_of_none (B.ou x u h n) hp)]; exact B.ou x u h n, B.tu.trans (TupK.new hp)⟩
theorem Bl.fresh {H0 H : Hp} {q C dx p : Addr} {fs : List (Str × V)} (B : Bl H0 H q C dx fs) (hp : H p = none) : H0 p = none := by
  cases e : H0 p with
  | none => rfl
  | some o =>
    by_cases n : p = q
    · rw [n, B.ob] at hp; cases hp
    · rw [B.ou p o e n] at hp; cases hp
def spDoI (K : PySem.W.Frag) : Sp := fun vs H Q _ => ∃ (q dx : Addr) (ad : Int), vs = [.ref q, .int ad, .int 0] ∧ H q = some (.ins (CD K) dx []) ∧
  ∀ H' a, DoA K H' q a (DS.init ad) → H a.l = none → (∀ x o, H x = some o → x ≠ q → H' x = some o) → TupK H H' → Q .non H'
structure DoI (P : Program) (w : World) (K : PySem.W.Frag) (mg : Str → Option Value) (base : Heap) (k : Nat) : Prop where
  ex : ∃ fd, FnOk P w K mg base CX0 k (fD K "__init__") fd ["self", "address", "without"] (spDoI K) ∧ (∃ ds, Vals [V.int 0] ds ∧ Binds K fd ["self", "address", "without"] ds) ∧ (∃ ds, Vals [] ds ∧ Binds K fd ["self", "address", "without"] ds)
theorem ok_DoI (T : Tx w K mg) : DoI P w K mg base 1 := by
  obtain ⟨fd, F⟩ := T.F_Doing___init__
  refine ⟨fd, F.ok sc_Doing___init__ (fun vs H Q E h => ?_) fun cdv A outer s H vs Q E hr h => ?_, ?_, ?_⟩
  · obtain ⟨q, dx, ad, rfl, _⟩ := h
    rfl
  · obtain ⟨q, dx, ad, rfl, ho, hq⟩ := h
    suffices hb : ∃ t, PSs (cxOf CX0 P w K mg base ["self", "address", "without"] d_Doing___init__.qual (defScope s_Doing___init__) (fD K "__init__") cdv A outer s H E).nox (defBody s_Doing___init__) t ∧ t { nx := fun _ H' => Q .non H', rt := Q } (start ["self", "address", "without"] [.ref q, .int ad, .int 0]) H by
      obtain ⟨t, h1, h2⟩ := hb
      exact ⟨t, PSs.nox h1, h2⟩
    refine ⟨_, pss_cons (ps_fld (pv 0) (pv 1) rfl) (pss_cons (ps_fld (pv 0) (pv 2) rfl) (pss_cons (ps_fld (pv 0) pe_non rfl) (pss_cons (ps_fld (pv 0) (pe_tup pa_nil) rfl) (pss_cons (ps_fld (pv 0) pe_int rfl)
      (pss_cons (ps_fld (pv 0) pe_str rfl) (pss_cons (ps_fld (pv 0) pe_non rfl) (pss_cons (ps_fld (pv 0) pe_non rfl) (pss_one (ps_fld (pv 0) (pe_lst pa_nil) rfl))))))))), ?_⟩
    have B0 : Bl H H q (CD K) dx [] := ⟨ho, fun x o h _ => h, TupK.refl H⟩
    refine ⟨_, rfl, _, rfl, q, _, dx, _, rfl, B0.ob, T.c_Doing, T.n_Doing_address, (by show 0 < 1000; decide), ?_⟩
    have B10 := B0.put (k := "address") (v := .int ad) (fs' := [("address", .int ad)]) (putF_new (ks := []) rfl (by decide +kernel))
    refine ⟨_, rfl, _, rfl, q, _, dx, _, rfl, B10.ob, T.c_Doing, T.n_Doing_without, (by show 1 < 1000; decide), ?_⟩
    have B20 := B10.put (k := "without") (v := .int 0) (fs' := [("address", .int ad), ("without", .int 0)]) (putF_new (ks := ["address"]) rfl (by decide +kernel))
    refine ⟨_, rfl, q, _, dx, _, rfl, B20.ob, T.c_Doing, T.n_Doing_status, (by show 2 < 1000; decide), ?_⟩
    have B30 := B20.put (k := "status") (v := .non) (fs' := [("address", .int ad), ("without", .int 0), ("status", .non)]) (putF_new (ks := ["address", "without"]) rfl (by decide +kernel))
    refine ⟨(by show 0 ≤ sizeLine; decide), fun p1 hp1 => ?_⟩
    have B35 := B30.new (o := .tup []) hp1
    refine ⟨_, rfl, q, _, dx, _, rfl, B35.ob, T.c_Doing, T.n_Doing_entries, (by show 3 < 1000; decide), ?_⟩
    have B40 := B35.put (k := "entries") (v := .ref p1) (fs' := [("address", .int ad), ("without", .int 0), ("status", .non), ("entries", .ref p1)]) (putF_new (ks := ["address", "without", "status"]) rfl (by decide +kernel))
    refine ⟨_, rfl, q, _, dx, _, rfl, B40.ob, T.c_Doing, T.n_Doing_index, (by show 4 < 1000; decide), ?_⟩
    have B50 := B40.put (k := "index") (v := .int 0) (fs' := [("address", .int ad), ("without", .int 0), ("status", .non), ("entries", .ref p1), ("index", .int 0)]) (putF_new (ks := ["address", "without", "status", "entries"]) rfl (by decide +kernel))
    refine ⟨_, rfl, q, _, dx, _, rfl, B50.ob, T.c_Doing, T.n_Doing_state, (by show 5 < 1000; decide), ?_⟩
    have B60 := B50.put (k := "state") (v := .str "record") (fs' := [("address", .int ad), ("without", .int 0), ("status", .non), ("entries", .ref p1), ("index", .int 0), ("state", .str "record")]) (putF_new (ks := ["address", "without", "status", "entries", "index"]) rfl (by decide +kernel))
    refine ⟨_, rfl, q, _, dx, _, rfl, B60.ob, T.c_Doing, T.n_Doing_helper, (by show 6 < 1000; decide), ?_⟩
    have B70 := B60.put (k := "helper") (v := .non) (fs' := [("address", .int ad), ("without", .int 0), ("status", .non), ("entries", .ref p1), ("index", .int 0), ("state", .str "record"), ("helper", .non)]) (putF_new (ks := ["address", "without", "status", "entries", "index", "state"]) rfl (by decide +kernel))
    refine ⟨_, rfl, q, _, dx, _, rfl, B70.ob, T.c_Doing, T.n_Doing_verdict, (by show 7 < 1000; decide), ?_⟩
    have B80 := B70.put (k := "verdict") (v := .non) (fs' := [("address", .int ad), ("without", .int 0), ("status", .non), ("entries", .ref p1), ("index", .int 0), ("state", .str "record"), ("helper", .non), ("verdict", .non)]) (putF_new (ks := ["address", "without", "status", "entries", "index", "state", "helper"]) rfl (by decide +kernel))
    refine ⟨(by show 0 ≤ sizeLine; decide), fun p2 hp2 => ?_⟩
    have B85 := B80.new (o := .lst []) hp2
    refine ⟨_, rfl, q, _, dx, _, rfl, B85.ob, T.c_Doing, T.n_Doing_left, (by show 8 < 1000; decide), ?_⟩
    have B90 := B85.put (k := "left") (v := .ref p2) (fs' := [("address", .int ad), ("without", .int 0), ("status", .non), ("entries", .ref p1), ("index", .int 0), ("state", .str "record"), ("helper", .non), ("verdict", .non), ("left", .ref p2)]) (putF_new (ks := ["address", "without", "status", "entries", "index", "state", "helper", "verdict"]) rfl (by decide +kernel))
    exact hq _ ⟨dx, .non, .ref p1, .non, .non, p2⟩ ⟨B90.ob, fun h => absurd rfl h, ⟨[], by rw [upd_ne (ne_of_none B80.ob hp2).symm, upd_same], trivial⟩, fun h => by rcases h with h | h <;> cases h⟩ (B80.fresh hp2) B90.ou B90.tu
  · exact F.binds1 2 0 (by simp [He.DefD.dvs, d_Doing___init__]) rfl fun T kV doc pm an cdv ct us its h1 h2 => by
      match us, its, h1, h2 with
      | [u1, u2], [i1], _, _ => exact ⟨_, rfl, rfl⟩
  · exact F.binds1 3 1 (by simp [He.DefD.dvs, d_Doing___init__]) rfl fun T kV doc pm an cdv ct us its h1 h2 => by
      match us, its, h1, h2 with
      | [u1, u2, u3], [i1], _, _ => exact ⟨_, rfl, rfl⟩
end
end Dk

set_option Elab.async false
set_option linter.all false
set_option maxRecDepth 100000
set_option maxHeartbeats 4000000
namespace Dk
open PySem PySem.Spec PyProof.Rows L2
open DkM (TV Mem DS Req Ent Deed upC upC_same upC_ne)
theorem seF {a b : Str} {A B : Prop} (h : (a == b) = false) (q : B) : ∃ k, V.bl (decide (V.str a = V.str b)) = V.bl k ∧ (if k = true then A else B) := ⟨_, rfl, by rw [strF h]; exact iteF q⟩
theorem seT {a : Str} {A B : Prop} (q : A) : ∃ k, V.bl (decide (V.str a = V.str a)) = V.bl k ∧ (if k = true then A else B) := ⟨_, rfl, by rw [strT]; exact iteT q⟩
section
variable {P : Program} {w : World} {K : PySem.W.Frag} {mg : Str → Option Value} {base : Heap}
theorem mkDo {H1 : Hp} {Q : Addr → Hp → Prop} {ad : Int} {E : XK} (h : ∀ x a H', DoA K H' x a (DS.init ad) → Stp (fun _ => False) H1 (FD x a) H' → Q x H') :
    ∀ x dx, H1 x = none → H1 dx = none → dx ≠ x → spDoI K [.ref x, .int ad, .int 0] (upd (upd H1 dx (.own x)) x (.ins (CD K) dx [])) (fun v H2 => v = .non ∧ Q x H2) E := by
  intro x dx hx hdx n
  refine ⟨x, dx, ad, rfl, upd_same, fun H' a D hl ho ht => ⟨rfl, h x a H' D ⟨fun y hy => .inr ?_, fun y o hy _ => ho y o ?_ ?_, fun y xs hy => ht y xs ?_⟩⟩⟩
  · rcases hy with e | e
    · rw [e]; exact hx
    · rw [e]
      by_cases c : a.l = x
      · rw [c]; exact hx
      · rw [upd_ne c] at hl
        by_cases c2 : a.l = dx
        · rw [c2]; exact hdx
        · rw [upd_ne c2] at hl; exact hl
  · rw [upd_ne (ne_of_none hy hx), upd_ne (ne_of_none hy hdx)]; exact hy
  · exact ne_of_none hy hx
  · rw [upd_ne (ne_of_none hy hx), upd_ne (ne_of_none hy hdx)]; exact hy
/-! ### request -/
def RqA (H : Hp) (a : DA) (d : DS) (x : V) : Prop := match d.st with
  | .help => ∃ p, x = .ref p ∧ H p = some (.tup [.str "call", a.hv])
  | .fin => ∃ p, x = .ref p ∧ H p = some (.tup [.str "end", a.vv])
  | _ => ReqR H d.req x
def RqOk (d : DS) : Prop := (d.st = .word ∨ d.st = .swap → d.ix < d.es.length) ∧ (d.st = .last → d.left ≠ [])
def spReq (K : PySem.W.Frag) : Sp := fun vs H Q _ => ∃ (q : Addr) (a : DA) (d : DS), vs = [.ref q] ∧ DoA K H q a d ∧ RqOk d ∧
  ∀ H' x, Same H H' → RqA H' a d x → Q x H'
theorem ok_request (T : Tx w K mg) : Cal P w K mg base 2 (fD K "request") ["self"] (spReq K) := by
  refine mkCal T.F_Doing_request sc_Doing_request (fun vs H Q E h => ?_) (fun _ _ _ _ _ _ us hl => match us, hl with | [_], _ => rfl) fun cdv A outer s H vs Q E hr h => ?_
  · obtain ⟨q, a, d, rfl, _⟩ := h
    rfl
  · obtain ⟨q, a, d, rfl, D, ⟨ok1, ok2⟩, hq⟩ := h
    refine ⟨_, pss_cons (ps_set (i := 1) sc_Doing_request.nd rfl (Or.inl rfl) (pe_fld (pv 0) rfl))
      (pss_cons (ps_if (pt_cmpR op_eq (pv 1) pe_str (nomark _)) (pss_one (ps_ret (pe_tup (pa_cons pe_str (pa_cons (pe_fld (pv 0) rfl) pa_nil))))) pss_nil)
      (pss_cons (ps_if (PW.pt (pw_or (pt_cmpR op_eq (pv 1) pe_str (nomark _)) (pw_or1 (pt_cmpR op_eq (pv 1) pe_str (nomark _))))) (pss_one (ps_ret (pe_tup (pa_cons pe_str (pa_cons (pe_fld (pv 0) rfl) pa_nil))))) pss_nil)
      (pss_cons (ps_if (PW.pt (pw_or (pt_cmpR op_eq (pv 1) pe_str (nomark _)) (pw_or1 (pt_cmpR op_eq (pv 1) pe_str (nomark _))))) (pss_one (ps_ret (pe_tup (pa_cons pe_str (pa_cons (pe_fld (pv 0) rfl) (pa_cons (pv 1) pa_nil)))))) pss_nil)
      (pss_cons (ps_if (pt_cmpR op_eq (pv 1) pe_str (nomark _)) (pss_one (ps_ret (pe_tup (pa_cons pe_str (pa_cons (pe_fld (pv 0) rfl) pa_nil))))) pss_nil)
      (pss_cons (ps_if (pt_cmpR op_eq (pv 1) pe_str (nomark _)) (pss_one (ps_ret (pe_ix ix_list (pe_fld (pv 0) rfl) pe_int (fun _ _ => rfl)))) pss_nil)
      (pss_cons (ps_if (pt_cmpR op_eq (pv 1) pe_str (nomark _)) (pss_one (ps_ret (pe_tup (pa_cons pe_str (pa_cons (pe_fld (pv 0) rfl) pa_nil))))) pss_nil)
      (pss_cons (ps_set (i := 2) sc_Doing_request.nd rfl (Or.inl rfl) (pe_ix ix_tup (pe_fld (pv 0) rfl) (pe_fld (pv 0) rfl) (fun _ _ => rfl)))
      (pss_cons (ps_if (pt_cmpR op_eq (pv 1) pe_str (nomark _)) (pss_one (ps_ret (pe_tup (pa_cons pe_str (pa_cons (pe_ix ix_tup (pv 2) pe_int (fun _ _ => rfl)) pa_nil))))) pss_nil)
      (pss_one (ps_ret (pe_tup (pa_cons pe_str (pa_cons (pe_ix ix_tup (pv 2) pe_int (fun _ _ => rfl)) (pa_cons (pe_ix ix_tup (pv 2) pe_int (fun _ _ => rfl)) (pa_cons (pe_methC (pv 0) T.c_Doing T.m_Doing_mark_of (ok_mark_of T) hr (pa_cons (pv 2) pa_nil)) pa_nil))))))))))))))), ?_⟩
    obtain ⟨da, ds, es, ix, st, v, left⟩ := d
    refine ⟨_, rfl, q, _, _, _, _, rfl, D.ob, T.c_Doing, T.n_Doing_state, doF_state _ _ _ _, ?_⟩
    have ent : ix < es.length → DkM.St.record ≠ st → ∃ (e : Addr) (xs : List V) (x : V) (p : Addr) (en : Ent), a.ev = .ref e ∧ a.sv = .int ds ∧ H e = some (.tup xs) ∧ xs[ix]? = some x ∧ x = .ref p ∧ H p = some (.tup [.int en.1, .int en.2.1, .int en.2.2]) ∧ es.getD ix (0, 0, 0) = en := fun hi hs => by
      obtain ⟨h1, e, h2, xs, h3, h4⟩ := D.es hs.symm
      obtain ⟨x, h5, p, h6, h7⟩ := h4.get (List.getElem?_eq_getElem hi)
      exact ⟨e, xs, x, p, es[ix], h2, h1, h3, h5, h6, h7, by rw [List.getD_eq_getElem?_getD, List.getElem?_eq_getElem hi]; rfl⟩
    cases st with
    | record =>
      refine ⟨_, rfl, rfl, seT ?_⟩
      refine ⟨_, rfl, q, _, _, _, _, rfl, D.ob, T.c_Doing, T.n_Doing_address, doF_address _ _ _ _, (by show 2 ≤ sizeLine; decide), fun p hp => ?_⟩
      exact hq _ _ (same_new hp) ⟨p, rfl, upd_same⟩
    | status =>
      obtain ⟨hsv, _⟩ := D.es (by intro h; cases h)
      refine ⟨_, rfl, rfl, seF (show (stS .status == _) = false by decide +kernel) ⟨_, rfl, rfl, seT ?_⟩⟩
      refine ⟨_, rfl, q, _, _, _, _, rfl, D.ob, T.c_Doing, T.n_Doing_status, doF_status _ _ _ _, (by show 2 ≤ sizeLine; decide), fun p hp => ?_⟩
      exact hq _ _ (same_new hp) ⟨p, rfl, by rw [upd_same, hsv]⟩
    | final =>
      obtain ⟨hsv, _⟩ := D.es (by intro h; cases h)
      refine ⟨_, rfl, rfl, seF (show (stS .final == _) = false by decide +kernel) ⟨_, rfl, rfl, seF (show (stS .final == _) = false by decide +kernel) ⟨_, rfl, rfl, seT ?_⟩⟩⟩
      refine ⟨_, rfl, q, _, _, _, _, rfl, D.ob, T.c_Doing, T.n_Doing_status, doF_status _ _ _ _, (by show 2 ≤ sizeLine; decide), fun p hp => ?_⟩
      exact hq _ _ (same_new hp) ⟨p, rfl, by rw [upd_same, hsv]⟩
    | failed =>
      obtain ⟨hsv, _⟩ := D.es (by intro h; cases h)
      refine ⟨_, rfl, rfl, seF (show (stS .failed == _) = false by decide +kernel) ⟨_, rfl, rfl, seF (show (stS .failed == _) = false by decide +kernel) ⟨_, rfl, rfl, seF (show (stS .failed == _) = false by decide +kernel) ⟨_, rfl, rfl, seT ?_⟩⟩⟩⟩
      refine ⟨_, rfl, q, _, _, _, _, rfl, D.ob, T.c_Doing, T.n_Doing_status, doF_status _ _ _ _, _, rfl, (by show 3 ≤ sizeLine; decide), fun p hp => ?_⟩
      exact hq _ _ (same_new hp) ⟨p, rfl, by rw [upd_same, hsv]; rfl⟩
    | done =>
      obtain ⟨hsv, _⟩ := D.es (by intro h; cases h)
      refine ⟨_, rfl, rfl, seF (show (stS .done == _) = false by decide +kernel) ⟨_, rfl, rfl, seF (show (stS .done == _) = false by decide +kernel) ⟨_, rfl, rfl, seF (show (stS .done == _) = false by decide +kernel) ⟨_, rfl, rfl, seF (show (stS .done == _) = false by decide +kernel) ⟨_, rfl, rfl, seT ?_⟩⟩⟩⟩⟩
      refine ⟨_, rfl, q, _, _, _, _, rfl, D.ob, T.c_Doing, T.n_Doing_status, doF_status _ _ _ _, _, rfl, (by show 3 ≤ sizeLine; decide), fun p hp => ?_⟩
      exact hq _ _ (same_new hp) ⟨p, rfl, by rw [upd_same, hsv]; rfl⟩
    | help =>
      refine ⟨_, rfl, rfl, seF (show (stS .help == _) = false by decide +kernel) ⟨_, rfl, rfl, seF (show (stS .help == _) = false by decide +kernel) ⟨_, rfl, rfl, seF (show (stS .help == _) = false by decide +kernel) ⟨_, rfl, rfl, seF (show (stS .help == _) = false by decide +kernel) ⟨_, rfl, rfl, seF (show (stS .help == _) = false by decide +kernel) ⟨_, rfl, rfl, seT ?_⟩⟩⟩⟩⟩⟩
      refine ⟨_, rfl, q, _, _, _, _, rfl, D.ob, T.c_Doing, T.n_Doing_helper, doF_helper _ _ _ _, (by show 2 ≤ sizeLine; decide), fun p hp => ?_⟩
      exact hq _ _ (same_new hp) ⟨p, rfl, upd_same⟩
    | last =>
      refine ⟨_, rfl, rfl, seF (show (stS .last == _) = false by decide +kernel) ⟨_, rfl, rfl, seF (show (stS .last == _) = false by decide +kernel) ⟨_, rfl, rfl, seF (show (stS .last == _) = false by decide +kernel) ⟨_, rfl, rfl, seF (show (stS .last == _) = false by decide +kernel) ⟨_, rfl, rfl, seF (show (stS .last == _) = false by decide +kernel) ⟨_, rfl, rfl, seF (show (stS .last == _) = false by decide +kernel) ⟨_, rfl, rfl, seT ?_⟩⟩⟩⟩⟩⟩⟩
      obtain ⟨xs, hx, ha⟩ := D.le
      have ha : All2 (ReqR H) left xs := ha
      have hn := ok2 rfl
      match left, hn, xs, hx, ha with
      | r :: left, _, x :: xs, hx, ha =>
        refine ⟨_, rfl, q, _, _, _, _, rfl, D.ob, T.c_Doing, T.n_Doing_left, doF_left _ _ _ _, _, _, _, _, rfl, rfl, SqL.of hx, atI_nat (j := 0) rfl, ?_⟩
        exact hq _ _ (fun _ _ h => h) (show ReqR H r x ∧ All2 (ReqR H) left xs from ha).1
      | r :: left, _, [], hx, ha => exact (show False from ha).elim
      | [], hn, _, _, _ => exact absurd rfl hn
    | fin =>
      refine ⟨_, rfl, rfl, seF (show (stS .fin == _) = false by decide +kernel) ⟨_, rfl, rfl, seF (show (stS .fin == _) = false by decide +kernel) ⟨_, rfl, rfl, seF (show (stS .fin == _) = false by decide +kernel) ⟨_, rfl, rfl, seF (show (stS .fin == _) = false by decide +kernel) ⟨_, rfl, rfl, seF (show (stS .fin == _) = false by decide +kernel) ⟨_, rfl, rfl, seF (show (stS .fin == _) = false by decide +kernel) ⟨_, rfl, rfl, seF (show (stS .fin == _) = false by decide +kernel) ⟨_, rfl, rfl, seT ?_⟩⟩⟩⟩⟩⟩⟩⟩
      refine ⟨_, rfl, q, _, _, _, _, rfl, D.ob, T.c_Doing, T.n_Doing_verdict, doF_verdict _ _ _ _, (by show 2 ≤ sizeLine; decide), fun p hp => ?_⟩
      exact hq _ _ (same_new hp) ⟨p, rfl, upd_same⟩
    | word =>
      refine ⟨_, rfl, rfl, seF (show (stS .word == _) = false by decide +kernel) ⟨_, rfl, rfl, seF (show (stS .word == _) = false by decide +kernel) ⟨_, rfl, rfl, seF (show (stS .word == _) = false by decide +kernel) ⟨_, rfl, rfl, seF (show (stS .word == _) = false by decide +kernel) ⟨_, rfl, rfl, seF (show (stS .word == _) = false by decide +kernel) ⟨_, rfl, rfl, seF (show (stS .word == _) = false by decide +kernel) ⟨_, rfl, rfl, seF (show (stS .word == _) = false by decide +kernel) ⟨_, rfl, rfl, seF (show (stS .word == _) = false by decide +kernel) ?_⟩⟩⟩⟩⟩⟩⟩⟩
      obtain ⟨e, xs, x, p, en, h1, hsv, h2, h3, h4, h5, h6⟩ := ent (ok1 (.inl rfl)) (by intro h; cases h)
      refine ⟨_, rfl, q, _, _, _, _, rfl, D.ob, T.c_Doing, T.n_Doing_entries, doF_entries _ _ _ _, _, rfl, q, _, _, _, _, rfl, D.ob, T.c_Doing, T.n_Doing_index, doF_index _ _ _ _, _, _, _, _, h1, rfl, SqT.of h2, atI_nat h3, ?_⟩
      subst h4
      refine ⟨_, rfl, rfl, seT ⟨_, rfl, _, _, _, _, rfl, rfl, SqT.of h5, atI_nat (j := 0) rfl, (by show 2 ≤ sizeLine; decide), fun p2 hp => ?_⟩⟩
      exact hq _ _ (same_new hp) ⟨p2, rfl, by rw [upd_same, ← h6]; rfl⟩
    | swap =>
      refine ⟨_, rfl, rfl, seF (show (stS .swap == _) = false by decide +kernel) ⟨_, rfl, rfl, seF (show (stS .swap == _) = false by decide +kernel) ⟨_, rfl, rfl, seF (show (stS .swap == _) = false by decide +kernel) ⟨_, rfl, rfl, seF (show (stS .swap == _) = false by decide +kernel) ⟨_, rfl, rfl, seF (show (stS .swap == _) = false by decide +kernel) ⟨_, rfl, rfl, seF (show (stS .swap == _) = false by decide +kernel) ⟨_, rfl, rfl, seF (show (stS .swap == _) = false by decide +kernel) ⟨_, rfl, rfl, seF (show (stS .swap == _) = false by decide +kernel) ?_⟩⟩⟩⟩⟩⟩⟩⟩
      obtain ⟨e, xs, x, p, en, h1, hsv, h2, h3, h4, h5, h6⟩ := ent (ok1 (.inr rfl)) (by intro h; cases h)
      refine ⟨_, rfl, q, _, _, _, _, rfl, D.ob, T.c_Doing, T.n_Doing_entries, doF_entries _ _ _ _, _, rfl, q, _, _, _, _, rfl, D.ob, T.c_Doing, T.n_Doing_index, doF_index _ _ _ _, _, _, _, _, h1, rfl, SqT.of h2, atI_nat h3, ?_⟩
      subst h4
      refine ⟨_, rfl, rfl, seF (show (stS .swap == _) = false by decide +kernel) ?_⟩
      refine ⟨_, rfl, _, _, _, _, rfl, rfl, SqT.of h5, atI_nat (j := 0) rfl, _, rfl, _, _, _, _, rfl, rfl, SqT.of h5, atI_nat (j := 1) rfl, ?_⟩
      refine ⟨_, rfl, q, _, _, rfl, D.ob, doF_no _ _ _ _ (by decide +kernel), _, rfl, q, a, _, en, _, rfl, D, (by intro h; cases h), ⟨p, rfl, h5⟩, fun m hm => ⟨(by show 4 ≤ sizeLine; decide), fun p2 hp => ?_⟩⟩
      exact hq _ _ (fun y o h => same_new hp y o (same_new hm y o h)) ⟨p2, _, _, rfl, by rw [upd_same, ← h6]; rfl, rfl, m, rfl, by rw [upd_ne (ne_of_none upd_same hp), upd_same]; rw [← h6]; rfl⟩
end
end Dk

set_option Elab.async false
set_option linter.all false
set_option maxRecDepth 100000
set_option maxHeartbeats 4000000
namespace Dk
open PySem PySem.Spec PyProof.Rows L2
open DkM (TV Mem DS Req Ent Deed upC upC_same upC_ne)
section
variable {P : Program} {w : World} {K : PySem.W.Frag} {mg : Str → Option Value} {base : Heap}
/-! ### last_requests -/
theorem dec_ne {a b : Int} (h : a ≠ b) : decide (V.int a = V.int b) = false := decide_eq_false fun z => by injection z with z; exact h z
def VdOk (v : TV) : Prop := ∃ t, v = .don t ∨ v = .fai t
def spLastR (K : PySem.W.Frag) : Sp := fun vs H Q _ => ∃ (q : Addr) (a : DA) (d : DS) (v : TV), vs = [.ref q] ∧ DoA K H q a d ∧ d.st ≠ .record ∧ d.es.length ≤ 100 ∧ VdOk v ∧ RT H v a.vv ∧
  ∀ H' l xs, H l = none → H' l = some (.lst xs) → All2 (ReqR H') (d.lasts v) xs → Same H H' → Q (.ref l) H'
theorem ok_last_requests (T : Tx w K mg) : Cal P w K mg base 2 (fD K "last_requests") ["self"] (spLastR K) := by
  refine mkCal T.F_Doing_last_requests sc_Doing_last_requests (fun vs H Q E h => ?_) (fun _ _ _ _ _ _ us hl => match us, hl with | [_], _ => rfl) fun cdv A outer s H vs Q E hr h => ?_
  · obtain ⟨q, a, d, v, rfl, _⟩ := h
    rfl
  · obtain ⟨q, a, d, v, rfl, D, hst, hlen, hv, rv, hq⟩ := h
    obtain ⟨t1, g1⟩ := T.i_NO_STATUS_FLUSH
    obtain ⟨t2, g2⟩ := T.i_NO_WORD_FLUSH
    refine ⟨_, pss_cons (ps_set (i := 1) sc_Doing_last_requests.nd rfl (Or.inl rfl) (pe_lst pa_nil))
      (pss_cons (ps_if (pt_cmpR op_ne (pe_fld (pv 0) rfl) (pe_glob (v := .int 4) (by rfl) g1 ⟨_, rfl⟩) (nomark _))
        (pss_one (ps_set (i := 1) sc_Doing_last_requests.nd rfl (Or.inl rfl) (pe_lst (pa_cons (pe_tup (pa_cons pe_str (pa_cons (pe_fld (pv 0) rfl) pa_nil))) (pa_cons (pe_tup (pa_cons pe_str pa_nil)) pa_nil))))) pss_nil)
      (pss_cons (ps_for PassesOwn.never rfl (pi_tup (pe_fld (pv 0) rfl)) (pg_name (i := 2) sc_Doing_last_requests.nd rfl (Or.inl rfl))
        (pss_cons (ps_set (i := 3) sc_Doing_last_requests.nd rfl (Or.inl rfl) (pe_ix ix_tup (pv 2) pe_int (fun _ _ => rfl)))
        (pss_cons (ps_if (pt_cmpR op_eq (pe_ix ix_tup (pe_fld (pv 0) rfl) pe_int (fun _ _ => rfl)) pe_str (nomark _)) (pss_one (ps_set (i := 3) sc_Doing_last_requests.nd rfl (Or.inl rfl) (pe_ix ix_tup (pv 2) pe_int (fun _ _ => rfl)))) pss_nil)
        (pss_one (ps_expr (pe_bm PySem.F.plainAttrs_list PySem.F.slot_list_append PySem.F.type_list_append mt_append (pv 1) (pa_cons (pe_tup (pa_cons pe_str (pa_cons (pe_ix ix_tup (pv 2) pe_int (fun _ _ => rfl))
          (pa_cons (pe_methC (pv 0) T.c_Doing T.m_Doing_mark_of (ok_mark_of T) hr (pa_cons (pv 2) pa_nil)) (pa_cons (pv 3) pa_nil))))) pa_nil)))))))
      (pss_cons (ps_if (pt_cmpR op_ne (pe_fld (pv 0) rfl) (pe_glob (v := .int 5) (by rfl) g2 ⟨_, rfl⟩) (nomark _))
        (pss_one (ps_set (i := 1) sc_Doing_last_requests.nd rfl (Or.inl rfl) (pe_op op_cat (pe_op op_cat (pv 1)
          (pe_lc (own := [("entry", 2)]) (g := gName 2) (tt := tYes) (by rfl) sc_Doing_last_requests.nd (pi_tup (pe_fld (pv 0) rfl)) (blkOk_by (own := [("entry", 2)]) (N := ["self", "requests", "entry", "shown"]) (sc := defScope s_Doing_last_requests) (by decide +kernel))
            (fun _ _ _ _ _ => pg_name (i := 2) sc_Doing_last_requests.nd rfl (Or.inl rfl)) (fun _ _ _ _ _ => pts_nil) (fun _ _ _ _ _ => pe_tup (pa_cons pe_str (pa_cons (pe_ix (show IxR _ (rIxT K) from ix_tup) (pv 2) pe_int (fun _ _ => rfl)) pa_nil)))))
          (pe_lst (pa_cons (pe_tup (pa_cons pe_str pa_nil)) pa_nil))))) pss_nil)
      (pss_one (ps_ret (pv 1)))))), ?_⟩
    obtain ⟨hsv, e, hev, xs, he, ha⟩ := D.es hst
    have hlx : xs.length ≤ 100 := by rw [← ha.len]; exact hlen
    refine ⟨(by show 0 ≤ sizeLine; decide), fun l0 hl0 => ?_⟩
    have S0 : Same H (upd H l0 (.lst [])) := same_new hl0
    have D0 := D.same S0
    refine ⟨_, rfl, q, _, _, _, _, rfl, D0.ob, T.c_Doing, T.n_Doing_without, doF_without _ _ _ _, rfl, true, congrArg V.bl (by rw [dec_ne (by decide)]; rfl), iteT ?_⟩
    refine ⟨_, rfl, q, _, _, _, _, rfl, D0.ob, T.c_Doing, T.n_Doing_status, doF_status _ _ _ _, (by show 2 ≤ sizeLine; decide), fun f1 hf1 => ⟨(by show 1 ≤ sizeLine; decide), fun f2 hf2 => ⟨(by show 2 ≤ sizeLine; decide), fun l hl => ?_⟩⟩⟩
    rw [hsv]
    rw [hsv] at hf2 hl
    have S1 : Same H (upd (upd (upd (upd H l0 (.lst [])) f1 (.tup [.str "flush", .int d.s])) f2 (.tup [.str "fence"])) l (.lst [.ref f1, .ref f2])) := fun y o h => same_new hl y o (same_new hf2 y o (same_new hf1 y o (S0 y o h)))
    have hll : H l = none := by
      cases c : H l with
      | none => rfl
      | some o => rw [same_new hf2 l o (same_new hf1 l o (S0 l o c))] at hl; cases hl
    have R1 : All2 (ReqR (upd (upd (upd (upd H l0 (.lst [])) f1 (.tup [.str "flush", .int d.s])) f2 (.tup [.str "fence"])) l (.lst [.ref f1, .ref f2]))) [.flush d.s, .fence] [.ref f1, .ref f2] := by
      have a1 : (upd (upd (upd H l0 (.lst [])) f1 (.tup [.str "flush", .int d.s])) f2 (.tup [.str "fence"])) f1 = some (.tup [.str "flush", .int d.s]) := same_new hf2 _ _ upd_same
      refine ⟨⟨f1, rfl, same_new hl _ _ a1⟩, ⟨f2, rfl, same_new hl _ _ upd_same⟩, trivial⟩
    have L1 : (upd (upd (upd (upd H l0 (.lst [])) f1 (.tup [.str "flush", .int d.s])) f2 (.tup [.str "fence"])) l (.lst [.ref f1, .ref f2])) l = some (.lst [.ref f1, .ref f2]) := upd_same
    generalize (upd (upd (upd (upd H l0 (.lst [])) f1 (.tup [.str "flush", .int d.s])) f2 (.tup [.str "fence"])) l (.lst [.ref f1, .ref f2])) = H1 at S1 R1 L1
    have D1 := D.same S1
    refine ⟨_, rfl, q, _, _, _, _, rfl, D1.ob, T.c_Doing, T.n_Doing_entries, doF_entries _ _ _ _, e, hev, ⟨_, SqT.of (S1 _ _ he)⟩, ?_⟩
    refine for_tup (K := K) (xs := xs) (fun i σ H3 => ∃ y2 y3 zs, σ = [some (.ref q), some (.ref l), y2, y3] ∧ Same H H3 ∧ H3 l = some (.lst zs) ∧ zs.length = 2 + i ∧
      All2 (ReqR H3) ([.flush d.s, .fence] ++ (d.es.take i).map (fun e => Req.swap e.1 (d.mk1 e) (.int (DS.shown v e)))) zs)
      ⟨none, none, _, rfl, S1, L1, rfl, R1⟩ (fun i σ H3 _ ⟨_, _, _, _, s3, _⟩ => SqT.of (s3 _ _ he)) ?_ ?_
    · rintro i x σ H3 hi ⟨y2, y3, zs, rfl, S3, L3, len3, R3⟩
      have hi2 : i < xs.length := by
        by_cases c : i < xs.length
        · exact c
        · rw [List.getElem?_eq_none (by omega)] at hi; cases hi
      obtain ⟨en, hen, p, rfl, hp⟩ := ha.get' hi
      have D3 := D.same S3
      have hp3 := S3 _ _ hp
      have rv3 := RT.mono (TupK.of_same S3) _ _ rv
      refine ⟨_, rfl, _, _, _, _, rfl, rfl, SqT.of hp3, atI_nat (j := 1) rfl, ?_⟩
      have fin : ∀ sh : Int, sh = DS.shown v en → ∀ mp, H3 mp = none → ∀ sp, (upd H3 mp (.tup [.int d.a, .int d.s, .int en.2.1, .int en.2.2])) sp = none → ∀ Hn, Hn = upd (upd (upd H3 mp (.tup [.int d.a, .int d.s, .int en.2.1, .int en.2.2])) sp (.tup [.str "swap", .int en.1, .ref mp, .int sh])) l (.lst (zs ++ [.ref sp])) →
          Same H Hn ∧ Hn l = some (.lst (zs ++ [.ref sp])) ∧ (zs ++ [V.ref sp]).length = 2 + (i + 1) ∧ All2 (ReqR Hn) ([.flush d.s, .fence] ++ (d.es.take (i + 1)).map (fun e => Req.swap e.1 (d.mk1 e) (.int (DS.shown v e)))) (zs ++ [.ref sp]) := by
        intro sh hsh mp hmp sp hsp Hn e
        have s4 : Same H3 (upd (upd H3 mp (.tup [.int d.a, .int d.s, .int en.2.1, .int en.2.2])) sp (.tup [.str "swap", .int en.1, .ref mp, .int sh])) := fun y o h => same_new hsp y o (same_new hmp y o h)
        have m1 : (upd (upd H3 mp (.tup [.int d.a, .int d.s, .int en.2.1, .int en.2.2])) sp (.tup [.str "swap", .int en.1, .ref mp, .int sh])) mp = some (.tup [.int d.a, .int d.s, .int en.2.1, .int en.2.2]) := same_new hsp _ _ upd_same
        have m2 : (upd (upd H3 mp (.tup [.int d.a, .int d.s, .int en.2.1, .int en.2.2])) sp (.tup [.str "swap", .int en.1, .ref mp, .int sh])) sp = some (.tup [.str "swap", .int en.1, .ref mp, .int sh]) := upd_same
        have l4 := s4 _ _ L3
        generalize (upd (upd H3 mp (.tup [.int d.a, .int d.s, .int en.2.1, .int en.2.2])) sp (.tup [.str "swap", .int en.1, .ref mp, .int sh])) = H4 at *
        subst e
        have t5 : TupK H4 (upd H4 l (.lst (zs ++ [.ref sp]))) := TupK.upd l4 fun ys z => by cases z
        refine ⟨fun y o h => ?_, upd_same, by rw [List.length_append, len3]; rfl, ?_⟩
        · rw [upd_ne (ne_of_none h hll)]
          exact s4 y o (S3 y o h)
        · rw [List.take_add_one, hen, List.map_append, ← List.append_assoc]
          refine All2.app (R3.mono (ReqR.mono ((TupK.of_same s4).trans t5))) ⟨⟨sp, _, _, rfl, t5 _ _ m2, ⟨mp, rfl, t5 _ _ m1⟩, by rw [hsh]; rfl⟩, trivial⟩
      have zl : zs.length < sizeLine := by rw [len3]; exact Nat.lt_of_le_of_lt (show 2 + i ≤ 1000 by omega) (by decide)
      refine ⟨_, rfl, q, _, _, _, _, rfl, D3.ob, T.c_Doing, T.n_Doing_verdict, doF_verdict _ _ _ _, ?_⟩
      obtain ⟨t, hv⟩ := hv
      rcases hv with rfl | rfl
      · obtain ⟨vp, evv, hvp⟩ := rv3
        refine ⟨_, _, _, _, evv, rfl, SqT.of hvp, atI_nat (j := 0) rfl, rfl, seT ⟨_, rfl, _, _, _, _, rfl, rfl, SqT.of hp3, atI_nat (j := 2) rfl, ?_⟩⟩
        refine ⟨_, rfl, .inl ⟨rfl, _, SqL.of L3⟩, _, rfl, _, _, _, _, rfl, rfl, SqT.of hp3, atI_nat (j := 0) rfl, _, rfl, q, _, _, rfl, D3.ob, doF_no _ _ _ _ (by decide +kernel), _, rfl, q, a, d, en, _, rfl, D3, hst, ⟨p, rfl, hp3⟩, fun mp hmp => ⟨_, rfl, (by show 4 ≤ sizeLine; decide), fun sp hsp => ?_⟩⟩
        obtain ⟨f1, f2, f3, f4⟩ := fin en.2.2 rfl mp hmp sp hsp _ rfl
        exact ⟨_, _, _, rfl, rfl, same_new hsp _ _ (same_new hmp _ _ L3), zl, _, _, _, rfl, f1, f2, f3, f4⟩
      · obtain ⟨vp, evv, hvp⟩ := rv3
        refine ⟨_, _, _, _, evv, rfl, SqT.of hvp, atI_nat (j := 0) rfl, rfl, seF (by decide +kernel) ?_⟩
        refine ⟨_, rfl, .inl ⟨rfl, _, SqL.of L3⟩, _, rfl, _, _, _, _, rfl, rfl, SqT.of hp3, atI_nat (j := 0) rfl, _, rfl, q, _, _, rfl, D3.ob, doF_no _ _ _ _ (by decide +kernel), _, rfl, q, a, d, en, _, rfl, D3, hst, ⟨p, rfl, hp3⟩, fun mp hmp => ⟨_, rfl, (by show 4 ≤ sizeLine; decide), fun sp hsp => ?_⟩⟩
        obtain ⟨f1, f2, f3, f4⟩ := fin en.2.1 rfl mp hmp sp hsp _ rfl
        exact ⟨_, _, _, rfl, rfl, same_new hsp _ _ (same_new hmp _ _ L3), zl, _, _, _, rfl, f1, f2, f3, f4⟩
    · rintro σ H3 ⟨y2, y3, zs, rfl, S3, L3, len3, R3⟩
      rw [List.take_of_length_le (by rw [ha.len]; exact Nat.le_refl _)] at R3
      have D3 := D.same S3
      refine ⟨_, rfl, q, _, _, _, _, rfl, D3.ob, T.c_Doing, T.n_Doing_without, doF_without _ _ _ _, rfl, true, congrArg V.bl (by rw [dec_ne (by decide)]; rfl), iteT ?_⟩
      refine ⟨_, rfl, _, rfl, q, _, _, _, _, rfl, D3.ob, T.c_Doing, T.n_Doing_entries, doF_entries _ _ _ _, e, hev, ⟨_, SqT.of (S3 _ _ he)⟩, fun Dl hDl => ?_⟩
      refine lc_tup (K := K) (a := e) (xs := xs) (fun i H' => ∃ ws, Same H3 H' ∧ H' Dl = some (.lst ws) ∧ ws.length = i ∧ All2 (ReqR H') ((d.es.take i).map fun e => Req.flush e.1) ws) ⟨[], same_new hDl, upd_same, rfl, trivial⟩
        (fun i H' _ ⟨_, s4, _⟩ => SqT.of (s4 _ _ (S3 _ _ he))) ?_ ?_
      · rintro i x H4 hi ⟨ws, S4, L4, len4, R4⟩
        have hi2 : i < xs.length := by
          by_cases c : i < xs.length
          · exact c
          · rw [List.getElem?_eq_none (by omega)] at hi; cases hi
        obtain ⟨en, hen, p, rfl, hp⟩ := ha.get' hi
        have hp4 := S4 _ _ (S3 _ _ hp)
        refine ⟨rfl, ?_⟩
        refine ⟨_, rfl, _, _, _, _, rfl, rfl, SqT.of hp4, atI_nat (j := 0) rfl, (by show 2 ≤ sizeLine; decide), fun sp hsp => ⟨ws, same_new hsp _ _ L4, by rw [len4]; exact Nat.lt_of_le_of_lt (show i ≤ 1000 by omega) (by decide), ?_⟩⟩
        have l5 := same_new hsp (o := .tup [.str "flush", .int en.1]) _ _ L4
        have t5 : TupK (upd H4 sp (.tup [.str "flush", .int en.1])) (upd (upd H4 sp (.tup [.str "flush", .int en.1])) Dl (.lst (ws ++ [.ref sp]))) := TupK.upd l5 fun ys z => by cases z
        refine ⟨_, fun y o h => ?_, upd_same, by rw [List.length_append, len4]; rfl, ?_⟩
        · rw [upd_ne (ne_of_none h hDl)]
          exact same_new hsp y o (S4 y o h)
        · rw [List.take_add_one, hen, List.map_append]
          exact (R4.mono (ReqR.mono ((TupK.new hsp).trans t5))).app ⟨⟨sp, rfl, t5 _ _ upd_same⟩, trivial⟩
      · rintro H4 ⟨ws, S4, L4, len4, R4⟩
        rw [List.take_of_length_le (by rw [ha.len]; exact Nat.le_refl _)] at R4
        have big : zs.length + ws.length + 1 ≤ sizeLine := by rw [len3, len4]; exact Nat.le_trans (show 2 + xs.length + xs.length + 1 ≤ 1000 by omega) (by decide)
        refine ⟨l, Dl, zs, ws, rfl, rfl, S4 _ _ L3, L4, by omega, fun l5 hl5 => ⟨(by show 1 ≤ sizeLine; decide), fun f6 hf6 => ⟨(by show 1 ≤ sizeLine; decide), fun l6 hl6 => ⟨l5, l6, zs ++ ws, [.ref f6], rfl, rfl, ?_, upd_same, ?_, fun l7 hl7 => ?_⟩⟩⟩⟩
        · exact same_new hl6 _ _ (same_new hf6 _ _ upd_same)
        · rw [List.length_append]; show zs.length + ws.length + 1 ≤ sizeLine; exact big
        · have S7 : Same H (upd (upd (upd (upd H4 l5 (.lst (zs ++ ws))) f6 (.tup [.str "fence"])) l6 (.lst [.ref f6])) l7 (.lst (zs ++ ws ++ [.ref f6]))) := fun y o h => same_new hl7 y o (same_new hl6 y o (same_new hf6 y o (same_new hl5 y o (S4 y o (S3 y o h)))))
          have S47 : Same H4 (upd (upd (upd (upd H4 l5 (.lst (zs ++ ws))) f6 (.tup [.str "fence"])) l6 (.lst [.ref f6])) l7 (.lst (zs ++ ws ++ [.ref f6]))) := fun y o h => same_new hl7 y o (same_new hl6 y o (same_new hf6 y o (same_new hl5 y o h)))
          refine ⟨_, rfl, hq _ l7 _ ?_ upd_same ?_ S7⟩
          · cases c : H l7 with
            | none => rfl
            | some o => rw [same_new hl6 _ _ (same_new hf6 _ _ (same_new hl5 _ _ (S4 _ _ (S3 _ _ c))))] at hl7; cases hl7
          · unfold DkM.DS.lasts
            refine All2.app (All2.app (R3.mono (ReqR.mono (TupK.of_same fun y o h => S47 y o (S4 y o h)))) (R4.mono (ReqR.mono (TupK.of_same S47)))) ⟨⟨f6, rfl, ?_⟩, trivial⟩
            exact same_new hl7 _ _ (same_new hl6 _ _ upd_same)
end
end Dk

set_option Elab.async false
set_option linter.all false
set_option maxRecDepth 100000
set_option maxHeartbeats 4000000
namespace Dk
open PySem PySem.Spec PyProof.Rows L2
open DkM (TV Mem DS Req Ent Deed upC upC_same upC_ne)
theorem eqD_int0 {H : Hp} {K : PySem.W.Frag} {v w : TV} {x y : V} {A B : Prop} (rx : RT H v x) (ry : RT H w y) (f1 : flatT v = true) (f2 : flatT w = true) (q : if v = w then A else B) :
    ∃ d e, Dp K H x d ∧ Dp K H y e ∧ SeqAt.shaped d = true ∧ SeqAt.shaped e = true ∧ ∃ k, V.bl (PyData.eqv d e) = V.bl k ∧ (if k = true then A else B) := by
  refine ⟨_, _, RT.dp rx f1, RT.dp ry f2, pd_shaped f1, pd_shaped f2, decide (v = w), congrArg V.bl (pd_eqv f1 f2), ?_⟩
  by_cases c : v = w
  · rw [if_pos c] at q
    rw [decide_eq_true c]; exact iteT q
  · rw [if_neg c] at q
    rw [decide_eq_false c]; exact iteF q
section
variable {C q : Addr} {a : DA} {d : DS} {H H' : Hp}
/-- a new list of requests -/
theorem DoAt.putL (D : DoAt C H q a d) {l : Addr} {xs : List V} {rs : List Req} (s : Same H H') (hl : H l = none) (hx : H' l = some (.lst xs)) (ha : All2 (ReqR H') rs xs) :
    DoAt C (upd H' q (.ins C a.dx (doF { a with l := l } d.a d.ix d.st))) q { a with l := l } { d with left := rs } ∧ Stp (FD q a) H (FD q { a with l := l }) (upd H' q (.ins C a.dx (doF { a with l := l } d.a d.ix d.st))) := by
  have ob := s _ _ D.ob
  have tk0 : TupK H' (upd H' q (.ins C a.dx (doF { a with l := l } d.a d.ix d.st))) := TupK.upd ob fun ys e => by cases e
  have tk := (TupK.of_same s).trans tk0
  have nq : l ≠ q := fun e => by rw [e, D.ob] at hl; cases hl
  refine ⟨⟨upd_same, fun h => ?_, ⟨xs, by rw [upd_ne nq]; exact hx, ha.mono (ReqR.mono tk0)⟩, fun h => RT.mono tk _ _ (D.vd h)⟩, fun x h => ?_, fun x o hx f => ?_, tk⟩
  · obtain ⟨h1, e, h2, h3⟩ := D.es h
    exact ⟨h1, e, h2, h3.mono tk⟩
  · rcases h with h | h
    · exact .inl (.inl h)
    · right
      rw [h]; exact hl
  · rw [upd_ne fun e => f (.inl e)]; exact s _ _ hx
end
section
variable {P : Program} {w : World} {K : PySem.W.Frag} {mg : Str → Option Value} {base : Heap}
/-! ### take_status -/
def spTS (K : PySem.W.Frag) : Sp := fun vs H Q _ => ∃ (q : Addr) (a : DA) (d : DS) (v : TV) (x : V), vs = [.ref q, x] ∧ DoA K H q a d ∧ (d.st = .status ∨ d.st = .final) ∧ d.es.length ≤ 100 ∧ (v = .int 0 ∨ VdOk v) ∧ RT H v x ∧
  ∀ H' a', DoA K H' q a' (d.takeStatus v) → Stp (FD q a) H (FD q a') H' → Q .non H'
theorem flat_vd {v : TV} (h : v = .int 0 ∨ VdOk v) : flatT v = true := by
  rcases h with rfl | ⟨t, rfl | rfl⟩ <;> rfl
theorem ok_take_status (T : Tx w K mg) : Cal P w K mg base 3 (fD K "take_status") ["self", "value"] (spTS K) := by
  refine mkCal T.F_Doing_take_status sc_Doing_take_status (fun vs H Q E h => ?_) (fun _ _ _ _ _ _ us hl => match us, hl with | [_, _], _ => rfl) fun cdv A outer s H vs Q E hr h => ?_
  · obtain ⟨q, a, d, v, x, rfl, _⟩ := h
    rfl
  · obtain ⟨q, a, d, v, x, rfl, D, hst, hlen, hv, rv, hq⟩ := h
    refine ⟨_, pss_cons (ps_if (pt_cmpR (op_eqD hr.units) (pv 1) pe_int (nomark _)) (pss_cons (ps_fld (pv 0) pe_str rfl) (pss_one ps_retN)) pss_nil)
      (pss_cons (ps_fld (pv 0) (pv 1) rfl) (pss_cons (ps_fld (pv 0) (pe_methC0 (pv 0) T.c_Doing T.m_Doing_last_requests (ok_last_requests T) hr) rfl) (pss_one (ps_fld (pv 0) pe_str rfl)))), ?_⟩
    have nrec : d.st ≠ .record := by rcases hst with h | h <;> rw [h] <;> intro z <;> cases z
    have nlast : d.st = .last ∨ d.st = .fin → False := by rcases hst with h | h <;> rw [h] <;> rintro (z | z) <;> cases z
    refine ⟨_, rfl, eqD_int0 (w := .int 0) rv rfl (flat_vd hv) rfl ?_⟩
    unfold DkM.DS.takeStatus at hq
    by_cases c : v = .int 0
    · rw [if_pos c]
      rw [if_pos c] at hq
      obtain ⟨D2, S2⟩ := D.putSt (z := .word) nrec (by rintro (h | h) <;> cases h)
      refine ⟨_, rfl, q, _, _, _, rfl, D.ob, T.c_Doing, T.n_Doing_state, (by show 9 < 1000; decide), ?_⟩
      rw [show V.str "word" = V.str (stS .word) from rfl, doF_pstate]
      exact hq _ _ D2 S2
    · rw [if_neg c]
      rw [if_neg c] at hq
      obtain ⟨D1, S1⟩ := DoAt.put (a' := { a with vv := x }) (d' := d) D rfl rfl rfl (fun _ => D.es nrec) fun h => (nlast h).elim
      refine ⟨_, rfl, _, rfl, q, _, _, _, rfl, D.ob, T.c_Doing, T.n_Doing_verdict, (by show 9 < 1000; decide), ?_⟩
      rw [doF_pverdict]
      have rv1 := RT.mono S1.tu _ _ rv
      generalize (upd H q (HO.ins (CD K) a.dx (doF { a with vv := x } d.a d.ix d.st))) = H1 at D1 S1 rv1
      refine ⟨_, rfl, q, _, _, rfl, D1.ob, doF_no _ _ _ _ (by decide +kernel), q, _, d, v, rfl, D1, nrec, hlen, (by rcases hv with h | h; exact absurd h c; exact h), rv1, fun H2 l xs hl hx ha s2 => ?_⟩
      obtain ⟨D2, S2⟩ := D1.putL s2 hl hx ha
      refine ⟨_, rfl, q, _, _, _, rfl, s2 _ _ D1.ob, T.c_Doing, T.n_Doing_left, (by show 9 < 1000; decide), ?_⟩
      rw [doF_pleft]
      have rv2 := RT.mono S2.tu _ _ rv1
      generalize (upd H2 q (HO.ins (CD K) a.dx (doF { ({ a with vv := x } : DA) with l := l } d.a d.ix d.st))) = H3 at D2 S2 rv2
      obtain ⟨D3, S3⟩ := DoAt.put (d' := { d with v := v, left := d.lasts v, st := .last }) D2 rfl rfl rfl (fun _ => D2.es nrec) fun _ => rv2
      refine ⟨_, rfl, q, _, _, _, rfl, D2.ob, T.c_Doing, T.n_Doing_state, (by show 9 < 1000; decide), ?_⟩
      rw [show V.str "last" = V.str (stS .last) from rfl, doF_pstate]
      exact hq _ _ D3 ((S1.trans S2).trans S3)
/-! ### take_swap -/
def spTSw (K : PySem.W.Frag) : Sp := fun vs H Q _ => ∃ (q : Addr) (a : DA) (d : DS) (b : Bool), vs = [.ref q, .bl b] ∧ DoA K H q a d ∧ d.st = .swap ∧
  ∀ H', DoA K H' q a (d.takeSwap (.bl b)) → Stp (FD q a) H (FD q a) H' → Q .non H'
theorem ok_take_swap (T : Tx w K mg) : Cal P w K mg base 2 (fD K "take_swap") ["self", "swapped"] (spTSw K) := by
  refine mkCal T.F_Doing_take_swap sc_Doing_take_swap (fun vs H Q E h => ?_) (fun _ _ _ _ _ _ us hl => match us, hl with | [_, _], _ => rfl) fun cdv A outer s H vs Q E hr h => ?_
  · obtain ⟨q, a, d, b, rfl, _⟩ := h
    rfl
  · obtain ⟨q, a, d, b, rfl, D, hst, hq⟩ := h
    refine ⟨_, pss_one (ps_if (pt_val (pv 1)) (pss_one (ps_expr (pe_methC0 (pv 0) T.c_Doing T.m_Doing_pass_entry (ok_pass_entry T) hr))) (pss_one (ps_fld (pv 0) pe_str rfl))), ?_⟩
    have nrec : d.st ≠ .record := by rw [hst]; intro z; cases z
    refine ⟨_, rfl, b, rfl, ?_⟩
    cases b with
    | true =>
      refine iteT ⟨_, rfl, q, _, _, rfl, D.ob, doF_no _ _ _ _ (by decide +kernel), q, a, d, rfl, D, nrec, fun H' D' S' => ?_⟩
      exact hq _ D' S'
    | false =>
      obtain ⟨D2, S2⟩ := D.putSt (z := .word) nrec (by rintro (h | h) <;> cases h)
      refine iteF ⟨_, rfl, q, _, _, _, rfl, D.ob, T.c_Doing, T.n_Doing_state, (by show 9 < 1000; decide), ?_⟩
      rw [show V.str "word" = V.str (stS .word) from rfl, doF_pstate]
      exact hq _ D2 S2
end
end Dk

set_option Elab.async false
set_option linter.all false
set_option maxRecDepth 100000
set_option maxHeartbeats 4000000
namespace Dk
open PySem PySem.Spec PyProof.Rows L2
open DkM (TV Mem DS Req Ent Deed upC upC_same upC_ne)
section
variable {P : Program} {w : World} {K : PySem.W.Frag} {mg : Str → Option Value} {base : Heap}
/-! ### take_word -/
/-- behind an accept: the machine, and its helper where one is wanted -/
def AccQ (K : PySem.W.Frag) (H : Hp) (q : Addr) (a : DA) (d' : DS) (v : TV) (R : Hp → Prop) : Prop :=
  ∀ H' a', DoA K H' q a' d' → (d'.st ≠ .help → Stp (FD q a) H (FD q a') H') →
    (d'.st = .help → ∃ hq ha, a'.hv = .ref hq ∧ DoA K H' hq ha (DS.init (DkM.markA v)) ∧ (∀ y, FD hq ha y → ¬ FD q a' y) ∧ Stp (FD q a) H (fun y => FD q a' y ∨ FD hq ha y) H') → R H'
def spTW (K : PySem.W.Frag) : Sp := fun vs H Q _ => ∃ (q : Addr) (a : DA) (d : DS) (v : TV) (x : V), vs = [.ref q, x] ∧ DoA K H q a d ∧ d.st = .word ∧ d.ix < d.es.length ∧ RT H v x ∧ (DkM.isMark v = true ∨ ∃ i, v = .int i) ∧
  AccQ K H q a (d.takeWord v) v fun H' => Q .non H'
theorem ok_take_word (T : Tx w K mg) : Cal P w K mg base 3 (fD K "take_word") ["self", "value"] (spTW K) := by
  refine mkCal T.F_Doing_take_word sc_Doing_take_word (fun vs H Q E h => ?_) (fun _ _ _ _ _ _ us hl => match us, hl with | [_, _], _ => rfl) fun cdv A outer s H vs Q E hr h => ?_
  · obtain ⟨q, a, d, v, x, rfl, _⟩ := h
    rfl
  · obtain ⟨q, a, d, v, x, rfl, D, hst, hix, rv, hv, hq⟩ := h
    obtain ⟨fd, FI, _, ds, bd, bI⟩ := (ok_DoI (P := P) (base := base) T).ex
    refine ⟨_, pss_cons (ps_set (i := 2) sc_Doing_take_word.nd rfl (Or.inl rfl) (pe_ix ix_tup (pe_fld (pv 0) rfl) (pe_fld (pv 0) rfl) (fun _ _ => rfl)))
      (pss_one (ps_if (pt_cmpR (op_eqD hr.units) (pv 1) (pe_methC (pv 0) T.c_Doing T.m_Doing_mark_of (ok_mark_of T) (hr.mono (by decide)) (pa_cons (pv 2) pa_nil)) (nomark _))
        (pss_one (ps_expr (pe_methC0 (pv 0) T.c_Doing T.m_Doing_pass_entry (ok_pass_entry T) (hr.mono (by decide)))))
        (pss_one (ps_if (pt_cmpR (op_eqD hr.units) (pv 1) (pe_ix ix_tup (pv 2) pe_int (fun _ _ => rfl)) (nomark _)) (pss_one (ps_fld (pv 0) pe_str rfl))
          (pss_one (ps_if (pt_val (pe_callC (ok_isMark T) (hr.mono (by decide)) rfl T.g_is_mark (pa_cons (pv 1) pa_nil)))
            (pss_cons (ps_fld (pv 0) (pe_make T.k_Doing FI hr rfl T.g_Doing bI bd pass0 (pa_cons (pe_ix ix_tup (pv 1) pe_int (fun _ _ => rfl)) (pa_cons (pe_fld (pv 0) rfl) pa_nil))) rfl) (pss_one (ps_fld (pv 0) pe_str rfl)))
            (pss_one (ps_fld (pv 0) pe_str rfl)))))))), ?_⟩
    have nrec : d.st ≠ .record := by rw [hst]; intro z; cases z
    obtain ⟨hsv, e, hev, xs, he, ha⟩ := D.es nrec
    obtain ⟨ex, hex, p, rfl, hp⟩ := ha.get (List.getElem?_eq_getElem hix)
    have hent : d.ent = d.es[d.ix] := by unfold DkM.DS.ent; rw [List.getD_eq_getElem?_getD, List.getElem?_eq_getElem hix]; rfl
    rw [← hent] at hp
    have fv : flatT v = true := by
      rcases hv with h | ⟨i, rfl⟩
      · cases v <;> first | rfl | cases h
      · rfl
    refine ⟨_, rfl, q, _, _, _, _, rfl, D.ob, T.c_Doing, T.n_Doing_entries, doF_entries _ _ _ _, _, rfl, q, _, _, _, _, rfl, D.ob, T.c_Doing, T.n_Doing_index, doF_index _ _ _ _, _, _, _, _, hev, rfl, SqT.of he, atI_nat hex, ?_⟩
    refine ⟨_, rfl, _, rfl, q, _, _, rfl, D.ob, doF_no _ _ _ _ (by decide +kernel), _, rfl, q, a, d, d.ent, _, rfl, D, nrec, ⟨p, rfl, hp⟩, fun mp hmp => ?_⟩
    have s1 : Same H (upd H mp (.tup [.int d.a, .int d.s, .int d.ent.2.1, .int d.ent.2.2])) := same_new hmp
    have r1 : RT (upd H mp (.tup [.int d.a, .int d.s, .int d.ent.2.1, .int d.ent.2.2])) (d.mk1 d.ent) (.ref mp) := ⟨mp, rfl, upd_same⟩
    generalize (upd H mp (.tup [.int d.a, .int d.s, .int d.ent.2.1, .int d.ent.2.2])) = H1 at s1 r1
    have D1 := D.same s1
    have S1 : Stp (FD q a) H (FD q a) H1 := Stp.of_same s1
    have rv1 := RT.mono (TupK.of_same s1) _ _ rv
    have hp1 := s1 _ _ hp
    refine eqD_int0 rv1 r1 fv rfl ?_
    unfold DkM.DS.takeWord at hq
    by_cases c1 : v = d.mk1 d.ent
    · rw [if_pos c1]
      rw [if_pos c1] at hq
      refine ⟨_, rfl, q, _, _, rfl, D1.ob, doF_no _ _ _ _ (by decide +kernel), q, a, d, rfl, D1, nrec, fun H' D' S' => ?_⟩
      refine hq _ a D' (fun _ => S1.trans S') fun z => ?_
      have z2 : (if d.ix + 1 = d.es.length then DkM.St.done else DkM.St.word) = .help := z
      split at z2 <;> cases z2
    · rw [if_neg c1]
      rw [if_neg c1] at hq
      refine ⟨_, rfl, _, rfl, _, _, _, _, rfl, rfl, SqT.of hp1, atI_nat (j := 1) rfl, eqD_int0 (w := .int d.ent.2.1) rv1 rfl fv rfl ?_⟩
      by_cases c2 : v = .int d.ent.2.1
      · rw [if_pos c2]
        rw [if_pos c2] at hq
        obtain ⟨D2, S2⟩ := D1.putSt (z := .swap) nrec (by rintro (h | h) <;> cases h)
        refine ⟨_, rfl, q, _, _, _, rfl, D1.ob, T.c_Doing, T.n_Doing_state, (by show 9 < 1000; decide), ?_⟩
        rw [show V.str "swap" = V.str (stS .swap) from rfl, doF_pstate]
        exact hq _ _ D2 (fun _ => S1.trans S2) fun z => by cases z
      · rw [if_neg c2]
        rw [if_neg c2] at hq
        refine ⟨_, rfl, v, x, rfl, rv1, hv, DkM.isMark v, rfl, ?_⟩
        cases hm : DkM.isMark v with
        | false =>
          rw [hm, if_neg Bool.false_ne_true] at hq
          obtain ⟨D2, S2⟩ := D1.putSt (z := .failed) nrec (by rintro (h | h) <;> cases h)
          refine iteF ⟨_, rfl, q, _, _, _, rfl, D1.ob, T.c_Doing, T.n_Doing_state, (by show 9 < 1000; decide), ?_⟩
          rw [show V.str "failed" = V.str (stS .failed) from rfl, doF_pstate]
          exact hq _ _ D2 (fun _ => S1.trans S2) fun z => by cases z
        | true =>
          rw [hm, if_pos rfl] at hq
          obtain ⟨vp, vi, hxv, hvp, hh⟩ : ∃ (vp : Addr) (vi : List V), x = .ref vp ∧ H1 vp = some (.tup (.int (DkM.markA v) :: vi)) ∧ True := by
            cases v with
            | mark a s o n =>
              obtain ⟨vp, h1, h2⟩ := rv1
              exact ⟨vp, _, h1, h2, trivial⟩
            | _ => cases hm
          subst hxv
          refine iteT ⟨_, rfl, _, _, _, _, rfl, rfl, SqT.of hvp, atI_nat (j := 0) rfl, _, rfl, q, _, _, _, _, rfl, D1.ob, T.c_Doing, T.n_Doing_without, doF_without _ _ _ _, mkDo fun hx hha H2 DH SH => ?_⟩
          have keep : ∀ y o, H1 y = some o → H2 y = some o := fun y o h => SH.ou y o h fun z => z
          have D2 := D1.same keep
          have fr : ∀ y, FD hx hha y → H1 y = none := fun y h => (SH.nw y h).elim False.elim id
          have dis : ∀ y, FD hx hha y → ¬ FD q a y := fun y h h2 => by
            obtain ⟨o, ho, _⟩ := FD.some D1 h2
            rw [fr y h] at ho; cases ho
          obtain ⟨D3, S3⟩ := DoAt.put (a' := { a with hv := .ref hx }) (d' := d) D2 rfl rfl rfl (fun _ => D2.es nrec) D2.vd
          refine ⟨_, rfl, q, _, _, _, rfl, D2.ob, T.c_Doing, T.n_Doing_helper, (by show 9 < 1000; decide), ?_⟩
          rw [doF_phelper]
          have DH3 := DH.stay (H' := upd H2 q (HO.ins (CD K) a.dx (doF { a with hv := .ref hx } d.a d.ix d.st))) (fun y o h hy => S3.ou y o hy (dis y h)) S3.tu
          generalize (upd H2 q (HO.ins (CD K) a.dx (doF { a with hv := .ref hx } d.a d.ix d.st))) = H3 at D3 S3 DH3
          obtain ⟨D4, S4⟩ := D3.putSt (z := .help) nrec (by rintro (h | h) <;> cases h)
          refine ⟨_, rfl, q, _, _, _, rfl, D3.ob, T.c_Doing, T.n_Doing_state, (by show 9 < 1000; decide), ?_⟩
          rw [show V.str "help" = V.str (stS .help) from rfl, doF_pstate]
          have DH4 := DH3.stay (fun y o h hy => S4.ou y o hy (dis y h)) S4.tu
          refine hq _ _ D4 (fun z => absurd rfl z) fun _ => ⟨hx, hha, rfl, DH4, dis, ?_⟩
          refine S1.trans ⟨fun y h => ?_, fun y o h f => S4.ou y o (S3.ou y o (keep y o h) f) f, (SH.tu.trans S3.tu).trans S4.tu⟩
          rcases h with h | h
          · exact .inl h
          · exact .inr (fr y h)
/-! ### accept -/
def AccOk (d : DS) (v : TV) : Prop := match d.st with
  | .record => ∃ s es th nu, v = .deed s es th nu
  | .status => (v = .int 0 ∨ VdOk v) ∧ d.es.length ≤ 100
  | .final => (v = .int 0 ∨ VdOk v) ∧ d.es.length ≤ 100
  | .word => d.ix < d.es.length ∧ (DkM.isMark v = true ∨ ∃ i, v = .int i)
  | .swap => ∃ b, v = .bl b
  | .fin => False
  | _ => True
def spAcc (K : PySem.W.Frag) : Sp := fun vs H Q _ => ∃ (q : Addr) (a : DA) (d : DS) (v : TV) (x : V), vs = [.ref q, x] ∧ DoA K H q a d ∧ (d.st = .help ∨ ∃ tp y c, x = .ref tp ∧ H tp = some (.tup [y, c]) ∧ RT H v y) ∧ AccOk d v ∧
  AccQ K H q a (d.acc v) v fun H' => Q .non H'
theorem ok_accept (T : Tx w K mg) : Cal P w K mg base 4 (fD K "accept") ["self", "result"] (spAcc K) := by
  refine mkCal T.F_Doing_accept sc_Doing_accept (fun vs H Q E h => ?_) (fun _ _ _ _ _ _ us hl => match us, hl with | [_, _], _ => rfl) fun cdv A outer s H vs Q E hr h => ?_
  · obtain ⟨q, a, d, v, x, rfl, _⟩ := h
    rfl
  · obtain ⟨q, a, d, v, x, rfl, D, hres, hok, hq⟩ := h
    refine ⟨_, pss_cons (ps_set (i := 2) sc_Doing_accept.nd rfl (Or.inl rfl) (pe_fld (pv 0) rfl))
      (pss_one (ps_if (pt_cmpR op_eq (pv 2) pe_str (nomark _)) (pss_one (ps_fld (pv 0) pe_str rfl))
      (pss_one (ps_if (pt_cmpR op_eq (pv 2) pe_str (nomark _)) (pss_cons (ps_fld (pv 0) (pe_ix ix_tup (pe_ix ix_tup (pv 1) pe_int (fun _ _ => rfl)) pe_int (fun _ _ => rfl)) rfl)
          (pss_cons (ps_fld (pv 0) (pe_ix ix_tup (pe_ix ix_tup (pv 1) pe_int (fun _ _ => rfl)) pe_int (fun _ _ => rfl)) rfl) (pss_one (ps_fld (pv 0) pe_str rfl))))
      (pss_one (ps_if (PW.pt (pw_or (pt_cmpR op_eq (pv 2) pe_str (nomark _)) (pw_or1 (pt_cmpR op_eq (pv 2) pe_str (nomark _)))))
          (pss_one (ps_expr (pe_methC (pv 0) T.c_Doing T.m_Doing_take_status (ok_take_status T) hr (pa_cons (pe_ix ix_tup (pv 1) pe_int (fun _ _ => rfl)) pa_nil))))
      (pss_one (ps_if (pt_cmpR op_eq (pv 2) pe_str (nomark _)) (pss_one (ps_expr (pe_methC (pv 0) T.c_Doing T.m_Doing_take_word (ok_take_word T) hr (pa_cons (pe_ix ix_tup (pv 1) pe_int (fun _ _ => rfl)) pa_nil))))
      (pss_one (ps_if (pt_cmpR op_eq (pv 2) pe_str (nomark _)) (pss_one (ps_expr (pe_methC (pv 0) T.c_Doing T.m_Doing_take_swap (ok_take_swap T) (hr.mono (by decide)) (pa_cons (pe_ix ix_tup (pv 1) pe_int (fun _ _ => rfl)) pa_nil))))
      (pss_one (ps_if (pt_cmpR op_eq (pv 2) pe_str (nomark _)) (pss_cons (ps_fld (pv 0) (pe_slice sl_list (pe_fld (pv 0) rfl) (po_some pe_int) po_none) rfl)
          (pss_one (ps_if (pt_not (pt_truth (pe_fld (pv 0) rfl) (fun _ => rfl))) (pss_one (ps_fld (pv 0) pe_str rfl)) pss_nil)))
        (pss_one (ps_fld (pv 0) pe_str rfl)))))))))))))), ?_⟩
    refine ⟨_, rfl, q, _, _, _, _, rfl, D.ob, T.c_Doing, T.n_Doing_state, doF_state _ _ _ _, ?_⟩
    obtain ⟨da, ds, es, ix, st, dv, left⟩ := d
    cases st with
    | help =>
      refine ⟨_, rfl, rfl, seT ?_⟩
      obtain ⟨D1, S1⟩ := D.putSt (z := .word) (by intro z; cases z) (by rintro (h | h) <;> cases h)
      refine ⟨_, rfl, q, _, _, _, rfl, D.ob, T.c_Doing, T.n_Doing_state, (by show 9 < 1000; decide), ?_⟩
      rw [show V.str "word" = V.str (stS .word) from rfl, doF_pstate]
      exact hq _ _ D1 (fun _ => S1) fun z => by cases z
    | record =>
      refine ⟨_, rfl, rfl, seF (show (stS .record == _) = false by decide +kernel) ⟨_, rfl, rfl, seT ?_⟩⟩
      obtain ⟨tp, y, c, rfl, htp, ry⟩ : ∃ tp y c, x = .ref tp ∧ H tp = some (.tup [y, c]) ∧ RT H v y := by
        rcases hres with h | h
        · cases h
        · exact h
      obtain ⟨s0, es0, th, nu, rfl⟩ : ∃ s es th nu, v = .deed s es th nu := hok
      obtain ⟨dp, e, rfl, hdp, hes⟩ := ry
      obtain ⟨D1, S1⟩ := DoAt.put (a' := { a with sv := .int s0 }) (d' := ⟨da, s0, es, ix, .record, dv, left⟩) D rfl rfl rfl (fun h => absurd rfl h) (by rintro (h | h) <;> cases h)
      refine ⟨_, rfl, _, _, _, _, rfl, rfl, SqT.of htp, atI_nat (j := 0) rfl, _, _, _, _, rfl, rfl, SqT.of hdp, atI_nat (j := 1) rfl, _, rfl, q, _, _, _, rfl, D.ob, T.c_Doing, T.n_Doing_status, (by show 9 < 1000; decide), ?_⟩
      rw [doF_pstatus]
      have htp1 := S1.tu _ _ htp
      have hdp1 := S1.tu _ _ hdp
      have hes1 := hes.mono S1.tu
      generalize (upd H q (HO.ins (CD K) a.dx (doF { a with sv := .int s0 } da ix .record))) = H1 at D1 S1 htp1 hdp1 hes1
      obtain ⟨D2, S2⟩ := DoAt.put (a' := { ({ a with sv := .int s0 } : DA) with ev := .ref e }) (d' := ⟨da, s0, es, ix, .record, dv, left⟩) D1 rfl rfl rfl (fun h => absurd rfl h) (by rintro (h | h) <;> cases h)
      refine ⟨_, rfl, _, _, _, _, rfl, rfl, SqT.of htp1, atI_nat (j := 0) rfl, _, _, _, _, rfl, rfl, SqT.of hdp1, atI_nat (j := 2) rfl, _, rfl, q, _, _, _, rfl, D1.ob, T.c_Doing, T.n_Doing_entries, (by show 9 < 1000; decide), ?_⟩
      rw [doF_pentries]
      have hes2 := hes1.mono S2.tu
      generalize (upd H1 q (HO.ins (CD K) a.dx (doF { ({ a with sv := .int s0 } : DA) with ev := .ref e } da ix .record))) = H2 at D2 S2 hes2
      obtain ⟨D3, S3⟩ := DoAt.put (d' := ⟨da, s0, es0, ix, .status, dv, left⟩) D2 rfl rfl rfl (fun _ => ⟨rfl, e, rfl, hes2⟩) (by rintro (h | h) <;> cases h)
      refine ⟨_, rfl, q, _, _, _, rfl, D2.ob, T.c_Doing, T.n_Doing_state, (by show 9 < 1000; decide), ?_⟩
      rw [show V.str "status" = V.str (stS .status) from rfl, doF_pstate]
      exact hq _ _ D3 (fun _ => (S1.trans S2).trans S3) fun z => by cases z
    | status =>
      refine ⟨_, rfl, rfl, seF (show (stS .status == _) = false by decide +kernel) ⟨_, rfl, rfl, seF (show (stS .status == _) = false by decide +kernel) ⟨_, rfl, rfl, seT ?_⟩⟩⟩
      obtain ⟨tp, y, c, rfl, htp, ry⟩ : ∃ tp y c, x = .ref tp ∧ H tp = some (.tup [y, c]) ∧ RT H v y := by
        rcases hres with h | h
        · cases h
        · exact h
      obtain ⟨hv, hlen⟩ : (v = .int 0 ∨ VdOk v) ∧ es.length ≤ 100 := hok
      refine ⟨_, rfl, q, _, _, rfl, D.ob, doF_no _ _ _ _ (by decide +kernel), _, rfl, _, _, _, _, rfl, rfl, SqT.of htp, atI_nat (j := 0) rfl, q, a, _, v, y, rfl, D, .inl rfl, hlen, hv, ry, fun H' a' D' S' => ?_⟩
      refine hq _ a' D' (fun _ => S') fun z => ?_
      have z2 : (DkM.DS.takeStatus ⟨da, ds, es, ix, .status, dv, left⟩ v).st = .help := z
      unfold DkM.DS.takeStatus at z2
      split at z2 <;> cases z2
    | final =>
      refine ⟨_, rfl, rfl, seF (show (stS .final == _) = false by decide +kernel) ⟨_, rfl, rfl, seF (show (stS .final == _) = false by decide +kernel) ⟨_, rfl, rfl, seF (show (stS .final == _) = false by decide +kernel) ⟨_, rfl, rfl, seT ?_⟩⟩⟩⟩
      obtain ⟨tp, y, c, rfl, htp, ry⟩ : ∃ tp y c, x = .ref tp ∧ H tp = some (.tup [y, c]) ∧ RT H v y := by
        rcases hres with h | h
        · cases h
        · exact h
      obtain ⟨hv, hlen⟩ : (v = .int 0 ∨ VdOk v) ∧ es.length ≤ 100 := hok
      refine ⟨_, rfl, q, _, _, rfl, D.ob, doF_no _ _ _ _ (by decide +kernel), _, rfl, _, _, _, _, rfl, rfl, SqT.of htp, atI_nat (j := 0) rfl, q, a, _, v, y, rfl, D, .inr rfl, hlen, hv, ry, fun H' a' D' S' => ?_⟩
      refine hq _ a' D' (fun _ => S') fun z => ?_
      have z2 : (DkM.DS.takeStatus ⟨da, ds, es, ix, .final, dv, left⟩ v).st = .help := z
      unfold DkM.DS.takeStatus at z2
      split at z2 <;> cases z2
    | word =>
      refine ⟨_, rfl, rfl, seF (show (stS .word == _) = false by decide +kernel) ⟨_, rfl, rfl, seF (show (stS .word == _) = false by decide +kernel) ⟨_, rfl, rfl, seF (show (stS .word == _) = false by decide +kernel) ⟨_, rfl, rfl, seF (show (stS .word == _) = false by decide +kernel) ⟨_, rfl, rfl, seT ?_⟩⟩⟩⟩⟩
      obtain ⟨tp, y, c, rfl, htp, ry⟩ : ∃ tp y c, x = .ref tp ∧ H tp = some (.tup [y, c]) ∧ RT H v y := by
        rcases hres with h | h
        · cases h
        · exact h
      obtain ⟨hix, hv⟩ : ix < es.length ∧ (DkM.isMark v = true ∨ ∃ i, v = .int i) := hok
      exact ⟨_, rfl, q, _, _, rfl, D.ob, doF_no _ _ _ _ (by decide +kernel), _, rfl, _, _, _, _, rfl, rfl, SqT.of htp, atI_nat (j := 0) rfl, q, a, _, v, y, rfl, D, rfl, hix, ry, hv, hq⟩
    | swap =>
      refine ⟨_, rfl, rfl, seF (show (stS .swap == _) = false by decide +kernel) ⟨_, rfl, rfl, seF (show (stS .swap == _) = false by decide +kernel) ⟨_, rfl, rfl, seF (show (stS .swap == _) = false by decide +kernel) ⟨_, rfl, rfl, seF (show (stS .swap == _) = false by decide +kernel) ⟨_, rfl, rfl, seF (show (stS .swap == _) = false by decide +kernel) ⟨_, rfl, rfl, seT ?_⟩⟩⟩⟩⟩⟩
      obtain ⟨tp, y, c, rfl, htp, ry⟩ : ∃ tp y c, x = .ref tp ∧ H tp = some (.tup [y, c]) ∧ RT H v y := by
        rcases hres with h | h
        · cases h
        · exact h
      obtain ⟨b, rfl⟩ : ∃ b, v = .bl b := hok
      have ry : y = .bl b := ry
      subst ry
      refine ⟨_, rfl, q, _, _, rfl, D.ob, doF_no _ _ _ _ (by decide +kernel), _, rfl, _, _, _, _, rfl, rfl, SqT.of htp, atI_nat (j := 0) rfl, q, a, _, b, rfl, D, rfl, fun H' D' S' => ?_⟩
      refine hq _ a D' (fun _ => S') fun z => ?_
      have z2 : (DkM.DS.takeSwap ⟨da, ds, es, ix, .swap, dv, left⟩ (.bl b)).st = .help := z
      unfold DkM.DS.takeSwap DkM.DS.pass at z2
      split at z2
      · have z3 : (if ix + 1 = es.length then DkM.St.done else DkM.St.word) = .help := z2
        split at z3 <;> cases z3
      · cases z2
    | last =>
      refine ⟨_, rfl, rfl, seF (show (stS .last == _) = false by decide +kernel) ⟨_, rfl, rfl, seF (show (stS .last == _) = false by decide +kernel) ⟨_, rfl, rfl, seF (show (stS .last == _) = false by decide +kernel) ⟨_, rfl, rfl, seF (show (stS .last == _) = false by decide +kernel) ⟨_, rfl, rfl, seF (show (stS .last == _) = false by decide +kernel) ⟨_, rfl, rfl, seF (show (stS .last == _) = false by decide +kernel) ⟨_, rfl, rfl, seT ?_⟩⟩⟩⟩⟩⟩⟩
      obtain ⟨xs, hx, ha⟩ := D.le
      have hc : cutV xs (some (1 : Int)) none = xs.drop 1 := cut_from xs 1
      have ha1 : All2 (ReqR H) left.tail (xs.drop 1) := by
        have := All2.drop 1 (show All2 (ReqR H) left xs from ha)
        rw [List.drop_one] at this
        exact this
      refine ⟨_, rfl, q, _, _, _, _, rfl, D.ob, T.c_Doing, T.n_Doing_left, doF_left _ _ _ _, _, rfl, _, xs, rfl, SqL.of hx, fun p hp => ?_⟩
      rw [hc]
      obtain ⟨D1, S1⟩ := D.putL (same_new (o := .lst (xs.drop 1)) hp) hp upd_same (ha1.mono (ReqR.mono (TupK.new hp)))
      refine ⟨_, rfl, q, _, _, _, rfl, same_new hp _ _ D.ob, T.c_Doing, T.n_Doing_left, (by show 9 < 1000; decide), ?_⟩
      rw [doF_pleft]
      have hx1 : (upd (upd H p (.lst (xs.drop 1))) q (HO.ins (CD K) a.dx (doF { a with l := p } da ix .last))) p = some (.lst (xs.drop 1)) := by
        rw [upd_ne (ne_of_none D.ob hp).symm, upd_same]
      generalize (upd (upd H p (.lst (xs.drop 1))) q (HO.ins (CD K) a.dx (doF { a with l := p } da ix .last))) = H1 at D1 S1 hx1
      refine ⟨_, rfl, q, _, _, _, _, rfl, D1.ob, T.c_Doing, T.n_Doing_left, doF_left _ _ _ _, !(xs.drop 1).isEmpty, .inl ⟨_, SqL.of hx1, rfl⟩, ?_⟩
      have len := ha1.len
      have hacc : (DkM.DS.acc ⟨da, ds, es, ix, .last, dv, left⟩ v) = ⟨da, ds, es, ix, if left.tail = [] then .fin else .last, dv, left.tail⟩ := rfl
      rw [hacc] at hq
      by_cases c : left.tail = []
      · have e : (xs.drop 1) = [] := by
          rw [c] at len
          exact List.eq_nil_of_length_eq_zero len.symm
        rw [if_pos c] at hq
        rw [e]
        obtain ⟨D2, S2⟩ := D1.putSt (z := .fin) (by intro z; cases z) (fun _ => .inl rfl)
        refine iteT' (by rfl) ?_
        refine ⟨_, rfl, q, _, _, _, rfl, D1.ob, T.c_Doing, T.n_Doing_state, (by show 9 < 1000; decide), ?_⟩
        rw [show V.str "end" = V.str (stS .fin) from rfl, doF_pstate]
        exact hq _ _ D2 (fun _ => S1.trans S2) fun z => by cases z
      · have e : (xs.drop 1).isEmpty = false := by
          cases g : xs.drop 1 with
          | nil =>
            rw [g] at len
            exact absurd (List.eq_nil_of_length_eq_zero len) c
          | cons _ _ => rfl
        rw [if_neg c] at hq
        rw [e]
        refine iteF' (by rfl) ?_
        exact hq _ _ D1 (fun _ => S1) fun z => by cases z
    | failed =>
      refine ⟨_, rfl, rfl, seF (show (stS .failed == _) = false by decide +kernel) ⟨_, rfl, rfl, seF (show (stS .failed == _) = false by decide +kernel) ⟨_, rfl, rfl, seF (show (stS .failed == _) = false by decide +kernel) ⟨_, rfl, rfl, seF (show (stS .failed == _) = false by decide +kernel) ⟨_, rfl, rfl, seF (show (stS .failed == _) = false by decide +kernel) ⟨_, rfl, rfl, seF (show (stS .failed == _) = false by decide +kernel) ⟨_, rfl, rfl, seF (show (stS .failed == _) = false by decide +kernel) ?_⟩⟩⟩⟩⟩⟩⟩
      obtain ⟨D1, S1⟩ := D.putSt (z := .final) (by intro z; cases z) (by rintro (h | h) <;> cases h)
      refine ⟨_, rfl, q, _, _, _, rfl, D.ob, T.c_Doing, T.n_Doing_state, (by show 9 < 1000; decide), ?_⟩
      rw [show V.str "final" = V.str (stS .final) from rfl, doF_pstate]
      exact hq _ _ D1 (fun _ => S1) fun z => by cases z
    | done =>
      refine ⟨_, rfl, rfl, seF (show (stS .done == _) = false by decide +kernel) ⟨_, rfl, rfl, seF (show (stS .done == _) = false by decide +kernel) ⟨_, rfl, rfl, seF (show (stS .done == _) = false by decide +kernel) ⟨_, rfl, rfl, seF (show (stS .done == _) = false by decide +kernel) ⟨_, rfl, rfl, seF (show (stS .done == _) = false by decide +kernel) ⟨_, rfl, rfl, seF (show (stS .done == _) = false by decide +kernel) ⟨_, rfl, rfl, seF (show (stS .done == _) = false by decide +kernel) ?_⟩⟩⟩⟩⟩⟩⟩
      obtain ⟨D1, S1⟩ := D.putSt (z := .final) (by intro z; cases z) (by rintro (h | h) <;> cases h)
      refine ⟨_, rfl, q, _, _, _, rfl, D.ob, T.c_Doing, T.n_Doing_state, (by show 9 < 1000; decide), ?_⟩
      rw [show V.str "final" = V.str (stS .final) from rfl, doF_pstate]
      exact hq _ _ D1 (fun _ => S1) fun z => by cases z
    | fin => exact False.elim hok
end
end Dk

set_option Elab.async false
set_option linter.all false
set_option maxRecDepth 100000
set_option maxHeartbeats 4000000
namespace Dk
open PySem PySem.Spec PyProof.Rows L2
open DkM (TV Mem DS Req Ent Deed upC upC_same upC_ne)
/-! ### a stack in the heap -/
structure SA where
  dx : Addr
  l : Addr
  rv : V
  qs : List (Addr × DA)
def stF (a : SA) : List (Str × V) := [("machines", .ref a.l), ("result", a.rv)]
def stK : List Str := ["machines", "result"]
theorem stF_mach (a : SA) : (stF a).lookup ("machines" : Str) = some (V.ref a.l) := lk_at (ks := stK) 0 rfl rfl (by decide +kernel)
theorem stF_res (a : SA) : (stF a).lookup ("result" : Str) = some a.rv := lk_at (ks := stK) 1 rfl rfl (by decide +kernel)
theorem stF_no (a : SA) {m : Str} (h : stK.all (fun k => !(m == k)) = true) : (stF a).lookup m = none := lk_no (ks := stK) rfl h
theorem stF_pres (a : SA) (v : V) : putF "result" v (stF a) = stF { a with rv := v } := putF_at (ks := stK) 1 rfl rfl (by decide +kernel)
def FL (qs : List (Addr × DA)) (y : Addr) : Prop := ∃ x ∈ qs, FD x.1 x.2 y
def Do2 (C : Addr) (H : Hp) : List (Addr × DA) → List DS → Prop
  | [], [] => True
  | (q, a) :: qs, d :: ds => DoAt C H q a d ∧ Do2 C H qs ds ∧ ∀ y, FD q a y → ¬ FL qs y
  | _, _ => False
def mach (a : SA) : List V := a.qs.reverse.map fun x => V.ref x.1
structure StkAt (C CD : Addr) (H : Hp) (p : Addr) (a : SA) (ds : List DS) : Prop where
  ob : H p = some (.ins C a.dx (stF a))
  li : H a.l = some (.lst (mach a))
  dos : Do2 CD H a.qs ds
  ns : ∀ y, FL a.qs y → y ≠ p ∧ y ≠ a.l
def FS (p : Addr) (a : SA) (y : Addr) : Prop := y = p ∨ y = a.l ∨ FL a.qs y
section
variable {C CD p : Addr} {H H' : Hp} {a : SA} {ds : List DS}
theorem Do2.stay (t : TupK H H') : ∀ {qs : List (Addr × DA)} {ds : List DS}, Do2 CD H qs ds → (∀ x o, FL qs x → H x = some o → H' x = some o) → Do2 CD H' qs ds
  | [], [], _, _ => trivial
  | [], _ :: _, h, _ => h.elim
  | _ :: _, [], h, _ => h.elim
  | (q, a) :: qs, d :: ds, h, k => ⟨h.1.stay (fun x o f => k x o ⟨_, List.mem_cons_self, f⟩) t, Do2.stay t h.2.1 fun x o ⟨y, hy, f⟩ => k x o ⟨y, List.mem_cons_of_mem _ hy, f⟩, h.2.2⟩
theorem FL.some : ∀ {qs : List (Addr × DA)} {ds : List DS}, Do2 CD H qs ds → ∀ {x : Addr}, FL qs x → ∃ o, H x = some o ∧ ∀ xs, o ≠ .tup xs
  | [], [], _, x, ⟨y, hy, _⟩ => by cases hy
  | [], _ :: _, h, _, _ => h.elim
  | _ :: _, [], h, _, _ => h.elim
  | (q, a) :: qs, d :: ds, h, x, ⟨y, hy, f⟩ => by
    rcases List.mem_cons.mp hy with e | e
    · rw [e] at f
      exact FD.some h.1 f
    · exact FL.some h.2.1 ⟨y, e, f⟩
theorem Do2.len : ∀ {qs : List (Addr × DA)} {ds : List DS}, Do2 CD H qs ds → qs.length = ds.length
  | [], [], _ => rfl
  | [], _ :: _, h => h.elim
  | _ :: _, [], h => h.elim
  | (q, a) :: qs, d :: ds, h => congrArg Nat.succ (Do2.len h.2.1)
theorem StkAt.stay (S : StkAt C CD H p a ds) (k : ∀ x o, FS p a x → H x = some o → H' x = some o) (t : TupK H H') : StkAt C CD H' p a ds where
  ob := k _ _ (.inl rfl) S.ob
  li := k _ _ (.inr (.inl rfl)) S.li
  dos := S.dos.stay t fun x o h => k x o (.inr (.inr h))
  ns := S.ns
theorem StkAt.same (S : StkAt C CD H p a ds) (s : Same H H') : StkAt C CD H' p a ds := S.stay (fun x o _ h => s x o h) (TupK.of_same s)
theorem FS.some (S : StkAt C CD H p a ds) {x : Addr} (h : FS p a x) : ∃ o, H x = some o ∧ ∀ xs, o ≠ .tup xs := by
  rcases h with rfl | rfl | h
  · exact ⟨_, S.ob, fun xs e => by cases e⟩
  · exact ⟨_, S.li, fun xs e => by cases e⟩
  · exact FL.some S.dos h
theorem StkAt.pl (S : StkAt C CD H p a ds) : p ≠ a.l := ne_of S.ob S.li (fun e => by cases e)
/-- the top changes itself -/
theorem StkAt.top {q : Addr} {b b' : DA} {qr : List (Addr × DA)} {d d' : DS} {r : List DS} (e : a.qs = (q, b) :: qr) (S : StkAt C CD H p a (d :: r)) (D : DoAt CD H' q b' d') (s : Stp (FD q b) H (FD q b') H') :
    StkAt C CD H' p { a with qs := (q, b') :: qr } (d' :: r) ∧ Stp (FS p a) H (FS p { a with qs := (q, b') :: qr }) H' := by
  have h := S.dos
  rw [e] at h
  have n0 : ∀ y, FD q b y → y ≠ p ∧ y ≠ a.l := fun y hy => S.ns y (by rw [e]; exact ⟨_, List.mem_cons_self, hy⟩)
  have nr : ∀ y, FL qr y → y ≠ p ∧ y ≠ a.l := fun y ⟨z, hz, f⟩ => S.ns y (by rw [e]; exact ⟨z, List.mem_cons_of_mem _ hz, f⟩)
  refine ⟨⟨s.ou _ _ S.ob fun f => (n0 _ f).1 rfl, ?_, ⟨D, h.2.1.stay s.tu fun x o f hx => s.ou x o hx fun g => h.2.2 x g f, fun y f g => ?_⟩, fun y f => ?_⟩, fun y f => ?_, fun y o hy f => s.ou y o hy fun g => f (.inr (.inr (by rw [e]; exact ⟨_, List.mem_cons_self, g⟩))), s.tu⟩
  · have := s.ou _ _ S.li fun f => (n0 _ f).2 rfl
    unfold mach at this ⊢
    rw [e] at this
    show H' a.l = _
    rw [this]
    simp
  · rcases s.nw y f with f | f
    · exact h.2.2 y f g
    · obtain ⟨o, ho, _⟩ := FL.some h.2.1 g
      rw [f] at ho; cases ho
  · obtain ⟨z, hz, f⟩ := f
    rcases List.mem_cons.mp hz with ez | hz
    · rw [ez] at f
      rcases s.nw y f with f | f
      · exact n0 y f
      · exact ⟨fun c => (by rw [c, S.ob] at f; cases f), fun c => (by rw [c, S.li] at f; cases f)⟩
    · exact nr y ⟨z, hz, f⟩
  · rcases f with f | f | ⟨z, hz, f⟩
    · exact .inl (.inl f)
    · exact .inl (.inr (.inl f))
    · rcases List.mem_cons.mp hz with ez | hz
      · rw [ez] at f
        rcases s.nw y f with f | f
        · exact .inl (.inr (.inr (by rw [e]; exact ⟨_, List.mem_cons_self, f⟩)))
        · exact .inr f
      · exact .inl (.inr (.inr (by rw [e]; exact ⟨z, List.mem_cons_of_mem _ hz, f⟩)))
/-- one more machine -/
theorem StkAt.push {q : Addr} {b : DA} {d : DS} (S : StkAt C CD H p a ds) (D : DoAt CD H q b d) (n : ∀ y, FD q b y → ¬ FS p a y) :
    StkAt C CD (upd H a.l (.lst (mach a ++ [.ref q]))) p { a with qs := (q, b) :: a.qs } (d :: ds) ∧ Stp (fun y => FS p a y ∨ FD q b y) H (FS p { a with qs := (q, b) :: a.qs }) (upd H a.l (.lst (mach a ++ [.ref q]))) := by
  have tk : TupK H (upd H a.l (.lst (mach a ++ [.ref q]))) := TupK.upd S.li fun ys e => by cases e
  refine ⟨⟨by rw [upd_ne S.pl]; exact S.ob, ?_, ⟨D.stay (fun x o f h => by rw [upd_ne fun c => n x f (.inr (.inl c))]; exact h) tk, S.dos.stay tk fun x o f h => by rw [upd_ne (S.ns x f).2]; exact h, fun y f g => n y f (.inr (.inr g))⟩, fun y f => ?_⟩, fun y f => ?_, fun y o h f => by rw [upd_ne fun c => f (.inl (.inr (.inl c)))]; exact h, tk⟩
  · show (upd H a.l _) a.l = _
    rw [upd_same]
    unfold mach
    simp
  · obtain ⟨z, hz, f⟩ := f
    rcases List.mem_cons.mp hz with ez | hz
    · rw [ez] at f
      exact ⟨fun c => n y f (.inl c), fun c => n y f (.inr (.inl c))⟩
    · exact S.ns y ⟨z, hz, f⟩
  · rcases f with f | f | ⟨z, hz, f⟩
    · exact .inl (.inl (.inl f))
    · exact .inl (.inl (.inr (.inl f)))
    · rcases List.mem_cons.mp hz with ez | hz
      · rw [ez] at f
        exact .inl (.inr f)
      · exact .inl (.inl (.inr (.inr ⟨z, hz, f⟩)))
/-- one machine less -/
theorem StkAt.pop {q : Addr} {b : DA} {qr : List (Addr × DA)} {d : DS} {r : List DS} (e : a.qs = (q, b) :: qr) (S : StkAt C CD H p a (d :: r)) :
    StkAt C CD (upd H a.l (.lst (mach a).dropLast)) p { a with qs := qr } r ∧ Stp (FS p a) H (FS p { a with qs := qr }) (upd H a.l (.lst (mach a).dropLast)) := by
  have tk : TupK H (upd H a.l (.lst (mach a).dropLast)) := TupK.upd S.li fun ys e => by cases e
  have h := S.dos
  rw [e] at h
  have nr : ∀ y, FL qr y → FL a.qs y := fun y ⟨z, hz, f⟩ => by rw [e]; exact ⟨z, List.mem_cons_of_mem _ hz, f⟩
  refine ⟨⟨by rw [upd_ne S.pl]; exact S.ob, ?_, h.2.1.stay tk fun x o f h => by rw [upd_ne (S.ns x (nr x f)).2]; exact h, fun y f => S.ns y (nr y f)⟩, fun y f => ?_, fun y o h f => by rw [upd_ne fun c => f (.inr (.inl c))]; exact h, tk⟩
  · show (upd H a.l _) a.l = _
    rw [upd_same]
    unfold mach
    rw [e]
    simp
  · rcases f with f | f | f
    · exact .inl (.inl f)
    · exact .inl (.inr (.inl f))
    · exact .inl (.inr (.inr (nr y f)))
/-- the result -/
theorem StkAt.res (S : StkAt C CD H p a ds) (v : V) : StkAt C CD (upd H p (.ins C a.dx (stF { a with rv := v }))) p { a with rv := v } ds ∧ Stp (FS p a) H (FS p { a with rv := v }) (upd H p (.ins C a.dx (stF { a with rv := v }))) := by
  have tk : TupK H (upd H p (.ins C a.dx (stF { a with rv := v }))) := TupK.upd S.ob fun ys e => by cases e
  refine ⟨⟨upd_same, by show (upd H p _) a.l = _; rw [upd_ne S.pl.symm]; exact S.li, S.dos.stay tk fun x o f h => by rw [upd_ne (S.ns x f).1]; exact h, S.ns⟩, fun y f => .inl f, fun y o h f => by rw [upd_ne fun c => f (.inl c)]; exact h, tk⟩
theorem mach_cons {q : Addr} {b : DA} {qr : List (Addr × DA)} (e : a.qs = (q, b) :: qr) : mach a = (qr.reverse.map fun x => V.ref x.1) ++ [.ref q] := by unfold mach; rw [e]; simp
theorem Do2.cons_inv {qs : List (Addr × DA)} {d : DS} {r : List DS} (h : Do2 CD H qs (d :: r)) : ∃ q b qr, qs = (q, b) :: qr ∧ DoAt CD H q b d ∧ Do2 CD H qr r ∧ ∀ y, FD q b y → ¬ FL qr y := by
  match qs, h with
  | [], h => exact h.elim
  | (q, b) :: qr, h => exact ⟨q, b, qr, rfl, h.1, h.2.1, h.2.2⟩
theorem mach_at {q : Addr} {b : DA} {qr : List (Addr × DA)} (e : a.qs = (q, b) :: qr) : atI (mach a) (-1) = some (.ref q) := by rw [mach_cons e]; exact atI_last _ _
end
theorem ReqR.hd {H : Hp} {r : Req} {x : V} (hR : ReqR H r x) : ∃ (qq : Addr) (items : List V), x = .ref qq ∧ H qq = some (.tup (.str (kd r) :: items)) := by
  cases r with
  | read c =>
    obtain ⟨qq, ex, hq⟩ := hR
    exact ⟨qq, [.int c], ex, hq⟩
  | write c v =>
    obtain ⟨qq, u, ex, hq, _⟩ := hR
    exact ⟨qq, [.int c, u], ex, hq⟩
  | swap c o n =>
    obtain ⟨qq, u, v, ex, hq, _⟩ := hR
    exact ⟨qq, [.int c, u, v], ex, hq⟩
  | dec c d =>
    obtain ⟨qq, ex, hq⟩ := hR
    exact ⟨qq, [.int c, .str (if d then "done" else "failed")], ex, hq⟩
  | flush c =>
    obtain ⟨qq, ex, hq⟩ := hR
    exact ⟨qq, [.int c], ex, hq⟩
  | fence =>
    obtain ⟨qq, ex, hq⟩ := hR
    exact ⟨qq, [], ex, hq⟩
theorem kd_nc : ∀ r : Req, (kd r == "call") = false
  | .read _ => (show (("read" : Str) == "call") = false by decide +kernel)
  | .write _ _ => (show (("write" : Str) == "call") = false by decide +kernel)
  | .swap _ _ _ => (show (("swap" : Str) == "call") = false by decide +kernel)
  | .dec _ _ => (show (("decide" : Str) == "call") = false by decide +kernel)
  | .flush _ => (show (("flush" : Str) == "call") = false by decide +kernel)
  | .fence => (show (("fence" : Str) == "call") = false by decide +kernel)
theorem kd_ne : ∀ r : Req, (kd r == "end") = false
  | .read _ => (show (("read" : Str) == "end") = false by decide +kernel)
  | .write _ _ => (show (("write" : Str) == "end") = false by decide +kernel)
  | .swap _ _ _ => (show (("swap" : Str) == "end") = false by decide +kernel)
  | .dec _ _ => (show (("decide" : Str) == "end") = false by decide +kernel)
  | .flush _ => (show (("flush" : Str) == "end") = false by decide +kernel)
  | .fence => (show (("fence" : Str) == "end") = false by decide +kernel)
end Dk

set_option Elab.async false
set_option linter.all false
set_option maxRecDepth 100000
set_option maxHeartbeats 4000000
namespace Dk
open PySem PySem.Spec PyProof.Rows L2
open DkM (TV Mem DS Req Ent Deed upC upC_same upC_ne)
section
variable {P : Program} {w : World} {K : PySem.W.Frag} {mg : Str → Option Value} {base : Heap}
abbrev StkA (K : PySem.W.Frag) := StkAt (CS K) (CD K)
/-! ### pass_on -/
def spPO (K : PySem.W.Frag) : Sp := fun vs H Q _ => ∃ (p : Addr) (a : SA) (ds : List DS) (x : V), vs = [.ref p, x] ∧ StkA K H p a ds ∧ (match ds with
  | [] => ∀ H' a', StkA K H' p a' [] → a'.rv = x → Stp (FS p a) H (FS p a') H' → Q .non H'
  | l :: r => l.st = .help ∧ ∀ H' a', StkA K H' p a' ({ l with st := .word } :: r) → Stp (FS p a) H (FS p a') H' → Q .non H')
theorem ok_pass_on (T : Tx w K mg) : Cal P w K mg base 5 (fS K "pass_on") ["self", "value"] (spPO K) := by
  refine mkCal T.F_Stack_pass_on sc_Stack_pass_on (fun vs H Q E h => ?_) (fun _ _ _ _ _ _ us hl => match us, hl with | [_, _], _ => rfl) fun cdv A outer s H vs Q E hr h => ?_
  · obtain ⟨p, a, ds, x, rfl, _⟩ := h
    rfl
  · obtain ⟨p, a, ds, x, rfl, S, hq⟩ := h
    refine ⟨_, pss_one (ps_if (pt_truth (pe_fld (pv 0) rfl) (fun _ => rfl)) (pss_one (ps_expr (pe_methC (pe_ix ix_list (pe_fld (pv 0) rfl) (pe_un un_neg pe_int) (fun _ _ => rfl)) T.c_Doing T.m_Doing_accept (ok_accept T) hr (pa_cons (pv 1) pa_nil))))
      (pss_one (ps_fld (pv 0) (pv 1) rfl))), ?_⟩
    refine ⟨_, rfl, p, _, _, _, _, rfl, S.ob, T.c_Stack, T.n_Stack_machines, stF_mach _, !(mach a).isEmpty, .inl ⟨_, SqL.of S.li, rfl⟩, ?_⟩
    cases ds with
    | nil =>
      have e : a.qs = [] := List.eq_nil_of_length_eq_zero S.dos.len
      refine iteF' (by unfold mach; rw [e]; rfl) ?_
      refine ⟨_, rfl, _, rfl, p, _, _, _, rfl, S.ob, T.c_Stack, T.n_Stack_result, (by show 2 < 1000; decide), ?_⟩
      rw [stF_pres]
      obtain ⟨S1, s1⟩ := S.res x
      exact hq _ _ S1 rfl s1
    | cons l r =>
      obtain ⟨hl, hq⟩ := hq
      obtain ⟨q, b, qr, e, D, D2, n⟩ := S.dos.cons_inv
      refine iteT' (by rw [mach_cons e]; simp) ?_
      refine ⟨_, rfl, p, _, _, _, _, rfl, S.ob, T.c_Stack, T.n_Stack_machines, stF_mach _, _, rfl, _, _, _, _, rfl, rfl, SqL.of S.li, mach_at e, ?_⟩
      have hacc : l.acc .non = { l with st := .word } := by unfold DkM.DS.acc; rw [hl]
      refine ⟨q, _, _, rfl, D.ob, doF_no _ _ _ _ (by decide +kernel), _, rfl, q, b, l, .non, x, rfl, D, .inl hl, by unfold AccOk; rw [hl]; trivial, fun H' a' D' s' _ => ?_⟩
      rw [hacc] at D' s'
      obtain ⟨S1, s1⟩ := StkAt.top e S D' (s' (by intro z; cases z))
      exact hq _ _ S1 s1
/-! ### settle -/
def spSet (K : PySem.W.Frag) : Sp := fun vs H Q _ => ∃ (p : Addr) (a : SA) (q : Addr) (b : DA) (qr : List (Addr × DA)) (d : DS) (r : List DS) (v : TV) (HF : Addr → Prop), vs = [.ref p] ∧ a.qs = (q, b) :: qr ∧ StkA K H p a (d :: r) ∧
  (d.st ≠ .help → d.st ≠ .fin → RqOk d) ∧ (d.st = .help → ∃ hq ha, b.hv = .ref hq ∧ DoA K H hq ha (DS.init (DkM.markA v)) ∧ ∀ y, FD hq ha y → HF y ∧ ¬ FS p a y) ∧
  (d.st = .fin → ∀ l r', r = l :: r' → l.st = .help ∧ l.ix < l.es.length) ∧ r.length ≤ 1000 ∧
  ∀ H' a', StkA K H' p a' (DkM.settle v d r) → (DkM.settle v d r = [] → RT H' d.v a'.rv) → Stp (fun y => FS p a y ∨ HF y) H (FS p a') H' → Q .non H'
theorem ok_settle (T : Tx w K mg) : Cal P w K mg base 6 (fS K "settle") ["self"] (spSet K) := by
  refine mkCal T.F_Stack_settle sc_Stack_settle (fun vs H Q E h => ?_) (fun _ _ _ _ _ _ us hl => match us, hl with | [_], _ => rfl) fun cdv A outer s H vs Q E hr h => ?_
  · obtain ⟨p, a, q, b, qr, d, r, v, HF, rfl, _⟩ := h
    rfl
  · obtain ⟨p, a, q, b, qr, d, r, v, HF, rfl, e, S, rok, hh, hf, rlen, hq⟩ := h
    refine ⟨_, pss_one (ps_while PassesOwn.never (pt_truth (pe_fld (pv 0) rfl) (fun _ => rfl))
      (pss_cons (ps_set (i := 1) sc_Stack_settle.nd rfl (Or.inl rfl) (pe_methC0 (pe_ix ix_list (pe_fld (pv 0) rfl) (pe_un un_neg pe_int) (fun _ _ => rfl)) T.c_Doing T.m_Doing_request (ok_request T) (hr.mono (by decide))))
      (pss_one (ps_if (pt_cmpR op_eq (pe_ix ix_tup (pv 1) pe_int (fun _ _ => rfl)) pe_str (nomark _))
        (pss_one (ps_expr (pe_bm PySem.F.plainAttrs_list PySem.F.slot_list_append PySem.F.type_list_append mt_append (pe_fld (pv 0) rfl) (pa_cons (pe_ix ix_tup (pv 1) pe_int (fun _ _ => rfl)) pa_nil))))
        (pss_one (ps_if (pt_cmpR op_eq (pe_ix ix_tup (pv 1) pe_int (fun _ _ => rfl)) pe_str (nomark _))
          (pss_cons (ps_expr (pe_bm0 PySem.F.plainAttrs_list PySem.F.slot_list_pop PySem.F.type_list_pop mt_pop (pe_fld (pv 0) rfl)))
            (pss_one (ps_expr (pe_methC (pv 0) T.c_Stack T.m_Stack_pass_on (ok_pass_on T) hr (pa_cons (pe_ix ix_tup (pv 1) pe_int (fun _ _ => rfl)) pa_nil)))))
          (pss_one ps_retN))))))), ?_⟩
    have init0 : ∀ ad, RqOk (DS.init ad) := fun ad => ⟨(by rintro (h | h) <;> cases h), (by intro h; cases h)⟩
    -- settled
    have hset : ∀ d' r', DkM.settle v d r = d' :: r' → d'.st ≠ .help ∧ d'.st ≠ .fin ∧ RqOk d' := by
      intro d' r' h
      unfold DkM.settle at h
      cases hd : d.st with
      | help =>
        rw [hd] at h
        injection h with h1 h2
        subst h1
        exact ⟨(by intro z; cases z), (by intro z; cases z), init0 _⟩
      | fin =>
        rw [hd] at h
        cases r with
        | nil => cases h
        | cons l r2 =>
          injection h with h1 h2
          subst h1
          exact ⟨(by intro z; cases z), (by intro z; cases z), fun _ => (hf hd l r2 rfl).2, (by intro z; cases z)⟩
      | _ =>
        rw [hd] at h
        injection h with h1 h2
        subst h1
        exact ⟨(by rw [hd]; intro z; cases z), (by rw [hd]; intro z; cases z), rok (by rw [hd]; intro z; cases z) (by rw [hd]; intro z; cases z)⟩
    refine ⟨fun m σ H' => (m = 1 ∧ (d.st = .help ∨ d.st = .fin) ∧ σ = [some (.ref p), none] ∧ H' = H) ∨
      (m = 0 ∧ ∃ y a', σ = [some (.ref p), y] ∧ StkA K H' p a' (DkM.settle v d r) ∧ (DkM.settle v d r = [] → RT H' d.v a'.rv) ∧ Stp (fun y => FS p a y ∨ HF y) H (FS p a') H'), ?_, ?_⟩
    · by_cases c : d.st = .help ∨ d.st = .fin
      · exact ⟨1, .inl ⟨rfl, c, rfl, rfl⟩⟩
      · have e2 : DkM.settle v d r = d :: r := by
          unfold DkM.settle
          cases hd : d.st with
          | help => exact absurd (.inl hd) c
          | fin => exact absurd (.inr hd) c
          | _ => rfl
        exact ⟨0, .inr ⟨rfl, none, a, rfl, (by rw [e2]; exact S), (by rw [e2]; intro z; cases z), ⟨fun y h => .inl (.inl h), fun y o h _ => h, TupK.refl _⟩⟩⟩
    · rintro m σ H0 (⟨rfl, c, rfl, rfl⟩ | ⟨rfl, y, a', rfl, S', rv', s'⟩)
      · obtain ⟨q', b', qr', e', D, D2, n⟩ := S.dos.cons_inv
        rw [e] at e'
        injection e' with e1 e2
        injection e1 with e3 e4
        subst e3 e4 e2
        refine ⟨_, rfl, p, _, _, _, _, rfl, S.ob, T.c_Stack, T.n_Stack_machines, stF_mach _, true, .inl ⟨_, SqL.of S.li, by rw [mach_cons e]; simp⟩, iteT ?_⟩
        refine ⟨fun σ' H' => ∃ y a', σ' = [some (.ref p), y] ∧ StkA K H' p a' (DkM.settle v d r) ∧ (DkM.settle v d r = [] → RT H' d.v a'.rv) ∧ Stp (fun y => FS p a y ∨ HF y) H0 (FS p a') H', fun σ' H' h => ⟨0, by decide, .inr ⟨rfl, h⟩⟩, ?_⟩
        refine ⟨_, rfl, p, _, _, _, _, rfl, S.ob, T.c_Stack, T.n_Stack_machines, stF_mach _, _, rfl, _, _, _, _, rfl, rfl, SqL.of S.li, mach_at e, q, _, _, rfl, D.ob, doF_no _ _ _ _ (by decide +kernel), q, b, d, rfl, D, ⟨?_, ?_⟩, fun H1 x s1 hx => ?_⟩
        · rcases c with c | c <;> rw [c] <;> rintro (z | z) <;> cases z
        · rcases c with c | c <;> rw [c] <;> intro z <;> cases z
        have S1 := S.same s1
        have St1 : Stp (fun y => FS p a y ∨ HF y) H0 (fun y => FS p a y ∨ HF y) H1 := Stp.of_same s1
        have big : ((mach a).length : Nat) < sizeLine := by
          have hl := S.dos.len
          unfold mach
          rw [List.length_map, List.length_reverse, hl]
          exact Nat.lt_of_le_of_lt (show r.length + 1 ≤ 1001 by omega) (by decide)
        rcases c with hd | hd
        · obtain ⟨hq0, ha0, hhv, DH, dis⟩ := hh hd
          obtain ⟨xp, rfl, hxp⟩ : ∃ p, x = .ref p ∧ H1 p = some (.tup [.str "call", b.hv]) := by
            unfold RqA at hx
            rw [hd] at hx
            exact hx
          rw [hhv] at hxp
          have e2 : DkM.settle v d r = DS.init (DkM.markA v) :: d :: r := by unfold DkM.settle; rw [hd]
          rw [e2]
          obtain ⟨S2, s2⟩ := S1.push (DH.same s1) fun y h => (dis y h).2
          refine ⟨_, rfl, _, _, _, _, rfl, rfl, SqT.of hxp, atI_nat (j := 0) rfl, rfl, seT ?_⟩
          refine ⟨_, rfl, p, _, _, _, _, rfl, S1.ob, T.c_Stack, T.n_Stack_machines, stF_mach _, .inl ⟨rfl, _, SqL.of S1.li⟩, _, rfl, _, _, _, _, rfl, rfl, SqT.of hxp, atI_nat (j := 1) rfl, _, _, _, rfl, rfl, S1.li, big, ?_⟩
          refine ⟨_, _, rfl, S2, (by intro z; cases z), St1.trans ⟨fun y h => ?_, fun y o h f => s2.ou y o h fun z => f ?_, s2.tu⟩⟩
          · rcases s2.nw y h with (h | h) | h
            · exact .inl (.inl h)
            · exact .inl (.inr (dis y h).1)
            · exact .inr h
          · rcases z with z | z
            · exact .inl z
            · exact .inr (dis y z).1
        · obtain ⟨xp, rfl, hxp⟩ : ∃ p, x = .ref p ∧ H1 p = some (.tup [.str "end", b.vv]) := by
            unfold RqA at hx
            rw [hd] at hx
            exact hx
          refine ⟨_, rfl, _, _, _, _, rfl, rfl, SqT.of hxp, atI_nat (j := 0) rfl, rfl, seF (by decide +kernel) ⟨_, rfl, _, _, _, _, rfl, rfl, SqT.of hxp, atI_nat (j := 0) rfl, rfl, seT ?_⟩⟩
          obtain ⟨S2, s2⟩ := S1.pop e
          have rv2 : RT (upd H1 a.l (.lst (mach a).dropLast)) d.v b.vv := RT.mono ((TupK.of_same s1).trans s2.tu) _ _ (D.vd (.inr hd))
          refine ⟨_, rfl, p, _, _, _, _, rfl, S1.ob, T.c_Stack, T.n_Stack_machines, stF_mach _, .inl ⟨rfl, _, SqL.of S1.li⟩, _, mach a, _, rfl, rfl, S1.li, (by rw [mach_cons e]; simp; rfl), ?_⟩
          have hxp2 := s2.tu _ _ hxp
          generalize (upd H1 a.l (.lst (mach a).dropLast)) = H2 at S2 s2 rv2 hxp2
          have St2 : Stp (fun y => FS p a y ∨ HF y) H0 (FS p { a with qs := qr }) H2 := St1.trans ⟨fun y h => (s2.nw y h).imp .inl id, fun y o h f => s2.ou y o h fun z => f (.inl z), s2.tu⟩
          refine ⟨_, rfl, p, _, _, rfl, S2.ob, stF_no _ (by decide +kernel), _, rfl, _, _, _, _, rfl, rfl, SqT.of hxp2, atI_nat (j := 1) rfl, p, _, r, _, rfl, S2, ?_⟩
          cases r with
          | nil =>
            have e2 : DkM.settle v d [] = [] := by unfold DkM.settle; rw [hd]
            rw [e2]
            intro H3 a3 S3 erv s3
            exact ⟨_, a3, rfl, S3, fun _ => by rw [erv]; exact RT.mono s3.tu _ _ rv2, St2.trans s3⟩
          | cons l r2 =>
            have e2 : DkM.settle v d (l :: r2) = { l with st := .word } :: r2 := by unfold DkM.settle; rw [hd]
            rw [e2]
            refine ⟨(hf hd l r2 rfl).1, fun H3 a3 S3 s3 => ⟨_, a3, rfl, S3, (by intro z; cases z), St2.trans s3⟩⟩
      · refine ⟨_, rfl, p, _, _, _, _, rfl, S'.ob, T.c_Stack, T.n_Stack_machines, stF_mach _, !(mach a').isEmpty, .inl ⟨_, SqL.of S'.li, rfl⟩, ?_⟩
        cases hs : DkM.settle v d r with
        | nil =>
          rw [hs] at S' rv' hq
          have e2 : a'.qs = [] := List.eq_nil_of_length_eq_zero S'.dos.len
          refine iteF' (by unfold mach; rw [e2]; rfl) ?_
          exact hq _ a' S' rv' s'
        | cons d' r' =>
          obtain ⟨c1, c2, rq⟩ := hset d' r' hs
          rw [hs] at S' rv' hq
          obtain ⟨q', b', qr', e', D, D2, n⟩ := S'.dos.cons_inv
          refine iteT' (by rw [mach_cons e']; simp) ⟨fun _ _ => False, fun _ _ h => h.elim, ?_⟩
          refine ⟨_, rfl, p, _, _, _, _, rfl, S'.ob, T.c_Stack, T.n_Stack_machines, stF_mach _, _, rfl, _, _, _, _, rfl, rfl, SqL.of S'.li, mach_at e', q', _, _, rfl, D.ob, doF_no _ _ _ _ (by decide +kernel), q', b', d', rfl, D, rq, fun H1 x s1 hx => ?_⟩
          have hx2 : ReqR H1 d'.req x := by
            unfold RqA at hx
            cases hd : d'.st with
            | help => exact absurd hd c1
            | fin => exact absurd hd c2
            | _ =>
              rw [hd] at hx
              exact hx
          obtain ⟨xp, items, rfl, hxp⟩ := hx2.hd
          refine ⟨_, rfl, _, _, _, _, rfl, rfl, SqT.of hxp, atI_nat (j := 0) rfl, rfl, seF (kd_nc _) ⟨_, rfl, _, _, _, _, rfl, rfl, SqT.of hxp, atI_nat (j := 0) rfl, rfl, seF (kd_ne _) ?_⟩⟩
          exact hq _ a' (S'.same s1) (by intro z; cases z) (s'.trans (Stp.of_same s1))
end
end Dk

set_option Elab.async false
set_option linter.all false
set_option maxRecDepth 100000
set_option maxHeartbeats 4000000
namespace Dk
open PySem PySem.Spec PyProof.Rows L2
open DkM (TV Mem DS Req Ent Deed upC upC_same upC_ne)
/-! ### separation -/
def Sep (F G : Addr → Prop) : Prop := ∀ y, F y → ¬ G y
section
variable {F F' G : Addr → Prop} {H H' : Hp}
theorem Sep.symm (s : Sep F G) : Sep G F := fun y g f => s y f g
theorem Stp.sep (s : Stp F H F' H') (d : Sep F G) (g : ∀ y, G y → ∃ o, H y = some o) : Sep F' G := fun y f h => by
  rcases s.nw y f with f | f
  · exact d y f h
  · obtain ⟨o, ho⟩ := g y h
    rw [f] at ho; cases ho
theorem Stp.frame (s : Stp F H F' H') (G : Addr → Prop) : Stp (fun y => F y ∨ G y) H (fun y => F' y ∨ G y) H' :=
  ⟨fun y h => by
    rcases h with h | h
    · rcases s.nw y h with h | h
      · exact .inl (.inl h)
      · exact .inr h
    · exact .inl (.inr h), fun y o h f => s.ou y o h fun z => f (.inl z), s.tu⟩
theorem Stp.frameL (s : Stp F H F' H') (G : Addr → Prop) : Stp (fun y => G y ∨ F y) H (fun y => G y ∨ F' y) H' :=
  ⟨fun y h => by
    rcases h with h | h
    · exact .inl (.inl h)
    · rcases s.nw y h with h | h
      · exact .inl (.inr h)
      · exact .inr h, fun y o h f => s.ou y o h fun z => f (.inr z), s.tu⟩
theorem Stp.sub {F2 : Addr → Prop} (s : Stp F H F' H') (h : ∀ y, F2 y → F' y) : Stp F H F2 H' := ⟨fun y f => s.nw y (h y f), s.ou, s.tu⟩
theorem Stp.sup {F0 : Addr → Prop} (s : Stp F H F' H') (h : ∀ y, F y → F0 y) : Stp F0 H F' H' := ⟨fun y f => (s.nw y f).imp (h y) id, fun y o hy f => s.ou y o hy fun z => f (h y z), s.tu⟩
end
section
variable {C CD p : Addr} {H H' : Hp} {a : SA} {ds : List DS}
theorem StkAt.topH {q : Addr} {b b' : DA} {qr : List (Addr × DA)} {d d' : DS} {r : List DS} {HF : Addr → Prop} (e : a.qs = (q, b) :: qr) (S : StkAt C CD H p a (d :: r)) (D : DoAt CD H' q b' d') (s : Stp (FD q b) H (fun y => FD q b' y ∨ HF y) H') (hn : ∀ y, HF y → ¬ FD q b' y) :
    StkAt C CD H' p { a with qs := (q, b') :: qr } (d' :: r) ∧ Stp (FS p a) H (fun y => FS p { a with qs := (q, b') :: qr } y ∨ HF y) H' ∧ ∀ y, HF y → ¬ FS p { a with qs := (q, b') :: qr } y := by
  obtain ⟨S1, s1⟩ := StkAt.top e S D (s.sub fun y h => .inl h)
  have h := S.dos
  rw [e] at h
  have n0 : ∀ y, FD q b y → y ≠ p ∧ y ≠ a.l := fun y hy => S.ns y (by rw [e]; exact ⟨_, List.mem_cons_self, hy⟩)
  refine ⟨S1, ⟨fun y f => ?_, s1.ou, s1.tu⟩, fun y f g => ?_⟩
  · rcases f with f | f
    · exact s1.nw y f
    · rcases s.nw y (.inr f) with f | f
      · exact .inl (.inr (.inr (by rw [e]; exact ⟨_, List.mem_cons_self, f⟩)))
      · exact .inr f
  · rcases s.nw y (.inr f) with k | k
    · rcases g with g | g | ⟨z, hz, g⟩
      · exact (n0 y k).1 g
      · exact (n0 y k).2 g
      · rcases List.mem_cons.mp hz with ez | hz
        · rw [ez] at g
          exact hn y f g
        · exact h.2.2 y k ⟨z, hz, g⟩
    · rcases g with g | g | ⟨z, hz, g⟩
      · rw [g, S.ob] at k; cases k
      · rw [show y = a.l from g, S.li] at k; cases k
      · rcases List.mem_cons.mp hz with ez | hz
        · rw [ez] at g
          exact hn y f g
        · obtain ⟨o, ho, _⟩ := FL.some h.2.1 ⟨z, hz, g⟩
          rw [k] at ho; cases ho
end
section
variable {P : Program} {w : World} {K : PySem.W.Frag} {mg : Str → Option Value} {base : Heap}
/-! ### step -/
structure StepOk (m : Mem) (t : Int) (d : DS) (r : List DS) : Prop where
  h1 : d.st ≠ .help
  h2 : d.st ≠ .fin
  rq : RqOk d
  ro : ReqOk m d.req
  ac : AccOk d (m.acc t d.req).1
  r2 : (d.acc (m.acc t d.req).1).st ≠ .help → (d.acc (m.acc t d.req).1).st ≠ .fin → RqOk (d.acc (m.acc t d.req).1)
  lo : (d.acc (m.acc t d.req).1).st = .fin → ∀ l r', r = l :: r' → l.st = .help ∧ l.ix < l.es.length
  ln : r.length ≤ 1000
theorem RqA.req {H : Hp} {a : DA} {d : DS} {x : V} (h : RqA H a d x) (h1 : d.st ≠ .help) (h2 : d.st ≠ .fin) : ReqR H d.req x := by
  unfold RqA at h
  cases hd : d.st with
  | help => exact absurd hd h1
  | fin => exact absurd hd h2
  | _ =>
    rw [hd] at h
    exact h
def spStep (K : PySem.W.Frag) : Sp := fun vs H Q _ => ∃ (p : Addr) (a : SA) (mp : Addr) (ma : MA) (m : Mem) (t : Int) (d : DS) (r : List DS), vs = [.ref p, .ref mp, .int t] ∧ StkA K H p a (d :: r) ∧ MemA K H mp ma m ∧ Sep (FS p a) (FM mp ma) ∧
  0 ≤ t ∧ t < 3 ∧ StepOk m t d r ∧ Bd m ∧ m.cnt ≤ 100000 ∧ 0 ≤ m.cnt ∧
  ∀ H' a' ma', StkA K H' p a' (DkM.step1 m t d r).2.1 → ((DkM.step1 m t d r).2.1 = [] → RT H' (DkM.step1 m t d r).2.2 a'.rv) → MemA K H' mp ma' (DkM.step1 m t d r).1 → Sep (FS p a') (FM mp ma') →
    Stp (fun y => FS p a y ∨ FM mp ma y) H (fun y => FS p a' y ∨ FM mp ma' y) H' → Q (.bl true) H'
theorem ok_stack_step (T : Tx w K mg) : Cal P w K mg base 7 (fS K "step") ["self", "memory", "thread"] (spStep K) := by
  refine mkCal T.F_Stack_step sc_Stack_step (fun vs H Q E h => ?_) (fun _ _ _ _ _ _ us hl => match us, hl with | [_, _, _], _ => rfl) fun cdv A outer s H vs Q E hr h => ?_
  · obtain ⟨p, a, mp, ma, m, t, d, r, rfl, _⟩ := h
    rfl
  · obtain ⟨p, a, mp, ma, m, t, d, r, rfl, S, M, sep, t0, t3, ok, B, hc, hc0, hq⟩ := h
    refine ⟨_, pss_cons (ps_expr (pe_methC0 (pv 0) T.c_Stack T.m_Stack_settle (ok_settle T) hr))
      (pss_cons (ps_if (pt_not (pt_truth (pe_fld (pv 0) rfl) (fun _ => rfl))) (pss_one (ps_ret pe_bl)) pss_nil)
      (pss_cons (ps_set (i := 3) sc_Stack_step.nd rfl (Or.inl rfl) (pe_ix ix_list (pe_fld (pv 0) rfl) (pe_un un_neg pe_int) (fun _ _ => rfl)))
      (pss_cons (ps_expr (pe_methC (pv 3) T.c_Doing T.m_Doing_accept (ok_accept T) (hr.mono (by decide)) (pa_cons (pe_methC (pv 1) T.c_Memory T.m_Memory_access (ok_access T) hr (pa_cons (pv 2) (pa_cons (pe_methC0 (pv 3) T.c_Doing T.m_Doing_request (ok_request T) (hr.mono (by decide))) pa_nil))) pa_nil)))
      (pss_cons (ps_expr (pe_methC0 (pv 0) T.c_Stack T.m_Stack_settle (ok_settle T) hr)) (pss_one (ps_ret pe_bl)))))), ?_⟩
    obtain ⟨q, b, qr, e, _⟩ := S.dos.cons_inv
    have es : DkM.settle .non d r = d :: r := by
      unfold DkM.settle
      cases hd : d.st with
      | help => exact absurd hd ok.h1
      | fin => exact absurd hd ok.h2
      | _ => rfl
    refine ⟨_, rfl, p, _, _, rfl, S.ob, stF_no _ (by decide +kernel), p, a, q, b, qr, d, r, .non, (fun _ => False), rfl, e, S, fun _ _ => ok.rq, fun z => absurd z ok.h1, fun z => absurd z ok.h2, ok.ln, fun H0 a0 S0 _ s0 => ?_⟩
    rw [es] at S0
    have s0 : Stp (FS p a) H (FS p a0) H0 := ⟨fun y h => by
      rcases s0.nw y h with (h | h) | h
      · exact .inl h
      · exact h.elim
      · exact .inr h, fun y o h f => s0.ou y o h fun z => z.elim f id, s0.tu⟩
    have mS : ∀ y, FM mp ma y → ∃ o, H y = some o := fun y h => by obtain ⟨o, ho, _⟩ := FM.some M h; exact ⟨o, ho⟩
    have sep0 := s0.sep sep mS
    have M0 : MemA K H0 mp ma m := M.stay (fun y o h hy => s0.ou y o hy fun z => sep y z h) s0.tu
    obtain ⟨q, b, qr, e0, D0, D20, n0⟩ := S0.dos.cons_inv
    refine ⟨_, rfl, p, _, _, _, _, rfl, S0.ob, T.c_Stack, T.n_Stack_machines, stF_mach _, true, .inl ⟨_, SqL.of S0.li, by rw [mach_cons e0]; simp⟩, iteF ?_⟩
    refine ⟨_, rfl, p, _, _, _, _, rfl, S0.ob, T.c_Stack, T.n_Stack_machines, stF_mach _, _, rfl, _, _, _, _, rfl, rfl, SqL.of S0.li, mach_at e0, ?_⟩
    refine ⟨_, rfl, q, _, _, rfl, D0.ob, doF_no _ _ _ _ (by decide +kernel), _, rfl, mp, _, _, rfl, M0.ob, mem_no _ _ (by decide +kernel), _, rfl, _, rfl, q, _, _, rfl, D0.ob, doF_no _ _ _ _ (by decide +kernel), q, b, d, rfl, D0, ok.rq, fun H1 x s1 hx => ?_⟩
    refine ⟨mp, ma, m, t, d.req, x, rfl, M0.same s1, t0, t3, hx.req ok.h1 ok.h2, ok.ro, B, hc, hc0, fun H2 ma2 y tp M2 s2 ry htp => ?_⟩
    have sm : Stp (FM mp ma) H0 (FM mp ma2) H2 := (Stp.of_same s1).trans s2
    have sS : ∀ y, FS p a0 y → ∃ o, H0 y = some o := fun y h => by obtain ⟨o, ho, _⟩ := FS.some S0 h; exact ⟨o, ho⟩
    have sep2 : Sep (FM mp ma2) (FS p a0) := sm.sep sep0.symm sS
    have S2 : StkA K H2 p a0 (d :: r) := S0.stay (fun y o h hy => sm.ou y o hy fun z => sep0 y h z) sm.tu
    have D2 : DoA K H2 q b d := by
      have := S2.dos
      rw [e0] at this
      exact this.1
    refine ⟨q, b, d, (m.acc t d.req).1, .ref tp, rfl, D2, .inr ⟨tp, y, _, rfl, htp, ry⟩, ok.ac, fun H3 b3 D3 sn sh => ?_⟩
    have mS2 : ∀ y, FM mp ma2 y → ∃ o, H2 y = some o := fun y h => by obtain ⟨o, ho, _⟩ := FM.some M2 h; exact ⟨o, ho⟩
    have fin : ∀ HF : Addr → Prop, Stp (FD q b) H2 (fun y => FD q b3 y ∨ HF y) H3 → (∀ y, HF y → ¬ FD q b3 y) → ((d.acc (m.acc t d.req).1).st = .help → ∃ hq ha, b3.hv = .ref hq ∧ DoA K H3 hq ha (DS.init (DkM.markA (m.acc t d.req).1)) ∧ ∀ y, FD hq ha y → HF y) →
        spSet K [.ref p] H3 (fun v H' => Q (.bl true) H') E0 := fun HF s3 hn hh => by
      obtain ⟨S3, s3', hn3⟩ := StkAt.topH e0 S2 D3 s3 hn
      refine ⟨p, _, q, b3, qr, _, r, (m.acc t d.req).1, HF, rfl, rfl, S3, ok.r2, fun z => ?_, ok.lo, ok.ln, fun H4 a4 S4 rv4 s4 => ?_⟩
      · obtain ⟨hq0, ha0, h1, h2, h3⟩ := hh z
        exact ⟨hq0, ha0, h1, h2, fun y f => ⟨h3 y f, hn3 y (h3 y f)⟩⟩
      · have s24 : Stp (FS p a0) H2 (FS p a4) H4 := s3'.trans s4
        have M4 : MemA K H4 mp ma2 (m.acc t d.req).2 := M2.stay (fun y o h hy => s24.ou y o hy fun z => sep2 y h z) s24.tu
        refine hq H4 a4 ma2 S4 rv4 M4 (s24.sep sep2.symm mS2) ?_
        exact ((s0.frame _).trans (sm.frameL _)).trans (s24.frame _)
    have hgo : spSet K [.ref p] H3 (fun v H' => Q (.bl true) H') E0 := by
      by_cases c : (d.acc (m.acc t d.req).1).st = .help
      · obtain ⟨hq0, ha0, h1, h2, h3, h4⟩ := sh c
        exact fin (FD hq0 ha0) h4 h3 fun _ => ⟨hq0, ha0, h1, h2, fun y f => f⟩
      · exact fin (fun _ => False) ((sn c).sub fun y f => f.elim id False.elim) (fun y f => f.elim) fun z => absurd z c
    obtain ⟨pp, aa, qq, bb, qrr, dd, rr, vv, HF, ev, ea, SS, r1, r2, r3, r4, r5⟩ := hgo
    injection ev with ev _
    injection ev with ev
    subst ev
    exact ⟨_, rfl, p, _, _, rfl, SS.ob, stF_no _ (by decide +kernel), p, aa, qq, bb, qrr, dd, rr, vv, HF, rfl, ea, SS, r1, r2, r3, r4, r5⟩
/-! ### the others -/
def spEnded (K : PySem.W.Frag) : Sp := fun vs H Q _ => ∃ (p : Addr) (a : SA) (ds : List DS), vs = [.ref p] ∧ StkA K H p a ds ∧ Q (.bl (decide (ds = []))) H
theorem ok_ended (T : Tx w K mg) : Cal P w K mg base 1 (fS K "ended") ["self"] (spEnded K) := by
  refine mkCal T.F_Stack_ended sc_Stack_ended (fun vs H Q E h => ?_) (fun _ _ _ _ _ _ us hl => match us, hl with | [_], _ => rfl) fun cdv A outer s H vs Q E hr h => ?_
  · obtain ⟨p, a, ds, rfl, _⟩ := h
    rfl
  · obtain ⟨p, a, ds, rfl, S, hq⟩ := h
    refine ⟨_, pss_one (ps_ret (pe_cmpR op_eq (pe_callB call_len_seq (by rfl) T.f_len (by decide +kernel) (pa_cons (pe_fld (pv 0) rfl) pa_nil)) pe_int (nomark _))), ?_⟩
    refine ⟨_, rfl, p, _, _, _, _, rfl, S.ob, T.c_Stack, T.n_Stack_machines, stF_mach _, _, _, rfl, .inl (SqL.of S.li), ?_⟩
    have e : decide (V.int ((mach a).length : Int) = V.int 0) = decide (ds = []) := by
      have hl : (mach a).length = ds.length := by unfold mach; rw [List.length_map, List.length_reverse, S.dos.len]
      rw [hl]
      cases ds with
      | nil => rfl
      | cons d r =>
        exact (decide_eq_false (fun z => by injection z with z; rw [List.length_cons] at z; omega)).trans (decide_eq_false (by intro z; cases z)).symm
    refine ⟨rfl, ?_⟩
    show Q (.bl (decide (V.int ((mach a).length : Int) = V.int 0))) H
    rw [e]; exact hq
def spValue (K : PySem.W.Frag) : Sp := fun vs H Q _ => ∃ (p : Addr) (a : SA) (ds : List DS), vs = [.ref p] ∧ StkA K H p a ds ∧ Q a.rv H
theorem ok_value (T : Tx w K mg) : Cal P w K mg base 1 (fS K "value") ["self"] (spValue K) := by
  refine mkCal T.F_Stack_value sc_Stack_value (fun vs H Q E h => ?_) (fun _ _ _ _ _ _ us hl => match us, hl with | [_], _ => rfl) fun cdv A outer s H vs Q E hr h => ?_
  · obtain ⟨p, a, ds, rfl, _⟩ := h
    rfl
  · obtain ⟨p, a, ds, rfl, S, hq⟩ := h
    exact ⟨_, pss_one (ps_ret (pe_fld (pv 0) rfl)), _, rfl, p, _, _, _, _, rfl, S.ob, T.c_Stack, T.n_Stack_result, stF_res _, hq⟩
def spStI (K : PySem.W.Frag) : Sp := fun vs H Q _ => ∃ (p dx q : Addr) (b : DA) (d : DS), vs = [.ref p, .ref q] ∧ H p = some (.ins (CS K) dx []) ∧ DoA K H q b d ∧ ¬ FD q b p ∧
  ∀ H' a, StkA K H' p a [d] → Stp (fun y => y = p ∨ FD q b y) H (FS p a) H' → Q .non H'
theorem ok_StI (T : Tx w K mg) : Cal P w K mg base 1 (fS K "__init__") ["self", "machine"] (spStI K) := by
  refine mkCal T.F_Stack___init__ sc_Stack___init__ (fun vs H Q E h => ?_) (fun _ _ _ _ _ _ us hl => match us, hl with | [_, _], _ => rfl) fun cdv A outer s H vs Q E hr h => ?_
  · obtain ⟨p, dx, q, b, d, rfl, _⟩ := h
    rfl
  · obtain ⟨p, dx, q, b, d, rfl, ho, D, np, hq⟩ := h
    refine ⟨_, pss_cons (ps_fld (pv 0) (pe_lst (pa_cons (pv 1) pa_nil)) rfl) (pss_one (ps_fld (pv 0) pe_non rfl)), ?_⟩
    have B0 : Bl H H p (CS K) dx [] := ⟨ho, fun x o h _ => h, TupK.refl H⟩
    refine ⟨_, rfl, (by show 1 ≤ sizeLine; decide), fun l hl => ?_⟩
    have B1 := B0.new (o := .lst [.ref q]) hl
    refine ⟨_, rfl, p, _, _, _, rfl, B1.ob, T.c_Stack, T.n_Stack_machines, (by show 0 < 1000; decide), ?_⟩
    have B2 := B1.put (k := "machines") (v := .ref l) (fs' := [("machines", .ref l)]) (putF_new (ks := []) rfl (by decide +kernel))
    refine ⟨_, rfl, p, _, _, _, rfl, B2.ob, T.c_Stack, T.n_Stack_result, (by show 1 < 1000; decide), ?_⟩
    have B3 := B2.put (k := "result") (v := .non) (fs' := [("machines", .ref l), ("result", .non)]) (putF_new (ks := ["machines"]) rfl (by decide +kernel))
    have npl : p ≠ l := ne_of_none ho hl
    have hfd : ∀ y, FD q b y → y ≠ p ∧ y ≠ l := fun y h => ⟨fun e => np (by rw [← e]; exact h), fun e => by
      obtain ⟨o, ho, _⟩ := FD.some D h
      rw [e, hl] at ho; cases ho⟩
    refine hq _ ⟨dx, l, .non, [(q, b)]⟩ ⟨B3.ob, ?_, ⟨D.stay (fun x o f h => B3.ou x o h (hfd x f).1) B3.tu, trivial, fun y _ ⟨z, hz, _⟩ => by cases hz⟩, fun y ⟨z, hz, f⟩ => ?_⟩ ⟨fun y f => ?_, fun y o h f => B3.ou y o h fun z => f (.inl z), B3.tu⟩
    · rw [upd_ne npl.symm, upd_ne npl.symm, upd_same]; rfl
    · rw [List.mem_singleton.mp hz] at f
      exact hfd y f
    · rcases f with f | f | ⟨z, hz, f⟩
      · exact .inl (.inl f)
      · exact .inr (by rw [f]; exact hl)
      · rw [List.mem_singleton.mp hz] at f
        exact .inl (.inr f)
end
end Dk

set_option Elab.async false
set_option linter.all false
set_option maxRecDepth 100000
set_option maxHeartbeats 4000000
namespace Dk
open PySem PySem.Spec PyProof.Rows L2
open DkM (TV Mem DS Req Ent Deed upC upC_same upC_ne)
section
variable {P : Program} {w : World} {K : PySem.W.Frag} {mg : Str → Option Value} {base : Heap}
/-! ### Layout(..) -/
def spLI (K : PySem.W.Frag) : Sp := fun vs H Q _ => ∃ (p dx : Addr), vs = [.ref p, .int 3, .int 4, .int 190] ∧ H p = some (.ins (CL K) dx []) ∧ ∀ H', Bl H H' p (CL K) dx layF → Q .non H'
theorem ok_LI (T : Tx w K mg) : Cal P w K mg base 2 (fL K "__init__") ["self", "threads", "words", "records"] (spLI K) := by
  refine mkCal T.F_Layout___init__ sc_Layout___init__ (fun vs H Q E h => ?_) (fun _ _ _ _ _ _ us hl => match us, hl with | [_, _, _, _], _ => rfl) fun cdv A outer s H vs Q E hr h => ?_
  · obtain ⟨p, dx, rfl, _⟩ := h
    rfl
  · obtain ⟨p, dx, rfl, ho, hq⟩ := h
    obtain ⟨t1, g1⟩ := T.i_MOST_THREADS
    obtain ⟨t2, g2⟩ := T.i_MOST_WORDS
    obtain ⟨t3, g3⟩ := T.i_LEAST_RECORDS
    obtain ⟨t4, g4⟩ := T.i_MOST_RECORDS
    refine ⟨_, pss_cons (ps_if (PW.pt (pw_or (pt_not (pt_val (pe_callC (ok_within T) hr rfl T.g_is_within (pa_cons (pv 1) (pa_cons pe_int (pa_cons (pe_glob (v := .int 3) (by rfl) g1 ⟨_, rfl⟩) pa_nil))))))
          (pw_or1 (pt_not (pt_val (pe_callC (ok_within T) hr rfl T.g_is_within (pa_cons (pv 2) (pa_cons pe_int (pa_cons (pe_glob (v := .int 4) (by rfl) g2 ⟨_, rfl⟩) pa_nil))))))))) (pss_one ps_never) pss_nil)
      (pss_cons (ps_if (pt_not (pt_val (pe_callC (ok_within T) hr rfl T.g_is_within (pa_cons (pv 3) (pa_cons (pe_glob (v := .int 4) (by rfl) g3 ⟨_, rfl⟩) (pa_cons (pe_glob (v := .int 200) (by rfl) g4 ⟨_, rfl⟩) pa_nil)))))) (pss_one ps_never) pss_nil)
      (pss_cons (ps_fld (pv 0) (pv 1) rfl) (pss_cons (ps_fld (pv 0) (pv 2) rfl) (pss_one (ps_fld (pv 0) (pv 3) rfl))))), ?_⟩
    have B0 : Bl H H p (CL K) dx [] := ⟨ho, fun x o h _ => h, TupK.refl H⟩
    have B1 := B0.put (k := "threads") (v := .int 3) (fs' := [("threads", .int 3)]) (putF_new (ks := []) rfl (by decide +kernel))
    have B2 := B1.put (k := "words") (v := .int 4) (fs' := [("threads", .int 3), ("words", .int 4)]) (putF_new (ks := ["threads"]) rfl (by decide +kernel))
    have B3 := B2.put (k := "records") (v := .int 190) (fs' := layF) (putF_new (ks := ["threads", "words"]) rfl (by decide +kernel))
    refine ⟨_, rfl, 3, 1, 3, rfl, true, rfl, iteF ⟨_, rfl, 4, 1, 4, rfl, true, rfl, iteF ?_⟩⟩
    refine ⟨_, rfl, 190, 4, 200, rfl, true, rfl, iteF ?_⟩
    refine ⟨_, rfl, _, rfl, p, _, _, _, rfl, B0.ob, T.c_Layout, T.n_Layout_threads, (by show 0 < 1000; decide), ?_⟩
    refine ⟨_, rfl, _, rfl, p, _, _, _, rfl, B1.ob, T.c_Layout, T.n_Layout_words, (by show 1 < 1000; decide), ?_⟩
    refine ⟨_, rfl, _, rfl, p, _, _, _, rfl, B2.ob, T.c_Layout, T.n_Layout_records, (by show 2 < 1000; decide), ?_⟩
    exact hq _ B3
/-! ### lists of new objects -/
structure FnL (H0 H : Hp) (D : Addr) (T : Int → Addr) (n : Nat) (o : HO) : Prop where
  dn : H0 D = none
  li : H D = some (.lst ((List.range n).map fun (k : Nat) => V.ref (T (k : Int))))
  fr : ∀ c : Int, 0 ≤ c → c < n → H0 (T c) = none ∧ H (T c) = some o ∧ T c ≠ D
  ij : ∀ c c' : Int, 0 ≤ c → c < n → 0 ≤ c' → c' < n → T c = T c' → c = c'
  sm : Same H0 H
theorem FnL.zero {H0 : Hp} {D : Addr} {T : Int → Addr} {o : HO} (h : H0 D = none) : FnL H0 (upd H0 D (.lst [])) D T 0 o :=
  ⟨h, upd_same, fun c h0 h1 => by omega, fun c c' h0 h1 => by omega, same_new h⟩
theorem FnL.len {H0 H : Hp} {D : Addr} {T : Int → Addr} {n : Nat} {o : HO} (_ : FnL H0 H D T n o) : ((List.range n).map fun (k : Nat) => V.ref (T (k : Int))).length = n := by rw [List.length_map, List.length_range]
theorem FnL.step {H0 H : Hp} {D q : Addr} {T : Int → Addr} {n : Nat} {o : HO} (F : FnL H0 H D T n o) (hq : H q = none) :
    FnL H0 (upd (upd H q o) D (.lst (((List.range n).map fun (k : Nat) => V.ref (T (k : Int))) ++ [.ref q]))) D (upC T (n : Int) q) (n + 1) o := by
  have qD : q ≠ D := fun e => by rw [e, F.li] at hq; cases hq
  have qn : H0 q = none := by
    cases e : H0 q with
    | none => rfl
    | some u => rw [F.sm _ _ e] at hq; cases hq
  refine ⟨F.dn, ?_, fun c h0 h1 => ?_, fun c c' h0 h1 h0' h1' e => ?_, fun y u h => ?_⟩
  · rw [upd_same, List.range_succ, List.map_append]
    have e1 : (List.range n).map (fun (k : Nat) => V.ref (upC T (n : Int) q (k : Int))) = (List.range n).map (fun (k : Nat) => V.ref (T (k : Int))) := by
      apply List.map_congr_left
      intro k hk
      have := List.mem_range.mp hk
      rw [upC_ne (by omega)]
    rw [e1]
    show _ = some (HO.lst (_ ++ [V.ref (upC T (n : Int) q (n : Int))]))
    rw [upC_same]
  · by_cases c1 : c = n
    · rw [c1, upC_same]
      exact ⟨qn, by rw [upd_ne qD, upd_same], qD⟩
    · rw [upC_ne c1]
      obtain ⟨f1, f2, f3⟩ := F.fr c h0 (by omega)
      exact ⟨f1, by rw [upd_ne f3, upd_ne (ne_of_none f2 hq)]; exact f2, f3⟩
  · have old : ∀ x : Int, 0 ≤ x → x < n → T x ≠ q := fun x x0 x1 z => by
      obtain ⟨f1, f2, f3⟩ := F.fr x x0 x1
      rw [z, hq] at f2; cases f2
    by_cases c1 : c = n
    · by_cases c2 : c' = n
      · rw [c1, c2]
      · rw [c1, upC_same, upC_ne c2] at e
        exact absurd e.symm (old c' h0' (by omega))
    · by_cases c2 : c' = n
      · rw [c2, upC_same, upC_ne c1] at e
        exact absurd e (old c h0 (by omega))
      · rw [upC_ne c1, upC_ne c2] at e
        exact F.ij c c' h0 (by omega) h0' (by omega) e
  · rw [upd_ne (ne_of_none h F.dn), upd_ne (ne_of_none h qn)]
    exact F.sm _ _ h
/-! ### no_notes -/
def spNN (K : PySem.W.Frag) : Sp := fun vs H Q _ => ∃ (p dx lay : Addr) (fs : List (Str × V)), vs = [.ref p] ∧ H p = some (.ins (CM K) dx fs) ∧ fs.lookup ("layout" : Str) = some (V.ref lay) ∧ LayAt (CL K) H lay ∧
  ∀ H' N (D : Int → Addr), H N = none → H' N = some (.lst (Nl D)) → (∀ t, 0 ≤ t → t < 3 → H (D t) = none ∧ H' (D t) = some (.dK [])) → (∀ t u, 0 ≤ t → t < 3 → 0 ≤ u → u < 3 → D t = D u → t = u) → Same H H' → Q (.ref N) H'
theorem ok_no_notes (T : Tx w K mg) : Cal P w K mg base 1 (fM K "no_notes") ["self"] (spNN K) := by
  refine mkCal T.F_Memory_no_notes sc_Memory_no_notes (fun vs H Q E h => ?_) (fun _ _ _ _ _ _ us hl => match us, hl with | [_], _ => rfl) fun cdv A outer s H vs Q E hr h => ?_
  · obtain ⟨p, dx, lay, fs, rfl, _⟩ := h
    rfl
  · obtain ⟨p, dx, lay, fs, rfl, ho, hl, ⟨ldx, hlay⟩, hq⟩ := h
    refine ⟨_, pss_one (ps_ret (pe_lc (own := [("_", 1)]) (g := gName 1) (tt := tYes) (by rfl) sc_Memory_no_notes.nd (pi_range1 (by rfl) T.f_range (pa_cons (pe_fld (pe_fld (pv 0) rfl) rfl) pa_nil)) (blkOk_by (own := [("_", 1)]) (N := ["self", "_"]) (sc := defScope s_Memory_no_notes) (by decide +kernel))
            (fun _ _ _ _ _ => pg_name (i := 1) sc_Memory_no_notes.nd rfl (Or.inl rfl)) (fun _ _ _ _ _ => pts_nil) (fun _ _ _ _ _ => pe_dnewK))), ?_⟩
    refine ⟨_, rfl, p, _, _, _, _, rfl, ho, T.c_Memory, T.n_Memory_layout, hl, lay, _, ldx, _, _, rfl, hlay, T.c_Layout, T.n_Layout_threads, layF_th, ?_⟩
    refine ⟨3, rfl, by omega, by omega, fun D hD => ?_⟩
    refine lc_range (lo := 0) (n := 3) (fun i H' => ∃ T, FnL H H' D T i (.dK [])) ⟨fun _ => 0, FnL.zero hD⟩ (fun i H' hi ⟨T0, F⟩ => ⟨rfl, ?_⟩) fun H' ⟨T0, F⟩ => ?_
    · refine fun q0 hq0 => ⟨_, (same_new hq0) _ _ F.li, by rw [F.len]; exact Nat.lt_of_le_of_lt (show i ≤ 3 by omega) (by decide), ?_⟩
      exact ⟨_, F.step hq0⟩
    · refine hq H' D T0 hD ?_ (fun t t0 t3 => ⟨(F.fr t t0 t3).1, (F.fr t t0 t3).2.1⟩) (fun t u t0 t3 u0 u3 => F.ij t u t0 t3 u0 u3) F.sm
      rw [F.li]; rfl
end
end Dk

set_option Elab.async false
set_option linter.all false
set_option maxRecDepth 100000
set_option maxHeartbeats 4000000
namespace Dk
open PySem PySem.Spec PyProof.Rows L2
open DkM (TV Mem DS Req Ent Deed upC upC_same upC_ne)
theorem Bl.setl {H0 H : Hp} {q C dx l : Addr} {fs : List (Str × V)} {u o : HO} (B : Bl H0 H q C dx fs) (hl : H l = some u) (hu : ∀ xs, u ≠ .tup xs) (h0 : H0 l = none) (hq : l ≠ q) : Bl H0 (upd H l o) q C dx fs :=
  ⟨by rw [upd_ne hq.symm]; exact B.ob, fun x v h n => by rw [upd_ne (ne_of_none h h0)]; exact B.ou x v h n, B.tu.trans (TupK.upd hl hu)⟩
/-- a memory that is being made -/
structure MI (C : Addr) (H0 H : Hp) (p dx : Addr) (fs : List (Str × V)) (rows L : Addr) (T : Int → Addr) (tr : Int → List TV) : Prop where
  bl : Bl H0 H p C dx fs
  ro : H rows = some (.lst [])
  f1 : H0 rows = none
  rL : rows ≠ L
  tl : H L = some (.lst (Tl T))
  f2 : H0 L = none
  tr : ∀ c, 0 ≤ c → c < 201 → ∃ xs, H (T c) = some (.lst xs) ∧ All2 (RT H) (tr c) xs
  f3 : ∀ c, 0 ≤ c → c < 201 → H0 (T c) = none
  Tr : ∀ c, 0 ≤ c → c < 201 → T c ≠ rows ∧ T c ≠ L
  Ti : ∀ c c', 0 ≤ c → c < 201 → 0 ≤ c' → c' < 201 → T c = T c' → c = c'
section
variable {C p dx rows L : Addr} {H0 H : Hp} {fs : List (Str × V)} {T : Int → Addr} {tr : Int → List TV}
theorem MI.new (M : MI C H0 H p dx fs rows L T tr) {q : Addr} {o : HO} (hq : H q = none) : MI C H0 (upd H q o) p dx fs rows L T tr where
  bl := M.bl.new hq
  ro := same_new hq _ _ M.ro
  f1 := M.f1
  rL := M.rL
  tl := same_new hq _ _ M.tl
  f2 := M.f2
  tr := fun c h0 h => by
    obtain ⟨xs, h1, h2⟩ := M.tr c h0 h
    exact ⟨xs, same_new hq _ _ h1, h2.mono (RT.mono (TupK.new hq))⟩
  f3 := M.f3
  Tr := M.Tr
  Ti := M.Ti
theorem MI.put (M : MI C H0 H p dx fs rows L T tr) {k : Str} {v : V} {fs' : List (Str × V)} (e : putF k v fs = fs') : MI C H0 (upd H p (.ins C dx (putF k v fs))) p dx fs' rows L T tr := by
  have np : ∀ x xs, H x = some (.lst xs) → x ≠ p := fun x xs h => ne_of h M.bl.ob (fun e => by cases e)
  exact {
    bl := M.bl.put e
    ro := by rw [upd_ne (np _ _ M.ro)]; exact M.ro
    f1 := M.f1
    rL := M.rL
    tl := by rw [upd_ne (np _ _ M.tl)]; exact M.tl
    f2 := M.f2
    tr := fun c h0 h => by
      obtain ⟨xs, h1, h2⟩ := M.tr c h0 h
      exact ⟨xs, by rw [upd_ne (np _ _ h1)]; exact h1, h2.mono (RT.mono (TupK.upd M.bl.ob fun ys e => by cases e))⟩
    f3 := M.f3
    Tr := M.Tr
    Ti := M.Ti }
theorem MI.set (M : MI C H0 H p dx fs rows L T tr) {c : Int} (h0 : 0 ≤ c) (h : c < 201) {q : Addr} {xs : List V} {l : List TV} (hq : H q = none) (hl : All2 (RT H) l xs) :
    MI C H0 (upd (upd H q (.lst xs)) L (.lst (Tl (upC T c q)))) p dx fs rows L (upC T c q) (upC tr c l) := by
  have nq : ∀ x o, H x = some o → x ≠ q := fun x o hx => ne_of_none hx hq
  have LL : (upd H q (.lst xs)) L = some (.lst (Tl T)) := by rw [upd_ne (nq _ _ M.tl)]; exact M.tl
  have tk : TupK H (upd (upd H q (.lst xs)) L (.lst (Tl (upC T c q)))) := (TupK.new hq).trans (TupK.upd LL fun ys e => by cases e)
  have keep : ∀ x o, H x = some o → x ≠ L → (upd (upd H q (.lst xs)) L (.lst (Tl (upC T c q)))) x = some o := fun x o hx hn => by rw [upd_ne hn, upd_ne (nq x o hx)]; exact hx
  have hqL : q ≠ L := fun e => by rw [e, M.tl] at hq; cases hq
  have Lp : L ≠ p := ne_of M.tl M.bl.ob (fun e => by cases e)
  exact {
    bl := (M.bl.new hq).setl LL (fun ys e => by cases e) M.f2 Lp
    ro := keep _ _ M.ro M.rL
    f1 := M.f1
    rL := M.rL
    tl := upd_same
    f2 := M.f2
    tr := fun d d0 d1 => by
      by_cases e : d = c
      · subst e
        refine ⟨xs, ?_, ?_⟩
        · rw [upC_same, upd_ne hqL, upd_same]
        · rw [upC_same]
          exact hl.mono (RT.mono tk)
      · obtain ⟨ys, g1, g2⟩ := M.tr d d0 d1
        refine ⟨ys, ?_, ?_⟩
        · rw [upC_ne e]
          exact keep _ _ g1 (M.Tr d d0 d1).2
        · rw [upC_ne e]
          exact g2.mono (RT.mono tk)
    f3 := fun d d0 d1 => by
      by_cases e : d = c
      · rw [e, upC_same]
        exact M.bl.fresh hq
      · rw [upC_ne e]; exact M.f3 d d0 d1
    Tr := fun d d0 d1 => by
      by_cases e : d = c
      · rw [e, upC_same]
        exact ⟨(nq _ _ M.ro).symm, hqL⟩
      · rw [upC_ne e]; exact M.Tr d d0 d1
    Ti := fun d d' d0 d1 e0 e1 z => by
      have old : ∀ x, 0 ≤ x → x < 201 → T x ≠ q := fun x x0 x1 => by
        obtain ⟨ys, g1, _⟩ := M.tr x x0 x1
        exact nq _ _ g1
      by_cases e : d = c
      · by_cases e' : d' = c
        · rw [e, e']
        · rw [e, upC_same, upC_ne e'] at z
          exact absurd z.symm (old d' e0 e1)
      · by_cases e' : d' = c
        · rw [e', upC_same, upC_ne e] at z
          exact absurd z (old d d0 d1)
        · rw [upC_ne e, upC_ne e'] at z
          exact M.Ti d d' d0 d1 e0 e1 z }
end
theorem MI.same {C p dx rows L : Addr} {H0 H H' : Hp} {fs : List (Str × V)} {T : Int → Addr} {tr : Int → List TV} (M : MI C H0 H p dx fs rows L T tr) (s : Same H H') : MI C H0 H' p dx fs rows L T tr where
  bl := ⟨s _ _ M.bl.ob, fun x o h n => s _ _ (M.bl.ou x o h n), M.bl.tu.trans (TupK.of_same s)⟩
  ro := s _ _ M.ro
  f1 := M.f1
  rL := M.rL
  tl := s _ _ M.tl
  f2 := M.f2
  tr := fun c h0 h => by
    obtain ⟨xs, h1, h2⟩ := M.tr c h0 h
    exact ⟨xs, s _ _ h1, h2.mono (RT.mono (TupK.of_same s))⟩
  f3 := M.f3
  Tr := M.Tr
  Ti := M.Ti
section
variable {P : Program} {w : World} {K : PySem.W.Frag} {mg : Str → Option Value} {base : Heap}
/-! ### Memory(..) -/
def trN (n : Nat) (c : Int) : List TV := if 7 ≤ c ∧ c < 7 + n then [.int (c + 4)] else if 11 ≤ c ∧ c < 11 + n then [.items] else if c = 0 then [.int 0] else [.non]
theorem trN4 (c : Int) : trN 4 c = DkM.initM.tr c := by
  show (if 7 ≤ c ∧ c < 7 + ((4 : Nat) : Int) then [TV.int (c + 4)] else if 11 ≤ c ∧ c < 11 + ((4 : Nat) : Int) then [TV.items] else if c = 0 then [TV.int 0] else [TV.non]) = (if 7 ≤ c ∧ c ≤ 10 then [TV.int (c + 4)] else if 11 ≤ c ∧ c ≤ 14 then [TV.items] else if c = 0 then [TV.int 0] else [TV.non])
  by_cases c1 : 7 ≤ c ∧ c ≤ 10
  · rw [if_pos c1, if_pos (by omega)]
  · rw [if_neg c1, if_neg (by omega)]
    by_cases c2 : 11 ≤ c ∧ c ≤ 14
    · rw [if_pos c2, if_pos (by omega)]
    · rw [if_neg c2, if_neg (by omega)]
theorem trN_succ (n : Nat) (h : n < 4) (c : Int) : trN (n + 1) c = upC (upC (trN n) (7 + n) [.int (11 + n)]) (11 + n) [.items] c := by
  unfold trN upC
  by_cases c1 : c = 11 + n
  · subst c1
    rw [if_neg (by omega), if_pos (by omega), if_pos rfl]
  · rw [if_neg c1]
    by_cases c2 : c = 7 + n
    · subst c2
      rw [if_pos (by omega), if_pos rfl]
      congr 2
      omega
    · rw [if_neg c2]
      show (if 7 ≤ c ∧ c < 7 + ((n + 1 : Nat) : Int) then [TV.int (c + 4)] else if 11 ≤ c ∧ c < 11 + ((n + 1 : Nat) : Int) then [TV.items] else if c = 0 then [TV.int 0] else [TV.non]) = (if 7 ≤ c ∧ c < 7 + (n : Int) then [TV.int (c + 4)] else if 11 ≤ c ∧ c < 11 + (n : Int) then [TV.items] else if c = 0 then [TV.int 0] else [TV.non])
      by_cases c3 : 7 ≤ c ∧ c < 7 + n
      · rw [if_pos c3, if_pos (by omega)]
      · rw [if_neg c3, if_neg (by omega)]
        by_cases c4 : 11 ≤ c ∧ c < 11 + n
        · rw [if_pos c4, if_pos (by omega)]
        · rw [if_neg c4, if_neg (by omega)]
def spMI (K : PySem.W.Frag) : Sp := fun vs H Q _ => ∃ (p dx lay : Addr), vs = [.ref p, .ref lay] ∧ H p = some (.ins (CM K) dx []) ∧ LayAt (CL K) H lay ∧ p ≠ lay ∧
  ∀ H' a, MemA K H' p a DkM.initM → (∀ y, FM p a y → y = p ∨ y = lay ∨ H y = none) → (∀ x o, H x = some o → x ≠ p → H' x = some o) → TupK H H' → Q .non H'
theorem ok_MI (T : Tx w K mg) : Cal P w K mg base 3 (fM K "__init__") ["self", "layout"] (spMI K) := by
  refine mkCal T.F_Memory___init__ sc_Memory___init__ (fun vs H Q E h => ?_) (fun _ _ _ _ _ _ us hl => match us, hl with | [_, _], _ => rfl) fun cdv A outer s H vs Q E hr h => ?_
  · obtain ⟨p, dx, lay, rfl, _⟩ := h
    rfl
  · obtain ⟨p, dx, lay, rfl, ho, ⟨ldx, hlay⟩, hpl, hq⟩ := h
    refine ⟨_, pss_cons (ps_fld (pv 0) (pv 1) rfl) (pss_cons (ps_fld (pv 0) pe_int rfl) (pss_cons (ps_fld (pv 0) (pe_lst pa_nil) rfl)
      (pss_cons (ps_fld (pv 0) (pe_lc (own := [("_", 3)]) (g := gName 3) (tt := tYes) (by rfl) sc_Memory___init__.nd (pi_range1 (by rfl) T.f_range (pa_cons (pe_methC0 (pv 1) T.c_Layout T.m_Layout_cells (ok_cells T) hr) pa_nil))
            (blkOk_by (own := [("_", 3)]) (N := ["self", "layout", "index", "_"]) (sc := defScope s_Memory___init__) (by decide +kernel))
            (fun _ _ _ _ _ => pg_name (i := 3) sc_Memory___init__.nd rfl (Or.inl rfl)) (fun _ _ _ _ _ => pts_nil) (fun _ _ _ _ _ => pe_lst (pa_cons pe_non pa_nil))) rfl)
      (pss_cons (ps_asg (pe_lst (pa_cons pe_int pa_nil)) (pg_sub (pe_fld (pv 0) rfl) (pe_methC0 (pv 1) T.c_Layout T.m_Layout_epoch (ok_epoch T) (hr.mono (by decide))) set_list))
      (pss_cons (ps_for PassesOwn.never rfl (pi_range1 (by rfl) T.f_range (pa_cons (pe_fld (pv 1) rfl) pa_nil)) (pg_name (i := 2) sc_Memory___init__.nd rfl (Or.inl rfl))
        (pss_cons (ps_asg (pe_lst (pa_cons (pe_methC (pv 1) T.c_Layout T.m_Layout_record (ok_record T) (hr.mono (by decide)) (pa_cons (pv 2) pa_nil)) pa_nil))
            (pg_sub (pe_fld (pv 0) rfl) (pe_methC (pv 1) T.c_Layout T.m_Layout_word (ok_word T) (hr.mono (by decide)) (pa_cons (pv 2) pa_nil)) set_list))
        (pss_one (ps_asg (pe_lst (pa_cons (pe_tup (pa_cons pe_str (pa_cons (pe_tup pa_nil) pa_nil))) pa_nil))
            (pg_sub (pe_fld (pv 0) rfl) (pe_methC (pv 1) T.c_Layout T.m_Layout_record (ok_record T) (hr.mono (by decide)) (pa_cons (pv 2) pa_nil)) set_list)))))
      (pss_one (ps_fld (pv 0) (pe_methC0 (pv 0) T.c_Memory T.m_Memory_no_notes (ok_no_notes T) (hr.mono (by decide))) rfl))))))), ?_⟩
    have B0 : Bl H H p (CM K) dx [] := ⟨ho, fun x o h _ => h, TupK.refl H⟩
    have B1 := B0.put (k := "layout") (v := .ref lay) (fs' := [("layout", .ref lay)]) (putF_new (ks := []) rfl (by decide +kernel))
    have B2 := B1.put (k := "count") (v := .int 0) (fs' := [("layout", .ref lay), ("count", .int 0)]) (putF_new (ks := ["layout"]) rfl (by decide +kernel))
    refine ⟨_, rfl, _, rfl, p, _, _, _, rfl, B0.ob, T.c_Memory, T.n_Memory_layout, (by show 0 < 1000; decide), ?_⟩
    refine ⟨_, rfl, p, _, _, _, rfl, B1.ob, T.c_Memory, T.n_Memory_count, (by show 1 < 1000; decide), ?_⟩
    refine ⟨(by show 0 ≤ sizeLine; decide), fun rows hrows => ?_⟩
    have B3 := B2.new (o := .lst []) hrows
    refine ⟨_, rfl, p, _, _, _, rfl, B3.ob, T.c_Memory, T.n_Memory_rows, (by show 2 < 1000; decide), ?_⟩
    have B4 := B3.put (k := "rows") (v := .ref rows) (fs' := [("layout", .ref lay), ("count", .int 0), ("rows", .ref rows)]) (putF_new (ks := ["layout", "count"]) rfl (by decide +kernel))
    have hr4 : (upd (upd (upd (upd H p (.ins (CM K) dx (putF "layout" (.ref lay) []))) p (.ins (CM K) dx (putF "count" (.int 0) [("layout", .ref lay)]))) rows (.lst [])) p (.ins (CM K) dx (putF "rows" (.ref rows) [("layout", .ref lay), ("count", .int 0)]))) rows = some (.lst []) := by
      rw [upd_ne (ne_of_none B2.ob hrows).symm, upd_same]
    have f1 : H rows = none := B2.fresh hrows
    generalize (upd (upd (upd (upd H p (.ins (CM K) dx (putF "layout" (.ref lay) []))) p (.ins (CM K) dx (putF "count" (.int 0) [("layout", .ref lay)]))) rows (.lst [])) p (.ins (CM K) dx (putF "rows" (.ref rows) [("layout", .ref lay), ("count", .int 0)]))) = H4 at B4 hr4
    have hl4 := B4.ou _ _ hlay hpl.symm
    refine ⟨_, rfl, lay, _, _, rfl, hl4, lay_no (by decide +kernel), lay, rfl, ⟨ldx, hl4⟩, 201, rfl, by omega, by omega, fun L hL => ?_⟩
    refine lc_range (lo := 0) (n := 201) (fun i H' => ∃ T, FnL H4 H' L T i (.lst [.non])) ⟨fun _ => 0, FnL.zero hL⟩ (fun i H' hi ⟨T0, F⟩ => ⟨rfl, ?_⟩) fun H5 ⟨T0, F⟩ => ?_
    · exact ⟨(by show 1 ≤ sizeLine; decide), fun q0 hq0 => ⟨_, (same_new hq0) _ _ F.li, by rw [F.len]; exact Nat.lt_of_le_of_lt (show i ≤ 201 by omega) (by decide), _, F.step hq0⟩⟩
    have M5 : MI (CM K) H H5 p dx [("layout", .ref lay), ("count", .int 0), ("rows", .ref rows)] rows L T0 (fun _ => [.non]) := {
      bl := ⟨F.sm _ _ B4.ob, fun x o h n => F.sm _ _ (B4.ou x o h n), B4.tu.trans (TupK.of_same F.sm)⟩
      ro := F.sm _ _ hr4
      f1 := f1
      rL := ne_of_none hr4 hL
      tl := F.li
      f2 := B4.fresh hL
      tr := fun c h0 h => ⟨[.non], (F.fr c h0 h).2.1, rfl, trivial⟩
      f3 := fun c h0 h => B4.fresh (F.fr c h0 h).1
      Tr := fun c h0 h => ⟨(ne_of_none hr4 (F.fr c h0 h).1).symm, (F.fr c h0 h).2.2⟩
      Ti := F.ij }
    refine ⟨_, rfl, p, _, _, _, rfl, M5.bl.ob, T.c_Memory, T.n_Memory_trails, (by show 3 < 1000; decide), ?_⟩
    have M6 := M5.put (k := "trails") (v := .ref L) (fs' := [("layout", .ref lay), ("count", .int 0), ("rows", .ref rows), ("trails", .ref L)]) (putF_new (ks := ["layout", "count", "rows"]) rfl (by decide +kernel))
    generalize (upd H5 p (HO.ins (CM K) dx (putF "trails" (.ref L) [("layout", .ref lay), ("count", .int 0), ("rows", .ref rows)]))) = H6 at M6
    have lkt : List.lookup ("trails" : Str) [(("layout" : Str), V.ref lay), ("count", .int 0), ("rows", .ref rows), ("trails", .ref L)] = some (V.ref L) := lk_at (ks := ["layout", "count", "rows", "trails"]) 3 rfl rfl (by decide +kernel)
    have lkl : List.lookup ("layout" : Str) [(("layout" : Str), V.ref lay), ("count", .int 0), ("rows", .ref rows), ("trails", .ref L)] = some (V.ref lay) := lk_at (ks := ["layout", "count", "rows", "trails"]) 0 rfl rfl (by decide +kernel)
    refine ⟨(by show 1 ≤ sizeLine; decide), fun q7 hq7 => ?_⟩
    have M6' := M6.new (o := .lst [.int 0]) hq7
    have hl6 := M6'.bl.ou _ _ hlay hpl.symm
    refine ⟨_, rfl, p, _, _, _, _, rfl, M6'.bl.ob, T.c_Memory, T.n_Memory_trails, lkt, _, rfl, lay, _, _, rfl, hl6, lay_no (by decide +kernel), lay, rfl, ⟨ldx, hl6⟩, _, _, _, _, rfl, rfl, M6'.tl, ixN_of (n := (Tl T0).length) (by omega) (by rw [Tl_len]; omega), ?_⟩
    rw [Tl_set (by omega) (by omega)]
    have M7 := M6.set (c := 0) (by omega) (by omega) (xs := [.int 0]) (l := [.int 0]) hq7 ⟨rfl, trivial⟩
    have e7 : upC (fun _ => [TV.non]) 0 [.int 0] = trN 0 := by
      funext c
      unfold upC trN
      rw [if_neg (c := 7 ≤ c ∧ c < 7 + ((0 : Nat) : Int)) (by omega), if_neg (c := 11 ≤ c ∧ c < 11 + ((0 : Nat) : Int)) (by omega)]
    rw [e7] at M7
    generalize (upd (upd H6 q7 (HO.lst [.int 0])) L (HO.lst (Tl (upC T0 0 q7)))) = H7 at M7
    have hl7 := M7.bl.ou _ _ hlay hpl.symm
    refine ⟨_, rfl, lay, _, ldx, _, _, rfl, hl7, T.c_Layout, T.n_Layout_words, layF_wo, 4, rfl, by omega, by omega, ?_⟩
    refine for_range (lo := 0) (n := 4) (fun i σ H' => ∃ y T', σ = [some (.ref p), some (.ref lay), y, none] ∧ MI (CM K) H H' p dx [("layout", .ref lay), ("count", .int 0), ("rows", .ref rows), ("trails", .ref L)] rows L T' (trN i)) ⟨none, _, rfl, M7⟩ ?_ ?_
    · rintro i σ H8 hi ⟨y, T8, rfl, M8⟩
      have hl8 := M8.bl.ou _ _ hlay hpl.symm
      refine ⟨_, rfl, lay, _, _, rfl, hl8, lay_no (by decide +kernel), _, rfl, lay, _, rfl, ⟨ldx, hl8⟩, (by show 1 ≤ sizeLine; decide), fun q hq' => ?_⟩
      have M8' := M8.new (o := .lst [.int (11 + (0 + (i : Int)))]) hq'
      have hl8' := M8'.bl.ou _ _ hlay hpl.symm
      refine ⟨_, rfl, p, _, _, _, _, rfl, M8'.bl.ob, T.c_Memory, T.n_Memory_trails, lkt, _, rfl, lay, _, _, rfl, hl8', lay_no (by decide +kernel), _, rfl, lay, _, rfl, ⟨ldx, hl8'⟩, _, _, _, _, rfl, rfl, M8'.tl, ixN_of (n := (Tl T8).length) (by omega) (by rw [Tl_len]; omega), ?_⟩
      rw [Tl_set (by omega) (by omega)]
      have M9 := M8.set (c := 7 + (0 + (i : Int))) (by omega) (by omega) (xs := [.int (11 + (0 + (i : Int)))]) (l := [.int (11 + (0 + (i : Int)))]) hq' ⟨rfl, trivial⟩
      generalize (upd (upd H8 q (HO.lst [.int (11 + (0 + (i : Int)))])) L (HO.lst (Tl (upC T8 (7 + (0 + (i : Int))) q)))) = H9 at M9
      have hl9 := M9.bl.ou _ _ hlay hpl.symm
      refine ⟨(by show 0 ≤ sizeLine; decide), fun e1 he1 => ⟨(by show 2 ≤ sizeLine; decide), fun e2 he2 => ⟨(by show 1 ≤ sizeLine; decide), fun q2 hq2 => ?_⟩⟩⟩
      have M10 := (M9.new (o := .tup []) he1).new (o := .tup [.str "items", .ref e1]) he2
      have M10' := M10.new (o := .lst [.ref e2]) hq2
      have hl10 := M10'.bl.ou _ _ hlay hpl.symm
      refine ⟨_, rfl, p, _, _, _, _, rfl, M10'.bl.ob, T.c_Memory, T.n_Memory_trails, lkt, _, rfl, lay, _, _, rfl, hl10, lay_no (by decide +kernel), _, rfl, lay, _, rfl, ⟨ldx, hl10⟩, _, _, _, _, rfl, rfl, M10'.tl, ixN_of (n := (Tl (upC T8 (7 + (0 + (i : Int))) q)).length) (by omega) (by rw [Tl_len]; omega), ?_⟩
      rw [Tl_set (by omega) (by omega)]
      have M11 := M10.set (c := 11 + (0 + (i : Int))) (by omega) (by omega) (xs := [.ref e2]) (l := [.items]) hq2 ⟨⟨e2, e1, rfl, upd_same⟩, trivial⟩
      have e11 : upC (upC (trN i) (7 + (0 + (i : Int))) [.int (11 + (0 + (i : Int)))]) (11 + (0 + (i : Int))) [.items] = trN (i + 1) := by
        funext c
        rw [Int.zero_add, trN_succ i hi]
      rw [e11] at M11
      exact ⟨_, _, rfl, M11⟩
    · rintro σ H8 ⟨y, T8, rfl, M8⟩
      have hl8 := M8.bl.ou _ _ hlay hpl.symm
      refine ⟨_, rfl, p, _, _, rfl, M8.bl.ob, lk_no (ks := ["layout", "count", "rows", "trails"]) rfl (by decide +kernel), p, dx, lay, _, rfl, M8.bl.ob, lkl, ⟨ldx, hl8⟩, fun H9 N D hN hN9 hD hDi s9 => ?_⟩
      have M9 := M8.same s9
      have M10 := M9.put (k := "notes") (v := .ref N) (fs' := memF ⟨dx, lay, rows, L, N, T8, D⟩ 0) (putF_new (ks := ["layout", "count", "rows", "trails"]) rfl (by decide +kernel))
      refine ⟨_, rfl, p, _, _, _, rfl, M9.bl.ob, T.c_Memory, T.n_Memory_notes, (by show 4 < 1000; decide), ?_⟩
      have keep : ∀ x xs, H9 x = some xs → (∀ C d f, xs ≠ .ins C d f) → (upd H9 p (HO.ins (CM K) dx (putF "notes" (.ref N) [("layout", .ref lay), ("count", .int 0), ("rows", .ref rows), ("trails", .ref L)]))) x = some xs := fun x xs h hn => by
        rw [upd_ne (ne_of h M9.bl.ob (hn _ _ _))]; exact h
      refine hq _ ⟨dx, lay, rows, L, N, T8, D⟩ {
        ob := M10.bl.ob
        la := ⟨ldx, M10.bl.ou _ _ hlay hpl.symm⟩
        rw := ⟨[], M10.ro, rfl⟩
        tl := M10.tl
        tr := fun c h0 h => by
          obtain ⟨xs, h1, h2⟩ := M10.tr c h0 h
          exact ⟨xs, h1, by rw [← trN4]; exact h2⟩
        nl := keep _ _ hN9 (fun _ _ _ e => by cases e)
        nt := fun t t0 t3 => ⟨[], keep _ _ (hD t t0 t3).2 (fun _ _ _ e => by cases e), List.nodup_nil, fun q h => (by cases h), fun c => rfl⟩
        pl := hpl
        rL := M8.rL
        rN := ne_of_none M8.ro hN
        LN := ne_of_none M8.tl hN
        Tr := fun c h0 h => ⟨(M8.Tr c h0 h).1, (M8.Tr c h0 h).2, by
          obtain ⟨xs, h1, _⟩ := M8.tr c h0 h
          exact ne_of_none h1 hN⟩
        Ti := M8.Ti
        Di := fun c c' h0 h3 h0' h3' e => hDi c c' h0 h3 h0' h3' e } (fun y f => ?_) M10.bl.ou M10.bl.tu
      rcases f with f | f | f | f | f | ⟨c, c0, c1, f⟩ | ⟨t, t0, t3, f⟩
      · exact .inl f
      · exact .inr (.inl f)
      · exact .inr (.inr (by rw [f]; exact M8.f1))
      · exact .inr (.inr (by rw [f]; exact M8.f2))
      · exact .inr (.inr (by rw [f]; exact M8.bl.fresh hN))
      · exact .inr (.inr (by rw [f]; exact M8.f3 c c0 c1))
      · exact .inr (.inr (by rw [f]; exact M8.bl.fresh (hD t t0 t3).1))
end
end Dk

set_option Elab.async false
set_option linter.all false
set_option maxRecDepth 100000
set_option maxHeartbeats 4000000
namespace Dk
open PySem PySem.Spec PyProof.Rows L2
open DkM (TV Mem DS Req Ent Deed upC upC_same upC_ne)
section
variable {C CL p : Addr} {H H' : Hp} {a : MA} {m : Mem}
/-- all notes are new -/
theorem MemAt.allN (M : MemAt C CL H p a m) {N : Addr} {D : Int → Addr} (s : Same H H') (hN : H N = none) (hN2 : H' N = some (.lst (Nl D))) (hD : ∀ t, 0 ≤ t → t < 3 → H (D t) = none ∧ H' (D t) = some (.dK [])) (hi : ∀ t u, 0 ≤ t → t < 3 → 0 ≤ u → u < 3 → D t = D u → t = u) :
    MemAt C CL (upd H' p (.ins C a.dx (memF { a with N := N, Dn := D } m.cnt))) p { a with N := N, Dn := D } { m with nt := fun _ _ => none } ∧
      Stp (FM p a) H (FM p { a with N := N, Dn := D }) (upd H' p (.ins C a.dx (memF { a with N := N, Dn := D } m.cnt))) := by
  have ob := s _ _ M.ob
  have tk : TupK H (upd H' p (.ins C a.dx (memF { a with N := N, Dn := D } m.cnt))) := (TupK.of_same s).trans (TupK.upd ob fun ys e => by cases e)
  have keep : ∀ x o, H' x = some o → (∀ f, o ≠ .ins C a.dx f) → (upd H' p (.ins C a.dx (memF { a with N := N, Dn := D } m.cnt))) x = some o := fun x o h hn => by rw [upd_ne (ne_of h ob (hn _))]; exact h
  refine ⟨?_, fun y f => ?_, fun y o h f => by rw [upd_ne fun e => f (.inl e)]; exact s _ _ h, tk⟩
  · exact {
      ob := upd_same
      la := by
        obtain ⟨dx, h⟩ := M.la
        exact ⟨dx, by rw [upd_ne M.pl.symm]; exact s _ _ h⟩
      rw := by
        obtain ⟨rs, h, l⟩ := M.rw
        exact ⟨rs, keep _ _ (s _ _ h) (fun _ e => by cases e), l⟩
      tl := keep _ _ (s _ _ M.tl) (fun _ e => by cases e)
      tr := fun c h0 h => by
        obtain ⟨xs, h1, h2⟩ := M.tr c h0 h
        exact ⟨xs, keep _ _ (s _ _ h1) (fun _ e => by cases e), h2.mono (RT.mono tk)⟩
      nl := keep _ _ hN2 (fun _ e => by cases e)
      nt := fun t t0 t3 => ⟨[], keep _ _ (hD t t0 t3).2 (fun _ e => by cases e), List.nodup_nil, fun q h => (by cases h), fun c => rfl⟩
      pl := M.pl
      rL := M.rL
      rN := by
        obtain ⟨rs, h, l⟩ := M.rw
        exact ne_of_none h hN
      LN := ne_of_none M.tl hN
      Tr := fun c h0 h => ⟨(M.Tr c h0 h).1, (M.Tr c h0 h).2.1, by
        obtain ⟨xs, h1, _⟩ := M.tr c h0 h
        exact ne_of_none h1 hN⟩
      Ti := M.Ti
      Di := fun c c' h0 h3 h0' h3' e => hi c c' h0 h3 h0' h3' e }
  · rcases f with f | f | f | f | f | f | ⟨t, t0, t3, f⟩
    · exact .inl (.inl f)
    · exact .inl (.inr (.inl f))
    · exact .inl (.inr (.inr (.inl f)))
    · exact .inl (.inr (.inr (.inr (.inl f))))
    · exact .inr (by rw [f]; exact hN)
    · exact .inl (.inr (.inr (.inr (.inr (.inr (.inl f))))))
    · exact .inr (by rw [f]; exact (hD t t0 t3).1)
end
section
variable {P : Program} {w : World} {K : PySem.W.Frag} {mg : Str → Option Value} {base : Heap}
theorem Nk.shorten {m : Mem} (h : Nk m) (c k : Int) : Nk (m.shorten c k) := fun u x hx => h u x fun z => hx (by
  show (if x = c then (m.nt u x).map _ else m.nt u x) = none
  rw [z]
  split <;> rfl)
/-! ### cut -/
def spCut (K : PySem.W.Frag) : Sp := fun vs H Q _ => ∃ (p : Addr) (a : MA) (m : Mem) (cl : Addr) (cs : List Int), vs = [.ref p, .ref cl] ∧ MemA K H p a m ∧ H cl = some (.lst (cs.map V.int)) ∧ ¬ FM p a cl ∧ (∀ c ∈ cs, 0 ≤ c) ∧ Nk m ∧ (∀ c, 4 ≤ c → c ≤ 200 → m.tr c ≠ []) ∧
  ∀ H' a' m' lv, MemA K H' p a' m' → DkM.Cut m lv → (∀ c, 4 ≤ c → c ≤ 200 → m'.tr c = [lv c]) → Stp (FM p a) H (FM p a') H' → Q .non H'
theorem ok_cut (T : Tx w K mg) : Cal P w K mg base 3 (fM K "cut") ["self", "choices"] (spCut K) := by
  refine mkCal T.F_Memory_cut sc_Memory_cut (fun vs H Q E h => ?_) (fun _ _ _ _ _ _ us hl => match us, hl with | [_, _], _ => rfl) fun cdv A outer s H vs Q E hr h => ?_
  · obtain ⟨p, a, m, cl, cs, rfl, _⟩ := h
    rfl
  · obtain ⟨p, a, m, cl, cs, rfl, M, hcl, ncl, hcs, nk, ne, hq⟩ := h
    refine ⟨_, pss_cons (ps_if (pt_not (pt_val (pe_callB call_isi (by rfl) T.f_isinstance (by decide +kernel) (pa_cons (pv 1) (pa_cons (pe_bltn (v := .ty "list") (by rfl) T.f_list (by decide +kernel) rfl) pa_nil))))) (pss_one ps_never) pss_nil)
      (pss_cons (ps_for PassesOwn.never rfl (pi_list (pv 1)) (pg_name (i := 2) sc_Memory_cut.nd rfl (Or.inl rfl))
        (pss_one (ps_if (PW.pt (pw_or (pt_not (pt_val (pe_callB call_isi (by rfl) T.f_isinstance (by decide +kernel) (pa_cons (pv 2) (pa_cons (pe_bltn (v := .ty "int") (by rfl) T.f_int (by decide +kernel) rfl) pa_nil)))))
          (pw_or (pt_val (pe_callB call_isi (by rfl) T.f_isinstance (by decide +kernel) (pa_cons (pv 2) (pa_cons (pe_bltn (v := .ty "bool") (by rfl) T.f_bool (by decide +kernel) rfl) pa_nil))))
            (pw_or1 (pt_cmpR op_lt (pv 2) pe_int (nomark _)))))) (pss_one ps_never) pss_nil)))
      (pss_cons (ps_set (i := 3) sc_Memory_cut.nd rfl (Or.inl rfl) (pe_methC (pe_fld (pv 0) rfl) T.c_Layout T.m_Layout_call_slot (ok_call_slot T) (hr.mono (by decide)) (pa_cons pe_int pa_nil)))
      (pss_cons (ps_for PassesOwn.never rfl (pi_range2 (by rfl) T.f_range (pa_cons (pv 3) (pa_cons (pe_methC0 (pe_fld (pv 0) rfl) T.c_Layout T.m_Layout_cells (ok_cells T) hr) pa_nil))) (pg_name (i := 4) sc_Memory_cut.nd rfl (Or.inl rfl))
        (pss_cons (ps_if (pt_cmpR op_lt (pe_op op_sub (pv 4) (pv 3)) (pe_callB call_len_seq (by rfl) T.f_len (by decide +kernel) (pa_cons (pv 1) pa_nil)) (nomark _))
          (pss_one (ps_expr (pe_methC (pv 0) T.c_Memory T.m_Memory_shorten (ok_shorten T) (hr.mono (by decide)) (pa_cons (pv 4) (pa_cons (pe_ix ix_list (pv 1) (pe_op op_sub (pv 4) (pv 3)) (fun _ _ => rfl)) pa_nil))))) pss_nil)
        (pss_one (ps_asg (pe_slice sl_list (pe_ix ix_list (pe_fld (pv 0) rfl) (pv 4) (fun _ _ => rfl)) po_none (po_some pe_int)) (pg_sub (pe_fld (pv 0) rfl) (pv 4) set_list)))))
      (pss_cons (ps_for PassesOwn.never rfl (pi_range1 (by rfl) T.f_range (pa_cons (pv 3) pa_nil)) (pg_name (i := 4) sc_Memory_cut.nd rfl (Or.inl rfl))
        (pss_one (ps_asg (pe_lst (pa_cons pe_non pa_nil)) (pg_sub (pe_fld (pv 0) rfl) (pv 4) set_list))))
      (pss_cons (ps_asg (pe_lst (pa_cons pe_int pa_nil)) (pg_sub (pe_fld (pv 0) rfl) (pe_methC0 (pe_fld (pv 0) rfl) T.c_Layout T.m_Layout_epoch (ok_epoch T) (hr.mono (by decide))) set_list))
      (pss_one (ps_fld (pv 0) (pe_methC0 (pv 0) T.c_Memory T.m_Memory_no_notes (ok_no_notes T) (hr.mono (by decide))) rfl))))))), ?_⟩
    refine ⟨_, rfl, _, _, _, _, true, rfl, .ty _, .base (.lst hcl), kit_ty (by decide +kernel), true, rfl, iteF ?_⟩
    refine ⟨_, rfl, cl, rfl, ⟨_, SqL.of hcl⟩, for_list (K := K) (xs := cs.map V.int) (fun i σ H3 => ∃ y2, σ = [some (.ref p), some (.ref cl), y2, none, none] ∧ H3 = H) ⟨none, rfl, rfl⟩ (fun i σ H3 _ ⟨_, _, e⟩ => by rw [e]; exact SqL.of hcl) ?_ ?_⟩
    · rintro i x σ H3 hi ⟨y2, rfl, rfl⟩
      rw [List.getElem?_map] at hi
      cases hc : cs[i]? with
      | none => rw [hc] at hi; cases hi
      | some k =>
        rw [hc] at hi
        have hx : V.int k = x := Option.some.inj hi
        subst hx
        have k0 := hcs k (List.mem_of_getElem? hc)
        refine ⟨_, rfl, _, _, _, _, true, rfl, .ty _, .base (.int k), kit_ty (by decide +kernel), true, rfl, iteF ?_⟩
        refine ⟨_, rfl, _, _, _, _, false, rfl, .ty _, .base (.int k), kit_ty (by decide +kernel), false, rfl, iteF ?_⟩
        refine ⟨_, rfl, _, _, rfl, rfl, false, congrArg V.bl (decide_eq_false (by omega)), iteF ?_⟩
        exact ⟨_, rfl, rfl⟩
    · rintro σ H3 ⟨y2, rfl, rfl⟩
      obtain ⟨ldx, hl⟩ := M.la
      refine ⟨_, rfl, p, _, _, _, _, rfl, M.ob, T.c_Memory, T.n_Memory_layout, memF_lay _ _, a.lay, _, _, rfl, hl, lay_no (by decide +kernel), a.lay, 0, rfl, ⟨ldx, hl⟩, ?_⟩
      refine ⟨_, rfl, _, rfl, p, _, _, _, _, rfl, M.ob, T.c_Memory, T.n_Memory_layout, memF_lay _ _, a.lay, _, _, rfl, hl, lay_no (by decide +kernel), a.lay, rfl, ⟨ldx, hl⟩, 4, 201, rfl, ⟨by omega, by omega, by omega, by omega⟩, ?_⟩
      refine for_range (lo := 4) (n := 197) (fun i σ H4 => ∃ y4 a4 m4, σ = [some (.ref p), some (.ref cl), y2, some (.int 4), y4] ∧ MemA K H4 p a4 m4 ∧ Stp (FM p a) H3 (FM p a4) H4 ∧ Nk m4 ∧
        (∀ c : Int, 4 ≤ c → c < 4 + i → ∃ v, v ∈ m.tr c ∧ m4.tr c = [v]) ∧ (∀ c : Int, 4 + i ≤ c → c ≤ 200 → m4.tr c = m.tr c)) ⟨none, a, m, rfl, M, Stp.refl, nk, fun c h0 h1 => by omega, fun _ _ _ => rfl⟩ ?_ ?_
      · rintro i σ H4 hi ⟨y4, a4, m4, rfl, M4, S4, nk4, d1, d2⟩
        obtain ⟨hcl4, _⟩ := S4.out hcl ncl
        have fin : ∀ m5 : Mem, (∀ c : Int, c ≠ 4 + i → m5.tr c = m4.tr c) → m5.tr (4 + i) ≠ [] → (∀ v ∈ m5.tr (4 + i), v ∈ m.tr (4 + i)) →
            (∀ c : Int, 4 ≤ c → c < 4 + (i + 1 : Nat) → ∃ v, v ∈ m.tr c ∧ upC m5.tr (4 + i) ((m5.tr (4 + i)).take 1) c = [v]) ∧ (∀ c : Int, 4 + (i + 1 : Nat) ≤ c → c ≤ 200 → upC m5.tr (4 + i) ((m5.tr (4 + i)).take 1) c = m.tr c) := by
          intro m5 h1 h2 h3
          refine ⟨fun c c0 c1 => ?_, fun c c0 c1 => ?_⟩
          · by_cases e : c = 4 + i
            · rw [e, upC_same]
              cases hl : m5.tr (4 + i) with
              | nil => exact absurd hl h2
              | cons v l => exact ⟨v, h3 v (by rw [hl]; exact List.mem_cons_self), rfl⟩
            · rw [upC_ne e, h1 c e]
              exact d1 c c0 (by omega)
          · rw [upC_ne (by omega), h1 c (by omega)]
            exact d2 c (by omega) c1
        have e4 := d2 (4 + i) (by omega) (by omega)
        have n4 : m4.tr (4 + i) ≠ [] := by rw [e4]; exact ne _ (by omega) (by omega)
        refine ⟨_, rfl, _, rfl, _, _, rfl, rfl, _, rfl, _, _, rfl, .inl (SqL.of hcl4), _, _, rfl, rfl, _, rfl, ?_⟩
        have e0 : (4 + (i : Int)) - 4 = ((i : Nat) : Int) := by omega
        rw [e0, List.length_map]
        by_cases c : i < cs.length
        · refine iteT' (decide_eq_true (by omega)) ?_
          refine ⟨_, rfl, p, _, _, rfl, M4.ob, mem_no _ _ (by decide +kernel), _, rfl, _, rfl, _, rfl, _, rfl, _, _, rfl, rfl, _, _, _, _, rfl, rfl, SqL.of hcl4, (by rw [e0]; exact atI_nat (by rw [List.getElem?_map, List.getElem?_eq_getElem c]; rfl)), p, a4, m4, 4 + i, cs[i], rfl, M4, by omega, by omega, nk4, fun H5 a5 M5 S5' => ?_⟩
          have S5 := S4.trans S5'
          have nk5 : Nk (m4.shorten (4 + i) cs[i]) := nk4.shorten _ _
          have hne : ∀ c : Int, c ≠ 4 + i → (m4.shorten (4 + i) cs[i]).tr c = m4.tr c := fun c hc => upC_ne hc
          have hs : (m4.shorten (4 + i) cs[i]).tr (4 + i) = (m4.tr (4 + i)).drop (DkM.clip cs[i] (m4.tr (4 + i)).length) := upC_same
          have hn5 : (m4.shorten (4 + i) cs[i]).tr (4 + i) ≠ [] := by
            rw [hs]
            intro z
            have := congrArg List.length z
            rw [List.length_drop, List.length_nil] at this
            have := DkM.clip_lt (k := cs[i]) (n := (m4.tr (4 + i)).length) (List.length_pos_iff.mpr n4)
            omega
          have hm5 : ∀ v ∈ (m4.shorten (4 + i) cs[i]).tr (4 + i), v ∈ m.tr (4 + i) := fun v hv => by
            rw [hs] at hv
            rw [← e4]
            exact List.mem_of_mem_drop hv
          obtain ⟨xs, hx, hr5⟩ := M5.tr (4 + i) (by omega) (by omega)
          refine ⟨_, rfl, p, _, _, _, _, rfl, M5.ob, T.c_Memory, T.n_Memory_trails, memF_trails _ _, _, rfl, _, _, _, _, rfl, rfl, SqL.of M5.tl, Tl_at (by omega) (by omega), _, rfl, _, xs, rfl, SqL.of hx, fun qa hqa => ?_⟩
          rw [cut_to1]
          refine ⟨_, rfl, p, _, _, _, _, rfl, (same_new hqa) _ _ M5.ob, T.c_Memory, T.n_Memory_trails, memF_trails _ _, _, rfl, _, _, _, _, rfl, rfl, (same_new hqa) _ _ M5.tl, ixN_of (by omega) (by rw [Tl_len]; omega), ?_⟩
          rw [Tl_set (by omega) (by omega)]
          obtain ⟨M6, S6⟩ := M5.setT (c := 4 + i) (by omega) (by omega) hqa (hr5.take 1)
          obtain ⟨e1, e2⟩ := fin _ hne hn5 hm5
          exact ⟨_, _, _, rfl, M6, S5.trans S6, nk5, e1, e2⟩
        · refine iteF' (decide_eq_false (by omega)) ?_
          have M5 := M4
          have S5 := S4
          have nk5 := nk4
          have hne : ∀ c : Int, c ≠ 4 + i → m4.tr c = m4.tr c := fun c _ => rfl
          have hn5 := n4
          have hm5 : ∀ v ∈ m4.tr (4 + i), v ∈ m.tr (4 + i) := fun v hv => by rw [← e4]; exact hv
          obtain ⟨xs, hx, hr5⟩ := M5.tr (4 + i) (by omega) (by omega)
          refine ⟨_, rfl, p, _, _, _, _, rfl, M5.ob, T.c_Memory, T.n_Memory_trails, memF_trails _ _, _, rfl, _, _, _, _, rfl, rfl, SqL.of M5.tl, Tl_at (by omega) (by omega), _, rfl, _, xs, rfl, SqL.of hx, fun qa hqa => ?_⟩
          rw [cut_to1]
          refine ⟨_, rfl, p, _, _, _, _, rfl, (same_new hqa) _ _ M5.ob, T.c_Memory, T.n_Memory_trails, memF_trails _ _, _, rfl, _, _, _, _, rfl, rfl, (same_new hqa) _ _ M5.tl, ixN_of (by omega) (by rw [Tl_len]; omega), ?_⟩
          rw [Tl_set (by omega) (by omega)]
          obtain ⟨M6, S6⟩ := M5.setT (c := 4 + i) (by omega) (by omega) hqa (hr5.take 1)
          obtain ⟨e1, e2⟩ := fin _ hne hn5 hm5
          exact ⟨_, _, _, rfl, M6, S5.trans S6, nk5, e1, e2⟩
      · rintro σ H4 ⟨y4, a4, m4, rfl, M4, S4, nk4, d1, d2⟩
        refine ⟨_, rfl, 4, rfl, by omega, by omega, ?_⟩
        refine for_range (lo := 0) (n := 4) (fun i σ H5 => ∃ y4 a5 m5, σ = [some (.ref p), some (.ref cl), y2, some (.int 4), y4] ∧ MemA K H5 p a5 m5 ∧ Stp (FM p a) H3 (FM p a5) H5 ∧ (∀ c : Int, 4 ≤ c → c ≤ 200 → m5.tr c = m4.tr c)) ⟨y4, a4, m4, rfl, M4, S4, fun _ _ _ => rfl⟩ ?_ ?_
        · rintro i σ H5 hi ⟨y5, a5, m5, rfl, M5, S5, d5⟩
          refine ⟨(by show 1 ≤ sizeLine; decide), fun qa hqa => ?_⟩
          refine ⟨_, rfl, p, _, _, _, _, rfl, (same_new hqa) _ _ M5.ob, T.c_Memory, T.n_Memory_trails, memF_trails _ _, _, rfl, _, _, _, _, rfl, rfl, (same_new hqa) _ _ M5.tl, ixN_of (by omega) (by rw [Tl_len]; omega), ?_⟩
          rw [Tl_set (by omega) (by omega)]
          obtain ⟨M6, S6⟩ := M5.setT (c := 0 + i) (xs := [.non]) (l := [.non]) (by omega) (by omega) hqa ⟨rfl, trivial⟩
          exact ⟨_, _, _, rfl, M6, S5.trans S6, fun c c0 c1 => (upC_ne (by omega)).trans (d5 c c0 c1)⟩
        · rintro σ H5 ⟨y5, a5, m5, rfl, M5, S5, d5⟩
          refine ⟨(by show 1 ≤ sizeLine; decide), fun qa hqa => ?_⟩
          obtain ⟨ldx5, hl5⟩ := M5.la
          have hl5' := (same_new (o := .lst [.int 0]) hqa) _ _ hl5
          refine ⟨_, rfl, p, _, _, _, _, rfl, (same_new hqa) _ _ M5.ob, T.c_Memory, T.n_Memory_trails, memF_trails _ _, _, rfl, p, _, _, _, _, rfl, (same_new hqa) _ _ M5.ob, T.c_Memory, T.n_Memory_layout, memF_lay _ _, a5.lay, _, _, rfl, hl5', lay_no (by decide +kernel), a5.lay, rfl, ⟨ldx5, hl5'⟩, _, _, _, _, rfl, rfl, (same_new hqa) _ _ M5.tl, ixN_of (n := (Tl a5.T).length) (by omega) (by rw [Tl_len]; omega), ?_⟩
          rw [Tl_set (by omega) (by omega)]
          obtain ⟨M6, S6⟩ := M5.setT (c := 0) (xs := [.int 0]) (l := [.int 0]) (by omega) (by omega) hqa ⟨rfl, trivial⟩
          generalize (upd (upd H5 qa (HO.lst [.int 0])) a5.L (HO.lst (Tl (upC a5.T 0 qa)))) = H6 at M6 S6
          refine ⟨_, rfl, p, _, _, rfl, M6.ob, mem_no _ _ (by decide +kernel), p, _, _, _, rfl, M6.ob, memF_lay _ _, M6.la, fun H7 N D hN hN7 hD hDi s7 => ?_⟩
          obtain ⟨M7, S7⟩ := M6.allN s7 hN hN7 hD hDi
          refine ⟨_, rfl, p, _, _, _, rfl, s7 _ _ M6.ob, T.c_Memory, T.n_Memory_notes, (by show 5 < 1000; decide), ?_⟩
          rw [show putF ("notes" : Str) (V.ref N) (memF { a5 with T := upC a5.T 0 qa } m5.cnt) = memF { ({ a5 with T := upC a5.T 0 qa } : MA) with N := N, Dn := D } m5.cnt from putF_at (ks := memK) 4 rfl rfl (by decide +kernel)]
          refine hq _ _ _ (fun c => (m4.tr c).headD .non) M7 (fun c c0 c1 => ?_) (fun c c0 c1 => ?_) ((S5.trans S6).trans S7)
          · obtain ⟨v, h1, h2⟩ := d1 c c0 (by omega)
            show (m4.tr c).headD TV.non ∈ m.tr c
            rw [h2]; exact h1
          · obtain ⟨v, h1, h2⟩ := d1 c c0 (by omega)
            show upC m5.tr 0 [.int 0] c = [(m4.tr c).headD TV.non]
            rw [upC_ne (by omega), d5 c c0 c1, h2]; rfl
end
end Dk

set_option Elab.async false
set_option linter.all false
set_option maxRecDepth 100000
set_option maxHeartbeats 4000000
namespace Dk
open PySem PySem.Spec PyProof.Rows L2
open DkM (TV Mem DS Req Ent Deed upC upC_same upC_ne)
section
variable {P : Program} {w : World} {K : PySem.W.Frag} {mg : Str → Option Value} {base : Heap}
/-! ### deed_record -/
def spDR : Sp := fun vs H Q _ => ∃ (s th nu : Int) (el : Addr) (es : List Ent) (xs : List V), vs = [.int s, .ref el, .int th, .int nu, .non] ∧ H el = some (.lst xs) ∧ All2 (EntR H) es xs ∧ es ≠ [] ∧ es.Pairwise (fun a b => a.1 < b.1) ∧ es.length ≤ 100 ∧
  ∀ H' x, Same H H' → RT H' (.deed s es th nu) x → Q x H'
theorem ok_deed_record (T : Tx w K mg) : Cal P w K mg base 1 (He.ga K "deed_record") ["status", "entries", "thread", "number", "answer"] spDR := by
  refine mkCal T.F_deed_record sc_deed_record (fun vs H Q E h => ?_) (fun _ _ _ _ _ _ us hl => match us, hl with | [_, _, _, _, _], _ => rfl) fun cdv A outer s H vs Q E hr h => ?_
  · obtain ⟨s, th, nu, el, es, xs, rfl, _⟩ := h
    rfl
  · obtain ⟨s, th, nu, el, es, xs, rfl, hel, ha, hne, hpw, hlen, hq⟩ := h
    refine ⟨_, pss_cons (ps_if (pt_cmpR op_eq (pe_callB call_len_seq (by rfl) T.f_len (by decide +kernel) (pa_cons (pv 1) pa_nil)) pe_int (nomark _)) (pss_one ps_never) pss_nil)
      (pss_cons (ps_for PassesOwn.never rfl (pi_range2 (by rfl) T.f_range (pa_cons pe_int (pa_cons (pe_callB call_len_seq (by rfl) T.f_len (by decide +kernel) (pa_cons (pv 1) pa_nil)) pa_nil))) (pg_name (i := 5) sc_deed_record.nd rfl (Or.inl rfl))
        (pss_one (ps_if (pt_cmpR op_ge (pe_ix ix_tup (pe_ix ix_list (pv 1) (pe_op op_sub (pv 5) pe_int) (fun _ _ => rfl)) pe_int (fun _ _ => rfl)) (pe_ix ix_tup (pe_ix ix_list (pv 1) (pv 5) (fun _ _ => rfl)) pe_int (fun _ _ => rfl)) (nomark _)) (pss_one ps_never) pss_nil)))
      (pss_one (ps_ret (pe_tup (pa_cons pe_str (pa_cons (pv 0) (pa_cons (pe_tupleOf (by rfl) T.f_tuple
        (pe_lc (own := [("entry", 6)]) (g := gName 6) (tt := tYes) (te := tThen (tVar 6) (kTup K)) (by rfl) sc_deed_record.nd (pi_list (pv 1)) (blkOk_by (own := [("entry", 6)]) (N := ["status", "entries", "thread", "number", "answer", "index", "entry"]) (sc := defScope s_deed_record) (by decide +kernel))
            (fun _ _ _ _ _ => pg_name (i := 6) sc_deed_record.nd rfl (Or.inl rfl)) (fun _ _ _ _ _ => pts_nil) (fun _ _ _ _ _ => pe_tupleOf (by rfl) T.f_tuple (pv 6))))
        (pa_cons (pv 2) (pa_cons (pv 3) (pa_cons (pv 4) pa_nil)))))))))), ?_⟩
    have hlx : es.length = xs.length := ha.len
    have hpos : 0 < es.length := List.length_pos_iff.mpr hne
    refine ⟨_, rfl, _, _, rfl, .inl (SqL.of hel), rfl, false, ?_, iteF ?_⟩
    · exact congrArg V.bl (dec_ne (by omega))
    have e1 : ∀ j : Nat, ∀ e : Ent, es[j]? = some e → ∃ p, xs[j]? = some (.ref p) ∧ H p = some (.tup [.int e.1, .int e.2.1, .int e.2.2]) := fun j e he => by
      obtain ⟨x, h1, p, rfl, h2⟩ := ha.get he
      exact ⟨p, h1, h2⟩
    refine ⟨_, rfl, _, _, rfl, .inl (SqL.of hel), 1, (xs.length : Int), rfl, ⟨by omega, by omega, by omega, by omega⟩, ?_⟩
    refine for_range (lo := 1) (n := ((xs.length : Int) - 1).toNat) (fun i σ H3 => ∃ y5, σ = [some (.int s), some (.ref el), some (.int th), some (.int nu), some .non, y5, none] ∧ H3 = H) ⟨none, rfl, rfl⟩ ?_ ?_
    · rintro i σ H3 hi ⟨y5, rfl, rfl⟩
      have i1 : i + 1 < es.length := by omega
      obtain ⟨p1, a1, b1⟩ := e1 i es[i] (List.getElem?_eq_getElem (by omega))
      obtain ⟨p2, a2, b2⟩ := e1 (i + 1) es[i + 1] (List.getElem?_eq_getElem i1)
      have lt := List.pairwise_iff_getElem.mp hpw i (i + 1) (by omega) i1 (by omega)
      have g1 : atI xs ((1 + (i : Int)) - 1) = some (.ref p1) := by rw [show (1 + (i : Int)) - 1 = ((i : Nat) : Int) by omega]; exact atI_nat a1
      have g2 : atI xs (1 + (i : Int)) = some (.ref p2) := by rw [show (1 + (i : Int)) = ((i + 1 : Nat) : Int) by omega]; exact atI_nat a2
      refine ⟨_, rfl, _, rfl, _, _, rfl, rfl, _, _, _, _, rfl, rfl, SqL.of hel, g1, _, _, _, _, rfl, rfl, SqT.of b1, atI_nat (j := 0) rfl, _, rfl, _, rfl, _, _, _, _, rfl, rfl, SqL.of hel, g2, _, _, _, _, rfl, rfl, SqT.of b2, atI_nat (j := 0) rfl, ?_⟩
      refine ⟨_, _, rfl, rfl, false, congrArg V.bl (decide_eq_false (by omega)), iteF ?_⟩
      exact ⟨_, rfl, rfl⟩
    · rintro σ H3 ⟨y5, rfl, rfl⟩
      refine ⟨_, rfl, _, rfl, el, rfl, ⟨_, SqL.of hel⟩, fun D hD => ?_⟩
      refine lc_list (K := K) (a := el) (xs := xs) (fun i H' => Same H3 H' ∧ H' D = some (.lst (xs.take i))) ⟨same_new hD, upd_same⟩ (fun i H' _ ⟨s4, _⟩ => SqL.of (s4 _ _ hel)) (fun i x H' hx ⟨s4, hd4⟩ => ⟨rfl, ?_⟩) fun H' ⟨s4, hd4⟩ => ?_
      · obtain ⟨e, _, p, rfl, hp⟩ := ha.get' hx
        refine ⟨_, rfl, .inr ⟨p, _, rfl, SqT.of (s4 _ _ hp), xs.take i, hd4, ?_, fun y o h => ?_, ?_⟩⟩
        · rw [List.length_take]; exact Nat.lt_of_le_of_lt (show min i xs.length ≤ 100 by omega) (by decide)
        · rw [upd_ne (ne_of_none h hD)]; exact s4 y o h
        · rw [upd_same, List.take_add_one, hx]; rfl
      · rw [List.take_of_length_le (Nat.le_refl _)] at hd4
        refine .inl ⟨D, xs, rfl, SqL.of hd4, fun q hq' => ⟨_, rfl, _, rfl, _, rfl, (by show 6 ≤ sizeLine; decide), fun p hp => ?_⟩⟩
        have s5 : Same H3 (upd (upd H' q (.tup xs)) p (.tup [.str "deed", .int s, .ref q, .int th, .int nu, .non])) := fun y o h => same_new hp y o (same_new hq' y o (s4 y o h))
        exact hq _ _ s5 ⟨p, q, rfl, upd_same, xs, same_new hp _ _ upd_same, ha.mono (EntR.mono (TupK.of_same s5))⟩
/-! ### shown_by, shown_now, _law_shown -/
/-- what the mark at a word shows -/
def shM (m : Mem) (w : Int) : Int := match m.last w with
  | .int a => a
  | .mark _ s o n => if DkM.isDon (m.last s) then n else o
  | _ => 0
def StV (v : TV) : Prop := v = .int 0 ∨ VdOk v
def spSB : Sp := fun vs H Q _ => ∃ (a s o n : Int) (v : TV) (x y : V), vs = [x, y, .int 0] ∧ RT H (.mark a s o n) x ∧ StV v ∧ RT H v y ∧
  ∀ H' p y1 y2, Same H H' → H' p = some (.tup [.int (if DkM.isDon v then n else o), y1, y2]) → Q (.ref p) H'
theorem ok_shown_by (T : Tx w K mg) : Cal P w K mg base 1 (He.ga K "shown_by") ["mark", "status", "first"] spSB := by
  refine mkCal T.F_shown_by sc_shown_by (fun vs H Q E h => ?_) (fun _ _ _ _ _ _ us hl => match us, hl with | [_, _, _], _ => rfl) fun cdv A outer s H vs Q E hr h => ?_
  · obtain ⟨a, s, o, n, v, x, y, rfl, _⟩ := h
    rfl
  · obtain ⟨a, s, o, n, v, x, y, rfl, ⟨mp, rfl, hmp⟩, hv, ry, hq⟩ := h
    refine ⟨_, pss_cons (ps_if (PW.pt (pw_and (pt_cmpR (op_neD hr.units) (pv 1) pe_int (nomark _)) (pw_and1 (pt_cmpR op_eq (pe_ix ix_tup (pv 1) pe_int (fun _ _ => rfl)) pe_str (nomark _)))))
        (pss_one (ps_ret (pe_tup (pa_cons (pe_ix ix_tup (pv 0) pe_int (fun _ _ => rfl)) (pa_cons (pe_callB (call_max2 rfl) (by rfl) T.f_max (by decide +kernel) (pa_cons (pv 2) (pa_cons (pe_ix ix_tup (pv 1) pe_int (fun _ _ => rfl)) pa_nil))) (pa_cons (pe_ix ix_tup (pv 0) pe_int (fun _ _ => rfl)) pa_nil)))))) pss_nil)
      (pss_one (ps_ret (pe_tup (pa_cons (pe_ix ix_tup (pv 0) pe_int (fun _ _ => rfl)) (pa_cons (pv 2) (pa_cons pe_non pa_nil)))))), ?_⟩
    have fin : DkM.isDon v = false → (tRet (tTup (tCons (tOp (rIxT K) (tVar 0) (tC (.int 2))) (tCons (tVar 2) (tCons (tC .non) tNil))))) { nx := fun _ H' => Q .non H', rt := Q } (start ["mark", "status", "first"] [.ref mp, y, .int 0]) H := fun hd =>
      ⟨_, rfl, _, _, _, _, rfl, rfl, SqT.of hmp, atI_nat (j := 2) rfl, _, rfl, (by show 3 ≤ sizeLine; decide), fun p hp => hq _ p _ _ (same_new hp) (by rw [upd_same, hd]; rfl)⟩
    rcases hv with rfl | ⟨t, rfl | rfl⟩
    · have ry : y = .int 0 := ry
      subst ry
      refine ⟨_, rfl, _, _, RT.dp (v := .int 0) rfl rfl, RT.dp (v := .int 0) rfl rfl, pd_shaped (v := .int 0) rfl, pd_shaped (v := .int 0) rfl, false, congrArg V.bl (by rw [pd_eqv (v := .int 0) (w := .int 0) rfl rfl]; rfl), iteF ?_⟩
      exact fin rfl
    · obtain ⟨yp, rfl, hyp⟩ := ry
      refine ⟨_, rfl, _, _, RT.dp (v := .don t) ⟨yp, rfl, hyp⟩ rfl, RT.dp (v := .int 0) rfl rfl, pd_shaped (v := .don t) rfl, pd_shaped (v := .int 0) rfl, true, congrArg V.bl (by rw [pd_eqv (v := .don t) (w := .int 0) rfl rfl]; rfl), iteT ?_⟩
      refine ⟨_, rfl, _, _, _, _, rfl, rfl, SqT.of hyp, atI_nat (j := 0) rfl, rfl, seT ?_⟩
      refine ⟨_, rfl, _, _, _, _, rfl, rfl, SqT.of hmp, atI_nat (j := 3) rfl, _, rfl, _, rfl, _, _, _, _, rfl, rfl, SqT.of hyp, atI_nat (j := 1) rfl, _, _, rfl, _, rfl, _, _, _, _, rfl, rfl, SqT.of hmp, atI_nat (j := 1) rfl, (by show 3 ≤ sizeLine; decide), fun p hp => hq _ p _ _ (same_new hp) (by rw [upd_same]; rfl)⟩
    · obtain ⟨yp, rfl, hyp⟩ := ry
      refine ⟨_, rfl, _, _, RT.dp (v := .fai t) ⟨yp, rfl, hyp⟩ rfl, RT.dp (v := .int 0) rfl rfl, pd_shaped (v := .fai t) rfl, pd_shaped (v := .int 0) rfl, true, congrArg V.bl (by rw [pd_eqv (v := .fai t) (w := .int 0) rfl rfl]; rfl), iteT ?_⟩
      refine ⟨_, rfl, _, _, _, _, rfl, rfl, SqT.of hyp, atI_nat (j := 0) rfl, rfl, seF (by decide +kernel) ?_⟩
      exact fin rfl
end
end Dk

set_option Elab.async false
set_option linter.all false
set_option maxRecDepth 100000
set_option maxHeartbeats 4000000
namespace Dk
open PySem PySem.Spec PyProof.Rows L2
open DkM (TV Mem DS Req Ent Deed upC upC_same upC_ne)
/-! ### lists of flat values -/
theorem pd_depth : ∀ {v : TV}, flatT v = true → (pd v).canLay0 = true ∧ (pd v).depth ≤ 1
  | v, h => by
    have s := pd_shaped h
    unfold SeqAt.shaped at s
    rw [Bool.and_eq_true] at s
    refine ⟨s.1, ?_⟩
    cases v <;> first | (cases h; done) | (simp [pd, PyData.depth, PyData.depthAll])
theorem pds_shaped (l : List TV) (h : ∀ v ∈ l, flatT v = true) : SeqAt.shaped (.list (l.map pd)) = true := by
  have a : PyData.canLayAll0 (l.map pd) = true ∧ PyData.depthAll (l.map pd) ≤ 1 := by
    induction l with
    | nil => exact ⟨rfl, Nat.zero_le _⟩
    | cons v l ih =>
      obtain ⟨a1, a2⟩ := ih fun v hv => h v (List.mem_cons_of_mem _ hv)
      obtain ⟨b1, b2⟩ := pd_depth (h v List.mem_cons_self)
      refine ⟨?_, ?_⟩
      · show ((pd v).canLay0 && PyData.canLayAll0 (l.map pd)) = true
        rw [b1, a1]; rfl
      · show max (pd v).depth (PyData.depthAll (l.map pd)) ≤ 1
        omega
  unfold SeqAt.shaped
  rw [Bool.and_eq_true]
  refine ⟨?_, decide_eq_true ?_⟩
  · show PyData.canLayAll0 (l.map pd) = true
    exact a.1
  · show PyData.depthAll (l.map pd) + 1 ≤ 64
    omega
theorem RTs.dp {K : PySem.W.Frag} {H : Hp} : ∀ {l : List TV} {xs : List V}, All2 (RT H) l xs → (∀ v ∈ l, flatT v = true) → DpAll K H xs (l.map pd)
  | [], [], _, _ => .nil
  | [], _ :: _, h, _ => h.elim
  | _ :: _, [], h, _ => h.elim
  | v :: l, x :: xs, h, f => .cons (RT.dp h.1 (f v List.mem_cons_self)) (RTs.dp h.2 fun u hu => f u (List.mem_cons_of_mem _ hu))
theorem any_eqv (l : List TV) (w : TV) (h : ∀ v ∈ l, flatT v = true) (hw : flatT w = true) : ((l.map pd).any fun z => PyData.eqv z (pd w)) = decide (w ∈ l) := by
  induction l with
  | nil => rfl
  | cons v l ih =>
    have := ih fun u hu => h u (List.mem_cons_of_mem _ hu)
    rw [List.map_cons, List.any_cons, this, pd_eqv (h v List.mem_cons_self) hw]
    by_cases c : v = w
    · rw [decide_eq_true c, Bool.true_or, decide_eq_true (by rw [c]; exact List.mem_cons_self)]
    · rw [decide_eq_false c, Bool.false_or]
      by_cases d : w ∈ l
      · rw [decide_eq_true d, decide_eq_true (List.mem_cons_of_mem _ d)]
      · rw [decide_eq_false d, decide_eq_false]
        intro z
        rcases List.mem_cons.mp z with z | z
        · exact c z.symm
        · exact d z
structure WOk (m : Mem) (w : Int) : Prop where
  ne : m.tr w ≠ []
  va : (∃ a, m.last w = .int a) ∨ ∃ a s o n, m.last w = .mark a s o n ∧ 4 ≤ s ∧ s < 201 ∧ m.tr s ≠ [] ∧ StV (m.last s)
theorem flat_st {v : TV} (h : StV v) : flatT v = true := by
  rcases h with rfl | ⟨t, rfl | rfl⟩ <;> rfl
section
variable {P : Program} {w : World} {K : PySem.W.Frag} {mg : Str → Option Value} {base : Heap}
def spSh (K : PySem.W.Frag) : Sp := fun vs H Q _ => ∃ (p : Addr) (a : MA) (m : Mem) (i : Int), vs = [.ref p, .int i] ∧ MemA K H p a m ∧ 0 ≤ i ∧ i < 4 ∧ WOk m (7 + i) ∧ ∀ H', Same H H' → Q (.int (shM m (7 + i))) H'
theorem ok_shown_now (T : Tx w K mg) : Cal P w K mg base 4 (He.ga K "shown_now") ["memory", "index"] (spSh K) := by
  refine mkCal T.F_shown_now sc_shown_now (fun vs H Q E h => ?_) (fun _ _ _ _ _ _ us hl => match us, hl with | [_, _], _ => rfl) fun cdv A outer s H vs Q E hr h => ?_
  · obtain ⟨p, a, m, i, rfl, _⟩ := h
    rfl
  · obtain ⟨p, a, m, i, rfl, M, i0, i4, W, q⟩ := h
    refine ⟨_, pss_cons (ps_set (i := 2) sc_shown_now.nd rfl (Or.inl rfl) (pe_methC (pv 0) T.c_Memory T.m_Memory_peek (ok_peek T) hr (pa_cons (pe_methC (pe_fld (pv 0) rfl) T.c_Layout T.m_Layout_word (ok_word T) (hr.mono (by decide)) (pa_cons (pv 1) pa_nil)) pa_nil)))
      (pss_cons (ps_if (pt_not (pt_val (pe_callC (ok_isMark T) (hr.mono (by decide)) rfl T.g_is_mark (pa_cons (pv 2) pa_nil)))) (pss_one (ps_ret (pv 2))) pss_nil)
      (pss_one (ps_ret (pe_ix ix_tup (pe_callC (ok_shown_by T) (hr.mono (by decide)) rfl T.g_shown_by (pa_cons (pv 2) (pa_cons (pe_methC (pv 0) T.c_Memory T.m_Memory_peek (ok_peek T) hr (pa_cons (pe_ix ix_tup (pv 2) pe_int (fun _ _ => rfl)) pa_nil)) (pa_cons pe_int pa_nil)))) pe_int (fun _ _ => rfl))))), ?_⟩
    obtain ⟨ldx, hl⟩ := M.la
    refine ⟨_, rfl, p, _, _, rfl, M.ob, mem_no _ _ (by decide +kernel), _, rfl, p, _, _, _, _, rfl, M.ob, T.c_Memory, T.n_Memory_layout, memF_lay _ _, a.lay, _, _, rfl, hl, lay_no (by decide +kernel), _, rfl, a.lay, i, rfl, ⟨ldx, hl⟩, p, a, m, 7 + i, rfl, M, by omega, by omega, W.ne, fun x rx => ?_⟩
    unfold shM at q
    rcases W.va with ⟨b, hb⟩ | ⟨b, st, o, n, hb, s4, s2, sne, sv⟩
    · rw [hb] at rx q
      have rx : x = .int b := rx
      subst rx
      exact ⟨_, rfl, .int b, _, rfl, rfl, .inr ⟨b, rfl⟩, false, rfl, iteT ⟨_, rfl, q H (fun _ _ h => h)⟩⟩
    · rw [hb] at rx q
      obtain ⟨xp, rfl, hxp⟩ := rx
      refine ⟨_, rfl, .mark b st o n, _, rfl, ⟨xp, rfl, hxp⟩, .inl rfl, true, rfl, iteF ?_⟩
      refine ⟨_, rfl, _, rfl, p, _, _, rfl, M.ob, mem_no _ _ (by decide +kernel), _, rfl, _, _, _, _, rfl, rfl, SqT.of hxp, atI_nat (j := 1) rfl, p, a, m, st, rfl, M, by omega, s2, sne, fun y ry => ?_⟩
      refine ⟨b, st, o, n, m.last st, _, y, rfl, ⟨xp, rfl, hxp⟩, sv, ry, fun H' tp y1 y2 s1 htp => ⟨_, _, _, _, rfl, rfl, SqT.of htp, atI_nat (j := 0) rfl, ?_⟩⟩
      exact q H' s1
theorem ok_law_shown (T : Tx w K mg) : Cal P w K mg base 4 (He.ga K "_law_shown") ["_law_memory", "_law_index"] (spSh K) := by
  refine mkCal T.F_law_shown sc_law_shown (fun vs H Q E h => ?_) (fun _ _ _ _ _ _ us hl => match us, hl with | [_, _], _ => rfl) fun cdv A outer s H vs Q E hr h => ?_
  · obtain ⟨p, a, m, i, rfl, _⟩ := h
    rfl
  · obtain ⟨p, a, m, i, rfl, M, i0, i4, W, q⟩ := h
    refine ⟨_, pss_cons (ps_set (i := 2) sc_law_shown.nd rfl (Or.inl rfl) (pe_methC (pv 0) T.c_Memory T.m_Memory_peek (ok_peek T) hr (pa_cons (pe_op op_add pe_int (pv 1)) pa_nil)))
      (pss_cons (ps_if (pt_not (pt_val (pe_callB call_isi (by rfl) T.f_isinstance (by decide +kernel) (pa_cons (pv 2) (pa_cons (pe_bltn (v := .ty "tuple") (by rfl) T.f_tuple (by decide +kernel) rfl) pa_nil))))) (pss_one (ps_ret (pv 2))) pss_nil)
      (pss_cons (ps_set (i := 3) sc_law_shown.nd rfl (Or.inl rfl) (pe_methC (pv 0) T.c_Memory T.m_Memory_peek (ok_peek T) hr (pa_cons (pe_ix ix_tup (pv 2) pe_int (fun _ _ => rfl)) pa_nil)))
      (pss_cons (ps_if (PW.pt (pw_and (pt_cmpR (op_neD hr.units) (pv 3) pe_int (nomark _)) (pw_and1 (pt_cmpR op_eq (pe_ix ix_tup (pv 3) pe_int (fun _ _ => rfl)) pe_str (nomark _))))) (pss_one (ps_ret (pe_ix ix_tup (pv 2) pe_int (fun _ _ => rfl)))) pss_nil)
      (pss_one (ps_ret (pe_ix ix_tup (pv 2) pe_int (fun _ _ => rfl))))))), ?_⟩
    refine ⟨_, rfl, p, _, _, rfl, M.ob, mem_no _ _ (by decide +kernel), _, rfl, _, _, rfl, rfl, p, a, m, 7 + i, rfl, M, by omega, by omega, W.ne, fun x rx => ?_⟩
    unfold shM at q
    rcases W.va with ⟨b, hb⟩ | ⟨b, st, o, n, hb, s4, s2, sne, sv⟩
    · rw [hb] at rx q
      have rx : x = .int b := rx
      subst rx
      exact ⟨_, rfl, _, _, _, _, false, rfl, .ty _, .base (.int b), kit_ty (by decide +kernel), false, rfl, iteT ⟨_, rfl, q H (fun _ _ h => h)⟩⟩
    · rw [hb] at rx q
      obtain ⟨xp, rfl, hxp⟩ := rx
      refine ⟨_, rfl, _, _, _, _, true, rfl, .ty _, .base (.tup hxp), kit_ty (by decide +kernel), true, rfl, iteF ?_⟩
      refine ⟨_, rfl, p, _, _, rfl, M.ob, mem_no _ _ (by decide +kernel), _, rfl, _, _, _, _, rfl, rfl, SqT.of hxp, atI_nat (j := 1) rfl, p, a, m, st, rfl, M, by omega, s2, sne, fun y ry => ?_⟩
      have q : ∀ H', Same H H' → Q (.int (if DkM.isDon (m.last st) then n else o)) H' := q
      generalize hv : m.last st = v at sv ry
      rcases sv with rfl | ⟨t, rfl | rfl⟩
      · have ry : y = .int 0 := ry
        subst ry
        refine ⟨_, rfl, _, _, RT.dp (v := .int 0) rfl rfl, RT.dp (v := .int 0) rfl rfl, pd_shaped (v := .int 0) rfl, pd_shaped (v := .int 0) rfl, false, congrArg V.bl (by rw [pd_eqv (v := .int 0) (w := .int 0) rfl rfl]; rfl), iteF ?_⟩
        refine ⟨_, rfl, _, _, _, _, rfl, rfl, SqT.of hxp, atI_nat (j := 2) rfl, ?_⟩
        rw [hv] at q
        exact q H (fun _ _ h => h)
      · obtain ⟨yp, rfl, hyp⟩ := ry
        refine ⟨_, rfl, _, _, RT.dp (v := .don t) ⟨yp, rfl, hyp⟩ rfl, RT.dp (v := .int 0) rfl rfl, pd_shaped (v := .don t) rfl, pd_shaped (v := .int 0) rfl, true, congrArg V.bl (by rw [pd_eqv (v := .don t) (w := .int 0) rfl rfl]; rfl), iteT ?_⟩
        refine ⟨_, rfl, _, _, _, _, rfl, rfl, SqT.of hyp, atI_nat (j := 0) rfl, rfl, seT ⟨_, rfl, _, _, _, _, rfl, rfl, SqT.of hxp, atI_nat (j := 3) rfl, ?_⟩⟩
        rw [hv] at q
        exact q H (fun _ _ h => h)
      · obtain ⟨yp, rfl, hyp⟩ := ry
        refine ⟨_, rfl, _, _, RT.dp (v := .fai t) ⟨yp, rfl, hyp⟩ rfl, RT.dp (v := .int 0) rfl rfl, pd_shaped (v := .fai t) rfl, pd_shaped (v := .int 0) rfl, true, congrArg V.bl (by rw [pd_eqv (v := .fai t) (w := .int 0) rfl rfl]; rfl), iteT ?_⟩
        refine ⟨_, rfl, _, _, _, _, rfl, rfl, SqT.of hyp, atI_nat (j := 0) rfl, rfl, seF (by decide +kernel) ⟨_, rfl, _, _, _, _, rfl, rfl, SqT.of hxp, atI_nat (j := 2) rfl, ?_⟩⟩
        rw [hv] at q
        exact q H (fun _ _ h => h)
/-! ### _law_at -/
def atL (l : List Int) (k : Int) : Int := l.getD k.toNat 0
def spAt : Sp := fun vs H Q _ => ∃ (tp : Addr) (l : List Int) (k : Int), vs = [.ref tp, .int k] ∧ H tp = some (.lst (l.map V.int)) ∧ 0 ≤ k ∧ Q (.int (atL l k)) H
theorem ok_law_at (T : Tx w K mg) : Cal P w K mg base 1 (He.ga K "_law_at") ["_law_tape_here", "_law_k"] spAt := by
  refine mkCal T.F_law_at sc_law_at (fun vs H Q E h => ?_) (fun _ _ _ _ _ _ us hl => match us, hl with | [_, _], _ => rfl) fun cdv A outer s H vs Q E hr h => ?_
  · obtain ⟨tp, l, k, rfl, _⟩ := h
    rfl
  · obtain ⟨tp, l, k, rfl, htp, k0, q⟩ := h
    refine ⟨_, pss_cons (ps_if (pt_cmpR op_lt (pv 1) (pe_callB call_len_seq (by rfl) T.f_len (by decide +kernel) (pa_cons (pv 0) pa_nil)) (nomark _)) (pss_one (ps_ret (pe_ix ix_list (pv 0) (pv 1) (fun _ _ => rfl)))) pss_nil)
      (pss_one (ps_ret pe_int)), ?_⟩
    refine ⟨_, rfl, _, rfl, _, _, rfl, .inl (SqL.of htp), _, _, rfl, rfl, _, rfl, ?_⟩
    rw [List.length_map]
    unfold atL at q
    by_cases c : k.toNat < l.length
    · refine iteT' (decide_eq_true (by omega)) ⟨_, rfl, _, rfl, _, _, _, _, rfl, rfl, SqL.of htp, (by rw [← Int.toNat_of_nonneg k0]; exact atI_nat (by rw [List.getElem?_map, List.getElem?_eq_getElem c]; rfl)), ?_⟩
      rw [List.getD_eq_getElem?_getD, List.getElem?_eq_getElem c] at q
      exact q
    · refine iteF' (decide_eq_false (by omega)) ?_
      rw [List.getD_eq_getElem?_getD, List.getElem?_eq_none (by omega)] at q
      exact q
end
end Dk

set_option Elab.async false
set_option linter.all false
set_option maxRecDepth 100000
set_option maxHeartbeats 4000000
namespace Dk
open PySem PySem.Spec PyProof.Rows L2
open DkM (TV Mem DS Req Ent Deed upC upC_same upC_ne Ad Sc mkA)
/-! ### the deeds in the heap -/
structure DdAt (H : Hp) (x : Addr × Addr) (D : Deed) (i : Nat) : Prop where
  ob : ∃ sv, H x.1 = some (.lst [.int (Ad i), .ref x.2, sv, .bl D.fits]) ∧ RT H D.st sv
  en : ∃ xs, H x.2 = some (.lst xs) ∧ All2 (EntR H) D.es xs
structure DdsAt (H : Hp) (L : Addr) (qs : List (Addr × Addr)) (ds : List Deed) : Prop where
  li : H L = some (.lst (qs.map fun x => V.ref x.1))
  ln : qs.length = ds.length
  at_ : ∀ (i : Nat) (D : Deed), ds[i]? = some D → ∃ x, qs[i]? = some x ∧ DdAt H x D i
  ij : ∀ (i j : Nat) (x y : Addr × Addr), qs[i]? = some x → qs[j]? = some y → x.1 = y.1 → i = j
  se : ∀ x ∈ qs, ∀ y ∈ qs, x.1 ≠ y.2
  nL : ∀ x ∈ qs, x.1 ≠ L ∧ x.2 ≠ L
def FDs (L : Addr) (qs : List (Addr × Addr)) (y : Addr) : Prop := y = L ∨ ∃ x ∈ qs, y = x.1 ∨ y = x.2
section
variable {L : Addr} {qs : List (Addr × Addr)} {ds : List Deed} {H H' : Hp}
theorem DdsAt.stay (D : DdsAt H L qs ds) (k : ∀ x o, FDs L qs x → H x = some o → H' x = some o) (t : TupK H H') : DdsAt H' L qs ds where
  li := k _ _ (.inl rfl) D.li
  ln := D.ln
  at_ := fun i E h => by
    obtain ⟨x, hx, ⟨sv, h1, h2⟩, xs, h3, h4⟩ := D.at_ i E h
    have m := List.mem_of_getElem? hx
    exact ⟨x, hx, ⟨sv, k _ _ (.inr ⟨x, m, .inl rfl⟩) h1, RT.mono t _ _ h2⟩, xs, k _ _ (.inr ⟨x, m, .inr rfl⟩) h3, h4.mono (EntR.mono t)⟩
  ij := D.ij
  se := D.se
  nL := D.nL
theorem DdsAt.same (D : DdsAt H L qs ds) (s : Same H H') : DdsAt H' L qs ds := D.stay (fun x o _ h => s x o h) (TupK.of_same s)
theorem FDs.some (D : DdsAt H L qs ds) {y : Addr} (h : FDs L qs y) : ∃ o, H y = some o ∧ ∀ xs, o ≠ .tup xs := by
  rcases h with rfl | ⟨x, hx, h⟩
  · exact ⟨_, D.li, fun xs e => by cases e⟩
  · obtain ⟨i, hi, e⟩ := List.getElem_of_mem hx
    have hd : ds[i]? = Option.some (ds[i]'(by rw [← D.ln]; exact hi)) := List.getElem?_eq_getElem _
    obtain ⟨z, hz, ⟨sv, h1, _⟩, xs, h3, _⟩ := D.at_ i _ hd
    rw [List.getElem?_eq_getElem hi] at hz
    have hz : qs[i] = z := Option.some.inj hz
    rw [e] at hz
    subst hz
    rcases h with rfl | rfl
    · exact ⟨_, h1, fun xs e => by cases e⟩
    · exact ⟨_, h3, fun xs e => by cases e⟩
/-- the status or the fit of a deed is put -/
theorem DdsAt.put (D : DdsAt H L qs ds) {i : Nat} {E E' : Deed} {x : Addr × Addr} {sv : V} (hE : ds[i]? = some E) (hx : qs[i]? = some x) (he : E'.es = E.es) (hs : RT H E'.st sv) :
    DdsAt (upd H x.1 (.lst [.int (Ad i), .ref x.2, sv, .bl E'.fits])) L qs (ds.set i E') ∧ Stp (FDs L qs) H (FDs L qs) (upd H x.1 (.lst [.int (Ad i), .ref x.2, sv, .bl E'.fits])) := by
  have mx := List.mem_of_getElem? hx
  obtain ⟨x', hx', ⟨sv0, h1, h2⟩, xs, h3, h4⟩ := D.at_ i E hE
  rw [hx] at hx'
  have hx' : x = x' := Option.some.inj hx'
  subst hx'
  have tk : TupK H (upd H x.1 (.lst [.int (Ad i), .ref x.2, sv, .bl E'.fits])) := TupK.upd h1 fun ys e => by cases e
  have hi : i < ds.length := (List.getElem?_eq_some_iff.mp hE).1
  refine ⟨⟨by rw [upd_ne (D.nL x mx).1.symm]; exact D.li, by rw [List.length_set]; exact D.ln, fun j F hF => ?_, D.ij, D.se, D.nL⟩, fun y h => .inl h, fun y o h f => by rw [upd_ne fun e => f (.inr ⟨x, mx, .inl e⟩)]; exact h, tk⟩
  by_cases c : j = i
  · subst c
    rw [List.getElem?_set_self hi] at hF
    have hF : E' = F := Option.some.inj hF
    subst hF
    exact ⟨x, hx, ⟨sv, upd_same, RT.mono tk _ _ hs⟩, xs, by rw [upd_ne (D.se x mx x mx).symm]; exact h3, by rw [he]; exact h4.mono (EntR.mono tk)⟩
  · rw [List.getElem?_set_ne (Ne.symm c)] at hF
    obtain ⟨y, hy, ⟨sv1, g1, g2⟩, ys, g3, g4⟩ := D.at_ j F hF
    have my := List.mem_of_getElem? hy
    exact ⟨y, hy, ⟨sv1, by rw [upd_ne fun e => c (D.ij j i y x hy hx e)]; exact g1, RT.mono tk _ _ g2⟩, ys, by rw [upd_ne (D.se x mx y my).symm]; exact g3, g4.mono (EntR.mono tk)⟩
end
theorem hu65 {A : Around} {k : Nat} (hr : Room k A) : A.units + 65 < cLine := by have := hr.un; omega
def Shl (sh : Int → Int) : List V := [.int (sh 7), .int (sh 8), .int (sh 9), .int (sh 10)]
theorem Shl_at {sh : Int → Int} {w : Int} (h7 : 7 ≤ w) (h10 : w ≤ 10) : atI (Shl sh) (w - 7) = some (.int (sh w)) := by
  have : w = 7 ∨ w = 8 ∨ w = 9 ∨ w = 10 := by omega
  rcases this with e | e | e | e <;> subst e <;> rfl
theorem Shl_set {sh : Int → Int} {w v : Int} (h7 : 7 ≤ w) (h10 : w ≤ 10) : (Shl sh).set (w - 7).toNat (.int v) = Shl (upC sh w v) := by
  have : w = 7 ∨ w = 8 ∨ w = 9 ∨ w = 10 := by omega
  rcases this with e | e | e | e <;> subst e <;> rfl
theorem flat_w {m : Mem} {w : Int} (W : WOk m w) : flatT (m.last w) = true := by
  rcases W.va with ⟨a, h⟩ | ⟨a, s, o, n, h, _⟩ <;> rw [h] <;> rfl
section
variable {P : Program} {w : World} {K : PySem.W.Frag} {mg : Str → Option Value} {base : Heap}
/-! ### _law_kept -/
theorem eqD_val {H : Hp} {K : PySem.W.Frag} {v w : TV} {x y : V} {R : V → Prop} (rx : RT H v x) (ry : RT H w y) (f1 : flatT v = true) (f2 : flatT w = true) (q : R (.bl (decide (v = w)))) :
    ∃ d e, Dp K H x d ∧ Dp K H y e ∧ SeqAt.shaped d = true ∧ SeqAt.shaped e = true ∧ R (.bl (PyData.eqv d e)) :=
  ⟨_, _, RT.dp rx f1, RT.dp ry f2, pd_shaped f1, pd_shaped f2, by rw [pd_eqv f1 f2]; exact q⟩
def spKept (K : PySem.W.Frag) : Sp := fun vs H Q _ => ∃ (p : Addr) (a : MA) (m : Mem) (x : Addr × Addr) (D : Deed) (i : Nat) (e : Ent) (ep : V), vs = [.ref p, .ref x.1, ep] ∧ MemA K H p a m ∧ DdAt H x D i ∧ EntR H e ep ∧ WOk m e.1 ∧ 7 ≤ e.1 ∧ e.1 ≤ 10 ∧ i < 24 ∧ m.tr (Sc i) ≠ [] ∧
  flatT (m.fst (Sc i)) = true ∧ flatT D.st = true ∧ (m.last e.1 = mkA i e ∨ m.fst (Sc i) = D.st) ∧ ∀ H', Same H H' → Q (.bl true) H'
theorem ok_law_kept (T : Tx w K mg) : Cal P w K mg base 6 (He.ga K "_law_kept") ["_law_memory", "_law_deed", "_law_entry"] (spKept K) := by
  refine mkCal T.F_law_kept sc_law_kept (fun vs H Q E h => ?_) (fun _ _ _ _ _ _ us hl => match us, hl with | [_, _, _], _ => rfl) fun cdv A outer s H vs Q E hr h => ?_
  · obtain ⟨p, a, m, x, D, i, e, ep, rfl, _⟩ := h
    rfl
  · obtain ⟨p, a, m, x, D, i, e, _, rfl, M, ⟨⟨sv, hx, hsv⟩, _⟩, ⟨ep, rfl, hep⟩, W, h7, h10, hi, sne, ff, fd, hk, hq⟩ := h
    refine ⟨_, pss_cons (ps_if (pt_cmpR (op_eqD hr.units) (pe_methC (pv 0) T.c_Memory T.m_Memory_peek (ok_peek T) (hr.mono (by decide)) (pa_cons (pe_ix ix_tup (pv 2) pe_int (fun _ _ => rfl)) pa_nil))
          (pe_tup (pa_cons (pe_ix ix_list (pv 1) pe_int (fun _ _ => rfl)) (pa_cons (pe_op op_add (pe_ix ix_list (pv 1) pe_int (fun _ _ => rfl)) pe_int) (pa_cons (pe_ix ix_tup (pv 2) pe_int (fun _ _ => rfl)) (pa_cons (pe_ix ix_tup (pv 2) pe_int (fun _ _ => rfl)) pa_nil))))) (nomark _)) (pss_one (ps_ret pe_bl)) pss_nil)
      (pss_one (ps_ret (pe_cmpR (op_eqD hr.units) (pe_methC (pv 0) T.c_Memory T.m_Memory_lasting (ok_lasting T) hr (pa_cons (pe_op op_add (pe_ix ix_list (pv 1) pe_int (fun _ _ => rfl)) pe_int) pa_nil)) (pe_ix ix_list (pv 1) pe_int (fun _ _ => rfl)) (nomark _)))), ?_⟩
    refine ⟨_, rfl, p, _, _, rfl, M.ob, mem_no _ _ (by decide +kernel), _, rfl, _, _, _, _, rfl, rfl, SqT.of hep, atI_nat (j := 0) rfl, p, a, m, e.1, rfl, M, by omega, by omega, W.ne, fun y ry => ?_⟩
    refine ⟨_, rfl, _, _, _, _, rfl, rfl, SqL.of hx, atI_nat (j := 0) rfl, _, rfl, _, _, _, _, rfl, rfl, SqL.of hx, atI_nat (j := 0) rfl, _, _, rfl, rfl, _, rfl, _, _, _, _, rfl, rfl, SqT.of hep, atI_nat (j := 1) rfl, _, rfl, _, _, _, _, rfl, rfl, SqT.of hep, atI_nat (j := 2) rfl, (by show 4 ≤ sizeLine; decide), fun mp hmp => ?_⟩
    have s1 : Same H (upd H mp (.tup [.int (Ad i), .int (Ad i + 1), .int e.2.1, .int e.2.2])) := same_new hmp
    have rm : RT (upd H mp (.tup [.int (Ad i), .int (Ad i + 1), .int e.2.1, .int e.2.2])) (mkA i e) (.ref mp) := by
      refine ⟨mp, rfl, ?_⟩
      rw [upd_same]
      have e1 : Ad i + 1 = Sc i := by unfold Ad Sc; omega
      rw [e1]
    generalize (upd H mp (.tup [.int (Ad i), .int (Ad i + 1), .int e.2.1, .int e.2.2])) = H1 at s1 rm
    refine eqD_int0 (RT.mono (TupK.of_same s1) _ _ ry) rm (flat_w W) rfl ?_
    by_cases c : m.last e.1 = mkA i e
    · rw [if_pos c]
      exact hq H1 s1
    · rw [if_neg c]
      have hk : m.fst (Sc i) = D.st := by
        rcases hk with h | h
        · exact absurd h c
        · exact h
      have e1 : Ad i + 1 = Sc i := by unfold Ad Sc; omega
      have M1 := M.same s1
      refine ⟨_, rfl, p, _, _, rfl, M1.ob, mem_no _ _ (by decide +kernel), _, rfl, _, _, _, _, rfl, rfl, SqL.of (s1 _ _ hx), atI_nat (j := 0) rfl, _, _, rfl, rfl, p, a, m, Sc i, by rw [← e1]; rfl, M1, by unfold Sc; omega, by unfold Sc; omega, sne, fun z rz => ?_⟩
      refine ⟨_, rfl, _, _, _, _, rfl, rfl, SqL.of (s1 _ _ hx), atI_nat (j := 2) rfl, ?_⟩
      refine eqD_val (R := fun v => Q v H1) rz (RT.mono (TupK.of_same s1) _ _ hsv) ff fd ?_
      rw [decide_eq_true hk]
      exact hq H1 s1
/-! ### _law_past -/
def spPast (K : PySem.W.Frag) : Sp := fun vs H Q _ => ∃ (p : Addr) (a : MA) (m : Mem) (x : Addr × Addr) (D : Deed) (i : Nat), vs = [.ref p, .ref x.1] ∧ MemA K H p a m ∧ DdAt H x D i ∧ (∀ e ∈ D.es, 7 ≤ e.1 ∧ e.1 ≤ 10 ∧ (∀ v ∈ m.tr e.1, flatT v = true) ∧ ∀ v ∈ m.tr e.1, DkM.NB i e v) ∧ ∀ H', Same H H' → Q (.bl true) H'
theorem ok_law_past (T : Tx w K mg) : Cal P w K mg base 6 (He.ga K "_law_past") ["_law_memory", "_law_deed"] (spPast K) := by
  refine mkCal T.F_law_past sc_law_past (fun vs H Q E h => ?_) (fun _ _ _ _ _ _ us hl => match us, hl with | [_, _], _ => rfl) fun cdv A outer s H vs Q E hr h => ?_
  · obtain ⟨p, a, m, x, D, i, rfl, _⟩ := h
    rfl
  · obtain ⟨p, a, m, x, D, i, rfl, M, ⟨⟨sv, hx, hsv⟩, xs, hxs, hes⟩, hall, hq⟩ := h
    refine ⟨_, pss_cons (ps_for PassesOwn.never rfl (pi_list (pe_ix ix_list (pv 1) pe_int (fun _ _ => rfl))) (pg_name (i := 2) sc_law_past.nd rfl (Or.inl rfl))
        (pss_cons (ps_set (i := 3) sc_law_past.nd rfl (Or.inl rfl) (pe_methC (pv 0) T.c_Memory T.m_Memory_trail (ok_trail T) hr (pa_cons (pe_ix ix_tup (pv 2) pe_int (fun _ _ => rfl)) pa_nil)))
        (pss_one (ps_if (PW.pt (pw_or (pt_cmpR (op_inD (hu65 hr)) (pe_ix ix_tup (pv 2) pe_int (fun _ _ => rfl)) (pv 3) (by with_unfolding_all rfl))
            (pw_or1 (pt_cmpR (op_inD (hu65 hr)) (pe_tup (pa_cons (pe_ix ix_list (pv 1) pe_int (fun _ _ => rfl)) (pa_cons (pe_op op_add (pe_ix ix_list (pv 1) pe_int (fun _ _ => rfl)) pe_int) (pa_cons (pe_ix ix_tup (pv 2) pe_int (fun _ _ => rfl)) (pa_cons (pe_ix ix_tup (pv 2) pe_int (fun _ _ => rfl)) pa_nil))))) (pv 3) (by with_unfolding_all rfl)))))
          (pss_one (ps_ret pe_bl)) pss_nil))))
      (pss_one (ps_ret pe_bl)), ?_⟩
    refine ⟨_, rfl, _, _, _, _, rfl, rfl, SqL.of hx, atI_nat (j := 1) rfl, x.2, rfl, ⟨_, SqL.of hxs⟩, for_list (K := K) (xs := xs) (fun j σ H3 => ∃ y2 y3, σ = [some (.ref p), some (.ref x.1), y2, y3] ∧ Same H H3) ⟨none, none, rfl, fun _ _ h => h⟩ (fun j σ H3 _ ⟨_, _, _, s⟩ => SqL.of (s _ _ hxs)) ?_ ?_⟩
    · rintro j y σ H3 hj ⟨y2, y3, rfl, s3⟩
      obtain ⟨e, he, ep, rfl, hep⟩ := hes.get' hj
      obtain ⟨h7, h10, hfl, hnb⟩ := hall e (List.mem_of_getElem? he)
      have M3 := M.same s3
      have hep3 := s3 _ _ hep
      have hx3 := s3 _ _ hx
      refine ⟨_, rfl, p, _, _, rfl, M3.ob, mem_no _ _ (by decide +kernel), _, rfl, _, _, _, _, rfl, rfl, SqT.of hep3, atI_nat (j := 0) rfl, p, a, m, e.1, rfl, M3, by omega, by omega, fun ts l hts hl => ?_⟩
      have s4 : Same H3 (upd H3 l (.lst ts)) := same_new hl
      have hl4 : (upd H3 l (.lst ts)) l = some (.lst ts) := upd_same
      have ts4 := hts.mono (RT.mono (TupK.of_same s4))
      generalize (upd H3 l (.lst ts)) = H4 at s4 hl4 ts4
      have nin1 : decide (TV.int e.2.1 ∈ m.tr e.1) = false := decide_eq_false fun z => (hnb _ z).2 rfl
      have nin2 : decide (mkA i e ∈ m.tr e.1) = false := decide_eq_false fun z => (hnb _ z).1 rfl
      refine ⟨_, rfl, _, _, _, _, rfl, rfl, SqT.of (s4 _ _ hep3), atI_nat (j := 1) rfl, _, rfl, _, _, .int _, .lst (SqL.of hl4) (RTs.dp ts4 hfl), pd_shaped (v := .int e.2.1) rfl, pds_shaped _ hfl, false, congrArg V.bl ((any_eqv _ (.int e.2.1) hfl rfl).trans nin1), iteF ?_⟩
      refine ⟨_, rfl, _, _, _, _, rfl, rfl, SqL.of (s4 _ _ hx3), atI_nat (j := 0) rfl, _, rfl, _, _, _, _, rfl, rfl, SqL.of (s4 _ _ hx3), atI_nat (j := 0) rfl, _, _, rfl, rfl, _, rfl, _, _, _, _, rfl, rfl, SqT.of (s4 _ _ hep3), atI_nat (j := 1) rfl, _, rfl, _, _, _, _, rfl, rfl, SqT.of (s4 _ _ hep3), atI_nat (j := 2) rfl, (by show 4 ≤ sizeLine; decide), fun mp hmp => ?_⟩
      have s5 : Same H4 (upd H4 mp (.tup [.int (Ad i), .int (Ad i + 1), .int e.2.1, .int e.2.2])) := same_new hmp
      have rm : RT (upd H4 mp (.tup [.int (Ad i), .int (Ad i + 1), .int e.2.1, .int e.2.2])) (mkA i e) (.ref mp) := by
        refine ⟨mp, rfl, ?_⟩
        rw [upd_same]
        have e1 : Ad i + 1 = Sc i := by unfold Ad Sc; omega
        rw [e1]
      generalize (upd H4 mp (.tup [.int (Ad i), .int (Ad i + 1), .int e.2.1, .int e.2.2])) = H5 at s5 rm
      refine ⟨_, rfl, _, _, RT.dp rm rfl, .lst (SqL.of (s5 _ _ hl4)) (RTs.dp (ts4.mono (RT.mono (TupK.of_same s5))) hfl), pd_shaped (v := mkA i e) rfl, pds_shaped _ hfl, false, congrArg V.bl ((any_eqv _ (mkA i e) hfl rfl).trans nin2), iteF ?_⟩
      exact ⟨_, _, rfl, fun y o h => s5 y o (s4 y o (s3 y o h))⟩
    · rintro σ H3 ⟨y2, y3, rfl, s3⟩
      exact hq H3 s3
end
end Dk

set_option Elab.async false
set_option linter.all false
set_option maxRecDepth 100000
set_option maxHeartbeats 4000000
namespace Dk
open PySem PySem.Spec PyProof.Rows L2
open DkM (TV Mem DS Req Ent Deed upC upC_same upC_ne Ad Sc mkA Dec EsOk shUp fitD fitUp isDon)
/-! ### what the law looks at behind a step -/
theorem mix_get {α : Type} {l l' : List α} {i : Nat} (hl : l.length = l'.length) (hi : i < l.length) : (l'.take i ++ l.drop i)[i]? = l[i]? := by
  rw [List.getElem?_append_right (by rw [List.length_take]; omega), List.length_take, List.getElem?_drop]
  congr 1
  omega
theorem mix_set {α : Type} {l l' : List α} {i : Nat} {x : α} (hl : l.length = l'.length) (hi : i < l.length) (hx : l'[i]? = some x) : (l'.take i ++ l.drop i).set i x = l'.take (i + 1) ++ l.drop (i + 1) := by
  apply List.ext_getElem?
  intro j
  have lt : (l'.take i).length = i := by rw [List.length_take]; omega
  have lt1 : (l'.take (i + 1)).length = i + 1 := by rw [List.length_take]; omega
  rcases Nat.lt_trichotomy j i with h | h | h
  · rw [List.getElem?_set_ne (by omega), List.getElem?_append_left (by omega), List.getElem?_append_left (by omega), List.getElem?_take_of_lt h, List.getElem?_take_of_lt (by omega)]
  · subst h
    rw [List.getElem?_set_self (by rw [List.length_append, List.length_drop]; omega), List.getElem?_append_left (by omega), List.getElem?_take_of_lt (by omega), hx]
  · rw [List.getElem?_set_ne (by omega), List.getElem?_append_right (by omega), List.getElem?_append_right (by omega), lt, lt1, List.getElem?_drop, List.getElem?_drop]
    congr 1
    omega
theorem set_get_self {α : Type} {l : List α} {i : Nat} {x : α} (h : l[i]? = some x) : l.set i x = l := by
  apply List.ext_getElem?
  intro j
  by_cases c : j = i
  · subst c
    rw [List.getElem?_set_self (List.getElem?_eq_some_iff.mp h).1, h]
  · rw [List.getElem?_set_ne (Ne.symm c)]
structure DecOk (m : Mem) (ds : List Deed) (sh : Int → Int) (ds1 : List Deed) (sh' : Int → Int) : Prop where
  dec : Dec m ds sh ds1 sh'
  n24 : ds.length ≤ 24
  es : ∀ (i : Nat) (D : Deed), ds[i]? = some D → EsOk i D.es
  fl : ∀ (i : Nat) (D : Deed), ds[i]? = some D → StV D.st
  ne : ∀ (i : Nat), i < ds.length → m.tr (Sc i) ≠ [] ∧ flatT (m.fst (Sc i)) = true
  kept : ∀ (i : Nat) (D : Deed) (e : Ent), ds1[i]? = some D → isDon D.st = true → e ∈ D.es → m.last e.1 = mkA i e ∨ m.fst (Sc i) = D.st
  wok : ∀ (w : Int), 7 ≤ w → w ≤ 10 → WOk m w ∧ shM m w = sh' w
inductive DecAt (m : Mem) (i : Nat) (D D1 : Deed) (s s1 : Int → Int) : Prop where
  | same : D1 = D → m.last (Sc i) = D.st → s1 = s → DecAt m i D D1 s s1
  | fail : D.st = .int 0 → D.fits = false → m.last (Sc i) = .fai m.cnt → D1 = { D with st := .fai m.cnt } → s1 = s → DecAt m i D D1 s s1
  | done : D.st = .int 0 → m.last (Sc i) = .don m.cnt → D1 = { D with st := .don m.cnt } → (∀ e ∈ D.es, s e.1 = e.2.1) → s1 = shUp D.es s → DecAt m i D D1 s s1
theorem decP {m : Mem} {ds ds1 : List Deed} {sh sh' : Int → Int} (h : Dec m ds sh ds1 sh') : ds.length = ds1.length ∧ ∃ sp : Nat → Int → Int, sp 0 = sh ∧ sp ds.length = sh' ∧
    ∀ (i : Nat) (D : Deed), ds[i]? = some D → ∃ D1, ds1[i]? = some D1 ∧ DecAt m i D D1 (sp i) (sp (i + 1)) := by
  cases h with
  | same h => exact ⟨rfl, fun _ => sh, rfl, rfl, fun i D hD => ⟨D, hD, .same rfl (h i D hD) rfl⟩⟩
  | fail k E hE h0 hf hl ho =>
    refine ⟨by rw [List.length_set], fun _ => sh, rfl, rfl, fun i D hD => ?_⟩
    by_cases c : i = k
    · subst c
      rw [hD] at hE
      have hE := Option.some.inj hE
      subst hE
      exact ⟨_, List.getElem?_set_self (List.getElem?_eq_some_iff.mp hD).1, .fail h0 hf hl rfl rfl⟩
    · exact ⟨D, by rw [List.getElem?_set_ne (Ne.symm c)]; exact hD, .same rfl (ho i D c hD) rfl⟩
  | done k E hE h0 hf hl ho =>
    have hk := (List.getElem?_eq_some_iff.mp hE).1
    refine ⟨by rw [List.length_set], fun i => if i ≤ k then sh else shUp E.es sh, if_pos (Nat.zero_le _), if_neg (by omega), fun i D hD => ?_⟩
    by_cases c : i = k
    · subst c
      rw [hD] at hE
      have hE := Option.some.inj hE
      subst hE
      refine ⟨_, List.getElem?_set_self (List.getElem?_eq_some_iff.mp hD).1, .done h0 hl rfl ?_ ?_⟩
      · show ∀ e ∈ D.es, (if i ≤ i then sh else shUp D.es sh) e.1 = e.2.1
        rw [if_pos (Nat.le_refl _)]; exact hf
      · show (if i + 1 ≤ i then sh else shUp D.es sh) = shUp D.es (if i ≤ i then sh else shUp D.es sh)
        rw [if_neg (by omega), if_pos (Nat.le_refl _)]
    · refine ⟨D, by rw [List.getElem?_set_ne (Ne.symm c)]; exact hD, .same rfl (ho i D c hD) ?_⟩
      show (if i + 1 ≤ k then sh else shUp E.es sh) = (if i ≤ k then sh else shUp E.es sh)
      by_cases d : i ≤ k
      · rw [if_pos d, if_pos (by omega)]
      · rw [if_neg d, if_neg (by omega)]
def FX (L : Addr) (qs : List (Addr × Addr)) (sl : Addr) (y : Addr) : Prop := FDs L qs y ∨ y = sl
structure Lx (K : PySem.W.Frag) (H0 H : Hp) (p : Addr) (a : MA) (m : Mem) (L : Addr) (qs : List (Addr × Addr)) (ds : List Deed) (sl : Addr) (sh : Int → Int) : Prop where
  M : MemA K H p a m
  D : DdsAt H L qs ds
  S : H sl = some (.lst (Shl sh))
  st : Stp (FX L qs sl) H0 (FX L qs sl) H
  n1 : ∀ y, FM p a y → ¬ FX L qs sl y
  n2 : ¬ FDs L qs sl
section
variable {K : PySem.W.Frag} {H0 H H' : Hp} {p : Addr} {a : MA} {m : Mem} {L : Addr} {qs : List (Addr × Addr)} {ds : List Deed} {sl : Addr} {sh : Int → Int}
theorem Lx.same (X : Lx K H0 H p a m L qs ds sl sh) (s : Same H H') : Lx K H0 H' p a m L qs ds sl sh :=
  ⟨X.M.same s, X.D.same s, s _ _ X.S, X.st.trans (Stp.of_same s), X.n1, X.n2⟩
theorem Lx.putD (X : Lx K H0 H p a m L qs ds sl sh) {i : Nat} {E E' : Deed} {x : Addr × Addr} {sv : V} (hE : ds[i]? = some E) (hx : qs[i]? = some x) (he : E'.es = E.es) (hs : RT H E'.st sv) :
    Lx K H0 (upd H x.1 (.lst [.int (Ad i), .ref x.2, sv, .bl E'.fits])) p a m L qs (ds.set i E') sl sh := by
  obtain ⟨D1, s1⟩ := X.D.put hE hx he hs
  have mx := List.mem_of_getElem? hx
  refine ⟨X.M.stay (fun y o f h => s1.ou y o h fun g => X.n1 y f (.inl g)) s1.tu, D1, s1.ou _ _ X.S X.n2, X.st.trans ⟨fun y h => .inl h, fun y o h f => s1.ou y o h fun g => f (.inl g), s1.tu⟩, X.n1, X.n2⟩
theorem Lx.putS (X : Lx K H0 H p a m L qs ds sl sh) (s' : Int → Int) : Lx K H0 (upd H sl (.lst (Shl s'))) p a m L qs ds sl s' := by
  have tk : TupK H (upd H sl (.lst (Shl s'))) := TupK.upd X.S fun ys e => by cases e
  refine ⟨X.M.stay (fun y o f h => by rw [upd_ne fun g => X.n1 y f (.inr g)]; exact h) tk, X.D.stay (fun y o f h => by rw [upd_ne fun g => X.n2 (by rw [← g]; exact f)]; exact h) tk, upd_same, X.st.trans ⟨fun y h => .inl h, fun y o h f => by rw [upd_ne fun g => f (.inr g)]; exact h, tk⟩, X.n1, X.n2⟩
end
theorem neD_if {H : Hp} {K : PySem.W.Frag} {v w : TV} {x y : V} {A B : Prop} (rx : RT H v x) (ry : RT H w y) (f1 : flatT v = true) (f2 : flatT w = true) (q : if v = w then B else A) :
    ∃ d e, Dp K H x d ∧ Dp K H y e ∧ SeqAt.shaped d = true ∧ SeqAt.shaped e = true ∧ ∃ k, V.bl (!PyData.eqv d e) = V.bl k ∧ (if k = true then A else B) := by
  refine ⟨_, _, RT.dp rx f1, RT.dp ry f2, pd_shaped f1, pd_shaped f2, !decide (v = w), congrArg V.bl (by rw [pd_eqv f1 f2]), ?_⟩
  by_cases c : v = w
  · rw [if_pos c] at q
    rw [decide_eq_true c]; exact iteF q
  · rw [if_neg c] at q
    rw [decide_eq_false c]; exact iteT q
theorem shUp_take {es : List Ent} {i : Nat} (h : EsOk i es) {j : Nat} {e : Ent} (he : es[j]? = some e) (s : Int → Int) : shUp (es.take j) s e.1 = s e.1 := by
  refine DkM.shUp_out fun f hf => ?_
  obtain ⟨k, hk, e1⟩ := List.getElem_of_mem hf
  rw [List.length_take] at hk
  rw [List.getElem_take] at e1
  obtain ⟨hj, e2⟩ := List.getElem?_eq_some_iff.mp he
  have := List.pairwise_iff_getElem.mp h.up k j (by omega) hj (by omega)
  rw [e1, e2] at this
  omega
theorem shUp_snoc (es : List Ent) (e : Ent) (s : Int → Int) : shUp (es ++ [e]) s = upC (shUp es s) e.1 e.2.2 := by unfold shUp; rw [List.foldl_append]; rfl
def fitJ (s : Int → Int) (D : Deed) (j : Nat) : Deed := if D.st = .int 0 then { D with fits := D.fits && (D.es.take j).all (fun e => decide (s e.1 = e.2.1)) } else D
theorem fitJ_st (s : Int → Int) (D : Deed) (j : Nat) : (fitJ s D j).st = D.st ∧ (fitJ s D j).es = D.es := by unfold fitJ; split <;> exact ⟨rfl, rfl⟩
theorem fitJ_0 (s : Int → Int) (D : Deed) : fitJ s D 0 = D := by
  unfold fitJ
  split
  · rw [List.take_zero]; show ({ D with fits := D.fits && true } : Deed) = D; rw [Bool.and_true]
  · rfl
theorem fitJ_all (s : Int → Int) (D : Deed) : fitJ s D D.es.length = fitD s D := by
  unfold fitJ fitD
  rw [List.take_of_length_le (Nat.le_refl _)]
theorem fitJ_succ (s : Int → Int) (D : Deed) {j : Nat} {e : Ent} (he : D.es[j]? = some e) (h0 : D.st = .int 0) : fitJ s D (j + 1) = { fitJ s D j with fits := (fitJ s D j).fits && decide (s e.1 = e.2.1) } := by
  unfold fitJ
  rw [if_pos h0, if_pos h0, List.take_add_one, he, List.all_append]
  show ({ D with fits := _ } : Deed) = { D with fits := _ }
  rw [Bool.and_assoc]
  simp
theorem fitJ_skip (s : Int → Int) (D : Deed) (j : Nat) (h0 : D.st ≠ .int 0) : fitJ s D j = D := by unfold fitJ; rw [if_neg h0]
end Dk

set_option Elab.async false
set_option linter.all false
set_option maxRecDepth 100000
set_option maxHeartbeats 4000000
namespace Dk
open PySem PySem.Spec PyProof.Rows L2
open DkM (TV Mem DS Req Ent Deed upC upC_same upC_ne Ad Sc mkA Dec EsOk shUp fitD fitUp isDon)
section
variable {P : Program} {w : World} {K : PySem.W.Frag} {mg : Str → Option Value} {base : Heap}
def spDec (K : PySem.W.Frag) : Sp := fun vs H Q _ => ∃ (p : Addr) (a : MA) (m : Mem) (L : Addr) (qs : List (Addr × Addr)) (ds : List Deed) (sl : Addr) (sh : Int → Int) (ds1 : List Deed) (sh' : Int → Int), vs = [.ref p, .ref L, .ref sl] ∧ Lx K H H p a m L qs ds sl sh ∧ DecOk m ds sh ds1 sh' ∧
  ∀ H', Lx K H H' p a m L qs (fitUp sh' ds1) sl sh' → Q (.bl true) H'
theorem ok_law_decided (T : Tx w K mg) : Cal P w K mg base 7 (He.ga K "_law_decided") ["_law_memory", "_law_deeds", "_law_shown_here"] (spDec K) := by
  refine mkCal T.F_law_decided sc_law_decided (fun vs H Q E h => ?_) (fun _ _ _ _ _ _ us hl => match us, hl with | [_, _, _], _ => rfl) fun cdv A outer s H vs Q E hr h => ?_
  · obtain ⟨p, a, m, L, qs, ds, sl, sh, ds1, sh', rfl, _⟩ := h
    rfl
  · obtain ⟨p, a, m, L, qs, ds, sl, sh, ds1, sh', rfl, X0, DO, hq⟩ := h
    have nd := sc_law_decided.nd
    refine ⟨_, pss_cons (ps_for PassesOwn.never rfl (pi_list (pv 1)) (pg_name (i := 3) nd rfl (Or.inl rfl)) (pss_cons (ps_set (i := 4) nd rfl (Or.inl rfl) (pe_methC (pv 0) T.c_Memory T.m_Memory_peek (ok_peek T) (hr.mono (by decide)) (pa_cons (pe_op op_add (pe_ix ix_list (pv 3) pe_int (fun _ _ => rfl)) pe_int) pa_nil))) (pss_one (ps_if (pt_cmpR (op_neD hr.units) (pv 4) (pe_ix ix_list (pv 3) pe_int (fun _ _ => rfl)) (nomark _)) (pss_cons (ps_if (PW.pt (pw_or (pt_cmpR (op_neD hr.units) (pe_ix ix_list (pv 3) pe_int (fun _ _ => rfl)) pe_int (nomark _)) (pw_or (pt_not (pt_val (pe_callB call_isi (by rfl) T.f_isinstance (by decide +kernel) (pa_cons (pv 4) (pa_cons (pe_bltn (v := .ty "tuple") (by rfl) T.f_tuple (by decide +kernel) rfl) pa_nil))))) (pw_or (pt_cmpR op_ne (pe_callB call_len_seq (by rfl) T.f_len (by decide +kernel) (pa_cons (pv 4) pa_nil)) pe_int (nomark _)) (pw_or1 (pt_cmpR op_ne (pe_ix ix_tup (pv 4) pe_int (fun _ _ => rfl)) (pe_fld (pv 0) rfl) (nomark _))))))) (pss_one (ps_ret pe_bl)) pss_nil) (pss_cons (ps_asg (pv 4) (pg_sub (pv 3) pe_int set_list)) (pss_one (ps_if (pt_cmpR op_eq (pe_ix ix_tup (pv 4) pe_int (fun _ _ => rfl)) pe_str (nomark _)) (pss_one (ps_for PassesOwn.never rfl (pi_list (pe_ix ix_list (pv 3) pe_int (fun _ _ => rfl))) (pg_name (i := 5) nd rfl (Or.inl rfl)) (pss_cons (ps_if (pt_cmpR op_ne (pe_ix ix_list (pv 2) (pe_op op_sub (pe_ix ix_tup (pv 5) pe_int (fun _ _ => rfl)) pe_int) (fun _ _ => rfl)) (pe_ix ix_tup (pv 5) pe_int (fun _ _ => rfl)) (nomark _)) (pss_one (ps_ret pe_bl)) pss_nil) (pss_one (ps_asg (pe_ix ix_tup (pv 5) pe_int (fun _ _ => rfl)) (pg_sub (pv 2) (pe_op op_sub (pe_ix ix_tup (pv 5) pe_int (fun _ _ => rfl)) pe_int) set_list)))))) (pss_one (ps_if (PW.pt (pw_or (pt_cmpR op_ne (pe_ix ix_tup (pv 4) pe_int (fun _ _ => rfl)) pe_str (nomark _)) (pw_or1 (pt_val (pe_ix ix_list (pv 3) pe_int (fun _ _ => rfl)))))) (pss_one (ps_ret pe_bl)) pss_nil)))))) pss_nil)))) (pss_cons (ps_for PassesOwn.never rfl (pi_list (pv 1)) (pg_name (i := 3) nd rfl (Or.inl rfl)) (pss_one (ps_for PassesOwn.never rfl (pi_list (pe_ix ix_list (pv 3) pe_int (fun _ _ => rfl))) (pg_name (i := 5) nd rfl (Or.inl rfl)) (pss_cons (ps_if (PW.pt (pw_and (pt_cmpR (op_eqD hr.units) (pe_ix ix_list (pv 3) pe_int (fun _ _ => rfl)) pe_int (nomark _)) (pw_and1 (pt_cmpR op_ne (pe_ix ix_list (pv 2) (pe_op op_sub (pe_ix ix_tup (pv 5) pe_int (fun _ _ => rfl)) pe_int) (fun _ _ => rfl)) (pe_ix ix_tup (pv 5) pe_int (fun _ _ => rfl)) (nomark _))))) (pss_one (ps_asg pe_bl (pg_sub (pv 3) pe_int set_list))) pss_nil) (pss_one (ps_if (PW.pt (pw_and (pt_cmpR (op_neD hr.units) (pe_ix ix_list (pv 3) pe_int (fun _ _ => rfl)) pe_int (nomark _)) (pw_and (pt_cmpR op_eq (pe_ix ix_tup (pe_ix ix_list (pv 3) pe_int (fun _ _ => rfl)) pe_int (fun _ _ => rfl)) pe_str (nomark _)) (pw_and1 (pt_not (pt_val (pe_callC (ok_law_kept T) (hr.mono (by decide)) rfl T.g_law_kept (pa_cons (pv 0) (pa_cons (pv 3) (pa_cons (pv 5) pa_nil)))))))))) (pss_one (ps_ret pe_bl)) pss_nil)))))) (pss_cons (ps_for PassesOwn.never rfl (pi_range1 (by rfl) T.f_range (pa_cons pe_int pa_nil)) (pg_name (i := 6) nd rfl (Or.inl rfl)) (pss_one (ps_if (PW.pt (pw_or (pt_cmpR op_ne (pe_callC (ok_law_shown T) (hr.mono (by decide)) rfl T.g_law_shown (pa_cons (pv 0) (pa_cons (pv 6) pa_nil))) (pe_ix ix_list (pv 2) (pv 6) (fun _ _ => rfl)) (nomark _)) (pw_or1 (pt_cmpR op_ne (pe_callC (ok_shown_now T) (hr.mono (by decide)) rfl T.g_shown_now (pa_cons (pv 0) (pa_cons (pv 6) pa_nil))) (pe_ix ix_list (pv 2) (pv 6) (fun _ _ => rfl)) (nomark _))))) (pss_one (ps_ret pe_bl)) pss_nil))) (pss_one (ps_ret pe_bl)))), ?_⟩
    obtain ⟨hlen, sp, sp0, spn, hdec⟩ := decP DO.dec
    have hi7 : ∀ i : Nat, i < ds.length → Ad i + 1 = Sc i ∧ 0 ≤ Sc i ∧ Sc i < 201 := fun i hi => by
      have := DO.n24
      unfold Ad Sc
      omega
    refine ⟨_, rfl, L, rfl, ⟨_, SqL.of X0.D.li⟩, for_list (K := K) (xs := qs.map fun x => V.ref x.1) (fun i σ H3 => ∃ y3 y4 y5, σ = [some (.ref p), some (.ref L), some (.ref sl), y3, y4, y5, none] ∧ Lx K H H3 p a m L qs (ds1.take i ++ ds.drop i) sl (sp i)) ⟨none, none, none, rfl, by rw [List.take_zero, List.drop_zero, sp0]; exact X0⟩ (fun i σ H3 _ ⟨_, _, _, _, X⟩ => SqL.of X.D.li) ?_ ?_⟩
    · rintro i x σ H3 hi ⟨y3, y4, y5, rfl, X⟩
      have hil : i < ds.length := by
        have := (List.getElem?_eq_some_iff.mp hi).1
        rw [List.length_map, X0.D.ln] at this
        exact this
      have hD : ds[i]? = some ds[i] := List.getElem?_eq_getElem hil
      generalize ds[i] = D at hD
      have hmx : (ds1.take i ++ ds.drop i)[i]? = some D := by rw [mix_get hlen hil]; exact hD
      obtain ⟨z, hz, ⟨sv, hx, rsv⟩, xs, hxs, hes⟩ := X.D.at_ i D hmx
      rw [List.getElem?_map, hz] at hi
      have hi : V.ref z.1 = x := Option.some.inj hi
      subst hi
      obtain ⟨D1, hD1, dat⟩ := hdec i D hD
      obtain ⟨e1, g0, g1⟩ := hi7 i hil
      have nxt : (ds1.take i ++ ds.drop i).set i D1 = ds1.take (i + 1) ++ ds.drop (i + 1) := mix_set hlen hil hD1
      refine ⟨_, rfl, p, _, _, rfl, X.M.ob, mem_no _ _ (by decide +kernel), _, rfl, _, _, _, _, rfl, rfl, SqL.of hx, atI_nat (j := 0) rfl, _, _, rfl, rfl, p, a, m, Sc i, by rw [← e1]; rfl, X.M, g0, g1, (DO.ne i hil).1, fun y ry => ?_⟩
      have fD := flat_st (DO.fl i D hD)
      have S0 := DO.fl i D hD
      cases dat with
      | same c1 c2 c3 =>
        rw [c2] at ry
        refine ⟨_, rfl, _, rfl, _, _, _, _, rfl, rfl, SqL.of hx, atI_nat (j := 2) rfl, neD_if ry rsv fD fD ?_⟩
        rw [if_pos rfl]
        refine ⟨_, _, _, rfl, ?_⟩
        rw [← nxt, c1, set_get_self hmx, c3]
        exact X
      | fail c0 c1 c2 c3 c4 =>
        rw [c2] at ry
        rw [c0] at rsv
        refine ⟨_, rfl, _, rfl, _, _, _, _, rfl, rfl, SqL.of hx, atI_nat (j := 2) rfl, neD_if (v := .fai m.cnt) (w := .int 0) ry rsv rfl rfl ?_⟩
        rw [if_neg (by intro z; cases z)]
        obtain ⟨yp, rfl, hyp⟩ := ry
        refine ⟨_, rfl, _, _, _, _, rfl, rfl, SqL.of hx, atI_nat (j := 2) rfl, neD_if (v := .int 0) (w := .int 0) rsv rfl rfl rfl ?_⟩
        rw [if_pos rfl]
        refine ⟨_, rfl, _, _, _, _, true, rfl, .ty _, .base (.tup hyp), kit_ty (by decide +kernel), true, rfl, iteF ?_⟩
        refine ⟨_, rfl, _, _, rfl, .inr (SqT.of hyp), rfl, false, rfl, iteF ?_⟩
        refine ⟨_, rfl, _, _, _, _, rfl, rfl, SqT.of hyp, atI_nat (j := 1) rfl, _, rfl, p, _, _, _, _, rfl, X.M.ob, T.c_Memory, T.n_Memory_count, memF_count _ _, rfl, false, congrArg V.bl (by simp), iteF ?_⟩
        refine ⟨_, rfl, _, rfl, _, _, _, 2, rfl, rfl, hx, rfl, ?_⟩
        have X1 := X.putD (E' := D1) (sv := .ref yp) hmx hz (by rw [c3]) (by rw [c3]; exact ⟨yp, rfl, hyp⟩)
        have tk : TupK H3 (upd H3 z.1 (.lst [.int (Ad i), .ref z.2, .ref yp, .bl D1.fits])) := TupK.upd hx fun ys e => by cases e
        have hx1 : (upd H3 z.1 (.lst [.int (Ad i), .ref z.2, .ref yp, .bl D1.fits])) z.1 = some (.lst [.int (Ad i), .ref z.2, .ref yp, .bl D1.fits]) := upd_same
        have ef : D1.fits = false := by rw [c3]; exact c1
        have hh : (upd H3 z.1 (HO.lst (([V.int (Ad i), V.ref z.2, sv, V.bl D.fits] : List V).set 2 (V.ref yp)))) = upd H3 z.1 (.lst [.int (Ad i), .ref z.2, .ref yp, .bl D1.fits]) := by rw [c3]; rfl
        rw [hh]
        generalize (upd H3 z.1 (.lst [.int (Ad i), .ref z.2, .ref yp, .bl D1.fits])) = H4 at X1 tk hx1
        rw [ef] at hx1
        refine ⟨_, rfl, _, _, _, _, rfl, rfl, SqT.of (tk _ _ hyp), atI_nat (j := 0) rfl, rfl, seF (by decide +kernel) ?_⟩
        refine ⟨_, rfl, _, _, _, _, rfl, rfl, SqT.of (tk _ _ hyp), atI_nat (j := 0) rfl, rfl, false, congrArg V.bl (by simp), iteF ?_⟩
        refine ⟨_, rfl, _, _, _, _, rfl, rfl, SqL.of hx1, atI_nat (j := 3) rfl, false, rfl, iteF ?_⟩
        refine ⟨_, _, _, rfl, ?_⟩
        rw [← nxt, c4]
        exact X1
      | done c0 c1 c2 c3 c4 =>
        rw [c1] at ry
        rw [c0] at rsv
        refine ⟨_, rfl, _, rfl, _, _, _, _, rfl, rfl, SqL.of hx, atI_nat (j := 2) rfl, neD_if (v := .don m.cnt) (w := .int 0) ry rsv rfl rfl ?_⟩
        rw [if_neg (by intro z; cases z)]
        obtain ⟨yp, rfl, hyp⟩ := ry
        refine ⟨_, rfl, _, _, _, _, rfl, rfl, SqL.of hx, atI_nat (j := 2) rfl, neD_if (v := .int 0) (w := .int 0) rsv rfl rfl rfl ?_⟩
        rw [if_pos rfl]
        refine ⟨_, rfl, _, _, _, _, true, rfl, .ty _, .base (.tup hyp), kit_ty (by decide +kernel), true, rfl, iteF ?_⟩
        refine ⟨_, rfl, _, _, rfl, .inr (SqT.of hyp), rfl, false, rfl, iteF ?_⟩
        refine ⟨_, rfl, _, _, _, _, rfl, rfl, SqT.of hyp, atI_nat (j := 1) rfl, _, rfl, p, _, _, _, _, rfl, X.M.ob, T.c_Memory, T.n_Memory_count, memF_count _ _, rfl, false, congrArg V.bl (by simp), iteF ?_⟩
        refine ⟨_, rfl, _, rfl, _, _, _, 2, rfl, rfl, hx, rfl, ?_⟩
        have X1 := X.putD (E' := D1) (sv := .ref yp) hmx hz (by rw [c2]) (by rw [c2]; exact ⟨yp, rfl, hyp⟩)
        have tk : TupK H3 (upd H3 z.1 (.lst [.int (Ad i), .ref z.2, .ref yp, .bl D1.fits])) := TupK.upd hx fun ys e => by cases e
        have hx1 : (upd H3 z.1 (.lst [.int (Ad i), .ref z.2, .ref yp, .bl D1.fits])) z.1 = some (.lst [.int (Ad i), .ref z.2, .ref yp, .bl D1.fits]) := upd_same
        have hh : (upd H3 z.1 (HO.lst (([V.int (Ad i), V.ref z.2, sv, V.bl D.fits] : List V).set 2 (V.ref yp)))) = upd H3 z.1 (.lst [.int (Ad i), .ref z.2, .ref yp, .bl D1.fits]) := by rw [c2]; rfl
        have mz := List.mem_of_getElem? hz
        have hxs1 : (upd H3 z.1 (.lst [.int (Ad i), .ref z.2, .ref yp, .bl D1.fits])) z.2 = some (.lst xs) := by rw [upd_ne (X.D.se z mz z mz).symm]; exact hxs
        have hes1 := hes.mono (EntR.mono tk)
        rw [hh]
        generalize (upd H3 z.1 (.lst [.int (Ad i), .ref z.2, .ref yp, .bl D1.fits])) = H4 at X1 tk hx1 hxs1 hes1
        have EO := DO.es i D hD
        refine ⟨_, rfl, _, _, _, _, rfl, rfl, SqT.of (tk _ _ hyp), atI_nat (j := 0) rfl, rfl, seT ?_⟩
        refine ⟨_, rfl, _, _, _, _, rfl, rfl, SqL.of hx1, atI_nat (j := 1) rfl, z.2, rfl, ⟨_, SqL.of hxs1⟩, for_list (K := K) (xs := xs) (fun j σ H5 => ∃ y5, σ = [some (.ref p), some (.ref L), some (.ref sl), some (.ref z.1), some (.ref yp), y5, none] ∧
          Lx K H H5 p a m L qs ((ds1.take i ++ ds.drop i).set i D1) sl (shUp (D.es.take j) (sp i)) ∧ H5 z.2 = some (.lst xs) ∧ All2 (EntR H5) D.es xs) ⟨y5, rfl, X1, hxs1, hes1⟩ (fun j σ H5 _ ⟨_, _, _, h, _⟩ => SqL.of h) ?_ ?_⟩
        · rintro j xe σ H5 hj ⟨y6, rfl, X5, hxs5, hes5⟩
          obtain ⟨e, he, ep, rfl, hep⟩ := hes5.get' hj
          obtain ⟨h7, h10, _⟩ := EO.at_ e (List.mem_of_getElem? he)
          have hse : shUp (D.es.take j) (sp i) e.1 = e.2.1 := by rw [shUp_take EO he]; exact c3 e (List.mem_of_getElem? he)
          refine ⟨_, rfl, _, rfl, _, _, _, _, rfl, rfl, SqT.of hep, atI_nat (j := 0) rfl, _, _, rfl, rfl, _, _, _, _, rfl, rfl, SqL.of X5.S, Shl_at h7 h10, _, rfl, _, _, _, _, rfl, rfl, SqT.of hep, atI_nat (j := 1) rfl, rfl, false, congrArg V.bl (by rw [hse]; simp), iteF ?_⟩
          refine ⟨_, rfl, _, _, _, _, rfl, rfl, SqT.of hep, atI_nat (j := 2) rfl, _, rfl, _, rfl, _, _, _, _, rfl, rfl, SqT.of hep, atI_nat (j := 0) rfl, _, _, rfl, rfl, _, _, _, _, rfl, rfl, X5.S, ixN_of (by omega) (by show e.1 - 7 < ((4 : Nat) : Int); omega), ?_⟩
          rw [Shl_set h7 h10]
          have ens : upC (shUp (D.es.take j) (sp i)) e.1 e.2.2 = shUp (D.es.take (j + 1)) (sp i) := by rw [List.take_add_one, he]; exact (shUp_snoc _ _ _).symm
          rw [ens]
          have n2z : sl ≠ z.2 := fun c => X5.n2 (.inr ⟨z, mz, .inr c⟩)
          exact ⟨_, rfl, X5.putS _, by rw [upd_ne n2z.symm]; exact hxs5, hes5.mono (EntR.mono (TupK.upd X5.S fun ys e => by cases e))⟩
        · rintro σ H5 ⟨y6, rfl, X5, hxs5, hes5⟩
          have et : D.es.take xs.length = D.es := List.take_of_length_le (by rw [hes5.len]; exact Nat.le_refl _)
          rw [et, ← c4, nxt] at X5
          exact ⟨_, _, _, rfl, X5⟩
    · rintro σ H3 ⟨y3, y4, y5, rfl, X⟩
      rw [List.length_map, X0.D.ln, spn, List.drop_of_length_le (Nat.le_refl _), List.append_nil, List.take_of_length_le (by omega)] at X
      have hl2 : ds1.length = (fitUp sh' ds1).length := (DkM.fitUp_len sh' ds1).symm
      have es1 : ∀ (i : Nat) (D : Deed), ds1[i]? = some D → EsOk i D.es ∧ StV D.st := fun i D hD => by
        have hil : i < ds.length := by rw [hlen]; exact (List.getElem?_eq_some_iff.mp hD).1
        obtain ⟨D1, hD1, dat⟩ := hdec i _ (List.getElem?_eq_getElem hil)
        rw [hD] at hD1
        have hD1 := Option.some.inj hD1
        subst hD1
        have a := DO.es i _ (List.getElem?_eq_getElem hil)
        have b := DO.fl i _ (List.getElem?_eq_getElem hil)
        cases dat with
        | same c1 _ _ => rw [c1]; exact ⟨a, b⟩
        | fail _ _ _ c _ => rw [c]; exact ⟨a, .inr ⟨_, .inr rfl⟩⟩
        | done _ _ c _ _ => rw [c]; exact ⟨a, .inr ⟨_, .inl rfl⟩⟩
      refine ⟨_, rfl, L, rfl, ⟨_, SqL.of X.D.li⟩, for_list (K := K) (xs := qs.map fun x => V.ref x.1) (fun i σ H4 => ∃ y3 y5, σ = [some (.ref p), some (.ref L), some (.ref sl), y3, y4, y5, none] ∧ Lx K H H4 p a m L qs ((fitUp sh' ds1).take i ++ ds1.drop i) sl sh') ⟨_, _, rfl, by rw [List.take_zero, List.drop_zero]; exact X⟩ (fun i σ H4 _ ⟨_, _, _, X⟩ => SqL.of X.D.li) ?_ ?_⟩
      · rintro i x σ H4 hi ⟨y3, y5, rfl, X⟩
        have hil0 : i < ds.length := by
          have := (List.getElem?_eq_some_iff.mp hi).1
          rw [List.length_map, X0.D.ln] at this
          exact this
        have hil : i < ds1.length := by omega
        have hD : ds1[i]? = some ds1[i] := List.getElem?_eq_getElem hil
        generalize ds1[i] = D at hD
        obtain ⟨EO, SV⟩ := es1 i D hD
        obtain ⟨e1, g0, g1⟩ := hi7 i hil0
        have hmx : ((fitUp sh' ds1).take i ++ ds1.drop i)[i]? = some D := by rw [mix_get hl2 hil]; exact hD
        have hlm : i < ((fitUp sh' ds1).take i ++ ds1.drop i).length := (List.getElem?_eq_some_iff.mp hmx).1
        obtain ⟨z, hz, ⟨sv, hx, rsv⟩, xs, hxs, hes⟩ := X.D.at_ i D hmx
        rw [List.getElem?_map, hz] at hi
        have hi : V.ref z.1 = x := Option.some.inj hi
        subst hi
        have mz := List.mem_of_getElem? hz
        have nxt : ((fitUp sh' ds1).take i ++ ds1.drop i).set i (fitD sh' D) = (fitUp sh' ds1).take (i + 1) ++ ds1.drop (i + 1) := mix_set hl2 hil (DkM.fitUp_at hD)
        refine ⟨_, rfl, _, _, _, _, rfl, rfl, SqL.of hx, atI_nat (j := 1) rfl, z.2, rfl, ⟨_, SqL.of hxs⟩, for_list (K := K) (xs := xs) (fun j σ H5 => ∃ y5, σ = [some (.ref p), some (.ref L), some (.ref sl), some (.ref z.1), y4, y5, none] ∧
          Lx K H H5 p a m L qs (((fitUp sh' ds1).take i ++ ds1.drop i).set i (fitJ sh' D j)) sl sh' ∧ H5 z.2 = some (.lst xs) ∧ All2 (EntR H5) D.es xs) ⟨y5, rfl, by rw [fitJ_0, set_get_self hmx]; exact X, hxs, hes⟩ (fun j σ H5 _ ⟨_, _, _, h, _⟩ => SqL.of h) ?_ ?_⟩
        · rintro j xe σ H5 hj ⟨y6, rfl, X5, hxs5, hes5⟩
          obtain ⟨e, he, ep, rfl, hep⟩ := hes5.get' hj
          obtain ⟨h7, h10, _⟩ := EO.at_ e (List.mem_of_getElem? he)
          have hget : (((fitUp sh' ds1).take i ++ ds1.drop i).set i (fitJ sh' D j))[i]? = some (fitJ sh' D j) := List.getElem?_set_self hlm
          obtain ⟨z1, hz1, ⟨sv1, hx1, rsv1⟩, _⟩ := X5.D.at_ i _ hget
          rw [hz] at hz1
          have hz1 := Option.some.inj hz1
          subst hz1
          rw [(fitJ_st sh' D j).1] at rsv1
          refine ⟨_, rfl, _, _, _, _, rfl, rfl, SqL.of hx1, atI_nat (j := 2) rfl, eqD_int0 (w := .int 0) rsv1 rfl (flat_st SV) rfl ?_⟩
          by_cases c0 : D.st = .int 0
          · rw [if_pos c0]
            have fs := fitJ_succ sh' D he c0
            by_cases c1 : sh' e.1 = e.2.1
            · refine ⟨_, rfl, _, rfl, _, _, _, _, rfl, rfl, SqT.of hep, atI_nat (j := 0) rfl, _, _, rfl, rfl, _, _, _, _, rfl, rfl, SqL.of X5.S, Shl_at h7 h10, _, rfl, _, _, _, _, rfl, rfl, SqT.of hep, atI_nat (j := 1) rfl, rfl, false, congrArg V.bl (by rw [c1]; simp), iteF ?_⟩
              have ef : fitJ sh' D (j + 1) = fitJ sh' D j := by rw [fs, decide_eq_true c1, Bool.and_true]
              rw [← ef] at X5
              obtain ⟨z2, hz2, ⟨sv2, hx2, rsv2⟩, _⟩ := X5.D.at_ i _ (List.getElem?_set_self hlm)
              rw [hz] at hz2
              have hz2 := Option.some.inj hz2
              subst hz2
              rw [(fitJ_st sh' D (j + 1)).1, c0] at rsv2
              refine ⟨_, rfl, _, _, _, _, rfl, rfl, SqL.of hx2, atI_nat (j := 2) rfl, neD_if (v := .int 0) (w := .int 0) rsv2 rfl rfl rfl ?_⟩
              rw [if_pos rfl]
              exact ⟨_, rfl, X5, hxs5, hes5⟩
            · refine ⟨_, rfl, _, rfl, _, _, _, _, rfl, rfl, SqT.of hep, atI_nat (j := 0) rfl, _, _, rfl, rfl, _, _, _, _, rfl, rfl, SqL.of X5.S, Shl_at h7 h10, _, rfl, _, _, _, _, rfl, rfl, SqT.of hep, atI_nat (j := 1) rfl, rfl, true, congrArg V.bl (by simp [c1]), iteT ?_⟩
              have ef : (fitJ sh' D (j + 1)).fits = false := by rw [fs, decide_eq_false c1]; show ((fitJ sh' D j).fits && false) = false; rw [Bool.and_false]
              refine ⟨_, rfl, _, _, _, 3, rfl, rfl, hx1, rfl, ?_⟩
              have X6 := X5.putD (E' := fitJ sh' D (j + 1)) (sv := sv1) hget hz (by rw [(fitJ_st sh' D (j + 1)).2, (fitJ_st sh' D j).2]) (by rw [(fitJ_st sh' D (j + 1)).1]; exact rsv1)
              rw [ef, List.set_set] at X6
              have hh : (upd H5 z.1 (HO.lst (([V.int (Ad i), V.ref z.2, sv1, V.bl (fitJ sh' D j).fits] : List V).set 3 (V.bl false)))) = upd H5 z.1 (.lst [.int (Ad i), .ref z.2, sv1, .bl false]) := rfl
              rw [hh]
              have tk : TupK H5 (upd H5 z.1 (.lst [.int (Ad i), .ref z.2, sv1, .bl false])) := TupK.upd hx1 fun ys e => by cases e
              have hxs6 : (upd H5 z.1 (.lst [.int (Ad i), .ref z.2, sv1, .bl false])) z.2 = some (.lst xs) := by rw [upd_ne (X.D.se z mz z mz).symm]; exact hxs5
              have hes6 := hes5.mono (EntR.mono tk)
              generalize (upd H5 z.1 (.lst [.int (Ad i), .ref z.2, sv1, .bl false])) = H6 at X6 hxs6 hes6
              obtain ⟨z2, hz2, ⟨sv2, hx2, rsv2⟩, _⟩ := X6.D.at_ i _ (List.getElem?_set_self hlm)
              rw [hz] at hz2
              have hz2 := Option.some.inj hz2
              subst hz2
              rw [(fitJ_st sh' D (j + 1)).1, c0] at rsv2
              refine ⟨_, rfl, _, _, _, _, rfl, rfl, SqL.of hx2, atI_nat (j := 2) rfl, neD_if (v := .int 0) (w := .int 0) rsv2 rfl rfl rfl ?_⟩
              rw [if_pos rfl]
              exact ⟨_, rfl, X6, hxs6, hes6⟩
          · rw [if_neg c0]
            refine ⟨_, rfl, _, _, _, _, rfl, rfl, SqL.of hx1, atI_nat (j := 2) rfl, neD_if (w := .int 0) rsv1 rfl (flat_st SV) rfl ?_⟩
            rw [if_neg c0]
            have ef : fitJ sh' D (j + 1) = fitJ sh' D j := by rw [fitJ_skip sh' D _ c0, fitJ_skip sh' D _ c0]
            rcases SV with c | ⟨t, c | c⟩
            · exact absurd c c0
            · have rs := rsv1
              rw [c] at rs
              obtain ⟨yp, hyv, hyp⟩ := rs
              refine ⟨_, rfl, _, _, _, _, rfl, rfl, SqL.of hx1, atI_nat (j := 2) rfl, _, _, _, _, hyv, rfl, SqT.of hyp, atI_nat (j := 0) rfl, rfl, seT ?_⟩
              have hk := DO.kept i D e hD (by rw [c]; rfl) (List.mem_of_getElem? he)
              obtain ⟨n1, n2⟩ := DO.ne i hil0
              have hdd : DdAt H5 z (fitJ sh' D j) i := by
                obtain ⟨z2, hz2, dd⟩ := X5.D.at_ i _ hget
                rw [hz] at hz2
                have hz2 := Option.some.inj hz2
                subst hz2
                exact dd
              refine ⟨_, rfl, _, rfl, _, rfl, p, a, m, z, fitJ sh' D j, i, e, _, rfl, X5.M, hdd, ⟨ep, rfl, hep⟩, (DO.wok e.1 h7 h10).1, h7, h10, by have := DO.n24; omega, n1, n2, by rw [(fitJ_st sh' D j).1, c]; rfl, by rw [(fitJ_st sh' D j).1]; exact hk, fun H6 s6 => ?_⟩
              refine ⟨true, rfl, iteF ⟨_, rfl, ?_, s6 _ _ hxs5, hes5.mono (EntR.mono (TupK.of_same s6))⟩⟩
              rw [ef]
              exact X5.same s6
            · have rs := rsv1
              rw [c] at rs
              obtain ⟨yp, hyv, hyp⟩ := rs
              refine ⟨_, rfl, _, _, _, _, rfl, rfl, SqL.of hx1, atI_nat (j := 2) rfl, _, _, _, _, hyv, rfl, SqT.of hyp, atI_nat (j := 0) rfl, rfl, seF (by decide +kernel) ?_⟩
              refine ⟨_, rfl, ?_, hxs5, hes5⟩
              rw [ef]
              exact X5
        · rintro σ H5 ⟨y6, rfl, X5, hxs5, hes5⟩
          have et : fitJ sh' D xs.length = fitD sh' D := by rw [← hes5.len]; exact fitJ_all sh' D
          rw [et, nxt] at X5
          exact ⟨_, _, rfl, X5⟩
      · rintro σ H4 ⟨y3, y5, rfl, X⟩
        rw [List.length_map, X0.D.ln, hlen, List.drop_of_length_le (Nat.le_refl _), List.append_nil, List.take_of_length_le (by rw [← hl2]; exact Nat.le_refl _)] at X
        refine ⟨4, rfl, by omega, by omega, ?_⟩
        refine for_range (lo := 0) (n := 4) (fun i σ H5 => ∃ y6, σ = [some (.ref p), some (.ref L), some (.ref sl), y3, y4, y5, y6] ∧ Lx K H H5 p a m L qs (fitUp sh' ds1) sl sh') ⟨none, rfl, X⟩ ?_ ?_
        · rintro i σ H5 hi ⟨y6, rfl, X5⟩
          have i0 : (0 : Int) ≤ 0 + i := by omega
          have i4 : (0 : Int) + i < 4 := by omega
          obtain ⟨W, hW⟩ := DO.wok (7 + (0 + (i : Int))) (by omega) (by omega)
          have sat : atI (Shl sh') (0 + (i : Int)) = some (.int (sh' (7 + (0 + (i : Int))))) := by
            have := Shl_at (sh := sh') (w := 7 + (0 + (i : Int))) (by omega) (by omega)
            rw [show 7 + (0 + (i : Int)) - 7 = 0 + (i : Int) by omega] at this
            exact this
          refine ⟨_, rfl, _, rfl, p, a, m, _, rfl, X5.M, i0, i4, W, fun H6 s6 => ?_⟩
          have X6 := X5.same s6
          rw [hW]
          refine ⟨_, rfl, _, rfl, _, _, _, _, rfl, rfl, SqL.of X6.S, sat, rfl, false, congrArg V.bl (by simp), iteF ?_⟩
          refine ⟨_, rfl, _, rfl, p, a, m, _, rfl, X6.M, i0, i4, W, fun H7 s7 => ?_⟩
          have X7 := X6.same s7
          rw [hW]
          refine ⟨_, rfl, _, rfl, _, _, _, _, rfl, rfl, SqL.of X7.S, sat, rfl, false, congrArg V.bl (by simp), iteF ?_⟩
          exact ⟨_, rfl, X7⟩
        · rintro σ H5 ⟨y6, rfl, X5⟩
          exact hq H5 X5
end
end Dk

set_option Elab.async false
set_option linter.all false
set_option maxRecDepth 100000
set_option maxHeartbeats 4000000
namespace Dk
open PySem PySem.Spec PyProof.Rows L2
open DkM (TV Mem DS Req Ent Deed upC upC_same upC_ne Ad Sc mkA Dec EsOk shUp fitD fitUp isDon beginM nwA)
theorem ite2 {k : Bool} {A S : Prop} (hs : S) (ha : S → k = true → A) : if k = true then A else S := by
  cases k with
  | true => exact iteT (ha hs rfl)
  | false => exact iteF hs
/-- memory, deeds, what is shown -/
structure Wx (K : PySem.W.Frag) (H : Hp) (p : Addr) (a : MA) (m : Mem) (L : Addr) (qs : List (Addr × Addr)) (ds : List Deed) (sl : Addr) (sh : Int → Int) : Prop where
  M : MemA K H p a m
  D : DdsAt H L qs ds
  S : H sl = some (.lst (Shl sh))
  n1 : ∀ y, FM p a y → ¬ FX L qs sl y
  n2 : ¬ FDs L qs sl
section
variable {K : PySem.W.Frag} {H H' : Hp} {p : Addr} {a a' : MA} {m m' : Mem} {L : Addr} {qs : List (Addr × Addr)} {ds : List Deed} {sl : Addr} {sh : Int → Int}
theorem Wx.same (X : Wx K H p a m L qs ds sl sh) (s : Same H H') : Wx K H' p a m L qs ds sl sh := ⟨X.M.same s, X.D.same s, s _ _ X.S, X.n1, X.n2⟩
theorem FX.some (X : Wx K H p a m L qs ds sl sh) {y : Addr} (h : FX L qs sl y) : ∃ o, H y = Option.some o := by
  rcases h with h | h
  · obtain ⟨o, ho, _⟩ := FDs.some X.D h
    exact ⟨o, ho⟩
  · rw [h]; exact ⟨_, X.S⟩
/-- the memory alone changes -/
theorem Wx.mem (X : Wx K H p a m L qs ds sl sh) (M' : MemA K H' p a' m') (s : Stp (FM p a) H (FM p a') H') : Wx K H' p a' m' L qs ds sl sh :=
  ⟨M', X.D.stay (fun y o f h => s.ou y o h fun g => X.n1 y g (.inl f)) s.tu, s.ou _ _ X.S fun g => X.n1 sl g (.inr rfl), s.sep X.n1 (fun y h => FX.some X h), X.n2⟩
/-- one more deed -/
theorem DdsAt.add (D : DdsAt H L qs ds) {q el : Addr} {es : List Ent} {fits : Bool} {xs : List V} (hq : H q = none) (hel : H el = some (.lst xs)) (ha : All2 (EntR H) es xs) (hf : ¬ FDs L qs el) :
    DdsAt (upd (upd H q (.lst [.int (Ad ds.length), .ref el, .int 0, .bl fits])) L (.lst ((qs.map fun x => V.ref x.1) ++ [.ref q]))) L (qs ++ [(q, el)]) (ds ++ [⟨es, .int 0, fits⟩]) ∧
      ∀ y o, H y = some o → y ≠ L → (upd (upd H q (.lst [.int (Ad ds.length), .ref el, .int 0, .bl fits])) L (.lst ((qs.map fun x => V.ref x.1) ++ [.ref q]))) y = some o := by
  have nq : ∀ x o, H x = some o → x ≠ q := fun x o h => ne_of_none h hq
  have keep : ∀ y o, H y = some o → y ≠ L → (upd (upd H q (.lst [.int (Ad ds.length), .ref el, .int 0, .bl fits])) L (.lst ((qs.map fun x => V.ref x.1) ++ [.ref q]))) y = some o := fun y o h n => by rw [upd_ne n, upd_ne (nq y o h)]; exact h
  have qL : q ≠ L := fun e => by rw [e, D.li] at hq; cases hq
  have eL : el ≠ L := fun e => hf (.inl e)
  have tk : TupK H (upd (upd H q (.lst [.int (Ad ds.length), .ref el, .int 0, .bl fits])) L (.lst ((qs.map fun x => V.ref x.1) ++ [.ref q]))) := fun y ys h => keep y _ h (ne_of h D.li (fun e => by cases e))
  have dead : ∀ x ∈ qs, x.1 ≠ q ∧ x.2 ≠ q := fun x hx => by
    obtain ⟨o1, h1, _⟩ := FDs.some D (.inr ⟨x, hx, .inl rfl⟩)
    obtain ⟨o2, h2, _⟩ := FDs.some D (.inr ⟨x, hx, .inr rfl⟩)
    exact ⟨nq _ _ h1, nq _ _ h2⟩
  have dead2 : ∀ x ∈ qs, x.1 ≠ el := fun x hx e => hf (.inr ⟨x, hx, .inl e.symm⟩)
  have elq := nq _ _ hel
  refine ⟨⟨by rw [upd_same, List.map_append]; rfl, by rw [List.length_append, List.length_append, D.ln]; rfl, fun i E hE => ?_, fun i j x y hx hy e => ?_, fun x hx y hy => ?_, fun x hx => ?_⟩, keep⟩
  · by_cases c : i < ds.length
    · rw [List.getElem?_append_left c] at hE
      obtain ⟨x, hx, ⟨sv, h1, h2⟩, ys, h3, h4⟩ := D.at_ i E hE
      have mx := List.mem_of_getElem? hx
      exact ⟨x, by rw [List.getElem?_append_left (by rw [D.ln]; exact c)]; exact hx, ⟨sv, keep _ _ h1 (D.nL x mx).1, RT.mono tk _ _ h2⟩, ys, keep _ _ h3 (D.nL x mx).2, h4.mono (EntR.mono tk)⟩
    · have hi := (List.getElem?_eq_some_iff.mp hE).1
      rw [List.length_append] at hi
      have e : i = ds.length := by simp at hi; omega
      subst e
      rw [List.getElem?_append_right (Nat.le_refl _), Nat.sub_self] at hE
      have hE := (Option.some.inj hE).symm
      subst hE
      exact ⟨(q, el), by rw [List.getElem?_append_right (by rw [D.ln]; exact Nat.le_refl _), D.ln, Nat.sub_self]; rfl, ⟨.int 0, by rw [upd_ne qL, upd_same], rfl⟩, xs, keep _ _ hel eL, ha.mono (EntR.mono tk)⟩
  · have g : ∀ (k : Nat) (z : Addr × Addr), (qs ++ [(q, el)])[k]? = some z → (qs[k]? = some z) ∨ (k = qs.length ∧ z = (q, el)) := fun k z hz => by
      by_cases c : k < qs.length
      · rw [List.getElem?_append_left c] at hz; exact .inl hz
      · have hi := (List.getElem?_eq_some_iff.mp hz).1
        rw [List.length_append] at hi
        have e : k = qs.length := by simp at hi; omega
        subst e
        rw [List.getElem?_append_right (Nat.le_refl _), Nat.sub_self] at hz
        exact .inr ⟨rfl, (Option.some.inj hz).symm⟩
    rcases g i x hx with a1 | ⟨a1, a2⟩
    · rcases g j y hy with b1 | ⟨b1, b2⟩
      · exact D.ij i j x y a1 b1 e
      · rw [b2] at e
        exact absurd e (dead x (List.mem_of_getElem? a1)).1
    · rcases g j y hy with b1 | ⟨b1, b2⟩
      · rw [a2] at e
        exact absurd e.symm (dead y (List.mem_of_getElem? b1)).1
      · rw [a1, b1]
  · rcases List.mem_append.mp hx with hx | hx
    · rcases List.mem_append.mp hy with hy | hy
      · exact D.se x hx y hy
      · rw [List.mem_singleton.mp hy]; exact dead2 x hx
    · rw [List.mem_singleton.mp hx]
      rcases List.mem_append.mp hy with hy | hy
      · exact (dead y hy).2.symm
      · rw [List.mem_singleton.mp hy]; exact elq.symm
  · rcases List.mem_append.mp hx with hx | hx
    · exact D.nL x hx
    · rw [List.mem_singleton.mp hx]; exact ⟨qL, eL⟩
end
theorem sat0 {sh : Int → Int} {i : Int} (h0 : 0 ≤ i) (h4 : i < 4) : atI (Shl sh) i = some (.int (sh (7 + i))) := by
  have := Shl_at (sh := sh) (w := 7 + i) (by omega) (by omega)
  rw [show 7 + i - 7 = i by omega] at this
  exact this
end Dk

set_option Elab.async false
set_option linter.all false
set_option maxRecDepth 100000
set_option maxHeartbeats 4000000
namespace Dk
open PySem PySem.Spec PyProof.Rows L2
open DkM (TV Mem DS Req Ent Deed upC upC_same upC_ne Ad Sc mkA Dec EsOk shUp fitD fitUp isDon beginM nwA)
section
variable {P : Program} {w : World} {K : PySem.W.Frag} {mg : Str → Option Value} {base : Heap}
def spBegin (K : PySem.W.Frag) : Sp := fun vs H Q _ => ∃ (p : Addr) (a : MA) (m : Mem) (t : Int) (L : Addr) (qs : List (Addr × Addr)) (ds : List Deed) (sl : Addr) (sh : Int → Int) (nu pk : Int), vs = [.ref p, .int t, .ref L, .ref sl, .int nu, .int pk] ∧ Wx K H p a m L qs ds sl sh ∧ DkM.Sz m ∧ m.cnt ≤ 50000 ∧
  (∀ c, 4 ≤ c → c ≤ 200 → m.tr c ≠ []) ∧ 0 ≤ t ∧ t < 3 ∧ 0 ≤ nu ∧ 0 ≤ pk ∧ ds.length ≤ 24 ∧
  (∀ i : Nat, i < ds.length → Q (.int (Ad i)) H) ∧
  ∀ es fits th nn H' a' qs', ds.length < 24 → EsOk ds.length es → (fits = true → ∀ e ∈ es, sh e.1 = e.2.1) → Wx K H' p a' (beginM m t ds.length es th nn) L qs' (ds ++ [⟨es, .int 0, fits⟩]) sl sh →
    Stp (fun y => FM p a y ∨ FX L qs sl y) H (fun y => FM p a' y ∨ FX L qs' sl y) H' → Q (.int (Ad ds.length)) H'
/-- what the entries are while they are drawn -/
structure EnI (n : Nat) (sh : Int → Int) (i : Nat) (es : List Ent) (fits : Bool) : Prop where
  le : es.length ≤ i
  up : es.Pairwise (fun a b => a.1 < b.1)
  at_ : ∀ e ∈ es, 7 ≤ e.1 ∧ e.1 < 7 + (i : Int) ∧ e.2.2 = nwA n e.1
  ft : fits = true → ∀ e ∈ es, sh e.1 = e.2.1
theorem EnI.mono {n : Nat} {sh : Int → Int} {i j : Nat} {es : List Ent} {fits : Bool} (h : EnI n sh i es fits) (hj : i ≤ j) : EnI n sh j es fits :=
  ⟨Nat.le_trans h.le hj, h.up, fun e he => by obtain ⟨a, b, c⟩ := h.at_ e he; exact ⟨a, by omega, c⟩, h.ft⟩
theorem EnI.snoc {n : Nat} {sh : Int → Int} {i : Nat} {es : List Ent} {fits f : Bool} (h : EnI n sh i es fits) {w o : Int} (hw : w = 7 + i) (hf : f = true → fits = true ∧ sh w = o) : EnI n sh (i + 1) (es ++ [(w, o, nwA n w)]) f := by
  refine ⟨by rw [List.length_append]; have := h.le; show es.length + 1 ≤ i + 1; omega, ?_, fun e he => ?_, fun hft e he => ?_⟩
  · rw [List.pairwise_append]
    refine ⟨h.up, List.pairwise_singleton _ _, fun a ha b hb => ?_⟩
    rw [List.mem_singleton.mp hb]
    have := (h.at_ a ha).2.1
    show a.1 < w
    omega
  · rcases List.mem_append.mp he with he | he
    · obtain ⟨a, b, c⟩ := h.at_ e he
      exact ⟨a, by omega, c⟩
    · rw [List.mem_singleton.mp he]
      exact ⟨by show 7 ≤ w; omega, by show w < 7 + ((i + 1 : Nat) : Int); omega, rfl⟩
  · obtain ⟨g1, g2⟩ := hf hft
    rcases List.mem_append.mp he with he | he
    · exact h.ft g1 e he
    · rw [List.mem_singleton.mp he]; exact g2
def rqB (n : Nat) : Nat → Req
  | 0 => .flush (Ad n)
  | 1 => .flush (Sc n)
  | _ => .fence
def msB (m : Mem) (t : Int) (n : Nat) : Nat → Mem
  | 0 => m
  | k + 1 => ((msB m t n k).acc t (rqB n k)).2
theorem ok_law_begin (T : Tx w K mg) : Cal P w K mg base 7 (He.ga K "_law_begin") ["_law_memory", "_law_thread", "_law_deeds", "_law_shown_here", "_law_number", "_law_pick"] (spBegin K) := by
  refine mkCal T.F_law_begin sc_law_begin (fun vs H Q E h => ?_) (fun _ _ _ _ _ _ us hl => match us, hl with | [_, _, _, _, _, _], _ => rfl) fun cdv A outer s H vs Q E hr h => ?_
  · obtain ⟨p, a, m, t, L, qs, ds, sl, sh, nu, pk, rfl, _⟩ := h
    rfl
  · obtain ⟨p, a, m, t, L, qs, ds, sl, sh, nu, pk, rfl, X, SZ, hc, ne, t0, t3, nu0, pk0, n24, hq1, hq2⟩ := h
    have nd := sc_law_begin.nd
    refine ⟨_, pss_cons (ps_if (PW.pt (pw_or (PW.pt (pw_and (pt_cmpR op_eq (pe_op op_mod (pv 4) pe_int) pe_int (nomark _)) (pw_and1 (pt_cmpR op_gt (pe_callB call_len_seq (by rfl) T.f_len (by decide +kernel) (pa_cons (pv 2) pa_nil)) pe_int (nomark _))))) (pw_or1 (pt_cmpR op_ge (pe_callB call_len_seq (by rfl) T.f_len (by decide +kernel) (pa_cons (pv 2) pa_nil)) pe_int (nomark _))))) (pss_one (ps_ret (pe_ix ix_list (pe_ix ix_list (pv 2) (pe_op op_mod (pv 5) (pe_callB call_len_seq (by rfl) T.f_len (by decide +kernel) (pa_cons (pv 2) pa_nil))) (fun _ _ => rfl)) pe_int (fun _ _ => rfl)))) pss_nil) (pss_cons (ps_set (i := 6) nd rfl (Or.inl rfl) (pe_op op_add pe_int (pe_op op_mul pe_int (pe_callB call_len_seq (by rfl) T.f_len (by decide +kernel) (pa_cons (pv 2) pa_nil))))) (pss_cons (ps_set (i := 7) nd rfl (Or.inl rfl) (pe_lst pa_nil)) (pss_cons (ps_set (i := 8) nd rfl (Or.inl rfl) pe_bl) (pss_cons (ps_for PassesOwn.never rfl (pi_range1 (by rfl) T.f_range (pa_cons pe_int pa_nil)) (pg_name (i := 9) nd rfl (Or.inl rfl)) (pss_one (ps_if (pt_cmpR op_eq (pe_op op_mod (pe_op op_add (pe_op op_fdiv (pv 5) (pe_op op_add pe_int (pv 9))) (pv 4)) pe_int) pe_int (nomark _)) (pss_cons (ps_set (i := 10) nd rfl (Or.inl rfl) (pe_ix ix_list (pv 3) (pv 9) (fun _ _ => rfl))) (pss_cons (ps_if (PW.pt (pw_and (pt_cmpR op_eq (pe_op op_mod (pe_op op_fdiv (pv 4) pe_int) pe_int) pe_int (nomark _)) (pw_and1 (pt_cmpR op_eq (pe_op op_mod (pv 9) pe_int) (pe_op op_mod (pv 5) pe_int) (nomark _))))) (pss_cons (ps_set (i := 10) nd rfl (Or.inl rfl) (pe_op op_add pe_int (pv 9))) (pss_one (ps_set (i := 8) nd rfl (Or.inl rfl) pe_bl))) pss_nil) (pss_one (ps_expr (pe_bm PySem.F.plainAttrs_list PySem.F.slot_list_append PySem.F.type_list_append mt_append (pv 7) (pa_cons (pe_tup (pa_cons (pe_op op_add pe_int (pv 9)) (pa_cons (pv 10) (pa_cons (pe_op op_add (pe_op op_add pe_int (pe_op op_mul pe_int (pe_callB call_len_seq (by rfl) T.f_len (by decide +kernel) (pa_cons (pv 2) pa_nil)))) (pv 9)) pa_nil)))) pa_nil)))))) pss_nil))) (pss_cons (ps_if (pt_cmpR op_eq (pe_callB call_len_seq (by rfl) T.f_len (by decide +kernel) (pa_cons (pv 7) pa_nil)) pe_int (nomark _)) (pss_one (ps_expr (pe_bm PySem.F.plainAttrs_list PySem.F.slot_list_append PySem.F.type_list_append mt_append (pv 7) (pa_cons (pe_tup (pa_cons (pe_op op_add pe_int (pe_op op_mod (pv 5) pe_int)) (pa_cons (pe_ix ix_list (pv 3) (pe_op op_mod (pv 5) pe_int) (fun _ _ => rfl)) (pa_cons (pe_op op_add (pe_op op_add pe_int (pe_op op_mul pe_int (pe_callB call_len_seq (by rfl) T.f_len (by decide +kernel) (pa_cons (pv 2) pa_nil)))) (pe_op op_mod (pv 5) pe_int)) pa_nil)))) pa_nil)))) pss_nil) (pss_cons (ps_expr (pe_methC (pv 0) T.c_Memory T.m_Memory_access (ok_access T) (hr.mono (by decide)) (pa_cons (pv 1) (pa_cons (pe_tup (pa_cons pe_str (pa_cons (pe_op op_add (pv 6) pe_int) (pa_cons pe_int pa_nil)))) pa_nil)))) (pss_cons (ps_expr (pe_methC (pv 0) T.c_Memory T.m_Memory_access (ok_access T) (hr.mono (by decide)) (pa_cons (pv 1) (pa_cons (pe_tup (pa_cons pe_str (pa_cons (pv 6) (pa_cons (pe_callC (ok_deed_record T) (hr.mono (by decide)) rfl T.g_deed_record (pa_cons (pe_op op_add (pv 6) pe_int) (pa_cons (pv 7) (pa_cons (pv 1) (pa_cons (pe_op op_add (pe_callB call_len_seq (by rfl) T.f_len (by decide +kernel) (pa_cons (pv 2) pa_nil)) pe_int) (pa_cons pe_non pa_nil)))))) pa_nil)))) pa_nil)))) (pss_cons (ps_for PassesOwn.never rfl (pi_list (pe_lst (pa_cons (pe_tup (pa_cons pe_str (pa_cons (pv 6) pa_nil))) (pa_cons (pe_tup (pa_cons pe_str (pa_cons (pe_op op_add (pv 6) pe_int) pa_nil))) (pa_cons (pe_tup (pa_cons pe_str pa_nil)) pa_nil))))) (pg_name (i := 11) nd rfl (Or.inl rfl)) (pss_one (ps_expr (pe_methC (pv 0) T.c_Memory T.m_Memory_access (ok_access T) (hr.mono (by decide)) (pa_cons (pv 1) (pa_cons (pv 11) pa_nil)))))) (pss_cons (ps_expr (pe_bm PySem.F.plainAttrs_list PySem.F.slot_list_append PySem.F.type_list_append mt_append (pv 2) (pa_cons (pe_lst (pa_cons (pv 6) (pa_cons (pv 7) (pa_cons pe_int (pa_cons (pv 8) pa_nil))))) pa_nil))) (pss_one (ps_ret (pv 6)))))))))))), ?_⟩
    have eL : ((qs.map fun x => V.ref x.1).length : Int) = (ds.length : Int) := by rw [List.length_map, X.D.ln]
    have old : 0 < ds.length → ∃ i : Nat, i < ds.length ∧ ∃ sv xs, pk % ((qs.map fun x => V.ref x.1).length : Int) = (i : Int) ∧ ∃ z, (qs.map fun x => V.ref x.1)[i]? = some (.ref z) ∧ H z = some (.lst (.int (Ad i) :: xs)) ∧ sv = z := fun hl => by
      have m0 := Int.emod_nonneg pk (show (ds.length : Int) ≠ 0 by omega)
      have m1 := Int.emod_lt_of_pos pk (show (0 : Int) < ds.length by omega)
      refine ⟨(pk % (ds.length : Int)).toNat, by omega, ?_⟩
      obtain ⟨z, hz, ⟨sv, h1, _⟩, _⟩ := X.D.at_ (pk % (ds.length : Int)).toNat _ (List.getElem?_eq_getElem (by omega))
      exact ⟨z.1, _, by rw [eL]; omega, z.1, by rw [List.getElem?_map, hz]; rfl, h1, rfl⟩
    refine ⟨_, rfl, _, _, rfl, rfl, (by show (0 : Int) < 3; decide), rfl, _, rfl, ?_⟩
    refine ite2 ?_ fun hS hk => ⟨_, rfl, _, _, rfl, .inl (SqL.of X.D.li), _, _, rfl, rfl, _, rfl, ?_⟩
    rotate_left
    · rw [eL]
      by_cases c : 0 < ds.length
      · refine iteT' (decide_eq_true (by omega)) ?_
        obtain ⟨i, hi, _, xs, e1, z, hz, h1, _⟩ := old c
        exact ⟨_, rfl, _, rfl, _, rfl, _, _, rfl, .inl (SqL.of X.D.li), _, _, rfl, rfl, (by rw [eL]; omega), _, _, _, _, rfl, rfl, SqL.of X.D.li, (by rw [e1]; exact atI_nat hz), _, _, _, _, rfl, rfl, SqL.of h1, atI_nat (j := 0) rfl, hq1 i hi⟩
      · exact iteF' (decide_eq_false (by omega)) hS
    refine ⟨_, rfl, _, _, rfl, .inl (SqL.of X.D.li), _, _, rfl, rfl, _, rfl, ?_⟩
    rw [eL]
    by_cases c24 : 24 ≤ ds.length
    · refine iteT' (decide_eq_true (by omega)) ?_
      obtain ⟨i, hi, _, xs, e1, z, hz, h1, _⟩ := old (by omega)
      exact ⟨_, rfl, _, rfl, _, rfl, _, _, rfl, .inl (SqL.of X.D.li), _, _, rfl, rfl, (by rw [eL]; omega), _, _, _, _, rfl, rfl, SqL.of X.D.li, (by rw [e1]; exact atI_nat hz), _, _, _, _, rfl, rfl, SqL.of h1, atI_nat (j := 0) rfl, hq1 i hi⟩
    refine iteF' (decide_eq_false (by omega)) ?_
    have c24 : ds.length < 24 := by omega
    refine ⟨_, rfl, _, _, rfl, .inl (SqL.of X.D.li), _, _, rfl, rfl, .inl ⟨by decide, by decide⟩, _, _, rfl, rfl, ?_⟩
    rw [eL]
    refine ⟨(by show 0 ≤ sizeLine; decide), fun el hel => ?_⟩
    have nF : ∀ y, (FM p a y ∨ FX L qs sl y) → y ≠ el := fun y h e => by
      rcases h with h | h
      · obtain ⟨o, ho, _⟩ := FM.some X.M h
        rw [e, hel] at ho; cases ho
      · obtain ⟨o, ho⟩ := FX.some X h
        rw [e, hel] at ho; cases ho
    refine ⟨4, rfl, by omega, by omega, ?_⟩
    refine for_range (lo := 0) (n := 4) (fun i σ H3 => ∃ y9 y10 es xs fits, σ = [some (.ref p), some (.int t), some (.ref L), some (.ref sl), some (.int nu), some (.int pk), some (.int (Ad ds.length)), some (.ref el), some (.bl fits), y9, y10, none] ∧
      Same H H3 ∧ H3 el = some (.lst xs) ∧ All2 (EntR H3) es xs ∧ EnI ds.length sh i es fits) ⟨none, none, [], [], true, rfl, same_new hel, upd_same, trivial, ⟨Nat.le_refl _, List.Pairwise.nil, fun e h => (by cases h), fun _ e h => (by cases h)⟩⟩ ?_ ?_
    · rintro i σ H3 hi ⟨y9, y10, es, xs, fits, rfl, s3, h3, a3, I3⟩
      have X3 := X.same s3
      have i0 : (0 : Int) ≤ 0 + i := by omega
      have i4 : (0 : Int) + i < 4 := by omega
      have app : ∀ (o : Int) (f : Bool), (f = true → fits = true ∧ sh (7 + (0 + (i : Int))) = o) → ∀ ep, H3 ep = none → ∀ Hn, Hn = upd (upd H3 ep (.tup [.int (7 + (0 + (i : Int))), .int o, .int (70 + 5 * (ds.length : Int) + (0 + (i : Int)))])) el (.lst (xs ++ [.ref ep])) →
          Same H Hn ∧ Hn el = some (.lst (xs ++ [.ref ep])) ∧ All2 (EntR Hn) (es ++ [(7 + (0 + (i : Int)), o, nwA ds.length (7 + (0 + (i : Int))))]) (xs ++ [.ref ep]) ∧ EnI ds.length sh (i + 1) (es ++ [(7 + (0 + (i : Int)), o, nwA ds.length (7 + (0 + (i : Int))))]) f := fun o f hf ep hep Hn e => by
        have s4 : Same H3 (upd H3 ep (.tup [.int (7 + (0 + (i : Int))), .int o, .int (70 + 5 * (ds.length : Int) + (0 + (i : Int)))])) := same_new hep
        have h4 := s4 _ _ h3
        have he4 : (upd H3 ep (.tup [.int (7 + (0 + (i : Int))), .int o, .int (70 + 5 * (ds.length : Int) + (0 + (i : Int)))])) ep = some (.tup [.int (7 + (0 + (i : Int))), .int o, .int (70 + 5 * (ds.length : Int) + (0 + (i : Int)))]) := upd_same
        generalize (upd H3 ep (.tup [.int (7 + (0 + (i : Int))), .int o, .int (70 + 5 * (ds.length : Int) + (0 + (i : Int)))])) = H4 at *
        have t5 : TupK H4 (upd H4 el (.lst (xs ++ [.ref ep]))) := TupK.upd h4 fun ys z => by cases z
        have en : (70 + 5 * (ds.length : Int) + (0 + (i : Int))) = nwA ds.length (7 + (0 + (i : Int))) := by unfold nwA; omega
        rw [en] at he4
        subst e
        refine ⟨fun y u h => ?_, upd_same, (a3.mono (EntR.mono ((TupK.of_same s4).trans t5))).app ⟨⟨ep, rfl, t5 _ _ he4⟩, trivial⟩, I3.snoc (by omega) hf⟩
        rw [upd_ne (ne_of_none h hel)]
        exact s4 _ _ (s3 _ _ h)
      have xl : xs.length < sizeLine := by
        have := a3.len
        have := I3.le
        exact Nat.lt_of_le_of_lt (show xs.length ≤ 100 by omega) (by decide)
      refine ⟨_, rfl, _, rfl, _, _, rfl, rfl, _, _, rfl, rfl, ⟨by omega, by omega⟩, _, rfl, _, _, rfl, rfl, _, _, rfl, rfl, (by show (0 : Int) < 3; decide), rfl, _, rfl, ?_⟩
      refine ite2 ⟨_, _, es, xs, fits, rfl, s3, h3, a3, I3.mono (by omega)⟩ fun _ _ => ?_
      refine ⟨_, rfl, _, rfl, _, _, _, _, rfl, rfl, SqL.of X3.S, sat0 i0 i4, ?_⟩
      refine ⟨_, rfl, _, _, rfl, rfl, ⟨by decide, by decide⟩, _, _, rfl, rfl, (by show (0 : Int) < 5; decide), rfl, _, rfl, ?_⟩
      refine ite2 ?_ fun hS _ => ⟨_, rfl, _, _, rfl, rfl, (by show (0 : Int) < 2; decide), _, rfl, _, _, rfl, rfl, (by show (0 : Int) < 2; decide), rfl, _, rfl, ite2 hS fun _ _ => ?_⟩
      · refine ⟨_, rfl, .inl ⟨rfl, _, SqL.of h3⟩, _, rfl, _, _, rfl, rfl, _, rfl, _, rfl, _, _, rfl, .inl (SqL.of X3.D.li), _, _, rfl, rfl, .inl ⟨by decide, by decide⟩, _, _, rfl, rfl, _, rfl, _, _, rfl, rfl, (by show 3 ≤ sizeLine; decide), fun ep hep => ?_⟩
        rw [eL]
        obtain ⟨g1, g2, g3, g4⟩ := app _ fits (fun hf => ⟨hf, rfl⟩) ep hep _ rfl
        exact ⟨_, xs, _, rfl, rfl, same_new hep _ _ h3, xl, _, _, _, _, fits, rfl, g1, g2, g3, g4⟩
      · refine ⟨_, rfl, _, _, rfl, rfl, ?_⟩
        refine ⟨_, rfl, .inl ⟨rfl, _, SqL.of h3⟩, _, rfl, _, _, rfl, rfl, _, rfl, _, rfl, _, _, rfl, .inl (SqL.of X3.D.li), _, _, rfl, rfl, .inl ⟨by decide, by decide⟩, _, _, rfl, rfl, _, rfl, _, _, rfl, rfl, (by show 3 ≤ sizeLine; decide), fun ep hep => ?_⟩
        rw [eL]
        obtain ⟨g1, g2, g3, g4⟩ := app _ false (fun hf => by cases hf) ep hep _ rfl
        exact ⟨_, xs, _, rfl, rfl, same_new hep _ _ h3, xl, _, _, _, _, false, rfl, g1, g2, g3, g4⟩
    · rintro σ H3 ⟨y9, y10, es, xs, fits, rfl, s3, h3, a3, I3⟩
      have el3 : ((xs.length : Int) = 0) ↔ es = [] := by
        have := a3.len
        cases es with
        | nil => exact ⟨fun _ => rfl, fun _ => by rw [← this]; rfl⟩
        | cons e r => exact ⟨fun z => by rw [← this, List.length_cons] at z; omega, fun z => by cases z⟩
      refine ⟨_, rfl, _, _, rfl, .inl (SqL.of h3), rfl, _, rfl, ?_⟩
      by_cases ce : es = []
      · refine iteT' (decide_eq_true (by rw [el3.mpr ce])) ?_
        subst ce
        have X3 := X.same s3
        have i0 : (0 : Int) ≤ pk % 4 := Int.emod_nonneg pk (by decide)
        have i4 : pk % 4 < 4 := Int.emod_lt_of_pos pk (by decide)
        have xs0 : xs = [] := List.eq_nil_of_length_eq_zero a3.len.symm
        subst xs0
        refine ⟨_, rfl, .inl ⟨rfl, _, SqL.of h3⟩, _, rfl, _, _, rfl, rfl, (by show (0 : Int) < 4; decide), _, _, rfl, rfl, _, rfl, _, rfl, _, _, rfl, rfl, (by show (0 : Int) < 4; decide), _, _, _, _, rfl, rfl, SqL.of X3.S, sat0 i0 i4, _, rfl, _, _, rfl, .inl (SqL.of X3.D.li), _, _, rfl, rfl, .inl ⟨by decide, by decide⟩, _, _, rfl, rfl, _, rfl, _, _, rfl, rfl, (by show (0 : Int) < 4; decide), _, _, rfl, rfl, (by show 3 ≤ sizeLine; decide), fun ep hep => ?_⟩
        rw [eL]
        have en : (70 + 5 * (ds.length : Int) + pk % 4) = nwA ds.length (7 + pk % 4) := by unfold nwA; omega
        refine ⟨_, _, _, rfl, rfl, same_new hep _ _ h3, (by show 0 < sizeLine; decide), ?_⟩
        dsimp only
        rw [en]
        have s4 : Same H3 (upd H3 ep (.tup [.int (7 + pk % 4), .int (sh (7 + pk % 4)), .int (nwA ds.length (7 + pk % 4))])) := same_new hep
        have he4 : (upd H3 ep (.tup [.int (7 + pk % 4), .int (sh (7 + pk % 4)), .int (nwA ds.length (7 + pk % 4))])) ep = some (.tup [.int (7 + pk % 4), .int (sh (7 + pk % 4)), .int (nwA ds.length (7 + pk % 4))]) := upd_same
        have h4 := s4 _ _ h3
        generalize (upd H3 ep (.tup [.int (7 + pk % 4), .int (sh (7 + pk % 4)), .int (nwA ds.length (7 + pk % 4))])) = H4 at *
        have t5 : TupK H4 (upd H4 el (.lst ([] ++ [.ref ep]))) := TupK.upd h4 fun ys z => by cases z
        have sE : Same H (upd H4 el (.lst ([] ++ [.ref ep]))) := fun y u h => by
          rw [upd_ne (ne_of_none h hel)]
          exact s4 _ _ (s3 _ _ h)
        have hE : (upd H4 el (.lst ([] ++ [.ref ep]))) el = some (.lst [.ref ep]) := upd_same
        have aE : All2 (EntR (upd H4 el (.lst ([] ++ [.ref ep])))) [(7 + pk % 4, sh (7 + pk % 4), nwA ds.length (7 + pk % 4))] [.ref ep] := ⟨⟨ep, rfl, t5 _ _ he4⟩, trivial⟩
        have IE : EnI ds.length sh 4 [(7 + pk % 4, sh (7 + pk % 4), nwA ds.length (7 + pk % 4))] fits := ⟨by show 1 ≤ 4; decide, List.pairwise_singleton _ _, fun e he => by rw [List.mem_singleton.mp he]; exact ⟨by show 7 ≤ 7 + pk % 4; omega, by show 7 + pk % 4 < 7 + ((4 : Nat) : Int); omega, rfl⟩, fun _ e he => by rw [List.mem_singleton.mp he]⟩
        generalize (upd H4 el (.lst ([] ++ [.ref ep]))) = H5' at sE hE aE ⊢
        have X3 := X.same sE
        have M3 := X3.M
        have elF : ¬ FM p a el := fun f => nF el (.inl f) rfl
        have e1 : Ad ds.length + 1 = Sc ds.length := by unfold Ad Sc; omega
        have r24 := DkM.sc_rng2 c24
        have EO : EsOk ds.length [(7 + pk % 4, sh (7 + pk % 4), nwA ds.length (7 + pk % 4))] := ⟨(by intro z; cases z), IE.le, IE.up, fun e he => by obtain ⟨g1, g2, g3⟩ := IE.at_ e he; exact ⟨g1, by omega, g3⟩⟩
        have SZ1 := SZ.give (Sc ds.length) (.int 0)
        have ne1 : ∀ c, 4 ≤ c → c ≤ 200 → (m.tick.give (Sc ds.length) (.int 0)).tr c ≠ [] := fun c h0 h1 => by
          show upC m.tr (Sc ds.length) _ c ≠ []
          by_cases z : c = Sc ds.length
          · rw [z, upC_same]; simp
          · rw [upC_ne z]; exact ne c h0 h1
        refine ⟨_, rfl, p, _, _, rfl, M3.ob, mem_no _ _ (by decide +kernel), _, rfl, _, rfl, _, _, rfl, rfl, (by show 3 ≤ sizeLine; decide), fun r1 hr1 => ?_⟩
        refine ⟨p, a, m, t, .write (Sc ds.length) (.int 0), .ref r1, rfl, M3.same (same_new hr1), t0, t3, ⟨r1, .int 0, rfl, by rw [upd_same, ← e1], rfl⟩, ⟨by omega, by omega, ne _ (by omega) (by omega)⟩, Bd.of SZ (by omega), by omega, SZ.c0, fun H4 a4 y4 tp4 M4 S4 _ _ => ?_⟩
        have S34 : Stp (FM p a) H5' (FM p a4) H4 := (Stp.new hr1).trans S4
        have X4 := X3.mem M4 S34
        obtain ⟨h4, elF4⟩ := S34.out hE elF
        have a4' := aE.mono (EntR.mono S34.tu)
        refine ⟨_, rfl, p, _, _, rfl, M4.ob, mem_no _ _ (by decide +kernel), _, rfl, _, rfl, _, rfl, _, _, rfl, rfl, _, rfl, _, rfl, _, rfl, _, _, rfl, .inl (SqL.of X4.D.li), _, _, rfl, rfl, ?_⟩
        refine ⟨Ad ds.length + 1, t, ((qs.map fun x => V.ref x.1).length : Int) + 1, el, [(7 + pk % 4, sh (7 + pk % 4), nwA ds.length (7 + pk % 4))], _, rfl, h4, a4', (by intro z; cases z), EO.up, Nat.le_trans EO.le (by decide), fun H5 x5 s5 rx5 => ⟨(by show 3 ≤ sizeLine; decide), fun r2 hr2 => ?_⟩⟩
        rw [e1] at rx5
        have SZ2 := SZ1.give (Ad ds.length) (.deed (Sc ds.length) [(7 + pk % 4, sh (7 + pk % 4), nwA ds.length (7 + pk % 4))] t (((qs.map fun x => V.ref x.1).length : Int) + 1))
        have ne2 : ∀ c, 4 ≤ c → c ≤ 200 → ((m.tick.give (Sc ds.length) (.int 0)).tick.give (Ad ds.length) (.deed (Sc ds.length) [(7 + pk % 4, sh (7 + pk % 4), nwA ds.length (7 + pk % 4))] t (((qs.map fun x => V.ref x.1).length : Int) + 1))).tr c ≠ [] := fun c h0 h1 => by
          show upC (m.tick.give (Sc ds.length) (.int 0)).tr (Ad ds.length) _ c ≠ []
          by_cases z : c = Ad ds.length
          · rw [z, upC_same]; simp
          · rw [upC_ne z]; exact ne1 c h0 h1
        refine ⟨p, a4, _, t, .write (Ad ds.length) (.deed (Sc ds.length) [(7 + pk % 4, sh (7 + pk % 4), nwA ds.length (7 + pk % 4))] t (((qs.map fun x => V.ref x.1).length : Int) + 1)), .ref r2, rfl, (M4.same s5).same (same_new hr2), t0, t3, ⟨r2, x5, rfl, upd_same, RT.mono (TupK.new hr2) _ _ rx5⟩, ⟨by omega, by omega, ne1 _ (by omega) (by omega)⟩, Bd.of SZ1 (by show m.cnt + 1 ≤ 100000; omega), (by show m.cnt + 1 ≤ 100000; omega), SZ1.c0, fun H6 a6 y6 tp6 M6 S6 _ _ => ?_⟩
        have S46 : Stp (FM p a4) H4 (FM p a6) H6 := ((Stp.of_same s5).trans (Stp.new hr2)).trans S6
        have X6 := X4.mem M6 S46
        obtain ⟨h6, elF6⟩ := S46.out h4 elF4
        have a6' := a4'.mono (EntR.mono S46.tu)
        have S36 := S34.trans S46
        -- the three requests
        refine ⟨_, rfl, (by show 2 ≤ sizeLine; decide), fun q1 hq1' => ⟨_, rfl, _, _, rfl, rfl, (by show 2 ≤ sizeLine; decide), fun q2 hq2' => ⟨(by show 1 ≤ sizeLine; decide), fun q3 hq3' => ⟨(by show 3 ≤ sizeLine; decide), fun lq hlq => ?_⟩⟩⟩⟩
        have s7 : Same H6 (upd (upd (upd (upd H6 q1 (.tup [.str "flush", .int (Ad ds.length)])) q2 (.tup [.str "flush", .int (Ad ds.length + 1)])) q3 (.tup [.str "fence"])) lq (.lst [.ref q1, .ref q2, .ref q3])) := fun y o h => same_new hlq y o (same_new hq3' y o (same_new hq2' y o (same_new hq1' y o h)))
        have b1 : (upd (upd (upd (upd H6 q1 (.tup [.str "flush", .int (Ad ds.length)])) q2 (.tup [.str "flush", .int (Ad ds.length + 1)])) q3 (.tup [.str "fence"])) lq (.lst [.ref q1, .ref q2, .ref q3])) q1 = some (.tup [.str "flush", .int (Ad ds.length)]) := same_new hlq _ _ (same_new hq3' _ _ (same_new hq2' _ _ upd_same))
        have b2 : (upd (upd (upd (upd H6 q1 (.tup [.str "flush", .int (Ad ds.length)])) q2 (.tup [.str "flush", .int (Ad ds.length + 1)])) q3 (.tup [.str "fence"])) lq (.lst [.ref q1, .ref q2, .ref q3])) q2 = some (.tup [.str "flush", .int (Ad ds.length + 1)]) := same_new hlq _ _ (same_new hq3' _ _ upd_same)
        have b3 : (upd (upd (upd (upd H6 q1 (.tup [.str "flush", .int (Ad ds.length)])) q2 (.tup [.str "flush", .int (Ad ds.length + 1)])) q3 (.tup [.str "fence"])) lq (.lst [.ref q1, .ref q2, .ref q3])) q3 = some (.tup [.str "fence"]) := same_new hlq _ _ upd_same
        have bl : (upd (upd (upd (upd H6 q1 (.tup [.str "flush", .int (Ad ds.length)])) q2 (.tup [.str "flush", .int (Ad ds.length + 1)])) q3 (.tup [.str "fence"])) lq (.lst [.ref q1, .ref q2, .ref q3])) lq = some (.lst [.ref q1, .ref q2, .ref q3]) := upd_same
        have lqF : ¬ FM p a6 lq := fun f => by
          obtain ⟨o, ho, _⟩ := FM.some (((M6.same (same_new hq1')).same (same_new hq2')).same (same_new hq3')) f
          rw [hlq] at ho; cases ho
        generalize (upd (upd (upd (upd H6 q1 (.tup [.str "flush", .int (Ad ds.length)])) q2 (.tup [.str "flush", .int (Ad ds.length + 1)])) q3 (.tup [.str "fence"])) lq (.lst [.ref q1, .ref q2, .ref q3])) = H7 at s7 b1 b2 b3 bl
        rw [e1] at b2
        have SZ3 := SZ2.note t (Ad ds.length) (.inr ⟨by omega, by omega⟩) (List.length_pos_iff.mpr (ne2 _ (by omega) (by omega)))
        generalize hm2 : ((m.tick.give (Sc ds.length) (.int 0)).tick.give (Ad ds.length) (.deed (Sc ds.length) [(7 + pk % 4, sh (7 + pk % 4), nwA ds.length (7 + pk % 4))] t (((qs.map fun x => V.ref x.1).length : Int) + 1))) = m2 at *
        have cm2 : m2.cnt = m.cnt + 2 := by rw [← hm2]; show m.cnt + 1 + 1 = _; omega
        have M6 : MemA K H6 p a6 m2 := by rw [← hm2]; exact M6
        refine ⟨lq, rfl, ⟨_, SqL.of bl⟩, for_list (K := K) (xs := [.ref q1, .ref q2, .ref q3]) (fun i σ H8 => ∃ y11 a8, σ = [some (.ref p), some (.int t), some (.ref L), some (.ref sl), some (.int nu), some (.int pk), some (.int (Ad ds.length)), some (.ref el), some (.bl fits), y9, y10, y11] ∧
          MemA K H8 p a8 (msB m2 t ds.length i) ∧ Stp (FM p a6) H7 (FM p a8) H8) ⟨_, a6, rfl, M6.same s7, Stp.refl⟩ (fun i σ H8 _ ⟨_, _, _, _, s8⟩ => SqL.of (s8.ou _ _ bl lqF)) ?_ ?_⟩
        · rintro i x σ H8 hi ⟨y11, a8, rfl, M8, s8⟩
          have step : ∀ (rq : Req) (xq : V), rqB ds.length i = rq → ReqR H8 rq xq → ReqOk (msB m2 t ds.length i) rq → DkM.Sz (msB m2 t ds.length i) → (msB m2 t ds.length i).cnt ≤ 100000 → ∀ (σ1 : List (Option V)) (N : List (Option V) → Hp → Prop), (∀ H9 a9, MemA K H9 p a9 (msB m2 t ds.length (i + 1)) → Stp (FM p a8) H8 (FM p a9) H9 → N σ1 H9) →
              spAccess K [.ref p, .int t, xq] H8 (fun _ H' => N σ1 H') E0 := fun rq xq e1 r1 r2 r3 r4 σ1 N hN => ⟨p, a8, _, t, rq, xq, rfl, M8, t0, t3, r1, r2, Bd.of r3 r4, r4, r3.c0, fun H9 a9 y9 tp9 M9 S9 _ _ => hN H9 a9 (by show MemA K H9 p a9 ((msB m2 t ds.length i).acc t (rqB ds.length i)).2; rw [e1]; exact M9) S9⟩
          have i3 : i < 3 := (List.getElem?_eq_some_iff.mp hi).1
          have all : ∃ q rq, x = .ref q ∧ rqB ds.length i = rq ∧ ReqR H8 rq (.ref q) ∧ ReqOk (msB m2 t ds.length i) rq ∧ DkM.Sz (msB m2 t ds.length i) ∧ (msB m2 t ds.length i).cnt ≤ 100000 := by
            match i, hi, i3 with
            | 0, hi, _ =>
              have hx := (Option.some.inj hi).symm
              exact ⟨q1, _, hx, rfl, ⟨q1, rfl, s8.tu _ _ b1⟩, .inr ⟨by omega, by omega⟩, SZ2, by show m2.cnt ≤ 100000; omega⟩
            | 1, hi, _ =>
              have hx := (Option.some.inj hi).symm
              exact ⟨q2, _, hx, rfl, ⟨q2, rfl, s8.tu _ _ b2⟩, .inr ⟨by omega, by omega⟩, SZ3, by show m2.cnt + 1 ≤ 100000; omega⟩
            | 2, hi, _ =>
              have hx := (Option.some.inj hi).symm
              exact ⟨q3, _, hx, rfl, ⟨q3, rfl, s8.tu _ _ b3⟩, trivial, SZ3.note t (Sc ds.length) (.inr ⟨by omega, by omega⟩) (List.length_pos_iff.mpr (ne2 _ (by omega) (by omega))), by show m2.cnt + 1 + 1 ≤ 100000; omega⟩
          obtain ⟨q, rq, rfl, f1, f2, f3, f4, f5⟩ := all
          refine ⟨_, rfl, p, _, _, rfl, M8.ob, mem_no _ _ (by decide +kernel), _, rfl, _, rfl, step rq _ f1 f2 f3 f4 f5 _ _ fun H9 a9 M9 S9 => ?_⟩
          exact ⟨_, a9, rfl, M9, s8.trans S9⟩
        · rintro σ H8 ⟨y11, a8, rfl, M8, s8⟩
          have s68 : Stp (FM p a6) H6 (FM p a8) H8 := (Stp.of_same s7).trans s8
          have X8 := X6.mem M8 s68
          obtain ⟨h8, elF8⟩ := s68.out h6 elF6
          have a8' := a6'.mono (EntR.mono s68.tu)
          refine ⟨_, rfl, .inl ⟨rfl, _, SqL.of X8.D.li⟩, _, rfl, _, rfl, _, rfl, (by show 4 ≤ sizeLine; decide), fun q hqn => ⟨_, _, _, rfl, rfl, same_new hqn _ _ X8.D.li, ?_, ?_⟩⟩
          · rw [List.length_map, X.D.ln]; exact Nat.lt_of_le_of_lt (show ds.length ≤ 24 by omega) (by decide)
          have elFX : ¬ FDs L qs el := fun f => nF el (.inr (.inl f)) rfl
          obtain ⟨D9, k9⟩ := X8.D.add (q := q) (fits := fits) hqn h8 a8' elFX
          have LL : ∀ y, y = L → FX L qs sl y := fun y e => .inl (.inl e)
          have tk9 : TupK H8 (upd (upd H8 q (.lst [.int (Ad ds.length), .ref el, .int 0, .bl fits])) L (.lst ((qs.map fun x => V.ref x.1) ++ [.ref q]))) := fun y ys h => k9 y _ h (ne_of h X8.D.li (fun e => by cases e))
          have M9 := X8.M.stay (fun y o f h => k9 y o h fun e => X8.n1 y f (LL y e)) tk9
          have slL : sl ≠ L := fun e => X.n2 (.inl e)
          have S9 := k9 _ _ X8.S slL
          have dead9 : ∀ y, (FM p a8 y ∨ FX L qs sl y) → y ≠ q := fun y h e => by
            rcases h with h | h
            · obtain ⟨o, ho, _⟩ := FM.some X8.M h
              rw [e, hqn] at ho; cases ho
            · obtain ⟨o, ho⟩ := FX.some X8 h
              rw [e, hqn] at ho; cases ho
          have fx : ∀ y, FX L (qs ++ [(q, el)]) sl y → FX L qs sl y ∨ y = q ∨ y = el := fun y h => by
            rcases h with (h | ⟨x, hx, h⟩) | h
            · exact .inl (.inl (.inl h))
            · rcases List.mem_append.mp hx with hx | hx
              · exact .inl (.inl (.inr ⟨x, hx, h⟩))
              · rw [List.mem_singleton.mp hx] at h
                exact .inr h
            · exact .inl (.inr h)
          have X9 : Wx K (upd (upd H8 q (.lst [.int (Ad ds.length), .ref el, .int 0, .bl fits])) L (.lst ((qs.map fun x => V.ref x.1) ++ [.ref q]))) p a8 (msB m2 t ds.length 3) L (qs ++ [(q, el)]) (ds ++ [⟨[(7 + pk % 4, sh (7 + pk % 4), nwA ds.length (7 + pk % 4))], .int 0, fits⟩]) sl sh := ⟨M9, D9, S9, fun y f h => by
            rcases fx y h with h | h | h
            · exact X8.n1 y f h
            · exact dead9 y (.inl f) h
            · rw [h] at f; exact elF8 f, fun h => by
            rcases h with h | ⟨x, hx, h⟩
            · exact X.n2 (.inl h)
            · rcases List.mem_append.mp hx with hx | hx
              · exact X.n2 (.inr ⟨x, hx, h⟩)
              · rw [List.mem_singleton.mp hx] at h
                rcases h with h | h
                · exact dead9 sl (.inr (.inr rfl)) h
                · exact nF sl (.inr (.inr rfl)) h⟩
          refine ⟨_, rfl, hq2 [(7 + pk % 4, sh (7 + pk % 4), nwA ds.length (7 + pk % 4))] fits t (((qs.map fun x => V.ref x.1).length : Int) + 1) _ a8 _ c24 EO IE.ft (by rw [← hm2] at X9; exact X9) ?_⟩
          have s38 := (Stp.of_same (F := FM p a) sE).trans (S36.trans s68)
          refine ⟨fun y h => ?_, fun y o h f => ?_, (s38.tu).trans tk9⟩
          · rcases h with h | h
            · rcases s38.nw y h with h | h
              · exact .inl (.inl h)
              · exact .inr h
            · rcases fx y h with h | h | h
              · exact .inl (.inr h)
              · rcases Classical.em (FM p a y) with fm | fm
                · exact .inl (.inl fm)
                · right
                  cases c : H y with
                  | none => rfl
                  | some o =>
                    rw [h] at c fm
                    rw [s38.ou _ _ c fm] at hqn; cases hqn
              · exact .inr (by rw [h]; exact hel)
          · exact k9 _ _ (s38.ou _ _ h fun g => f (.inl g)) fun e => f (.inr (LL y e))
      · refine iteF' (decide_eq_false fun z => ce (el3.mp (by injection z))) ?_
        have X3 := X.same s3
        have M3 := X3.M
        have elF : ¬ FM p a el := fun f => nF el (.inl f) rfl
        have e1 : Ad ds.length + 1 = Sc ds.length := by unfold Ad Sc; omega
        have r24 := DkM.sc_rng2 c24
        have EO : EsOk ds.length es := ⟨ce, I3.le, I3.up, fun e he => by obtain ⟨g1, g2, g3⟩ := I3.at_ e he; exact ⟨g1, by omega, g3⟩⟩
        have SZ1 := SZ.give (Sc ds.length) (.int 0)
        have ne1 : ∀ c, 4 ≤ c → c ≤ 200 → (m.tick.give (Sc ds.length) (.int 0)).tr c ≠ [] := fun c h0 h1 => by
          show upC m.tr (Sc ds.length) _ c ≠ []
          by_cases z : c = Sc ds.length
          · rw [z, upC_same]; simp
          · rw [upC_ne z]; exact ne c h0 h1
        refine ⟨_, rfl, p, _, _, rfl, M3.ob, mem_no _ _ (by decide +kernel), _, rfl, _, rfl, _, _, rfl, rfl, (by show 3 ≤ sizeLine; decide), fun r1 hr1 => ?_⟩
        refine ⟨p, a, m, t, .write (Sc ds.length) (.int 0), .ref r1, rfl, M3.same (same_new hr1), t0, t3, ⟨r1, .int 0, rfl, by rw [upd_same, ← e1], rfl⟩, ⟨by omega, by omega, ne _ (by omega) (by omega)⟩, Bd.of SZ (by omega), by omega, SZ.c0, fun H4 a4 y4 tp4 M4 S4 _ _ => ?_⟩
        have S34 : Stp (FM p a) H3 (FM p a4) H4 := (Stp.new hr1).trans S4
        have X4 := X3.mem M4 S34
        obtain ⟨h4, elF4⟩ := S34.out h3 elF
        have a4' := a3.mono (EntR.mono S34.tu)
        refine ⟨_, rfl, p, _, _, rfl, M4.ob, mem_no _ _ (by decide +kernel), _, rfl, _, rfl, _, rfl, _, _, rfl, rfl, _, rfl, _, rfl, _, rfl, _, _, rfl, .inl (SqL.of X4.D.li), _, _, rfl, rfl, ?_⟩
        refine ⟨Ad ds.length + 1, t, ((qs.map fun x => V.ref x.1).length : Int) + 1, el, es, _, rfl, h4, a4', ce, EO.up, Nat.le_trans EO.le (by decide), fun H5 x5 s5 rx5 => ⟨(by show 3 ≤ sizeLine; decide), fun r2 hr2 => ?_⟩⟩
        rw [e1] at rx5
        have SZ2 := SZ1.give (Ad ds.length) (.deed (Sc ds.length) es t (((qs.map fun x => V.ref x.1).length : Int) + 1))
        have ne2 : ∀ c, 4 ≤ c → c ≤ 200 → ((m.tick.give (Sc ds.length) (.int 0)).tick.give (Ad ds.length) (.deed (Sc ds.length) es t (((qs.map fun x => V.ref x.1).length : Int) + 1))).tr c ≠ [] := fun c h0 h1 => by
          show upC (m.tick.give (Sc ds.length) (.int 0)).tr (Ad ds.length) _ c ≠ []
          by_cases z : c = Ad ds.length
          · rw [z, upC_same]; simp
          · rw [upC_ne z]; exact ne1 c h0 h1
        refine ⟨p, a4, _, t, .write (Ad ds.length) (.deed (Sc ds.length) es t (((qs.map fun x => V.ref x.1).length : Int) + 1)), .ref r2, rfl, (M4.same s5).same (same_new hr2), t0, t3, ⟨r2, x5, rfl, upd_same, RT.mono (TupK.new hr2) _ _ rx5⟩, ⟨by omega, by omega, ne1 _ (by omega) (by omega)⟩, Bd.of SZ1 (by show m.cnt + 1 ≤ 100000; omega), (by show m.cnt + 1 ≤ 100000; omega), SZ1.c0, fun H6 a6 y6 tp6 M6 S6 _ _ => ?_⟩
        have S46 : Stp (FM p a4) H4 (FM p a6) H6 := ((Stp.of_same s5).trans (Stp.new hr2)).trans S6
        have X6 := X4.mem M6 S46
        obtain ⟨h6, elF6⟩ := S46.out h4 elF4
        have a6' := a4'.mono (EntR.mono S46.tu)
        have S36 := S34.trans S46
        -- the three requests
        refine ⟨_, rfl, (by show 2 ≤ sizeLine; decide), fun q1 hq1' => ⟨_, rfl, _, _, rfl, rfl, (by show 2 ≤ sizeLine; decide), fun q2 hq2' => ⟨(by show 1 ≤ sizeLine; decide), fun q3 hq3' => ⟨(by show 3 ≤ sizeLine; decide), fun lq hlq => ?_⟩⟩⟩⟩
        have s7 : Same H6 (upd (upd (upd (upd H6 q1 (.tup [.str "flush", .int (Ad ds.length)])) q2 (.tup [.str "flush", .int (Ad ds.length + 1)])) q3 (.tup [.str "fence"])) lq (.lst [.ref q1, .ref q2, .ref q3])) := fun y o h => same_new hlq y o (same_new hq3' y o (same_new hq2' y o (same_new hq1' y o h)))
        have b1 : (upd (upd (upd (upd H6 q1 (.tup [.str "flush", .int (Ad ds.length)])) q2 (.tup [.str "flush", .int (Ad ds.length + 1)])) q3 (.tup [.str "fence"])) lq (.lst [.ref q1, .ref q2, .ref q3])) q1 = some (.tup [.str "flush", .int (Ad ds.length)]) := same_new hlq _ _ (same_new hq3' _ _ (same_new hq2' _ _ upd_same))
        have b2 : (upd (upd (upd (upd H6 q1 (.tup [.str "flush", .int (Ad ds.length)])) q2 (.tup [.str "flush", .int (Ad ds.length + 1)])) q3 (.tup [.str "fence"])) lq (.lst [.ref q1, .ref q2, .ref q3])) q2 = some (.tup [.str "flush", .int (Ad ds.length + 1)]) := same_new hlq _ _ (same_new hq3' _ _ upd_same)
        have b3 : (upd (upd (upd (upd H6 q1 (.tup [.str "flush", .int (Ad ds.length)])) q2 (.tup [.str "flush", .int (Ad ds.length + 1)])) q3 (.tup [.str "fence"])) lq (.lst [.ref q1, .ref q2, .ref q3])) q3 = some (.tup [.str "fence"]) := same_new hlq _ _ upd_same
        have bl : (upd (upd (upd (upd H6 q1 (.tup [.str "flush", .int (Ad ds.length)])) q2 (.tup [.str "flush", .int (Ad ds.length + 1)])) q3 (.tup [.str "fence"])) lq (.lst [.ref q1, .ref q2, .ref q3])) lq = some (.lst [.ref q1, .ref q2, .ref q3]) := upd_same
        have lqF : ¬ FM p a6 lq := fun f => by
          obtain ⟨o, ho, _⟩ := FM.some (((M6.same (same_new hq1')).same (same_new hq2')).same (same_new hq3')) f
          rw [hlq] at ho; cases ho
        generalize (upd (upd (upd (upd H6 q1 (.tup [.str "flush", .int (Ad ds.length)])) q2 (.tup [.str "flush", .int (Ad ds.length + 1)])) q3 (.tup [.str "fence"])) lq (.lst [.ref q1, .ref q2, .ref q3])) = H7 at s7 b1 b2 b3 bl
        rw [e1] at b2
        have SZ3 := SZ2.note t (Ad ds.length) (.inr ⟨by omega, by omega⟩) (List.length_pos_iff.mpr (ne2 _ (by omega) (by omega)))
        generalize hm2 : ((m.tick.give (Sc ds.length) (.int 0)).tick.give (Ad ds.length) (.deed (Sc ds.length) es t (((qs.map fun x => V.ref x.1).length : Int) + 1))) = m2 at *
        have cm2 : m2.cnt = m.cnt + 2 := by rw [← hm2]; show m.cnt + 1 + 1 = _; omega
        have M6 : MemA K H6 p a6 m2 := by rw [← hm2]; exact M6
        refine ⟨lq, rfl, ⟨_, SqL.of bl⟩, for_list (K := K) (xs := [.ref q1, .ref q2, .ref q3]) (fun i σ H8 => ∃ y11 a8, σ = [some (.ref p), some (.int t), some (.ref L), some (.ref sl), some (.int nu), some (.int pk), some (.int (Ad ds.length)), some (.ref el), some (.bl fits), y9, y10, y11] ∧
          MemA K H8 p a8 (msB m2 t ds.length i) ∧ Stp (FM p a6) H7 (FM p a8) H8) ⟨_, a6, rfl, M6.same s7, Stp.refl⟩ (fun i σ H8 _ ⟨_, _, _, _, s8⟩ => SqL.of (s8.ou _ _ bl lqF)) ?_ ?_⟩
        · rintro i x σ H8 hi ⟨y11, a8, rfl, M8, s8⟩
          have step : ∀ (rq : Req) (xq : V), rqB ds.length i = rq → ReqR H8 rq xq → ReqOk (msB m2 t ds.length i) rq → DkM.Sz (msB m2 t ds.length i) → (msB m2 t ds.length i).cnt ≤ 100000 → ∀ (σ1 : List (Option V)) (N : List (Option V) → Hp → Prop), (∀ H9 a9, MemA K H9 p a9 (msB m2 t ds.length (i + 1)) → Stp (FM p a8) H8 (FM p a9) H9 → N σ1 H9) →
              spAccess K [.ref p, .int t, xq] H8 (fun _ H' => N σ1 H') E0 := fun rq xq e1 r1 r2 r3 r4 σ1 N hN => ⟨p, a8, _, t, rq, xq, rfl, M8, t0, t3, r1, r2, Bd.of r3 r4, r4, r3.c0, fun H9 a9 y9 tp9 M9 S9 _ _ => hN H9 a9 (by show MemA K H9 p a9 ((msB m2 t ds.length i).acc t (rqB ds.length i)).2; rw [e1]; exact M9) S9⟩
          have i3 : i < 3 := (List.getElem?_eq_some_iff.mp hi).1
          have all : ∃ q rq, x = .ref q ∧ rqB ds.length i = rq ∧ ReqR H8 rq (.ref q) ∧ ReqOk (msB m2 t ds.length i) rq ∧ DkM.Sz (msB m2 t ds.length i) ∧ (msB m2 t ds.length i).cnt ≤ 100000 := by
            match i, hi, i3 with
            | 0, hi, _ =>
              have hx := (Option.some.inj hi).symm
              exact ⟨q1, _, hx, rfl, ⟨q1, rfl, s8.tu _ _ b1⟩, .inr ⟨by omega, by omega⟩, SZ2, by show m2.cnt ≤ 100000; omega⟩
            | 1, hi, _ =>
              have hx := (Option.some.inj hi).symm
              exact ⟨q2, _, hx, rfl, ⟨q2, rfl, s8.tu _ _ b2⟩, .inr ⟨by omega, by omega⟩, SZ3, by show m2.cnt + 1 ≤ 100000; omega⟩
            | 2, hi, _ =>
              have hx := (Option.some.inj hi).symm
              exact ⟨q3, _, hx, rfl, ⟨q3, rfl, s8.tu _ _ b3⟩, trivial, SZ3.note t (Sc ds.length) (.inr ⟨by omega, by omega⟩) (List.length_pos_iff.mpr (ne2 _ (by omega) (by omega))), by show m2.cnt + 1 + 1 ≤ 100000; omega⟩
          obtain ⟨q, rq, rfl, f1, f2, f3, f4, f5⟩ := all
          refine ⟨_, rfl, p, _, _, rfl, M8.ob, mem_no _ _ (by decide +kernel), _, rfl, _, rfl, step rq _ f1 f2 f3 f4 f5 _ _ fun H9 a9 M9 S9 => ?_⟩
          exact ⟨_, a9, rfl, M9, s8.trans S9⟩
        · rintro σ H8 ⟨y11, a8, rfl, M8, s8⟩
          have s68 : Stp (FM p a6) H6 (FM p a8) H8 := (Stp.of_same s7).trans s8
          have X8 := X6.mem M8 s68
          obtain ⟨h8, elF8⟩ := s68.out h6 elF6
          have a8' := a6'.mono (EntR.mono s68.tu)
          refine ⟨_, rfl, .inl ⟨rfl, _, SqL.of X8.D.li⟩, _, rfl, _, rfl, _, rfl, (by show 4 ≤ sizeLine; decide), fun q hqn => ⟨_, _, _, rfl, rfl, same_new hqn _ _ X8.D.li, ?_, ?_⟩⟩
          · rw [List.length_map, X.D.ln]; exact Nat.lt_of_le_of_lt (show ds.length ≤ 24 by omega) (by decide)
          have elFX : ¬ FDs L qs el := fun f => nF el (.inr (.inl f)) rfl
          obtain ⟨D9, k9⟩ := X8.D.add (q := q) (fits := fits) hqn h8 a8' elFX
          have LL : ∀ y, y = L → FX L qs sl y := fun y e => .inl (.inl e)
          have tk9 : TupK H8 (upd (upd H8 q (.lst [.int (Ad ds.length), .ref el, .int 0, .bl fits])) L (.lst ((qs.map fun x => V.ref x.1) ++ [.ref q]))) := fun y ys h => k9 y _ h (ne_of h X8.D.li (fun e => by cases e))
          have M9 := X8.M.stay (fun y o f h => k9 y o h fun e => X8.n1 y f (LL y e)) tk9
          have slL : sl ≠ L := fun e => X.n2 (.inl e)
          have S9 := k9 _ _ X8.S slL
          have dead9 : ∀ y, (FM p a8 y ∨ FX L qs sl y) → y ≠ q := fun y h e => by
            rcases h with h | h
            · obtain ⟨o, ho, _⟩ := FM.some X8.M h
              rw [e, hqn] at ho; cases ho
            · obtain ⟨o, ho⟩ := FX.some X8 h
              rw [e, hqn] at ho; cases ho
          have fx : ∀ y, FX L (qs ++ [(q, el)]) sl y → FX L qs sl y ∨ y = q ∨ y = el := fun y h => by
            rcases h with (h | ⟨x, hx, h⟩) | h
            · exact .inl (.inl (.inl h))
            · rcases List.mem_append.mp hx with hx | hx
              · exact .inl (.inl (.inr ⟨x, hx, h⟩))
              · rw [List.mem_singleton.mp hx] at h
                exact .inr h
            · exact .inl (.inr h)
          have X9 : Wx K (upd (upd H8 q (.lst [.int (Ad ds.length), .ref el, .int 0, .bl fits])) L (.lst ((qs.map fun x => V.ref x.1) ++ [.ref q]))) p a8 (msB m2 t ds.length 3) L (qs ++ [(q, el)]) (ds ++ [⟨es, .int 0, fits⟩]) sl sh := ⟨M9, D9, S9, fun y f h => by
            rcases fx y h with h | h | h
            · exact X8.n1 y f h
            · exact dead9 y (.inl f) h
            · rw [h] at f; exact elF8 f, fun h => by
            rcases h with h | ⟨x, hx, h⟩
            · exact X.n2 (.inl h)
            · rcases List.mem_append.mp hx with hx | hx
              · exact X.n2 (.inr ⟨x, hx, h⟩)
              · rw [List.mem_singleton.mp hx] at h
                rcases h with h | h
                · exact dead9 sl (.inr (.inr rfl)) h
                · exact nF sl (.inr (.inr rfl)) h⟩
          refine ⟨_, rfl, hq2 es fits t (((qs.map fun x => V.ref x.1).length : Int) + 1) _ a8 _ c24 EO I3.ft (by rw [← hm2] at X9; exact X9) ?_⟩
          have s38 := (Stp.of_same (F := FM p a) s3).trans (S36.trans s68)
          refine ⟨fun y h => ?_, fun y o h f => ?_, (s38.tu).trans tk9⟩
          · rcases h with h | h
            · rcases s38.nw y h with h | h
              · exact .inl (.inl h)
              · exact .inr h
            · rcases fx y h with h | h | h
              · exact .inl (.inr h)
              · rcases Classical.em (FM p a y) with fm | fm
                · exact .inl (.inl fm)
                · right
                  cases c : H y with
                  | none => rfl
                  | some o =>
                    rw [h] at c fm
                    rw [s38.ou _ _ c fm] at hqn; cases hqn
              · exact .inr (by rw [h]; exact hel)
          · exact k9 _ _ (s38.ou _ _ h fun g => f (.inl g)) fun e => f (.inr (LL y e))
end
end Dk

set_option Elab.async false
set_option linter.all false
set_option maxRecDepth 100000
set_option maxHeartbeats 4000000
namespace Dk
open PySem PySem.Spec PyProof.Rows L2
open DkM (TV Mem DS Req Ent Deed upC upC_same upC_ne Ad Sc mkA Dec EsOk shUp fitD fitUp isDon beginM nwA)
/-! ### all that the law holds -/
structure GS where
  p : Addr
  a : MA
  m : Mem
  L : Addr
  qs : List (Addr × Addr)
  ds : List Deed
  sl : Addr
  sh : Int → Int
  tl : Addr
  sk : Int → Option (Addr × SA)
  stk : Int → List DS
  wl : Addr
  doing : Int → Int
def FSo : Option (Addr × SA) → Addr → Prop
  | none, _ => False
  | some x, y => FS x.1 x.2 y
def skV : Option (Addr × SA) → V
  | none => .non
  | some x => .ref x.1
def L3 (f : Int → V) : List V := [f 0, f 1, f 2]
theorem L3_at {f : Int → V} {t : Int} (h0 : 0 ≤ t) (h3 : t < 3) : atI (L3 f) t = some (f t) := by
  have : t = 0 ∨ t = 1 ∨ t = 2 := by omega
  rcases this with e | e | e <;> subst e <;> rfl
theorem L3_set {f : Int → V} {t : Int} {v : V} (h0 : 0 ≤ t) (h3 : t < 3) : (L3 f).set t.toNat v = L3 (upC f t v) := by
  have : t = 0 ∨ t = 1 ∨ t = 2 := by omega
  rcases this with e | e | e <;> subst e <;> rfl
structure Gx (K : PySem.W.Frag) (H : Hp) (g : GS) : Prop where
  X : Wx K H g.p g.a g.m g.L g.qs g.ds g.sl g.sh
  T : H g.tl = some (.lst (L3 fun t => skV (g.sk t)))
  S0 : ∀ t, 0 ≤ t → t < 3 → g.sk t = none → g.stk t = []
  S1 : ∀ t x, 0 ≤ t → t < 3 → g.sk t = some x → StkA K H x.1 x.2 (g.stk t)
  Dl : H g.wl = some (.lst (L3 fun t => .int (g.doing t)))
  ss : ∀ t u, 0 ≤ t → t < 3 → 0 ≤ u → u < 3 → t ≠ u → Sep (FSo (g.sk t)) (FSo (g.sk u))
  sm : ∀ t, 0 ≤ t → t < 3 → Sep (FSo (g.sk t)) (FM g.p g.a)
  sx : ∀ t, 0 ≤ t → t < 3 → Sep (FSo (g.sk t)) (FX g.L g.qs g.sl)
  st : ∀ t, 0 ≤ t → t < 3 → ¬ FSo (g.sk t) g.tl
  sw : ∀ t, 0 ≤ t → t < 3 → ¬ FSo (g.sk t) g.wl
  tm : ¬ FM g.p g.a g.tl
  tx : ¬ FX g.L g.qs g.sl g.tl
  wm : ¬ FM g.p g.a g.wl
  wx : ¬ FX g.L g.qs g.sl g.wl
  tw : g.tl ≠ g.wl
def FG (g : GS) (y : Addr) : Prop := FM g.p g.a y ∨ FX g.L g.qs g.sl y ∨ y = g.tl ∨ y = g.wl ∨ ∃ t, 0 ≤ t ∧ t < 3 ∧ FSo (g.sk t) y
section
variable {K : PySem.W.Frag} {H H' : Hp} {g : GS}
theorem FSo.some (G : Gx K H g) {t : Int} (h0 : 0 ≤ t) (h3 : t < 3) {y : Addr} (h : FSo (g.sk t) y) : ∃ o, H y = Option.some o := by
  cases e : g.sk t with
  | none =>
    rw [e] at h
    exact h.elim
  | some x =>
    rw [e] at h
    obtain ⟨o, ho, _⟩ := FS.some (G.S1 t x h0 h3 e) h
    exact ⟨o, ho⟩
theorem FG.some (G : Gx K H g) {y : Addr} (h : FG g y) : ∃ o, H y = Option.some o := by
  rcases h with h | h | h | h | ⟨t, h0, h3, h⟩
  · obtain ⟨o, ho, _⟩ := FM.some G.X.M h
    exact ⟨o, ho⟩
  · exact FX.some G.X h
  · rw [h]; exact ⟨_, G.T⟩
  · rw [h]; exact ⟨_, G.Dl⟩
  · exact FSo.some G h0 h3 h
theorem Gx.same (G : Gx K H g) (s : Same H H') : Gx K H' g := { G with X := G.X.same s, T := s _ _ G.T, S1 := fun t x h0 h3 e => (G.S1 t x h0 h3 e).same s, Dl := s _ _ G.Dl }
/-- memory, deeds, what is shown: changed together -/
theorem Gx.setX (G : Gx K H g) {a' : MA} {m' : Mem} {qs' : List (Addr × Addr)} {ds' : List Deed} {sh' : Int → Int} (X' : Wx K H' g.p a' m' g.L qs' ds' g.sl sh') (s : Stp (fun y => FM g.p g.a y ∨ FX g.L g.qs g.sl y) H (fun y => FM g.p a' y ∨ FX g.L qs' g.sl y) H') :
    Gx K H' { g with a := a', m := m', qs := qs', ds := ds', sh := sh' } ∧ Stp (FG g) H (FG { g with a := a', m := m', qs := qs', ds := ds', sh := sh' }) H' := by
  have out : ∀ y o, H y = some o → ¬ FM g.p g.a y → ¬ FX g.L g.qs g.sl y → H' y = some o ∧ ¬ FM g.p a' y ∧ ¬ FX g.L qs' g.sl y := fun y o h n1 n2 => by
    obtain ⟨h1, h2⟩ := s.out h fun z => z.elim n1 n2
    exact ⟨h1, fun z => h2 (.inl z), fun z => h2 (.inr z)⟩
  have sO : ∀ t, 0 ≤ t → t < 3 → ∀ y, FSo (g.sk t) y → ∀ o, H y = some o → H' y = some o ∧ ¬ FM g.p a' y ∧ ¬ FX g.L qs' g.sl y := fun t h0 h3 y f o h => out y o h (G.sm t h0 h3 y f) (G.sx t h0 h3 y f)
  have sA : ∀ t, 0 ≤ t → t < 3 → ∀ y, FSo (g.sk t) y → ¬ FM g.p a' y ∧ ¬ FX g.L qs' g.sl y := fun t h0 h3 y f => by
    obtain ⟨o, ho⟩ := FSo.some G h0 h3 f
    exact (sO t h0 h3 y f o ho).2
  obtain ⟨t1, t2, t3⟩ := out _ _ G.T G.tm G.tx
  obtain ⟨w1, w2, w3⟩ := out _ _ G.Dl G.wm G.wx
  refine ⟨⟨X', t1, G.S0, fun t x h0 h3 e => (G.S1 t x h0 h3 e).stay (fun y o f h => (sO t h0 h3 y (by rw [e]; exact f) o h).1) s.tu, w1, G.ss, fun t h0 h3 y f => (sA t h0 h3 y f).1, fun t h0 h3 y f => (sA t h0 h3 y f).2, G.st, G.sw, t2, t3, w2, w3, G.tw⟩, fun y h => ?_, fun y o h f => (out y o h (fun z => f (.inl z)) fun z => f (.inr (.inl z))).1, s.tu⟩
  rcases h with h | h | h | h | h
  · rcases s.nw y (.inl h) with z | z
    · exact z.elim (fun z => .inl (.inl z)) fun z => .inl (.inr (.inl z))
    · exact .inr z
  · rcases s.nw y (.inr h) with z | z
    · exact z.elim (fun z => .inl (.inl z)) fun z => .inl (.inr (.inl z))
    · exact .inr z
  · exact .inl (.inr (.inr (.inl h)))
  · exact .inl (.inr (.inr (.inr (.inl h))))
  · exact .inl (.inr (.inr (.inr (.inr h))))
/-- the memory alone -/
theorem Gx.setM (G : Gx K H g) {a' : MA} {m' : Mem} (M' : MemA K H' g.p a' m') (s : Stp (FM g.p g.a) H (FM g.p a') H') : Gx K H' { g with a := a', m := m' } ∧ Stp (FG g) H (FG { g with a := a', m := m' }) H' :=
  G.setX (qs' := g.qs) (ds' := g.ds) (sh' := g.sh) (G.X.mem M' s) (s.frame _)
/-- a stack steps -/
theorem Gx.setS (G : Gx K H g) {t : Int} {x : Addr × SA} {b : SA} {a' : MA} {m' : Mem} {l : List DS} (h0 : 0 ≤ t) (h3 : t < 3) (e : g.sk t = some x) (S' : StkA K H' x.1 b l) (M' : MemA K H' g.p a' m') (sep : Sep (FS x.1 b) (FM g.p a'))
    (s : Stp (fun y => FS x.1 x.2 y ∨ FM g.p g.a y) H (fun y => FS x.1 b y ∨ FM g.p a' y) H') :
    Gx K H' { g with a := a', m := m', sk := upC g.sk t (some (x.1, b)), stk := upC g.stk t l } ∧ Stp (FG g) H (FG { g with a := a', m := m', sk := upC g.sk t (some (x.1, b)), stk := upC g.stk t l }) H' := by
  have ft : ∀ y, FS x.1 x.2 y → FSo (g.sk t) y := fun y f => by rw [e]; exact f
  have out : ∀ y o, H y = some o → ¬ FSo (g.sk t) y → ¬ FM g.p g.a y → H' y = some o ∧ ¬ FS x.1 b y ∧ ¬ FM g.p a' y := fun y o h n1 n2 => by
    obtain ⟨h1, h2⟩ := s.out h fun z => z.elim (fun z => n1 (ft y z)) n2
    exact ⟨h1, fun z => h2 (.inl z), fun z => h2 (.inr z)⟩
  obtain ⟨t1, t2, t3⟩ := out _ _ G.T (G.st t h0 h3) G.tm
  obtain ⟨w1, w2, w3⟩ := out _ _ G.Dl (G.sw t h0 h3) G.wm
  have fxo : ∀ y o, FX g.L g.qs g.sl y → H y = some o → H' y = some o ∧ ¬ FS x.1 b y ∧ ¬ FM g.p a' y := fun y o f h => out y o h (fun z => G.sx t h0 h3 y z f) fun z => G.X.n1 y z f
  have fxa : ∀ y, FX g.L g.qs g.sl y → ¬ FS x.1 b y ∧ ¬ FM g.p a' y := fun y f => by
    obtain ⟨o, ho⟩ := FX.some G.X f
    exact (fxo y o f ho).2
  have sO : ∀ u, 0 ≤ u → u < 3 → u ≠ t → ∀ y o, FSo (g.sk u) y → H y = some o → H' y = some o ∧ ¬ FS x.1 b y ∧ ¬ FM g.p a' y := fun u u0 u3 n y o f h => out y o h (fun z => G.ss u t u0 u3 h0 h3 n y f z) (G.sm u u0 u3 y f)
  have sA : ∀ u, 0 ≤ u → u < 3 → u ≠ t → ∀ y, FSo (g.sk u) y → ¬ FS x.1 b y ∧ ¬ FM g.p a' y := fun u u0 u3 n y f => by
    obtain ⟨o, ho⟩ := FSo.some G u0 u3 f
    exact (sO u u0 u3 n y o f ho).2
  have hv : (fun u => skV (upC g.sk t (some (x.1, b)) u)) = fun u => skV (g.sk u) := by
    funext u
    by_cases c : u = t
    · rw [c, upC_same, e]; rfl
    · rw [upC_ne c]
  refine ⟨⟨⟨M', G.X.D.stay (fun y o f h => (fxo y o (.inl f) h).1) s.tu, (fxo _ _ (.inr rfl) G.X.S).1, fun y f h => (fxa y h).2 f, G.X.n2⟩, ?_, fun u u0 u3 h => ?_, fun u z u0 u3 h => ?_, w1, fun u v u0 u3 v0 v3 n y f => ?_, fun u u0 u3 y f => ?_, fun u u0 u3 y f => ?_, fun u u0 u3 f => ?_, fun u u0 u3 f => ?_, t3, G.tx, w3, G.wx, G.tw⟩, fun y f => ?_, fun y o h f => (out y o h (fun z => f (.inr (.inr (.inr (.inr ⟨t, h0, h3, z⟩))))) fun z => f (.inl z)).1, s.tu⟩
  · show H' g.tl = some (.lst (L3 fun u => skV (upC g.sk t (some (x.1, b)) u)))
    rw [hv]; exact t1
  · have h : upC g.sk t (some (x.1, b)) u = none := h
    by_cases c : u = t
    · rw [c, upC_same] at h; cases h
    · rw [upC_ne c] at h
      show upC g.stk t l u = []
      rw [upC_ne c]; exact G.S0 u u0 u3 h
  · have h : upC g.sk t (some (x.1, b)) u = some z := h
    show StkA K H' z.1 z.2 (upC g.stk t l u)
    by_cases c : u = t
    · rw [c, upC_same] at h
      have h := Option.some.inj h
      subst h
      rw [c, upC_same]; exact S'
    · rw [upC_ne c] at h
      rw [upC_ne c]
      exact (G.S1 u z u0 u3 h).stay (fun y o f hy => (sO u u0 u3 c y o (by rw [h]; exact f) hy).1) s.tu
  · have f : FSo (upC g.sk t (some (x.1, b)) u) y := f
    show ¬ FSo (upC g.sk t (some (x.1, b)) v) y
    by_cases c : u = t
    · rw [c, upC_same] at f
      rw [upC_ne fun z => n (by rw [c, z])]
      exact fun z => (sA v v0 v3 (fun z => n (by rw [c, z])) y z).1 f
    · rw [upC_ne c] at f
      by_cases d : v = t
      · rw [d, upC_same]
        exact (sA u u0 u3 c y f).1
      · rw [upC_ne d]; exact G.ss u v u0 u3 v0 v3 n y f
  · have f : FSo (upC g.sk t (some (x.1, b)) u) y := f
    by_cases c : u = t
    · rw [c, upC_same] at f; exact sep y f
    · rw [upC_ne c] at f; exact (sA u u0 u3 c y f).2
  · have f : FSo (upC g.sk t (some (x.1, b)) u) y := f
    by_cases c : u = t
    · rw [c, upC_same] at f
      exact fun z => (fxa y z).1 f
    · rw [upC_ne c] at f; exact G.sx u u0 u3 y f
  · have f : FSo (upC g.sk t (some (x.1, b)) u) g.tl := f
    by_cases c : u = t
    · rw [c, upC_same] at f; exact t2 f
    · rw [upC_ne c] at f; exact G.st u u0 u3 f
  · have f : FSo (upC g.sk t (some (x.1, b)) u) g.wl := f
    by_cases c : u = t
    · rw [c, upC_same] at f; exact w2 f
    · rw [upC_ne c] at f; exact G.sw u u0 u3 f
  · have old : ∀ y, FS x.1 b y ∨ FM g.p a' y → FG g y ∨ H y = none := fun y f => by
      rcases s.nw y f with z | z
      · exact .inl (z.elim (fun z => .inr (.inr (.inr (.inr ⟨t, h0, h3, ft y z⟩)))) .inl)
      · exact .inr z
    rcases f with f | f | f | f | ⟨u, u0, u3, f⟩
    · exact old y (.inr f)
    · exact .inl (.inr (.inl f))
    · exact .inl (.inr (.inr (.inl f)))
    · exact .inl (.inr (.inr (.inr (.inl f))))
    · have f : FSo (upC g.sk t (some (x.1, b)) u) y := f
      by_cases c : u = t
      · rw [c, upC_same] at f; exact old y (.inl f)
      · rw [upC_ne c] at f; exact .inl (.inr (.inr (.inr (.inr ⟨u, u0, u3, f⟩))))
/-- a thread's entry of the stacks is put: none, or a new stack -/
theorem Gx.putT (G : Gx K H g) {t : Int} {z : Option (Addr × SA)} {l : List DS} (h0 : 0 ≤ t) (h3 : t < 3) (hz0 : z = none → l = []) (hz1 : ∀ x, z = some x → StkA K H x.1 x.2 l) (hn : ∀ y, FSo z y → ¬ FG g y) :
    Gx K (upd H g.tl (.lst (L3 fun u => skV (upC g.sk t z u)))) { g with sk := upC g.sk t z, stk := upC g.stk t l } ∧ Stp (fun y => FG g y ∨ FSo z y) H (FG { g with sk := upC g.sk t z, stk := upC g.stk t l }) (upd H g.tl (.lst (L3 fun u => skV (upC g.sk t z u)))) := by
  have tk : TupK H (upd H g.tl (.lst (L3 fun u => skV (upC g.sk t z u)))) := TupK.upd G.T fun ys e => by cases e
  have keep : ∀ y o, H y = some o → y ≠ g.tl → (upd H g.tl (.lst (L3 fun u => skV (upC g.sk t z u)))) y = some o := fun y o h n => by rw [upd_ne n]; exact h
  have ztl : ¬ FSo z g.tl := fun f => hn _ f (.inr (.inr (.inl rfl)))
  refine ⟨⟨⟨G.X.M.stay (fun y o f h => keep y o h fun e => G.tm (by rw [← e]; exact f)) tk, G.X.D.stay (fun y o f h => keep y o h fun e => G.tx (by rw [← e]; exact .inl f)) tk, keep _ _ G.X.S fun e => G.tx (.inr e.symm), G.X.n1, G.X.n2⟩, upd_same, fun u u0 u3 h => ?_, fun u x u0 u3 h => ?_, keep _ _ G.Dl G.tw.symm, fun u v u0 u3 v0 v3 n y f => ?_, fun u u0 u3 y f => ?_, fun u u0 u3 y f => ?_, fun u u0 u3 f => ?_, fun u u0 u3 f => ?_, G.tm, G.tx, G.wm, G.wx, G.tw⟩, fun y f => ?_, fun y o h f => keep y o h fun e => f (.inl (.inr (.inr (.inl e)))), tk⟩
  · have h : upC g.sk t z u = none := h
    show upC g.stk t l u = []
    by_cases c : u = t
    · rw [c, upC_same] at h
      rw [c, upC_same]; exact hz0 h
    · rw [upC_ne c] at h
      rw [upC_ne c]; exact G.S0 u u0 u3 h
  · have h : upC g.sk t z u = some x := h
    show StkA K _ x.1 x.2 (upC g.stk t l u)
    by_cases c : u = t
    · rw [c, upC_same] at h
      rw [c, upC_same]
      exact (hz1 x h).stay (fun y o f hy => keep y o hy fun e => ztl (by rw [h, ← e]; exact f)) tk
    · rw [upC_ne c] at h
      rw [upC_ne c]
      exact (G.S1 u x u0 u3 h).stay (fun y o f hy => keep y o hy fun e => G.st u u0 u3 (by rw [h, ← e]; exact f)) tk
  · have f : FSo (upC g.sk t z u) y := f
    show ¬ FSo (upC g.sk t z v) y
    by_cases c : u = t
    · rw [c, upC_same] at f
      rw [upC_ne fun e => n (by rw [c, e])]
      exact fun q => hn y f (.inr (.inr (.inr (.inr ⟨v, v0, v3, q⟩))))
    · rw [upC_ne c] at f
      by_cases d : v = t
      · rw [d, upC_same]
        exact fun q => hn y q (.inr (.inr (.inr (.inr ⟨u, u0, u3, f⟩))))
      · rw [upC_ne d]; exact G.ss u v u0 u3 v0 v3 n y f
  · have f : FSo (upC g.sk t z u) y := f
    by_cases c : u = t
    · rw [c, upC_same] at f; exact fun q => hn y f (.inl q)
    · rw [upC_ne c] at f; exact G.sm u u0 u3 y f
  · have f : FSo (upC g.sk t z u) y := f
    by_cases c : u = t
    · rw [c, upC_same] at f; exact fun q => hn y f (.inr (.inl q))
    · rw [upC_ne c] at f; exact G.sx u u0 u3 y f
  · have f : FSo (upC g.sk t z u) g.tl := f
    by_cases c : u = t
    · rw [c, upC_same] at f; exact ztl f
    · rw [upC_ne c] at f; exact G.st u u0 u3 f
  · have f : FSo (upC g.sk t z u) g.wl := f
    by_cases c : u = t
    · rw [c, upC_same] at f; exact hn _ f (.inr (.inr (.inr (.inl rfl))))
    · rw [upC_ne c] at f; exact G.sw u u0 u3 f
  · rcases f with f | f | f | f | ⟨u, u0, u3, f⟩
    · exact .inl (.inl (.inl f))
    · exact .inl (.inl (.inr (.inl f)))
    · exact .inl (.inl (.inr (.inr (.inl f))))
    · exact .inl (.inl (.inr (.inr (.inr (.inl f)))))
    · have f : FSo (upC g.sk t z u) y := f
      by_cases c : u = t
      · rw [c, upC_same] at f; exact .inl (.inr f)
      · rw [upC_ne c] at f; exact .inl (.inl (.inr (.inr (.inr (.inr ⟨u, u0, u3, f⟩)))))
/-- what a thread does is put -/
theorem Gx.putW (G : Gx K H g) (t v : Int) : Gx K (upd H g.wl (.lst (L3 fun u => .int (upC g.doing t v u)))) { g with doing := upC g.doing t v } ∧ Stp (FG g) H (FG { g with doing := upC g.doing t v }) (upd H g.wl (.lst (L3 fun u => .int (upC g.doing t v u)))) := by
  have tk : TupK H (upd H g.wl (.lst (L3 fun u => .int (upC g.doing t v u)))) := TupK.upd G.Dl fun ys e => by cases e
  have keep : ∀ y o, H y = some o → y ≠ g.wl → (upd H g.wl (.lst (L3 fun u => .int (upC g.doing t v u)))) y = some o := fun y o h n => by rw [upd_ne n]; exact h
  refine ⟨{ G with
    X := ⟨G.X.M.stay (fun y o f h => keep y o h fun e => G.wm (by rw [← e]; exact f)) tk, G.X.D.stay (fun y o f h => keep y o h fun e => G.wx (by rw [← e]; exact .inl f)) tk, keep _ _ G.X.S fun e => G.wx (.inr e.symm), G.X.n1, G.X.n2⟩
    T := keep _ _ G.T G.tw
    S1 := fun u x u0 u3 h => (G.S1 u x u0 u3 h).stay (fun y o f hy => keep y o hy fun e => G.sw u u0 u3 (by rw [h, ← e]; exact f)) tk
    Dl := upd_same }, fun y f => .inl f, fun y o h f => keep y o h fun e => f (.inr (.inr (.inr (.inl e)))), tk⟩
end
end Dk

set_option Elab.async false
set_option linter.all false
set_option maxRecDepth 100000
set_option maxHeartbeats 4000000
namespace Dk
open PySem PySem.Spec PyProof.Rows L2
open DkM (TV Mem DS Req Ent Deed upC upC_same upC_ne Ad Sc mkA Dec EsOk shUp fitD fitUp isDon beginM nwA)
def NE (g : GS) : Prop := ∀ t x, 0 ≤ t → t < 3 → g.sk t = some x → g.stk t ≠ []
structure StL (g : GS) (t : Int) (d : DS) (r : List DS) (ds1 : List Deed) (sh' : Int → Int) : Prop where
  ok : StepOk g.m t d r
  bd : Bd g.m
  c1 : g.m.cnt ≤ 100000
  c0 : 0 ≤ g.m.cnt
  cn : (DkM.step1 g.m t d r).1.cnt = g.m.cnt + 1
  dc : DecOk (DkM.step1 g.m t d r).1 g.ds g.sh ds1 sh'
  pa : (DkM.step1 g.m t d r).2.1 = [] → ∃ (i : Nat) (D' : Deed), g.doing t = Ad i ∧ (fitUp sh' ds1)[i]? = some D' ∧ (DkM.step1 g.m t d r).2.2 = D'.st ∧ D'.st ≠ .int 0 ∧ StV D'.st ∧
    (isDon D'.st = true → ∀ e ∈ D'.es, 7 ≤ e.1 ∧ e.1 ≤ 10 ∧ (∀ v ∈ (DkM.step1 g.m t d r).1.tr e.1, flatT v = true) ∧ ∀ v ∈ (DkM.step1 g.m t d r).1.tr e.1, DkM.NB i e v)
theorem upC_upC {α : Type} (f : Int → α) (t : Int) (a b : α) : upC (upC f t a) t b = upC f t b := by
  funext x
  by_cases c : x = t
  · rw [c, upC_same, upC_same]
  · rw [upC_ne c, upC_ne c, upC_ne c]
theorem upC_id {α : Type} (f : Int → α) (t : Int) : upC f t (f t) = f := by
  funext x
  by_cases c : x = t
  · rw [c, upC_same]
  · rw [upC_ne c]
section
variable {P : Program} {w : World} {K : PySem.W.Frag} {mg : Str → Option Value} {base : Heap}
def spLStep (K : PySem.W.Frag) : Sp := fun vs H Q _ => ∃ (g : GS) (t : Int) (d : DS) (r : List DS) (ds1 : List Deed) (sh' : Int → Int), vs = [.ref g.p, .int t, .ref g.tl, .ref g.wl, .ref g.L, .ref g.sl] ∧ Gx K H g ∧ NE g ∧ 0 ≤ t ∧ t < 3 ∧ g.stk t = d :: r ∧ StL g t d r ds1 sh' ∧
  ∀ H' a' sk', Gx K H' { g with a := a', m := (DkM.step1 g.m t d r).1, ds := fitUp sh' ds1, sh := sh', sk := sk', stk := upC g.stk t (DkM.step1 g.m t d r).2.1 } → NE { g with a := a', m := (DkM.step1 g.m t d r).1, ds := fitUp sh' ds1, sh := sh', sk := sk', stk := upC g.stk t (DkM.step1 g.m t d r).2.1 } →
    Stp (FG g) H (FG { g with a := a', m := (DkM.step1 g.m t d r).1, ds := fitUp sh' ds1, sh := sh', sk := sk', stk := upC g.stk t (DkM.step1 g.m t d r).2.1 }) H' → Q (.bl true) H'
theorem ok_law_step (T : Tx w K mg) : Cal P w K mg base 8 (He.ga K "_law_step") ["_law_memory", "_law_thread", "_law_stacks", "_law_doing", "_law_deeds", "_law_shown_here"] (spLStep K) := by
  refine mkCal T.F_law_step sc_law_step (fun vs H Q E h => ?_) (fun _ _ _ _ _ _ us hl => match us, hl with | [_, _, _, _, _, _], _ => rfl) fun cdv A outer s H vs Q E hr h => ?_
  · obtain ⟨g, t, d, r, ds1, sh', rfl, _⟩ := h
    rfl
  · obtain ⟨g, t, d, r, ds1, sh', rfl, G, N, t0, t3, hs, S, hq⟩ := h
    have nd := sc_law_step.nd
    refine ⟨_, pss_cons (ps_set (i := 6) nd rfl (Or.inl rfl) (pe_ix ix_list (pv 2) (pv 1) (fun _ _ => rfl))) (pss_cons (ps_set (i := 7) nd rfl (Or.inl rfl) (pe_fld (pv 0) rfl)) (pss_cons (ps_set (i := 8) nd rfl (Or.inl rfl) (pe_methC (pv 6) T.c_Stack T.m_Stack_step (ok_stack_step T) (hr.mono (by decide)) (pa_cons (pv 0) (pa_cons (pv 1) pa_nil)))) (pss_cons (ps_if (PW.pt (pw_or (pt_cmpR op_ne (pe_fld (pv 0) rfl) (pe_op op_add (pv 7) (pe_callTy call_int1 (by rfl) T.f_int (by decide +kernel) (pa_cons (pv 8) pa_nil))) (nomark _)) (pw_or1 (pt_not (pt_val (pe_callC (ok_law_decided T) (hr.mono (by decide)) rfl T.g_law_decided (pa_cons (pv 0) (pa_cons (pv 4) (pa_cons (pv 5) pa_nil))))))))) (pss_one (ps_ret pe_bl)) pss_nil) (pss_cons (ps_if (pt_val (pe_methC0 (pv 6) T.c_Stack T.m_Stack_ended (ok_ended T) (hr.mono (by decide)))) (pss_cons (ps_for PassesOwn.never rfl (pi_list (pv 4)) (pg_name (i := 9) nd rfl (Or.inl rfl)) (pss_one (ps_if (pt_cmpR op_eq (pe_ix ix_list (pv 9) pe_int (fun _ _ => rfl)) (pe_ix ix_list (pv 3) (pv 1) (fun _ _ => rfl)) (nomark _)) (pss_cons (ps_if (PW.pt (pw_or (pt_cmpR (op_eqD hr.units) (pe_ix ix_list (pv 9) pe_int (fun _ _ => rfl)) pe_int (nomark _)) (pw_or1 (pt_cmpR (op_neD hr.units) (pe_methC0 (pv 6) T.c_Stack T.m_Stack_value (ok_value T) (hr.mono (by decide))) (pe_ix ix_list (pv 9) pe_int (fun _ _ => rfl)) (nomark _))))) (pss_one (ps_ret pe_bl)) pss_nil) (pss_one (ps_if (PW.pt (pw_and (pt_cmpR op_eq (pe_ix ix_tup (pe_ix ix_list (pv 9) pe_int (fun _ _ => rfl)) pe_int (fun _ _ => rfl)) pe_str (nomark _)) (pw_and1 (pt_not (pt_val (pe_callC (ok_law_past T) (hr.mono (by decide)) rfl T.g_law_past (pa_cons (pv 0) (pa_cons (pv 9) pa_nil)))))))) (pss_one (ps_ret pe_bl)) pss_nil))) pss_nil))) (pss_one (ps_asg pe_non (pg_sub (pv 2) (pv 1) set_list)))) pss_nil) (pss_one (ps_ret pe_bl)))))), ?_⟩
    obtain ⟨x, hx⟩ : ∃ x, g.sk t = some x := by
      cases e : g.sk t with
      | none => rw [G.S0 t t0 t3 e] at hs; cases hs
      | some x => exact ⟨x, rfl⟩
    have hv : skV (g.sk t) = .ref x.1 := by rw [hx]; rfl
    have Sx := G.S1 t x t0 t3 hx
    rw [hs] at Sx
    refine ⟨_, rfl, _, rfl, _, _, _, _, rfl, rfl, SqL.of G.T, L3_at t0 t3, ?_⟩
    rw [hv]
    refine ⟨_, rfl, g.p, _, _, _, _, rfl, G.X.M.ob, T.c_Memory, T.n_Memory_count, memF_count _ _, ?_⟩
    refine ⟨_, rfl, x.1, _, _, rfl, Sx.ob, stF_no _ (by decide +kernel), _, rfl, _, rfl, x.1, x.2, g.p, g.a, g.m, t, d, r, rfl, Sx, G.X.M, ?_, t0, t3, S.ok, S.bd, S.c1, S.c0, fun H2 b a2 S2 rv2 M2 sep2 s2 => ?_⟩
    · have := G.sm t t0 t3
      rw [hx] at this
      exact this
    obtain ⟨G2, s2'⟩ := G.setS t0 t3 hx S2 M2 sep2 s2
    refine ⟨_, rfl, g.p, _, _, _, _, rfl, M2.ob, T.c_Memory, T.n_Memory_count, memF_count _ _, _, rfl, _, rfl, .inr ⟨_, rfl, _, _, rfl, rfl, rfl, false, congrArg V.bl ?_, iteF ?_⟩⟩
    · rw [S.cn]; simp
    refine ⟨_, rfl, _, rfl, _, rfl, g.p, a2, _, g.L, g.qs, g.ds, g.sl, g.sh, ds1, sh', rfl, ⟨G2.X.M, G2.X.D, G2.X.S, Stp.refl, G2.X.n1, G2.X.n2⟩, S.dc, fun H3 X3 => ⟨true, rfl, iteF ?_⟩⟩
    obtain ⟨G3, s3⟩ := G2.setX (qs' := g.qs) ⟨X3.M, X3.D, X3.S, X3.n1, X3.n2⟩ (X3.st.frameL _)
    have hx3 : upC g.sk t (some (x.1, b)) t = some (x.1, b) := upC_same
    have S3 : StkA K H3 x.1 b (upC g.stk t (DkM.step1 g.m t d r).2.1 t) := G3.S1 t (x.1, b) t0 t3 hx3
    rw [upC_same] at S3
    have rv3 : (DkM.step1 g.m t d r).2.1 = [] → RT H3 (DkM.step1 g.m t d r).2.2 b.rv := fun z => RT.mono X3.st.tu _ _ (rv2 z)
    have s13 := s2'.trans s3
    refine ⟨_, rfl, x.1, _, _, rfl, S3.ob, stF_no _ (by decide +kernel), x.1, b, _, rfl, S3, _, rfl, ?_⟩
    by_cases ce : (DkM.step1 g.m t d r).2.1 = []
    · refine iteT' (decide_eq_true ce) ?_
      obtain ⟨i, D', hdo, hD', hst, n0, SV, past⟩ := S.pa ce
      have rvD := rv3 ce
      rw [hst] at rvD
      refine ⟨_, rfl, g.L, rfl, ⟨_, SqL.of G3.X.D.li⟩, for_list (K := K) (xs := g.qs.map fun x => V.ref x.1) (fun j σ H4 => ∃ y9, σ = [some (.ref g.p), some (.int t), some (.ref g.tl), some (.ref g.wl), some (.ref g.L), some (.ref g.sl), some (.ref x.1), some (.int g.m.cnt), some (.bl true), y9] ∧ Same H3 H4) ⟨none, rfl, fun _ _ h => h⟩ (fun j σ H4 _ ⟨_, _, s⟩ => SqL.of (s _ _ G3.X.D.li)) ?_ ?_⟩
      · rintro j xe σ H4 hj ⟨y9, rfl, s4⟩
        have G4 := G3.same s4
        have hjl : j < (fitUp sh' ds1).length := by
          have := (List.getElem?_eq_some_iff.mp hj).1
          rw [List.length_map, G3.X.D.ln] at this
          exact this
        obtain ⟨z, hz, dd⟩ := G4.X.D.at_ j _ (List.getElem?_eq_getElem hjl)
        rw [List.getElem?_map, hz] at hj
        have hj : V.ref z.1 = xe := Option.some.inj hj
        subst hj
        obtain ⟨sv, hzx, rsv⟩ := dd.ob
        refine ⟨_, rfl, _, _, _, _, rfl, rfl, SqL.of hzx, atI_nat (j := 0) rfl, _, rfl, _, rfl, _, _, _, _, rfl, rfl, SqL.of G4.Dl, L3_at t0 t3, rfl, _, rfl, ?_⟩
        have hdo' : g.doing t = Ad i := hdo
        by_cases cj : j = i
        · subst cj
          have eD : (fitUp sh' ds1)[j] = D' := by
            have := hD'
            rw [List.getElem?_eq_getElem hjl] at this
            exact Option.some.inj this
          rw [eD] at dd rsv hzx
          refine iteT' (decide_eq_true (by show V.int (Ad j) = V.int (g.doing t); rw [hdo'])) ?_
          have fD := flat_st SV
          refine ⟨_, rfl, _, _, _, _, rfl, rfl, SqL.of hzx, atI_nat (j := 2) rfl, eqD_int0 (w := .int 0) rsv rfl fD rfl ?_⟩
          rw [if_neg n0]
          refine ⟨_, rfl, x.1, _, _, rfl, (S3.same s4).ob, stF_no _ (by decide +kernel), x.1, b, _, rfl, S3.same s4, _, rfl, _, _, _, _, rfl, rfl, SqL.of hzx, atI_nat (j := 2) rfl, neD_if (RT.mono (TupK.of_same s4) _ _ rvD) rsv fD fD ?_⟩
          rw [if_pos rfl]
          have rs := rsv
          rcases SV with c | ⟨tt, c | c⟩
          · exact absurd c n0
          · rw [c] at rs
            obtain ⟨yp, hyv, hyp⟩ := rs
            refine ⟨_, rfl, _, _, _, _, rfl, rfl, SqL.of hzx, atI_nat (j := 2) rfl, _, _, _, _, hyv, rfl, SqT.of hyp, atI_nat (j := 0) rfl, rfl, seT ?_⟩
            refine ⟨_, rfl, _, rfl, g.p, a2, _, z, D', j, rfl, G4.X.M, dd, past (by rw [c]; rfl), fun H5 s5 => ⟨true, rfl, iteF ⟨_, rfl, fun y o h => s5 y o (s4 y o h)⟩⟩⟩
          · rw [c] at rs
            obtain ⟨yp, hyv, hyp⟩ := rs
            refine ⟨_, rfl, _, _, _, _, rfl, rfl, SqL.of hzx, atI_nat (j := 2) rfl, _, _, _, _, hyv, rfl, SqT.of hyp, atI_nat (j := 0) rfl, rfl, seF (by decide +kernel) ?_⟩
            exact ⟨_, rfl, s4⟩
        · refine iteF' (decide_eq_false fun z => ?_) ⟨_, rfl, s4⟩
          have z : V.int (Ad j) = V.int (g.doing t) := z
          rw [hdo'] at z
          injection z with z
          unfold Ad at z
          omega
      · rintro σ H4 ⟨y9, rfl, s4⟩
        have G4 := G3.same s4
        refine ⟨_, rfl, _, rfl, _, _, _, _, rfl, rfl, G4.T, ixN_of t0 (by show t < ((3 : Nat) : Int); omega), ?_⟩
        rw [L3_set t0 t3]
        have ev : upC (fun u => skV (upC g.sk t (some (x.1, b)) u)) t .non = fun u => skV (upC (upC g.sk t (some (x.1, b))) t none u) := by
          funext u
          by_cases c : u = t
          · rw [c, upC_same, upC_same]; rfl
          · rw [upC_ne c, upC_ne (f := upC g.sk t (some (x.1, b))) c]
        obtain ⟨G5, s5⟩ := G4.putT (t := t) (z := none) (l := []) t0 t3 (fun _ => rfl) (fun x h => by cases h) (fun y f => f.elim)
        show Q (.bl true) (upd H4 g.tl (.lst (L3 (upC (fun u => skV (upC g.sk t (some (x.1, b)) u)) t .non))))
        rw [ev]
        have et : upC (upC g.stk t (DkM.step1 g.m t d r).2.1) t [] = upC g.stk t (DkM.step1 g.m t d r).2.1 := by rw [upC_upC, ce]
        have G5 : Gx K (upd H4 g.tl (.lst (L3 fun u => skV (upC (upC g.sk t (some (x.1, b))) t none u)))) { g with a := a2, m := (DkM.step1 g.m t d r).1, ds := fitUp sh' ds1, sh := sh', sk := upC (upC g.sk t (some (x.1, b))) t none, stk := upC (upC g.stk t (DkM.step1 g.m t d r).2.1) t [] } := G5
        rw [et] at G5
        refine hq _ a2 _ G5 (fun u y u0 u3 h => ?_) ?_
        · have h : upC (upC g.sk t (some (x.1, b))) t none u = some y := h
          show upC g.stk t (DkM.step1 g.m t d r).2.1 u ≠ []
          by_cases c : u = t
          · rw [c, upC_same] at h; cases h
          · rw [upC_ne c, upC_ne c] at h
            rw [upC_ne c]; exact N u y u0 u3 h
        · have s6 := (s13.trans (Stp.of_same s4)).trans (s5.sup (F0 := FG _) fun y h => h.elim id False.elim)
          exact ⟨fun y f => s6.nw y f, s6.ou, s6.tu⟩
    · refine iteF' (decide_eq_false ce) ?_
      refine hq _ a2 _ G3 (fun u y u0 u3 h => ?_) s13
      have h : upC g.sk t (some (x.1, b)) u = some y := h
      show upC g.stk t (DkM.step1 g.m t d r).2.1 u ≠ []
      by_cases c : u = t
      · rw [c, upC_same]; exact ce
      · rw [upC_ne c] at h
        rw [upC_ne c]; exact N u y u0 u3 h
end
end Dk

set_option Elab.async false
set_option linter.all false
set_option maxRecDepth 100000
set_option maxHeartbeats 4000000
namespace Dk
open PySem PySem.Spec PyProof.Rows L2
open DkM (TV Mem DS Req Ent Deed upC upC_same upC_ne Ad Sc mkA Dec EsOk shUp fitD fitUp isDon beginM nwA Inv Good StepW MOk)
section
variable {m : Mem} {ds : List Deed} {sh : Int → Int} {dn : Int → List Nat} {stk : Int → List DS} {doing : Int → Int} {t : Int} {i : Nat} {D : Deed} {d : DS} {r : List DS}
theorem inv_stv (I : Inv m ds sh dn) (hD : ds[i]? = some D) : StV D.st := by
  rcases I.st i D hD with h | ⟨u, h, _⟩ | ⟨u, h⟩
  · exact .inl h
  · exact .inr ⟨u, .inl h⟩
  · exact .inr ⟨u, .inr h⟩
theorem inv_i24 (I : Inv m ds sh dn) (hD : ds[i]? = some D) : i < 24 := by
  have := I.n24
  have := (List.getElem?_eq_some_iff.mp hD).1
  omega
theorem inv_wok (I : Inv m ds sh dn) {w : Int} (h7 : 7 ≤ w) (h10 : w ≤ 10) : WOk m w ∧ shM m w = sh w := by
  rcases I.wd w h7 h10 with h | ⟨i, D, e, hD, he, hw, h, hs⟩
  · refine ⟨⟨I.ne w (by omega) (by omega), .inl ⟨_, h⟩⟩, ?_⟩
    unfold shM
    rw [h]
  · have i24 := inv_i24 I hD
    have hl := I.sl i D hD
    refine ⟨⟨I.ne w (by omega) (by omega), .inr ⟨Ad i, Sc i, e.2.1, e.2.2, h, by unfold Sc; omega, by unfold Sc; omega, I.ne _ (by unfold Sc; omega) (by unfold Sc; omega), by rw [hl]; exact inv_stv I hD⟩⟩, ?_⟩
    unfold shM
    rw [h, hs]
    show (if isDon (m.last (Sc i)) then e.2.2 else e.2.1) = DS.shown D.st e
    rw [hl]; rfl
theorem inv_ent (I : Inv m ds sh dn) (hD : ds[i]? = some D) {e : Ent} (he : e ∈ D.es) : 7 ≤ e.1 ∧ e.1 ≤ 10 := by
  obtain ⟨a, b, _⟩ := (I.es i D hD).at_ e he
  exact ⟨a, b⟩
theorem mok_rq (M : MOk m t i D d) : RqOk d := by
  refine ⟨fun h => ?_, fun h => ?_⟩
  · have h1 := M.ix (h.elim .inl fun z => .inr (.inl z))
    have h2 := (M.se (by rcases h with h | h <;> rw [h] <;> intro z <;> cases z)).2
    rw [h2]; exact h1
  · obtain ⟨_, _, k, L⟩ := M.la h
    have h2 := (M.se (by rw [h]; intro z; cases z)).2
    intro z
    have := L.left
    rw [z] at this
    have := congrArg List.length this
    rw [List.length_drop] at this
    unfold DkM.DS.lasts at this
    rw [h2] at this
    simp at this
    have := L.lt
    omega
theorem acc_cnt (m : Mem) (t : Int) (q : Req) : (m.acc t q).2.cnt = m.cnt + 1 := by
  cases q with
  | swap c o n => show (if _ then _ else _ : TV × Mem).2.cnt = _; split <;> rfl
  | dec c d => show (if _ then _ else _ : TV × Mem).2.cnt = _; split <;> rfl
  | _ => rfl
theorem low_help {l : DS} {r' : List DS} (L : DkM.Low m ds t i D (l :: r')) : l.st = .help ∧ l.ix < l.es.length := by
  obtain ⟨h1, j, E, hE, M, _⟩ := L
  refine ⟨h1, ?_⟩
  rw [(M.se (by rw [h1]; intro z; cases z)).2]
  exact M.ix (.inr (.inr h1))
theorem ent_mem (M : MOk m t i D d) (h : d.st = .word ∨ d.st = .swap) : d.ent ∈ D.es := by
  have h1 := M.ix (h.elim .inl fun z => .inr (.inl z))
  have h2 := (M.se (by rcases h with h | h <;> rw [h] <;> intro z <;> cases z)).2
  unfold DkM.DS.ent
  rw [h2, List.getD_eq_getElem?_getD, List.getElem?_eq_getElem h1]
  exact List.getElem_mem _
theorem req_ok (I : Inv m ds sh dn) (hD : ds[i]? = some D) (M : MOk m t i D d) (h1 : d.st ≠ .help) (h2 : d.st ≠ .fin) : ReqOk m d.req := by
  have i24 := inv_i24 I hD
  have rg : 16 ≤ Ad i ∧ Ad i ≤ 63 ∧ 16 ≤ Sc i ∧ Sc i ≤ 63 := by unfold Ad Sc; omega
  have nSc := I.ne (Sc i) (by omega) (by omega)
  have nAd := I.ne (Ad i) (by omega) (by omega)
  have fSc : flatT (m.last (Sc i)) = true := by rw [I.sl i D hD]; exact flat_st (inv_stv I hD)
  have se := M.se
  have a := M.a
  unfold DkM.DS.req
  cases hst : d.st with
  | help => exact absurd hst h1
  | fin => exact absurd hst h2
  | record => show 0 ≤ d.a ∧ d.a < 201 ∧ m.tr d.a ≠ []; rw [a]; exact ⟨by omega, by omega, nAd⟩
  | status => show 0 ≤ d.s ∧ d.s < 201 ∧ m.tr d.s ≠ []; rw [(se (by rw [hst]; intro z; cases z)).1]; exact ⟨by omega, by omega, nSc⟩
  | final => show 0 ≤ d.s ∧ d.s < 201 ∧ m.tr d.s ≠ []; rw [(se (by rw [hst]; intro z; cases z)).1]; exact ⟨by omega, by omega, nSc⟩
  | failed => show 4 ≤ d.s ∧ d.s < 201 ∧ m.tr d.s ≠ [] ∧ flatT (m.last d.s) = true; rw [(se (by rw [hst]; intro z; cases z)).1]; exact ⟨by omega, by omega, nSc, fSc⟩
  | done => show 4 ≤ d.s ∧ d.s < 201 ∧ m.tr d.s ≠ [] ∧ flatT (m.last d.s) = true; rw [(se (by rw [hst]; intro z; cases z)).1]; exact ⟨by omega, by omega, nSc, fSc⟩
  | word =>
    obtain ⟨e7, e10⟩ := inv_ent I hD (ent_mem M (.inl hst))
    exact ⟨by omega, by omega, I.ne _ (by omega) (by omega)⟩
  | swap =>
    obtain ⟨e7, e10⟩ := inv_ent I hD (ent_mem M (.inr hst))
    exact ⟨by omega, by omega, I.ne _ (by omega) (by omega), flat_w (inv_wok I e7 e10).1, rfl⟩
  | last =>
    obtain ⟨_, _, k, L⟩ := M.la hst
    obtain ⟨hs, he⟩ := se (by rw [hst]; intro z; cases z)
    have all : ∀ q ∈ d.lasts D.st, ReqOk m q := fun q hq => by
      unfold DkM.DS.lasts at hq
      rw [he, hs] at hq
      have hq : (q = .flush (Sc i) ∨ q = .fence) ∨ (∃ e, e ∈ D.es ∧ Req.swap e.1 (d.mk1 e) (.int (DS.shown D.st e)) = q) ∨ (∃ e, e ∈ D.es ∧ Req.flush e.1 = q) ∨ q = .fence := by
        simpa [List.mem_append, List.mem_map, or_assoc] using hq
      rcases hq with (rfl | rfl) | ⟨e, hm, rfl⟩ | ⟨e, hm, rfl⟩ | rfl
      · exact .inr ⟨by omega, by omega⟩
      · trivial
      · obtain ⟨e7, e10⟩ := inv_ent I hD hm
        exact ⟨by omega, by omega, I.ne _ (by omega) (by omega), flat_w (inv_wok I e7 e10).1, rfl⟩
      · obtain ⟨e7, e10⟩ := inv_ent I hD hm
        exact .inl ⟨by omega, by omega⟩
      · trivial
    show ReqOk m (d.left.headD .fence)
    cases hl : d.left with
    | nil => trivial
    | cons q ql =>
      apply all
      have := L.left
      rw [hl] at this
      exact List.mem_of_mem_drop (by rw [← this]; exact List.mem_cons_self)
theorem acc_ok (I : Inv m ds sh dn) (hD : ds[i]? = some D) (M : MOk m t i D d) (h2 : d.st ≠ .fin) : AccOk d (m.acc t d.req).1 := by
  have i24 := inv_i24 I hD
  have se := M.se
  have a := M.a
  have SV := inv_stv I hD
  have EO := I.es i D hD
  have hlen : ∀ h : d.st ≠ .record, d.es.length ≤ 100 := fun h => by rw [(se h).2]; exact Nat.le_trans EO.le (by decide)
  unfold DkM.DS.req AccOk
  cases hst : d.st with
  | fin => exact absurd hst h2
  | help => trivial
  | failed => trivial
  | done => trivial
  | last => trivial
  | record =>
    obtain ⟨th, nu, h⟩ := I.rc i D hD
    refine ⟨Sc i, D.es, th, nu, ?_⟩
    show m.last d.a = _
    rw [a]; exact h
  | status =>
    refine ⟨?_, hlen (by rw [hst]; intro z; cases z)⟩
    show m.last d.s = .int 0 ∨ VdOk (m.last d.s)
    rw [(se (by rw [hst]; intro z; cases z)).1, I.sl i D hD]; exact SV
  | final =>
    refine ⟨?_, hlen (by rw [hst]; intro z; cases z)⟩
    show m.last d.s = .int 0 ∨ VdOk (m.last d.s)
    rw [(se (by rw [hst]; intro z; cases z)).1, I.sl i D hD]; exact SV
  | word =>
    refine ⟨(mok_rq M).1 (.inl hst), ?_⟩
    obtain ⟨e7, e10⟩ := inv_ent I hD (ent_mem M (.inl hst))
    show DkM.isMark (m.last d.ent.1) = true ∨ ∃ i, m.last d.ent.1 = .int i
    rcases (inv_wok I e7 e10).1.va with ⟨b, h⟩ | ⟨_, _, _, _, h, _⟩
    · exact .inr ⟨b, h⟩
    · rw [h]; exact .inl rfl
  | swap =>
    show ∃ b, (if m.tick.last d.ent.1 = .int d.ent.2.1 then ((.bl true : TV), m.tick.give d.ent.1 (d.mk1 d.ent)) else (.bl false, m.tick)).1 = .bl b
    by_cases c : m.tick.last d.ent.1 = .int d.ent.2.1
    · rw [if_pos c]; exact ⟨true, rfl⟩
    · rw [if_neg c]; exact ⟨false, rfl⟩
/-- everything that a step of the law wants -/
theorem stl_of {g : GS} {ds1 : List Deed} {sh' : Int → Int} {dn dn' : Int → List Nat} {stk : Int → List DS} {t : Int} {d : DS} {r : List DS} (G : Good g.m g.ds g.sh dn stk g.doing) (S : DkM.Sz g.m) (hc : g.m.cnt ≤ 100000) (h0 : 0 ≤ t) (h3 : t < 3) (hs : stk t = d :: r)
    (W : StepW g.m g.ds g.sh stk g.doing t (DkM.step1 g.m t d r) ds1 sh' dn') (hl : r.length ≤ 1000) : StL g t d r ds1 sh' := by
  have SO := G.so t h0 h3
  rw [hs] at SO
  obtain ⟨n1, n2, i, D, hD, M, L⟩ := SO
  have I := G.inv
  have I' := W.good.inv
  have hlen : (fitUp sh' ds1).length = g.ds.length := by rw [DkM.fitUp_len, DkM.dec_len W.dec]
  have at1 : ∀ (j : Nat) (E : Deed), ds1[j]? = some E → (fitUp sh' ds1)[j]? = some (fitD sh' E) ∧ (fitD sh' E).st = E.st ∧ (fitD sh' E).es = E.es := fun j E hE => ⟨DkM.fitUp_at hE, by unfold fitD; split <;> rfl, by unfold fitD; split <;> rfl⟩
  refine ⟨⟨n1, n2, mok_rq M, req_ok I hD M n1 n2, acc_ok I hD M n2, fun c1 c2 => ?_, fun hf l r' e => ?_, hl⟩, Bd.of S hc, hc, S.c0, acc_cnt _ _ _, ⟨W.dec, I.n24, I.es, fun j E hE => inv_stv I hE, fun j hj => ?_, fun j E e hE hd he => ?_, fun w h7 h10 => inv_wok I' h7 h10⟩, fun he => ?_⟩
  · have S2 := W.good.so t h0 h3
    rw [upC_same] at S2
    have e : (DkM.step1 g.m t d r).2.1 = d.acc (g.m.acc t d.req).1 :: r := by
      show DkM.settle _ _ _ = _
      unfold DkM.settle
      cases hst : (d.acc (g.m.acc t d.req).1).st with
      | help => exact absurd hst c1
      | fin => exact absurd hst c2
      | _ => rfl
    rw [e] at S2
    obtain ⟨_, _, j, E, _, M2, _⟩ := S2
    exact mok_rq M2
  · rw [e] at L
    exact low_help L
  · have hj' : j < (fitUp sh' ds1).length := by omega
    have hE : (fitUp sh' ds1)[j]? = some (fitUp sh' ds1)[j] := List.getElem?_eq_getElem hj'
    have j24 := inv_i24 I' hE
    refine ⟨I'.ne _ (by unfold Sc; omega) (by unfold Sc; omega), ?_⟩
    unfold DkM.Mem.fst
    rcases I'.sv j _ hE with h | ⟨_, h⟩ <;> rw [h]
    · exact flat_st (inv_stv I' hE)
    · rfl
  · obtain ⟨g1, g2, g3⟩ := at1 j E hE
    rcases I'.kept j _ e g1 (by rw [g2]; exact hd) (by rw [g3]; exact he) with h | ⟨h, _⟩
    · exact .inr (by rw [h, g2])
    · exact .inl h
  · obtain ⟨j, D', h1, h2, h3', ⟨p1, p2⟩⟩ := W.past he
    refine ⟨j, D', h1, h2, h3', p1, inv_stv I' h2, fun hd e hm => ?_⟩
    obtain ⟨e7, e10⟩ := inv_ent I' h2 hm
    refine ⟨e7, e10, fun v hv => ?_, p2 hd e hm⟩
    rcases I'.tr e.1 v e7 e10 hv with ⟨b, _, rfl⟩ | ⟨_, _, _, _, _, _, rfl, _⟩ <;> rfl
end
end Dk

set_option Elab.async false
set_option linter.all false
set_option maxRecDepth 100000
set_option maxHeartbeats 4000000
namespace Dk
open PySem PySem.Spec PyProof.Rows L2
open DkM (TV Mem DS Req Ent Deed upC upC_same upC_ne Ad Sc mkA Dec EsOk shUp fitD fitUp isDon beginM nwA Inv Good StepW MOk Al En)
theorem low_all {m : Mem} {ds : List Deed} {t : Int} : ∀ {l : List DS} {i : Nat} {D : Deed}, DkM.Low m ds t i D l → ∀ x ∈ l, x.st = .help
  | [], _, _, _, x, h => by cases h
  | l :: r, _, _, L, x, h => by
    obtain ⟨h1, j, E, _, _, _, L2⟩ := L
    rcases List.mem_cons.mp h with e | e
    · rw [e]; exact h1
    · exact low_all L2 x e
theorem remL_ge (m : Mem) : ∀ (l : List DS), (∀ x ∈ l, x.st = .help) → l.length ≤ DkM.remL m l
  | [], _ => Nat.le_refl _
  | d :: r, h => by
    have h1 := remL_ge m r fun x hx => h x (List.mem_cons_of_mem _ hx)
    have h2 := h d List.mem_cons_self
    show r.length + 1 ≤ DkM.rem m d + DkM.remL m r
    have : 1 ≤ DkM.rem m d := by unfold DkM.rem; rw [h2]; show 1 ≤ 2 * (d.es.length - d.ix) + 2 * d.es.length + 5; omega
    omega
theorem al_len {m : Mem} {ds : List Deed} {sh : Int → Int} {stk : Int → List DS} {doing : Int → Int} {t : Int} {k : Nat} {N : Int} {d : DS} {r : List DS} (A : Al m ds sh stk doing t k N) (h0 : 0 ≤ t) (h3 : t < 3) (hs : stk t = d :: r) : r.length ≤ 1000 := by
  obtain ⟨dn, G⟩ := A.good
  have SO := G.so t h0 h3
  rw [hs] at SO
  rcases A.turn with z | ⟨z, _⟩ | ⟨d', r', nw, o, os, z1, z2, z3, z4, z5⟩
  · have := DkM.dep_len G.inv SO (by rw [← hs]; exact A.dep0 z)
    omega
  · rw [hs] at z; cases z
  · obtain ⟨_, _, i, D, _, _, L⟩ := SO
    have h1 := remL_ge m r (low_all L)
    rw [hs] at z1
    injection z1 with e1 e2
    subst e1 e2
    have e := z2.eq
    have : DkM.remL m (d :: r) ≤ DkM.psi m nw o os := by
      unfold DkM.psi
      rw [← e]
      exact Nat.le_trans (Nat.le_add_right _ _) (Nat.le_add_right _ _)
    have h4 : DkM.remL m (d :: r) = DkM.rem m d + DkM.remL m r := rfl
    omega
section
variable {P : Program} {w : World} {K : PySem.W.Frag} {mg : Str → Option Value} {base : Heap}
/-- the same state but for what steps change -/
def GS.ch (g : GS) (a : MA) (m : Mem) (qs : List (Addr × Addr)) (ds : List Deed) (sh : Int → Int) (sk : Int → Option (Addr × SA)) (stk : Int → List DS) (doing : Int → Int) : GS := { g with a := a, m := m, qs := qs, ds := ds, sh := sh, sk := sk, stk := stk, doing := doing }
def spLEnd (K : PySem.W.Frag) : Sp := fun vs H Q _ => ∃ (g : GS) (t : Int) (N : Int), vs = [.ref g.p, .int t, .ref g.tl, .ref g.wl, .ref g.L, .ref g.sl] ∧ Gx K H g ∧ NE g ∧ 0 ≤ t ∧ t < 3 ∧ N ≤ 50000 ∧ Al g.m g.ds g.sh g.stk g.doing t 0 N ∧
  ∀ H' a m ds sh sk stk, Gx K H' (g.ch a m g.qs ds sh sk stk g.doing) → NE (g.ch a m g.qs ds sh sk stk g.doing) → En m ds sh stk g.doing (N + 900) → stk t = [] → (∀ u, u ≠ t → stk u = g.stk u) → Stp (FG g) H (FG (g.ch a m g.qs ds sh sk stk g.doing)) H' → Q (.bl true) H'
theorem ok_law_end (T : Tx w K mg) : Cal P w K mg base 9 (He.ga K "_law_end") ["_law_memory", "_law_thread", "_law_stacks", "_law_doing", "_law_deeds", "_law_shown_here"] (spLEnd K) := by
  refine mkCal T.F_law_end sc_law_end (fun vs H Q E h => ?_) (fun _ _ _ _ _ _ us hl => match us, hl with | [_, _, _, _, _, _], _ => rfl) fun cdv A outer s H vs Q E hr h => ?_
  · obtain ⟨g, t, N, rfl, _⟩ := h
    rfl
  · obtain ⟨g, t, N, rfl, G, NN, t0, t3, hN, AL, hq⟩ := h
    have nd := sc_law_end.nd
    refine ⟨_, pss_cons (ps_for PassesOwn.never rfl (pi_range1 (by rfl) T.f_range (pa_cons pe_int pa_nil)) (pg_name (i := 6) nd rfl (Or.inl rfl)) (pss_cons (ps_if (pt_cmpR op_isN (pe_ix ix_list (pv 2) (pv 1) (fun _ _ => rfl)) pe_non (nomark _)) (pss_one (ps_ret pe_bl)) pss_nil) (pss_one (ps_if (pt_not (pt_val (pe_callC (ok_law_step T) (hr.mono (by decide)) rfl T.g_law_step (pa_cons (pv 0) (pa_cons (pv 1) (pa_cons (pv 2) (pa_cons (pv 3) (pa_cons (pv 4) (pa_cons (pv 5) pa_nil))))))))) (pss_one (ps_ret pe_bl)) pss_nil)))) (pss_one (ps_ret pe_bl)), ?_⟩
    refine ⟨900, rfl, by omega, by omega, ?_⟩
    refine for_range (lo := 0) (n := 900) (fun i σ H3 => ∃ y6 a m ds sh sk stk, σ = [some (.ref g.p), some (.int t), some (.ref g.tl), some (.ref g.wl), some (.ref g.L), some (.ref g.sl), y6] ∧ Gx K H3 (g.ch a m g.qs ds sh sk stk g.doing) ∧ NE (g.ch a m g.qs ds sh sk stk g.doing) ∧
      Al m ds sh stk g.doing t i N ∧ (∀ u, u ≠ t → stk u = g.stk u) ∧ Stp (FG g) H (FG (g.ch a m g.qs ds sh sk stk g.doing)) H3) ⟨none, g.a, g.m, g.ds, g.sh, g.sk, g.stk, rfl, G, NN, AL, fun _ _ => rfl, Stp.refl⟩ ?_ ?_
    · rintro i σ H3 hi ⟨y6, a, m, ds, sh, sk, stk, rfl, G3, N3, A3, o3, s3⟩
      refine ⟨_, rfl, _, rfl, _, _, _, _, rfl, rfl, SqL.of G3.T, L3_at t0 t3, rfl, _, rfl, ?_⟩
      cases hk : sk t with
      | none =>
        have hv : skV ((g.ch a m g.qs ds sh sk stk g.doing).sk t) = .non := by show skV (sk t) = _; rw [hk]; rfl
        rw [hv]
        refine iteT' rfl ?_
        have he : stk t = [] := G3.S0 t t0 t3 hk
        exact hq H3 a m ds sh sk stk G3 N3 (A3.en (by omega) he) he o3 s3
      | some x =>
        have hv : skV ((g.ch a m g.qs ds sh sk stk g.doing).sk t) = .ref x.1 := by show skV (sk t) = _; rw [hk]; rfl
        rw [hv]
        refine iteF' (by rfl) ?_
        obtain ⟨d, r, hs⟩ : ∃ d r, stk t = d :: r := by
          cases e : stk t with
          | nil => exact absurd e (N3 t x t0 t3 hk)
          | cons d r => exact ⟨d, r, rfl⟩
        obtain ⟨ds1, sh', ⟨dn', W⟩, A4⟩ := A3.step t0 t3 hs
        obtain ⟨dn, GG⟩ := A3.good
        have hc := A3.cnt
        have ST := stl_of (g := g.ch a m g.qs ds sh sk stk g.doing) GG A3.sz (by show m.cnt ≤ 100000; omega) t0 t3 hs W (al_len A3 t0 t3 hs)
        refine ⟨_, rfl, _, rfl, _, rfl, _, rfl, _, rfl, _, rfl, g.ch a m g.qs ds sh sk stk g.doing, t, d, r, ds1, sh', rfl, G3, N3, t0, t3, hs, ST, fun H4 a4 sk4 G4 N4 s4 => ⟨true, rfl, iteF ?_⟩⟩
        exact ⟨_, a4, _, _, _, sk4, _, rfl, G4, N4, A4, fun u hu => by rw [upC_ne hu]; exact o3 u hu, s3.trans s4⟩
    · rintro σ H3 ⟨y6, a, m, ds, sh, sk, stk, rfl, G3, N3, A3, o3, s3⟩
      exact A3.turn.end_.elim
end
end Dk

set_option Elab.async false
set_option linter.all false
set_option maxRecDepth 100000
set_option maxHeartbeats 4000000
/-! sorted of tuples whose first items are different whole numbers: the others are never asked -/
namespace DkS
open PySem PyProof.Rows Srt
def Fst (h : Heap) (v : Value) (x : Int) : Prop := ∃ (a : Addr) (o : Obj) (t : Tok) (y : Value) (n : Nat), v = .ref a ∧ h.get? a = some o ∧ o.cls = .type "tuple" ∧ o.data = .seq #[.int x t, y] n
theorem Fst.keeps {h h' : Heap} {v : Value} {x : Int} (p : Fst h v x) (k : ∀ (b : Addr) (o : Obj), h.get? b = some o → o.cls = .type "tuple" → h'.get? b = some o) : Fst h' v x := by
  obtain ⟨a, o, t, y, n, e, ho, hc, hd⟩ := p
  exact ⟨a, o, t, y, n, e, k _ _ ho hc, hc, hd⟩
theorem fsts {h : Heap} : ∀ {vs : List Value}, (∀ v ∈ vs, ∃ x, Fst h v x) → ∃ fs : List Value, PySem.W.KatTups h vs fs ∧ fs.length = vs.length ∧ ∀ f ∈ fs, ∃ x t, f = Value.int x t
  | [], _ => ⟨[], PySem.W.KatTups.nil, rfl, fun f hm => by cases hm⟩
  | v :: vs, hp => by
    obtain ⟨fs, h1, h2, h3⟩ := fsts (vs := vs) fun u hu => hp u (List.mem_cons_of_mem _ hu)
    obtain ⟨x, a, o, t, y, n, rfl, ho, hc, hd⟩ := hp v List.mem_cons_self
    refine ⟨.int x t :: fs, PySem.W.KatTups.cons ho hc hd rfl h1, by rw [List.length_cons, List.length_cons, h2], fun f hm => ?_⟩
    rcases List.mem_cons.mp hm with e | e
    · exact ⟨x, t, e⟩
    · exact h3 f e
theorem swo {α : Type} (k : α → Int) : SrtO.Swo fun v u => decide (k v < k u) := by
  refine ⟨fun x y h => ?_, fun x y z h1 h2 => ?_⟩
  · have a := of_decide_eq_true h
    exact decide_eq_false (by omega)
  · have a := of_decide_eq_false h1
    have b := of_decide_eq_false h2
    exact decide_eq_false (by omega)
section
variable {prog : Program} {w : World} {A : Around} {s : Shared}
theorem cmp {vs : List Value} {k : Value → Int} (hp : ∀ v ∈ vs, Fst s.heap v (k v)) (hi : ∀ v ∈ vs, ∀ u ∈ vs, k v = k u → v = u) : SrtO.Cmp prog w A s (tuples' true) (fun p => p.1 ∈ vs) (SrtO.lt2 fun v u => decide (k v < k u)) := by
  intro p q hm hm'
  obtain ⟨a, o, t, y, n, e, ho, hc, hd⟩ := hp _ hm
  obtain ⟨a', o', t', y', n', e', ho', hc', hd'⟩ := hp _ hm'
  show wpAny (model prog w) A (keyLt' (tuples' true) p.1 q.1) (fun r s' => s' = s ∧ r = decide (k p.1 < k q.1)) (fun _ _ => False) s
  by_cases c : k p.1 = k q.1
  · have eq := hi _ hm _ hm' c
    rw [decide_eq_false (by omega), ← eq]
    rw [e]
    refine PySem.W.kat_lt ho hd ho hd ?_
    refine PySem.W.kat_cons (SeqAt.EqAt.same _ prog w _ _ (PySem.W.kat_yes (PySem.W.kat_cons (SeqAt.EqAt.same _ prog w _ _ (PySem.W.kat_yes (PySem.W.kat_nil ⟨rfl, ?_⟩))))))
    simp
  · generalize hx : k p.1 = x at *
    generalize hx' : k q.1 = x' at *
    rw [e, e']
    refine PySem.W.kat_lt ho hd ho' hd' ?_
    refine PySem.W.kat_cons (SeqAt.EqAt.int_int x t x' t' prog w _ _ ?_)
    rw [show (x == x') = false by simpa using c]
    exact PySem.W.kat_no (oneLt_int ⟨rfl, rfl⟩)
theorem sortable {a : Addr} {vs : List Value} {k : Value → Int} (h0 : 0 < vs.length) (hp : ∀ v ∈ vs, Fst s.heap v (k v)) (hi : ∀ v ∈ vs, ∀ u ∈ vs, k v = k u → v = u) (ha : ∀ o, s.heap.get? a = some o → o.cls ≠ .type "tuple") :
    SrtO.SortableO prog w A s a vs fun v u => decide (k v < k u) := by
  intro h' keep
  have hp' : ∀ v ∈ vs, Fst h' v (k v) := fun v hm => (hp v hm).keeps fun b o e c => keep b o (fun z => by rw [z] at e; exact ha o e c) e
  obtain ⟨fs, h1, h2, h3⟩ := fsts fun v hm => ⟨_, hp' v hm⟩
  refine ⟨tuples' true, fun Q E hq => ?_, cmp hp' hi⟩
  refine PySem.W.kat_kind (T := .type "int") h1 (by omega) (fun f hm => ?_) (by rfl) ?_
  · obtain ⟨x, t, rfl⟩ := h3 f hm
    exact PySem.W.Looks.now
  · rw [show (Value.type "int" != Value.type "tuple") = true by first | rfl | decide]
    exact hq
end
end DkS
namespace Dk
open PySem PySem.Spec PyProof.Rows L2
def rSortF (K : PySem.W.Frag) : List V → Hp → VK → Prop := fun vs H Q => ∃ (a : Addr) (xs : List V) (k : V → Int), vs = [V.ref a] ∧ SqL K H a xs ∧ (∀ x ∈ xs, ∃ t y, x = V.ref t ∧ H t = some (.tup [.int (k x), y])) ∧ (∀ x ∈ xs, ∀ y ∈ xs, k x = k y → x = y) ∧
  ∀ ys p, ys.Perm xs → ys.Pairwise (fun x y => k x ≤ k y) → H p = none → Q (.ref p) (upd H p (.lst ys))
theorem cr_sortF {X : Cx} : CallR X (.builtin "sorted") (rSortF X.K) := by
  intro pins s σ H vs us Q I r h
  obtain ⟨a, xs, k, rfl, hs, hx, hi, q⟩ := h
  obtain ⟨its, rv, hl, hz⟩ := I.list hs
  obtain ⟨u, rfl, ru⟩ := vals1 r
  obtain rfl : u = Value.ref a := ru
  obtain ⟨e1, e2⟩ := refs_back rv fun x m => by
    obtain ⟨t, y, e, _⟩ := hx x m
    exact ⟨t, e⟩
  have lz : its.length ≤ sizeLine := by rw [← rv.length]; exact hz
  have fst : ∀ v ∈ its, DkS.Fst s.heap v (k (backV v)) := fun v hv => by
    obtain ⟨t, rfl⟩ := e2 v hv
    have hm : V.ref t ∈ xs := by rw [e1]; exact List.mem_map.mpr ⟨_, hv, rfl⟩
    obtain ⟨t', y, e, ht⟩ := hx _ hm
    cases e
    obtain ⟨_, its2, r2, o, ho, hc, n, hd⟩ := I.hok _ _ ht
    obtain ⟨u1, u2, rfl, ri, rj⟩ := vals2 r2
    obtain ⟨t1, rfl⟩ := ri
    exact ⟨t, o, t1, u2, n, rfl, ho, hc, hd⟩
  have inj : ∀ v ∈ its, ∀ u ∈ its, k (backV v) = k (backV u) → v = u := fun v hv u hu e => by
    obtain ⟨t, rfl⟩ := e2 v hv
    obtain ⟨t', rfl⟩ := e2 u hu
    have h1 : V.ref t ∈ xs := by rw [e1]; exact List.mem_map.mpr ⟨_, hv, rfl⟩
    have h2 : V.ref t' ∈ xs := by rw [e1]; exact List.mem_map.mpr ⟨_, hu, rfl⟩
    have := hi _ h1 _ h2 e
    injection this with this
    rw [this]
  refine SrtO.sorted_ord (ltv := fun v u => decide (k (backV v) < k (backV u))) (DkS.swo fun v => k (backV v)) hl.isList lz (fun h2 h₁ b hb kk => ?_) fun out ho hb => ?_
  · refine DkS.sortable (k := fun v => k (backV v)) (s := { s with heap := h₁ }) (by omega) (fun v hm => (fst v hm).keeps fun b o e _ => (kk b o e).2) inj fun o e => ?_
    rw [hb] at e
    cases e
    intro c
    exact absurd (Value.type.inj c) (by decide)
  · have h3 : ∀ u ∈ out, ∃ a, u = Value.ref a := fun u hu => e2 u (hb.perm.mem_iff.mp hu)
    obtain ⟨n, hn⟩ := PyProof.Rows.sortedAll_at s.heap its out.toArray
    refine ⟨.ref _, upd H _ (.lst (out.map backV)), I.laid (t' := s.toks) (fun b o e => PyProof.Rows.sortedAll_old e) (Nat.le_succ _) ⟨?_, out, n, vals_back h3, hn⟩, rfl, q _ _ ?_ ?_ (I.hok.fresh (Nat.le_succ _))⟩
    · rw [List.length_map, hb.perm.length_eq]; exact lz
    · rw [e1]; exact hb.perm.map _
    · rw [List.pairwise_map]
      exact ho.imp fun h => by
        have := of_decide_eq_false h
        omega
end Dk

set_option Elab.async false
set_option linter.all false
set_option maxRecDepth 100000
set_option maxHeartbeats 4000000
namespace Dk
open PySem PySem.Spec PyProof.Rows L2
open DkM (TV Mem DS Req Ent Deed upC upC_same upC_ne Ad Sc mkA Dec EsOk shUp fitD fitUp isDon beginM nwA Inv doneL rounds round stepE dueL putE shV tmV)
def DnR (H0 H : Hp) (p : Int × List Ent) (v : V) : Prop := ∃ (t el : Addr) (xs : List V), v = .ref t ∧ H t = some (.tup [.int p.1, .ref el]) ∧ H0 el = some (.lst xs) ∧ All2 (EntR H0) p.2 xs
theorem DnR.mono {H0 H H' : Hp} (k : TupK H H') (p : Int × List Ent) (v : V) : DnR H0 H p v → DnR H0 H' p v := fun ⟨t, el, xs, h1, h2, h3, h4⟩ => ⟨t, el, xs, h1, k _ _ h2, h3, h4⟩
theorem doneL_app (lv : Int → TV) (D : Deed) : ∀ (l : List Deed) (k : Nat), doneL (l ++ [D]) lv k = doneL l lv k ++ (if isDon (lv (Sc (k + l.length))) then [(tmV (lv (Sc (k + l.length))), D.es)] else [])
  | [], k => by
    show (if isDon (lv (Sc k)) then (tmV (lv (Sc k)), D.es) :: [] else []) = [] ++ (if isDon (lv (Sc (k + 0))) then [(tmV (lv (Sc (k + 0))), D.es)] else [])
    rfl
  | E :: l, k => by
    have ih := doneL_app lv D l (k + 1)
    have e : k + 1 + l.length = k + (E :: l).length := by rw [List.length_cons]; omega
    rw [e] at ih
    show (if isDon (lv (Sc k)) then (tmV (lv (Sc k)), E.es) :: doneL (l ++ [D]) lv (k + 1) else doneL (l ++ [D]) lv (k + 1)) = (if isDon (lv (Sc k)) then (tmV (lv (Sc k)), E.es) :: doneL l lv (k + 1) else doneL l lv (k + 1)) ++ _
    rw [ih]
    split <;> rfl
theorem All2.perm {α : Type} {R : α → V → Prop} : ∀ {ys xs : List V}, ys.Perm xs → ∀ {l : List α}, All2 R l xs → ∃ S : List α, S.Perm l ∧ All2 R S ys := by
  intro ys xs p
  induction p with
  | nil =>
    intro l h
    exact ⟨l, List.Perm.refl _, h⟩
  | cons x p ih =>
    intro l h
    match l, h with
    | a :: l, h =>
      obtain ⟨S, h1, h2⟩ := ih h.2
      exact ⟨a :: S, h1.cons a, h.1, h2⟩
  | swap x y r =>
    intro l h
    match l, h with
    | a :: b :: l, h => exact ⟨b :: a :: l, List.Perm.swap _ _ _, h.2.1, h.1, h.2.2⟩
  | trans p q ih1 ih2 =>
    intro l h
    obtain ⟨S, h1, h2⟩ := ih2 h
    obtain ⟨S2, h3, h4⟩ := ih1 h2
    exact ⟨S2, h3.trans h1, h4⟩
theorem All2.mapeq {H0 H : Hp} {kf : V → Int} (hk : ∀ q v, DnR H0 H q v → kf v = q.1) : ∀ {S : List (Int × List Ent)} {ys : List V}, All2 (DnR H0 H) S ys → (S.map fun q => q.1) = ys.map kf
  | [], [], _ => rfl
  | [], _ :: _, h => h.elim
  | _ :: _, [], h => h.elim
  | q :: S, v :: ys, h => by
    show q.1 :: S.map (fun q => q.1) = kf v :: ys.map kf
    rw [hk _ _ h.1, All2.mapeq hk h.2]
structure RecOk (m : Mem) (ds : List Deed) (lv : Int → TV) : Prop where
  la : ∀ c, 4 ≤ c → c ≤ 200 → m.last c = lv c ∧ m.tr c ≠ []
  wok : ∀ w, 7 ≤ w → w ≤ 10 → WOk m w ∧ shM m w = shV lv (lv w)
  n24 : ds.length ≤ 24
  es : ∀ (i : Nat) (D : Deed), ds[i]? = some D → ∀ e ∈ D.es, 7 ≤ e.1 ∧ e.1 ≤ 10
  st : ∀ (i : Nat), i < ds.length → StV (lv (Sc i))
  nd : ((doneL ds lv 0).map fun p => p.1).Nodup
section
variable {P : Program} {w : World} {K : PySem.W.Frag} {mg : Str → Option Value} {base : Heap}
def spRec (K : PySem.W.Frag) : Sp := fun vs H Q _ => ∃ (p : Addr) (a : MA) (m : Mem) (L : Addr) (qs : List (Addr × Addr)) (ds : List Deed) (lv : Int → TV), vs = [.ref p, .ref L] ∧ MemA K H p a m ∧ DdsAt H L qs ds ∧ RecOk m ds lv ∧
  ∀ H' rp wl dl S ys, Same H H' → H' rp = some (.tup [.ref wl, .ref dl]) → H wl = none → H' wl = some (.lst (Shl (rounds (doneL ds lv 0) 100 fun w => shV lv (lv w)))) → H dl = none → H' dl = some (.lst ys) → S.Perm (doneL ds lv 0) → S.Pairwise (fun a b => a.1 ≤ b.1) →
    All2 (DnR H H') S ys → Q (.ref rp) H'
theorem ok_law_recovered (T : Tx w K mg) : Cal P w K mg base 5 (He.ga K "_law_recovered") ["_law_memory", "_law_deeds"] (spRec K) := by
  refine mkCal T.F_law_recovered sc_law_recovered (fun vs H Q E h => ?_) (fun _ _ _ _ _ _ us hl => match us, hl with | [_, _], _ => rfl) fun cdv A outer s H vs Q E hr h => ?_
  · obtain ⟨p, a, m, L, qs, ds, lv, rfl, _⟩ := h
    rfl
  · obtain ⟨p, a, m, L, qs, ds, lv, rfl, M, D, R, hq⟩ := h
    have nd := sc_law_recovered.nd
    refine ⟨_, pss_cons (ps_setLc (i := 2) (own := [("_law_index", 10)]) (g := gName 10) (tt := tYes) (by rfl) nd rfl rfl (sw_true rfl rfl rfl (by decide +kernel)) (pi_range1 (by rfl) T.f_range (pa_cons pe_int pa_nil)) (blkOk_by (own := [("_law_index", 10)]) (N := ["_law_memory", "_law_deeds", "_law_words", "_law_done", "_law_deed", "_law_status", "_law_turn", "_law_number", "_law_entries", "_law_entry", "_law_index"]) (sc := defScope s_law_recovered) (by decide +kernel)) (fun _ _ _ _ _ => pg_name (i := 10) nd rfl (Or.inl rfl)) (fun _ _ _ _ _ => pts_nil) (fun _ _ _ _ _ => (pe_callC (ok_law_shown T) (hr.mono (by decide)) rfl T.g_law_shown (pa_cons (pv 0) (pa_cons (pv 10) pa_nil))))) (pss_cons (ps_set (i := 3) nd rfl (Or.inl rfl) (pe_lst pa_nil)) (pss_cons (ps_for PassesOwn.never rfl (pi_list (pv 1)) (pg_name (i := 4) nd rfl (Or.inl rfl)) (pss_cons (ps_set (i := 5) nd rfl (Or.inl rfl) (pe_methC (pv 0) T.c_Memory T.m_Memory_peek (ok_peek T) (hr.mono (by decide)) (pa_cons (pe_op op_add (pe_ix ix_list (pv 4) pe_int (fun _ _ => rfl)) pe_int) pa_nil))) (pss_one (ps_if (PW.pt (pw_and (pt_cmpR (op_neD hr.units) (pv 5) pe_int (nomark _)) (pw_and1 (pt_cmpR op_eq (pe_ix ix_tup (pv 5) pe_int (fun _ _ => rfl)) pe_str (nomark _))))) (pss_one (ps_expr (pe_bm PySem.F.plainAttrs_list PySem.F.slot_list_append PySem.F.type_list_append mt_append (pv 3) (pa_cons (pe_tup (pa_cons (pe_ix ix_tup (pv 5) pe_int (fun _ _ => rfl)) (pa_cons (pe_ix ix_list (pv 4) pe_int (fun _ _ => rfl)) pa_nil))) pa_nil)))) pss_nil)))) (pss_cons (ps_for PassesOwn.never rfl (pi_range1 (by rfl) T.f_range (pa_cons pe_int pa_nil)) (pg_name (i := 6) nd rfl (Or.inl rfl)) (pss_one (ps_for PassesOwn.never rfl (pi_list (pv 3)) (pg_tup (by rfl) (pgs_cons (pg_name (i := 7) nd rfl (Or.inl rfl)) (pgs_cons (pg_name (i := 8) nd rfl (Or.inl rfl)) pgs_nil))) (pss_one (ps_for PassesOwn.never rfl (pi_list (pv 8)) (pg_name (i := 9) nd rfl (Or.inl rfl)) (pss_one (ps_if (pt_cmpR op_eq (pe_ix ix_list (pv 2) (pe_op op_sub (pe_ix ix_tup (pv 9) pe_int (fun _ _ => rfl)) pe_int) (fun _ _ => rfl)) (pe_ix ix_tup (pv 9) pe_int (fun _ _ => rfl)) (nomark _)) (pss_one (ps_asg (pe_ix ix_tup (pv 9) pe_int (fun _ _ => rfl)) (pg_sub (pv 2) (pe_op op_sub (pe_ix ix_tup (pv 9) pe_int (fun _ _ => rfl)) pe_int) set_list))) pss_nil))))))) (pss_one (ps_ret (pe_tup (pa_cons (pv 2) (pa_cons (pe_callB cr_sortF (by rfl) T.f_sorted (by decide +kernel) (pa_cons (pv 3) pa_nil)) pa_nil)))))))), ?_⟩
    generalize hx0 : (fun w => shV lv (lv w)) = x0 at hq
    have x0w : ∀ w, shV lv (lv w) = x0 w := fun w => by rw [← hx0]
    generalize hLL : doneL ds lv 0 = LL at hq
    have shl_get : ∀ i : Nat, i < 4 → (Shl x0)[i]? = some (.int (x0 (7 + (0 + (i : Int))))) := fun i hi => by
      have : i = 0 ∨ i = 1 ∨ i = 2 ∨ i = 3 := by omega
      rcases this with e | e | e | e <;> subst e <;> rfl
    refine ⟨4, rfl, by omega, by omega, fun wl hwl => ?_⟩
    refine lc_range (lo := 0) (n := 4) (fun i H' => Same H H' ∧ H' wl = some (.lst ((Shl x0).take i))) ⟨same_new hwl, upd_same⟩ (fun i H' hi ⟨s1, h1⟩ => ⟨rfl, ?_⟩) fun H1 ⟨s1, h1⟩ => ?_
    · obtain ⟨W, hW⟩ := R.wok (7 + (0 + (i : Int))) (by omega) (by omega)
      refine ⟨_, rfl, _, rfl, p, a, m, _, rfl, M.same s1, by omega, by omega, W, fun H2 s2 => ?_⟩
      refine ⟨_, s2 _ _ h1, ?_, fun y u h => ?_, ?_⟩
      · rw [List.length_take]; exact Nat.lt_of_le_of_lt (show min i (Shl x0).length ≤ 4 from Nat.le_trans (Nat.min_le_right _ _) (Nat.le_refl 4)) (by decide)
      · rw [upd_ne (ne_of_none h hwl)]; exact s2 _ _ (s1 _ _ h)
      · rw [upd_same, hW, x0w, List.take_add_one, shl_get i hi]; rfl
    have h1 : H1 wl = some (.lst (Shl x0)) := h1
    refine ⟨(by show 0 ≤ sizeLine; decide), fun dl hdl => ?_⟩
    have dlH : H dl = none := by
      cases c : H dl with
      | none => rfl
      | some u => rw [s1 _ _ c] at hdl; cases hdl
    have wd : wl ≠ dl := ne_of_none h1 hdl
    have s2 : Same H (upd H1 dl (.lst [])) := fun y u h => same_new hdl y u (s1 y u h)
    have D2 := D.same s2
    refine ⟨_, rfl, L, rfl, ⟨_, SqL.of D2.li⟩, for_list (K := K) (xs := qs.map fun x => V.ref x.1) (fun i σ H3 => ∃ y4 y5 xs, σ = [some (.ref p), some (.ref L), some (.ref wl), some (.ref dl), y4, y5, none, none, none, none, none] ∧ Same H H3 ∧ H3 wl = some (.lst (Shl x0)) ∧ H3 dl = some (.lst xs) ∧ xs.length ≤ i ∧ All2 (DnR H H3) (doneL (ds.take i) lv 0) xs)
      ⟨none, none, [], rfl, s2, same_new hdl _ _ h1, upd_same, Nat.le_refl _, trivial⟩ (fun i σ H3 _ ⟨_, _, _, _, s, _⟩ => SqL.of (s _ _ D.li)) ?_ ?_⟩
    · rintro i x σ H3 hi ⟨y4, y5, xs, rfl, s3, hw3, hd3, hl3, a3⟩
      have hil : i < ds.length := by
        have := (List.getElem?_eq_some_iff.mp hi).1
        rw [List.length_map, D.ln] at this
        exact this
      have hD : ds[i]? = some ds[i] := List.getElem?_eq_getElem hil
      generalize ds[i] = E0 at hD
      obtain ⟨z, hz, ⟨sv, hzx, rsv⟩, es, hes, aes⟩ := D.at_ i E0 hD
      rw [List.getElem?_map, hz] at hi
      have hi : V.ref z.1 = x := Option.some.inj hi
      subst hi
      have M3 := M.same s3
      have e1 : Ad i + 1 = Sc i := by unfold Ad Sc; omega
      have n24 := R.n24
      have rg : 4 ≤ Sc i ∧ Sc i ≤ 200 := by unfold Sc; omega
      obtain ⟨la, ne⟩ := R.la (Sc i) rg.1 rg.2
      have SV := R.st i hil
      have hzx3 := s3 _ _ hzx
      have e2 : doneL (ds.take (i + 1)) lv 0 = doneL (ds.take i) lv 0 ++ (if isDon (lv (Sc i)) then [(tmV (lv (Sc i)), E0.es)] else []) := by
        rw [List.take_add_one, hD]
        have := doneL_app lv E0 (ds.take i) 0
        rw [List.length_take, Nat.min_eq_left (Nat.le_of_lt hil), Nat.zero_add] at this
        exact this
      refine ⟨_, rfl, p, _, _, rfl, M3.ob, mem_no _ _ (by decide +kernel), _, rfl, _, _, _, _, rfl, rfl, SqL.of hzx3, atI_nat (j := 0) rfl, _, _, rfl, rfl, p, a, m, Sc i, by rw [← e1]; rfl, M3, by omega, by omega, ne, fun y ry => ?_⟩
      rw [la] at ry
      refine ⟨_, rfl, neD_if (v := lv (Sc i)) (w := .int 0) ry rfl (flat_st SV) rfl ?_⟩
      rcases SV with c | ⟨t, c | c⟩
      · rw [if_pos c]
        refine ⟨_, _, xs, rfl, s3, hw3, hd3, by omega, ?_⟩
        rw [e2, c]
        show All2 _ (doneL (ds.take i) lv 0 ++ []) xs
        rw [List.append_nil]; exact a3
      · rw [if_neg (by rw [c]; intro z; cases z)]
        rw [c] at ry
        obtain ⟨yp, rfl, hyp⟩ := ry
        refine ⟨_, rfl, _, _, _, _, rfl, rfl, SqT.of hyp, atI_nat (j := 0) rfl, rfl, seT ?_⟩
        refine ⟨_, rfl, .inl ⟨rfl, _, SqL.of hd3⟩, _, rfl, _, _, _, _, rfl, rfl, SqT.of hyp, atI_nat (j := 1) rfl, _, rfl, _, _, _, _, rfl, rfl, SqL.of hzx3, atI_nat (j := 1) rfl, (by show 2 ≤ sizeLine; decide), fun tp htp => ?_⟩
        have s4 : Same H3 (upd H3 tp (.tup [.int t, .ref z.2])) := same_new htp
        have ht4 : (upd H3 tp (.tup [.int t, .ref z.2])) tp = some (.tup [.int t, .ref z.2]) := upd_same
        refine ⟨_, _, _, rfl, rfl, s4 _ _ hd3, Nat.lt_of_le_of_lt (show xs.length ≤ 24 by omega) (by decide), ?_⟩
        have tk : TupK (upd H3 tp (.tup [.int t, .ref z.2])) (upd (upd H3 tp (.tup [.int t, .ref z.2])) dl (.lst (xs ++ [.ref tp]))) := TupK.upd (s4 _ _ hd3) fun ys e => by cases e
        refine ⟨_, _, _, rfl, fun y u h => ?_, ?_, upd_same, by rw [List.length_append]; show xs.length + 1 ≤ i + 1; omega, ?_⟩
        · rw [upd_ne (ne_of_none h dlH)]; exact s4 _ _ (s3 _ _ h)
        · rw [upd_ne wd]; exact s4 _ _ hw3
        · rw [e2, c]
          exact (a3.mono (DnR.mono ((TupK.of_same s4).trans tk))).app ⟨⟨tp, z.2, es, rfl, tk _ _ ht4, hes, aes⟩, trivial⟩
      · rw [if_neg (by rw [c]; intro z; cases z)]
        rw [c] at ry
        obtain ⟨yp, rfl, hyp⟩ := ry
        refine ⟨_, rfl, _, _, _, _, rfl, rfl, SqT.of hyp, atI_nat (j := 0) rfl, rfl, seF (by decide +kernel) ?_⟩
        refine ⟨_, _, xs, rfl, s3, hw3, hd3, by omega, ?_⟩
        rw [e2, c]
        show All2 _ (doneL (ds.take i) lv 0 ++ []) xs
        rw [List.append_nil]; exact a3
    · rintro σ H3 ⟨y4, y5, xs, rfl, s3, hw3, hd3, hl3, a3⟩
      have et : ds.take (qs.map fun x => V.ref x.1).length = ds := List.take_of_length_le (by rw [List.length_map, D.ln]; exact Nat.le_refl _)
      rw [et, hLL] at a3
      have rng : ∀ q ∈ LL, ∀ e ∈ q.2, 7 ≤ e.1 ∧ e.1 ≤ 10 := fun q hq' e he => by
        rw [← hLL] at hq'
        obtain ⟨j, E0, hE0, _, e0⟩ := DkM.doneL_mem.mp hq'
        rw [e0] at he
        exact R.es j E0 hE0 e he
      refine ⟨100, rfl, by omega, by omega, ?_⟩
      refine for_range (lo := 0) (n := 100) (fun k σ H4 => ∃ y6 y7 y8 y9 x, σ = [some (.ref p), some (.ref L), some (.ref wl), some (.ref dl), y4, y5, y6, y7, y8, y9, none] ∧ Same H H4 ∧ H4 wl = some (.lst (Shl x)) ∧ H4 dl = some (.lst xs) ∧ TupK H3 H4 ∧ rounds LL (100 - k) x = rounds LL 100 x0)
        ⟨none, none, none, none, x0, rfl, s3, hw3, hd3, TupK.refl _, rfl⟩ ?_ ?_
      · rintro k σ H4 hk ⟨y6, y7, y8, y9, x, rfl, s4, hw4, hd4, t4, er⟩
        refine ⟨_, rfl, dl, rfl, ⟨_, SqL.of hd4⟩, for_list (K := K) (xs := xs) (fun i σ H5 => ∃ y7 y8 y9, σ = [some (.ref p), some (.ref L), some (.ref wl), some (.ref dl), y4, y5, some (.int (0 + (k : Int))), y7, y8, y9, none] ∧ Same H H5 ∧ H5 wl = some (.lst (Shl ((LL.take i).foldl (fun x p => p.2.foldl stepE x) x))) ∧ H5 dl = some (.lst xs) ∧ TupK H3 H5)
          ⟨_, _, _, rfl, s4, hw4, hd4, t4⟩ (fun i σ H5 _ ⟨_, _, _, _, _, _, h, _⟩ => SqL.of h) ?_ ?_⟩
        · rintro i v σ H5 hi ⟨z7, z8, z9, rfl, s5, hw5, hd5, t5⟩
          obtain ⟨q, hq', t, el, es, rfl, ht, hel, aes⟩ := a3.get' hi
          have hxi : (LL.take (i + 1)).foldl (fun x p => p.2.foldl stepE x) x = q.2.foldl stepE ((LL.take i).foldl (fun x p => p.2.foldl stepE x) x) := by rw [List.take_add_one, hq', List.foldl_append]; rfl
          rw [hxi]
          generalize (LL.take i).foldl (fun x p => p.2.foldl stepE x) x = xi at hw5
          refine ⟨t, _, rfl, SqT.of (t5 _ _ ht), rfl, ?_⟩
          refine ⟨_, _, rfl, _, _, rfl, rfl, _, rfl, el, rfl, ⟨_, SqL.of (s5 _ _ hel)⟩, for_list (K := K) (xs := es) (fun j σ H6 => ∃ y9, σ = [some (.ref p), some (.ref L), some (.ref wl), some (.ref dl), y4, y5, some (.int (0 + (k : Int))), some (.int q.1), some (.ref el), y9, none] ∧ Same H H6 ∧ H6 wl = some (.lst (Shl ((q.2.take j).foldl stepE xi))) ∧ H6 dl = some (.lst xs) ∧ TupK H3 H6)
            ⟨_, rfl, s5, hw5, hd5, t5⟩ (fun j σ H6 _ ⟨_, _, s, _⟩ => SqL.of (s _ _ hel)) ?_ ?_⟩
          · rintro j v σ H6 hj ⟨w9, rfl, s6, hw6, hd6, t6⟩
            obtain ⟨e, he, ep, rfl, hep⟩ := aes.get' hj
            obtain ⟨h7, h10⟩ := rng q (List.mem_of_getElem? hq') e (List.mem_of_getElem? he)
            have hep6 := s6 _ _ hep
            have hxj : (q.2.take (j + 1)).foldl stepE xi = stepE ((q.2.take j).foldl stepE xi) e := by rw [List.take_add_one, he, List.foldl_append]; rfl
            rw [hxj]
            generalize (q.2.take j).foldl stepE xi = xj at hw6
            refine ⟨_, rfl, _, rfl, _, _, _, _, rfl, rfl, SqT.of hep6, atI_nat (j := 0) rfl, _, _, rfl, rfl, _, _, _, _, rfl, rfl, SqL.of hw6, Shl_at h7 h10, _, rfl, _, _, _, _, rfl, rfl, SqT.of hep6, atI_nat (j := 1) rfl, rfl, _, rfl, ?_⟩
            unfold DkM.stepE
            by_cases c : xj e.1 = e.2.1
            · rw [if_pos c]
              refine iteT' (decide_eq_true (by rw [c])) ?_
              refine ⟨_, rfl, _, _, _, _, rfl, rfl, SqT.of hep6, atI_nat (j := 2) rfl, _, rfl, _, rfl, _, _, _, _, rfl, rfl, SqT.of hep6, atI_nat (j := 0) rfl, _, _, rfl, rfl, _, _, _, _, rfl, rfl, hw6, ixN_of (by omega) (by show e.1 - 7 < ((4 : Nat) : Int); omega), ?_⟩
              rw [Shl_set h7 h10]
              refine ⟨_, rfl, fun y u h => ?_, upd_same, ?_, t6.trans (TupK.upd hw6 fun ys e => by cases e)⟩
              · rw [upd_ne (ne_of_none h hwl)]; exact s6 _ _ h
              · rw [upd_ne wd.symm]; exact hd6
            · rw [if_neg c]
              refine iteF' (decide_eq_false fun z => c (by injection z)) ?_
              exact ⟨_, rfl, s6, hw6, hd6, t6⟩
          · rintro σ H6 ⟨w9, rfl, s6, hw6, hd6, t6⟩
            rw [List.take_of_length_le (by rw [aes.len]; exact Nat.le_refl _)] at hw6
            exact ⟨_, _, _, rfl, s6, hw6, hd6, t6⟩
        · rintro σ H5 ⟨z7, z8, z9, rfl, s5, hw5, hd5, t5⟩
          rw [List.take_of_length_le (by rw [a3.len]; exact Nat.le_refl _)] at hw5
          refine ⟨_, _, _, _, round LL x, rfl, s5, hw5, hd5, t5, ?_⟩
          rw [← er, show 100 - k = (100 - (k + 1)) + 1 by omega]; rfl
      · rintro σ H4 ⟨y6, y7, y8, y9, x, rfl, s4, hw4, hd4, t4, er⟩
        have er : x = rounds LL 100 x0 := er
        have a4 := a3.mono (DnR.mono t4)
        -- sorted
        obtain ⟨kf, hk⟩ : ∃ kf : V → Int, ∀ q v, DnR H H4 q v → kf v = q.1 := by
          refine ⟨fun v => match v with
            | .ref t => (match H4 t with
              | some (.tup (.int i :: _)) => i
              | _ => 0)
            | _ => 0, ?_⟩
          rintro q v ⟨t, el, es, rfl, ht, _⟩
          show (match H4 t with
              | some (.tup (.int i :: _)) => i
              | _ => 0) = _
          rw [ht]
        have inj : ∀ v ∈ xs, ∀ u ∈ xs, kf v = kf u → v = u := by
          intro v hv u hu e
          obtain ⟨i, hi, ei⟩ := List.getElem_of_mem hv
          obtain ⟨j, hj, ej⟩ := List.getElem_of_mem hu
          obtain ⟨q', hq', hdq⟩ := a4.get' (i := i) (x := v) (by rw [List.getElem?_eq_getElem hi, ei])
          obtain ⟨r', hr', hdr⟩ := a4.get' (i := j) (x := u) (by rw [List.getElem?_eq_getElem hj, ej])
          have ee : q'.1 = r'.1 := by rw [← hk _ _ hdq, ← hk _ _ hdr, e]
          have nd := R.nd
          rw [hLL] at nd
          obtain ⟨hi', ei'⟩ := List.getElem?_eq_some_iff.mp hq'
          have hij : i = j := by
            have h1 : (LL.map fun p => p.1)[i]? = some q'.1 := by rw [List.getElem?_map, hq']; rfl
            have h2 : (LL.map fun p => p.1)[j]? = some q'.1 := by rw [List.getElem?_map, hr', ee]; rfl
            exact (List.getElem?_inj (by rw [List.length_map]; exact hi') nd).mp (h1.trans h2.symm)
          subst hij
          rw [← ei, ← ej]
        refine ⟨_, rfl, _, rfl, dl, xs, kf, rfl, SqL.of hd4, fun v hv => ?_, inj, fun ys sp perm srt hsp => ⟨(by show 2 ≤ sizeLine; decide), fun rp hrp => ?_⟩⟩
        · obtain ⟨i, hi, ei⟩ := List.getElem_of_mem hv
          obtain ⟨q, _, hd⟩ := a4.get' (i := i) (x := v) (by rw [List.getElem?_eq_getElem hi, ei])
          have e3 := hk _ _ hd
          obtain ⟨t, el, _, e1, e2, _⟩ := hd
          exact ⟨t, .ref el, e1, by rw [e3]; exact e2⟩
        · obtain ⟨S, hSp, hS⟩ := All2.perm perm a4
          have s6 : Same H4 (upd (upd H4 sp (.lst ys)) rp (.tup [.ref wl, .ref sp])) := fun y u h => same_new hrp y u (same_new hsp y u h)
          have spH : H sp = none := by
            cases c : H sp with
            | none => rfl
            | some u => rw [s4 _ _ c] at hsp; cases hsp
          refine hq _ rp wl sp S ys (fun y u h => s6 _ _ (s4 _ _ h)) upd_same hwl ?_ spH (same_new hrp _ _ upd_same) hSp ?_ (hS.mono (DnR.mono (TupK.of_same s6)))
          · rw [← er]; exact s6 _ _ hw4
          · have := All2.mapeq hk hS
            have h2 : (S.map fun q => q.1).Pairwise (· ≤ ·) := by rw [this, List.pairwise_map]; exact srt
            exact List.pairwise_map.mp h2
end
end Dk

set_option Elab.async false
set_option linter.all false
set_option maxRecDepth 100000
set_option maxHeartbeats 4000000
namespace Dk
open PySem PySem.Spec PyProof.Rows L2
open DkM (TV Mem DS Req Ent Deed upC upC_same upC_ne Ad Sc mkA Dec EsOk shUp fitD fitUp isDon beginM nwA Inv doneL rounds round stepE dueL putE shV tmV)
section
variable {P : Program} {w : World} {K : PySem.W.Frag} {mg : Str → Option Value} {base : Heap}
structure CutOk (m : Mem) (ds : List Deed) : Prop where
  nk : Nk m
  ne : ∀ c, 4 ≤ c → c ≤ 200 → m.tr c ≠ []
  rec_ : ∀ m' lv, DkM.Cut m lv → (∀ c, 4 ≤ c → c ≤ 200 → m'.tr c = [lv c]) → RecOk m' ds lv
  due : ∀ lv S, DkM.Cut m lv → S.Perm (doneL ds lv 0) → S.Pairwise (fun a b => a.1 ≤ b.1) → ∀ w, 7 ≤ w → w ≤ 10 → rounds (doneL ds lv 0) 100 (fun w => shV lv (lv w)) w = dueL S (fun w => w + 4) w
def spLCut (K : PySem.W.Frag) : Sp := fun vs H Q _ => ∃ (p : Addr) (a : MA) (m : Mem) (tp : Addr) (l : List Int) (L : Addr) (qs : List (Addr × Addr)) (ds : List Deed), vs = [.ref p, .ref tp, .ref L] ∧ MemA K H p a m ∧ DdsAt H L qs ds ∧ Sep (FM p a) (FDs L qs) ∧
  H tp = some (.lst (l.map V.int)) ∧ CutOk m ds ∧ ∀ H', Q (.bl true) H'
theorem ok_law_cut (T : Tx w K mg) : Cal P w K mg base 6 (He.ga K "_law_cut") ["_law_memory", "_law_tape_here", "_law_deeds"] (spLCut K) := by
  refine mkCal T.F_law_cut sc_law_cut (fun vs H Q E h => ?_) (fun _ _ _ _ _ _ us hl => match us, hl with | [_, _, _], _ => rfl) fun cdv A outer s H vs Q E hr h => ?_
  · obtain ⟨p, a, m, tp, l, L, qs, ds, rfl, _⟩ := h
    rfl
  · obtain ⟨p, a, m, tp, l, L, qs, ds, rfl, M, D, sep, htp, CO, hq⟩ := h
    have nd := sc_law_cut.nd
    refine ⟨_, pss_cons (ps_expr (pe_methC (pv 0) T.c_Memory T.m_Memory_cut (ok_cut T) (hr.mono (by decide)) (pa_cons (pe_lc (own := [("_law_k", 9)]) (g := gName 9) (tt := tYes) (by rfl) nd (pi_range1 (by rfl) T.f_range (pa_cons pe_int pa_nil)) (blkOk_by (own := [("_law_k", 9)]) (N := ["_law_memory", "_law_tape_here", "_law_deeds", "_law_words", "_law_done", "_law_due", "_law_number", "_law_entries", "_law_entry", "_law_k"]) (sc := defScope s_law_cut) (by decide +kernel)) (fun _ _ _ _ _ => pg_name (i := 9) nd rfl (Or.inl rfl)) (fun _ _ _ _ _ => pts_nil) (fun _ _ _ _ _ => (pe_ix (show IxR _ (rIxL K) from ix_list) (pe_lst (pa_cons pe_int (pa_cons pe_int (pa_cons pe_int (pa_cons pe_int (pa_cons pe_int pa_nil)))))) (pe_op op_mod (pe_op op_add (pe_callC (ok_law_at T) (hr.mono (by decide)) rfl T.g_law_at (pa_cons (pv 1) (pa_cons (pe_op op_add pe_int (pe_op op_mod (pv 9) pe_int)) pa_nil))) (pe_op op_mul (pv 9) (pv 9))) pe_int) (fun _ _ => rfl)))) pa_nil))) (pss_cons (ps_asg (pe_callC (ok_law_recovered T) (hr.mono (by decide)) rfl T.g_law_recovered (pa_cons (pv 0) (pa_cons (pv 2) pa_nil))) (pg_tup (by rfl) (pgs_cons (pg_name (i := 3) nd rfl (Or.inl rfl)) (pgs_cons (pg_name (i := 4) nd rfl (Or.inl rfl)) pgs_nil)))) (pss_cons (ps_set (i := 5) nd rfl (Or.inl rfl) (pe_lst (pa_cons pe_int (pa_cons pe_int (pa_cons pe_int (pa_cons pe_int pa_nil)))))) (pss_cons (ps_for PassesOwn.never rfl (pi_list (pv 4)) (pg_tup (by rfl) (pgs_cons (pg_name (i := 6) nd rfl (Or.inl rfl)) (pgs_cons (pg_name (i := 7) nd rfl (Or.inl rfl)) pgs_nil))) (pss_one (ps_for PassesOwn.never rfl (pi_list (pv 7)) (pg_name (i := 8) nd rfl (Or.inl rfl)) (pss_one (ps_asg (pe_ix ix_tup (pv 8) pe_int (fun _ _ => rfl)) (pg_sub (pv 5) (pe_op op_sub (pe_ix ix_tup (pv 8) pe_int (fun _ _ => rfl)) pe_int) set_list)))))) (pss_one (ps_ret (pe_cmpR (op_eqD hr.units) (pv 3) (pv 5) (nomark _))))))), ?_⟩
    refine ⟨_, rfl, p, _, _, rfl, M.ob, mem_no _ _ (by decide +kernel), 100, rfl, by omega, by omega, fun cl hcl => ?_⟩
    refine lc_range (lo := 0) (n := 100) (fun i H' => ∃ cs : List Int, Same H H' ∧ H' cl = some (.lst (cs.map V.int)) ∧ cs.length = i ∧ ∀ c ∈ cs, 0 ≤ c) ⟨[], same_new hcl, upd_same, rfl, fun c h => by cases h⟩ (fun i H' hi ⟨cs, s1, h1, l1, n1⟩ => ⟨rfl, ?_⟩) fun H1 ⟨cs, s1, h1, l1, n1⟩ => ?_
    · refine ⟨(by show 5 ≤ sizeLine; decide), fun lp hlp => ?_⟩
      have htp2 := (same_new (o := .lst [.int 0, .int 9, .int 0, .int 1, .int 2]) hlp) _ _ (s1 _ _ htp)
      have hlp2 : (upd H' lp (.lst [.int 0, .int 9, .int 0, .int 1, .int 2])) lp = some (.lst [.int 0, .int 9, .int 0, .int 1, .int 2]) := upd_same
      have h2 := (same_new (o := .lst [.int 0, .int 9, .int 0, .int 1, .int 2]) hlp) _ _ h1
      have s2 : Same H (upd H' lp (.lst [.int 0, .int 9, .int 0, .int 1, .int 2])) := fun y u h => same_new hlp y u (s1 y u h)
      generalize (upd H' lp (.lst [.int 0, .int 9, .int 0, .int 1, .int 2])) = H2 at htp2 hlp2 h2 s2
      have kk : 0 ≤ (0 + (i : Int)) % 9 := Int.emod_nonneg _ (by decide)
      refine ⟨_, rfl, _, rfl, _, _, rfl, rfl, (by show (0 : Int) < 9; decide), _, _, rfl, rfl, tp, l, _, rfl, htp2, by omega, _, rfl, _, rfl, _, _, rfl, rfl, .inl ⟨by omega, by omega⟩, _, _, rfl, rfl, _, _, rfl, rfl, (by show (0 : Int) < 5; decide), ?_⟩
      generalize hj : (atL l (3 + (0 + (i : Int)) % 9) + (0 + (i : Int)) * (0 + (i : Int))) % 5 = j
      have j0 : 0 ≤ j := by rw [← hj]; exact Int.emod_nonneg _ (by decide)
      have j5 : j < 5 := by rw [← hj]; exact Int.emod_lt_of_pos _ (by decide)
      obtain ⟨v, hv, v0⟩ : ∃ v : Int, atI [V.int 0, .int 9, .int 0, .int 1, .int 2] j = some (.int v) ∧ 0 ≤ v := by
        have : j = 0 ∨ j = 1 ∨ j = 2 ∨ j = 3 ∨ j = 4 := by omega
        rcases this with e | e | e | e | e <;> subst e
        · exact ⟨0, rfl, by decide⟩
        · exact ⟨9, rfl, by decide⟩
        · exact ⟨0, rfl, by decide⟩
        · exact ⟨1, rfl, by decide⟩
        · exact ⟨2, rfl, by decide⟩
      refine ⟨lp, _, _, _, rfl, rfl, SqL.of hlp2, (by rw [hj]; exact hv), _, h2, ?_, cs ++ [v], fun y u h => ?_, ?_, by rw [List.length_append, l1]; rfl, fun c hc => ?_⟩
      · rw [List.length_map, l1]; exact Nat.lt_of_le_of_lt (show i ≤ 100 by omega) (by decide)
      · rw [upd_ne (ne_of_none h hcl)]; exact s2 _ _ h
      · rw [upd_same, List.map_append]; rfl
      · rcases List.mem_append.mp hc with hc | hc
        · exact n1 c hc
        · rw [List.mem_singleton.mp hc]; exact v0
    · have ncl : ¬ FM p a cl := fun f => by
        obtain ⟨o, ho, _⟩ := FM.some M f
        rw [hcl] at ho; cases ho
      have M1 := M.same s1
      refine ⟨p, a, m, cl, cs, rfl, M1, h1, ncl, n1, CO.nk, CO.ne, fun H2 a2 m2 lv M2 cut hm2 S2 => ?_⟩
      have D2 : DdsAt H2 L qs ds := (D.same s1).stay (fun y o f h => S2.ou y o h fun g => sep y g f) S2.tu
      have RO := CO.rec_ m2 lv cut hm2
      refine ⟨_, rfl, _, rfl, p, a2, m2, L, qs, ds, lv, rfl, M2, D2, RO, fun H3 rp wl dl S ys s3 hrp hwl0 hwl hdl0 hdl perm srt aS => ?_⟩
      have due := CO.due lv S cut perm srt
      generalize rounds (doneL ds lv 0) 100 (fun w => shV lv (lv w)) = X at hwl due
      refine ⟨rp, _, rfl, SqT.of hrp, rfl, _, _, rfl, _, _, rfl, rfl, (by show 4 ≤ sizeLine; decide), fun du hdu => ?_⟩
      have rngS : ∀ q ∈ S, ∀ e ∈ q.2, 7 ≤ e.1 ∧ e.1 ≤ 10 := fun q hq' e he => by
        have hq2 := perm.mem_iff.mp hq'
        obtain ⟨j, E0, hE0, _, e0⟩ := DkM.doneL_mem.mp hq2
        rw [e0] at he
        exact RO.es j E0 hE0 e he
      have s4 : Same H3 (upd H3 du (.lst [.int 11, .int 12, .int 13, .int 14])) := same_new hdu
      have hd4 : (upd H3 du (.lst [.int 11, .int 12, .int 13, .int 14])) du = some (.lst (Shl fun w => w + 4)) := upd_same
      generalize (upd H3 du (.lst [.int 11, .int 12, .int 13, .int 14])) = H4 at s4 hd4
      have dw : du ≠ wl := (ne_of_none hwl hdu).symm
      have dd : du ≠ dl := (ne_of_none hdl hdu).symm
      have keep2 : ∀ y u, H3 y = some u → y ≠ du := fun y u h => ne_of_none h hdu
      refine ⟨_, rfl, dl, rfl, ⟨_, SqL.of (s4 _ _ hdl)⟩, for_list (K := K) (xs := ys) (fun i σ H5 => ∃ y6 y7 y8, σ = [some (.ref p), some (.ref tp), some (.ref L), some (.ref wl), some (.ref dl), some (.ref du), y6, y7, y8, none] ∧ Same H3 H5 ∧ H5 du = some (.lst (Shl (dueL (S.take i) fun w => w + 4))))
        ⟨none, none, none, rfl, s4, hd4⟩ (fun i σ H5 _ ⟨_, _, _, _, s, _⟩ => SqL.of (s _ _ hdl)) ?_ ?_⟩
      · rintro i v σ H5 hi ⟨z6, z7, z8, rfl, s5, h5⟩
        obtain ⟨q, hq', t, el, es, rfl, ht, hel, aes⟩ := aS.get' hi
        have hxi : dueL (S.take (i + 1)) (fun w => w + 4) = q.2.foldl putE (dueL (S.take i) fun w => w + 4) := by unfold DkM.dueL; rw [List.take_add_one, hq', List.foldl_append]; rfl
        rw [hxi]
        generalize dueL (S.take i) (fun w => w + 4) = xi at h5
        refine ⟨t, _, rfl, SqT.of (s5 _ _ ht), rfl, _, _, rfl, _, _, rfl, rfl, ?_⟩
        refine ⟨_, rfl, el, rfl, ⟨_, SqL.of (s5 _ _ (s3 _ _ hel))⟩, for_list (K := K) (xs := es) (fun j σ H6 => ∃ y8, σ = [some (.ref p), some (.ref tp), some (.ref L), some (.ref wl), some (.ref dl), some (.ref du), some (.int q.1), some (.ref el), y8, none] ∧ Same H3 H6 ∧ H6 du = some (.lst (Shl ((q.2.take j).foldl putE xi))))
          ⟨_, rfl, s5, h5⟩ (fun j σ H6 _ ⟨_, _, s, _⟩ => SqL.of (s _ _ (s3 _ _ hel))) ?_ ?_⟩
        · rintro j v σ H6 hj ⟨w8, rfl, s6, h6⟩
          obtain ⟨e, he, ep, rfl, hep⟩ := aes.get' hj
          obtain ⟨h7, h10⟩ := rngS q (List.mem_of_getElem? hq') e (List.mem_of_getElem? he)
          have hep6 := s6 _ _ (s3 _ _ hep)
          have hxj : (q.2.take (j + 1)).foldl putE xi = putE ((q.2.take j).foldl putE xi) e := by rw [List.take_add_one, he, List.foldl_append]; rfl
          rw [hxj]
          generalize (q.2.take j).foldl putE xi = xj at h6
          refine ⟨_, rfl, _, _, _, _, rfl, rfl, SqT.of hep6, atI_nat (j := 2) rfl, _, rfl, _, rfl, _, _, _, _, rfl, rfl, SqT.of hep6, atI_nat (j := 0) rfl, _, _, rfl, rfl, _, _, _, _, rfl, rfl, h6, ixN_of (by omega) (by show e.1 - 7 < ((4 : Nat) : Int); omega), ?_⟩
          rw [Shl_set h7 h10]
          exact ⟨_, rfl, fun y u h => by rw [upd_ne (keep2 y u h)]; exact s6 _ _ h, upd_same⟩
        · rintro σ H6 ⟨w8, rfl, s6, h6⟩
          rw [List.take_of_length_le (by rw [aes.len]; exact Nat.le_refl _)] at h6
          exact ⟨_, _, _, rfl, s6, h6⟩
      · rintro σ H5 ⟨z6, z7, z8, rfl, s5, h5⟩
        rw [List.take_of_length_le (by rw [aS.len]; exact Nat.le_refl _)] at h5
        have hw5 := s5 _ _ hwl
        have eS : Shl (dueL S fun w => w + 4) = Shl X := by
          unfold Shl
          rw [due 7 (by omega) (by omega), due 8 (by omega) (by omega), due 9 (by omega) (by omega), due 10 (by omega) (by omega)]
        rw [eS] at h5
        refine ⟨_, rfl, _, rfl, .list [.int (X 7), .int (X 8), .int (X 9), .int (X 10)], .list [.int (X 7), .int (X 8), .int (X 9), .int (X 10)], .lst (SqL.of hw5) (.cons (.int _) (.cons (.int _) (.cons (.int _) (.cons (.int _) .nil)))), .lst (SqL.of h5) (.cons (.int _) (.cons (.int _) (.cons (.int _) (.cons (.int _) .nil)))), ?_, ?_, ?_⟩
        · simp [SeqAt.shaped, PyData.canLay0, PyData.canLayAll0, PyData.depth, PyData.depthAll]
        · simp [SeqAt.shaped, PyData.canLay0, PyData.canLayAll0, PyData.depth, PyData.depthAll]
        · have ev : PyData.eqv (.list [.int (X 7), .int (X 8), .int (X 9), .int (X 10)]) (.list [.int (X 7), .int (X 8), .int (X 9), .int (X 10)]) = true := by simp [PyData.eqv, PyData.eqvAll]
          rw [ev]
          exact hq H5
end
end Dk

set_option Elab.async false
set_option linter.all false
set_option maxRecDepth 100000
set_option maxHeartbeats 4000000
namespace Dk
open PySem PySem.Spec PyProof.Rows L2
theorem sqL_same {K : PySem.W.Frag} {H H' : Hp} {a : Addr} {xs : List V} (h : SqL K H a xs) (e : Same H H') : SqL K H' a xs :=
  h.elim (fun h => .inl (h.elim (fun h => .inl (e _ _ h)) fun ⟨o, h⟩ => .inr ⟨o, e _ _ h⟩)) .inr
section
variable {P : Program} {w : World} {K : PySem.W.Frag} {mg : Str → Option Value} {base : Heap}
def spTape (K : PySem.W.Frag) : Sp := fun vs H Q _ => ∃ (a : Addr) (ns : List Int), vs = [.ref a] ∧ SqL K H a (ns.map V.int) ∧ ns.length ≤ 63 ∧
  ∀ (H' : Hp) (tp : Addr) (l : List Int), H tp = none → H' tp = some (.lst (l.map V.int)) → Same H H' → (∀ x ∈ l, 0 ≤ x) → l.length ≤ 4000 → Q (.ref tp) H'
/-- the tape while it is made -/
structure TpI (H H' : Hp) (tp : Addr) (n : Nat) : Prop where
  ex : ∃ l : List Int, H' tp = some (.lst (l.map V.int)) ∧ l.length ≤ n ∧ ∀ x ∈ l, 0 ≤ x
  sm : Same H H'
theorem TpI.app {H H' : Hp} {tp : Addr} {n : Nat} (I : TpI H H' tp n) (h0 : H tp = none) (hn : n ≤ 4000) {x : Int} (hx : 0 ≤ x) : ∃ xs, H' tp = some (.lst xs) ∧ xs.length < sizeLine ∧ TpI H (upd H' tp (.lst (xs ++ [.int x]))) tp (n + 1) := by
  obtain ⟨l, h1, h2, h3⟩ := I.ex
  refine ⟨_, h1, by rw [List.length_map]; exact Nat.lt_of_le_of_lt (show l.length ≤ 4000 by omega) (by decide), ⟨l ++ [x], by rw [upd_same, List.map_append]; rfl, by rw [List.length_append]; show l.length + 1 ≤ n + 1; omega, fun y hy => ?_⟩, fun y u h => ?_⟩
  · rcases List.mem_append.mp hy with hy | hy
    · exact h3 y hy
    · rw [List.mem_singleton.mp hy]; exact hx
  · rw [upd_ne (ne_of_none h h0)]; exact I.sm _ _ h
theorem TpI.mono {H H' : Hp} {tp : Addr} {n k : Nat} (I : TpI H H' tp n) (h : n ≤ k) : TpI H H' tp k := by
  obtain ⟨l, h1, h2, h3⟩ := I.ex
  exact ⟨⟨l, h1, by omega, h3⟩, I.sm⟩
theorem ok_law_tape (T : Tx w K mg) : Cal P w K mg base 1 (He.ga K "_law_tape") ["_law_script"] (spTape K) := by
  refine mkCal T.F_law_tape sc_law_tape (fun vs H Q E h => ?_) (fun _ _ _ _ _ _ us hl => match us, hl with | [_], _ => rfl) fun cdv A outer s H vs Q E hr h => ?_
  · obtain ⟨a, ns, rfl, _⟩ := h
    rfl
  · obtain ⟨a, ns, rfl, hs, hl, hq⟩ := h
    have nd := sc_law_tape.nd
    refine ⟨_, pss_cons (ps_set (i := 1) nd rfl (Or.inl rfl) (pe_lst pa_nil)) (pss_cons (ps_for PassesOwn.never rfl (pi_range1 (by rfl) T.f_range (pa_cons (pe_callB call_len_seq (by rfl) T.f_len (by decide +kernel) (pa_cons (pv 0) pa_nil)) pa_nil)) (pg_name (i := 2) nd rfl (Or.inl rfl)) (pss_cons (ps_set (i := 3) nd rfl (Or.inl rfl) (pe_callB call_abs (by rfl) T.f_abs (by decide +kernel) (pa_cons (pe_callTy call_int1 (by rfl) T.f_int (by decide +kernel) (pa_cons (pe_ix ix_list (pv 0) (pv 2) (fun _ _ => rfl)) pa_nil)) pa_nil))) (pss_one (ps_if (pt_cmpR op_ge (pv 3) (pe_op op_pow pe_int pe_int) (nomark _)) (pss_one (ps_for PassesOwn.never rfl (pi_range1 (by rfl) T.f_range (pa_cons pe_int pa_nil)) (pg_name (i := 4) nd rfl (Or.inl rfl)) (pss_one (ps_if (pt_cmpR op_gt (pv 3) pe_int (nomark _)) (pss_cons (ps_expr (pe_bm PySem.F.plainAttrs_list PySem.F.slot_list_append PySem.F.type_list_append mt_append (pv 1) (pa_cons (pe_op op_mod (pv 3) pe_int) pa_nil))) (pss_one (ps_set (i := 3) nd rfl (Or.inl rfl) (pe_op op_fdiv (pv 3) pe_int)))) pss_nil)))) (pss_one (ps_for PassesOwn.never rfl (pi_range1 (by rfl) T.f_range (pa_cons pe_int pa_nil)) (pg_name (i := 4) nd rfl (Or.inl rfl)) (pss_cons (ps_set (i := 3) nd rfl (Or.inl rfl) (pe_op op_mod (pe_op op_add (pe_op op_add (pe_op op_mul (pv 3) pe_int) (pe_op op_mul pe_int (pe_op op_add (pv 2) pe_int))) (pe_op op_mul pe_int (pv 4))) pe_int)) (pss_cons (ps_set (i := 3) nd rfl (Or.inl rfl) (pe_op op_mod (pe_op op_mul (pv 3) pe_int) pe_int)) (pss_one (ps_expr (pe_bm PySem.F.plainAttrs_list PySem.F.slot_list_append PySem.F.type_list_append mt_append (pv 1) (pa_cons (pe_op op_mod (pe_op op_fdiv (pv 3) pe_int) pe_int) pa_nil)))))))))))) (pss_one (ps_ret (pv 1)))), ?_⟩
    refine ⟨(by show 0 ≤ sizeLine; decide), fun tp htp => ?_⟩
    have I0 : TpI H (upd H tp (.lst [])) tp 0 := ⟨⟨[], upd_same, Nat.le_refl _, fun x h => by cases h⟩, same_new htp⟩
    refine ⟨_, rfl, _, _, rfl, .inl (sqL_same hs I0.sm), (ns.length : Int), by rw [List.length_map], by omega, by omega, ?_⟩
    refine for_range (lo := 0) (n := (ns.length : Int).toNat) (fun i σ H3 => ∃ y2 y3 y4, σ = [some (.ref a), some (.ref tp), y2, y3, y4] ∧ TpI H H3 tp (60 * i)) ⟨none, none, none, rfl, I0⟩ ?_ ?_
    · rintro i σ H3 hi ⟨y2, y3, y4, rfl, I3⟩
      have hi : i < ns.length := by omega
      have hat : atI (ns.map V.int) (0 + (i : Int)) = some (.int ns[i]) := by rw [Int.zero_add]; exact atI_nat (by rw [List.getElem?_map, List.getElem?_eq_getElem hi]; rfl)
      refine ⟨_, rfl, _, rfl, _, _, _, _, rfl, rfl, sqL_same hs I3.sm, hat, .inl ⟨_, rfl, _, rfl, ?_⟩⟩
      generalize hv : (if ns[i] < 0 then -ns[i] else ns[i]) = v
      have v0 : 0 ≤ v := by rw [← hv]; split <;> omega
      refine ⟨_, rfl, _, _, rfl, rfl, ⟨by decide, by decide, by decide⟩, _, _, rfl, rfl, _, rfl, ?_⟩
      by_cases c : (10 : Int) ^ (18 : Int).toNat ≤ v
      · refine iteT' (decide_eq_true c) ⟨60, rfl, by omega, by omega, ?_⟩
        refine for_range (lo := 0) (n := 60) (fun j σ H4 => ∃ u y4, σ = [some (.ref a), some (.ref tp), some (.int (0 + (i : Int))), some (.int u), y4] ∧ TpI H H4 tp (60 * i + j)) ⟨v, y4, rfl, I3⟩ ?_ ?_
        · rintro j σ H4 hj ⟨u, z4, rfl, I4⟩
          refine ⟨_, rfl, _, _, rfl, rfl, _, rfl, ?_⟩
          by_cases cu : 0 < u
          · refine iteT' (decide_eq_true cu) ?_
            obtain ⟨xs, h1, h2, I5⟩ := I4.app htp (by omega) (x := u % 1000) (Int.emod_nonneg _ (by decide))
            refine ⟨_, rfl, .inl ⟨rfl, _, SqL.of h1⟩, _, rfl, _, _, rfl, rfl, (by show (0 : Int) < 1000; decide), _, _, _, rfl, rfl, h1, h2, ?_⟩
            refine ⟨_, rfl, _, _, rfl, rfl, ⟨by decide, by decide⟩, ?_⟩
            exact ⟨_, _, rfl, I5⟩
          · refine iteF' (decide_eq_false cu) ?_
            exact ⟨_, _, rfl, I4.mono (by omega)⟩
        · rintro σ H4 ⟨u, z4, rfl, I4⟩
          exact ⟨_, _, _, rfl, I4.mono (by omega)⟩
      · refine iteF' (decide_eq_false c) ⟨4, rfl, by omega, by omega, ?_⟩
        refine for_range (lo := 0) (n := 4) (fun j σ H4 => ∃ u y4, σ = [some (.ref a), some (.ref tp), some (.int (0 + (i : Int))), some (.int u), y4] ∧ TpI H H4 tp (60 * i + j)) ⟨v, y4, rfl, I3⟩ ?_ ?_
        · rintro j σ H4 hj ⟨u, z4, rfl, I4⟩
          refine ⟨_, rfl, _, _, rfl, rfl, .inr ⟨by decide, by decide⟩, _, rfl, _, _, rfl, rfl, _, _, rfl, rfl, .inl ⟨by decide, by decide⟩, _, _, rfl, rfl, _, rfl, _, _, rfl, rfl, .inl ⟨by decide, by decide⟩, _, _, rfl, rfl, _, _, rfl, rfl, (by show (0 : Int) < 2147483647; decide), ?_⟩
          refine ⟨_, rfl, _, _, rfl, rfl, .inr ⟨by decide, by decide⟩, _, _, rfl, rfl, (by show (0 : Int) < 2147483647; decide), ?_⟩
          refine ⟨_, rfl, .inl ⟨rfl, _, SqL.of (I4.app (x := 0) htp (by omega) (Int.le_refl _)).choose_spec.1⟩, _, rfl, _, _, rfl, rfl, ⟨by decide, by decide⟩, _, _, rfl, rfl, (by show (0 : Int) < 1000; decide), ?_⟩
          obtain ⟨xs, h1, h2, I5⟩ := I4.app htp (by omega) (x := ((u * 48271 + 69621 * (0 + (i : Int) + 1) + 7 * (0 + (j : Int))) % 2147483647 * 16807 % 2147483647) / 1000 % 1000) (Int.emod_nonneg _ (by decide))
          exact ⟨_, _, _, rfl, rfl, h1, h2, _, _, rfl, I5⟩
        · rintro σ H4 ⟨u, z4, rfl, I4⟩
          exact ⟨_, _, _, rfl, I4.mono (by omega)⟩
    · rintro σ H3 ⟨y2, y3, y4, rfl, I3⟩
      obtain ⟨l, h1, h2, h3⟩ := I3.ex
      exact ⟨_, rfl, hq H3 tp l htp h1 I3.sm h3 (by omega)⟩
end
end Dk

set_option Elab.async false
set_option linter.all false
set_option maxRecDepth 100000
set_option maxHeartbeats 4000000
namespace Dk
open PySem PySem.Spec PyProof.Rows L2
open DkM (TV Mem DS Req Ent Deed upC upC_same upC_ne Ad Sc mkA Dec EsOk shUp fitD fitUp isDon beginM nwA Inv Good doneL rounds round stepE dueL putE shV tmV)
/-! ### behind a cut -/
theorem done_nodup {lv : Int → TV} : ∀ (l : List Deed) (k : Nat), (∀ (i j : Nat), i < l.length → j < l.length → isDon (lv (Sc (k + i))) = true → isDon (lv (Sc (k + j))) = true → tmV (lv (Sc (k + i))) = tmV (lv (Sc (k + j))) → i = j) → ((doneL l lv k).map fun p => p.1).Nodup
  | [], _, _ => List.nodup_nil
  | D :: r, k, h => by
    have ih := done_nodup r (k + 1) fun i j hi hj a b c => by
      have e1 : k + 1 + i = k + (i + 1) := by omega
      have e2 : k + 1 + j = k + (j + 1) := by omega
      rw [e1] at a c
      rw [e2] at b c
      have := h (i + 1) (j + 1) (by rw [List.length_cons]; omega) (by rw [List.length_cons]; omega) a b c
      omega
    show ((if isDon (lv (Sc k)) then (tmV (lv (Sc k)), D.es) :: doneL r lv (k + 1) else doneL r lv (k + 1)).map fun p => p.1).Nodup
    cases hd : isDon (lv (Sc k)) with
    | false => exact ih
    | true =>
      refine List.nodup_cons.mpr ⟨fun hm => ?_, ih⟩
      obtain ⟨p, hp, e⟩ := List.mem_map.mp hm
      obtain ⟨j, E, hE, hdE, ep⟩ := DkM.doneL_mem.mp hp
      have hj := (List.getElem?_eq_some_iff.mp hE).1
      have e1 : k + 1 + j = k + (j + 1) := by omega
      rw [e1] at hdE ep
      have := h 0 (j + 1) (by rw [List.length_cons]; omega) (by rw [List.length_cons]; omega) hd hdE (by rw [ep] at e; exact e.symm)
      omega
theorem cut_fine {m : Mem} {ds : List Deed} {sh : Int → Int} {dn : Int → List Nat} (I : Inv m ds sh dn) (S : DkM.Sz m) : CutOk m ds := by
  have stv : ∀ (lv : Int → TV), DkM.Cut m lv → ∀ (i : Nat), i < ds.length → StV (lv (Sc i)) := fun lv C i hi => by
    have hD : ds[i]? = some ds[i] := List.getElem?_eq_getElem hi
    have i24 := inv_i24 I hD
    have hm := C (Sc i) (by unfold Sc; omega) (by unfold Sc; omega)
    rcases I.sv i _ hD with h | ⟨_, h⟩
    · rw [h] at hm
      rw [List.mem_singleton.mp hm]; exact inv_stv I hD
    · rw [h] at hm
      rcases List.mem_cons.mp hm with e | e
      · rw [e]; exact .inl rfl
      · rw [List.mem_singleton.mp e]; exact inv_stv I hD
  refine ⟨Nk.of S, I.ne, fun m' lv C hm => ?_, fun lv S C hp ho w h7 h10 => DkM.cut_ok I C h7 h10 hp ho rfl⟩
  have la : ∀ c, 4 ≤ c → c ≤ 200 → m'.last c = lv c ∧ m'.tr c ≠ [] := fun c c0 c1 => by
    refine ⟨?_, by rw [hm c c0 c1]; intro z; cases z⟩
    unfold DkM.Mem.last
    rw [hm c c0 c1]; rfl
  refine ⟨la, fun w h7 h10 => ?_, I.n24, fun i D hD e he => inv_ent I hD he, stv lv C, ?_⟩
  · obtain ⟨l1, l2⟩ := la w (by omega) (by omega)
    have hw := C w (by omega) (by omega)
    rcases I.tr w _ h7 h10 hw with ⟨a, _, e⟩ | ⟨i, D, ev, hD, he, hew, e, _⟩
    · refine ⟨⟨l2, .inl ⟨a, by rw [l1, e]⟩⟩, ?_⟩
      unfold shM
      rw [l1, e]; rfl
    · have i24 := inv_i24 I hD
      obtain ⟨s1, s2⟩ := la (Sc i) (by unfold Sc; omega) (by unfold Sc; omega)
      have sv := stv lv C i (List.getElem?_eq_some_iff.mp hD).1
      refine ⟨⟨l2, .inr ⟨Ad i, Sc i, ev.2.1, ev.2.2, by rw [l1, e]; rfl, by unfold Sc; omega, by unfold Sc; omega, s2, by rw [s1]; exact sv⟩⟩, ?_⟩
      unfold shM
      rw [l1, e]
      show (if isDon (m'.last (Sc i)) then ev.2.2 else ev.2.1) = if isDon (lv (Sc i)) then ev.2.2 else ev.2.1
      rw [s1]
  · refine done_nodup ds 0 fun i j hi hj a b c => ?_
    rw [Nat.zero_add] at a b c
    rw [Nat.zero_add] at c
    have hD : ds[i]? = some ds[i] := List.getElem?_eq_getElem hi
    have hE : ds[j]? = some ds[j] := List.getElem?_eq_getElem hj
    have e1 := I.lvst C hD a
    have e2 := I.lvst C hE b
    refine I.dti i j _ _ hD hE (by rw [← e1]; exact a) ?_
    rw [← e1, ← e2]
    generalize lv (Sc i) = x at a c
    generalize lv (Sc j) = y at b c
    cases x <;> first | (cases a; done) | (cases y <;> first | (cases b; done) | (have c : _ = _ := c; exact congrArg TV.don c))
section
variable {K : PySem.W.Frag}
theorem mkSt {H1 : Hp} {R : Addr → Hp → Prop} {q : Addr} {b : DA} {d : DS} {E : XK} (D : DoA K H1 q b d) (h : ∀ x a H', StkA K H' x a [d] → Stp (FD q b) H1 (FS x a) H' → R x H') :
    ∀ x dx, H1 x = none → H1 dx = none → dx ≠ x → spStI K [.ref x, .ref q] (upd (upd H1 dx (.own x)) x (.ins (CS K) dx [])) (fun v H2 => v = .non ∧ R x H2) E := by
  intro x dx hx hdx n
  have keep : ∀ y o, H1 y = some o → (upd (upd H1 dx (.own x)) x (.ins (CS K) dx [])) y = some o := fun y o hy => by rw [upd_ne (ne_of_none hy hx), upd_ne (ne_of_none hy hdx)]; exact hy
  refine ⟨x, dx, q, b, d, rfl, upd_same, D.same keep, fun f => ?_, fun H' a S s => ⟨rfl, h x a H' S ⟨fun y f => ?_, fun y o hy f => s.ou y o (keep y o hy) fun z => ?_, fun y ys hy => s.tu y ys (keep y _ hy)⟩⟩⟩
  · obtain ⟨o, ho, _⟩ := FD.some D f
    rw [hx] at ho; cases ho
  · rcases s.nw y f with (z | z) | z
    · exact .inr (by rw [z]; exact hx)
    · exact .inl z
    · right
      cases c : H1 y with
      | none => rfl
      | some o => rw [keep y o c] at z; cases z
  · rcases z with z | z
    · rw [z, hx] at hy; cases hy
    · exact f z
end
end Dk

set_option Elab.async false
set_option linter.all false
set_option maxRecDepth 100000
set_option maxHeartbeats 4000000
namespace Dk
open PySem PySem.Spec PyProof.Rows L2
open DkM (TV Mem DS Req Ent Deed upC upC_same upC_ne Ad Sc mkA Dec EsOk shUp fitD fitUp isDon beginM nwA Inv Good StepW Pk Rd En Al)
section
variable {P : Program} {w : World} {K : PySem.W.Frag} {mg : Str → Option Value} {base : Heap}
def spLaw (K : PySem.W.Frag) : Sp := fun vs H Q _ => ∃ (a : Addr) (ns : List Int), vs = [.ref a] ∧ SqL K H a (ns.map V.int) ∧ ns.length ≤ 63 ∧ ∀ H', Q (.bl true) H'
theorem atL_nn {l : List Int} (h : ∀ x ∈ l, 0 ≤ x) (k : Int) : 0 ≤ atL l k := by
  unfold atL
  rw [List.getD_eq_getElem?_getD]
  cases e : l[k.toNat]? with
  | none => exact Int.le_refl _
  | some x => exact h x (List.mem_of_getElem? e)
theorem mkFnOk {st : Stmt} {x qual : Str} {f : Addr} {fd : FuncData} {N ps : List Str} {k : Nat} {sp : Sp} (F : FunD K x qual (defArgs st) (defBody st) (defScope st) [] [] f fd)
    (S : FnScope N ps (defScope st)) (len : ∀ vs H Q E, sp vs H Q E → vs.length = ps.length)
    (hbody : ∀ (cdv : Value) (A : Around) (outer : List Env) (s : Shared) (H : Hp) (vs : List V) (Q : VK) (E : XK), Room k (A.deeper (envOfC qual (defScope st) s.heap.objs.size f cdv)) → sp vs H Q E →
      ∃ t, PSs (cxOf CX0 P w K mg base N qual (defScope st) f cdv A outer s H E).nox (defBody st) t ∧ t { nx := fun _ H' => Q .non H', rt := Q } (start N vs) H) : FnOk P w K mg base CX0 (k + 1) f fd ps sp :=
  F.ok S len fun cdv A outer s H vs Q E hr h => by
    obtain ⟨t, h1, h2⟩ := hbody cdv A outer s H vs Q E hr h
    exact ⟨t, PSs.nox h1, h2⟩
theorem ok_law (T : Tx w K mg) {fd : FuncData} (F : FunD K "law" "law" (defArgs s_law) (defBody s_law) (defScope s_law) [] [] (He.ga K "law") fd) : FnOk P w K mg base CX0 10 (He.ga K "law") fd ["_law_script"] (spLaw K) := by
  refine mkFnOk F sc_law (fun vs H Q E h => ?_) fun cdv A outer s H vs Q E hr h => ?_
  · obtain ⟨a, ns, rfl, _⟩ := h
    rfl
  · obtain ⟨sa, ns, rfl, hsq, hns, hq⟩ := h
    have nd := sc_law.nd
    obtain ⟨fd, FI, ⟨ds0, bd, bI⟩, _⟩ := (ok_DoI (P := P) (base := base) T).ex
    refine ⟨_, pss_cons (ps_set (i := 1) nd rfl (Or.inl rfl) (pe_callC (ok_law_tape T) (hr.mono (by decide)) rfl T.g_law_tape (pa_cons (pv 0) pa_nil))) (pss_cons (ps_set (i := 2) nd rfl (Or.inl rfl) (pe_op op_add pe_int (pe_op op_mod (pe_callC (ok_law_at T) (hr.mono (by decide)) rfl T.g_law_at (pa_cons (pv 1) (pa_cons pe_int pa_nil))) pe_int))) (pss_cons (ps_set (i := 3) nd rfl (Or.inr rfl) (pe_makeC T.k_Memory (ok_MI T) (hr.mono (by decide)) rfl T.g_Memory (pa_cons (pe_makeC T.k_Layout (ok_LI T) (hr.mono (by decide)) rfl T.g_Layout (pa_cons pe_int (pa_cons pe_int (pa_cons pe_int pa_nil)))) pa_nil))) (pss_cons (ps_setLc (i := 5) (own := [("_law_index", 4)]) (g := gName 4) (tt := tYes) (by rfl) nd rfl rfl (sw_true rfl rfl rfl (by decide +kernel)) (pi_range1 (by rfl) T.f_range (pa_cons pe_int pa_nil)) (blkOk_by (own := [("_law_index", 4)]) (N := ["_law_script", "_law_tape_here", "_law_threads", "_law_memory", "_law_index", "_law_shown_here", "_law_deeds", "_law_stacks", "_law_doing", "_law_k", "_law_number", "_law_thread", "_law_cell", "_law_address", "_law_first", "_law_turn"]) (sc := defScope s_law) (by decide +kernel)) (fun _ _ _ _ _ => pg_name (i := 4) nd rfl (Or.inl rfl)) (fun _ _ _ _ _ => pts_nil) (fun _ _ _ _ _ => (pe_methC (pv 3) T.c_Memory T.m_Memory_peek (ok_peek T) (hr.mono (by decide)) (pa_cons (pe_op op_add pe_int (pv 4)) pa_nil)))) (pss_cons (ps_set (i := 6) nd rfl (Or.inl rfl) (pe_lst pa_nil)) (pss_cons (ps_set (i := 7) nd rfl (Or.inl rfl) (pe_lst (pa_cons pe_non (pa_cons pe_non (pa_cons pe_non pa_nil))))) (pss_cons (ps_set (i := 8) nd rfl (Or.inl rfl) (pe_lst (pa_cons pe_int (pa_cons pe_int (pa_cons pe_int pa_nil))))) (pss_cons (ps_for PassesOwn.never rfl (pi_range1 (by rfl) T.f_range (pa_cons (pe_callB (call_min2 rfl) (by rfl) T.f_min (by decide +kernel) (pa_cons pe_int (pa_cons (pe_callB (call_max2 rfl) (by rfl) T.f_max (by decide +kernel) (pa_cons pe_int (pa_cons (pe_op op_sub (pe_callB call_len_seq (by rfl) T.f_len (by decide +kernel) (pa_cons (pv 1) pa_nil)) pe_int) pa_nil))) pa_nil))) pa_nil)) (pg_name (i := 9) nd rfl (Or.inl rfl)) (pss_cons (ps_set (i := 10) nd rfl (Or.inl rfl) (pe_callC (ok_law_at T) (hr.mono (by decide)) rfl T.g_law_at (pa_cons (pv 1) (pa_cons (pe_op op_add (pv 9) pe_int) pa_nil)))) (pss_cons (ps_set (i := 11) nd rfl (Or.inl rfl) (pe_op op_mod (pv 10) (pv 2))) (pss_cons (ps_if (PW.pt (pw_and (pt_cmpR op_eq (pe_op op_mod (pv 10) pe_int) pe_int (nomark _)) (pw_and1 (pt_cmpR op_gt (pe_callB call_len_seq (by rfl) T.f_len (by decide +kernel) (pa_cons (pv 6) pa_nil)) pe_int (nomark _))))) (pss_cons (ps_set (i := 12) nd rfl (Or.inl rfl) (pe_ix ix_list (pe_lst (pa_cons pe_int (pa_cons pe_int (pa_cons pe_int (pa_cons pe_int (pa_cons (pe_op op_add (pe_ix ix_list (pe_ix ix_list (pv 6) (pe_un un_neg pe_int) (fun _ _ => rfl)) pe_int (fun _ _ => rfl)) pe_int) pa_nil)))))) (pe_op op_mod (pe_op op_fdiv (pv 10) pe_int) pe_int) (fun _ _ => rfl))) (pss_one (ps_expr (pe_methC (pv 3) T.c_Memory T.m_Memory_drift (ok_drift T) (hr.mono (by decide)) (pa_cons (pv 12) (pa_cons (pe_op op_mod (pe_op op_fdiv (pv 10) pe_int) pe_int) pa_nil)))))) pss_nil) (pss_cons (ps_if (pt_cmpR op_isN (pe_ix ix_list (pv 7) (pv 11) (fun _ _ => rfl)) pe_non (nomark _)) (pss_cons (ps_set (i := 13) nd rfl (Or.inl rfl) (pe_callC (ok_law_begin T) (hr.mono (by decide)) rfl T.g_law_begin (pa_cons (pv 3) (pa_cons (pv 11) (pa_cons (pv 6) (pa_cons (pv 5) (pa_cons (pe_op op_fdiv (pv 10) pe_int) (pa_cons (pe_op op_add (pe_callC (ok_law_at T) (hr.mono (by decide)) rfl T.g_law_at (pa_cons (pv 1) (pa_cons (pe_op op_add (pv 9) pe_int) pa_nil))) (pv 10)) pa_nil)))))))) (pss_cons (ps_asg (pv 13) (pg_sub (pv 8) (pv 11) set_list)) (pss_one (ps_asg (pe_makeC T.k_Stack (ok_StI T) (hr.mono (by decide)) rfl T.g_Stack (pa_cons (pe_make T.k_Doing FI (hr.mono (by decide)) rfl T.g_Doing bI bd pass0 (pa_cons (pv 13) pa_nil)) pa_nil)) (pg_sub (pv 7) (pv 11) set_list))))) pss_nil) (pss_one (ps_if (pt_not (pt_val (pe_callC (ok_law_step T) (hr.mono (by decide)) rfl T.g_law_step (pa_cons (pv 3) (pa_cons (pv 11) (pa_cons (pv 7) (pa_cons (pv 8) (pa_cons (pv 6) (pa_cons (pv 5) pa_nil))))))))) (pss_one (ps_ret pe_bl)) pss_nil))))))) (pss_cons (ps_if (pt_cmpR op_eq (pe_op op_mod (pe_callC (ok_law_at T) (hr.mono (by decide)) rfl T.g_law_at (pa_cons (pv 1) (pa_cons pe_int pa_nil))) pe_int) pe_int (nomark _)) (pss_one (ps_ret (pe_callC (ok_law_cut T) (hr.mono (by decide)) rfl T.g_law_cut (pa_cons (pv 3) (pa_cons (pv 1) (pa_cons (pv 6) pa_nil)))))) pss_nil) (pss_cons (ps_set (i := 14) nd rfl (Or.inl rfl) (pe_op op_mod (pe_callC (ok_law_at T) (hr.mono (by decide)) rfl T.g_law_at (pa_cons (pv 1) (pa_cons pe_int pa_nil))) (pv 2))) (pss_cons (ps_for PassesOwn.never rfl (pi_range1 (by rfl) T.f_range (pa_cons (pv 2) pa_nil)) (pg_name (i := 15) nd rfl (Or.inl rfl)) (pss_one (ps_if (pt_not (pt_val (pe_callC (ok_law_end T) (hr.mono (by decide)) rfl T.g_law_end (pa_cons (pv 3) (pa_cons (pe_op op_mod (pe_op op_add (pv 14) (pv 15)) (pv 2)) (pa_cons (pv 7) (pa_cons (pv 8) (pa_cons (pv 6) (pa_cons (pv 5) pa_nil))))))))) (pss_one (ps_ret pe_bl)) pss_nil))) (pss_cons (ps_for PassesOwn.never rfl (pi_range1 (by rfl) T.f_range (pa_cons pe_int pa_nil)) (pg_name (i := 4) nd rfl (Or.inl rfl)) (pss_one (ps_if (pt_cmpR (op_neD hr.units) (pe_methC (pv 3) T.c_Memory T.m_Memory_peek (ok_peek T) (hr.mono (by decide)) (pa_cons (pe_op op_add pe_int (pv 4)) pa_nil)) (pe_ix ix_list (pv 5) (pv 4) (fun _ _ => rfl)) (nomark _)) (pss_one (ps_ret pe_bl)) pss_nil))) (pss_one (ps_ret pe_bl))))))))))))), ?_⟩
    refine ⟨_, rfl, sa, ns, rfl, hsq, hns, fun H1 tp l htp0 htp1 s1 lnn ll => ?_⟩
    refine ⟨_, rfl, tp, l, 0, rfl, htp1, by omega, _, _, rfl, rfl, (by show (0 : Int) < 2; decide), _, _, rfl, rfl, ?_⟩
    dsimp only
    generalize hthr : 2 + atL l 0 % 2 = thr
    have thr23 : thr = 2 ∨ thr = 3 := by
      have h1 := Int.emod_nonneg (atL l 0) (show (2 : Int) ≠ 0 by decide)
      have h2 := Int.emod_lt_of_pos (atL l 0) (show (0 : Int) < 2 by decide)
      omega
    -- the memory
    intro lay ldx hlay hldx nl
    have k1 : ∀ y o, H1 y = some o → (upd (upd H1 ldx (.own lay)) lay (.ins (CL K) ldx [])) y = some o := fun y o hy => by rw [upd_ne (ne_of_none hy hlay), upd_ne (ne_of_none hy hldx)]; exact hy
    refine ⟨lay, ldx, rfl, upd_same, fun H2 B2 => ⟨rfl, ?_⟩⟩
    have s2 : Same H1 H2 := fun y o h => B2.ou y o (k1 y o h) (ne_of_none h hlay)
    intro mp mdx hmp hmdx nm
    have k2 : ∀ y o, H2 y = some o → (upd (upd H2 mdx (.own mp)) mp (.ins (CM K) mdx [])) y = some o := fun y o hy => by rw [upd_ne (ne_of_none hy hmp), upd_ne (ne_of_none hy hmdx)]; exact hy
    refine ⟨mp, mdx, lay, rfl, upd_same, ⟨ldx, k2 _ _ B2.ob⟩, (ne_of_none B2.ob hmp).symm, fun H3 a0 M3 fr3 ou3 tu3 => ⟨rfl, ?_⟩⟩
    have s3 : Same H1 H3 := fun y o h => ou3 y o (k2 y o (s2 y o h)) (ne_of_none (s2 y o h) hmp)
    have frM : ∀ y, FM mp a0 y → H1 y = none := fun y f => by
      cases c : H1 y with
      | none => rfl
      | some o =>
        rcases fr3 y f with z | z | z
        · rw [z] at c
          rw [s2 _ _ c] at hmp; cases hmp
        · rw [z] at c
          rw [hlay] at c; cases c
        · rw [k2 _ _ (s2 _ _ c)] at z; cases z
    have ini : ∀ i : Nat, i < 4 → DkM.initM.tr (7 + (0 + (i : Int))) = [.int (7 + (0 + (i : Int)) + 4)] := fun i hi => by
      show (if 7 ≤ 7 + (0 + (i : Int)) ∧ 7 + (0 + (i : Int)) ≤ 10 then [TV.int (7 + (0 + (i : Int)) + 4)] else _) = _
      rw [if_pos (by omega)]
    refine ⟨4, rfl, by omega, by omega, fun sl hsl => ?_⟩
    refine lc_range (lo := 0) (n := 4) (fun i H' => Same H3 H' ∧ H' sl = some (.lst ((Shl fun w => w + 4).take i))) ⟨same_new hsl, upd_same⟩ (fun i H' hi ⟨s4, h4⟩ => ⟨rfl, ?_⟩) fun H4 ⟨s4, h4⟩ => ?_
    · have M4 := M3.same s4
      refine ⟨_, rfl, mp, _, _, rfl, M4.ob, mem_no _ _ (by decide +kernel), _, rfl, _, _, rfl, rfl, mp, a0, _, _, rfl, M4, by omega, by omega, (by rw [ini i hi]; intro z; cases z), fun x rx => ?_⟩
      have el : DkM.initM.last (7 + (0 + (i : Int))) = .int (7 + (0 + (i : Int)) + 4) := by unfold DkM.Mem.last; rw [ini i hi]; rfl
      rw [el] at rx
      have rx : x = .int (7 + (0 + (i : Int)) + 4) := rx
      refine ⟨_, h4, ?_, fun y u h => ?_, ?_⟩
      · rw [List.length_take]; exact Nat.lt_of_le_of_lt (Nat.le_trans (Nat.min_le_right _ _) (show 4 ≤ 4 from Nat.le_refl 4)) (by decide)
      · rw [upd_ne (ne_of_none h hsl)]; exact s4 _ _ h
      · rw [upd_same, rx, List.take_add_one]
        have : i = 0 ∨ i = 1 ∨ i = 2 ∨ i = 3 := by omega
        rcases this with e | e | e | e <;> subst e <;> rfl
    have h4 : H4 sl = some (.lst (Shl fun w => w + 4)) := h4
    refine ⟨(by show 0 ≤ sizeLine; decide), fun L hL => ?_⟩
    refine ⟨(by show 3 ≤ sizeLine; decide), fun tl htl => ?_⟩
    refine ⟨(by show 3 ≤ sizeLine; decide), fun wl hwl => ?_⟩
    have s5 : Same H4 (upd (upd (upd H4 L (.lst [])) tl (.lst [.non, .non, .non])) wl (.lst [.int 0, .int 0, .int 0])) := fun y o h => same_new hwl y o (same_new htl y o (same_new hL y o h))
    have hL5 : (upd (upd (upd H4 L (.lst [])) tl (.lst [.non, .non, .non])) wl (.lst [.int 0, .int 0, .int 0])) L = some (.lst []) := same_new hwl _ _ (same_new htl _ _ upd_same)
    have hT5 : (upd (upd (upd H4 L (.lst [])) tl (.lst [.non, .non, .non])) wl (.lst [.int 0, .int 0, .int 0])) tl = some (.lst [.non, .non, .non]) := same_new hwl _ _ upd_same
    have hW5 : (upd (upd (upd H4 L (.lst [])) tl (.lst [.non, .non, .non])) wl (.lst [.int 0, .int 0, .int 0])) wl = some (.lst [.int 0, .int 0, .int 0]) := upd_same
    have tL : tl ≠ L := fun e => by rw [e, upd_same] at htl; cases htl
    have wT : wl ≠ tl := fun e => by rw [e, upd_same] at hwl; cases hwl
    have wL : wl ≠ L := fun e => by rw [e, same_new htl _ _ upd_same] at hwl; cases hwl
    have htl4 : H4 tl = none := by rw [upd_ne tL] at htl; exact htl
    have hwl4 : H4 wl = none := by rw [upd_ne wT, upd_ne wL] at hwl; exact hwl
    generalize (upd (upd (upd H4 L (.lst [])) tl (.lst [.non, .non, .non])) wl (.lst [.int 0, .int 0, .int 0])) = H5 at s5 hL5 hT5 hW5
    have M4 := M3.same s4
    have M5 := M4.same s5
    have dM : ∀ y, H4 y = none → ¬ FM mp a0 y := fun y h f => by
      obtain ⟨o, ho, _⟩ := FM.some M4 f
      rw [h] at ho; cases ho
    have slM : ¬ FM mp a0 sl := fun f => by
      obtain ⟨o, ho, _⟩ := FM.some M3 f
      rw [hsl] at ho; cases ho
    have slN : ∀ y, H4 y = none → sl ≠ y := fun y h e => by rw [← e, h4] at h; cases h
    have G5 : Gx K H5 (GS.mk mp a0 DkM.initM L [] [] sl (fun w => w + 4) tl (fun _ => none) (fun _ => []) wl (fun _ => 0)) := by
      exact {
        X := ⟨M5, ⟨hL5, rfl, fun i D h => (by simp at h), fun i j x y h => (by simp at h), fun x h => (by cases h), fun x h => (by cases h)⟩, s5 _ _ h4, fun y f h => by
          rcases h with (h | ⟨x, hx, _⟩) | h
          · rw [h] at f; exact dM L hL f
          · cases hx
          · rw [h] at f; exact slM f, fun h => by
          rcases h with h | ⟨x, hx, _⟩
          · exact slN L hL h
          · cases hx⟩
        T := hT5
        S0 := fun _ _ _ _ => rfl
        S1 := fun t x _ _ h => by cases h
        Dl := hW5
        ss := fun _ _ _ _ _ _ _ y f => f.elim
        sm := fun _ _ _ y f => f.elim
        sx := fun _ _ _ y f => f.elim
        st := fun _ _ _ f => f.elim
        sw := fun _ _ _ f => f.elim
        tm := dM tl htl4
        tx := fun h => by
          rcases h with (h | ⟨x, hx, _⟩) | h
          · exact tL h
          · cases hx
          · exact slN tl htl4 h.symm
        wm := dM wl hwl4
        wx := fun h => by
          rcases h with (h | ⟨x, hx, _⟩) | h
          · exact wL h
          · cases hx
          · exact slN wl hwl4 h.symm
        tw := wT.symm }
    have htp5 : H5 tp = some (.lst (l.map V.int)) := s5 _ _ (s4 _ _ (s3 _ _ htp1))
    have ntp5 : ¬ FG (GS.mk mp a0 DkM.initM L [] [] sl (fun w => w + 4) tl (fun _ => none) (fun _ => []) wl (fun _ => 0)) tp := by
      have c4 := s4 _ _ (s3 _ _ htp1)
      intro h
      rcases h with h | ((h | ⟨x, hx, _⟩) | h) | h | h | ⟨t, _, _, h⟩
      · have := frM tp h
        rw [htp1] at this; cases this
      · have h : tp = L := h
        rw [h, hL] at c4; cases c4
      · cases hx
      · have h : tp = sl := h
        have := s3 _ _ htp1
        rw [h, hsl] at this; cases this
      · have h : tp = tl := h
        rw [h, htl4] at c4; cases c4
      · have h : tp = wl := h
        rw [h, hwl4] at c4; cases c4
      · exact h
    -- the picks
    refine ⟨_, rfl, _, _, rfl, .inl (SqL.of htp5), _, _, rfl, rfl, _, _, rfl, _, _, rfl, ?_⟩
    generalize hn : (if (if (((l.map V.int).length : Int)) - 2 > 0 then (((l.map V.int).length : Int)) - 2 else 0) < 110 then (if (((l.map V.int).length : Int)) - 2 > 0 then (((l.map V.int).length : Int)) - 2 else 0) else 110) = n
    have n0' : 0 ≤ n ∧ n ≤ 110 := by
      rw [← hn]
      constructor
      · split
        · split <;> omega
        · decide
      · split <;> omega
    refine ⟨n, rfl, by omega, by omega, ?_⟩
    refine for_range (lo := 0) (n := n.toNat) (fun i σ H6 => ∃ y9 y10 y11 y12 y13 a m qs ds sh sk stk doing, σ = [some (.ref sa), some (.ref tp), some (.int thr), some (.ref mp), none, some (.ref sl), some (.ref L), some (.ref tl), some (.ref wl), y9, y10, y11, y12, y13, none, none] ∧
      Gx K H6 (GS.mk mp a m L qs ds sl sh tl sk stk wl doing) ∧ NE (GS.mk mp a m L qs ds sl sh tl sk stk wl doing) ∧ Pk m ds sh stk doing i ∧ H6 tp = some (.lst (l.map V.int)) ∧ ¬ FG (GS.mk mp a m L qs ds sl sh tl sk stk wl doing) tp ∧ ∀ u, thr ≤ u → u < 3 → stk u = [])
      ⟨none, none, none, none, none, a0, DkM.initM, [], [], _, _, _, _, rfl, G5, fun t x _ _ h => (by cases (show none = some x from h)), DkM.init_pk, htp5, ntp5, fun _ _ _ => rfl⟩ ?_ ?_
    · rintro i σ H6 hi ⟨y9, y10, y11, y12, y13, a, m, qs, ds, sh, sk, stk, doing, rfl, G6, N6, P6, htp6, ntp6, ou⟩
      have i110 : i < 110 := by omega
      have eq1 : tl = tl := rfl
      refine ⟨_, rfl, _, rfl, _, _, rfl, rfl, tp, l, _, rfl, htp6, by omega, ?_⟩
      dsimp only
      have n0 := atL_nn lnn (0 + (i : Int) + 2)
      generalize atL l (0 + (i : Int) + 2) = number at n0
      refine ⟨_, rfl, _, rfl, _, _, rfl, rfl, (by show (0 : Int) < thr; omega), ?_⟩
      dsimp only
      have t0 : 0 ≤ number % thr := Int.emod_nonneg _ (by omega)
      have tt : number % thr < thr := Int.emod_lt_of_pos _ (by omega)
      generalize number % thr = th at t0 tt
      have t3 : th < 3 := by omega
      refine ⟨_, rfl, _, _, rfl, rfl, (by show (0 : Int) < 7; decide), rfl, _, rfl, ?_⟩
      refine ite2 ?_ fun hS _ => ⟨_, rfl, _, _, rfl, .inl (SqL.of G6.X.D.li), _, _, rfl, rfl, _, rfl, ?_⟩
      rotate_left
      · rw [List.length_map, G6.X.D.ln]
        by_cases cl : 0 < ds.length
        · refine iteT' (decide_eq_true (by show (0 : Int) < ((ds.length : Nat) : Int); omega)) ?_
          have hlast : ds[ds.length - 1]? = some (ds[ds.length - 1]'(by omega)) := List.getElem?_eq_getElem _
          obtain ⟨z, hz, ⟨zsv, hz1, _⟩, _⟩ := G6.X.D.at_ (ds.length - 1) _ hlast
          have hneg : atI (qs.map fun x => V.ref x.1) (-1) = some (.ref z.1) := by
            have hl : (qs.map fun x => V.ref x.1).length = ds.length := by rw [List.length_map, G6.X.D.ln]
            unfold atI ixN
            rw [if_neg (by omega), if_pos (by omega)]
            show (qs.map fun x => V.ref x.1)[(-1 + ((qs.map fun x => V.ref x.1).length : Int)).toNat]? = _
            rw [hl, show (-1 + (ds.length : Int)).toNat = ds.length - 1 by omega, List.getElem?_map, hz]; rfl
          refine ⟨_, rfl, _, rfl, _, _, _, _, rfl, rfl, SqL.of G6.X.D.li, hneg, _, _, _, _, rfl, rfl, SqL.of hz1, atI_nat (j := 0) rfl, _, _, rfl, rfl, (by show 5 ≤ sizeLine; decide), fun lp hlp => ?_⟩
          have hlp1 : (upd H6 lp (.lst [.int 7, .int 8, .int 9, .int 10, .int (Ad (ds.length - 1) + 1)])) lp = some (.lst [.int 7, .int 8, .int 9, .int 10, .int (Ad (ds.length - 1) + 1)]) := upd_same
          have G7 := G6.same (same_new (o := .lst [.int 7, .int 8, .int 9, .int 10, .int (Ad (ds.length - 1) + 1)]) hlp)
          have htp7 := (same_new (o := .lst [.int 7, .int 8, .int 9, .int 10, .int (Ad (ds.length - 1) + 1)]) hlp) _ _ htp6
          have j0 : 0 ≤ number / 7 % 5 := Int.emod_nonneg _ (by decide)
          have j5 : number / 7 % 5 < 5 := Int.emod_lt_of_pos _ (by decide)
          obtain ⟨dn6, GG6⟩ := P6.good
          have n24 := GG6.inv.n24
          obtain ⟨c, hc, c4, c201⟩ : ∃ c : Int, atI [V.int 7, .int 8, .int 9, .int 10, .int (Ad (ds.length - 1) + 1)] (number / 7 % 5) = some (.int c) ∧ 4 ≤ c ∧ c < 201 := by
            have : number / 7 % 5 = 0 ∨ number / 7 % 5 = 1 ∨ number / 7 % 5 = 2 ∨ number / 7 % 5 = 3 ∨ number / 7 % 5 = 4 := by omega
            rcases this with e | e | e | e | e <;> rw [e]
            · exact ⟨7, rfl, by decide, by decide⟩
            · exact ⟨8, rfl, by decide, by decide⟩
            · exact ⟨9, rfl, by decide, by decide⟩
            · exact ⟨10, rfl, by decide, by decide⟩
            · exact ⟨_, rfl, by unfold Ad; omega, by unfold Ad; omega⟩
          refine ⟨_, rfl, _, _, rfl, rfl, ⟨by decide, by decide⟩, _, _, rfl, rfl, (by show (0 : Int) < 5; decide), _, _, _, _, rfl, rfl, SqL.of hlp1, hc, ?_⟩
          refine ⟨_, rfl, mp, _, _, rfl, G7.X.M.ob, mem_no _ _ (by decide +kernel), _, rfl, _, rfl, _, _, rfl, rfl, ⟨by decide, by decide⟩, _, _, rfl, rfl, (by show (0 : Int) < 4; decide), mp, a, m, c, _, rfl, G7.X.M, c4, c201, Int.emod_nonneg _ (by decide), Nk.of P6.sz, fun H8 a8 M8 s8 => ?_⟩
          obtain ⟨G8, s8'⟩ := G7.setM M8 s8
          have P8 := P6.drift c (number / 35 % 4)
          obtain ⟨htp8, ntp8⟩ := s8'.out htp7 ntp6
          have G8 : Gx K H8 (GS.mk mp a8 (m.shorten c (number / 35 % 4)) L qs ds sl sh tl sk stk wl doing) := G8
          have N8 : NE (GS.mk mp a8 (m.shorten c (number / 35 % 4)) L qs ds sl sh tl sk stk wl doing) := N6
          have ntp8 : ¬ FG (GS.mk mp a8 (m.shorten c (number / 35 % 4)) L qs ds sl sh tl sk stk wl doing) tp := ntp8
          refine ⟨_, rfl, _, rfl, _, _, _, _, rfl, rfl, SqL.of G8.T, L3_at t0 t3, rfl, _, rfl, ?_⟩
          cases hk : sk th with
          | some x =>
            have hv : skV ((GS.mk mp a8 (m.shorten c (number / 35 % 4)) L qs ds sl sh tl sk stk wl doing).sk th) = .ref x.1 := by show skV (sk th) = _; rw [hk]; rfl
            rw [hv]
            refine iteF' (by rfl) ?_
            obtain ⟨d, r, hs⟩ : ∃ d r, stk th = d :: r := by
              cases e : stk th with
              | nil => exact absurd e (N8 th x t0 t3 hk)
              | cons d r => exact ⟨d, r, rfl⟩
            have RR := P8.rd
            obtain ⟨ds1, sh', ⟨dn', W⟩, P'⟩ := DkM.Rd.step RR t0 t3 hs
            obtain ⟨dn, GG⟩ := RR.good
            have hlen : r.length ≤ 34 := DkM.dep_len GG.inv (by have := GG.so th t0 t3; rw [hs] at this; exact this) (by rw [← hs]; have h1 := DkM.dep_pot (m.shorten c (number / 35 % 4)) (stk th); have h2 := RR.pot th t0 t3; omega)
            have hc := RR.cnt
            have ST := stl_of (g := (GS.mk mp a8 (m.shorten c (number / 35 % 4)) L qs ds sl sh tl sk stk wl doing)) GG RR.sz (by show DkM.Mem.cnt (m.shorten c (number / 35 % 4)) ≤ 100000; omega) t0 t3 hs W (by omega)
            refine ⟨_, rfl, _, rfl, _, rfl, _, rfl, _, rfl, _, rfl, (GS.mk mp a8 (m.shorten c (number / 35 % 4)) L qs ds sl sh tl sk stk wl doing), th, d, r, ds1, sh', rfl, G8, N8, t0, t3, hs, ST, fun H9 a9 sk9 G9 N9 s9 => ⟨true, rfl, iteF ?_⟩⟩
            obtain ⟨ht9, nt9⟩ := s9.out htp8 ntp8
            exact ⟨_, _, _, _, _, a9, _, _, _, _, sk9, _, _, rfl, G9, N9, P', ht9, nt9, fun u u0 u3 => by rw [upC_ne (by omega)]; exact ou u u0 u3⟩
          | none =>
            have hv : skV ((GS.mk mp a8 (m.shorten c (number / 35 % 4)) L qs ds sl sh tl sk stk wl doing).sk th) = .non := by show skV (sk th) = _; rw [hk]; rfl
            rw [hv]
            refine iteT' rfl ?_
            have hst : stk th = [] := G8.S0 th t0 t3 hk
            obtain ⟨dnb, GB⟩ := P8.good
            have hcb := P8.cnt
            refine ⟨_, rfl, _, rfl, _, rfl, _, rfl, _, rfl, _, _, rfl, rfl, ⟨by decide, by decide⟩, _, rfl, _, rfl, _, _, rfl, rfl, tp, l, _, rfl, htp8, by omega, _, rfl, _, _, rfl, rfl, ?_⟩
            refine ⟨mp, a8, (m.shorten c (number / 35 % 4)), th, L, qs, ds, sl, sh, _, _, rfl, G8.X, P8.sz, by omega, GB.inv.ne, t0, t3, Int.ediv_nonneg n0 (by decide), (by have h1 := atL_nn lnn (0 + (i : Int) + 3); omega), GB.inv.n24, fun j hj => ?_, fun es fits bt bn H6 a6 qs6 h24 EO hf X6 s6 => ?_⟩
            · have RR := DkM.Pk.start (t := th) P8 hj hst
              refine ⟨_, rfl, _, rfl, _, rfl, _, _, _, _, rfl, rfl, G8.Dl, ixN_of t0 (by show th < ((3 : Nat) : Int); omega), ?_⟩
              rw [L3_set t0 t3]
              have ew : upC (fun u => V.int (doing u)) th (.int (Ad j)) = fun u => V.int (upC doing th (Ad j) u) := by
                funext u
                by_cases c : u = th
                · rw [c, upC_same, upC_same]
                · rw [upC_ne c, upC_ne (f := doing) c]
              obtain ⟨G2, s2⟩ := G8.putW th (Ad j)
              have G2 : Gx K (upd H8 wl (.lst (L3 fun u => .int (upC doing th (Ad j) u)))) (GS.mk mp a8 (m.shorten c (number / 35 % 4)) L qs ds sl sh tl sk stk wl (upC doing th (Ad j))) := G2
              obtain ⟨ht2, nt2⟩ := s2.out htp8 ntp8
              show tSeq _ _ _ _ (upd H8 wl (.lst (L3 (upC (fun u => V.int (doing u)) th (.int (Ad j))))))
              rw [ew]
              have ht2 : (upd H8 wl (.lst (L3 fun u => .int (upC doing th (Ad j) u)))) tp = some (.lst (l.map V.int)) := ht2
              have nt2 : ¬ FG (GS.mk mp a8 (m.shorten c (number / 35 % 4)) L qs ds sl sh tl sk stk wl (upC doing th (Ad j))) tp := nt2
              generalize (upd H8 wl (.lst (L3 fun u => .int (upC doing th (Ad j) u)))) = H2 at G2 ht2
              refine ⟨_, rfl, mkDo fun hx hha H3 DH SH => mkSt DH fun x b H4 S4 s4 => ?_⟩
              have s14 : Stp (fun _ => False) H2 (FS x b) H4 := SH.trans s4
              have sm : Same H2 H4 := fun y o h => s14.ou y o h id
              have G4 := G2.same sm
              refine ⟨_, rfl, _, rfl, _, _, _, _, rfl, rfl, G4.T, ixN_of t0 (by show th < ((3 : Nat) : Int); omega), ?_⟩
              rw [L3_set t0 t3]
              have ev : upC (fun u => skV (sk u)) th (.ref x) = fun u => skV (upC sk th (some (x, b)) u) := by
                funext u
                by_cases c : u = th
                · rw [c, upC_same, upC_same]; rfl
                · rw [upC_ne c, upC_ne (f := sk) c]
              have fr : ∀ y, FS x b y → ¬ FG (GS.mk mp a8 (m.shorten c (number / 35 % 4)) L qs ds sl sh tl sk stk wl (upC doing th (Ad j))) y := fun y f q => by
                obtain ⟨o, ho⟩ := FG.some G2 q
                rcases s14.nw y f with z | z
                · exact z
                · rw [z] at ho; cases ho
              obtain ⟨G5, s5⟩ := G4.putT (t := th) (z := some (x, b)) (l := [DS.init (Ad j)]) t0 t3 (fun h => by cases h) (fun y h => by
                have h := Option.some.inj h
                subst h
                exact S4) fr
              have ftp : ¬ FS x b tp := fun f => by
                rcases s14.nw tp f with z | z
                · exact z
                · rw [ht2] at z; cases z
              obtain ⟨ht5, nt5⟩ := s5.out (sm _ _ ht2) (fun z => z.elim nt2 ftp)
              have G5 : Gx K (upd H4 tl (.lst (L3 fun u => skV (upC sk th (some (x, b)) u)))) (GS.mk mp a8 (m.shorten c (number / 35 % 4)) L qs ds sl sh tl (upC sk th (some (x, b))) (upC stk th [DS.init (Ad j)]) wl (upC doing th (Ad j))) := G5
              have nt5 : ¬ FG (GS.mk mp a8 (m.shorten c (number / 35 % 4)) L qs ds sl sh tl (upC sk th (some (x, b))) (upC stk th [DS.init (Ad j)]) wl (upC doing th (Ad j))) tp := nt5
              have ht5 : (upd H4 tl (.lst (L3 fun u => skV (upC sk th (some (x, b)) u)))) tp = some (.lst (l.map V.int)) := ht5
              show tSeq _ _ _ _ (upd H4 tl (.lst (L3 (upC (fun u => skV (sk u)) th (.ref x)))))
              rw [ev]
              generalize (upd H4 tl (.lst (L3 fun u => skV (upC sk th (some (x, b)) u)))) = H5 at G5 ht5
              have N5 : NE (GS.mk mp a8 (m.shorten c (number / 35 % 4)) L qs ds sl sh tl (upC sk th (some (x, b))) (upC stk th [DS.init (Ad j)]) wl (upC doing th (Ad j))) := fun u y u0 u3 h => by
                have h : upC sk th (some (x, b)) u = some y := h
                show upC stk th [DS.init (Ad j)] u ≠ []
                by_cases c : u = th
                · rw [c, upC_same]; intro z; cases z
                · rw [upC_ne c] at h
                  rw [upC_ne c]; exact N8 u y u0 u3 h
              have ou5 : ∀ u, thr ≤ u → u < 3 → upC stk th [DS.init (Ad j)] u = [] := fun u u0 u3 => by rw [upC_ne (by omega)]; exact ou u u0 u3
              have hs5 : upC stk th [DS.init (Ad j)] th = [DS.init (Ad j)] := upC_same
              obtain ⟨d, r, hdr⟩ : ∃ d r, [DS.init (Ad j)] = d :: r := ⟨_, _, rfl⟩
              have hs5 : upC stk th [DS.init (Ad j)] th = d :: r := hs5.trans hdr
              obtain ⟨ds1, sh', ⟨dn', W⟩, P'⟩ := DkM.Rd.step RR t0 t3 hs5
              obtain ⟨dn, GG⟩ := RR.good
              have hlen : r.length ≤ 34 := DkM.dep_len GG.inv (by have := GG.so th t0 t3; rw [hs5] at this; exact this) (by rw [← hs5]; have h1 := DkM.dep_pot (m.shorten c (number / 35 % 4)) ((upC stk th [DS.init (Ad j)]) th); have h2 := RR.pot th t0 t3; omega)
              have hc := RR.cnt
              have ST := stl_of (g := (GS.mk mp a8 (m.shorten c (number / 35 % 4)) L qs ds sl sh tl (upC sk th (some (x, b))) (upC stk th [DS.init (Ad j)]) wl (upC doing th (Ad j)))) GG RR.sz (by show DkM.Mem.cnt (m.shorten c (number / 35 % 4)) ≤ 100000; omega) t0 t3 hs5 W (by omega)
              refine ⟨_, rfl, _, rfl, _, rfl, _, rfl, _, rfl, _, rfl, (GS.mk mp a8 (m.shorten c (number / 35 % 4)) L qs ds sl sh tl (upC sk th (some (x, b))) (upC stk th [DS.init (Ad j)]) wl (upC doing th (Ad j))), th, d, r, ds1, sh', rfl, G5, N5, t0, t3, hs5, ST, fun H9 a9 sk9 G9 N9 s9 => ⟨true, rfl, iteF ?_⟩⟩
              obtain ⟨ht9, nt9⟩ := s9.out ht5 nt5
              exact ⟨_, _, _, _, _, a9, _, _, _, _, sk9, _, _, rfl, G9, N9, P', ht9, nt9, fun u u0 u3 => by rw [upC_ne (by omega)]; exact ou5 u u0 u3⟩
            · obtain ⟨G6, s6'⟩ := G8.setX X6 s6
              obtain ⟨ht6, nt6⟩ := s6'.out htp8 ntp8
              have G6 : Gx K H6 (GS.mk mp a6 (beginM (m.shorten c (number / 35 % 4)) th ds.length es bt bn) L qs6 (ds ++ [DkM.Deed.mk es (TV.int 0) fits]) sl sh tl sk stk wl doing) := G6
              have N6 : NE (GS.mk mp a6 (beginM (m.shorten c (number / 35 % 4)) th ds.length es bt bn) L qs6 (ds ++ [DkM.Deed.mk es (TV.int 0) fits]) sl sh tl sk stk wl doing) := N8
              have nt6 : ¬ FG (GS.mk mp a6 (beginM (m.shorten c (number / 35 % 4)) th ds.length es bt bn) L qs6 (ds ++ [DkM.Deed.mk es (TV.int 0) fits]) sl sh tl sk stk wl doing) tp := nt6
              have RR := DkM.Pk.begin (es := es) (fits := fits) (th := bt) (nu := bn) P8 h24 t0 t3 hst EO hf
              refine ⟨_, rfl, _, rfl, _, rfl, _, _, _, _, rfl, rfl, G6.Dl, ixN_of t0 (by show th < ((3 : Nat) : Int); omega), ?_⟩
              rw [L3_set t0 t3]
              have ew : upC (fun u => V.int (doing u)) th (.int (Ad ds.length)) = fun u => V.int (upC doing th (Ad ds.length) u) := by
                funext u
                by_cases c : u = th
                · rw [c, upC_same, upC_same]
                · rw [upC_ne c, upC_ne (f := doing) c]
              obtain ⟨G2, s2⟩ := G6.putW th (Ad ds.length)
              have G2 : Gx K (upd H6 wl (.lst (L3 fun u => .int (upC doing th (Ad ds.length) u)))) (GS.mk mp a6 (beginM (m.shorten c (number / 35 % 4)) th ds.length es bt bn) L qs6 (ds ++ [DkM.Deed.mk es (TV.int 0) fits]) sl sh tl sk stk wl (upC doing th (Ad ds.length))) := G2
              obtain ⟨ht2, nt2⟩ := s2.out ht6 nt6
              show tSeq _ _ _ _ (upd H6 wl (.lst (L3 (upC (fun u => V.int (doing u)) th (.int (Ad ds.length))))))
              rw [ew]
              have ht2 : (upd H6 wl (.lst (L3 fun u => .int (upC doing th (Ad ds.length) u)))) tp = some (.lst (l.map V.int)) := ht2
              have nt2 : ¬ FG (GS.mk mp a6 (beginM (m.shorten c (number / 35 % 4)) th ds.length es bt bn) L qs6 (ds ++ [DkM.Deed.mk es (TV.int 0) fits]) sl sh tl sk stk wl (upC doing th (Ad ds.length))) tp := nt2
              generalize (upd H6 wl (.lst (L3 fun u => .int (upC doing th (Ad ds.length) u)))) = H2 at G2 ht2
              refine ⟨_, rfl, mkDo fun hx hha H3 DH SH => mkSt DH fun x b H4 S4 s4 => ?_⟩
              have s14 : Stp (fun _ => False) H2 (FS x b) H4 := SH.trans s4
              have sm : Same H2 H4 := fun y o h => s14.ou y o h id
              have G4 := G2.same sm
              refine ⟨_, rfl, _, rfl, _, _, _, _, rfl, rfl, G4.T, ixN_of t0 (by show th < ((3 : Nat) : Int); omega), ?_⟩
              rw [L3_set t0 t3]
              have ev : upC (fun u => skV (sk u)) th (.ref x) = fun u => skV (upC sk th (some (x, b)) u) := by
                funext u
                by_cases c : u = th
                · rw [c, upC_same, upC_same]; rfl
                · rw [upC_ne c, upC_ne (f := sk) c]
              have fr : ∀ y, FS x b y → ¬ FG (GS.mk mp a6 (beginM (m.shorten c (number / 35 % 4)) th ds.length es bt bn) L qs6 (ds ++ [DkM.Deed.mk es (TV.int 0) fits]) sl sh tl sk stk wl (upC doing th (Ad ds.length))) y := fun y f q => by
                obtain ⟨o, ho⟩ := FG.some G2 q
                rcases s14.nw y f with z | z
                · exact z
                · rw [z] at ho; cases ho
              obtain ⟨G5, s5⟩ := G4.putT (t := th) (z := some (x, b)) (l := [DS.init (Ad ds.length)]) t0 t3 (fun h => by cases h) (fun y h => by
                have h := Option.some.inj h
                subst h
                exact S4) fr
              have ftp : ¬ FS x b tp := fun f => by
                rcases s14.nw tp f with z | z
                · exact z
                · rw [ht2] at z; cases z
              obtain ⟨ht5, nt5⟩ := s5.out (sm _ _ ht2) (fun z => z.elim nt2 ftp)
              have G5 : Gx K (upd H4 tl (.lst (L3 fun u => skV (upC sk th (some (x, b)) u)))) (GS.mk mp a6 (beginM (m.shorten c (number / 35 % 4)) th ds.length es bt bn) L qs6 (ds ++ [DkM.Deed.mk es (TV.int 0) fits]) sl sh tl (upC sk th (some (x, b))) (upC stk th [DS.init (Ad ds.length)]) wl (upC doing th (Ad ds.length))) := G5
              have nt5 : ¬ FG (GS.mk mp a6 (beginM (m.shorten c (number / 35 % 4)) th ds.length es bt bn) L qs6 (ds ++ [DkM.Deed.mk es (TV.int 0) fits]) sl sh tl (upC sk th (some (x, b))) (upC stk th [DS.init (Ad ds.length)]) wl (upC doing th (Ad ds.length))) tp := nt5
              have ht5 : (upd H4 tl (.lst (L3 fun u => skV (upC sk th (some (x, b)) u)))) tp = some (.lst (l.map V.int)) := ht5
              show tSeq _ _ _ _ (upd H4 tl (.lst (L3 (upC (fun u => skV (sk u)) th (.ref x)))))
              rw [ev]
              generalize (upd H4 tl (.lst (L3 fun u => skV (upC sk th (some (x, b)) u)))) = H5 at G5 ht5
              have N5 : NE (GS.mk mp a6 (beginM (m.shorten c (number / 35 % 4)) th ds.length es bt bn) L qs6 (ds ++ [DkM.Deed.mk es (TV.int 0) fits]) sl sh tl (upC sk th (some (x, b))) (upC stk th [DS.init (Ad ds.length)]) wl (upC doing th (Ad ds.length))) := fun u y u0 u3 h => by
                have h : upC sk th (some (x, b)) u = some y := h
                show upC stk th [DS.init (Ad ds.length)] u ≠ []
                by_cases c : u = th
                · rw [c, upC_same]; intro z; cases z
                · rw [upC_ne c] at h
                  rw [upC_ne c]; exact N6 u y u0 u3 h
              have ou5 : ∀ u, thr ≤ u → u < 3 → upC stk th [DS.init (Ad ds.length)] u = [] := fun u u0 u3 => by rw [upC_ne (by omega)]; exact ou u u0 u3
              have hs5 : upC stk th [DS.init (Ad ds.length)] th = [DS.init (Ad ds.length)] := upC_same
              obtain ⟨d, r, hdr⟩ : ∃ d r, [DS.init (Ad ds.length)] = d :: r := ⟨_, _, rfl⟩
              have hs5 : upC stk th [DS.init (Ad ds.length)] th = d :: r := hs5.trans hdr
              obtain ⟨ds1, sh', ⟨dn', W⟩, P'⟩ := DkM.Rd.step RR t0 t3 hs5
              obtain ⟨dn, GG⟩ := RR.good
              have hlen : r.length ≤ 34 := DkM.dep_len GG.inv (by have := GG.so th t0 t3; rw [hs5] at this; exact this) (by rw [← hs5]; have h1 := DkM.dep_pot (beginM (m.shorten c (number / 35 % 4)) th ds.length es bt bn) ((upC stk th [DS.init (Ad ds.length)]) th); have h2 := RR.pot th t0 t3; omega)
              have hc := RR.cnt
              have ST := stl_of (g := (GS.mk mp a6 (beginM (m.shorten c (number / 35 % 4)) th ds.length es bt bn) L qs6 (ds ++ [DkM.Deed.mk es (TV.int 0) fits]) sl sh tl (upC sk th (some (x, b))) (upC stk th [DS.init (Ad ds.length)]) wl (upC doing th (Ad ds.length)))) GG RR.sz (by show DkM.Mem.cnt (beginM (m.shorten c (number / 35 % 4)) th ds.length es bt bn) ≤ 100000; omega) t0 t3 hs5 W (by omega)
              refine ⟨_, rfl, _, rfl, _, rfl, _, rfl, _, rfl, _, rfl, (GS.mk mp a6 (beginM (m.shorten c (number / 35 % 4)) th ds.length es bt bn) L qs6 (ds ++ [DkM.Deed.mk es (TV.int 0) fits]) sl sh tl (upC sk th (some (x, b))) (upC stk th [DS.init (Ad ds.length)]) wl (upC doing th (Ad ds.length))), th, d, r, ds1, sh', rfl, G5, N5, t0, t3, hs5, ST, fun H9 a9 sk9 G9 N9 s9 => ⟨true, rfl, iteF ?_⟩⟩
              obtain ⟨ht9, nt9⟩ := s9.out ht5 nt5
              exact ⟨_, _, _, _, _, a9, _, _, _, _, sk9, _, _, rfl, G9, N9, P', ht9, nt9, fun u u0 u3 => by rw [upC_ne (by omega)]; exact ou5 u u0 u3⟩
        · exact iteF' (decide_eq_false (by show ¬ (0 : Int) < ((ds.length : Nat) : Int); omega)) hS
      · refine ⟨_, rfl, _, rfl, _, _, _, _, rfl, rfl, SqL.of G6.T, L3_at t0 t3, rfl, _, rfl, ?_⟩
        cases hk : sk th with
        | some x =>
          have hv : skV ((GS.mk mp a m L qs ds sl sh tl sk stk wl doing).sk th) = .ref x.1 := by show skV (sk th) = _; rw [hk]; rfl
          rw [hv]
          refine iteF' (by rfl) ?_
          obtain ⟨d, r, hs⟩ : ∃ d r, stk th = d :: r := by
            cases e : stk th with
            | nil => exact absurd e (N6 th x t0 t3 hk)
            | cons d r => exact ⟨d, r, rfl⟩
          have RR := P6.rd
          obtain ⟨ds1, sh', ⟨dn', W⟩, P'⟩ := DkM.Rd.step RR t0 t3 hs
          obtain ⟨dn, GG⟩ := RR.good
          have hlen : r.length ≤ 34 := DkM.dep_len GG.inv (by have := GG.so th t0 t3; rw [hs] at this; exact this) (by rw [← hs]; have h1 := DkM.dep_pot m (stk th); have h2 := RR.pot th t0 t3; omega)
          have hc := RR.cnt
          have ST := stl_of (g := (GS.mk mp a m L qs ds sl sh tl sk stk wl doing)) GG RR.sz (by show DkM.Mem.cnt m ≤ 100000; omega) t0 t3 hs W (by omega)
          refine ⟨_, rfl, _, rfl, _, rfl, _, rfl, _, rfl, _, rfl, (GS.mk mp a m L qs ds sl sh tl sk stk wl doing), th, d, r, ds1, sh', rfl, G6, N6, t0, t3, hs, ST, fun H9 a9 sk9 G9 N9 s9 => ⟨true, rfl, iteF ?_⟩⟩
          obtain ⟨ht9, nt9⟩ := s9.out htp6 ntp6
          exact ⟨_, _, _, _, _, a9, _, _, _, _, sk9, _, _, rfl, G9, N9, P', ht9, nt9, fun u u0 u3 => by rw [upC_ne (by omega)]; exact ou u u0 u3⟩
        | none =>
          have hv : skV ((GS.mk mp a m L qs ds sl sh tl sk stk wl doing).sk th) = .non := by show skV (sk th) = _; rw [hk]; rfl
          rw [hv]
          refine iteT' rfl ?_
          have hst : stk th = [] := G6.S0 th t0 t3 hk
          obtain ⟨dnb, GB⟩ := P6.good
          have hcb := P6.cnt
          refine ⟨_, rfl, _, rfl, _, rfl, _, rfl, _, rfl, _, _, rfl, rfl, ⟨by decide, by decide⟩, _, rfl, _, rfl, _, _, rfl, rfl, tp, l, _, rfl, htp6, by omega, _, rfl, _, _, rfl, rfl, ?_⟩
          refine ⟨mp, a, m, th, L, qs, ds, sl, sh, _, _, rfl, G6.X, P6.sz, by omega, GB.inv.ne, t0, t3, Int.ediv_nonneg n0 (by decide), (by have h1 := atL_nn lnn (0 + (i : Int) + 3); omega), GB.inv.n24, fun j hj => ?_, fun es fits bt bn H6 a6 qs6 h24 EO hf X6 s6 => ?_⟩
          · have RR := DkM.Pk.start (t := th) P6 hj hst
            refine ⟨_, rfl, _, rfl, _, rfl, _, _, _, _, rfl, rfl, G6.Dl, ixN_of t0 (by show th < ((3 : Nat) : Int); omega), ?_⟩
            rw [L3_set t0 t3]
            have ew : upC (fun u => V.int (doing u)) th (.int (Ad j)) = fun u => V.int (upC doing th (Ad j) u) := by
              funext u
              by_cases c : u = th
              · rw [c, upC_same, upC_same]
              · rw [upC_ne c, upC_ne (f := doing) c]
            obtain ⟨G2, s2⟩ := G6.putW th (Ad j)
            have G2 : Gx K (upd H6 wl (.lst (L3 fun u => .int (upC doing th (Ad j) u)))) (GS.mk mp a m L qs ds sl sh tl sk stk wl (upC doing th (Ad j))) := G2
            obtain ⟨ht2, nt2⟩ := s2.out htp6 ntp6
            show tSeq _ _ _ _ (upd H6 wl (.lst (L3 (upC (fun u => V.int (doing u)) th (.int (Ad j))))))
            rw [ew]
            have ht2 : (upd H6 wl (.lst (L3 fun u => .int (upC doing th (Ad j) u)))) tp = some (.lst (l.map V.int)) := ht2
            have nt2 : ¬ FG (GS.mk mp a m L qs ds sl sh tl sk stk wl (upC doing th (Ad j))) tp := nt2
            generalize (upd H6 wl (.lst (L3 fun u => .int (upC doing th (Ad j) u)))) = H2 at G2 ht2
            refine ⟨_, rfl, mkDo fun hx hha H3 DH SH => mkSt DH fun x b H4 S4 s4 => ?_⟩
            have s14 : Stp (fun _ => False) H2 (FS x b) H4 := SH.trans s4
            have sm : Same H2 H4 := fun y o h => s14.ou y o h id
            have G4 := G2.same sm
            refine ⟨_, rfl, _, rfl, _, _, _, _, rfl, rfl, G4.T, ixN_of t0 (by show th < ((3 : Nat) : Int); omega), ?_⟩
            rw [L3_set t0 t3]
            have ev : upC (fun u => skV (sk u)) th (.ref x) = fun u => skV (upC sk th (some (x, b)) u) := by
              funext u
              by_cases c : u = th
              · rw [c, upC_same, upC_same]; rfl
              · rw [upC_ne c, upC_ne (f := sk) c]
            have fr : ∀ y, FS x b y → ¬ FG (GS.mk mp a m L qs ds sl sh tl sk stk wl (upC doing th (Ad j))) y := fun y f q => by
              obtain ⟨o, ho⟩ := FG.some G2 q
              rcases s14.nw y f with z | z
              · exact z
              · rw [z] at ho; cases ho
            obtain ⟨G5, s5⟩ := G4.putT (t := th) (z := some (x, b)) (l := [DS.init (Ad j)]) t0 t3 (fun h => by cases h) (fun y h => by
              have h := Option.some.inj h
              subst h
              exact S4) fr
            have ftp : ¬ FS x b tp := fun f => by
              rcases s14.nw tp f with z | z
              · exact z
              · rw [ht2] at z; cases z
            obtain ⟨ht5, nt5⟩ := s5.out (sm _ _ ht2) (fun z => z.elim nt2 ftp)
            have G5 : Gx K (upd H4 tl (.lst (L3 fun u => skV (upC sk th (some (x, b)) u)))) (GS.mk mp a m L qs ds sl sh tl (upC sk th (some (x, b))) (upC stk th [DS.init (Ad j)]) wl (upC doing th (Ad j))) := G5
            have nt5 : ¬ FG (GS.mk mp a m L qs ds sl sh tl (upC sk th (some (x, b))) (upC stk th [DS.init (Ad j)]) wl (upC doing th (Ad j))) tp := nt5
            have ht5 : (upd H4 tl (.lst (L3 fun u => skV (upC sk th (some (x, b)) u)))) tp = some (.lst (l.map V.int)) := ht5
            show tSeq _ _ _ _ (upd H4 tl (.lst (L3 (upC (fun u => skV (sk u)) th (.ref x)))))
            rw [ev]
            generalize (upd H4 tl (.lst (L3 fun u => skV (upC sk th (some (x, b)) u)))) = H5 at G5 ht5
            have N5 : NE (GS.mk mp a m L qs ds sl sh tl (upC sk th (some (x, b))) (upC stk th [DS.init (Ad j)]) wl (upC doing th (Ad j))) := fun u y u0 u3 h => by
              have h : upC sk th (some (x, b)) u = some y := h
              show upC stk th [DS.init (Ad j)] u ≠ []
              by_cases c : u = th
              · rw [c, upC_same]; intro z; cases z
              · rw [upC_ne c] at h
                rw [upC_ne c]; exact N6 u y u0 u3 h
            have ou5 : ∀ u, thr ≤ u → u < 3 → upC stk th [DS.init (Ad j)] u = [] := fun u u0 u3 => by rw [upC_ne (by omega)]; exact ou u u0 u3
            have hs5 : upC stk th [DS.init (Ad j)] th = [DS.init (Ad j)] := upC_same
            obtain ⟨d, r, hdr⟩ : ∃ d r, [DS.init (Ad j)] = d :: r := ⟨_, _, rfl⟩
            have hs5 : upC stk th [DS.init (Ad j)] th = d :: r := hs5.trans hdr
            obtain ⟨ds1, sh', ⟨dn', W⟩, P'⟩ := DkM.Rd.step RR t0 t3 hs5
            obtain ⟨dn, GG⟩ := RR.good
            have hlen : r.length ≤ 34 := DkM.dep_len GG.inv (by have := GG.so th t0 t3; rw [hs5] at this; exact this) (by rw [← hs5]; have h1 := DkM.dep_pot m ((upC stk th [DS.init (Ad j)]) th); have h2 := RR.pot th t0 t3; omega)
            have hc := RR.cnt
            have ST := stl_of (g := (GS.mk mp a m L qs ds sl sh tl (upC sk th (some (x, b))) (upC stk th [DS.init (Ad j)]) wl (upC doing th (Ad j)))) GG RR.sz (by show DkM.Mem.cnt m ≤ 100000; omega) t0 t3 hs5 W (by omega)
            refine ⟨_, rfl, _, rfl, _, rfl, _, rfl, _, rfl, _, rfl, (GS.mk mp a m L qs ds sl sh tl (upC sk th (some (x, b))) (upC stk th [DS.init (Ad j)]) wl (upC doing th (Ad j))), th, d, r, ds1, sh', rfl, G5, N5, t0, t3, hs5, ST, fun H9 a9 sk9 G9 N9 s9 => ⟨true, rfl, iteF ?_⟩⟩
            obtain ⟨ht9, nt9⟩ := s9.out ht5 nt5
            exact ⟨_, _, _, _, _, a9, _, _, _, _, sk9, _, _, rfl, G9, N9, P', ht9, nt9, fun u u0 u3 => by rw [upC_ne (by omega)]; exact ou5 u u0 u3⟩
          · obtain ⟨G6, s6'⟩ := G6.setX X6 s6
            obtain ⟨ht6, nt6⟩ := s6'.out htp6 ntp6
            have G6 : Gx K H6 (GS.mk mp a6 (beginM m th ds.length es bt bn) L qs6 (ds ++ [DkM.Deed.mk es (TV.int 0) fits]) sl sh tl sk stk wl doing) := G6
            have N6 : NE (GS.mk mp a6 (beginM m th ds.length es bt bn) L qs6 (ds ++ [DkM.Deed.mk es (TV.int 0) fits]) sl sh tl sk stk wl doing) := N6
            have nt6 : ¬ FG (GS.mk mp a6 (beginM m th ds.length es bt bn) L qs6 (ds ++ [DkM.Deed.mk es (TV.int 0) fits]) sl sh tl sk stk wl doing) tp := nt6
            have RR := DkM.Pk.begin (es := es) (fits := fits) (th := bt) (nu := bn) P6 h24 t0 t3 hst EO hf
            refine ⟨_, rfl, _, rfl, _, rfl, _, _, _, _, rfl, rfl, G6.Dl, ixN_of t0 (by show th < ((3 : Nat) : Int); omega), ?_⟩
            rw [L3_set t0 t3]
            have ew : upC (fun u => V.int (doing u)) th (.int (Ad ds.length)) = fun u => V.int (upC doing th (Ad ds.length) u) := by
              funext u
              by_cases c : u = th
              · rw [c, upC_same, upC_same]
              · rw [upC_ne c, upC_ne (f := doing) c]
            obtain ⟨G2, s2⟩ := G6.putW th (Ad ds.length)
            have G2 : Gx K (upd H6 wl (.lst (L3 fun u => .int (upC doing th (Ad ds.length) u)))) (GS.mk mp a6 (beginM m th ds.length es bt bn) L qs6 (ds ++ [DkM.Deed.mk es (TV.int 0) fits]) sl sh tl sk stk wl (upC doing th (Ad ds.length))) := G2
            obtain ⟨ht2, nt2⟩ := s2.out ht6 nt6
            show tSeq _ _ _ _ (upd H6 wl (.lst (L3 (upC (fun u => V.int (doing u)) th (.int (Ad ds.length))))))
            rw [ew]
            have ht2 : (upd H6 wl (.lst (L3 fun u => .int (upC doing th (Ad ds.length) u)))) tp = some (.lst (l.map V.int)) := ht2
            have nt2 : ¬ FG (GS.mk mp a6 (beginM m th ds.length es bt bn) L qs6 (ds ++ [DkM.Deed.mk es (TV.int 0) fits]) sl sh tl sk stk wl (upC doing th (Ad ds.length))) tp := nt2
            generalize (upd H6 wl (.lst (L3 fun u => .int (upC doing th (Ad ds.length) u)))) = H2 at G2 ht2
            refine ⟨_, rfl, mkDo fun hx hha H3 DH SH => mkSt DH fun x b H4 S4 s4 => ?_⟩
            have s14 : Stp (fun _ => False) H2 (FS x b) H4 := SH.trans s4
            have sm : Same H2 H4 := fun y o h => s14.ou y o h id
            have G4 := G2.same sm
            refine ⟨_, rfl, _, rfl, _, _, _, _, rfl, rfl, G4.T, ixN_of t0 (by show th < ((3 : Nat) : Int); omega), ?_⟩
            rw [L3_set t0 t3]
            have ev : upC (fun u => skV (sk u)) th (.ref x) = fun u => skV (upC sk th (some (x, b)) u) := by
              funext u
              by_cases c : u = th
              · rw [c, upC_same, upC_same]; rfl
              · rw [upC_ne c, upC_ne (f := sk) c]
            have fr : ∀ y, FS x b y → ¬ FG (GS.mk mp a6 (beginM m th ds.length es bt bn) L qs6 (ds ++ [DkM.Deed.mk es (TV.int 0) fits]) sl sh tl sk stk wl (upC doing th (Ad ds.length))) y := fun y f q => by
              obtain ⟨o, ho⟩ := FG.some G2 q
              rcases s14.nw y f with z | z
              · exact z
              · rw [z] at ho; cases ho
            obtain ⟨G5, s5⟩ := G4.putT (t := th) (z := some (x, b)) (l := [DS.init (Ad ds.length)]) t0 t3 (fun h => by cases h) (fun y h => by
              have h := Option.some.inj h
              subst h
              exact S4) fr
            have ftp : ¬ FS x b tp := fun f => by
              rcases s14.nw tp f with z | z
              · exact z
              · rw [ht2] at z; cases z
            obtain ⟨ht5, nt5⟩ := s5.out (sm _ _ ht2) (fun z => z.elim nt2 ftp)
            have G5 : Gx K (upd H4 tl (.lst (L3 fun u => skV (upC sk th (some (x, b)) u)))) (GS.mk mp a6 (beginM m th ds.length es bt bn) L qs6 (ds ++ [DkM.Deed.mk es (TV.int 0) fits]) sl sh tl (upC sk th (some (x, b))) (upC stk th [DS.init (Ad ds.length)]) wl (upC doing th (Ad ds.length))) := G5
            have nt5 : ¬ FG (GS.mk mp a6 (beginM m th ds.length es bt bn) L qs6 (ds ++ [DkM.Deed.mk es (TV.int 0) fits]) sl sh tl (upC sk th (some (x, b))) (upC stk th [DS.init (Ad ds.length)]) wl (upC doing th (Ad ds.length))) tp := nt5
            have ht5 : (upd H4 tl (.lst (L3 fun u => skV (upC sk th (some (x, b)) u)))) tp = some (.lst (l.map V.int)) := ht5
            show tSeq _ _ _ _ (upd H4 tl (.lst (L3 (upC (fun u => skV (sk u)) th (.ref x)))))
            rw [ev]
            generalize (upd H4 tl (.lst (L3 fun u => skV (upC sk th (some (x, b)) u)))) = H5 at G5 ht5
            have N5 : NE (GS.mk mp a6 (beginM m th ds.length es bt bn) L qs6 (ds ++ [DkM.Deed.mk es (TV.int 0) fits]) sl sh tl (upC sk th (some (x, b))) (upC stk th [DS.init (Ad ds.length)]) wl (upC doing th (Ad ds.length))) := fun u y u0 u3 h => by
              have h : upC sk th (some (x, b)) u = some y := h
              show upC stk th [DS.init (Ad ds.length)] u ≠ []
              by_cases c : u = th
              · rw [c, upC_same]; intro z; cases z
              · rw [upC_ne c] at h
                rw [upC_ne c]; exact N6 u y u0 u3 h
            have ou5 : ∀ u, thr ≤ u → u < 3 → upC stk th [DS.init (Ad ds.length)] u = [] := fun u u0 u3 => by rw [upC_ne (by omega)]; exact ou u u0 u3
            have hs5 : upC stk th [DS.init (Ad ds.length)] th = [DS.init (Ad ds.length)] := upC_same
            obtain ⟨d, r, hdr⟩ : ∃ d r, [DS.init (Ad ds.length)] = d :: r := ⟨_, _, rfl⟩
            have hs5 : upC stk th [DS.init (Ad ds.length)] th = d :: r := hs5.trans hdr
            obtain ⟨ds1, sh', ⟨dn', W⟩, P'⟩ := DkM.Rd.step RR t0 t3 hs5
            obtain ⟨dn, GG⟩ := RR.good
            have hlen : r.length ≤ 34 := DkM.dep_len GG.inv (by have := GG.so th t0 t3; rw [hs5] at this; exact this) (by rw [← hs5]; have h1 := DkM.dep_pot (beginM m th ds.length es bt bn) ((upC stk th [DS.init (Ad ds.length)]) th); have h2 := RR.pot th t0 t3; omega)
            have hc := RR.cnt
            have ST := stl_of (g := (GS.mk mp a6 (beginM m th ds.length es bt bn) L qs6 (ds ++ [DkM.Deed.mk es (TV.int 0) fits]) sl sh tl (upC sk th (some (x, b))) (upC stk th [DS.init (Ad ds.length)]) wl (upC doing th (Ad ds.length)))) GG RR.sz (by show DkM.Mem.cnt (beginM m th ds.length es bt bn) ≤ 100000; omega) t0 t3 hs5 W (by omega)
            refine ⟨_, rfl, _, rfl, _, rfl, _, rfl, _, rfl, _, rfl, (GS.mk mp a6 (beginM m th ds.length es bt bn) L qs6 (ds ++ [DkM.Deed.mk es (TV.int 0) fits]) sl sh tl (upC sk th (some (x, b))) (upC stk th [DS.init (Ad ds.length)]) wl (upC doing th (Ad ds.length))), th, d, r, ds1, sh', rfl, G5, N5, t0, t3, hs5, ST, fun H9 a9 sk9 G9 N9 s9 => ⟨true, rfl, iteF ?_⟩⟩
            obtain ⟨ht9, nt9⟩ := s9.out ht5 nt5
            exact ⟨_, _, _, _, _, a9, _, _, _, _, sk9, _, _, rfl, G9, N9, P', ht9, nt9, fun u u0 u3 => by rw [upC_ne (by omega)]; exact ou5 u u0 u3⟩
    · rintro σ H6 ⟨y9, y10, y11, y12, y13, a, m, qs, ds, sh, sk, stk, doing, rfl, G6, N6, P6, htp6, ntp6, ou⟩
      obtain ⟨dn, GG⟩ := P6.good
      refine ⟨_, rfl, tp, l, 1, rfl, htp6, by omega, _, _, rfl, rfl, (by show (0 : Int) < 2; decide), rfl, _, rfl, ?_⟩
      by_cases c1 : atL l 1 % 2 = 1
      · refine iteT' (decide_eq_true (by show V.int (atL l 1 % 2) = V.int 1; rw [c1])) ?_
        exact ⟨_, rfl, _, rfl, _, rfl, mp, a, m, tp, l, L, qs, ds, rfl, G6.X.M, G6.X.D, fun y f g => G6.X.n1 y f (.inl g), htp6, cut_fine GG.inv P6.sz, fun H' => hq H'⟩
      · refine iteF' (decide_eq_false fun z => c1 (by have z : V.int (atL l 1 % 2) = V.int 1 := z; injection z)) ?_
        refine ⟨_, rfl, tp, l, 1, rfl, htp6, by omega, _, rfl, _, _, rfl, rfl, (by show (0 : Int) < thr; omega), ?_⟩
        dsimp only
        have f0 : 0 ≤ atL l 1 % thr := Int.emod_nonneg _ (by omega)
        have f1 : atL l 1 % thr < thr := Int.emod_lt_of_pos _ (by omega)
        generalize atL l 1 % thr = fs at f0 f1
        have tn : ((thr.toNat : Nat) : Int) = thr := by omega
        refine ⟨_, rfl, thr, rfl, by omega, by omega, ?_⟩
        refine for_range (lo := 0) (n := thr.toNat) (fun j σ H7 => ∃ y15 a m ds sh sk stk, σ = [some (.ref sa), some (.ref tp), some (.int thr), some (.ref mp), none, some (.ref sl), some (.ref L), some (.ref tl), some (.ref wl), y9, y10, y11, y12, y13, some (.int fs), y15] ∧
          Gx K H7 (GS.mk mp a m L qs ds sl sh tl sk stk wl doing) ∧ NE (GS.mk mp a m L qs ds sl sh tl sk stk wl doing) ∧ En m ds sh stk doing (660 + 900 * (j : Int)) ∧ (∀ k : Nat, k < j → stk ((fs + (0 + (k : Int))) % thr) = []) ∧ ∀ u, thr ≤ u → u < 3 → stk u = [])
          ⟨none, a, m, ds, sh, sk, stk, rfl, G6, N6, (by have := P6.en (by omega); rw [show (660 : Int) + 900 * ((0 : Nat) : Int) = 660 by omega]; exact this), fun k hk => (by omega), ou⟩ ?_ ?_
        · rintro j σ H7 hj ⟨y15, a, m, ds, sh, sk, stk, rfl, G7, N7, E7, e7, ou7⟩
          have j3 : (j : Int) < 3 := by omega
          have t0 : 0 ≤ (fs + (0 + (j : Int))) % thr := Int.emod_nonneg _ (by omega)
          have tt : (fs + (0 + (j : Int))) % thr < thr := Int.emod_lt_of_pos _ (by omega)
          refine ⟨_, rfl, _, rfl, _, rfl, _, _, rfl, rfl, _, rfl, _, _, rfl, rfl, (by show (0 : Int) < thr; omega), _, rfl, _, rfl, _, rfl, _, rfl, GS.mk mp a m L qs ds sl sh tl sk stk wl doing, (fs + (0 + (j : Int))) % thr, 660 + 900 * (j : Int), rfl, G7, N7, t0, by omega, by omega, E7.al t0 (by omega), fun H8 a8 m8 ds8 sh8 sk8 stk8 G8 N8 E8 q1 q2 s8 => ⟨true, rfl, iteF ?_⟩⟩
          refine ⟨_, a8, m8, ds8, sh8, sk8, stk8, rfl, G8, N8, ?_, fun k hk => ?_, fun u u0 u3 => ?_⟩
          · have e : (660 + 900 * (j : Int)) + 900 = 660 + 900 * ((j + 1 : Nat) : Int) := by omega
            rw [← e]; exact E8
          · by_cases c : (fs + (0 + (k : Int))) % thr = (fs + (0 + (j : Int))) % thr
            · rw [c]; exact q1
            · rw [q2 _ c]
              exact e7 k (by
                have : k ≠ j := fun z => c (by rw [z])
                omega)
          · rw [q2 u (by omega)]; exact ou7 u u0 u3
        · rintro σ H7 ⟨y15, a, m, ds, sh, sk, stk, rfl, G7, N7, E7, e7, ou7⟩
          obtain ⟨dn7, GG7⟩ := E7.good
          have all : ∀ u : Int, 0 ≤ u → u < 3 → stk u = [] := fun u u0 u3 => by
            by_cases c : thr ≤ u
            · exact ou7 u c u3
            · have key : ∃ k : Nat, k < thr.toNat ∧ (fs + (0 + (k : Int))) % thr = u := by
                by_cases d : fs ≤ u
                · refine ⟨(u - fs).toNat, by omega, ?_⟩
                  have : fs + (0 + (((u - fs).toNat : Nat) : Int)) = u := by omega
                  rw [this]
                  exact Int.emod_eq_of_lt u0 (by omega)
                · refine ⟨(u - fs + thr).toNat, by omega, ?_⟩
                  have : fs + (0 + (((u - fs + thr).toNat : Nat) : Int)) = u + thr := by omega
                  rw [this, Int.add_emod_right]
                  exact Int.emod_eq_of_lt u0 (by omega)
              obtain ⟨k, k1, k2⟩ := key
              rw [← k2]; exact e7 k k1
          refine ⟨4, rfl, by omega, by omega, ?_⟩
          refine for_range (lo := 0) (n := 4) (fun i σ H8 => ∃ y4, σ = [some (.ref sa), some (.ref tp), some (.int thr), some (.ref mp), y4, some (.ref sl), some (.ref L), some (.ref tl), some (.ref wl), y9, y10, y11, y12, y13, some (.int fs), y15] ∧ H8 = H7) ⟨none, rfl, rfl⟩ ?_ ?_
          · rintro i σ H8 hi ⟨y4, rfl, rfl⟩
            have wp := DkM.words_plain GG7 all (w := 7 + (0 + (i : Int))) (by omega) (by omega)
            refine ⟨_, rfl, mp, _, _, rfl, G7.X.M.ob, mem_no _ _ (by decide +kernel), _, rfl, _, _, rfl, rfl, mp, a, m, 7 + (0 + (i : Int)), rfl, G7.X.M, by omega, by omega, GG7.inv.ne _ (by omega) (by omega), fun x rx => ?_⟩
            rw [wp] at rx
            refine ⟨_, rfl, _, rfl, _, _, _, _, rfl, rfl, SqL.of G7.X.S, sat0 (by omega) (by omega), neD_if (v := .int (sh (7 + (0 + (i : Int))))) (w := .int (sh (7 + (0 + (i : Int))))) rx rfl rfl rfl ?_⟩
            rw [if_pos rfl]
            exact ⟨_, rfl, rfl⟩
          · rintro σ H8 ⟨y4, rfl, rfl⟩
            exact hq _
end
end Dk

set_option Elab.async false
set_option linter.all false
set_option maxRecDepth 100000
set_option maxHeartbeats 0
namespace Dk
open PySem PySem.Spec PyProof.Rows L2
abbrev R : PySem.W.OpenRow := PySem.W.OpenLaw.row PySem.Challenge.rw_driftkept_k06_whole_deeds_that_last
abbrev hk : PySem.W.Hook := He.hookX 5 fa fn ts [] ex
def ob (s : PySem.W.SharedT) : He.AlX := He.obsX 5 fa fn ts [] ex (HandSHeadRun.getT s)
theorem ob_eq (s : PySem.W.SharedT) : ob s = hk.obs s.abs := He.obsX_eq (HandSHeadRun.getT_eq s)
def loose : List PySem.Str := ["_wall", "Stack", "LineError", "NotValid", "LENGTHS", "MOST_THREADS", "MOST_WORDS", "LEAST_RECORDS", "MOST_RECORDS", "is_within", "is_mark", "Layout", "Memory", "NO_STATUS_FLUSH", "NO_WORD_FLUSH", "deed_record", "Doing", "shown_by", "shown_now", "_law_tape", "_law_at", "_law_shown", "_law_begin", "_law_decided", "_law_kept", "_law_past", "_law_step", "_law_end", "_law_recovered", "_law_cut"]
theorem run (w : World) : HandSHeadRun.RunEq R (PySem.W.view R.prog [36]) hk ob 6000 loose w := by
  refine PySem.W.byRow2 "special-get-raises" (P := fun w => HandSHeadRun.RunEq R (PySem.W.view R.prog [36]) hk ob 6000 loose w) (fun w => ?_) (fun w => ?_) w
  · intro os
    kernel_rfl
  · intro os
    kernel_rfl
end Dk

set_option Elab.async false
set_option linter.all false
set_option maxRecDepth 100000
set_option maxHeartbeats 0
namespace Dk
open PySem PySem.Spec PyProof.Rows L2
theorem facts {P : Program} {w : World} {K : PySem.W.Frag} {h : Heap} {mg : Str → Option Value} {f : Addr} (X : K.In h) (G : h.Ns mainGlobals mg) (hfa : mg ("law" : Str) = some (.ref f)) (c : He.SaysX fa fn ts [] ex w h K) :
    ∃ fd : FuncData, (∀ (s : Shared) (v : Value), BindsTo s fd ⟨[v], []⟩ [("_law_script", v)]) ∧ ∀ base : Heap, FnOk P w K mg base CX0 10 f fd ["_law_script"] (spLaw K) := by
  have T : Tx w K mg := ⟨c.t, c.more, ⟨h, X, G⟩⟩
  have e := hfa.symm.trans T.g_law
  cases e
  obtain ⟨fd, F⟩ := T.F_law
  have b := FunD.bindsA (ps := ["_law_script"]) F fun _ _ _ _ _ _ us hl => match us, hl with | [_], _ => rfl
  exact ⟨fd, fun s v => b s [v] rfl, fun base => ok_law T F⟩
end Dk
open PySem PySem.W PySem.Calls PyProof.Rows
theorem PySem.Challenge.cw_driftkept_k06_whole_deeds_that_last_holds : PySem.Challenge.rw_driftkept_k06_whole_deeds_that_last.Holds := by
  w_on; o_law
  refine HandSHeadRun.head_any (r := OpenLaw.row PySem.Challenge.rw_driftkept_k06_whole_deeds_that_last) (q := view (OpenLaw.row PySem.Challenge.rw_driftkept_k06_whole_deeds_that_last).prog [36]) (H := Dk.hk) (ob := Dk.ob) (M := 6000) (loose := Dk.loose) (d := HandSHeadRun.topDef (OpenLaw.row PySem.Challenge.rw_driftkept_k06_whole_deeds_that_last).prog 36) (kwd := []) Dk.ob_eq
    (by kernel_rfl) (fun s => by kernel_rfl) Dk.run (by kernel_rfl) (by kernel_rfl) (by kernel_rfl) (by rfl) (by first | assumption | decide +kernel) (by decide +kernel) ⟨rfl, rfl, rfl, rfl, rfl, by decide +kernel⟩ ?hw ?hc
  case hw => w_witness2
  case hc =>
    refine L2.walk_ofE (l := PySem.Challenge.rw_driftkept_k06_whole_deeds_that_last) (n := 63) (k := 10) (x := "_law_script") (CX := L2.CX0) rfl (by decide) (by kernel_rfl) ⟨rfl, by decide, by decide⟩ ?F (fun _ _ _ _ z => z)
    intro w mg fa h Y G hmg0
    obtain ⟨K, KX, c⟩ := Y
    have hmg : mg ("law" : PySem.Str) = some (.ref fa) := by
      have e : (HandSHeadRun.topDef (OpenLaw.row PySem.Challenge.rw_driftkept_k06_whole_deeds_that_last).prog 36).name = ("law" : PySem.Str) := by kernel_rfl
      rw [← e]
      exact hmg0
    obtain ⟨fd, hb, hF⟩ := Dk.facts (P := (PySem.Challenge.rw_driftkept_k06_whole_deeds_that_last).prog) (w := w) KX G hmg c
    exact ⟨K, fd, Dk.spLaw K, KX, hb, fun H a ns hl _ hS => ⟨a, ns, rfl, hS, hl, fun _ => rfl⟩, fun base _ _ => hF base⟩
