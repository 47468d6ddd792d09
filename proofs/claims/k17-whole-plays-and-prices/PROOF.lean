import PyProof.Rows.All
import Wide.All
import OpenK.AllK
import Wide.FinOn
import HandS.ForMost
import HandS.Defaults
import HandS.Exc
import HandS.Property
import HandS.HeadHook1
import HandS.HeadHook2
import PySem.Challenge.RW_keptleast_k17_whole_plays_and_prices
import KE.KStateDown
import Lean
import HandS.Head0
import HandS.Head1
import HandS.Head2
import HandS.HeadEnd
import HandS.Deep
import HandS.IsInst
import HandS.OwnEq
import HandS.StrMore
import HandS.FStr
import HandS.Flow
import HandS.Style
import HandS.TupAny
import HandS.Walk
import HandS.SortInts
import HandS.Conv
import HandS.Strs
import HandS.RaiseMore
import KE.GoesMore
import KE.KCallOwn
import HandS.Iter
import HandS.Text
import PyProof.ReprRoads
import PyProof.ReprLen
import PyProof.StrLawsRepr
import PyProof.FitsInt
import HandS.Ends
set_option Elab.async false
set_option linter.all false
set_option maxRecDepth 100000
set_option maxHeartbeats 4000000
/-! The text by places, the facts of the head by names. -/
namespace Kt
open PySem PySem.Spec PyProof.Rows L2
def topS (i : Nat) : Stmt := PySem.Challenge.pw_keptleast_k17_whole_plays_and_prices.main.body.getD i (.Pass ⟨0, 0, 0, 0⟩)
abbrev s_is_integer : Stmt := topS 13
theorem sc_is_integer : FnScope ["value"] ["value"] (defScope s_is_integer) := ⟨rfl, rfl, rfl, by decide +kernel, rfl, by decide +kernel, by decide +kernel⟩
abbrev s_is_number : Stmt := topS 14
theorem sc_is_number : FnScope ["value"] ["value"] (defScope s_is_number) := ⟨rfl, rfl, rfl, by decide +kernel, rfl, by decide +kernel, by decide +kernel⟩
abbrev s_is_below : Stmt := topS 15
theorem sc_is_below : FnScope ["value", "many"] ["value", "many"] (defScope s_is_below) := ⟨rfl, rfl, rfl, by decide +kernel, rfl, by decide +kernel, by decide +kernel⟩
abbrev s_check_between : Stmt := topS 16
theorem sc_check_between : FnScope ["value", "low", "high"] ["value", "low", "high"] (defScope s_check_between) := ⟨rfl, rfl, rfl, by decide +kernel, rfl, by decide +kernel, by decide +kernel⟩
abbrev s_check_number : Stmt := topS 17
theorem sc_check_number : FnScope ["value"] ["value"] (defScope s_check_number) := ⟨rfl, rfl, rfl, by decide +kernel, rfl, by decide +kernel, by decide +kernel⟩
abbrev s_are_prices : Stmt := topS 18
theorem sc_are_prices : FnScope ["value", "price"] ["value"] (defScope s_are_prices) := ⟨rfl, rfl, rfl, by decide +kernel, rfl, by decide +kernel, by decide +kernel⟩
abbrev s_check_prices : Stmt := topS 19
theorem sc_check_prices : FnScope ["prices"] ["prices"] (defScope s_check_prices) := ⟨rfl, rfl, rfl, by decide +kernel, rfl, by decide +kernel, by decide +kernel⟩
abbrev s_price_of_event : Stmt := topS 20
theorem sc_price_of_event : FnScope ["prices", "word"] ["prices", "word"] (defScope s_price_of_event) := ⟨rfl, rfl, rfl, by decide +kernel, rfl, by decide +kernel, by decide +kernel⟩
abbrev s_price_of_reads : Stmt := topS 21
theorem sc_price_of_reads : FnScope ["prices", "counts", "count"] ["prices", "counts"] (defScope s_price_of_reads) := ⟨rfl, rfl, rfl, by decide +kernel, rfl, by decide +kernel, by decide +kernel⟩
abbrev s_is_word : Stmt := topS 30
theorem sc_is_word : FnScope ["value", "sign"] ["value"] (defScope s_is_word) := ⟨rfl, rfl, rfl, by decide +kernel, rfl, by decide +kernel, by decide +kernel⟩
abbrev s_is_mode : Stmt := topS 31
theorem sc_is_mode : FnScope ["value"] ["value"] (defScope s_is_mode) := ⟨rfl, rfl, rfl, by decide +kernel, rfl, by decide +kernel, by decide +kernel⟩
abbrev s_figure_in : Stmt := topS 32
theorem sc_figure_in : FnScope ["word", "low", "high", "number"] ["word", "low", "high"] (defScope s_figure_in) := ⟨rfl, rfl, rfl, by decide +kernel, rfl, by decide +kernel, by decide +kernel⟩
abbrev s_condition_in : Stmt := topS 33
theorem sc_condition_in : FnScope ["line", "occasion", "modes", "wanted", "words", "few"] ["line", "occasion", "modes"] (defScope s_condition_in) := ⟨rfl, rfl, rfl, by decide +kernel, rfl, by decide +kernel, by decide +kernel⟩
abbrev s_conditions_in : Stmt := topS 34
theorem sc_conditions_in : FnScope ["line", "occasion", "modes", "found", "part"] ["line", "occasion", "modes"] (defScope s_conditions_in) := ⟨rfl, rfl, rfl, by decide +kernel, rfl, by decide +kernel, by decide +kernel⟩
abbrev s_first_deed : Stmt := topS 35
theorem sc_first_deed : FnScope ["line", "occasion", "room", "count"] ["line", "occasion", "room"] (defScope s_first_deed) := ⟨rfl, rfl, rfl, by decide +kernel, rfl, by decide +kernel, by decide +kernel⟩
abbrev s_mode_in : Stmt := topS 36
theorem sc_mode_in : FnScope ["line", "modes", "goal"] ["line", "modes"] (defScope s_mode_in) := ⟨rfl, rfl, rfl, by decide +kernel, rfl, by decide +kernel, by decide +kernel⟩
abbrev s_deeds_in : Stmt := topS 37
theorem sc_deeds_in : FnScope ["line", "occasion", "room", "modes", "parts", "goal", "deed"] ["line", "occasion", "room", "modes"] (defScope s_deeds_in) := ⟨rfl, rfl, rfl, by decide +kernel, rfl, by decide +kernel, by decide +kernel⟩
abbrev s_row_in : Stmt := topS 38
theorem sc_row_in : FnScope ["line", "room", "modes", "head", "colon", "tail", "occasion", "mark", "rest", "conditions", "deeds"] ["line", "room", "modes"] (defScope s_row_in) := ⟨rfl, rfl, rfl, by decide +kernel, rfl, by decide +kernel, by decide +kernel⟩
abbrev s_check_modes : Stmt := topS 40
theorem sc_check_modes : FnScope ["modes", "names", "index", "mode"] ["modes"] (defScope s_check_modes) := ⟨rfl, rfl, rfl, by decide +kernel, rfl, by decide +kernel, by decide +kernel⟩
abbrev s_parts_of : Stmt := topS 41
theorem sc_parts_of : FnScope ["rows", "room", "modes", "found", "index", "line", "part"] ["rows", "room", "modes"] (defScope s_parts_of) := ⟨rfl, rfl, rfl, by decide +kernel, rfl, by decide +kernel, by decide +kernel⟩
abbrev s_P_init : Stmt := inClass (topS 44) 0
theorem sc_P_init : FnScope ["self", "room", "wants", "modes", "rows"] ["self", "room", "wants", "modes", "rows"] (defScope s_P_init) := ⟨rfl, rfl, rfl, by decide +kernel, rfl, by decide +kernel, by decide +kernel⟩
abbrev s_P_modes : Stmt := inClass (topS 44) 4
theorem sc_P_modes : FnScope ["self"] ["self"] (defScope s_P_modes) := ⟨rfl, rfl, rfl, by decide +kernel, rfl, by decide +kernel, by decide +kernel⟩
abbrev s_P_eq : Stmt := inClass (topS 44) 8
theorem sc_P_eq : FnScope ["self", "other"] ["self", "other"] (defScope s_P_eq) := ⟨rfl, rfl, rfl, by decide +kernel, rfl, by decide +kernel, by decide +kernel⟩
abbrev s_P_str : Stmt := inClass (topS 44) 9
theorem sc_P_str : FnScope ["self", "lines"] ["self"] (defScope s_P_str) := ⟨rfl, rfl, rfl, by decide +kernel, rfl, by decide +kernel, by decide +kernel⟩
abbrev s_check_program : Stmt := topS 45
theorem sc_check_program : FnScope ["value"] ["value"] (defScope s_check_program) := ⟨rfl, rfl, rfl, by decide +kernel, rfl, by decide +kernel, by decide +kernel⟩
abbrev s_holds : Stmt := topS 47
theorem sc_holds : FnScope ["condition", "program", "mode", "kept", "whole", "above", "word", "part", "wanted"] ["condition", "program", "mode", "kept", "whole", "above"] (defScope s_holds) := ⟨rfl, rfl, rfl, by decide +kernel, rfl, by decide +kernel, by decide +kernel⟩
abbrev s_row_of : Stmt := topS 48
theorem sc_row_of : FnScope ["program", "occasion", "mode", "kept", "whole", "above", "index", "part", "one"] ["program", "occasion", "mode", "kept", "whole", "above"] (defScope s_row_of) := ⟨rfl, rfl, rfl, by decide +kernel, rfl, by decide +kernel, by decide +kernel⟩
abbrev s_deed_for : Stmt := topS 49
theorem sc_deed_for : FnScope ["program", "occasion", "mode", "kept", "whole", "above", "index", "part"] ["program", "occasion", "mode", "kept", "whole", "above"] (defScope s_deed_for) := ⟨rfl, rfl, rfl, by decide +kernel, rfl, by decide +kernel, by decide +kernel⟩
abbrev s_is_event : Stmt := topS 51
theorem sc_is_event : FnScope ["value", "size", "word", "parts"] ["value", "size"] (defScope s_is_event) := ⟨rfl, rfl, rfl, by decide +kernel, rfl, by decide +kernel, by decide +kernel⟩
abbrev s_read_state : Stmt := topS 52
theorem sc_read_state : FnScope ["mode", "size", "count", "many"] ["mode", "size", "count"] (defScope s_read_state) := ⟨rfl, rfl, rfl, by decide +kernel, rfl, by decide +kernel, by decide +kernel⟩
abbrev s_put_state : Stmt := topS 53
theorem sc_put_state : FnScope ["program", "state", "rank", "mode", "size", "kept", "above", "deed", "count", "ranks", "old"] ["program", "state", "rank"] (defScope s_put_state) := ⟨rfl, rfl, rfl, by decide +kernel, rfl, by decide +kernel, by decide +kernel⟩
abbrev s_take_state : Stmt := topS 54
theorem sc_take_state : FnScope ["program", "state", "rank", "mode", "size", "kept", "ranks", "deed", "count", "old"] ["program", "state", "rank"] (defScope s_take_state) := ⟨rfl, rfl, rfl, by decide +kernel, rfl, by decide +kernel, by decide +kernel⟩
abbrev s_ask_state : Stmt := topS 55
theorem sc_ask_state : FnScope ["program", "state", "mode", "size", "kept", "deed", "count"] ["program", "state"] (defScope s_ask_state) := ⟨rfl, rfl, rfl, by decide +kernel, rfl, by decide +kernel, by decide +kernel⟩
abbrev s_state_behind : Stmt := topS 56
theorem sc_state_behind : FnScope ["program", "state", "event", "word", "taken", "first", "put", "second"] ["program", "state", "event"] (defScope s_state_behind) := ⟨rfl, rfl, rfl, by decide +kernel, rfl, by decide +kernel, by decide +kernel⟩
abbrev s_G_init : Stmt := inClass (topS 58) 0
theorem sc_G_init : FnScope ["self", "program", "state"] ["self", "program", "state"] (defScope s_G_init) := ⟨rfl, rfl, rfl, by decide +kernel, rfl, by decide +kernel, by decide +kernel⟩
abbrev s_G_mode : Stmt := inClass (topS 58) 2
theorem sc_G_mode : FnScope ["self"] ["self"] (defScope s_G_mode) := ⟨rfl, rfl, rfl, by decide +kernel, rfl, by decide +kernel, by decide +kernel⟩
abbrev s_G_size : Stmt := inClass (topS 58) 3
theorem sc_G_size : FnScope ["self"] ["self"] (defScope s_G_size) := ⟨rfl, rfl, rfl, by decide +kernel, rfl, by decide +kernel, by decide +kernel⟩
abbrev s_G_kept : Stmt := inClass (topS 58) 4
theorem sc_G_kept : FnScope ["self"] ["self"] (defScope s_G_kept) := ⟨rfl, rfl, rfl, by decide +kernel, rfl, by decide +kernel, by decide +kernel⟩
abbrev s_G_eq : Stmt := inClass (topS 58) 8
theorem sc_G_eq : FnScope ["self", "other"] ["self", "other"] (defScope s_G_eq) := ⟨rfl, rfl, rfl, by decide +kernel, rfl, by decide +kernel, by decide +kernel⟩
abbrev s_G_after : Stmt := inClass (topS 58) 10
theorem sc_G_after : FnScope ["self", "event"] ["self", "event"] (defScope s_G_after) := ⟨rfl, rfl, rfl, by decide +kernel, rfl, by decide +kernel, by decide +kernel⟩
abbrev s_G_reads : Stmt := inClass (topS 58) 11
theorem sc_G_reads : FnScope ["self", "event"] ["self", "event"] (defScope s_G_reads) := ⟨rfl, rfl, rfl, by decide +kernel, rfl, by decide +kernel, by decide +kernel⟩
abbrev s_check_event : Stmt := topS 59
theorem sc_check_event : FnScope ["event", "size"] ["event", "size"] (defScope s_check_event) := ⟨rfl, rfl, rfl, by decide +kernel, rfl, by decide +kernel, by decide +kernel⟩
abbrev s_begin : Stmt := topS 60
theorem sc_begin : FnScope ["program", "size"] ["program", "size"] (defScope s_begin) := ⟨rfl, rfl, rfl, by decide +kernel, rfl, by decide +kernel, by decide +kernel⟩
abbrev s_followed : Stmt := topS 61
theorem sc_followed : FnScope ["program", "history", "size", "events", "state", "counts", "index", "event", "found"] ["program", "history"] (defScope s_followed) := ⟨rfl, rfl, rfl, by decide +kernel, rfl, by decide +kernel, by decide +kernel⟩
abbrev s_play : Stmt := topS 62
theorem sc_play : FnScope ["program", "history"] ["program", "history"] (defScope s_play) := ⟨rfl, rfl, rfl, by decide +kernel, rfl, by decide +kernel, by decide +kernel⟩
abbrev s_price_of : Stmt := topS 63
theorem sc_price_of : FnScope ["program", "history", "prices", "counts", "paid", "event"] ["program", "history", "prices"] (defScope s_price_of) := ⟨rfl, rfl, rfl, by decide +kernel, rfl, by decide +kernel, by decide +kernel⟩
abbrev s_law_purse : Stmt := topS 65
theorem sc_law_purse : FnScope ["_law_script", "_law_k", "_law_mix", "_law_at", "_law_cell"] ["_law_script", "_law_k"] (defScope s_law_purse) := ⟨rfl, rfl, rfl, by decide +kernel, rfl, by decide +kernel, by decide +kernel⟩
abbrev s_law_draw : Stmt := topS 66
theorem sc_law_draw : FnScope ["_law_purse_here", "_law_many", "_law_mix", "_law_digit"] ["_law_purse_here", "_law_many"] (defScope s_law_draw) := ⟨rfl, rfl, rfl, by decide +kernel, rfl, by decide +kernel, by decide +kernel⟩
abbrev s_law_one : Stmt := topS 67
theorem sc_law_one : FnScope ["_law_purse_here", "_law_menu"] ["_law_purse_here", "_law_menu"] (defScope s_law_one) := ⟨rfl, rfl, rfl, by decide +kernel, rfl, by decide +kernel, by decide +kernel⟩
abbrev s_law_tag : Stmt := topS 68
theorem sc_law_tag : FnScope ["_law_purse_here", "_law_some", "_law_found", "_law_turn"] ["_law_purse_here"] (defScope s_law_tag) := ⟨rfl, rfl, rfl, by decide +kernel, rfl, by decide +kernel, by decide +kernel⟩
abbrev s_law_tags : Stmt := topS 69
theorem sc_law_tags : FnScope ["_law_purse_here", "_law_found", "_law_turn", "_law_way", "_law_tag_here"] ["_law_purse_here"] (defScope s_law_tags) := ⟨rfl, rfl, rfl, by decide +kernel, rfl, by decide +kernel, by decide +kernel⟩
abbrev s_law_conds : Stmt := topS 70
theorem sc_law_conds : FnScope ["_law_purse_here", "_law_when", "_law_tags_here", "_law_most", "_law_found", "_law_turn", "_law_word", "_law_part_here"] ["_law_purse_here", "_law_when", "_law_tags_here", "_law_most"] (defScope s_law_conds) := ⟨rfl, rfl, rfl, by decide +kernel, rfl, by decide +kernel, by decide +kernel⟩
abbrev s_law_deeds : Stmt := topS 71
theorem sc_law_deeds : FnScope ["_law_purse_here", "_law_when", "_law_cap", "_law_tags_here", "_law_goal", "_law_way", "_law_first"] ["_law_purse_here", "_law_when", "_law_cap", "_law_tags_here"] (defScope s_law_deeds) := ⟨rfl, rfl, rfl, by decide +kernel, rfl, by decide +kernel, by decide +kernel⟩
abbrev s_law_acts : Stmt := topS 72
theorem sc_law_acts : FnScope ["_law_purse_here", "_law_cap", "_law_tags_here", "_law_many", "_law_most", "_law_found", "_law_turn", "_law_when", "_law_conds_here"] ["_law_purse_here", "_law_cap", "_law_tags_here", "_law_many", "_law_most"] (defScope s_law_acts) := ⟨rfl, rfl, rfl, by decide +kernel, rfl, by decide +kernel, by decide +kernel⟩
abbrev s_law_words : Stmt := topS 73
theorem sc_law_words : FnScope ["_law_pair"] ["_law_pair"] (defScope s_law_words) := ⟨rfl, rfl, rfl, by decide +kernel, rfl, by decide +kernel, by decide +kernel⟩
abbrev s_law_line : Stmt := topS 74
theorem sc_law_line : FnScope ["_law_act", "_law_conds_here", "_law_head", "_law_cond", "_law_deed"] ["_law_act"] (defScope s_law_line) := ⟨rfl, rfl, rfl, by decide +kernel, rfl, by decide +kernel, by decide +kernel⟩
abbrev s_law_parts : Stmt := topS 75
theorem sc_law_parts : FnScope ["_law_purse_here", "_law_most", "_law_deep", "_law_cap", "_law_want", "_law_tags_here"] ["_law_purse_here", "_law_most", "_law_deep"] (defScope s_law_parts) := ⟨rfl, rfl, rfl, by decide +kernel, rfl, by decide +kernel, by decide +kernel⟩
abbrev s_law_program : Stmt := topS 76
theorem sc_law_program : FnScope ["_law_parts_here", "_law_act"] ["_law_parts_here"] (defScope s_law_program) := ⟨rfl, rfl, rfl, by decide +kernel, rfl, by decide +kernel, by decide +kernel⟩
abbrev s_law_place : Stmt := topS 77
theorem sc_law_place : FnScope ["_law_purse_here", "_law_many"] ["_law_purse_here", "_law_many"] (defScope s_law_place) := ⟨rfl, rfl, rfl, by decide +kernel, rfl, by decide +kernel, by decide +kernel⟩
abbrev s_law_step : Stmt := topS 78
theorem sc_law_step : FnScope ["_law_purse_here", "_law_many", "_law_way"] ["_law_purse_here", "_law_many"] (defScope s_law_step) := ⟨rfl, rfl, rfl, by decide +kernel, rfl, by decide +kernel, by decide +kernel⟩
abbrev s_law_steps : Stmt := topS 79
theorem sc_law_steps : FnScope ["_law_purse_here", "_law_many", "_law_turns", "_law_found", "_law_turn", "_law_step_here"] ["_law_purse_here", "_law_many", "_law_turns"] (defScope s_law_steps) := ⟨rfl, rfl, rfl, by decide +kernel, rfl, by decide +kernel, by decide +kernel⟩
abbrev s_law_prices : Stmt := topS 80
theorem sc_law_prices : FnScope ["_law_purse_here", "_law_some", "_law_at", "_law_way", "_law_k"] ["_law_purse_here"] (defScope s_law_prices) := ⟨rfl, rfl, rfl, by decide +kernel, rfl, by decide +kernel, by decide +kernel⟩
abbrev s_law_paid : Stmt := topS 81
theorem sc_law_paid : FnScope ["_law_steps_here", "_law_counts", "_law_costs", "_law_words_here", "_law_events_here", "_law_step_here", "_law_count"] ["_law_steps_here", "_law_counts", "_law_costs"] (defScope s_law_paid) := ⟨rfl, rfl, rfl, by decide +kernel, rfl, by decide +kernel, by decide +kernel⟩
abbrev s_law_right : Stmt := topS 82
theorem sc_law_right : FnScope ["_law_purse_here", "_law_parts_here", "_law_many", "_law_mine", "_law_steps_here", "_law_counts", "_law_group", "_law_costs", "_law_more", "_law_both", "_law_at", "_law_played", "_law_due", "_law_some", "_law_told", "_law_behind", "_law_named", "_law_k"] ["_law_purse_here"] (defScope s_law_right) := ⟨rfl, rfl, rfl, by decide +kernel, rfl, by decide +kernel, by decide +kernel⟩
abbrev s_law : Stmt := topS 83
theorem sc_law : FnScope ["_law_script", "_law_k"] ["_law_script"] (defScope s_law) := ⟨rfl, rfl, rfl, by decide +kernel, rfl, by decide +kernel, by decide +kernel⟩
/-! ### addresses by names, defs -/
def gadr (x : Str) : PySem.W.Frag → Addr := fun K => He.ga K x
def madr (x m : Str) : PySem.W.Frag → Addr := fun K => He.ma K (He.ga K x) m
def padr (x f : Str) : PySem.W.Frag → Addr := fun K => match PySem.W.recIn K (He.ma K (He.ga K x) f) "property" with
  | some (.ref g :: _) => g
  | _ => 0
structure DefY where
  at_ : PySem.W.Frag → Addr
  name : Str
  qual : Str
  params : Arguments
  body : List Stmt
  scope : Scope
  dfl : List He.Dv := []
def fnA (K : PySem.W.Frag) (a : Addr) : He.FnW := match K.lookup a with
  | some ⟨_, _, .func fd, _⟩ => some (fd.name, fd.qualname, fd.params, fd.body, fd.scope, fd.globals, fd.closure, fd.builtins)
  | _ => none
def DefY.val (d : DefY) : He.FnW := some (d.name, d.qual, d.params, .stmts d.body, d.scope, mainGlobals, [], builtinsNs)
def DefY.dvs (K : PySem.W.Frag) (d : DefY) : List V := d.dfl.map (He.Dv.v K)
def DefY.ok (K : PySem.W.Frag) (d : DefY) : Bool := PySem.W.keepIn K (.ref (d.at_ K)) && (match K.lookup (d.at_ K) with
  | some ⟨_, _, .func fd, _⟩ => PySem.W.codeIn K fd.code d.qual && He.dflB K fd.defaults (d.dvs K)
  | _ => false)
theorem DefY.funD {K : PySem.W.Frag} {d : DefY} (e : fnA K (d.at_ K) = d.val) (c : d.ok K = true) : ∃ fd, FunD K d.name d.qual d.params d.body d.scope (d.dvs K) [] (d.at_ K) fd := by
  obtain ⟨kp, c2⟩ := He.ba c
  unfold fnA at e
  cases q : K.lookup (d.at_ K) with
  | none =>
    rw [q] at c2
    cases c2
  | some o =>
    obtain ⟨oc, od, dt, osl⟩ := o
    rw [q] at c2 e
    cases dt with
    | func fd =>
      obtain ⟨n1, n2, n3, n4, n5, n6, n7, n8, n9, n10, n11, n12, n13, n14, n15⟩ := fd
      have e2 : (some (n1, n2, n3, n4, n5, n6, n7, n15) : He.FnW) = some (d.name, d.qual, d.params, .stmts d.body, d.scope, mainGlobals, [], builtinsNs) := e
      simp only [Option.some.injEq, Prod.mk.injEq] at e2
      obtain ⟨h1, h2, h3, h4, h5, h6, h7, h8⟩ := e2
      subst h1 h2 h3 h4 h5 h6 h7 h8
      have c3 : (PySem.W.codeIn K n13 d.qual && He.dflB K n8 (d.dvs K)) = true := c2
      obtain ⟨k1, k2⟩ := He.ba c3
      exact ⟨_, ⟨oc, od, n8, n9, n10, n11, n12, n13, n14, osl, rfl, q, k1, He.dflB_ok k2, .inl rfl⟩, kp⟩
    | _ => cases c2
def d_is_integer : DefY := ⟨gadr "is_integer", "is_integer", "is_integer", defArgs s_is_integer, defBody s_is_integer, defScope s_is_integer, []⟩
def d_is_number : DefY := ⟨gadr "is_number", "is_number", "is_number", defArgs s_is_number, defBody s_is_number, defScope s_is_number, []⟩
def d_is_below : DefY := ⟨gadr "is_below", "is_below", "is_below", defArgs s_is_below, defBody s_is_below, defScope s_is_below, []⟩
def d_check_between : DefY := ⟨gadr "check_between", "check_between", "check_between", defArgs s_check_between, defBody s_check_between, defScope s_check_between, []⟩
def d_check_number : DefY := ⟨gadr "check_number", "check_number", "check_number", defArgs s_check_number, defBody s_check_number, defScope s_check_number, []⟩
def d_are_prices : DefY := ⟨gadr "are_prices", "are_prices", "are_prices", defArgs s_are_prices, defBody s_are_prices, defScope s_are_prices, []⟩
def d_check_prices : DefY := ⟨gadr "check_prices", "check_prices", "check_prices", defArgs s_check_prices, defBody s_check_prices, defScope s_check_prices, []⟩
def d_price_of_event : DefY := ⟨gadr "price_of_event", "price_of_event", "price_of_event", defArgs s_price_of_event, defBody s_price_of_event, defScope s_price_of_event, []⟩
def d_price_of_reads : DefY := ⟨gadr "price_of_reads", "price_of_reads", "price_of_reads", defArgs s_price_of_reads, defBody s_price_of_reads, defScope s_price_of_reads, []⟩
def d_is_word : DefY := ⟨gadr "is_word", "is_word", "is_word", defArgs s_is_word, defBody s_is_word, defScope s_is_word, []⟩
def d_is_mode : DefY := ⟨gadr "is_mode", "is_mode", "is_mode", defArgs s_is_mode, defBody s_is_mode, defScope s_is_mode, []⟩
def d_figure_in : DefY := ⟨gadr "figure_in", "figure_in", "figure_in", defArgs s_figure_in, defBody s_figure_in, defScope s_figure_in, []⟩
def d_condition_in : DefY := ⟨gadr "condition_in", "condition_in", "condition_in", defArgs s_condition_in, defBody s_condition_in, defScope s_condition_in, []⟩
def d_conditions_in : DefY := ⟨gadr "conditions_in", "conditions_in", "conditions_in", defArgs s_conditions_in, defBody s_conditions_in, defScope s_conditions_in, []⟩
def d_first_deed : DefY := ⟨gadr "first_deed", "first_deed", "first_deed", defArgs s_first_deed, defBody s_first_deed, defScope s_first_deed, []⟩
def d_mode_in : DefY := ⟨gadr "mode_in", "mode_in", "mode_in", defArgs s_mode_in, defBody s_mode_in, defScope s_mode_in, []⟩
def d_deeds_in : DefY := ⟨gadr "deeds_in", "deeds_in", "deeds_in", defArgs s_deeds_in, defBody s_deeds_in, defScope s_deeds_in, []⟩
def d_row_in : DefY := ⟨gadr "row_in", "row_in", "row_in", defArgs s_row_in, defBody s_row_in, defScope s_row_in, []⟩
def d_check_modes : DefY := ⟨gadr "check_modes", "check_modes", "check_modes", defArgs s_check_modes, defBody s_check_modes, defScope s_check_modes, []⟩
def d_parts_of : DefY := ⟨gadr "parts_of", "parts_of", "parts_of", defArgs s_parts_of, defBody s_parts_of, defScope s_parts_of, []⟩
def d_P_init : DefY := ⟨madr "Program" "__init__", "__init__", "Program.__init__", defArgs s_P_init, defBody s_P_init, defScope s_P_init, [.int 1, .adr (He.dflAt ("Program", some "__init__") 1), .adr (He.dflAt ("Program", some "__init__") 2)]⟩
def d_P_modes : DefY := ⟨padr "Program" "modes", "modes", "Program.modes", defArgs s_P_modes, defBody s_P_modes, defScope s_P_modes, []⟩
def d_P_eq : DefY := ⟨madr "Program" "__eq__", "__eq__", "Program.__eq__", defArgs s_P_eq, defBody s_P_eq, defScope s_P_eq, []⟩
def d_P_str : DefY := ⟨madr "Program" "__str__", "__str__", "Program.__str__", defArgs s_P_str, defBody s_P_str, defScope s_P_str, []⟩
def d_check_program : DefY := ⟨gadr "check_program", "check_program", "check_program", defArgs s_check_program, defBody s_check_program, defScope s_check_program, []⟩
def d_holds : DefY := ⟨gadr "holds", "holds", "holds", defArgs s_holds, defBody s_holds, defScope s_holds, []⟩
def d_row_of : DefY := ⟨gadr "row_of", "row_of", "row_of", defArgs s_row_of, defBody s_row_of, defScope s_row_of, [.bl false]⟩
def d_deed_for : DefY := ⟨gadr "deed_for", "deed_for", "deed_for", defArgs s_deed_for, defBody s_deed_for, defScope s_deed_for, [.bl false]⟩
def d_is_event : DefY := ⟨gadr "is_event", "is_event", "is_event", defArgs s_is_event, defBody s_is_event, defScope s_is_event, []⟩
def d_read_state : DefY := ⟨gadr "read_state", "read_state", "read_state", defArgs s_read_state, defBody s_read_state, defScope s_read_state, []⟩
def d_put_state : DefY := ⟨gadr "put_state", "put_state", "put_state", defArgs s_put_state, defBody s_put_state, defScope s_put_state, []⟩
def d_take_state : DefY := ⟨gadr "take_state", "take_state", "take_state", defArgs s_take_state, defBody s_take_state, defScope s_take_state, []⟩
def d_ask_state : DefY := ⟨gadr "ask_state", "ask_state", "ask_state", defArgs s_ask_state, defBody s_ask_state, defScope s_ask_state, []⟩
def d_state_behind : DefY := ⟨gadr "state_behind", "state_behind", "state_behind", defArgs s_state_behind, defBody s_state_behind, defScope s_state_behind, []⟩
def d_G_init : DefY := ⟨madr "Group" "__init__", "__init__", "Group.__init__", defArgs s_G_init, defBody s_G_init, defScope s_G_init, []⟩
def d_G_mode : DefY := ⟨padr "Group" "mode", "mode", "Group.mode", defArgs s_G_mode, defBody s_G_mode, defScope s_G_mode, []⟩
def d_G_size : DefY := ⟨padr "Group" "size", "size", "Group.size", defArgs s_G_size, defBody s_G_size, defScope s_G_size, []⟩
def d_G_kept : DefY := ⟨padr "Group" "kept", "kept", "Group.kept", defArgs s_G_kept, defBody s_G_kept, defScope s_G_kept, []⟩
def d_G_eq : DefY := ⟨madr "Group" "__eq__", "__eq__", "Group.__eq__", defArgs s_G_eq, defBody s_G_eq, defScope s_G_eq, []⟩
def d_G_after : DefY := ⟨madr "Group" "after", "after", "Group.after", defArgs s_G_after, defBody s_G_after, defScope s_G_after, []⟩
def d_G_reads : DefY := ⟨madr "Group" "reads", "reads", "Group.reads", defArgs s_G_reads, defBody s_G_reads, defScope s_G_reads, []⟩
def d_check_event : DefY := ⟨gadr "check_event", "check_event", "check_event", defArgs s_check_event, defBody s_check_event, defScope s_check_event, []⟩
def d_begin : DefY := ⟨gadr "begin", "begin", "begin", defArgs s_begin, defBody s_begin, defScope s_begin, [.int 0]⟩
def d_followed : DefY := ⟨gadr "followed", "followed", "followed", defArgs s_followed, defBody s_followed, defScope s_followed, []⟩
def d_play : DefY := ⟨gadr "play", "play", "play", defArgs s_play, defBody s_play, defScope s_play, []⟩
def d_price_of : DefY := ⟨gadr "price_of", "price_of", "price_of", defArgs s_price_of, defBody s_price_of, defScope s_price_of, []⟩
def d_law_purse : DefY := ⟨gadr "_law_purse", "_law_purse", "_law_purse", defArgs s_law_purse, defBody s_law_purse, defScope s_law_purse, []⟩
def d_law_draw : DefY := ⟨gadr "_law_draw", "_law_draw", "_law_draw", defArgs s_law_draw, defBody s_law_draw, defScope s_law_draw, []⟩
def d_law_one : DefY := ⟨gadr "_law_one", "_law_one", "_law_one", defArgs s_law_one, defBody s_law_one, defScope s_law_one, []⟩
def d_law_tag : DefY := ⟨gadr "_law_tag", "_law_tag", "_law_tag", defArgs s_law_tag, defBody s_law_tag, defScope s_law_tag, []⟩
def d_law_tags : DefY := ⟨gadr "_law_tags", "_law_tags", "_law_tags", defArgs s_law_tags, defBody s_law_tags, defScope s_law_tags, []⟩
def d_law_conds : DefY := ⟨gadr "_law_conds", "_law_conds", "_law_conds", defArgs s_law_conds, defBody s_law_conds, defScope s_law_conds, []⟩
def d_law_deeds : DefY := ⟨gadr "_law_deeds", "_law_deeds", "_law_deeds", defArgs s_law_deeds, defBody s_law_deeds, defScope s_law_deeds, []⟩
def d_law_acts : DefY := ⟨gadr "_law_acts", "_law_acts", "_law_acts", defArgs s_law_acts, defBody s_law_acts, defScope s_law_acts, []⟩
def d_law_words : DefY := ⟨gadr "_law_words", "_law_words", "_law_words", defArgs s_law_words, defBody s_law_words, defScope s_law_words, []⟩
def d_law_line : DefY := ⟨gadr "_law_line", "_law_line", "_law_line", defArgs s_law_line, defBody s_law_line, defScope s_law_line, []⟩
def d_law_parts : DefY := ⟨gadr "_law_parts", "_law_parts", "_law_parts", defArgs s_law_parts, defBody s_law_parts, defScope s_law_parts, []⟩
def d_law_program : DefY := ⟨gadr "_law_program", "_law_program", "_law_program", defArgs s_law_program, defBody s_law_program, defScope s_law_program, []⟩
def d_law_place : DefY := ⟨gadr "_law_place", "_law_place", "_law_place", defArgs s_law_place, defBody s_law_place, defScope s_law_place, []⟩
def d_law_step : DefY := ⟨gadr "_law_step", "_law_step", "_law_step", defArgs s_law_step, defBody s_law_step, defScope s_law_step, []⟩
def d_law_steps : DefY := ⟨gadr "_law_steps", "_law_steps", "_law_steps", defArgs s_law_steps, defBody s_law_steps, defScope s_law_steps, []⟩
def d_law_prices : DefY := ⟨gadr "_law_prices", "_law_prices", "_law_prices", defArgs s_law_prices, defBody s_law_prices, defScope s_law_prices, []⟩
def d_law_paid : DefY := ⟨gadr "_law_paid", "_law_paid", "_law_paid", defArgs s_law_paid, defBody s_law_paid, defScope s_law_paid, []⟩
def d_law_right : DefY := ⟨gadr "_law_right", "_law_right", "_law_right", defArgs s_law_right, defBody s_law_right, defScope s_law_right, []⟩
def d_law : DefY := ⟨gadr "law", "law", "law", defArgs s_law, defBody s_law, defScope s_law, []⟩
def fnL : List DefY := ([d_is_integer, d_is_number, d_is_below, d_check_between, d_check_number, d_are_prices, d_check_prices, d_price_of_event, d_price_of_reads, d_is_word, d_is_mode, d_figure_in, d_condition_in, d_conditions_in, d_first_deed, d_mode_in, d_deeds_in, d_row_in, d_check_modes, d_parts_of, d_P_init, d_P_modes, d_P_eq, d_P_str, d_check_program] : List DefY) ++ ([d_holds, d_row_of, d_deed_for, d_is_event, d_read_state, d_put_state, d_take_state, d_ask_state, d_state_behind, d_G_init, d_G_mode, d_G_size, d_G_kept, d_G_eq, d_G_after, d_G_reads, d_check_event, d_begin, d_followed, d_play, d_price_of, d_law_purse, d_law_draw, d_law_one, d_law_tag] : List DefY) ++ ([d_law_tags, d_law_conds, d_law_deeds, d_law_acts, d_law_words, d_law_line, d_law_parts, d_law_program, d_law_place, d_law_step, d_law_steps, d_law_prices, d_law_paid, d_law_right, d_law] : List DefY)
def gloN : List Str := (["is_integer", "is_number", "is_below", "check_between", "check_number", "are_prices", "check_prices", "price_of_event", "price_of_reads", "is_word", "is_mode", "figure_in", "condition_in", "conditions_in", "first_deed", "mode_in", "deeds_in", "row_in", "check_modes", "parts_of", "Program", "check_program", "holds", "row_of", "deed_for"] : List Str) ++ (["is_event", "read_state", "put_state", "take_state", "ask_state", "state_behind", "Group", "check_event", "begin", "followed", "play", "price_of", "_law_purse", "_law_draw", "_law_one", "_law_tag", "_law_tags", "_law_conds", "_law_deeds", "_law_acts", "_law_words", "_law_line", "_law_parts", "_law_program", "_law_place"] : List Str) ++ (["_law_step", "_law_steps", "_law_prices", "_law_paid", "_law_right", "law"] : List Str)
def freeN : List Str := ["abs", "all", "bool", "divmod", "enumerate", "int", "isinstance", "len", "list", "max", "min", "range", "repr", "set", "sorted", "str", "sum", "tuple"]
def faL : List He.Fa := gloN.map He.Fa.glo ++ freeN.map He.Fa.free ++ [.int "MOST_ROOM" 4, .int "MOST_MODES" 3, .int "MOST_ROWS" 12, .int "MOST_CONDITIONS" 4, .int "LONGEST" 8, .str "LETTERS" "abcdefghijklmnopqrstuvwxyz", .str "FIGURES" "01234",
  .cls "Program", .cls "Group", .mkr "Program", .mkr "Group", .meth "Group" "after", .meth "Group" "reads"]
  ++ (["parts", "places", "wanted", "all_modes", "all_rows"] : List Str).map (He.Fa.noat "Program") ++ (["owner", "state"] : List Str).map (He.Fa.noat "Group")
def propB (K : PySem.W.Frag) (x f : Str) : Bool := He.eqO (PySem.W.findIn K (.ref (He.ga K x)) f) (some (some (.ref (He.ma K (He.ga K x) f)))) &&
  (He.eqO (PySem.W.specialIn K (.ref (He.ma K (He.ga K x) f)) "__get__") (some (some (.builtin "property.__get__"))) &&
  (decide (PySem.W.takesIn K (.ref (He.ma K (He.ga K x) f)) = some true) && (match PySem.W.recIn K (He.ma K (He.ga K x) f) "property" with
  | some (.ref g :: _) => decide (padr x f K = g)
  | _ => false)))
def insB (K : PySem.W.Frag) (x : Str) : Bool := He.eqO (PySem.W.findIn K (.ref (He.ga K x)) "__class__") (some (some (.builtin "object.__class__"))) && decide (PySem.W.mroIn K (He.ga K x) (.type "object") = some true)
def dunB (K : PySem.W.Frag) (x m : Str) : Bool := He.eqO (PySem.W.findIn K (.ref (He.ga K x)) m) (some (some (.ref (He.ma K (He.ga K x) m)))) && PySem.W.isFn K (.ref (He.ma K (He.ga K x) m))
def exB (K : PySem.W.Frag) : Bool := propB K "Program" "modes" && (propB K "Group" "mode" && (propB K "Group" "size" && (propB K "Group" "kept" && (insB K "Program" && (insB K "Group" &&
  (dunB K "Program" "__eq__" && (dunB K "Program" "__str__" && dunB K "Group" "__eq__")))))))
/-! ### the Hook -/
abbrev AlY : Type := Bool × List He.FnW
def obsY (K : PySem.W.Frag) : AlY := ((faL.all fun f => f.ok K) && (exB K && fnL.all fun d => d.ok K), fnL.map fun d => fnA K (d.at_ K))
def valY : AlY := (true, fnL.map DefY.val)
def SaysY (K : PySem.W.Frag) : Prop := obsY K = valY
/-! the addresses that the facts look at, by paths -/
def nsP (g : Addr → Option Obj) (d : Addr) (x : Str) : List Addr := match g d with
  | some ⟨_, _, .dict es _, _⟩ => (match es.toList.find? (·.key.isStr x) with
    | some e => He.refV e.val
    | none => [])
  | _ => []
def fnP (g : Addr → Option Obj) (a : Addr) : List Addr := match g a with
  | some ⟨_, _, .func fd, _⟩ => He.refV fd.code ++ He.refV fd.defaults
  | _ => []
def clP (g : Addr → Option Obj) (a : Addr) : List Addr := match g a with
  | some ⟨_, _, .cls cd, _⟩ => [cd.ns]
  | _ => []
def prP (g : Addr → Option Obj) (a : Addr) : List Addr := match g a with
  | some ⟨_, _, .fields vs, _⟩ => (match vs.toList with
    | v :: _ => He.refV v
    | [] => [])
  | _ => []
def meN : List Str := ["__init__", "modes", "__eq__", "__str__", "mode", "size", "kept", "after", "reads"]
def grP (f : Addr → List Addr) (as : List Addr) : List Addr := as.flatMap f
def asP (g : Addr → Option Obj) : List Addr :=
  let a0 := gloN.flatMap (nsP g mainGlobals)
  let a1 := a0.flatMap (fnP g)
  let c0 := (["Program", "Group"] : List Str).flatMap (nsP g mainGlobals)
  let c1 := c0.flatMap (clP g)
  let m0 := c1.flatMap fun d => meN.flatMap (nsP g d)
  let m1 := m0.flatMap (fnP g)
  let p0 := m0.flatMap (prP g)
  let p1 := p0.flatMap (fnP g)
  mainGlobals :: (a0 ++ (a1 ++ (c1 ++ (m0 ++ (m1 ++ (p0 ++ p1))))))
def obsYG (g : Addr → Option Obj) : AlY := obsY (He.frG g (asP g))
def hookY : PySem.W.Hook where
  α := AlY
  obs := fun s => obsYG s.heap.get?
  val := fun _ => valY
  says := fun _ h => ∃ K : PySem.W.Frag, K.In h ∧ SaysY K
  of := fun _ _ e => ⟨_, He.frG_in, e⟩
  keeps := fun _ _ _ ⟨K, hK, c⟩ k => ⟨K, PySem.W.Frag.In.keeps hK k, c⟩
theorem obsYG_eq {g : Addr → Option Obj} {s : Shared} (h : ∀ a, g a = s.heap.get? a) : obsYG g = hookY.obs s := by
  have e : g = s.heap.get? := funext h
  rw [e] <;> rfl
/-! ### what the walk leans on -/
structure InsF (K : PySem.W.Frag) (x : Str) : Prop where
  cl : Cls K (He.ga K x)
  ha : PySem.W.findIn K (.ref (He.ga K x)) "__class__" = some (some (.builtin "object.__class__"))
  hm : PySem.W.mroIn K (He.ga K x) (.type "object") = some true
structure DunF (K : PySem.W.Frag) (x m : Str) : Prop where
  at_ : PySem.W.findIn K (.ref (He.ga K x)) m = some (some (.ref (He.ma K (He.ga K x) m)))
  fn : PySem.W.isFn K (.ref (He.ma K (He.ga K x) m)) = true
structure TX (K : PySem.W.Frag) (mg : Str → Option Value) : Prop where
  glo : ∀ x, x ∈ gloN → mg x = some (.ref (He.ga K x))
  free : ∀ x, x ∈ freeN → mg x = none
  room : ∃ t, mg "MOST_ROOM" = some (.int 4 t)
  nmodes : ∃ t, mg "MOST_MODES" = some (.int 3 t)
  nrows : ∃ t, mg "MOST_ROWS" = some (.int 12 t)
  nconds : ∃ t, mg "MOST_CONDITIONS" = some (.int 4 t)
  longest : ∃ t, mg "LONGEST" = some (.int 8 t)
  letters : ∃ t, mg "LETTERS" = some (.str "abcdefghijklmnopqrstuvwxyz" t)
  figures : ∃ t, mg "FIGURES" = some (.str "01234" t)
  mkP : Mk K (He.ga K "Program") (He.ma K (He.ga K "Program") "__init__")
  mkG : Mk K (He.ga K "Group") (He.ma K (He.ga K "Group") "__init__")
  mAfter : Meth K (He.ga K "Group") "after" (He.ma K (He.ga K "Group") "after")
  mReads : Meth K (He.ga K "Group") "reads" (He.ma K (He.ga K "Group") "reads")
  noP : ∀ f, f ∈ (["parts", "places", "wanted", "all_modes", "all_rows"] : List Str) → NoAttr K (He.ga K "Program") f
  noG : ∀ f, f ∈ (["owner", "state"] : List Str) → NoAttr K (He.ga K "Group") f
  pModes : PropOf K (He.ga K "Program") "modes" (He.ma K (He.ga K "Program") "modes") (padr "Program" "modes" K)
  pMode : PropOf K (He.ga K "Group") "mode" (He.ma K (He.ga K "Group") "mode") (padr "Group" "mode" K)
  pSize : PropOf K (He.ga K "Group") "size" (He.ma K (He.ga K "Group") "size") (padr "Group" "size" K)
  pKept : PropOf K (He.ga K "Group") "kept" (He.ma K (He.ga K "Group") "kept") (padr "Group" "kept" K)
  iP : InsF K "Program"
  iG : InsF K "Group"
  eqP : DunF K "Program" "__eq__"
  strP : DunF K "Program" "__str__"
  eqG : DunF K "Group" "__eq__"
  fn : ∀ (i : Nat) (d : DefY), fnL[i]? = some d → ∃ fd, FunD K d.name d.qual d.params d.body d.scope (d.dvs K) [] (d.at_ K) fd
theorem propB_ok {K : PySem.W.Frag} {x f : Str} (h : propB K x f = true) : PropOf K (He.ga K x) f (He.ma K (He.ga K x) f) (padr x f K) := by
  obtain ⟨h1, h⟩ := He.ba h
  obtain ⟨h2, h⟩ := He.ba h
  obtain ⟨h3, h4⟩ := He.ba h
  refine ⟨He.eqO_ok h1, He.eqO_ok h2, of_decide_eq_true h3, ?_⟩
  cases e : PySem.W.recIn K (He.ma K (He.ga K x) f) "property" with
  | none =>
    rw [e] at h4
    cases h4
  | some l =>
    rw [e] at h4
    cases l with
    | nil => cases h4
    | cons v r =>
      cases v with
      | ref g =>
        have e2 : padr x f K = g := of_decide_eq_true h4
        exact ⟨r, by rw [e2]⟩
      | _ => cases h4
theorem dunB_ok {K : PySem.W.Frag} {x m : Str} (h : dunB K x m = true) : DunF K x m := by
  obtain ⟨h1, h2⟩ := He.ba h
  exact ⟨He.eqO_ok h1, h2⟩
theorem tx_of {K : PySem.W.Frag} {h : Heap} {mg : Str → Option Value} (X : K.In h) (G : h.Ns mainGlobals mg) (c : SaysY K) : TX K mg := by
  have c0 : ((faL.all fun f => f.ok K) && (exB K && fnL.all fun d => d.ok K)) = true := congrArg (fun z : AlY => z.1) c
  have cf : fnL.map (fun d => fnA K (d.at_ K)) = fnL.map DefY.val := congrArg (fun z : AlY => z.2) c
  obtain ⟨c1, c2⟩ := He.ba c0
  obtain ⟨c3, c4⟩ := He.ba c2
  have fa : ∀ f, f ∈ faL → f.ok K = true := fun f hf => List.all_eq_true.mp c1 f hf
  obtain ⟨e1, c3⟩ := He.ba c3
  obtain ⟨e2, c3⟩ := He.ba c3
  obtain ⟨e3, c3⟩ := He.ba c3
  obtain ⟨e4, c3⟩ := He.ba c3
  obtain ⟨e5, c3⟩ := He.ba c3
  obtain ⟨e6, c3⟩ := He.ba c3
  obtain ⟨e7, c3⟩ := He.ba c3
  obtain ⟨e8, e9⟩ := He.ba c3
  have clP : Cls K (He.ga K "Program") := He.cls_ok (fa (.cls "Program") (by simp [faL]))
  have clG : Cls K (He.ga K "Group") := He.cls_ok (fa (.cls "Group") (by simp [faL]))
  obtain ⟨i1, i2⟩ := He.ba e5
  obtain ⟨j1, j2⟩ := He.ba e6
  exact {
    glo := fun x hx => He.glo_ok X G (fa (.glo x) (List.mem_append_left _ (List.mem_append_left _ (List.mem_append_left _ (List.mem_append_left _ (List.mem_map_of_mem hx))))))
    free := fun x hx => He.free_ok X G (fa (.free x) (List.mem_append_left _ (List.mem_append_left _ (List.mem_append_left _ (List.mem_append_right _ (List.mem_map_of_mem hx))))))
    room := He.int_ok X G (fa (.int "MOST_ROOM" 4) (by simp [faL]))
    nmodes := He.int_ok X G (fa (.int "MOST_MODES" 3) (by simp [faL]))
    nrows := He.int_ok X G (fa (.int "MOST_ROWS" 12) (by simp [faL]))
    nconds := He.int_ok X G (fa (.int "MOST_CONDITIONS" 4) (by simp [faL]))
    longest := He.int_ok X G (fa (.int "LONGEST" 8) (by simp [faL]))
    letters := He.str_ok X G (fa (.str "LETTERS" "abcdefghijklmnopqrstuvwxyz") (by simp [faL]))
    figures := He.str_ok X G (fa (.str "FIGURES" "01234") (by simp [faL]))
    mkP := He.mkr_ok (fa (.mkr "Program") (by simp [faL]))
    mkG := He.mkr_ok (fa (.mkr "Group") (by simp [faL]))
    mAfter := He.meth_ok (fa (.meth "Group" "after") (by simp [faL]))
    mReads := He.meth_ok (fa (.meth "Group" "reads") (by simp [faL]))
    noP := fun f hf => He.noat_ok (fa (.noat "Program" f) (List.mem_append_left _ (List.mem_append_right _ (List.mem_map_of_mem hf))))
    noG := fun f hf => He.noat_ok (fa (.noat "Group" f) (List.mem_append_right _ (List.mem_map_of_mem hf)))
    pModes := propB_ok e1
    pMode := propB_ok e2
    pSize := propB_ok e3
    pKept := propB_ok e4
    iP := ⟨clP, He.eqO_ok i1, of_decide_eq_true i2⟩
    iG := ⟨clG, He.eqO_ok j1, of_decide_eq_true j2⟩
    eqP := dunB_ok e7
    strP := dunB_ok e8
    eqG := dunB_ok e9
    fn := fun i d hd => by
      have e2 : (fnL.map fun d => fnA K (d.at_ K))[i]? = (fnL.map DefY.val)[i]? := by rw [cf]
      rw [List.getElem?_map, List.getElem?_map, hd] at e2
      exact DefY.funD (Option.some.inj e2) (List.all_eq_true.mp c4 d (List.mem_of_getElem? hd)) }
end Kt
set_option maxHeartbeats 0
namespace Kt
open PySem PySem.Spec PyProof.Rows L2
abbrev R : PySem.W.OpenRow := PySem.W.OpenLaw.row PySem.Challenge.rw_keptleast_k17_whole_plays_and_prices
abbrev hk : PySem.W.Hook := hookY
def ob (s : PySem.W.SharedT) : AlY := obsYG (HandSHeadRun.getT s)
theorem ob_eq (s : PySem.W.SharedT) : ob s = hk.obs s.abs := obsYG_eq (HandSHeadRun.getT_eq s)
def loose : List Str := (["_wall", "WrongValue", "InvalidNumber", "InvalidText", "InvalidPrices", "InvalidEvent", "NotAProgram", "InvalidModes", "InvalidRows", "WrongLine", "InvalidHistory", "is_integer", "is_number", "is_below", "check_between", "check_number", "are_prices", "check_prices", "price_of_event", "price_of_reads", "MOST_ROOM", "MOST_MODES", "MOST_ROWS", "MOST_CONDITIONS", "LETTERS", "LONGEST", "FIGURES", "is_word", "is_mode", "figure_in"] : List Str) ++ (["condition_in", "conditions_in", "first_deed", "mode_in", "deeds_in", "row_in", "check_modes", "parts_of", "figure_behind", "head_in", "Program", "check_program", "holds", "row_of", "deed_for", "is_event", "read_state", "put_state", "take_state", "ask_state", "state_behind", "Group", "check_event", "begin", "followed", "play", "price_of", "_law_purse", "_law_draw", "_law_one"] : List Str) ++ (["_law_tag", "_law_tags", "_law_conds", "_law_deeds", "_law_acts", "_law_words", "_law_line", "_law_parts", "_law_program", "_law_place", "_law_step", "_law_steps", "_law_prices", "_law_paid", "_law_right"] : List Str)
theorem run (w : World) : HandSHeadRun.RunEq R (PySem.W.view R.prog [83]) hk ob 20000 loose w := by
  intro os
  kernel_rfl
end Kt
set_option maxHeartbeats 4000000
/-! A calculus over data: what a reading says of data, with no heap in sight. -/
namespace Kt
open PySem PySem.Spec PyProof.Rows L2

/-! ### data in the heap -/
mutual
inductive Dq (H : Hp) : V → PyData → Prop
  | non : Dq H .non .none
  | bl (b : Bool) : Dq H (.bl b) (.bool b)
  | int (i : Int) : Dq H (.int i) (.int i)
  | str (x : Str) : Dq H (.str x) (.str x)
  | lst {a : Addr} {xs : List V} {ds : List PyData} : H a = some (.lst xs) → DqA H xs ds → Dq H (.ref a) (.list ds)
  | tup {a : Addr} {xs : List V} {ds : List PyData} : H a = some (.tup xs) → DqA H xs ds → Dq H (.ref a) (.tuple ds)
inductive DqA (H : Hp) : List V → List PyData → Prop
  | nil : DqA H [] []
  | cons {v : V} {vs : List V} {d : PyData} {ds : List PyData} : Dq H v d → DqA H vs ds → DqA H (v :: vs) (d :: ds)
end
mutual
theorem Dq.mono {H H' : Hp} (e : Same H H') : ∀ (d : PyData) (v : V), Dq H v d → Dq H' v d
  | .none, _, h => by cases h; exact .non
  | .bool b, _, h => by cases h; exact .bl b
  | .int i, _, h => by cases h; exact .int i
  | .str x, _, h => by cases h; exact .str x
  | .list ds, _, h => by
    cases h with
    | lst h1 h2 => exact .lst (e _ _ h1) (DqA.mono e ds _ h2)
  | .tuple ds, _, h => by
    cases h with
    | tup h1 h2 => exact .tup (e _ _ h1) (DqA.mono e ds _ h2)
  | .dict _, _, h => by cases h
theorem DqA.mono {H H' : Hp} (e : Same H H') : ∀ (ds : List PyData) (vs : List V), DqA H vs ds → DqA H' vs ds
  | [], _, h => by cases h; exact .nil
  | d :: ds, _, h => by
    cases h with
    | cons h1 h2 => exact .cons (Dq.mono e d _ h1) (DqA.mono e ds _ h2)
end
mutual
theorem Dq.dp {K : PySem.W.Frag} {H : Hp} : ∀ (d : PyData) (v : V), Dq H v d → Dp K H v d
  | .none, _, h => by cases h; exact .non
  | .bool b, _, h => by cases h; exact .bl b
  | .int i, _, h => by cases h; exact .int i
  | .str x, _, h => by cases h; exact .str x
  | .list ds, _, h => by
    cases h with
    | lst h1 h2 => exact .lst (.inl (.inl h1)) (DqA.dp ds _ h2)
  | .tuple ds, _, h => by
    cases h with
    | tup h1 h2 => exact .tup (.inl (.inl h1)) (DqA.dp ds _ h2)
  | .dict _, _, h => by cases h
theorem DqA.dp {K : PySem.W.Frag} {H : Hp} : ∀ (ds : List PyData) (vs : List V), DqA H vs ds → DpAll K H vs ds
  | [], _, h => by cases h; exact .nil
  | d :: ds, _, h => by
    cases h with
    | cons h1 h2 => exact .cons (Dq.dp d _ h1) (DqA.dp ds _ h2)
end
theorem DqA.length {H : Hp} : ∀ {ds : List PyData} {vs : List V}, DqA H vs ds → vs.length = ds.length
  | [], _, h => by cases h; rfl
  | d :: ds, _, h => by
    cases h with
    | cons h1 h2 => rw [List.length_cons, List.length_cons, DqA.length h2]
theorem DqA.get {H : Hp} : ∀ {ds : List PyData} {vs : List V} {i : Nat} {d : PyData}, DqA H vs ds → ds[i]? = some d → ∃ v, vs[i]? = some v ∧ Dq H v d
  | [], _, _, _, h, e => by simp at e
  | _ :: _, [], _, _, h, _ => by cases h
  | d :: ds, _, 0, d', h, e => by
    cases h with
    | cons h1 h2 =>
      have e2 : d = d' := Option.some.inj e
      subst e2
      exact ⟨_, rfl, h1⟩
  | d :: ds, w :: vs, i + 1, d', h, e => by
    cases h with
    | cons h1 h2 => exact DqA.get (ds := ds) (vs := vs) (i := i) h2 (show ds[i]? = some d' from e)
theorem DqA.get2 {H : Hp} : ∀ {ds : List PyData} {vs : List V} {i : Nat} {v : V}, DqA H vs ds → vs[i]? = some v → ∃ d, ds[i]? = some d ∧ Dq H v d
  | [], _, _, _, h, e => by cases h; simp at e
  | _ :: _, [], _, _, h, _ => by cases h
  | d :: ds, w :: vs, 0, v', h, e => by
    cases h with
    | cons h1 h2 =>
      have e2 : w = v' := Option.some.inj e
      subst e2
      exact ⟨_, rfl, h1⟩
  | d :: ds, w :: vs, i + 1, v', h, e => by
    cases h with
    | cons h1 h2 => exact DqA.get2 (ds := ds) (vs := vs) (i := i) h2 (show vs[i]? = some v' from e)
theorem DqA.append {H : Hp} : ∀ {ds es : List PyData} {vs us : List V}, DqA H vs ds → DqA H us es → DqA H (vs ++ us) (ds ++ es)
  | [], _, _, _, h, h' => by cases h; exact h'
  | d :: ds, _, _, _, h, h' => by
    cases h with
    | cons h1 h2 => exact .cons h1 (DqA.append h2 h')
theorem DqA.drop {H : Hp} : ∀ {ds : List PyData} {vs : List V} (n : Nat), DqA H vs ds → DqA H (vs.drop n) (ds.drop n)
  | _, _, 0, h => h
  | [], _, n + 1, h => by cases h; exact .nil
  | d :: ds, _, n + 1, h => by
    cases h with
    | cons h1 h2 => exact DqA.drop n h2
theorem DqA.take {H : Hp} : ∀ {ds : List PyData} {vs : List V} (n : Nat), DqA H vs ds → DqA H (vs.take n) (ds.take n)
  | _, _, 0, h => .nil
  | [], _, n + 1, h => by cases h; exact .nil
  | d :: ds, _, n + 1, h => by
    cases h with
    | cons h1 h2 => exact .cons h1 (DqA.take n h2)
theorem DqA.set {H : Hp} {v : V} {d : PyData} (hd : Dq H v d) : ∀ {ds : List PyData} {vs : List V} (n : Nat), DqA H vs ds → DqA H (vs.set n v) (ds.set n d)
  | [], _, n, h => by cases h; exact .nil
  | e :: ds, _, 0, h => by
    cases h with
    | cons h1 h2 => exact .cons hd h2
  | e :: ds, _, n + 1, h => by
    cases h with
    | cons h1 h2 => exact .cons h1 (DqA.set hd n h2)
theorem DqA.ints {H : Hp} : ∀ {is : List Int} {vs : List V}, DqA H vs (is.map PyData.int) → vs = is.map V.int
  | [], _, h => by cases h; rfl
  | i :: is, _, h => by
    cases h with
    | cons h1 h2 =>
      cases h1
      rw [DqA.ints h2]
      rfl
theorem DqA.strs {H : Hp} : ∀ {is : List Str} {vs : List V}, DqA H vs (is.map PyData.str) → vs = is.map V.str
  | [], _, h => by cases h; rfl
  | i :: is, _, h => by
    cases h with
    | cons h1 h2 =>
      cases h1
      rw [DqA.strs h2]
      rfl
theorem DqA.bools {H : Hp} : ∀ {is : List Bool} {vs : List V}, DqA H vs (is.map PyData.bool) → vs = is.map V.bl
  | [], _, h => by cases h; rfl
  | i :: is, _, h => by
    cases h with
    | cons h1 h2 =>
      cases h1
      rw [DqA.bools h2]
      rfl
theorem DqA.of_ints {H : Hp} : ∀ (is : List Int), DqA H (is.map V.int) (is.map PyData.int)
  | [] => .nil
  | i :: is => .cons (.int i) (DqA.of_ints is)
theorem DqA.of_strs {H : Hp} : ∀ (is : List Str), DqA H (is.map V.str) (is.map PyData.str)
  | [] => .nil
  | i :: is => .cons (.str i) (DqA.of_strs is)

/-! ### abstract values: data, or an instance of the two classes -/
structure ProgD where
  parts : PyData
  places : Int
  wanted : Int
  modes : PyData
  rows : PyData
inductive Ab where
  | d (x : PyData)
  | prog (g : ProgD)
  | grp (g : ProgD) (s : PyData)
def progF (p m r : V) (room want : Int) : List (Str × V) := [("parts", p), ("places", .int room), ("wanted", .int want), ("all_modes", m), ("all_rows", r)]
def RepP (K : PySem.W.Frag) (H : Hp) (v : V) (g : ProgD) : Prop := ∃ (a dx : Addr) (p m r : V), v = .ref a ∧ H a = some (.ins (He.ga K "Program") dx (progF p m r g.places g.wanted)) ∧ Dq H p g.parts ∧ Dq H m g.modes ∧ Dq H r g.rows
def Rep (K : PySem.W.Frag) (H : Hp) (v : V) : Ab → Prop
  | .d x => Dq H v x
  | .prog g => RepP K H v g
  | .grp g s => ∃ (a dx : Addr) (vo vs : V), v = .ref a ∧ H a = some (.ins (He.ga K "Group") dx [("owner", vo), ("state", vs)]) ∧ RepP K H vo g ∧ Dq H vs s
theorem RepP.mono {K : PySem.W.Frag} {H H' : Hp} (e : Same H H') {v : V} {g : ProgD} (h : RepP K H v g) : RepP K H' v g := by
  obtain ⟨a, dx, p, m, r, h1, h2, h3, h4, h5⟩ := h
  exact ⟨a, dx, p, m, r, h1, e _ _ h2, Dq.mono e _ _ h3, Dq.mono e _ _ h4, Dq.mono e _ _ h5⟩
theorem Rep.mono {K : PySem.W.Frag} {H H' : Hp} (e : Same H H') {v : V} : ∀ {x : Ab}, Rep K H v x → Rep K H' v x
  | .d _, h => Dq.mono e _ _ h
  | .prog _, h => RepP.mono e h
  | .grp _ _, h => by
    obtain ⟨a, dx, vo, vs, h1, h2, h3, h4⟩ := h
    exact ⟨a, dx, vo, vs, h1, e _ _ h2, h3.mono e, Dq.mono e _ _ h4⟩
def RepA (K : PySem.W.Frag) (H : Hp) (vs : List V) (xs : List Ab) : Prop := Paired (Rep K H) vs xs
theorem RepA.mono {K : PySem.W.Frag} {H H' : Hp} (e : Same H H') : ∀ {vs : List V} {xs : List Ab}, RepA K H vs xs → RepA K H' vs xs
  | _, _, .nil => .nil
  | _, _, .cons a b => .cons (Rep.mono e a) (RepA.mono e b)
theorem RepA.length {K : PySem.W.Frag} {H : Hp} {vs : List V} {xs : List Ab} (h : RepA K H vs xs) : vs.length = xs.length := Paired.length h
theorem RepA.append {K : PySem.W.Frag} {H : Hp} : ∀ {vs us : List V} {xs ys : List Ab}, RepA K H vs xs → RepA K H us ys → RepA K H (vs ++ us) (xs ++ ys)
  | _, _, _, _, .nil, h => h
  | _, _, _, _, .cons a b, h => .cons a (RepA.append b h)
theorem RepA.data {K : PySem.W.Frag} {H : Hp} : ∀ {ds : List PyData} {vs : List V}, RepA K H vs (ds.map Ab.d) → DqA H vs ds
  | [], _, h => by cases h; exact .nil
  | d :: ds, _, h => by
    cases h with
    | cons h1 h2 => exact .cons h1 (RepA.data h2)
theorem DqA.rep {K : PySem.W.Frag} {H : Hp} : ∀ {ds : List PyData} {vs : List V}, DqA H vs ds → RepA K H vs (ds.map Ab.d)
  | [], _, h => by cases h; exact .nil
  | d :: ds, _, h => by
    cases h with
    | cons h1 h2 => exact .cons h1 (DqA.rep h2)

/-! ### growth -/
theorem same_new {H : Hp} {p : Addr} {o : HO} (h : H p = none) : Same H (upd H p o) := fun b x e => by
  rw [upd_ne (ne_of_none e h)]
  exact e
/-- B the frozen part of H; both grow, nothing of H changes, what is new in B is new in H -/
structure Gp (B H B' H' : Hp) : Prop where
  b : Same B B'
  ex : Same B' H'
  fr : ∀ a o, B' a = some o → B a = some o ∨ H a = none
  h : Same H H'
theorem Gp.refl {B H : Hp} (e : Same B H) : Gp B H B H := ⟨Same.refl B, e, fun _ _ h => .inl h, Same.refl H⟩
theorem Gp.new {B H : Hp} (e : Same B H) {p : Addr} {o : HO} (hp : H p = none) : Gp B H (upd B p o) (upd H p o) := by
  have hb : B p = none := e.free hp
  refine ⟨same_new hb, fun a x q => ?_, fun a x q => ?_, same_new hp⟩
  · by_cases ha : a = p
    · subst ha
      rw [upd_same] at q ⊢
      exact q
    · rw [upd_ne ha] at q ⊢
      exact e a x q
  · by_cases ha : a = p
    · subst ha
      exact .inr hp
    · rw [upd_ne ha] at q
      exact .inl q
/-- a new object that stays out of B -/
theorem Gp.out {B H : Hp} (e : Same B H) {p : Addr} {o : HO} (hp : H p = none) : Gp B H B (upd H p o) :=
  ⟨Same.refl B, e.trans (same_new hp), fun _ _ h => .inl h, same_new hp⟩
theorem Gp.trans {B H B1 H1 B2 H2 : Hp} (x : Gp B H B1 H1) (y : Gp B1 H1 B2 H2) : Gp B H B2 H2 := by
  refine ⟨x.b.trans y.b, y.ex, fun a o q => ?_, x.h.trans y.h⟩
  rcases y.fr a o q with z | z
  · exact x.fr a o z
  · exact .inr (x.h.free z)
/-- the same where the purse may change -/
structure Gr (π : Option Addr) (B H B' H' : Hp) : Prop where
  b : Same B B'
  ex : Same B' H'
  fr : ∀ a o, B' a = some o → B a = some o ∨ H a = none
  h : ∀ a o, some a ≠ π → H a = some o → H' a = some o
  th : ∀ a, H' a = none → H a = none
theorem Gp.gr {π : Option Addr} {B H B' H' : Hp} (x : Gp B H B' H') : Gr π B H B' H' := ⟨x.b, x.ex, x.fr, fun a o _ q => x.h a o q, fun _ q => x.h.free q⟩
theorem Gr.gp {B H B' H' : Hp} (x : Gr none B H B' H') : Gp B H B' H' := ⟨x.b, x.ex, x.fr, fun a o q => x.h a o (fun z => nomatch z) q⟩
theorem Gr.trans {π : Option Addr} {B H B1 H1 B2 H2 : Hp} (x : Gr π B H B1 H1) (y : Gr π B1 H1 B2 H2) : Gr π B H B2 H2 := by
  refine ⟨x.b.trans y.b, y.ex, fun a o q => ?_, fun a o h q => y.h a o h (x.h a o h q), fun a q => x.th a (y.th a q)⟩
  rcases y.fr a o q with z | z
  · exact x.fr a o z
  · exact .inr (x.th a z)
/-- the purse at p: at most c draws so far -/
def PurH (H : Hp) (p : Addr) (c : Nat) : Prop := ∃ a b k : Int, H p = some (.lst [.int a, .int b, .int k]) ∧ 0 ≤ a ∧ 0 ≤ b ∧ b < 2147483549 ∧ 0 ≤ k ∧ k ≤ (c : Int)
theorem PurH.same {H H' : Hp} {p : Addr} {c : Nat} (h : PurH H p c) (e : Same H H') : PurH H' p c := by
  obtain ⟨a, b, k, h1, h2⟩ := h
  exact ⟨a, b, k, e _ _ h1, h2⟩
theorem PurH.mono {H : Hp} {p : Addr} {c c' : Nat} (h : PurH H p c) (e : c ≤ c') : PurH H p c' := by
  obtain ⟨a, b, k, h1, h2, h3, h4, h5, h6⟩ := h
  exact ⟨a, b, k, h1, h2, h3, h4, h5, by omega⟩

/-! ### slots -/
inductive En where
  | no
  | ab (x : Ab)
  | own (ds : List PyData)
  | pur
/-- what a body runs over: the written part, the purse, the heaps at its start -/
structure Cq where
  K : PySem.W.Frag
  π : Option Addr
  B0 : Hp
  H0 : Hp
structure GS (q : Cq) (B H : Hp) (c : Nat) : Prop where
  g : Gr q.π q.B0 q.H0 B H
  ps : ∀ p, q.π = some p → B p = none ∧ PurH H p c
structure SD (q : Cq) (B H : Hp) (σ : L2.St) (Γ : List En) (c : Nat) : Prop where
  gs : GS q B H c
  len : σ.length = Γ.length
  ab : ∀ (i : Nat) (x : Ab), Γ[i]? = some (En.ab x) → ∃ v, σ[i]? = some (some v) ∧ Rep q.K B v x
  own : ∀ (i : Nat) (ds : List PyData), Γ[i]? = some (En.own ds) → ∃ a xs, σ[i]? = some (some (V.ref a)) ∧ B a = none ∧ some a ≠ q.π ∧ q.H0 a = none ∧ H a = some (.lst xs) ∧ DqA B xs ds
  one : ∀ (i j : Nat) (ds ds' : List PyData), Γ[i]? = some (En.own ds) → Γ[j]? = some (En.own ds') → σ[i]? = σ[j]? → i = j
  pur : ∀ (i : Nat), Γ[i]? = some En.pur → ∃ p, q.π = some p ∧ σ[i]? = some (some (V.ref p))
section
variable {q : Cq} {B H B' H' : Hp} {σ : L2.St} {Γ : List En} {c : Nat}
theorem GS.same (g : GS q B H c) : Same B H := g.g.ex
theorem SD.same (S : SD q B H σ Γ c) : Same B H := S.gs.g.ex
theorem fr_none (g : ∀ a o, B' a = some o → B a = some o ∨ H a = none) {a : Addr} (h1 : B a = none) {o : HO} (h2 : H a = some o) : B' a = none := by
  cases e : B' a with
  | none => rfl
  | some u =>
    rcases g a u e with z | z
    · rw [h1] at z; cases z
    · rw [h2] at z; cases z
theorem GS.gp (S : GS q B H c) (g : Gp B H B' H') : GS q B' H' c := by
  refine ⟨S.g.trans g.gr, fun p hp => ?_⟩
  obtain ⟨h1, h2⟩ := S.ps p hp
  obtain ⟨a, b, k, h3, _⟩ := id h2
  exact ⟨fr_none g.fr h1 h3, h2.same g.h⟩
theorem SD.gp (S : SD q B H σ Γ c) (g : Gp B H B' H') : SD q B' H' σ Γ c := by
  refine ⟨S.gs.gp g, S.len, fun i x e => ?_, fun i ds e => ?_, S.one, S.pur⟩
  · obtain ⟨v, h1, h2⟩ := S.ab i x e
    exact ⟨v, h1, h2.mono g.b⟩
  · obtain ⟨a, xs, h1, h2, h3, h4, h5, h6⟩ := S.own i ds e
    exact ⟨a, xs, h1, fr_none g.fr h2 h5, h3, h4, g.h _ _ h5, DqA.mono g.b _ _ h6⟩
/-- a call that may draw -/
theorem SD.gr (S : SD q B H σ Γ c) {c' : Nat} (g : Gr q.π B H B' H') (hp : ∀ p, q.π = some p → B' p = none ∧ PurH H' p c') : SD q B' H' σ Γ c' := by
  refine ⟨⟨S.gs.g.trans g, hp⟩, S.len, fun i x e => ?_, fun i ds e => ?_, S.one, S.pur⟩
  · obtain ⟨v, h1, h2⟩ := S.ab i x e
    exact ⟨v, h1, h2.mono g.b⟩
  · obtain ⟨a, xs, h1, h2, h3, h4, h5, h6⟩ := S.own i ds e
    exact ⟨a, xs, h1, fr_none g.fr h2 h5, h3, h4, g.h _ _ h3 h5, DqA.mono g.b _ _ h6⟩
theorem getE_set {α : Type} {l : List α} {i j : Nat} {x y : α} (h : (l.set i x)[j]? = some y) : (i = j ∧ i < l.length ∧ x = y) ∨ (i ≠ j ∧ l[j]? = some y) := by
  by_cases e : i = j
  · subst e
    by_cases hl : i < l.length
    · rw [List.getElem?_set_self hl] at h
      exact .inl ⟨rfl, hl, Option.some.inj h⟩
    · rw [List.getElem?_eq_none (by simpa using hl)] at h
      cases h
  · rw [List.getElem?_set_ne e] at h
    exact .inr ⟨e, h⟩
/-- a slot gets a value -/
theorem SD.set (S : SD q B H σ Γ c) {i : Nat} {v : V} {x : Ab} (r : Rep q.K B v x) : SD q B H (σ.set i (some v)) (Γ.set i (.ab x)) c := by
  refine ⟨S.gs, by rw [List.length_set, List.length_set, S.len], fun j y e => ?_, fun j ds e => ?_, fun j l ds ds' e e' h => ?_, fun j e => ?_⟩
  · rcases getE_set e with ⟨rfl, hl, h2⟩ | ⟨hn, h2⟩
    · cases h2
      exact ⟨v, List.getElem?_set_self (S.len ▸ hl), r⟩
    · obtain ⟨w, h3, h4⟩ := S.ab j y h2
      exact ⟨w, by rw [List.getElem?_set_ne hn]; exact h3, h4⟩
  · rcases getE_set e with ⟨rfl, hl, h2⟩ | ⟨hn, h2⟩
    · cases h2
    · obtain ⟨a, xs, h3, h4⟩ := S.own j ds h2
      exact ⟨a, xs, by rw [List.getElem?_set_ne hn]; exact h3, h4⟩
  · rcases getE_set e with ⟨rfl, hl, h2⟩ | ⟨hn, h2⟩
    · cases h2
    · rcases getE_set e' with ⟨rfl, hl, h3⟩ | ⟨hn', h3⟩
      · cases h3
      · rw [List.getElem?_set_ne hn, List.getElem?_set_ne hn'] at h
        exact S.one j l ds ds' h2 h3 h
  · rcases getE_set e with ⟨rfl, hl, h2⟩ | ⟨hn, h2⟩
    · cases h2
    · obtain ⟨p, h3, h4⟩ := S.pur j h2
      exact ⟨p, h3, by rw [List.getElem?_set_ne hn]; exact h4⟩
/-- a slot gets a new list of its own -/
theorem SD.setOwn (S : SD q B H σ Γ c) {i : Nat} {a : Addr} {xs : List V} {ds : List PyData} (hn : H a = none) (r : DqA B xs ds) : SD q B (upd H a (.lst xs)) (σ.set i (some (V.ref a))) (Γ.set i (.own ds)) c := by
  have S1 := S.gp (Gp.out S.same (o := .lst xs) hn)
  have hb : B a = none := S.same.free hn
  have h0 : q.H0 a = none := S.gs.g.th a hn
  have hp : some a ≠ q.π := fun z => by
    obtain ⟨_, x, y, k, h1, _⟩ := S.gs.ps a z.symm
    rw [hn] at h1; cases h1
  have apart : ∀ j ds', Γ[j]? = some (En.own ds') → σ[j]? ≠ some (some (V.ref a)) := fun j ds' e z => by
    obtain ⟨a', xs', h3, h4, h5, h6, h7, h8⟩ := S.own j ds' e
    rw [h3] at z
    cases z
    rw [hn] at h7; cases h7
  refine ⟨S1.gs, by rw [List.length_set, List.length_set, S.len], fun j y e => ?_, fun j ds' e => ?_, fun j l d1 d2 e e' h => ?_, fun j e => ?_⟩
  · rcases getE_set e with ⟨rfl, hl, h2⟩ | ⟨hn, h2⟩
    · cases h2
    · obtain ⟨w, h3, h4⟩ := S1.ab j y h2
      exact ⟨w, by rw [List.getElem?_set_ne hn]; exact h3, h4⟩
  · rcases getE_set e with ⟨rfl, hl, h2⟩ | ⟨hn, h2⟩
    · cases h2
      exact ⟨a, xs, List.getElem?_set_self (S.len ▸ hl), hb, hp, h0, upd_same, r⟩
    · obtain ⟨a', xs', h3, h4⟩ := S1.own j ds' h2
      exact ⟨a', xs', by rw [List.getElem?_set_ne hn]; exact h3, h4⟩
  · rcases getE_set e with ⟨rfl, hl, h2⟩ | ⟨hn, h2⟩
    · rcases getE_set e' with ⟨rfl, hl', h3⟩ | ⟨hn', h3⟩
      · rfl
      · rw [List.getElem?_set_self (S.len ▸ hl), List.getElem?_set_ne hn'] at h
        exact absurd h.symm (apart l d2 h3)
    · rcases getE_set e' with ⟨rfl, hl', h3⟩ | ⟨hn', h3⟩
      · rw [List.getElem?_set_self (S.len ▸ hl'), List.getElem?_set_ne hn] at h
        exact absurd h (apart j d1 h2)
      · rw [List.getElem?_set_ne hn, List.getElem?_set_ne hn'] at h
        exact S.one j l d1 d2 h2 h3 h
  · rcases getE_set e with ⟨rfl, hl, h2⟩ | ⟨hn, h2⟩
    · cases h2
    · obtain ⟨p, h3, h4⟩ := S1.pur j h2
      exact ⟨p, h3, by rw [List.getElem?_set_ne hn]; exact h4⟩
/-- a list of its own changes -/
theorem SD.chg (S : SD q B H σ Γ c) {i : Nat} {a : Addr} {xs : List V} {ds ds' : List PyData} (e0 : Γ[i]? = some (En.own ds)) (hs : σ[i]? = some (some (V.ref a))) (r : DqA B xs ds') : SD q B (upd H a (.lst xs)) σ (Γ.set i (.own ds')) c := by
  obtain ⟨a', ys, h3, h4, h5, h6, h7, h8⟩ := S.own i ds e0
  rw [hs] at h3
  cases h3
  have eB : Same B (upd H a (.lst xs)) := fun b o z => by
    have nb : b ≠ a := fun w => by rw [w, h4] at z; cases z
    rw [upd_ne nb]
    exact S.same b o z
  refine ⟨⟨⟨S.gs.g.b, eB, S.gs.g.fr, fun b o hb z => ?_, fun b z => ?_⟩, fun p hp => ?_⟩, by rw [List.length_set, S.len], fun j y e => ?_, fun j d1 e => ?_, fun j l d1 d2 e e' h => ?_, fun j e => ?_⟩
  · have nb : b ≠ a := fun w => by rw [w, h6] at z; cases z
    rw [upd_ne nb]
    exact S.gs.g.h b o hb z
  · by_cases nb : b = a
    · rw [nb]; exact h6
    · rw [upd_ne nb] at z
      exact S.gs.g.th b z
  · obtain ⟨z1, x, y, k, z2, z3⟩ := S.gs.ps p hp
    have np : p ≠ a := fun w => h5 (by rw [← w, hp])
    exact ⟨z1, x, y, k, by rw [upd_ne np]; exact z2, z3⟩
  · rcases getE_set e with ⟨rfl, hl, h2⟩ | ⟨hn, h2⟩
    · cases h2
    · exact S.ab j y h2
  · rcases getE_set e with ⟨rfl, hl, h2⟩ | ⟨hn, h2⟩
    · cases h2
      exact ⟨a, xs, hs, h4, h5, h6, upd_same, r⟩
    · obtain ⟨b, zs, k1, k2, k3, k4, k5, k6⟩ := S.own j d1 h2
      have nb : b ≠ a := fun w => hn (S.one i j ds d1 e0 h2 (by rw [hs, k1, w]))
      exact ⟨b, zs, k1, k2, k3, k4, by rw [upd_ne nb]; exact k5, k6⟩
  · have f : ∀ {j : Nat} {d : List PyData}, (Γ.set i (.own ds'))[j]? = some (En.own d) → ∃ d', Γ[j]? = some (En.own d') := fun {j d} z => by
      rcases getE_set z with ⟨rfl, hl, h2⟩ | ⟨hn, h2⟩
      · exact ⟨_, e0⟩
      · exact ⟨_, h2⟩
    obtain ⟨u1, w1⟩ := f e
    obtain ⟨u2, w2⟩ := f e'
    exact S.one j l u1 u2 w1 w2 h
  · rcases getE_set e with ⟨rfl, hl, h2⟩ | ⟨hn, h2⟩
    · cases h2
    · exact S.pur j h2
/-- a list of its own becomes data -/
theorem SD.freeze (S : SD q B H σ Γ c) {i : Nat} {ds : List PyData} (e0 : Γ[i]? = some (En.own ds)) : ∃ B', Same B B' ∧ SD q B' H σ (Γ.set i (.ab (.d (.list ds)))) c := by
  obtain ⟨a, ys, h3, h4, h5, h6, h7, h8⟩ := S.own i ds e0
  have sb : Same B (upd B a (.lst ys)) := same_new h4
  have eB : Same (upd B a (.lst ys)) H := fun b o z => by
    by_cases nb : b = a
    · rw [nb, upd_same] at z
      rw [nb, h7]
      exact z
    · rw [upd_ne nb] at z
      exact S.same b o z
  refine ⟨upd B a (.lst ys), sb, ⟨⟨⟨S.gs.g.b.trans sb, eB, fun b o z => ?_, S.gs.g.h, S.gs.g.th⟩, fun p hp => ?_⟩, by rw [List.length_set, S.len], fun j y e => ?_, fun j d1 e => ?_, fun j l d1 d2 e e' h => ?_, fun j e => ?_⟩⟩
  · by_cases nb : b = a
    · rw [nb]; exact .inr h6
    · rw [upd_ne nb] at z
      exact S.gs.g.fr b o z
  · obtain ⟨z1, z2⟩ := S.gs.ps p hp
    have np : p ≠ a := fun w => h5 (by rw [← w, hp])
    exact ⟨by rw [upd_ne np]; exact z1, z2⟩
  · rcases getE_set e with ⟨rfl, hl, h2⟩ | ⟨hn, h2⟩
    · cases h2
      exact ⟨.ref a, h3, .lst upd_same (DqA.mono sb _ _ h8)⟩
    · obtain ⟨w, k1, k2⟩ := S.ab j y h2
      exact ⟨w, k1, k2.mono sb⟩
  · rcases getE_set e with ⟨rfl, hl, h2⟩ | ⟨hn, h2⟩
    · cases h2
    · obtain ⟨b, zs, k1, k2, k3, k4, k5, k6⟩ := S.own j d1 h2
      have nb : b ≠ a := fun w => hn (S.one i j ds d1 e0 h2 (by rw [h3, k1, w]))
      exact ⟨b, zs, k1, by rw [upd_ne nb]; exact k2, k3, k4, k5, DqA.mono sb _ _ k6⟩
  · rcases getE_set e with ⟨rfl, hl, h2⟩ | ⟨hn, h2⟩
    · cases h2
    · rcases getE_set e' with ⟨rfl, hl, h3'⟩ | ⟨hn', h3'⟩
      · cases h3'
      · exact S.one j l d1 d2 h2 h3' h
  · rcases getE_set e with ⟨rfl, hl, h2⟩ | ⟨hn, h2⟩
    · cases h2
    · exact S.pur j h2
end
end Kt
set_option autoImplicit false
/-! Expressions over data. -/
namespace Kt
open PySem PySem.Spec PyProof.Rows L2
theorem szl {n : Nat} (h : n ≤ 100000) : n ≤ sizeLine := Nat.le_trans h (by decide)
theorem slt {n : Nat} (h : n < 100000) : n < sizeLine := Nat.lt_of_lt_of_le h (by decide)
theorem sm {n : Nat} (h : Nat.ble n 100000 = true) : n ≤ 100000 := Nat.le_of_ble_eq_true h
theorem Gr.refl {π : Option Addr} {B H : Hp} (e : Same B H) : Gr π B H B H := (Gp.refl e).gr

theorem new_lst {B H : Hp} {p : Addr} {xs : List V} {ds : List PyData} (ex : Same B H) (hp : H p = none) (h : DqA B xs ds) : Dq (upd B p (.lst xs)) (.ref p) (.list ds) := .lst upd_same (DqA.mono (same_new (ex.free hp)) _ _ h)
theorem new_tup {B H : Hp} {p : Addr} {xs : List V} {ds : List PyData} (ex : Same B H) (hp : H p = none) (h : DqA B xs ds) : Dq (upd B p (.tup xs)) (.ref p) (.tuple ds) := .tup upd_same (DqA.mono (same_new (ex.free hp)) _ _ h)

def EvN (q : Cq) (te : TE) (Γ : List En) (c : Nat) (k : Ab → Nat → Prop) : Prop := ∀ (B H : Hp) (σ : L2.St) (Q : VK), SD q B H σ Γ c → (∀ x c' v B' H', k x c' → Gr q.π B H B' H' → SD q B' H' σ Γ c' → Rep q.K B' v x → Q v H') → te σ H Q
def EvA (q : Cq) (ta : TA) (Γ : List En) (c : Nat) (k : List Ab → Nat → Prop) : Prop := ∀ (B H : Hp) (σ : L2.St) (Q : List V → Hp → Prop), SD q B H σ Γ c → (∀ xs c' vs B' H', k xs c' → Gr q.π B H B' H' → SD q B' H' σ Γ c' → RepA q.K B' vs xs → Q vs H') → ta σ H Q
def EvT (q : Cq) (tt : TT) (Γ : List En) (c : Nat) (k : Bool → Nat → Prop) : Prop := ∀ (B H : Hp) (σ : L2.St) (Q : Bool → Hp → Prop), SD q B H σ Γ c → (∀ b c' B' H', k b c' → Gr q.π B H B' H' → SD q B' H' σ Γ c' → Q b H') → tt σ H Q
def EvO (q : Cq) (to : TO) (Γ : List En) (c : Nat) (k : Option Int → Nat → Prop) : Prop := ∀ (B H : Hp) (σ : L2.St) (Q : Option Int → Hp → Prop), SD q B H σ Γ c → (∀ o c' B' H', k o c' → Gr q.π B H B' H' → SD q B' H' σ Γ c' → Q o H') → to σ H Q
/-- by values: an operator, a call, a method, a slice -/
def RN (K : PySem.W.Frag) (r : R2) (x y : Ab) (k : Ab → Prop) : Prop := ∀ (B H : Hp) (v u : V) (Q : VK), Same B H → Rep K B v x → Rep K B u y → (∀ z w B' H', k z → Gp B H B' H' → Rep K B' w z → Q w H') → r v u H Q
def RU (K : PySem.W.Frag) (r : V → Hp → VK → Prop) (x : Ab) (k : Ab → Prop) : Prop := ∀ (B H : Hp) (v : V) (Q : VK), Same B H → Rep K B v x → (∀ z w B' H', k z → Gp B H B' H' → Rep K B' w z → Q w H') → r v H Q
def RC (K : PySem.W.Frag) (r : List V → Hp → VK → Prop) (xs : List Ab) (k : Ab → Prop) : Prop := ∀ (B H : Hp) (vs : List V) (Q : VK), Same B H → RepA K B vs xs → (∀ z w B' H', k z → Gp B H B' H' → Rep K B' w z → Q w H') → r vs H Q
def RM (K : PySem.W.Frag) (r : V → List V → Hp → VK → Prop) (x : Ab) (xs : List Ab) (k : Ab → Prop) : Prop := ∀ (B H : Hp) (v : V) (vs : List V) (Q : VK), Same B H → Rep K B v x → RepA K B vs xs → (∀ z w B' H', k z → Gp B H B' H' → Rep K B' w z → Q w H') → r v vs H Q
def RS (K : PySem.W.Frag) (r : V → Option Int → Option Int → Hp → VK → Prop) (x : Ab) (l h : Option Int) (k : Ab → Prop) : Prop := ∀ (B H : Hp) (v : V) (Q : VK), Same B H → Rep K B v x → (∀ z w B' H', k z → Gp B H B' H' → Rep K B' w z → Q w H') → r v l h H Q

section
variable {q : Cq} {Γ : List En} {c : Nat} {k : Ab → Nat → Prop} {ta tb tc te to : TE} {x y z : Ab}
/-! ### values -/
theorem wp_var {i : Nat} (h : Γ[i]? = some (En.ab x)) (hk : k x c) : EvN q (tVar i) Γ c k := by
  intro B H σ Q S kk
  obtain ⟨v, h1, h2⟩ := S.ab i x h
  exact ⟨v, h1, kk x c v B H hk (Gr.refl S.same) S h2⟩
theorem wp_int {i : Int} (hk : k (.d (.int i)) c) : EvN q (tC (.int i)) Γ c k := fun B H σ Q S kk => kk _ c _ B H hk (Gr.refl S.same) S (.int i)
theorem wp_str {i : Str} (hk : k (.d (.str i)) c) : EvN q (tC (.str i)) Γ c k := fun B H σ Q S kk => kk _ c _ B H hk (Gr.refl S.same) S (.str i)
theorem wp_bool {i : Bool} (hk : k (.d (.bool i)) c) : EvN q (tC (.bl i)) Γ c k := fun B H σ Q S kk => kk _ c _ B H hk (Gr.refl S.same) S (.bl i)
theorem wp_none (hk : k (.d .none) c) : EvN q (tC .non) Γ c k := fun B H σ Q S kk => kk _ c _ B H hk (Gr.refl S.same) S .non
theorem EvN.imp {k' : Ab → Nat → Prop} (h : EvN q te Γ c k') (hk : ∀ x c', k' x c' → k x c') : EvN q te Γ c k := fun B H σ Q S kk => h B H σ Q S fun x c' v B' H' h1 => kk x c' v B' H' (hk x c' h1)
theorem wp_op {r : R2} (h : EvN q ta Γ c fun x c1 => EvN q tb Γ c1 fun y c2 => RN q.K r x y fun z => k z c2) : EvN q (tOp r ta tb) Γ c k := by
  intro B H σ Q S kk
  refine h B H σ _ S fun x c1 v B1 H1 h1 g1 S1 r1 => ?_
  refine h1 B1 H1 σ _ S1 fun y c2 u B2 H2 h2 g2 S2 r2 => ?_
  exact h2 B2 H2 v u _ S2.same (r1.mono g2.b) r2 fun z w B3 H3 h3 g3 r3 => kk z c2 w B3 H3 h3 ((g1.trans g2).trans g3.gr) (S2.gp g3) r3
theorem wp_un {r : V → Hp → VK → Prop} (h : EvN q ta Γ c fun x c1 => RU q.K r x fun z => k z c1) : EvN q (tUn r ta) Γ c k := by
  intro B H σ Q S kk
  refine h B H σ _ S fun x c1 v B1 H1 h1 g1 S1 r1 => ?_
  exact h1 B1 H1 v _ S1.same r1 fun z w B3 H3 h3 g3 r3 => kk z c1 w B3 H3 h3 (g1.trans g3.gr) (S1.gp g3) r3
theorem wa_nil {k : List Ab → Nat → Prop} (hk : k [] c) : EvA q tNil Γ c k := fun B H σ Q S kk => kk _ c _ B H hk (Gr.refl S.same) S .nil
theorem wa_cons {k : List Ab → Nat → Prop} {t : TA} (h : EvN q te Γ c fun x c1 => EvA q t Γ c1 fun xs c2 => k (x :: xs) c2) : EvA q (tCons te t) Γ c k := by
  intro B H σ Q S kk
  refine h B H σ _ S fun x c1 v B1 H1 h1 g1 S1 r1 => ?_
  exact h1 B1 H1 σ _ S1 fun xs c2 vs B2 H2 h2 g2 S2 r2 => kk _ c2 _ B2 H2 h2 (g1.trans g2) S2 (.cons (r1.mono g2.b) r2)
/-- data of a list of abstract values -/
def dats : List Ab → Option (List PyData)
  | [] => some []
  | .d x :: r => match dats r with
    | some l => some (x :: l)
    | none => none
  | _ :: _ => none
theorem dats_rep {K : PySem.W.Frag} {H : Hp} : ∀ {xs : List Ab} {ds : List PyData} {vs : List V}, dats xs = some ds → RepA K H vs xs → DqA H vs ds
  | [], _, _, e, h => by
    cases e
    cases h
    exact .nil
  | .d x :: r, ds, vs, e, h => by
    cases h with
    | cons h1 h2 =>
      have e1 : (match dats r with | some l => some (x :: l) | none => none) = some ds := e
      cases e2 : dats r with
      | none => rw [e2] at e1; cases e1
      | some l =>
        rw [e2] at e1
        cases e1
        exact .cons h1 (dats_rep e2 h2)
  | .prog _ :: _, _, _, e, _ => by cases e
  | .grp _ _ :: _, _, _, e, _ => by cases e
theorem dats_map : ∀ ds : List PyData, dats (ds.map Ab.d) = some ds
  | [] => rfl
  | d :: ds => by
    show (match dats (ds.map Ab.d) with | some l => some (d :: l) | none => none) = some (d :: ds)
    rw [dats_map ds]
theorem wp_tup {t : TA} (h : EvA q t Γ c fun xs c1 => ∃ ds, dats xs = some ds ∧ ds.length ≤ 100000 ∧ k (.d (.tuple ds)) c1) : EvN q (tTup t) Γ c k := by
  intro B H σ Q S kk
  refine h B H σ _ S fun xs c1 vs B1 H1 h1 g1 S1 r1 => ?_
  obtain ⟨ds, e, hl, hk⟩ := h1
  have hd := dats_rep e r1
  refine ⟨by rw [hd.length]; exact szl hl, fun p hp => ?_⟩
  have g2 : Gp B1 H1 (upd B1 p (.tup vs)) (upd H1 p (.tup vs)) := Gp.new S1.same hp
  exact kk _ c1 _ _ _ hk (g1.trans g2.gr) (S1.gp g2) (.tup upd_same (DqA.mono g2.b _ _ hd))
theorem wp_lst {t : TA} (h : EvA q t Γ c fun xs c1 => ∃ ds, dats xs = some ds ∧ ds.length ≤ 100000 ∧ k (.d (.list ds)) c1) : EvN q (tLst t) Γ c k := by
  intro B H σ Q S kk
  refine h B H σ _ S fun xs c1 vs B1 H1 h1 g1 S1 r1 => ?_
  obtain ⟨ds, e, hl, hk⟩ := h1
  have hd := dats_rep e r1
  refine ⟨by rw [hd.length]; exact szl hl, fun p hp => ?_⟩
  have g2 : Gp B1 H1 (upd B1 p (.lst vs)) (upd H1 p (.lst vs)) := Gp.new S1.same hp
  exact kk _ c1 _ _ _ hk (g1.trans g2.gr) (S1.gp g2) (.lst upd_same (DqA.mono g2.b _ _ hd))
/-! ### and, or, not, if -/
theorem wp_and (h : EvN q ta Γ c fun x c1 => ∃ b, x = .d (.bool b) ∧ (b = true → EvN q tb Γ c1 k) ∧ (b = false → k (.d (.bool false)) c1)) : EvN q (tAndV ta tb) Γ c k := by
  intro B H σ Q S kk
  refine h B H σ _ S fun x c1 v B1 H1 h1 g1 S1 r1 => ?_
  obtain ⟨b, rfl, h2, h3⟩ := h1
  cases r1
  refine ⟨b, rfl, ?_⟩
  cases b with
  | true => exact h2 rfl B1 H1 σ _ S1 fun y c2 u B2 H2 h4 g2 S2 r2 => kk y c2 u B2 H2 h4 (g1.trans g2) S2 r2
  | false => exact kk _ c1 _ B1 H1 (h3 rfl) g1 S1 (.bl false)
theorem wp_or (h : EvN q ta Γ c fun x c1 => ∃ b, x = .d (.bool b) ∧ (b = true → k (.d (.bool true)) c1) ∧ (b = false → EvN q tb Γ c1 k)) : EvN q (tOrV ta tb) Γ c k := by
  intro B H σ Q S kk
  refine h B H σ _ S fun x c1 v B1 H1 h1 g1 S1 r1 => ?_
  obtain ⟨b, rfl, h2, h3⟩ := h1
  cases r1
  refine ⟨b, rfl, ?_⟩
  cases b with
  | true => exact kk _ c1 _ B1 H1 (h2 rfl) g1 S1 (.bl true)
  | false => exact h3 rfl B1 H1 σ _ S1 fun y c2 u B2 H2 h4 g2 S2 r2 => kk y c2 u B2 H2 h4 (g1.trans g2) S2 r2
theorem wp_not (h : EvN q ta Γ c fun x c1 => ∃ b, x = .d (.bool b) ∧ k (.d (.bool (!b))) c1) : EvN q (tNotV ta) Γ c k := by
  intro B H σ Q S kk
  refine h B H σ _ S fun x c1 v B1 H1 h1 g1 S1 r1 => ?_
  obtain ⟨b, rfl, h2⟩ := h1
  cases r1
  exact ⟨b, rfl, kk _ c1 _ B1 H1 h2 g1 S1 (.bl _)⟩
theorem wp_if {t : TT} (h : EvT q t Γ c fun b c1 => (b = true → EvN q ta Γ c1 k) ∧ (b = false → EvN q tb Γ c1 k)) : EvN q (tIf t ta tb) Γ c k := by
  intro B H σ Q S kk
  refine h B H σ _ S fun b c1 B1 H1 h1 g1 S1 => ?_
  cases b with
  | true => exact h1.1 rfl B1 H1 σ _ S1 fun y c2 u B2 H2 h4 g2 S2 r2 => kk y c2 u B2 H2 h4 (g1.trans g2) S2 r2
  | false => exact h1.2 rfl B1 H1 σ _ S1 fun y c2 u B2 H2 h4 g2 S2 r2 => kk y c2 u B2 H2 h4 (g1.trans g2) S2 r2
theorem wp_orT {K : PySem.W.Frag} (h : EvN q ta Γ c fun x c1 => (∃ s : Str, x = .d (.str s) ∧ s.length ≤ 100000 ∧ (s.length ≠ 0 → k x c1) ∧ (s.length = 0 → EvN q tb Γ c1 k)) ∨ (x = .d .none ∧ EvN q tb Γ c1 k)) : EvN q (tOrT K ta tb) Γ c k := by
  intro B H σ Q S kk
  refine h B H σ _ S fun x c1 v B1 H1 h1 g1 S1 r1 => ?_
  rcases h1 with ⟨s, rfl, hl, h2, h3⟩ | ⟨rfl, h3⟩
  · cases r1
    refine ⟨_, ⟨szl hl, rfl⟩, ?_⟩
    by_cases e : s.length = 0
    · have e2 : ((s.length : Int) != 0) = false := by rw [e]; rfl
      rw [e2]
      exact h3 e B1 H1 σ _ S1 fun y c2 u B2 H2 h4 g2 S2 r2 => kk y c2 u B2 H2 h4 (g1.trans g2) S2 r2
    · have e2 : ((s.length : Int) != 0) = true := by
        rw [bne_iff_ne]
        omega
      rw [e2]
      exact kk _ c1 _ B1 H1 (h2 e) g1 S1 (.str s)
  · cases r1
    refine ⟨false, rfl, ?_⟩
    exact h3 B1 H1 σ _ S1 fun y c2 u B2 H2 h4 g2 S2 r2 => kk y c2 u B2 H2 h4 (g1.trans g2) S2 r2
theorem wp_chain {r r' : R2} (h : EvN q ta Γ c fun x c1 => EvN q tb Γ c1 fun y c2 => RN q.K r x y fun z => ∃ b, z = .d (.bool b) ∧ (b = true → EvN q tc Γ c2 fun w c3 => RN q.K r' y w fun z' => k z' c3) ∧ (b = false → k (.d (.bool false)) c2)) :
    EvN q (tChain r r' ta tb tc) Γ c k := by
  intro B H σ Q S kk
  refine h B H σ _ S fun x c1 v B1 H1 h1 g1 S1 r1 => ?_
  refine h1 B1 H1 σ _ S1 fun y c2 u B2 H2 h2 g2 S2 r2 => ?_
  refine h2 B2 H2 v u _ S2.same (r1.mono g2.b) r2 fun z w B3 H3 h3 g3 r3 => ?_
  obtain ⟨b, rfl, h4, h5⟩ := h3
  cases r3
  refine ⟨b, rfl, ?_⟩
  cases b with
  | true =>
    refine h4 rfl B3 H3 σ _ (S2.gp g3) fun w c3 u2 B4 H4 h6 g4 S4 r4 => ?_
    exact h6 B4 H4 u u2 _ S4.same ((r2.mono g3.b).mono g4.b) r4 fun z' w' B5 H5 h7 g5 r5 => kk z' c3 w' B5 H5 h7 ((((g1.trans g2).trans g3.gr).trans g4).trans g5.gr) (S4.gp g5) r5
  | false => exact kk _ c2 _ B3 H3 (h5 rfl) ((g1.trans g2).trans g3.gr) (S2.gp g3) (.bl false)
/-! ### tests -/
theorem wt_test {k : Bool → Nat → Prop} (h : EvN q te Γ c fun x c1 => ∃ b, x = .d (.bool b) ∧ k b c1) : EvT q (tTest te) Γ c k := by
  intro B H σ Q S kk
  refine h B H σ _ S fun x c1 v B1 H1 h1 g1 S1 r1 => ?_
  obtain ⟨b, rfl, h2⟩ := h1
  cases r1
  exact ⟨b, rfl, kk b c1 B1 H1 h2 g1 S1⟩
theorem wt_B {k : Bool → Nat → Prop} (h : EvN q te Γ c fun x c1 => ∃ b, x = .d (.bool b) ∧ k b c1) : EvT q (tB te) Γ c k := by
  intro B H σ Q S kk
  refine h B H σ _ S fun x c1 v B1 H1 h1 g1 S1 r1 => ?_
  obtain ⟨b, rfl, h2⟩ := h1
  cases r1
  exact ⟨b, rfl, kk b c1 B1 H1 h2 g1 S1⟩
theorem wt_and {k : Bool → Nat → Prop} {t u : TT} (h : EvT q t Γ c fun b c1 => (b = true → EvT q u Γ c1 k) ∧ (b = false → k false c1)) : EvT q (tAnd t u) Γ c k := by
  intro B H σ Q S kk
  refine h B H σ _ S fun b c1 B1 H1 h1 g1 S1 => ?_
  cases b with
  | true => exact h1.1 rfl B1 H1 σ _ S1 fun y c2 B2 H2 h4 g2 S2 => kk y c2 B2 H2 h4 (g1.trans g2) S2
  | false => exact kk false c1 B1 H1 (h1.2 rfl) g1 S1
theorem wt_or {k : Bool → Nat → Prop} {t u : TT} (h : EvT q t Γ c fun b c1 => (b = true → k true c1) ∧ (b = false → EvT q u Γ c1 k)) : EvT q (tOr t u) Γ c k := by
  intro B H σ Q S kk
  refine h B H σ _ S fun b c1 B1 H1 h1 g1 S1 => ?_
  cases b with
  | true => exact kk true c1 B1 H1 (h1.1 rfl) g1 S1
  | false => exact h1.2 rfl B1 H1 σ _ S1 fun y c2 B2 H2 h4 g2 S2 => kk y c2 B2 H2 h4 (g1.trans g2) S2
theorem wt_not {k : Bool → Nat → Prop} {t : TT} (h : EvT q t Γ c fun b c1 => k (!b) c1) : EvT q (tNot t) Γ c k := by
  intro B H σ Q S kk
  exact h B H σ _ S fun b c1 B1 H1 h1 g1 S1 => kk _ c1 B1 H1 h1 g1 S1
/-! ### calls by values -/
theorem wp_cb {r : List V → Hp → VK → Prop} {t : TA} (h : EvA q t Γ c fun xs c1 => RC q.K r xs fun z => k z c1) : EvN q (tCB r t) Γ c k := by
  intro B H σ Q S kk
  refine h B H σ _ S fun xs c1 vs B1 H1 h1 g1 S1 r1 => ?_
  exact h1 B1 H1 vs _ S1.same r1 fun z w B2 H2 h2 g2 r2 => kk z c1 w B2 H2 h2 (g1.trans g2.gr) (S1.gp g2) r2
theorem wp_m1 {r : V → List V → Hp → VK → Prop} (h : EvN q to Γ c fun x c1 => ∃ s : Str, x = .d (.str s) ∧ EvN q te Γ c1 fun y c2 => RM q.K r (.d (.str s)) [y] fun z => k z c2) : EvN q (tM1 r to te) Γ c k := by
  intro B H σ Q S kk
  refine h B H σ _ S fun x c1 v B1 H1 h1 g1 S1 r1 => ?_
  obtain ⟨s, rfl, h1⟩ := h1
  cases r1
  refine ⟨⟨s, rfl⟩, ?_⟩
  refine h1 B1 H1 σ _ S1 fun y c2 u B2 H2 h2 g2 S2 r2 => ?_
  exact h2 B2 H2 _ [u] _ S2.same (.str s) (.cons r2 .nil) fun z w B3 H3 h3 g3 r3 => kk z c2 w B3 H3 h3 ((g1.trans g2).trans g3.gr) (S2.gp g3) r3
/-- a list's method -/
theorem wp_bmL {r : V → List V → Hp → VK → Prop} {t : TA} (h : EvN q to Γ c fun x c1 => ∃ ds, x = .d (.list ds) ∧ EvA q t Γ c1 fun xs c2 => RM q.K r (.d (.list ds)) xs fun z => k z c2) : EvN q (tBM q.K "list" r to t) Γ c k := by
  intro B H σ Q S kk
  refine h B H σ _ S fun x c1 v B1 H1 h1 g1 S1 r1 => ?_
  obtain ⟨ds, rfl, h1⟩ := h1
  have r1' := r1
  cases r1 with
  | lst e1 e2 =>
    refine ⟨.inl ⟨rfl, _, .inl (.inl (S1.same _ _ e1))⟩, ?_⟩
    refine h1 B1 H1 σ _ S1 fun xs c2 vs B2 H2 h2 g2 S2 r2 => ?_
    exact h2 B2 H2 _ vs _ S2.same (Rep.mono (x := .d (.list ds)) g2.b r1') r2 fun z w B3 H3 h3 g3 r3 => kk z c2 w B3 H3 h3 ((g1.trans g2).trans g3.gr) (S2.gp g3) r3
theorem wo_none {k : Option Int → Nat → Prop} (hk : k none c) : EvO q tNoPart Γ c k := fun B H σ Q S kk => kk _ c B H hk (Gr.refl S.same) S
theorem wo_some {k : Option Int → Nat → Prop} (h : EvN q te Γ c fun x c1 => ∃ i, x = .d (.int i) ∧ k (some i) c1) : EvO q (tPart te) Γ c k := by
  intro B H σ Q S kk
  refine h B H σ _ S fun x c1 v B1 H1 h1 g1 S1 r1 => ?_
  obtain ⟨i, rfl, h2⟩ := h1
  cases r1
  exact ⟨i, rfl, kk _ c1 B1 H1 h2 g1 S1⟩
theorem wp_sl {r : V → Option Int → Option Int → Hp → VK → Prop} {tl th : TO} (h : EvN q te Γ c fun x c1 => EvO q tl Γ c1 fun l c2 => EvO q th Γ c2 fun u c3 => RS q.K r x l u fun z => k z c3) : EvN q (tSl r te tl th) Γ c k := by
  intro B H σ Q S kk
  refine h B H σ _ S fun x c1 v B1 H1 h1 g1 S1 r1 => ?_
  refine h1 B1 H1 σ _ S1 fun l c2 B2 H2 h2 g2 S2 => ?_
  refine h2 B2 H2 σ _ S2 fun u c3 B3 H3 h3 g3 S3 => ?_
  exact h3 B3 H3 v _ S3.same ((r1.mono g2.b).mono g3.b) fun z w B4 H4 h4 g4 r4 => kk z c3 w B4 H4 h4 (((g1.trans g2).trans g3).trans g4.gr) (S3.gp g4) r4
end

/-! ### operators by values -/
section
variable {K : PySem.W.Frag} {k : Ab → Prop}
theorem rn_ii {g : Int → Int → Int} {i j : Int} (hk : k (.d (.int (g i j)))) : RN K (rI0 fun i j => V.int (g i j)) (.d (.int i)) (.d (.int j)) k := by
  intro B H v u Q e r1 r2 kk
  cases r1; cases r2
  exact ⟨i, j, rfl, rfl, kk _ _ B H hk (Gp.refl e) (.int _)⟩
theorem rn_ib {g : Int → Int → Bool} {i j : Int} (hk : k (.d (.bool (g i j)))) : RN K (rI0 fun i j => V.bl (g i j)) (.d (.int i)) (.d (.int j)) k := by
  intro B H v u Q e r1 r2 kk
  cases r1; cases r2
  exact ⟨i, j, rfl, rfl, kk _ _ B H hk (Gp.refl e) (.bl _)⟩
theorem rn_ci {C : Int → Int → Prop} {g : Int → Int → Int} {i j : Int} (hc : C i j) (hk : k (.d (.int (g i j)))) : RN K (rI C fun i j => V.int (g i j)) (.d (.int i)) (.d (.int j)) k := by
  intro B H v u Q e r1 r2 kk
  cases r1; cases r2
  exact ⟨i, j, rfl, rfl, hc, kk _ _ B H hk (Gp.refl e) (.int _)⟩
theorem ru_ii {g : Int → Int} {i : Int} (hk : k (.d (.int (g i)))) : RU K (rU fun i => V.int (g i)) (.d (.int i)) k := by
  intro B H v Q e r1 kk
  cases r1
  exact ⟨i, rfl, kk _ _ B H hk (Gp.refl e) (.int _)⟩
theorem rn_eqI {i j : Int} (hk : k (.d (.bool (decide (i = j))))) : RN K rEq (.d (.int i)) (.d (.int j)) k := by
  intro B H v u Q e r1 r2 kk
  cases r1; cases r2
  have e2 : decide (V.int i = V.int j) = decide (i = j) := by simp
  refine ⟨rfl, ?_⟩
  rw [e2]
  exact kk _ _ B H hk (Gp.refl e) (.bl _)
theorem rn_neI {i j : Int} (hk : k (.d (.bool (!decide (i = j))))) : RN K rNe (.d (.int i)) (.d (.int j)) k := by
  intro B H v u Q e r1 r2 kk
  cases r1; cases r2
  have e2 : decide (V.int i = V.int j) = decide (i = j) := by simp
  refine ⟨rfl, ?_⟩
  rw [e2]
  exact kk _ _ B H hk (Gp.refl e) (.bl _)
theorem rn_eqS {i j : Str} (hk : k (.d (.bool (decide (i = j))))) : RN K rEq (.d (.str i)) (.d (.str j)) k := by
  intro B H v u Q e r1 r2 kk
  cases r1; cases r2
  have e2 : decide (V.str i = V.str j) = decide (i = j) := by simp
  refine ⟨rfl, ?_⟩
  rw [e2]
  exact kk _ _ B H hk (Gp.refl e) (.bl _)
theorem rn_neS {i j : Str} (hk : k (.d (.bool (!decide (i = j))))) : RN K rNe (.d (.str i)) (.d (.str j)) k := by
  intro B H v u Q e r1 r2 kk
  cases r1; cases r2
  have e2 : decide (V.str i = V.str j) = decide (i = j) := by simp
  refine ⟨rfl, ?_⟩
  rw [e2]
  exact kk _ _ B H hk (Gp.refl e) (.bl _)
theorem rn_eqB {i j : Bool} (hk : k (.d (.bool (decide (i = j))))) : RN K rEq (.d (.bool i)) (.d (.bool j)) k := by
  intro B H v u Q e r1 r2 kk
  cases r1; cases r2
  have e2 : decide (V.bl i = V.bl j) = decide (i = j) := by simp
  refine ⟨rfl, ?_⟩
  rw [e2]
  exact kk _ _ B H hk (Gp.refl e) (.bl _)
/-- a mode against an int: never equal (the part of a condition) -/
theorem rn_eqSI {i : Str} {j : Int} (hk : k (.d (.bool false))) : RN K rEq (.d (.str i)) (.d (.int j)) k := by
  intro B H v u Q e r1 r2 kk
  cases r1; cases r2
  exact ⟨rfl, kk _ _ B H hk (Gp.refl e) (.bl _)⟩
theorem rn_eqD {d e : PyData} (sd : SeqAt.shaped d = true) (se : SeqAt.shaped e = true) (hk : k (.d (.bool (PyData.eqv d e)))) : RN K (rEqD K) (.d d) (.d e) k := by
  intro B H v u Q ex r1 r2 kk
  exact ⟨d, e, Dq.dp _ _ (Dq.mono ex _ _ r1), Dq.dp _ _ (Dq.mono ex _ _ r2), sd, se, kk _ _ B H hk (Gp.refl ex) (.bl _)⟩
theorem rn_neD {d e : PyData} (sd : SeqAt.shaped d = true) (se : SeqAt.shaped e = true) (hk : k (.d (.bool (!PyData.eqv d e)))) : RN K (rNeD K) (.d d) (.d e) k := by
  intro B H v u Q ex r1 r2 kk
  exact ⟨d, e, Dq.dp _ _ (Dq.mono ex _ _ r1), Dq.dp _ _ (Dq.mono ex _ _ r2), sd, se, kk _ _ B H hk (Gp.refl ex) (.bl _)⟩
theorem rn_isN {x : PyData} {b : Bool} (hb : (match x with | .none => true | _ => false) = b) (hk : k (.d (.bool b))) : RN K (fun x y H Q => y = .non ∧ Q (.bl (decide (x = .non))) H) (.d x) (.d .none) k := by
  intro B H v u Q ex r1 r2 kk
  cases r2
  refine ⟨rfl, ?_⟩
  have e : decide (v = V.non) = b := by
    rw [← hb]
    cases r1 <;> simp
  rw [e]
  exact kk _ _ B H hk (Gp.refl ex) (.bl _)
theorem rn_notN {x : PyData} {b : Bool} (hb : (match x with | .none => true | _ => false) = b) (hk : k (.d (.bool (!b)))) : RN K (fun x y H Q => y = .non ∧ Q (.bl (!decide (x = .non))) H) (.d x) (.d .none) k := by
  intro B H v u Q ex r1 r2 kk
  cases r2
  refine ⟨rfl, ?_⟩
  have e : decide (v = V.non) = b := by
    rw [← hb]
    cases r1 <;> simp
  rw [e]
  exact kk _ _ B H hk (Gp.refl ex) (.bl _)
theorem rn_addS {i j : Str} (hl : i.length + j.length ≤ 100000) (hk : k (.d (.str (i ++ j)))) : RN K (fun x y H Q => ∃ i j, x = .str i ∧ y = .str j ∧ i.length + j.length ≤ sizeLine ∧ Q (.str (i ++ j)) H) (.d (.str i)) (.d (.str j)) k := by
  intro B H v u Q e r1 r2 kk
  cases r1; cases r2
  exact ⟨i, j, rfl, rfl, szl hl, kk _ _ B H hk (Gp.refl e) (.str _)⟩
theorem rn_catL {xs ys : List PyData} (hl : xs.length + ys.length ≤ 100000) (hk : k (.d (.list (xs ++ ys)))) : RN K rCat (.d (.list xs)) (.d (.list ys)) k := by
  intro B H v u Q e r1 r2 kk
  cases r1 with
  | lst a1 a2 =>
    cases r2 with
    | lst b1 b2 =>
      refine ⟨_, _, _, _, rfl, rfl, e _ _ a1, e _ _ b1, by rw [a2.length, b2.length]; exact szl hl, fun p hp => ?_⟩
      exact kk _ _ _ _ hk (Gp.new e hp) (new_lst e hp ((a2.append b2)))
theorem rn_catT {xs ys : List PyData} (hl : xs.length + ys.length ≤ 100000) (hk : k (.d (.tuple (xs ++ ys)))) : RN K (rCatA K) (.d (.tuple xs)) (.d (.tuple ys)) k := by
  intro B H v u Q e r1 r2 kk
  have r1' := r1
  have r2' := r2
  cases r1 with
  | tup a1 a2 =>
    cases r2 with
    | tup b1 b2 =>
      refine ⟨_, _, _, _, rfl, rfl, .inl (.inl (e _ _ a1)), .inl (.inl (e _ _ b1)), by rw [a2.length, b2.length]; exact szl hl, fun hx => ?_, fun hx hy => ?_, fun _ _ p hp => ?_⟩
      · subst hx
        cases a2
        exact kk _ _ B H hk (Gp.refl e) r2'
      · subst hy
        cases b2
        rw [List.append_nil] at hk
        exact kk _ _ B H hk (Gp.refl e) r1'
      · exact kk _ _ _ _ hk (Gp.new e hp) (new_tup e hp ((a2.append b2)))
theorem inV_strs {s : Str} {ss : List Str} : inV (.str s) (ss.map V.str) = decide (s ∈ ss) := by
  unfold inV
  rw [List.any_map, Bool.eq_iff_iff, List.any_eq_true, decide_eq_true_iff]
  constructor
  · rintro ⟨t, h1, h2⟩
    have e : t = s := beq_iff_eq.mp (show (t == s) = true from h2)
    exact e ▸ h1
  · intro h
    exact ⟨s, h, show (s == s) = true from beq_iff_eq.mpr rfl⟩
theorem inV_ints {s : Int} {ss : List Int} : inV (.int s) (ss.map V.int) = decide (s ∈ ss) := by
  unfold inV
  rw [List.any_map, Bool.eq_iff_iff, List.any_eq_true, decide_eq_true_iff]
  constructor
  · rintro ⟨t, h1, h2⟩
    have e : t = s := beq_iff_eq.mp (show (t == s) = true from h2)
    exact e ▸ h1
  · intro h
    exact ⟨s, h, show (s == s) = true from beq_iff_eq.mpr rfl⟩
theorem flat_strs (ss : List Str) : (ss.map V.str).all flatV = true := by
  rw [List.all_map, List.all_eq_true]
  intro x _
  rfl
theorem flat_ints (ss : List Int) : (ss.map V.int).all flatV = true := by
  rw [List.all_map, List.all_eq_true]
  intro x _
  rfl
theorem rn_inT {neg : Bool} {s : Str} {ss : List Str} (hk : k (.d (.bool (if neg then !decide (s ∈ ss) else decide (s ∈ ss))))) : RN K (rIn K neg) (.d (.str s)) (.d (.tuple (ss.map .str))) k := by
  intro B H v u Q e r1 r2 kk
  cases r1
  cases r2 with
  | tup b1 b2 =>
    have z := b2.strs
    subst z
    refine ⟨_, _, rfl, .inr (.inl (.inl (e _ _ b1))), rfl, flat_strs ss, ?_⟩
    rw [inV_strs]
    exact kk _ _ B H hk (Gp.refl e) (.bl _)
theorem rn_inL {neg : Bool} {s : Str} {ss : List Str} (hk : k (.d (.bool (if neg then !decide (s ∈ ss) else decide (s ∈ ss))))) : RN K (rIn K neg) (.d (.str s)) (.d (.list (ss.map .str))) k := by
  intro B H v u Q e r1 r2 kk
  cases r1
  cases r2 with
  | lst b1 b2 =>
    have z := b2.strs
    subst z
    refine ⟨_, _, rfl, .inl (.inl (.inl (e _ _ b1))), rfl, flat_strs ss, ?_⟩
    rw [inV_strs]
    exact kk _ _ B H hk (Gp.refl e) (.bl _)
theorem rn_inTI {neg : Bool} {s : Int} {ss : List Int} (hk : k (.d (.bool (if neg then !decide (s ∈ ss) else decide (s ∈ ss))))) : RN K (rIn K neg) (.d (.int s)) (.d (.tuple (ss.map .int))) k := by
  intro B H v u Q e r1 r2 kk
  cases r1
  cases r2 with
  | tup b1 b2 =>
    have z := b2.ints
    subst z
    refine ⟨_, _, rfl, .inr (.inl (.inl (e _ _ b1))), rfl, flat_ints ss, ?_⟩
    rw [inV_ints]
    exact kk _ _ B H hk (Gp.refl e) (.bl _)
/-- None not in a list of data -/
theorem rn_notInD {d : PyData} {ds : List PyData} (sd : SeqAt.shaped d = true) (se : SeqAt.shaped (.list ds) = true) (hk : k (.d (.bool (!ds.any fun z => PyData.eqv z d)))) : RN K (rNotInD K) (.d d) (.d (.list ds)) k := by
  intro B H v u Q e r1 r2 kk
  exact ⟨d, ds, Dq.dp _ _ (Dq.mono e _ _ r1), Dq.dp _ _ (Dq.mono e _ _ r2), sd, se, kk _ _ B H hk (Gp.refl e) (.bl _)⟩
/-- a sign in a text -/
theorem rn_inSign {ch : Nat} {z : Str} (hk : k (.d (.bool (decide (ch ∈ z.cps.toList))))) : RN K (fun x y H Q => ∃ (c : Nat) (z : Str), x = .str ⟨#[c]⟩ ∧ y = .str z ∧ Q (.bl (decide (c ∈ z.cps.toList))) H) (.d (.str ⟨#[ch]⟩)) (.d (.str z)) k := by
  intro B H v u Q e r1 r2 kk
  cases r1; cases r2
  exact ⟨ch, z, rfl, rfl, kk _ _ B H hk (Gp.refl e) (.bl _)⟩
theorem rn_notInStr {i j : Str} {b : Bool} (hb : (!(!(Builtin.Str.occurrences j i 0 j.length 1).isEmpty)) = b) (hk : k (.d (.bool b))) : RN K (fun x y H Q => ∃ i j, x = .str i ∧ y = .str j ∧ Q (.bl (!(!(Builtin.Str.occurrences j i 0 j.length 1).isEmpty))) H) (.d (.str i)) (.d (.str j)) k := by
  intro B H v u Q e r1 r2 kk
  cases r1; cases r2
  refine ⟨i, j, rfl, rfl, ?_⟩
  rw [hb]
  exact kk _ _ B H hk (Gp.refl e) (.bl _)
theorem atI_len {xs : List V} {ds : List PyData} (h : xs.length = ds.length) (i : Int) : ixN xs.length i = ixN ds.length i := by rw [h]
theorem atI_rep {B : Hp} {xs : List V} {ds : List PyData} (h : DqA B xs ds) {i : Int} {d : PyData} (e : atI ds i = some d) : ∃ v, atI xs i = some v ∧ Dq B v d := by
  unfold atI at e ⊢
  rw [h.length]
  obtain ⟨j, h1, h2⟩ := Option.bind_eq_some_iff.mp e
  obtain ⟨v, h3, h4⟩ := h.get h2
  exact ⟨v, by rw [h1]; exact h3, h4⟩
theorem rn_ixL {ds : List PyData} {i : Int} {d : PyData} (e : atI ds i = some d) (hk : k (.d d)) : RN K (rIxL K) (.d (.list ds)) (.d (.int i)) k := by
  intro B H v u Q ex r1 r2 kk
  cases r2
  cases r1 with
  | lst a1 a2 =>
    obtain ⟨w, h1, h2⟩ := atI_rep a2 e
    exact ⟨_, _, i, w, rfl, rfl, .inl (.inl (ex _ _ a1)), h1, kk _ _ B H hk (Gp.refl ex) h2⟩
theorem rn_ixT {ds : List PyData} {i : Int} {d : PyData} (e : atI ds i = some d) (hk : k (.d d)) : RN K (rIxT K) (.d (.tuple ds)) (.d (.int i)) k := by
  intro B H v u Q ex r1 r2 kk
  cases r2
  cases r1 with
  | tup a1 a2 =>
    obtain ⟨w, h1, h2⟩ := atI_rep a2 e
    exact ⟨_, _, i, w, rfl, rfl, .inl (.inl (ex _ _ a1)), h1, kk _ _ B H hk (Gp.refl ex) h2⟩
theorem rn_ixS {s : Str} {i : Int} {ch : Nat} (hl : s.length ≤ 100000) (e : atI s.cps.toList i = some ch) (hk : k (.d (.str ⟨#[ch]⟩))) : RN K rIxS (.d (.str s)) (.d (.int i)) k := by
  intro B H v u Q ex r1 r2 kk
  cases r1; cases r2
  exact ⟨s, i, ch, rfl, rfl, szl hl, e, kk _ _ B H hk (Gp.refl ex) (.str _)⟩
/-! ### slices -/
theorem cut_rep {B : Hp} {xs : List V} {ds : List PyData} (h : DqA B xs ds) (l u : Option Int) : DqA B (cutV xs l u) ((ds.drop (HT.sIx ds.length 0 l)).take (HT.sIx ds.length ds.length u - HT.sIx ds.length 0 l)) := by
  unfold cutV
  rw [h.length]
  exact (h.drop _).take _
def cutD (ds : List PyData) (l u : Option Int) : List PyData := (ds.drop (HT.sIx ds.length 0 l)).take (HT.sIx ds.length ds.length u - HT.sIx ds.length 0 l)
theorem rs_L {ds : List PyData} {l u : Option Int} (hk : k (.d (.list (cutD ds l u)))) : RS K (rSlL K) (.d (.list ds)) l u k := by
  intro B H v Q ex r1 kk
  cases r1 with
  | lst a1 a2 =>
    refine ⟨_, _, rfl, .inl (.inl (ex _ _ a1)), fun p hp => ?_⟩
    exact kk _ _ _ _ hk (Gp.new ex hp) (new_lst ex hp ((cut_rep a2 l u)))
theorem rs_T {ds : List PyData} {l u : Option Int} (hk : k (.d (.tuple (cutD ds l u)))) : RS K (rSlA K) (.d (.tuple ds)) l u k := by
  intro B H v Q ex r1 kk
  have r1' := r1
  cases r1 with
  | tup a1 a2 =>
    refine ⟨_, _, rfl, .inl (.inl (ex _ _ a1)), fun h => ?_, fun h p hp => ?_⟩
    · rw [a2.length] at h
      have e : cutD ds l u = ds := by
        unfold cutD
        rw [h.1, h.2]
        simp
      rw [e] at hk
      exact kk _ _ B H hk (Gp.refl ex) r1'
    · exact kk _ _ _ _ hk (Gp.new ex hp) (new_tup ex hp ((cut_rep a2 l u)))
theorem rs_S {s : Str} {l u : Option Int} (hl : s.length ≤ 100000) (hk : k (.d (.str (cutS s l u)))) : RS K rSlS (.d (.str s)) l u k := by
  intro B H v Q ex r1 kk
  cases r1
  exact ⟨s, rfl, szl hl, kk _ _ B H hk (Gp.refl ex) (.str _)⟩
/-! ### built-ins -/
theorem one_rep {K : PySem.W.Frag} {B : Hp} {vs : List V} {x : Ab} (h : RepA K B vs [x]) : ∃ v, vs = [v] ∧ Rep K B v x := by
  cases h with
  | cons h1 h2 =>
    cases h2
    exact ⟨_, rfl, h1⟩
theorem two_rep {K : PySem.W.Frag} {B : Hp} {vs : List V} {x y : Ab} (h : RepA K B vs [x, y]) : ∃ v u, vs = [v, u] ∧ Rep K B v x ∧ Rep K B u y := by
  cases h with
  | cons h1 h2 =>
    obtain ⟨u, rfl, h3⟩ := one_rep h2
    exact ⟨_, u, rfl, h1, h3⟩
theorem rc_lenL {ds : List PyData} (hk : k (.d (.int ds.length))) : RC K (fun xs H Q => ∃ p ys, xs = [.ref p] ∧ (SqL K H p ys ∨ SqT K H p ys) ∧ Q (.int ys.length) H) [.d (.list ds)] k := by
  intro B H vs Q ex r kk
  obtain ⟨v, rfl, r1⟩ := one_rep r
  cases r1 with
  | lst a1 a2 =>
    refine ⟨_, _, rfl, .inl (.inl (.inl (ex _ _ a1))), ?_⟩
    rw [a2.length]
    exact kk _ _ B H hk (Gp.refl ex) (.int _)
theorem rc_lenT {ds : List PyData} (hk : k (.d (.int ds.length))) : RC K (fun xs H Q => ∃ p ys, xs = [.ref p] ∧ (SqL K H p ys ∨ SqT K H p ys) ∧ Q (.int ys.length) H) [.d (.tuple ds)] k := by
  intro B H vs Q ex r kk
  obtain ⟨v, rfl, r1⟩ := one_rep r
  cases r1 with
  | tup a1 a2 =>
    refine ⟨_, _, rfl, .inr (.inl (.inl (ex _ _ a1))), ?_⟩
    rw [a2.length]
    exact kk _ _ B H hk (Gp.refl ex) (.int _)
theorem rc_lenS {s : Str} (hl : s.length ≤ 100000) (hk : k (.d (.int s.length))) : RC K (fun xs H Q => ∃ z, xs = [.str z] ∧ z.length ≤ sizeLine ∧ Q (.int z.length) H) [.d (.str s)] k := by
  intro B H vs Q ex r kk
  obtain ⟨v, rfl, r1⟩ := one_rep r
  cases r1
  exact ⟨s, rfl, szl hl, kk _ _ B H hk (Gp.refl ex) (.int _)⟩
theorem rc_min2 {i j : Int} (hk : k (.d (.int (if j < i then j else i)))) : RC K (fun xs H Q => ∃ i j, xs = [.int i, .int j] ∧ Q (.int (if j < i then j else i)) H) [.d (.int i), .d (.int j)] k := by
  intro B H vs Q ex r kk
  obtain ⟨v, u, rfl, r1, r2⟩ := two_rep r
  cases r1; cases r2
  exact ⟨i, j, rfl, kk _ _ B H hk (Gp.refl ex) (.int _)⟩
theorem rc_int1 {i : Int} (hk : k (.d (.int i))) : RC K (fun xs H Q => (∃ i, xs = [.int i] ∧ Q (.int i) H) ∨ ∃ k, xs = [.bl k] ∧ Q (.int (if k then 1 else 0)) H) [.d (.int i)] k := by
  intro B H vs Q ex r kk
  obtain ⟨v, rfl, r1⟩ := one_rep r
  cases r1
  exact .inl ⟨i, rfl, kk _ _ B H hk (Gp.refl ex) (.int _)⟩
theorem rc_strI {i : Int} (hl : i.natAbs.log2 < 1920) (hk : k (.d (.str (toString i)))) : RC K (fun xs H Q => ∃ i, xs = [.int i] ∧ i.natAbs.log2 < 1920 ∧ Q (.str (toString i)) H) [.d (.int i)] k := by
  intro B H vs Q ex r kk
  obtain ⟨v, rfl, r1⟩ := one_rep r
  cases r1
  exact ⟨i, rfl, hl, kk _ _ B H hk (Gp.refl ex) (.str _)⟩
theorem rc_strS {s : Str} (hk : k (.d (.str s))) : RC K (fun xs H Q => ∃ a, xs = [.str a] ∧ Q (.str a) H) [.d (.str s)] k := by
  intro B H vs Q ex r kk
  obtain ⟨v, rfl, r1⟩ := one_rep r
  cases r1
  exact ⟨s, rfl, kk _ _ B H hk (Gp.refl ex) (.str _)⟩
theorem rc_tupL {ds : List PyData} (hk : k (.d (.tuple ds))) : RC K (fun xs H Q => ∃ p ys, xs = [.ref p] ∧ ((SqL K H p ys ∧ ∀ l, H l = none → Q (.ref l) (upd H l (.tup ys))) ∨ (SqT K H p ys ∧ Q (.ref p) H))) [.d (.list ds)] k := by
  intro B H vs Q ex r kk
  obtain ⟨v, rfl, r1⟩ := one_rep r
  cases r1 with
  | lst a1 a2 =>
    refine ⟨_, _, rfl, .inl ⟨.inl (.inl (ex _ _ a1)), fun l hl => ?_⟩⟩
    exact kk _ _ _ _ hk (Gp.new ex hl) (new_tup ex hl (a2))
theorem rc_listT {ds : List PyData} (hk : k (.d (.list ds))) : RC K (fun xs H Q => ∃ p ys, xs = [.ref p] ∧ (SqL K H p ys ∨ SqT K H p ys) ∧ ∀ l, H l = none → Q (.ref l) (upd H l (.lst ys))) [.d (.tuple ds)] k := by
  intro B H vs Q ex r kk
  obtain ⟨v, rfl, r1⟩ := one_rep r
  cases r1 with
  | tup a1 a2 =>
    refine ⟨_, _, rfl, .inr (.inl (.inl (ex _ _ a1))), fun l hl => ?_⟩
    exact kk _ _ _ _ hk (Gp.new ex hl) (new_lst ex hl (a2))
theorem rc_sum {ns : List Int} (hk : k (.d (.int ns.sum))) : RC K (rSum K) [.d (.list (ns.map .int))] k := by
  intro B H vs Q ex r kk
  obtain ⟨v, rfl, r1⟩ := one_rep r
  cases r1 with
  | lst a1 a2 =>
    have z := a2.ints
    subst z
    exact ⟨_, ns, rfl, .inl (.inl (ex _ _ a1)), kk _ _ B H hk (Gp.refl ex) (.int _)⟩
theorem rc_all {bs : List Bool} (hk : k (.d (.bool (bs.all id)))) : RC K (rAll K) [.d (.list (bs.map .bool))] k := by
  intro B H vs Q ex r kk
  obtain ⟨v, rfl, r1⟩ := one_rep r
  cases r1 with
  | lst a1 a2 =>
    have z := a2.bools
    subst z
    exact ⟨_, bs, rfl, .inl (.inl (ex _ _ a1)), kk _ _ B H hk (Gp.refl ex) (.bl _)⟩
theorem rc_sortedI {ns : List Int} (hk : ∀ ns' : List Int, ns'.Perm ns → ns'.Pairwise (· ≤ ·) → k (.d (.list (ns'.map .int)))) : RC K (rSortedI K) [.d (.list (ns.map .int))] k := by
  intro B H vs Q ex r kk
  obtain ⟨v, rfl, r1⟩ := one_rep r
  cases r1 with
  | lst a1 a2 =>
    have z := a2.ints
    subst z
    refine ⟨_, ns, rfl, .inl (.inl (ex _ _ a1)), fun ns' p h1 h2 hp => ?_⟩
    exact kk _ _ _ _ (hk ns' h1 h2) (Gp.new ex hp) (.lst upd_same (DqA.of_ints ns'))
/-! ### methods of texts, index -/
theorem rm_starts {a b : Str} (hk : k (.d (.bool (Txt.startswith a b)))) : RM K (fun x xs H Q => ∃ a b, x = .str a ∧ xs = [.str b] ∧ Q (.bl (Txt.startswith a b)) H) (.d (.str a)) [.d (.str b)] k := by
  intro B H v vs Q ex r1 r kk
  obtain ⟨u, rfl, r2⟩ := one_rep r
  cases r1; cases r2
  exact ⟨a, b, rfl, rfl, kk _ _ B H hk (Gp.refl ex) (.bl _)⟩
theorem rm_rmpre {a b : Str} (hl : a.length ≤ 100000) (hk : k (.d (.str (Txt.removeprefix a b)))) : RM K (fun x xs H Q => ∃ a b, x = .str a ∧ xs = [.str b] ∧ a.length ≤ sizeLine ∧ Q (.str (Txt.removeprefix a b)) H) (.d (.str a)) [.d (.str b)] k := by
  intro B H v vs Q ex r1 r kk
  obtain ⟨u, rfl, r2⟩ := one_rep r
  cases r1; cases r2
  exact ⟨a, b, rfl, rfl, szl hl, kk _ _ B H hk (Gp.refl ex) (.str _)⟩
theorem rm_split {a b : Str} (hb : (b.length == 0) = false) (hl : a.length + 2 ≤ 100000) (hk : k (.d (.list ((Txt.split a b).map .str)))) :
    RM K (fun x xs H Q => ∃ a b, x = .str a ∧ xs = [.str b] ∧ (b.length == 0) = false ∧ a.length + 2 ≤ sizeLine ∧ rNewStrs (Txt.split a b) H Q) (.d (.str a)) [.d (.str b)] k := by
  intro B H v vs Q ex r1 r kk
  obtain ⟨u, rfl, r2⟩ := one_rep r
  cases r1; cases r2
  refine ⟨a, b, rfl, rfl, hb, szl hl, fun p hp => ?_⟩
  exact kk _ _ _ _ hk (Gp.new ex hp) (.lst upd_same (DqA.of_strs _))
theorem rm_part {a b : Str} (hb : (b.length == 0) = false) (hl : a.length ≤ 100000) (hk : k (.d (.tuple [.str (Txt.partition a b).1, .str (Txt.partition a b).2.1, .str (Txt.partition a b).2.2]))) :
    RM K (fun x xs H Q => ∃ a b, x = .str a ∧ xs = [.str b] ∧ (b.length == 0) = false ∧ a.length ≤ sizeLine ∧ ∀ p, H p = none → Q (.ref p) (upd H p (.tup [.str (Txt.partition a b).1, .str (Txt.partition a b).2.1, .str (Txt.partition a b).2.2]))) (.d (.str a)) [.d (.str b)] k := by
  intro B H v vs Q ex r1 r kk
  obtain ⟨u, rfl, r2⟩ := one_rep r
  cases r1; cases r2
  refine ⟨a, b, rfl, rfl, hb, szl hl, fun p hp => ?_⟩
  exact kk _ _ _ _ hk (Gp.new ex hp) (.tup upd_same (.cons (.str _) (.cons (.str _) (.cons (.str _) .nil))))
theorem rm_joinL {a : Str} {ys : List Str} (hl : (ys.map (·.length)).sum + ys.length * a.length ≤ 100000) (hk : k (.d (.str (Txt.join a ys)))) :
    RM K (fun x xs H Q => ∃ a p, ∃ ys : List Str, x = .str a ∧ xs = [.ref p] ∧ (SqL K H p (ys.map V.str) ∨ SqT K H p (ys.map V.str)) ∧ (ys.map (·.length)).sum + ys.length * a.length ≤ 16777216 ∧ Q (.str (Txt.join a ys)) H) (.d (.str a)) [.d (.list (ys.map .str))] k := by
  intro B H v vs Q ex r1 r kk
  obtain ⟨u, rfl, r2⟩ := one_rep r
  cases r1
  cases r2 with
  | lst a1 a2 =>
    have z := a2.strs
    subst z
    exact ⟨a, _, ys, rfl, rfl, .inl (.inl (.inl (ex _ _ a1))), Nat.le_trans hl (by decide), kk _ _ B H hk (Gp.refl ex) (.str _)⟩
theorem rm_joinT {a : Str} {ys : List Str} (hl : (ys.map (·.length)).sum + ys.length * a.length ≤ 100000) (hk : k (.d (.str (Txt.join a ys)))) :
    RM K (fun x xs H Q => ∃ a p, ∃ ys : List Str, x = .str a ∧ xs = [.ref p] ∧ (SqL K H p (ys.map V.str) ∨ SqT K H p (ys.map V.str)) ∧ (ys.map (·.length)).sum + ys.length * a.length ≤ 16777216 ∧ Q (.str (Txt.join a ys)) H) (.d (.str a)) [.d (.tuple (ys.map .str))] k := by
  intro B H v vs Q ex r1 r kk
  obtain ⟨u, rfl, r2⟩ := one_rep r
  cases r1
  cases r2 with
  | tup a1 a2 =>
    have z := a2.strs
    subst z
    exact ⟨a, _, ys, rfl, rfl, .inr (.inl (.inl (ex _ _ a1))), Nat.le_trans hl (by decide), kk _ _ B H hk (Gp.refl ex) (.str _)⟩
theorem eqV_strs {i j : Str} : L2.eqV (.str i) (.str j) = decide (i = j) := by
  show (i == j) = decide (i = j)
  rw [Bool.eq_iff_iff, beq_iff_eq, decide_eq_true_iff]
theorem rm_index {ys : List Str} {z : Str} {j : Nat} (h1 : ys[j]? = some z) (h2 : ∀ m, m < j → ys[m]? ≠ some z) (hk : k (.d (.int (j : Nat)))) : RM K (rIndex K) (.d (.list (ys.map .str))) [.d (.str z)] k := by
  intro B H v vs Q ex r1 r kk
  obtain ⟨u, rfl, r2⟩ := one_rep r
  cases r2
  cases r1 with
  | lst a1 a2 =>
    have zz := a2.strs
    subst zz
    refine ⟨_, _, _, j, .str z, rfl, rfl, .inl (.inl (ex _ _ a1)), rfl, flat_strs ys, by rw [List.getElem?_map, h1]; rfl, by rw [eqV_strs]; exact decide_eq_true rfl, fun m z' hm e => ?_, kk _ _ B H hk (Gp.refl ex) (.int _)⟩
    rw [List.getElem?_map] at e
    cases e1 : ys[m]? with
    | none => rw [e1] at e; cases e
    | some w =>
      rw [e1] at e
      cases e
      rw [eqV_strs, decide_eq_false_iff_not]
      intro z1
      exact h2 m hm (by rw [e1, z1])
end
end Kt
/-! Statements, calls, comprehensions, loops over data. -/
namespace Kt
open PySem PySem.Spec PyProof.Rows L2
structure AE where
  nx : List En → Nat → Prop
  rt : Ab → Nat → Prop
  bk : List En → Nat → Prop := fun _ _ => False
  ct : List En → Nat → Prop := fun _ _ => False
structure Lk (q : Cq) (B : Hp) (D : Ends) (A : AE) : Prop where
  nx : ∀ Γ c σ B' H', A.nx Γ c → Same B B' → SD q B' H' σ Γ c → D.nx σ H'
  rt : ∀ x c v B' H', A.rt x c → GS q B' H' c → Rep q.K B' v x → D.rt v H'
  bk : ∀ Γ c σ B' H', A.bk Γ c → Same B B' → SD q B' H' σ Γ c → D.bk σ H'
  ct : ∀ Γ c σ B' H', A.ct Γ c → Same B B' → SD q B' H' σ Γ c → D.ct σ H'
theorem Lk.mono {q : Cq} {B B' : Hp} {D : Ends} {A : AE} (L : Lk q B D A) (e : Same B B') : Lk q B' D A :=
  ⟨fun Γ c σ B2 H2 h e2 => L.nx Γ c σ B2 H2 h (e.trans e2), L.rt, fun Γ c σ B2 H2 h e2 => L.bk Γ c σ B2 H2 h (e.trans e2), fun Γ c σ B2 H2 h e2 => L.ct Γ c σ B2 H2 h (e.trans e2)⟩
theorem SD.setD {q : Cq} {B H : Hp} {σ : L2.St} {Γ : List En} {c i : Nat} {v : V} {x : PyData} (S : SD q B H σ Γ c) (r : Dq B v x) : SD q B H (σ.set i (some v)) (Γ.set i (.ab (.d x))) c := S.set (x := .d x) r
def RunN (q : Cq) (ts : TS) (Γ : List En) (c : Nat) (A : AE) : Prop := ∀ (B H : Hp) (σ : L2.St) (D : Ends), SD q B H σ Γ c → Lk q B D A → ts D σ H
section
variable {q : Cq} {Γ : List En} {c : Nat} {A : AE} {t u ts tu tw : TS} {te ta tb tc : TE}
theorem wr_seq (h : RunN q t Γ c { A with nx := fun Γ1 c1 => RunN q u Γ1 c1 A }) : RunN q (tSeq t u) Γ c A := by
  intro B H σ D S L
  exact h B H σ _ S ⟨fun Γ1 c1 σ1 B1 H1 h1 e1 S1 => h1 B1 H1 σ1 D S1 (L.mono e1), L.rt, L.bk, L.ct⟩
theorem wr_next (h : A.nx Γ c) : RunN q tNext Γ c A := fun B H σ D S L => L.nx Γ c σ B H h (Same.refl B) S
theorem wr_never : ∀ {P : Prop}, P → False → RunN q tNever Γ c A := fun _ h => h.elim
theorem wr_brk (h : A.bk Γ c) : RunN q tBreak Γ c A := fun B H σ D S L => L.bk Γ c σ B H h (Same.refl B) S
theorem wr_asg {i : Nat} (h : EvN q te Γ c fun x c1 => A.nx (Γ.set i (.ab x)) c1) : RunN q (tAsg te (gName i)) Γ c A := fun B H σ D S L =>
  h B H σ _ S fun x c1 v B1 H1 h1 g1 S1 r1 => L.nx _ c1 _ B1 H1 h1 g1.b (S1.set r1)
theorem wr_ret (h : EvN q te Γ c A.rt) : RunN q (tRet te) Γ c A := fun B H σ D S L =>
  h B H σ _ S fun x c1 v B1 H1 h1 g1 S1 r1 => L.rt x c1 v B1 H1 h1 S1.gs r1
theorem wr_if {tt : TT} (h : EvT q tt Γ c fun b c1 => (b = true → RunN q tu Γ c1 A) ∧ (b = false → RunN q tw Γ c1 A)) : RunN q (tIfS tt tu tw) Γ c A := by
  intro B H σ D S L
  refine h B H σ _ S fun b c1 B1 H1 h1 g1 S1 => ?_
  cases b with
  | true => exact h1.1 rfl B1 H1 σ D S1 (L.mono g1.b)
  | false => exact h1.2 rfl B1 H1 σ D S1 (L.mono g1.b)
theorem wr_drop (h : EvN q te Γ c fun _ c1 => A.nx Γ c1) : RunN q (tDrop te) Γ c A := fun B H σ D S L =>
  h B H σ _ S fun x c1 v B1 H1 h1 g1 S1 r1 => L.nx _ c1 _ B1 H1 h1 g1.b S1
theorem wr_un2 {i j : Nat} (h : EvN q te Γ c fun x c1 => ∃ a b, x = .d (.tuple [a, b]) ∧ A.nx ((Γ.set i (.ab (.d a))).set j (.ab (.d b))) c1) : RunN q (tAsg te (gTup q.K 2 (gCons (gName i) (gCons (gName j) gNil)))) Γ c A := by
  intro B H σ D S L
  refine h B H σ _ S fun x c1 v B1 H1 h1 g1 S1 r1 => ?_
  obtain ⟨a, b, rfl, h2⟩ := h1
  cases r1 with
  | tup e1 e2 =>
    cases e2 with
    | cons d1 e3 =>
      cases e3 with
      | cons d2 e4 =>
        cases e4
        refine ⟨_, _, rfl, .inl (.inl (S1.same _ _ e1)), rfl, _, _, rfl, _, _, rfl, rfl, ?_⟩
        exact L.nx _ c1 _ B1 H1 h2 g1.b ((S1.setD d1).setD d2)
theorem wr_un3 {i j l : Nat} (h : EvN q te Γ c fun x c1 => ∃ a b d, x = .d (.tuple [a, b, d]) ∧ A.nx (((Γ.set i (.ab (.d a))).set j (.ab (.d b))).set l (.ab (.d d))) c1) :
    RunN q (tAsg te (gTup q.K 3 (gCons (gName i) (gCons (gName j) (gCons (gName l) gNil))))) Γ c A := by
  intro B H σ D S L
  refine h B H σ _ S fun x c1 v B1 H1 h1 g1 S1 r1 => ?_
  obtain ⟨a, b, d, rfl, h2⟩ := h1
  cases r1 with
  | tup e1 e2 =>
    cases e2 with
    | cons d1 e3 =>
      cases e3 with
      | cons d2 e4 =>
        cases e4 with
        | cons d3 e5 =>
          cases e5
          refine ⟨_, _, rfl, .inl (.inl (S1.same _ _ e1)), rfl, _, _, rfl, _, _, rfl, _, _, rfl, rfl, ?_⟩
          exact L.nx _ c1 _ B1 H1 h2 g1.b (((S1.setD d1).setD d2).setD d3)
theorem wr_par {i j : Nat} {t : TA} (h : EvA q t Γ c fun xs c1 => ∃ x y, xs = [x, y] ∧ A.nx ((Γ.set i (.ab x)).set j (.ab y)) c1) : RunN q (tPar i j t) Γ c A := by
  intro B H σ D S L
  refine h B H σ _ S fun xs c1 vs B1 H1 h1 g1 S1 r1 => ?_
  obtain ⟨x, y, rfl, h2⟩ := h1
  obtain ⟨v, w, rfl, r2, r3⟩ := two_rep r1
  exact ⟨v, w, rfl, L.nx _ c1 _ B1 H1 h2 g1.b ((S1.set r2).set r3)⟩
theorem three_rep {K : PySem.W.Frag} {B : Hp} {vs : List V} {x y z : Ab} (h : RepA K B vs [x, y, z]) : ∃ v u w, vs = [v, u, w] ∧ Rep K B v x ∧ Rep K B u y ∧ Rep K B w z := by
  cases h with
  | cons h1 h2 =>
    obtain ⟨u, w, rfl, h3, h4⟩ := two_rep h2
    exact ⟨_, u, w, rfl, h1, h3, h4⟩
theorem wr_par3 {i j l : Nat} {t : TA} (h : EvA q t Γ c fun xs c1 => ∃ x y z, xs = [x, y, z] ∧ A.nx (((Γ.set i (.ab x)).set j (.ab y)).set l (.ab z)) c1) : RunN q (tPar3 i j l t) Γ c A := by
  intro B H σ D S L
  refine h B H σ _ S fun xs c1 vs B1 H1 h1 g1 S1 r1 => ?_
  obtain ⟨x, y, z, rfl, h2⟩ := h1
  obtain ⟨v, w, u, rfl, r2, r3, r4⟩ := three_rep r1
  exact ⟨v, w, u, rfl, L.nx _ c1 _ B1 H1 h2 g1.b (((S1.set r2).set r3).set r4)⟩
/-- a, b, c = x, y, z by way of a tuple -/
theorem wr_tup3 {i j l : Nat} {t : TA} (h : EvA q t Γ c fun xs c1 => ∃ x y z, xs = [x, y, z] ∧ A.nx (((Γ.set i (.ab x)).set j (.ab y)).set l (.ab z)) c1) :
    RunN q (tAsg (tTup t) (gTup q.K 3 (gCons (gName i) (gCons (gName j) (gCons (gName l) gNil))))) Γ c A := by
  intro B H σ D S L
  refine h B H σ _ S fun xs c1 vs B1 H1 h1 g1 S1 r1 => ?_
  obtain ⟨x, y, z, rfl, h2⟩ := h1
  obtain ⟨v, w, u, rfl, r2, r3, r4⟩ := three_rep r1
  refine ⟨by show 3 ≤ sizeLine; decide, fun p hp => ?_⟩
  have g : Gp B1 H1 B1 (upd H1 p (.tup [v, w, u])) := Gp.out S1.same hp
  refine ⟨_, _, rfl, .inl (.inl upd_same), rfl, _, _, rfl, _, _, rfl, _, _, rfl, rfl, ?_⟩
  exact L.nx _ c1 _ B1 _ h2 g1.b ((((S1.gp g).set r2).set r3).set r4)
/-! ### lists of the body's own -/
theorem wr_own {i : Nat} {t : TA} (h : EvA q t Γ c fun xs c1 => ∃ ds, dats xs = some ds ∧ ds.length ≤ 100000 ∧ A.nx (Γ.set i (.own ds)) c1) : RunN q (tAsg (tLst t) (gName i)) Γ c A := by
  intro B H σ D S L
  refine h B H σ _ S fun xs c1 vs B1 H1 h1 g1 S1 r1 => ?_
  obtain ⟨ds, e, hl, h2⟩ := h1
  have hd := dats_rep e r1
  refine ⟨by rw [hd.length]; exact szl hl, fun p hp => ?_⟩
  exact L.nx _ c1 _ B1 _ h2 g1.b (S1.setOwn hp hd)
/-- x, xs = e, [] -/
theorem wr_parOwn {i j : Nat} (hij : i ≠ j) (h : EvN q te Γ c fun x c1 => A.nx ((Γ.set i (.ab x)).set j (.own [])) c1) : RunN q (tPar i j (tCons te (tCons (tLst tNil) tNil))) Γ c A := by
  intro B H σ D S L
  refine h B H σ _ S fun x c1 v B1 H1 h1 g1 S1 r1 => ?_
  refine ⟨by show 0 ≤ sizeLine; decide, fun p hp => ?_⟩
  exact ⟨v, .ref p, rfl, L.nx _ c1 _ B1 _ h1 g1.b ((S1.set r1).setOwn hp .nil)⟩
theorem wr_app {i : Nat} {ds : List PyData} (e0 : Γ[i]? = some (En.own ds)) (hl : ds.length < 100000) (h : EvN q te Γ c fun x c1 => ∃ d, x = .d d ∧ A.nx (Γ.set i (.own (ds ++ [d]))) c1) :
    RunN q (tDrop (tBM q.K "list" rAppend (tVar i) (tCons te tNil))) Γ c A := by
  intro B H σ D S L
  obtain ⟨a, xs, h3, h4, h5, h6, h7, h8⟩ := S.own i ds e0
  refine ⟨.ref a, h3, .inl ⟨rfl, xs, .inl (.inl h7)⟩, ?_⟩
  refine h B H σ _ S fun x c1 v B1 H1 h1 g1 S1 r1 => ?_
  obtain ⟨d, rfl, h2⟩ := h1
  have h7' := g1.h _ _ h5 h7
  have h8' := DqA.mono g1.b _ _ h8
  refine ⟨a, xs, v, rfl, rfl, h7', by rw [h8.length]; exact slt hl, ?_⟩
  exact L.nx _ c1 _ B1 _ h2 g1.b (S1.chg e0 h3 (h8'.append (.cons r1 .nil)))
def rExtT (K : PySem.W.Frag) : V → List V → Hp → VK → Prop := fun x vs H Q => ∃ l b xs zs, x = .ref l ∧ vs = [.ref b] ∧ H l = some (.lst xs) ∧ H b = some (.tup zs) ∧ xs.length + zs.length ≤ sizeLine ∧ Q .non (upd H l (.lst (xs ++ zs)))
theorem wr_ext {i : Nat} {ds : List PyData} (e0 : Γ[i]? = some (En.own ds)) (h : EvN q te Γ c fun x c1 => ∃ es, x = .d (.tuple es) ∧ ds.length + es.length ≤ 100000 ∧ A.nx (Γ.set i (.own (ds ++ es))) c1) :
    RunN q (tDrop (tBM q.K "list" (rExtT q.K) (tVar i) (tCons te tNil))) Γ c A := by
  intro B H σ D S L
  obtain ⟨a, xs, h3, h4, h5, h6, h7, h8⟩ := S.own i ds e0
  refine ⟨.ref a, h3, .inl ⟨rfl, xs, .inl (.inl h7)⟩, ?_⟩
  refine h B H σ _ S fun x c1 v B1 H1 h1 g1 S1 r1 => ?_
  obtain ⟨es, rfl, hl, h2⟩ := h1
  have h7' := g1.h _ _ h5 h7
  have h8' := DqA.mono g1.b _ _ h8
  cases r1 with
  | tup a1 a2 =>
    refine ⟨a, _, xs, _, rfl, rfl, h7', S1.same _ _ a1, by rw [h8.length, a2.length]; exact szl hl, ?_⟩
    exact L.nx _ c1 _ B1 _ h2 g1.b (S1.chg e0 h3 (h8'.append a2))
theorem wr_freeze {i : Nat} {ds : List PyData} (e0 : Γ[i]? = some (En.own ds)) (h : RunN q ts (Γ.set i (.ab (.d (.list ds)))) c A) : RunN q ts Γ c A := by
  intro B H σ D S L
  obtain ⟨B', e, S'⟩ := S.freeze e0
  exact h B' H σ D S' (L.mono e)
/-- xs[i] = e -/
theorem wr_setO {i : Nat} {ds : List PyData} (e0 : Γ[i]? = some (En.own ds)) (h : EvN q te Γ c fun x c1 => ∃ d, x = .d d ∧ EvN q ta Γ c1 fun y c2 => ∃ (n : Int) (j : Nat), y = .d (.int n) ∧ ixN ds.length n = some j ∧ A.nx (Γ.set i (.own (ds.set j d))) c2) :
    RunN q (tAsg te (gSub (tVar i) ta rSetL)) Γ c A := by
  intro B H σ D S L
  obtain ⟨a, xs, h3, h4, h5, h6, h7, h8⟩ := S.own i ds e0
  refine h B H σ _ S fun x c1 v B1 H1 h1 g1 S1 r1 => ?_
  obtain ⟨d, rfl, h2⟩ := h1
  refine ⟨.ref a, h3, ?_⟩
  refine h2 B1 H1 σ _ S1 fun y c2 u B2 H2 h9 g2 S2 r2 => ?_
  obtain ⟨n, j, rfl, hj, h10⟩ := h9
  cases r2
  have g := g1.trans g2
  have h7' := g.h _ _ h5 h7
  have h8' := DqA.mono g.b _ _ h8
  refine ⟨a, xs, n, j, rfl, rfl, h7', by rw [h8.length]; exact hj, ?_⟩
  exact L.nx _ c2 _ B2 _ h10 g.b (S2.chg e0 h3 (DqA.set (Dq.mono g2.b _ _ r1) j h8'))
theorem wp_tupO {k : Ab → Nat → Prop} {K : PySem.W.Frag} {i : Nat} {ds : List PyData} (e0 : Γ[i]? = some (En.own ds)) (hk : k (.d (.tuple ds)) c) :
    EvN q (tCB (fun xs H Q => ∃ p ys, xs = [.ref p] ∧ ((SqL K H p ys ∧ ∀ l, H l = none → Q (.ref l) (upd H l (.tup ys))) ∨ (SqT K H p ys ∧ Q (.ref p) H))) (tCons (tVar i) tNil)) Γ c k := by
  intro B H σ Q S kk
  obtain ⟨a, xs, h3, h4, h5, h6, h7, h8⟩ := S.own i ds e0
  refine ⟨.ref a, h3, a, xs, rfl, .inl ⟨.inl (.inl h7), fun l hl => ?_⟩⟩
  have g : Gp B H (upd B l (.tup xs)) (upd H l (.tup xs)) := Gp.new S.same hl
  exact kk _ c _ _ _ hk g.gr (S.gp g) (new_tup S.same hl h8)
theorem wp_inO {k : Ab → Nat → Prop} {neg : Bool} {i : Nat} {ss : List Str} (e0 : Γ[i]? = some (En.own (ss.map .str))) (h : EvN q te Γ c fun x c1 => ∃ s : Str, x = .d (.str s) ∧ k (.d (.bool (if neg then !decide (s ∈ ss) else decide (s ∈ ss)))) c1) :
    EvN q (tOp (rIn q.K neg) te (tVar i)) Γ c k := by
  intro B H σ Q S kk
  refine h B H σ _ S fun x c1 v B1 H1 h1 g1 S1 r1 => ?_
  obtain ⟨s, rfl, h2⟩ := h1
  cases r1
  obtain ⟨a, xs, h3, h4, h5, h6, h7, h8⟩ := S1.own i _ e0
  have z := h8.strs
  subst z
  refine ⟨.ref a, h3, a, _, rfl, .inl (.inl (.inl h7)), rfl, flat_strs ss, ?_⟩
  rw [inV_strs]
  exact kk _ c1 _ B1 H1 h2 g1 S1 (.bl _)
theorem wp_ixO {k : Ab → Nat → Prop} {i : Nat} {ds : List PyData} (e0 : Γ[i]? = some (En.own ds)) (h : EvN q te Γ c fun x c1 => ∃ n d, x = .d (.int n) ∧ atI ds n = some d ∧ k (.d d) c1) :
    EvN q (tOp (rIxL q.K) (tVar i) te) Γ c k := by
  intro B H σ Q S kk
  obtain ⟨a, xs, h3, h4, h5, h6, h7, h8⟩ := S.own i _ e0
  refine ⟨.ref a, h3, ?_⟩
  refine h B H σ _ S fun x c1 v B1 H1 h1 g1 S1 r1 => ?_
  obtain ⟨n, d, rfl, e, h2⟩ := h1
  cases r1
  obtain ⟨w, w1, w2⟩ := atI_rep (DqA.mono g1.b _ _ h8) e
  exact ⟨a, xs, n, w, rfl, rfl, .inl (.inl (g1.h _ _ h5 h7)), w1, kk _ c1 _ B1 H1 h2 g1 S1 w2⟩
/-! ### calls of defs -/
def spF (K : PySem.W.Frag) (W : List Ab → (Ab → Prop) → Prop) : Sp := fun vs H Q _ => ∃ (B : Hp) (xs : List Ab) (k : Ab → Prop), Same B H ∧ RepA K B vs xs ∧ W xs k ∧ ∀ z w B' H', k z → Gp B H B' H' → Rep K B' w z → Q w H'
def spP (K : PySem.W.Frag) (W : List Ab → Nat → (Ab → Nat → Prop) → Prop) : Sp := fun vs H Q _ => ∃ (p : Addr) (us : List V) (B : Hp) (xs : List Ab) (c : Nat) (k : Ab → Nat → Prop), vs = .ref p :: us ∧ Same B H ∧ B p = none ∧ PurH H p c ∧ RepA K B us xs ∧ W xs c k ∧
  ∀ z c' w B' H', k z c' → Gr (some p) B H B' H' → B' p = none → PurH H' p c' → Rep K B' w z → Q w H'
theorem wp_call {k : Ab → Nat → Prop} {W : List Ab → (Ab → Prop) → Prop} {E : XK} {t : TA} (h : EvA q t Γ c fun xs c1 => W xs fun z => k z c1) : EvN q (tCall (spF q.K W) [] E t) Γ c k := by
  intro B H σ Q S kk
  refine h B H σ _ S fun xs c1 vs B1 H1 h1 g1 S1 r1 => ?_
  rw [List.append_nil]
  exact ⟨B1, xs, _, S1.same, r1, h1, fun z w B2 H2 h2 g2 r2 => kk z c1 w B2 H2 h2 (g1.trans g2.gr) (S1.gp g2) r2⟩
theorem wp_callB {k : Ab → Nat → Prop} {W : List Ab → (Ab → Prop) → Prop} {E : XK} {t : TA} {b : Bool} (h : EvA q t Γ c fun xs c1 => W (xs ++ [.d (.bool b)]) fun z => k z c1) : EvN q (tCall (spF q.K W) [.bl b] E t) Γ c k := by
  intro B H σ Q S kk
  refine h B H σ _ S fun xs c1 vs B1 H1 h1 g1 S1 r1 => ?_
  exact ⟨B1, _, _, S1.same, r1.append (.cons (show Rep q.K B1 (.bl b) (.d (.bool b)) from .bl b) .nil), h1, fun z w B2 H2 h2 g2 r2 => kk z c1 w B2 H2 h2 (g1.trans g2.gr) (S1.gp g2) r2⟩
theorem wp_callP {k : Ab → Nat → Prop} {W : List Ab → Nat → (Ab → Nat → Prop) → Prop} {E : XK} {t : TA} {i : Nat} (e0 : Γ[i]? = some En.pur) (h : EvA q t Γ c fun xs c1 => W xs c1 k) : EvN q (tCall (spP q.K W) [] E (tCons (tVar i) t)) Γ c k := by
  intro B H σ Q S kk
  obtain ⟨p, hp, hs⟩ := S.pur i e0
  refine ⟨.ref p, hs, ?_⟩
  refine h B H σ _ S fun xs c1 vs B1 H1 h1 g1 S1 r1 => ?_
  obtain ⟨z1, z2⟩ := S1.gs.ps p hp
  show spP q.K W ((V.ref p :: vs) ++ []) H1 Q E
  rw [List.append_nil]
  refine ⟨p, vs, B1, xs, c1, k, rfl, S1.same, z1, z2, r1, h1, fun z c2 w B2 H2 h2 g2 z3 z4 r2 => ?_⟩
  have hg : Gr q.π B1 H1 B2 H2 := hp ▸ g2
  exact kk z c2 w B2 H2 h2 (g1.trans hg) (S1.gr hg fun p' hp' => by
    rw [hp] at hp'
    cases hp'
    exact ⟨z3, z4⟩) r2
end
/-! ### a def's body -/
def st0 (N : List Str) (xs : List Ab) : List En := xs.map En.ab ++ List.replicate (N.length - xs.length) En.no
theorem sd0 {K : PySem.W.Frag} {B H : Hp} {N : List Str} {vs : List V} {xs : List Ab} (e : Same B H) (r : RepA K B vs xs) : SD ⟨K, none, B, H⟩ B H (L2.start N vs) (st0 N xs) 0 := by
  have hl : vs.length = xs.length := r.length
  have nown : ∀ i ds, (st0 N xs)[i]? ≠ some (En.own ds) := fun i ds z => by
    unfold st0 at z
    rw [List.getElem?_append] at z
    split at z
    · rw [List.getElem?_map] at z
      cases q : xs[i]? with
      | none => rw [q] at z; cases z
      | some x => rw [q] at z; cases z
    · rw [List.getElem?_replicate] at z
      split at z <;> cases z
  have npur : ∀ i, (st0 N xs)[i]? ≠ some En.pur := fun i z => by
    unfold st0 at z
    rw [List.getElem?_append] at z
    split at z
    · rw [List.getElem?_map] at z
      cases q : xs[i]? with
      | none => rw [q] at z; cases z
      | some x => rw [q] at z; cases z
    · rw [List.getElem?_replicate] at z
      split at z <;> cases z
  refine ⟨⟨Gr.refl e, fun p hp => by cases hp⟩, ?_, fun i x h => ?_, fun i ds h => absurd h (nown i ds), fun i j ds ds' h => absurd h (nown i ds), fun i h => absurd h (npur i)⟩
  · unfold L2.start st0
    rw [List.length_append, List.length_append, List.length_map, List.length_map, List.length_replicate, List.length_replicate, hl]
  · unfold st0 at h
    rw [List.getElem?_append] at h
    split at h
    · rename_i hi
      rw [List.length_map] at hi
      rw [List.getElem?_map] at h
      cases e1 : xs[i]? with
      | none => rw [e1] at h; cases h
      | some y =>
        rw [e1] at h
        cases h
        have : ∃ v, vs[i]? = some v ∧ Rep K B v x := by
          clear hi nown npur hl
          induction r generalizing i with
          | nil => cases e1
          | @cons a b l1 l2 r1 r2 ih =>
            cases i with
            | zero =>
              have e2 : b = x := Option.some.inj e1
              subst e2
              exact ⟨a, rfl, r1⟩
            | succ i => exact ih (i := i) (by simpa using e1)
        obtain ⟨v, h1, h2⟩ := this
        refine ⟨v, ?_, h2⟩
        unfold L2.start
        rw [List.getElem?_append_left (by rw [List.length_map, hl]; exact hi), List.getElem?_map, h1]
        rfl
    · rw [List.getElem?_replicate] at h
      split at h <;> cases h
theorem sd1 {K : PySem.W.Frag} {B H : Hp} {N : List Str} {vs : List V} {xs : List Ab} {p : Addr} {c : Nat} (e : Same B H) (hb : B p = none) (hp : PurH H p c) (r : RepA K B vs xs) : SD ⟨K, some p, B, H⟩ B H (L2.start N (.ref p :: vs)) (En.pur :: (xs.map En.ab ++ List.replicate (N.length - (xs.length + 1)) En.no)) c := by
  have hl : vs.length = xs.length := r.length
  have S := sd0 (N := N.drop 1) e r
  have e1 : L2.start N (.ref p :: vs) = some (.ref p) :: L2.start (N.drop 1) vs := by
    unfold L2.start
    rw [List.map_cons, List.length_cons, List.length_drop, List.cons_append]
    have z : N.length - 1 - vs.length = N.length - (vs.length + 1) := by omega
    rw [z]
  have e2 : xs.map En.ab ++ List.replicate (N.length - (xs.length + 1)) En.no = st0 (N.drop 1) xs := by
    unfold st0
    rw [List.length_drop]
    have z : N.length - 1 - xs.length = N.length - (xs.length + 1) := by omega
    rw [z]
  rw [e1, e2]
  have nown : ∀ i ds, (st0 (N.drop 1) xs)[i]? ≠ some (En.own ds) := fun i ds z => by
    unfold st0 at z
    rw [List.getElem?_append] at z
    split at z
    · rw [List.getElem?_map] at z
      cases q : xs[i]? with
      | none => rw [q] at z; cases z
      | some x => rw [q] at z; cases z
    · rw [List.getElem?_replicate] at z
      split at z <;> cases z
  refine ⟨⟨Gr.refl e, fun p' hp' => by cases hp'; exact ⟨hb, hp⟩⟩, by rw [List.length_cons, List.length_cons, S.len], fun i x h => ?_, fun i ds h => ?_, fun i j ds ds' h _ _ => ?_, fun i h => ?_⟩
  · cases i with
    | zero => cases h
    | succ i => exact S.ab i x h
  · cases i with
    | zero => cases h
    | succ i => exact absurd h (nown i ds)
  · cases i with
    | zero => cases h
    | succ i => exact absurd h (nown i ds)
  · cases i with
    | zero => exact ⟨p, rfl, rfl⟩
    | succ i =>
      obtain ⟨p', z, _⟩ := S.pur i h
      cases z
section
variable {P : Program} {w : World} {K : PySem.W.Frag} {mg : Str → Option Value} {base : Heap}
theorem ok_pure {x qual : Str} {params : Arguments} {body : List Stmt} {scope : Scope} {dvs : List V} {f : Addr} {fd : FuncData} {N ps : List Str} {n : Nat} {W : List Ab → (Ab → Prop) → Prop} (F : FunD K x qual params body scope dvs [] f fd) (S : FnScope N ps scope)
    (len : ∀ xs k, W xs k → xs.length = ps.length)
    (hb : ∀ (cdv : Value) (A : Around) (outer : List Env) (s : Shared) (H : Hp) (E : XK), Room n (A.deeper (envOfC qual scope s.heap.objs.size f cdv)) →
      ∃ t, PSs (cxOf CX0 P w K mg base N qual scope f cdv A outer s H E).nox body t ∧ ∀ (q : Cq) (xs : List Ab) (k : Ab → Prop), q.K = K → W xs k → RunN q t (st0 N xs) 0 ⟨fun _ _ => k (.d .none), fun x _ => k x, fun _ _ => False, fun _ _ => False⟩) :
    FnOk P w K mg base CX0 (n + 1) f fd ps (spF K W) := by
  refine F.ok S (fun vs H Q E h => ?_) (fun cdv A outer s H vs Q E hr h => ?_)
  · obtain ⟨B, xs, k, h1, h2, h3, h4⟩ := h
    rw [h2.length]
    exact len xs k h3
  · obtain ⟨B, xs, k, h1, h2, h3, h4⟩ := h
    obtain ⟨t, ht, hrun⟩ := hb cdv A outer s H E hr
    refine ⟨t, PSs.nox ht, ?_⟩
    refine hrun ⟨K, none, B, H⟩ xs k rfl h3 B H _ _ (sd0 h1 h2) ⟨fun Γ c σ B' H' h5 _ S' => ?_, fun y c v B' H' h5 g r => ?_, fun _ _ _ _ _ h5 => h5.elim, fun _ _ _ _ _ h5 => h5.elim⟩
    · exact h4 _ _ B' H' h5 S'.gs.g.gp .non
    · exact h4 _ _ B' H' h5 g.g.gp r
theorem ok_purse {x qual : Str} {params : Arguments} {body : List Stmt} {scope : Scope} {dvs : List V} {f : Addr} {fd : FuncData} {N ps : List Str} {n : Nat} {W : List Ab → Nat → (Ab → Nat → Prop) → Prop} (F : FunD K x qual params body scope dvs [] f fd) (S : FnScope N ps scope)
    (len : ∀ xs c k, W xs c k → xs.length + 1 = ps.length)
    (hb : ∀ (cdv : Value) (A : Around) (outer : List Env) (s : Shared) (H : Hp) (E : XK), Room n (A.deeper (envOfC qual scope s.heap.objs.size f cdv)) →
      ∃ t, PSs (cxOf CX0 P w K mg base N qual scope f cdv A outer s H E).nox body t ∧ ∀ (q : Cq) (xs : List Ab) (c : Nat) (k : Ab → Nat → Prop), q.K = K → W xs c k → RunN q t (En.pur :: (xs.map En.ab ++ List.replicate (N.length - (xs.length + 1)) En.no)) c ⟨fun _ c => k (.d .none) c, k, fun _ _ => False, fun _ _ => False⟩) :
    FnOk P w K mg base CX0 (n + 1) f fd ps (spP K W) := by
  refine F.ok S (fun vs H Q E h => ?_) (fun cdv A outer s H vs Q E hr h => ?_)
  · obtain ⟨p, us, B, xs, c, k, rfl, h1, h2, h3, h4, h5, h6⟩ := h
    rw [List.length_cons, h4.length]
    exact len xs c k h5
  · obtain ⟨p, us, B, xs, c, k, rfl, h1, h2, h3, h4, h5, h6⟩ := h
    obtain ⟨t, ht, hrun⟩ := hb cdv A outer s H E hr
    refine ⟨t, PSs.nox ht, ?_⟩
    refine hrun ⟨K, some p, B, H⟩ xs c k rfl h5 B H _ _ (sd1 h1 h2 h3 h4) ⟨fun Γ c σ B' H' h7 _ S' => ?_, fun y c v B' H' h7 g r => ?_, fun _ _ _ _ _ h7 => h7.elim, fun _ _ _ _ _ h7 => h7.elim⟩
    · obtain ⟨z1, z2⟩ := S'.gs.ps p rfl
      exact h6 _ c _ B' H' h7 S'.gs.g z1 z2 .non
    · obtain ⟨z1, z2⟩ := g.ps p rfl
      exact h6 _ c _ B' H' h7 g.g z1 z2 r
end
/-- a def as its callers take it -/
structure FN (P : Program) (w : World) (K : PySem.W.Frag) (mg : Str → Option Value) (base : Heap) (n : Nat) (x : Str) (ps : List Str) (sp : Sp) : Prop where
  gl : mg x = some (.ref (He.ga K x))
  kp : PySem.W.keepIn K (.ref (He.ga K x)) = true
  fn : ∃ fd, FnOk P w K mg base CX0 n (He.ga K x) fd ps sp ∧ Binds K fd ps []
section
variable {X : Cx}
theorem pe_fn {n j : Nat} {x : Str} {ps : List Str} {sp : Sp} {p pos : Pos} {e : Expr} {es : List Expr} {t : TA} (F : FN X.prog X.w X.K X.mg X.base n x ps sp) (hr : Room j X.A) (hj : Nat.ble n j = true) (ha : PA X (e :: es) t) (hg : Gl X x := by rfl)
    (hdb : (x == ("__debug__" : Str)) = false := by decide) (he : starEach (e :: es) X.env = (false, eval e X.env) :: starEach es X.env := by rfl) (hpl : (backTo pos (starEach es X.env)).any (·.1) = false := by rfl) :
    PE X (.Call (.Name x p) (e :: es) [] pos) (tCall sp [] E0 t) := by
  obtain ⟨fd, h1, h2⟩ := F.fn
  exact pe_call h1 (hr.mono (Nat.le_of_ble_eq_true hj)) hg F.gl F.kp h2 .nil pass0 ha hdb he hpl
end
end Kt
/-! Loops, comprehensions, instances over data. -/
namespace Kt
open PySem PySem.Spec PyProof.Rows L2
section
variable {q : Cq} {Γ : List En} {c : Nat} {A : AE} {tb : TS} {te ta tl : TE}
/-- one turn's ends -/
theorem lk_turn {B B1 : Hp} {D : Ends} {A : AE} {I : List En → Nat → Prop} {Pv : L2.St → Hp → Prop} (L : Lk q B D A) (e0 : Same B B1) (hP : ∀ B' H' σ' Γ' c', Same B1 B' → SD q B' H' σ' Γ' c' → I Γ' c' → Pv σ' H') :
    ∀ {B2 : Hp}, Same B1 B2 → Lk q B2 { D with nx := Pv, ct := Pv, bk := D.nx } { A with nx := I, ct := I, bk := A.nx } := fun {B2} e2 =>
  ⟨fun Γ c σ B' H' h e S => hP B' H' σ Γ c (e2.trans e) S h, L.rt, fun Γ c σ B' H' h e S => L.nx Γ c σ B' H' h ((e0.trans e2).trans e) S, fun Γ c σ B' H' h e S => hP B' H' σ Γ c (e2.trans e) S h⟩
theorem wr_forT {j : Nat} (h : EvN q tl Γ c fun x c1 => ∃ ds, x = .d (.tuple ds) ∧ ∃ I : Nat → List En → Nat → Prop, I 0 Γ c1 ∧
    (∀ (i : Nat) d Γ' c', ds[i]? = some d → I i Γ' c' → RunN q tb (Γ'.set j (.ab (.d d))) c' { A with nx := I (i + 1), ct := I (i + 1), bk := A.nx }) ∧ ∀ Γ' c', I ds.length Γ' c' → A.nx Γ' c') :
    RunN q (tFor (iTup q.K tl) (gName j) tb) Γ c A := by
  intro B H σ D S L
  refine h B H σ _ S fun x c1 v B1 H1 h1 g1 S1 r1 => ?_
  obtain ⟨ds, rfl, I, h2, h3, h4⟩ := h1
  cases r1 with
  | @tup a xs _ a1 a2 =>
    refine ⟨a, rfl, ⟨xs, .inl (.inl (S1.same _ _ a1))⟩, for_tup (xs := xs) (fun i σ' H' => ∃ B' Γ' c', Same B1 B' ∧ SD q B' H' σ' Γ' c' ∧ I i Γ' c') ⟨B1, Γ, c1, Same.refl B1, S1, h2⟩ (fun i σ' H' _ hp => ?_) (fun i y σ' H' hy hp => ?_) (fun σ' H' hp => ?_)⟩
    · obtain ⟨B', Γ', c', e, S', _⟩ := hp
      exact .inl (.inl (S'.same _ _ (e _ _ a1)))
    · obtain ⟨B', Γ', c', e, S', hI⟩ := hp
      obtain ⟨d, hd, rd⟩ := a2.get2 hy
      exact h3 i d Γ' c' hd hI B' H' _ _ (S'.setD (Dq.mono e _ _ rd)) (lk_turn L g1.b (fun B2 H2 σ2 Γ2 c2 e2 S2 h5 => ⟨B2, Γ2, c2, e2, S2, h5⟩) e)
    · obtain ⟨B', Γ', c', e, S', hI⟩ := hp
      rw [a2.length] at hI
      exact L.nx _ c' _ B' H' (h4 Γ' c' hI) (g1.b.trans e) S'
theorem wr_forL {j : Nat} (h : EvN q tl Γ c fun x c1 => ∃ ds, x = .d (.list ds) ∧ ∃ I : Nat → List En → Nat → Prop, I 0 Γ c1 ∧
    (∀ (i : Nat) d Γ' c', ds[i]? = some d → I i Γ' c' → RunN q tb (Γ'.set j (.ab (.d d))) c' { A with nx := I (i + 1), ct := I (i + 1), bk := A.nx }) ∧ ∀ Γ' c', I ds.length Γ' c' → A.nx Γ' c') :
    RunN q (tFor (iList q.K tl) (gName j) tb) Γ c A := by
  intro B H σ D S L
  refine h B H σ _ S fun x c1 v B1 H1 h1 g1 S1 r1 => ?_
  obtain ⟨ds, rfl, I, h2, h3, h4⟩ := h1
  cases r1 with
  | @lst a xs _ a1 a2 =>
    refine ⟨a, rfl, ⟨xs, .inl (.inl (S1.same _ _ a1))⟩, for_list (xs := xs) (fun i σ' H' => ∃ B' Γ' c', Same B1 B' ∧ SD q B' H' σ' Γ' c' ∧ I i Γ' c') ⟨B1, Γ, c1, Same.refl B1, S1, h2⟩ (fun i σ' H' _ hp => ?_) (fun i y σ' H' hy hp => ?_) (fun σ' H' hp => ?_)⟩
    · obtain ⟨B', Γ', c', e, S', _⟩ := hp
      exact .inl (.inl (S'.same _ _ (e _ _ a1)))
    · obtain ⟨B', Γ', c', e, S', hI⟩ := hp
      obtain ⟨d, hd, rd⟩ := a2.get2 hy
      exact h3 i d Γ' c' hd hI B' H' _ _ (S'.setD (Dq.mono e _ _ rd)) (lk_turn L g1.b (fun B2 H2 σ2 Γ2 c2 e2 S2 h5 => ⟨B2, Γ2, c2, e2, S2, h5⟩) e)
    · obtain ⟨B', Γ', c', e, S', hI⟩ := hp
      rw [a2.length] at hI
      exact L.nx _ c' _ B' H' (h4 Γ' c' hI) (g1.b.trans e) S'
theorem wr_forR {j : Nat} {t : TA} (h : EvA q t Γ c fun xs c1 => ∃ n : Int, xs = [.d (.int n)] ∧ -100000 ≤ n ∧ n ≤ 100000 ∧ ∃ I : Nat → List En → Nat → Prop, I 0 Γ c1 ∧
    (∀ (i : Nat) Γ' c', (i : Int) < n → I i Γ' c' → RunN q tb (Γ'.set j (.ab (.d (.int (i : Int))))) c' { A with nx := I (i + 1), ct := I (i + 1), bk := A.nx }) ∧ ∀ Γ' c', I n.toNat Γ' c' → A.nx Γ' c') :
    RunN q (tFor (iRng1 t) (gName j) tb) Γ c A := by
  intro B H σ D S L
  refine h B H σ _ S fun xs c1 vs B1 H1 h1 g1 S1 r1 => ?_
  obtain ⟨n, rfl, hn1, hn2, I, h2, h3, h4⟩ := h1
  obtain ⟨v, rfl, r2⟩ := one_rep r1
  cases r2
  refine ⟨n, rfl, by omega, by omega, for_range (lo := 0) (n := n.toNat) (fun i σ' H' => ∃ B' Γ' c', Same B1 B' ∧ SD q B' H' σ' Γ' c' ∧ I i Γ' c') ⟨B1, Γ, c1, Same.refl B1, S1, h2⟩ (fun i σ' H' hi hp => ?_) (fun σ' H' hp => ?_)⟩
  · obtain ⟨B', Γ', c', e, S', hI⟩ := hp
    have e0 : (0 : Int) + (i : Int) = (i : Int) := Int.zero_add _
    show tb _ (σ'.set j (some (.int ((0 : Int) + (i : Int))))) H'
    rw [e0]
    exact h3 i Γ' c' (by omega) hI B' H' _ _ (S'.setD (.int _)) (lk_turn L g1.b (fun B2 H2 σ2 Γ2 c2 e2 S2 h5 => ⟨B2, Γ2, c2, e2, S2, h5⟩) e)
  · obtain ⟨B', Γ', c', e, S', hI⟩ := hp
    exact L.nx _ c' _ B' H' (h4 Γ' c' hI) (g1.b.trans e) S'
theorem wr_forR2 {j : Nat} {t : TA} (h : EvA q t Γ c fun xs c1 => ∃ lo n : Int, xs = [.d (.int lo), .d (.int n)] ∧ -100000 ≤ lo ∧ lo ≤ 100000 ∧ -100000 ≤ n ∧ n ≤ 100000 ∧ ∃ I : Nat → List En → Nat → Prop, I 0 Γ c1 ∧
    (∀ (i : Nat) Γ' c', lo + (i : Int) < n → I i Γ' c' → RunN q tb (Γ'.set j (.ab (.d (.int (lo + (i : Int)))))) c' { A with nx := I (i + 1), ct := I (i + 1), bk := A.nx }) ∧ ∀ Γ' c', I (n - lo).toNat Γ' c' → A.nx Γ' c') :
    RunN q (tFor (iRng2 t) (gName j) tb) Γ c A := by
  intro B H σ D S L
  refine h B H σ _ S fun xs c1 vs B1 H1 h1 g1 S1 r1 => ?_
  obtain ⟨lo, n, rfl, hl1, hl2, hn1, hn2, I, h2, h3, h4⟩ := h1
  obtain ⟨v, u, rfl, r2, r3⟩ := two_rep r1
  cases r2; cases r3
  refine ⟨lo, n, rfl, ⟨by omega, by omega, by omega, by omega⟩, for_range (lo := lo) (n := (n - lo).toNat) (fun i σ' H' => ∃ B' Γ' c', Same B1 B' ∧ SD q B' H' σ' Γ' c' ∧ I i Γ' c') ⟨B1, Γ, c1, Same.refl B1, S1, h2⟩ (fun i σ' H' hi hp => ?_) (fun σ' H' hp => ?_)⟩
  · obtain ⟨B', Γ', c', e, S', hI⟩ := hp
    exact h3 i Γ' c' (by omega) hI B' H' _ _ (S'.setD (.int _)) (lk_turn L g1.b (fun B2 H2 σ2 Γ2 c2 e2 S2 h5 => ⟨B2, Γ2, c2, e2, S2, h5⟩) e)
  · obtain ⟨B', Γ', c', e, S', hI⟩ := hp
    exact L.nx _ c' _ B' H' (h4 Γ' c' hI) (g1.b.trans e) S'
/-! ### an address that no slot owns -/
structure Off (q : Cq) (B : Hp) (σ : L2.St) (Γ : List En) (a : Addr) : Prop where
  b : B a = none
  h0 : q.H0 a = none
  pi : some a ≠ q.π
  own : ∀ (i : Nat) (ds : List PyData), Γ[i]? = some (En.own ds) → σ[i]? ≠ some (some (V.ref a))
theorem SD.off {B H : Hp} {σ : L2.St} (S : SD q B H σ Γ c) {a : Addr} (h : H a = none) : Off q B σ Γ a := by
  refine ⟨S.same.free h, S.gs.g.th a h, fun z => ?_, fun i ds e z => ?_⟩
  · obtain ⟨_, x, y, k, h1, _⟩ := S.gs.ps a z.symm
    rw [h] at h1; cases h1
  · obtain ⟨b, xs, h3, h4, h5, h6, h7, h8⟩ := S.own i ds e
    rw [h3] at z
    cases z
    rw [h] at h7; cases h7
theorem Off.gr {B B' H : Hp} {σ : L2.St} {a : Addr} {o : HO} (O : Off q B σ Γ a) (h : H a = some o) (fr : ∀ a o, B' a = some o → B a = some o ∨ H a = none) : Off q B' σ Γ a :=
  ⟨fr_none fr O.b h, O.h0, O.pi, O.own⟩
/-- it changes -/
theorem SD.touch {B H : Hp} {σ : L2.St} (S : SD q B H σ Γ c) {a : Addr} (O : Off q B σ Γ a) {o : HO} : SD q B (upd H a o) σ Γ c := by
  have eB : Same B (upd H a o) := fun b x z => by
    have nb : b ≠ a := fun w => by rw [w, O.b] at z; cases z
    rw [upd_ne nb]
    exact S.same b x z
  refine ⟨⟨⟨S.gs.g.b, eB, S.gs.g.fr, fun b x hb z => ?_, fun b z => ?_⟩, fun p hp => ?_⟩, S.len, S.ab, fun i ds e => ?_, S.one, S.pur⟩
  · have nb : b ≠ a := fun w => by rw [w, O.h0] at z; cases z
    rw [upd_ne nb]
    exact S.gs.g.h b x hb z
  · by_cases nb : b = a
    · rw [nb]; exact O.h0
    · rw [upd_ne nb] at z
      exact S.gs.g.th b z
  · obtain ⟨z1, x, y, k, z2, z3⟩ := S.gs.ps p hp
    have np : p ≠ a := fun w => O.pi (by rw [← w, hp])
    exact ⟨z1, x, y, k, by rw [upd_ne np]; exact z2, z3⟩
  · obtain ⟨b, xs, h3, h4, h5, h6, h7, h8⟩ := S.own i ds e
    have nb : b ≠ a := fun w => O.own i ds e (by rw [h3, w])
    exact ⟨b, xs, h3, h4, h5, h6, by rw [upd_ne nb]; exact h7, h8⟩
/-- it becomes data -/
theorem SD.take {B H : Hp} {σ : L2.St} (S : SD q B H σ Γ c) {a : Addr} (O : Off q B σ Γ a) {o : HO} (ha : H a = some o) : SD q (upd B a o) H σ Γ c := by
  have sb : Same B (upd B a o) := same_new O.b
  have eB : Same (upd B a o) H := fun b x z => by
    by_cases nb : b = a
    · rw [nb, upd_same] at z
      rw [nb, ha]
      exact z
    · rw [upd_ne nb] at z
      exact S.same b x z
  refine ⟨⟨⟨S.gs.g.b.trans sb, eB, fun b x z => ?_, S.gs.g.h, S.gs.g.th⟩, fun p hp => ?_⟩, S.len, fun i x e => ?_, fun i ds e => ?_, S.one, S.pur⟩
  · by_cases nb : b = a
    · rw [nb]; exact .inr O.h0
    · rw [upd_ne nb] at z
      exact S.gs.g.fr b x z
  · obtain ⟨z1, z2⟩ := S.gs.ps p hp
    have np : p ≠ a := fun w => O.pi (by rw [← w, hp])
    exact ⟨by rw [upd_ne np]; exact z1, z2⟩
  · obtain ⟨w, k1, k2⟩ := S.ab i x e
    exact ⟨w, k1, k2.mono sb⟩
  · obtain ⟨b, xs, h3, h4, h5, h6, h7, h8⟩ := S.own i ds e
    have nb : b ≠ a := fun w => O.own i ds e (by rw [h3, w])
    exact ⟨b, xs, h3, by rw [upd_ne nb]; exact h4, h5, h6, h7, DqA.mono sb _ _ h8⟩
/-! ### comprehensions -/
/-- what holds between two turns: the new list at Da -/
def Cv (q : Cq) (Γ : List En) (B1 H1 : Hp) (σ : L2.St) (Da : Addr) (I : List PyData → Nat → Prop) (H' : Hp) : Prop :=
  ∃ B' xs acc c', Gr q.π B1 H1 B' H' ∧ SD q B' H' σ Γ c' ∧ Off q B' σ Γ Da ∧ H' Da = some (.lst xs) ∧ DqA B' xs acc ∧ I acc c'
theorem cv_start {B1 H1 : Hp} {σ : L2.St} {Da : Addr} {I : List PyData → Nat → Prop} (S : SD q B1 H1 σ Γ c) (hD : H1 Da = none) (hI : I [] c) : Cv q Γ B1 H1 σ Da I (upd H1 Da (.lst [])) :=
  ⟨B1, [], [], c, (Gp.out S.same hD).gr, S.gp (Gp.out S.same hD), S.off hD, upd_same, .nil, hI⟩
theorem cv_turn {B1 H1 : Hp} {σ : L2.St} {Da : Addr} {I I' : List PyData → Nat → Prop} {H' : Hp} {j : Nat} {x : V} {d : PyData} {tt : TT} (hD : H1 Da = none) (p : Cv q Γ B1 H1 σ Da I H') (rd : Dq B1 x d)
    (ht : ∀ acc c', I acc c' → EvT q tt (Γ.set j (.ab (.d d))) c' fun b c2 => (b = true → EvN q te (Γ.set j (.ab (.d d))) c2 fun y c3 => ∃ dy, y = .d dy ∧ acc.length < 100000 ∧ I' (acc ++ [dy]) c3) ∧ (b = false → I' acc c2)) :
    (gName j) x (wipe σ [j]) H' fun σ2 H2 => wipe σ2 [j] = wipe σ [j] ∧ tt σ2 H2 fun b H3 => if b = true then te σ2 H3 fun y H4 => ∃ acc, H4 Da = some (.lst acc) ∧ acc.length < sizeLine ∧ Cv q Γ B1 H1 σ Da I' (upd H4 Da (.lst (acc ++ [y]))) else Cv q Γ B1 H1 σ Da I' H3 := by
  obtain ⟨B', xs, acc, c', g, S, O, hDa, ha, hI⟩ := p
  have ew : (wipe σ [j]).set j (some x) = σ.set j (some x) := by
    show (σ.set j none).set j (some x) = _
    rw [List.set_set]
  show wipe ((wipe σ [j]).set j (some x)) [j] = wipe σ [j] ∧ _
  rw [ew]
  refine ⟨by show (σ.set j (some x)).set j none = σ.set j none; rw [List.set_set], ?_⟩
  have S2 := S.setD (i := j) (Dq.mono g.b _ _ rd)
  refine ht acc c' hI B' H' _ _ S2 fun b c2 B3 H3 h1 g3 S3 => ?_
  have SS := S.gr g3 S3.gs.ps
  have hD3 := g3.h _ _ O.pi hDa
  have O3 : Off q B3 σ Γ Da := O.gr hDa g3.fr
  cases b with
  | true =>
    show te _ H3 _
    refine h1.1 rfl B3 H3 _ _ S3 fun y c3 v B4 H4 h2 g4 S4 r4 => ?_
    obtain ⟨dy, rfl, hl, h3⟩ := h2
    have hD4 := g4.h _ _ O3.pi hD3
    have O4 : Off q B4 σ Γ Da := O3.gr hD3 g4.fr
    have SS4 := SS.gr g4 S4.gs.ps
    have gg := (g.trans g3).trans g4
    have ha4 := DqA.mono g4.b _ _ (DqA.mono g3.b _ _ ha)
    refine ⟨xs, hD4, by rw [ha.length]; exact slt hl, B4, _, _, c3, ⟨gg.b, (SS4.touch O4).same, gg.fr, fun a o ha' ho => ?_, fun a z => ?_⟩, SS4.touch O4, O4, upd_same, ha4.append (.cons r4 .nil), h3⟩
    · have nb : a ≠ Da := fun w => by rw [w, hD] at ho; cases ho
      rw [upd_ne nb]
      exact gg.h a o ha' ho
    · by_cases nb : a = Da
      · rw [nb]; exact hD
      · rw [upd_ne nb] at z
        exact gg.th a z
  | false => exact ⟨B3, xs, acc, c2, g.trans g3, SS, O3, hD3, DqA.mono g3.b _ _ ha, h1.2 rfl⟩
theorem cv_end {B1 H1 : Hp} {σ : L2.St} {Da : Addr} {I : List PyData → Nat → Prop} {H' : Hp} {k : Ab → Nat → Prop} {Q : VK} (hD : H1 Da = none) (p : Cv q Γ B1 H1 σ Da I H') (hk : ∀ acc c', I acc c' → k (.d (.list acc)) c')
    (kk : ∀ x c' v B' H', k x c' → Gr q.π B1 H1 B' H' → SD q B' H' σ Γ c' → Rep q.K B' v x → Q v H') : Q (.ref Da) H' := by
  obtain ⟨B', xs, acc, c', g, S, O, hDa, ha, hI⟩ := p
  have sb : Same B' (upd B' Da (.lst xs)) := same_new O.b
  have S2 := S.take O hDa
  refine kk _ c' _ _ H' (hk acc c' hI) ⟨g.b.trans sb, S2.same, fun a o z => ?_, g.h, g.th⟩ S2 (.lst upd_same (DqA.mono sb _ _ ha))
  by_cases nb : a = Da
  · rw [nb]; exact .inr hD
  · rw [upd_ne nb] at z
    exact g.fr a o z
/-- [e for x in t if p], t a tuple -/
theorem wp_lcT {j : Nat} {tt : TT} {k : Ab → Nat → Prop} (h : EvN q tl Γ c fun x c1 => ∃ ds, x = .d (.tuple ds) ∧ ∃ I : Nat → List PyData → Nat → Prop, I 0 [] c1 ∧
    (∀ (i : Nat) d acc c', ds[i]? = some d → I i acc c' → EvT q tt (Γ.set j (.ab (.d d))) c' fun b c2 => (b = true → EvN q te (Γ.set j (.ab (.d d))) c2 fun y c3 => ∃ dy, y = .d dy ∧ acc.length < 100000 ∧ I (i + 1) (acc ++ [dy]) c3) ∧ (b = false → I (i + 1) acc c2)) ∧
    ∀ acc c', I ds.length acc c' → k (.d (.list acc)) c') : EvN q (tLc (iTup q.K tl) (gName j) tt te [j]) Γ c k := by
  intro B H σ Q S kk
  refine h B H σ _ S fun x c1 v B1 H1 h1 g1 S1 r1 => ?_
  obtain ⟨ds, rfl, I, h2, h3, h4⟩ := h1
  cases r1 with
  | @tup a xs _ a1 a2 =>
    refine ⟨a, rfl, ⟨xs, .inl (.inl (S1.same _ _ a1))⟩, fun Da hD => lc_tup (xs := xs) (fun i H' => Cv q Γ B1 H1 σ Da (I i) H') (cv_start S1 hD h2) (fun i H' _ hp => ?_) (fun i y H' hy hp => ?_) (fun H' hp => ?_)⟩
    · obtain ⟨B', _, _, _, g, S', _⟩ := hp
      exact .inl (.inl (S'.same _ _ (g.b _ _ a1)))
    · obtain ⟨d, hd, rd⟩ := a2.get2 hy
      exact cv_turn hD hp rd fun acc c' hI => h3 i d acc c' hd hI
    · refine cv_end hD hp (fun acc c' hI => h4 acc c' (a2.length ▸ hI)) fun y c' v B' H2 h5 g5 S5 r5 => kk y c' v B' H2 h5 (g1.trans g5) S5 r5
theorem wp_lcL {j : Nat} {tt : TT} {k : Ab → Nat → Prop} (h : EvN q tl Γ c fun x c1 => ∃ ds, x = .d (.list ds) ∧ ∃ I : Nat → List PyData → Nat → Prop, I 0 [] c1 ∧
    (∀ (i : Nat) d acc c', ds[i]? = some d → I i acc c' → EvT q tt (Γ.set j (.ab (.d d))) c' fun b c2 => (b = true → EvN q te (Γ.set j (.ab (.d d))) c2 fun y c3 => ∃ dy, y = .d dy ∧ acc.length < 100000 ∧ I (i + 1) (acc ++ [dy]) c3) ∧ (b = false → I (i + 1) acc c2)) ∧
    ∀ acc c', I ds.length acc c' → k (.d (.list acc)) c') : EvN q (tLc (iList q.K tl) (gName j) tt te [j]) Γ c k := by
  intro B H σ Q S kk
  refine h B H σ _ S fun x c1 v B1 H1 h1 g1 S1 r1 => ?_
  obtain ⟨ds, rfl, I, h2, h3, h4⟩ := h1
  cases r1 with
  | @lst a xs _ a1 a2 =>
    refine ⟨a, rfl, ⟨xs, .inl (.inl (S1.same _ _ a1))⟩, fun Da hD => lc_list (xs := xs) (fun i H' => Cv q Γ B1 H1 σ Da (I i) H') (cv_start S1 hD h2) (fun i H' _ hp => ?_) (fun i y H' hy hp => ?_) (fun H' hp => ?_)⟩
    · obtain ⟨B', _, _, _, g, S', _⟩ := hp
      exact .inl (.inl (S'.same _ _ (g.b _ _ a1)))
    · obtain ⟨d, hd, rd⟩ := a2.get2 hy
      exact cv_turn hD hp rd fun acc c' hI => h3 i d acc c' hd hI
    · refine cv_end hD hp (fun acc c' hI => h4 acc c' (a2.length ▸ hI)) fun y c' v B' H2 h5 g5 S5 r5 => kk y c' v B' H2 h5 (g1.trans g5) S5 r5
theorem wp_lcR {j : Nat} {tt : TT} {t : TA} {k : Ab → Nat → Prop} (h : EvA q t Γ c fun xs c1 => ∃ n : Int, xs = [.d (.int n)] ∧ -100000 ≤ n ∧ n ≤ 100000 ∧ ∃ I : Nat → List PyData → Nat → Prop, I 0 [] c1 ∧
    (∀ (i : Nat) acc c', (i : Int) < n → I i acc c' → EvT q tt (Γ.set j (.ab (.d (.int (i : Int))))) c' fun b c2 => (b = true → EvN q te (Γ.set j (.ab (.d (.int (i : Int))))) c2 fun y c3 => ∃ dy, y = .d dy ∧ acc.length < 100000 ∧ I (i + 1) (acc ++ [dy]) c3) ∧ (b = false → I (i + 1) acc c2)) ∧
    ∀ acc c', I n.toNat acc c' → k (.d (.list acc)) c') : EvN q (tLc (iRng1 t) (gName j) tt te [j]) Γ c k := by
  intro B H σ Q S kk
  refine h B H σ _ S fun xs c1 vs B1 H1 h1 g1 S1 r1 => ?_
  obtain ⟨n, rfl, hn1, hn2, I, h2, h3, h4⟩ := h1
  obtain ⟨v, rfl, r2⟩ := one_rep r1
  cases r2
  refine ⟨n, rfl, by omega, by omega, fun Da hD => lc_range (lo := 0) (n := n.toNat) (fun i H' => Cv q Γ B1 H1 σ Da (I i) H') (cv_start S1 hD h2) (fun i H' hi hp => ?_) (fun H' hp => ?_)⟩
  · have e0 : (0 : Int) + (i : Int) = (i : Int) := Int.zero_add _
    rw [e0]
    exact cv_turn hD hp (.int _) fun acc c' hI => h3 i acc c' (by omega) hI
  · refine cv_end hD hp (fun acc c' hI => h4 acc c' hI) fun y c' v B' H2 h5 g5 S5 r5 => kk y c' v B' H2 h5 (g1.trans g5) S5 r5
theorem wt_yes {k : Bool → Nat → Prop} (hk : k true c) : EvT q tYes Γ c k := fun B H σ Q S kk => kk true c B H hk (Gr.refl S.same) S
/-! ### instances -/
theorem wp_fldP {mg : Str → Option Value} {f : Str} {d : ProgD → PyData} {k : Ab → Nat → Prop} (T : TX q.K mg) (hf : f ∈ (["parts", "places", "wanted", "all_modes", "all_rows"] : List Str))
    (hd : ∀ {B : Hp} {p m r : V} {g : ProgD}, Dq B p g.parts → Dq B m g.modes → Dq B r g.rows → ∃ v, (progF p m r g.places g.wanted).lookup f = some v ∧ Dq B v (d g))
    (h : EvN q ta Γ c fun x c1 => ∃ g, x = .prog g ∧ k (.d (d g)) c1) : EvN q (tFld q.K ta f) Γ c k := by
  intro B H σ Q S kk
  refine h B H σ _ S fun x c1 v B1 H1 h1 g1 S1 r1 => ?_
  obtain ⟨g, rfl, hk⟩ := h1
  obtain ⟨a, dx, p, m, r, rfl, e1, e2, e3, e4⟩ := r1
  obtain ⟨u, u1, u2⟩ := hd e2 e3 e4
  exact ⟨a, _, dx, _, u, rfl, S1.same _ _ e1, T.iP.cl, T.noP f hf, u1, kk _ c1 _ B1 H1 hk g1 S1 u2⟩
theorem wp_parts {mg : Str → Option Value} {k : Ab → Nat → Prop} (T : TX q.K mg) (h : EvN q ta Γ c fun x c1 => ∃ g, x = .prog g ∧ k (.d g.parts) c1) : EvN q (tFld q.K ta "parts") Γ c k :=
  wp_fldP (d := fun g => g.parts) T (by simp) (fun e1 e2 e3 => ⟨_, rfl, e1⟩) h
theorem wp_places {mg : Str → Option Value} {k : Ab → Nat → Prop} (T : TX q.K mg) (h : EvN q ta Γ c fun x c1 => ∃ g, x = .prog g ∧ k (.d (.int g.places)) c1) : EvN q (tFld q.K ta "places") Γ c k :=
  wp_fldP (d := fun g => .int g.places) T (by simp) (fun e1 e2 e3 => ⟨_, rfl, .int _⟩) h
theorem wp_wanted {mg : Str → Option Value} {k : Ab → Nat → Prop} (T : TX q.K mg) (h : EvN q ta Γ c fun x c1 => ∃ g, x = .prog g ∧ k (.d (.int g.wanted)) c1) : EvN q (tFld q.K ta "wanted") Γ c k :=
  wp_fldP (d := fun g => .int g.wanted) T (by simp) (fun e1 e2 e3 => ⟨_, rfl, .int _⟩) h
theorem wp_modes {mg : Str → Option Value} {k : Ab → Nat → Prop} (T : TX q.K mg) (h : EvN q ta Γ c fun x c1 => ∃ g, x = .prog g ∧ k (.d g.modes) c1) : EvN q (tFld q.K ta "all_modes") Γ c k :=
  wp_fldP (d := fun g => g.modes) T (by simp) (fun e1 e2 e3 => ⟨_, rfl, e2⟩) h
theorem wp_rows {mg : Str → Option Value} {k : Ab → Nat → Prop} (T : TX q.K mg) (h : EvN q ta Γ c fun x c1 => ∃ g, x = .prog g ∧ k (.d g.rows) c1) : EvN q (tFld q.K ta "all_rows") Γ c k :=
  wp_fldP (d := fun g => g.rows) T (by simp) (fun e1 e2 e3 => ⟨_, rfl, e3⟩) h
theorem wp_owner {mg : Str → Option Value} {k : Ab → Nat → Prop} (T : TX q.K mg) (h : EvN q ta Γ c fun x c1 => ∃ g s, x = .grp g s ∧ k (.prog g) c1) : EvN q (tFld q.K ta "owner") Γ c k := by
  intro B H σ Q S kk
  refine h B H σ _ S fun x c1 v B1 H1 h1 g1 S1 r1 => ?_
  obtain ⟨g, s, rfl, hk⟩ := h1
  obtain ⟨a, dx, vo, vs, rfl, e1, e2, e3⟩ := r1
  exact ⟨a, _, dx, _, vo, rfl, S1.same _ _ e1, T.iG.cl, T.noG _ (by simp), rfl, kk _ c1 _ B1 H1 hk g1 S1 e2⟩
theorem wp_state {mg : Str → Option Value} {k : Ab → Nat → Prop} (T : TX q.K mg) (h : EvN q ta Γ c fun x c1 => ∃ g s, x = .grp g s ∧ k (.d s) c1) : EvN q (tFld q.K ta "state") Γ c k := by
  intro B H σ Q S kk
  refine h B H σ _ S fun x c1 v B1 H1 h1 g1 S1 r1 => ?_
  obtain ⟨g, s, rfl, hk⟩ := h1
  obtain ⟨a, dx, vo, vs, rfl, e1, e2, e3⟩ := r1
  exact ⟨a, _, dx, _, vs, rfl, S1.same _ _ e1, T.iG.cl, T.noG _ (by simp), rfl, kk _ c1 _ B1 H1 hk g1 S1 e3⟩
/-- a property, a method of an instance -/
theorem wp_propP {W : List Ab → (Ab → Prop) → Prop} {E : XK} {k : Ab → Nat → Prop} (h : EvN q ta Γ c fun x c1 => ∃ g, x = .prog g ∧ W [.prog g] fun z => k z c1) : EvN q (tProp (He.ga q.K "Program") (spF q.K W) [] E ta) Γ c k := by
  intro B H σ Q S kk
  refine h B H σ _ S fun x c1 v B1 H1 h1 g1 S1 r1 => ?_
  obtain ⟨g, rfl, hk⟩ := h1
  have r2 := r1
  obtain ⟨a, dx, p, m, r, rfl, e1, e2⟩ := r1
  exact ⟨a, dx, _, rfl, S1.same _ _ e1, B1, _, _, S1.same, .cons r2 .nil, hk, fun z w B2 H2 h2 g2 r2 => kk z c1 w B2 H2 h2 (g1.trans g2.gr) (S1.gp g2) r2⟩
theorem wp_propG {W : List Ab → (Ab → Prop) → Prop} {E : XK} {k : Ab → Nat → Prop} (h : EvN q ta Γ c fun x c1 => ∃ g s, x = .grp g s ∧ W [.grp g s] fun z => k z c1) : EvN q (tProp (He.ga q.K "Group") (spF q.K W) [] E ta) Γ c k := by
  intro B H σ Q S kk
  refine h B H σ _ S fun x c1 v B1 H1 h1 g1 S1 r1 => ?_
  obtain ⟨g, s, rfl, hk⟩ := h1
  have r2 := r1
  obtain ⟨a, dx, vo, vs, rfl, e1, e2⟩ := r1
  exact ⟨a, dx, _, rfl, S1.same _ _ e1, B1, _, _, S1.same, .cons r2 .nil, hk, fun z w B2 H2 h2 g2 r2 => kk z c1 w B2 H2 h2 (g1.trans g2.gr) (S1.gp g2) r2⟩
theorem wp_methG {W : List Ab → (Ab → Prop) → Prop} {E : XK} {m : Str} {t : TA} {k : Ab → Nat → Prop} (hm : ∀ vo vs : V, ([("owner", vo), ("state", vs)] : List (Str × V)).lookup m = none)
    (h : EvN q ta Γ c fun x c1 => ∃ g s, x = .grp g s ∧ EvA q t Γ c1 fun xs c2 => W (.grp g s :: xs) fun z => k z c2) : EvN q (tMeth (He.ga q.K "Group") m (spF q.K W) [] E ta t) Γ c k := by
  intro B H σ Q S kk
  refine h B H σ _ S fun x c1 v B1 H1 h1 g1 S1 r1 => ?_
  obtain ⟨g, s, rfl, hk⟩ := h1
  have r2 := r1
  obtain ⟨a, dx, vo, vs, rfl, e1, e2⟩ := r1
  refine ⟨a, dx, _, rfl, S1.same _ _ e1, hm vo vs, ?_⟩
  refine hk B1 H1 σ _ S1 fun xs c2 us B2 H2 h2 g2 S2 r3 => ?_
  rw [List.append_nil]
  exact ⟨B2, _, _, S2.same, .cons (r2.mono g2.b) r3, h2, fun z w B3 H3 h3 g3 r4 => kk z c2 w B3 H3 h3 ((g1.trans g2).trans g3.gr) (S2.gp g3) r4⟩
end
/-! ### == by an own __eq__ -/
def eqW (x y : Ab) : List Ab → (Ab → Prop) → Prop := fun xs k => xs = [x, y] ∧ k (.d (.bool true))
theorem eq_imp {K : PySem.W.Frag} {R : Addr → Addr → Hp → Prop} {W : List Ab → (Ab → Prop) → Prop} (h : ∀ a b H, R a b H → ∃ x y, Rep K H (.ref a) x ∧ Rep K H (.ref b) y ∧ ∀ k : Ab → Prop, k (.d (.bool true)) → W [x, y] k) :
    ∀ vs H Q E, spEq R vs H Q E → spF K W vs H Q E := by
  intro vs H Q E hs
  obtain ⟨a, b, rfl, hr, hq⟩ := hs
  obtain ⟨x, y, h1, h2, h3⟩ := h a b H hr
  refine ⟨H, [x, y], fun z => z = .d (.bool true), Same.refl H, .cons h1 (.cons h2 .nil), h3 _ rfl, fun z w B' H' hz g r => ?_⟩
  subst hz
  cases r
  exact hq H' g.h
theorem rn_eqG {K : PySem.W.Frag} {D : Eqv} {x y : Ab} {k : Ab → Prop} (hD : ∀ {B H : Hp} {v u : V}, Same B H → Rep K B v x → Rep K B u y → D v u H) (hk : k (.d (.bool true))) : RN K (rEqG D) x y k := by
  intro B H v u Q ex r1 r2 kk
  refine ⟨hD ex r1 r2, fun H' e => ?_⟩
  exact kk _ _ B H' hk ⟨Same.refl B, ex.trans e, fun _ _ z => .inl z, e⟩ (.bl true)
end Kt
/-! Rules that the layer lacks: enumerate over a tuple, extend by a tuple, str of an own instance. -/
namespace KtM
open PySem
open Sem (wp)
open AutoSeq1 (wpAny_loadPart')
theorem ext_tup (l b : Addr) (xs ys : Array Value) (m m2 : Nat) (dd : Option Addr) (sl : Array (Option Value)) (g0 : ¬(!xs.isEmpty && Builtin.List.listTooLong (xs.size + ys.size)) = true) (g1 : xs.size ≤ sizeLine) (g2 : xs.size + ys.size ≤ sizeLine + 1) :
    Meets (Builtin.«list.extend» ⟨[.ref l, .ref b], []⟩) (fun _ R s => s.heap.get? l = some { cls := .type "list", dict := none, data := .seq xs m, slots := #[] } ∧
      s.heap.get? b = some { cls := .type "tuple", dict := dd, data := .seq ys m2, slots := sl } ∧ R (.ok (.ret Value.none)) { s with heap := s.heap.update l (Obj.mapSeq fun x => x ++ ys), toks := s.toks }) :=
  .of_wp fun prog w A R s h => by
    obtain ⟨hh, gg, dr, tt, oo⟩ := s
    obtain ⟨e1, e2, e3⟩ := h
    have f1 := AutoSeq1.idx_int
    have f2 := AutoSeq1.sub_tuple_tuple
    have f3 := AutoSeq1.sub_list_list
    have f4 := AutoSeq1.sub_tuple_list
    have f5 := AutoSeq1.sub_list_tuple
    have g3 : (xs ++ ys).size ≤ sizeLine + 1 := by rw [Array.size_append]; exact g2
    wp_walk using (wpAny_updateSeq e1 rfl (hz := g1) (_hz' := g3)), wpAny_loadPart' e1, wpAny_loadPart' e2
    exact ⟨_, rfl, e3⟩
theorem enum_new (t : Addr) (items : Array Value) :
    Meets (Builtin.«enumerate.__new__» ⟨[.type "enumerate", .ref t], []⟩) (fun _ R s => s.heap.IsTuple t items ∧
      R (.ok (.ret (.ref (s.heap.push { cls := .type "tuple_iterator", data := .fields #[.ref t, .int 0 0] }).objs.size)))
        { s with heap := (s.heap.push { cls := .type "tuple_iterator", data := .fields #[.ref t, .int 0 0] }).push { cls := .type "enumerate", data := .fields #[.none, .bool false, .ref s.heap.objs.size, rawInt 0, .none, .none] } }) :=
  .of_wp fun prog w A R s h => by
    obtain ⟨hh, gg, dr, tt, oo⟩ := s
    obtain ⟨ht, hk⟩ := h
    have z := sub_enumerate
    have ht' : Heap.IsTuple (Shared.heap ⟨hh, gg, dr, tt, oo⟩) t items := ht
    wp_walk
    refine wpAny_stack_any fun stk => wpAny_pure ?_
    split
    · rename_i cl _ _ _ _ _
      cases (cl == Value.type "enumerate")
      · wp_walk using wpAny_pyIter_tuple ht'
        exact ⟨_, rfl, hk⟩
      · wp_walk using wpAny_pyIter_tuple ht'
        exact ⟨_, rfl, hk⟩
    · wp_walk using wpAny_pyIter_tuple ht'
      exact ⟨_, rfl, hk⟩
section
variable {prog : Program} {w : World} {A : Around} {E : Value → Shared → Prop} {s : Shared}
theorem enum_tup {t : Addr} {items : Array Value} {Q : Value → Shared → Prop} (ht : s.heap.IsTuple t items)
    (hq : ∀ h2, IsEnum h2 (s.heap.objs.size + 1) s.heap.objs.size 0 .none → h2.IsTupleIter s.heap.objs.size t 0 → (∀ b o, s.heap.get? b = some o → h2.get? b = some o) → Q (.ref (s.heap.objs.size + 1)) { s with heap := h2 }) :
    wpAny (model prog w) A (call (.type "enumerate") [.ref t]) Q E s := by
  refine callType_new F.called_enumerate (by decide) (F.typeCall_enumerate_1 _) (F.newCall_enumerate_1 _) (fun o => F.args_object_init_2 o _) F.entry_enumerate_new (enum_new t items) ⟨ht, ?_⟩
  have sz : (s.heap.push { cls := .type "tuple_iterator", data := .fields #[.ref t, .int 0 0] }).objs.size = s.heap.objs.size + 1 := Heap.size_push ..
  show _ ∧ _
  rw [sz]
  have k1 : ∀ b o, s.heap.get? b = some o → ((s.heap.push { cls := .type "tuple_iterator", data := .fields #[.ref t, .int 0 0] }).push { cls := .type "enumerate", data := .fields #[.none, .bool false, .ref s.heap.objs.size, rawInt 0, .none, .none] }).get? b = some o :=
    fun b o y => Heap.get?_push_of_some _ (Heap.get?_push_of_some _ y)
  have k2 := Heap.get?_push_size (s.heap.push { cls := .type "tuple_iterator", data := .fields #[.ref t, .int 0 0] }) (o := { cls := .type "enumerate", data := .fields #[.none, .bool false, .ref s.heap.objs.size, rawInt 0, .none, .none] }) rfl
  rw [sz] at k2
  refine ⟨⟨_, k2, rfl⟩, hq _ k2 ⟨_, Heap.get?_push_of_some _ (Heap.get?_push_size _ rfl), rfl, rfl⟩ k1⟩
end
end KtM
namespace Kt
open PySem PySem.Spec PyProof.Rows L2
/-- the tuple at a as it stands, each item in a new pair -/
def IteT (K : PySem.W.Frag) (a : Addr) : It :=
  ⟨fun i H => ∃ (xs : List V) (x : V), SqT K H a xs ∧ xs[i]? = some x,
   fun i H v H' => ∃ T x, v = .ref T ∧ H T = none ∧ H' = upd H T (.tup [.int (i : Nat), x]) ∧ ∀ xs, SqT K H a xs → xs[i]? = some x,
   fun i H => ∃ xs : List V, SqT K H a xs ∧ xs.length ≤ i⟩
theorem turn_enumT {P : Program} {w : World} {K : PySem.W.Frag} {elts : List Expr} {kk : Nat} {tpos : Pos} (a e it : Addr) :
    Turn P w K (.Tuple elts kk tpos) (IteT K a) [e, it] e (fun i h => (∃ old, IsEnum h e it ((i : Nat) : Int) old) ∧ h.IsTupleIter it a i ∧ e ≠ it) where
  mem := List.mem_cons_self
  obj := fun i h st b hb => by
    obtain ⟨⟨old, h1⟩, ⟨o, h2, h3, h4⟩, _⟩ := st
    rcases (show b = e ∨ b = it by simpa using hb) with z | z
    · subst z
      exact ⟨_, h1, fun v q => nomatch q⟩
    · subst z
      exact ⟨o, h2, fun v q => by rw [h4] at q; cases q⟩
  keep := fun i h h' st kp => by
    obtain ⟨⟨old, h1⟩, h2, h3⟩ := st
    exact ⟨⟨old, kp e (by simp) _ h1⟩, h2.at fun o q => kp it (by simp) o q, h3⟩
  item := by
    intro X eP ew eK hc i pins s σ H E I fpk st go
    subst eP ew eK
    obtain ⟨⟨old, h1⟩, h2, h3⟩ := st
    obtain ⟨xs, x, hq, hx⟩ := go
    obtain ⟨its, rv, pt, _⟩ := I.tuple hq
    obtain ⟨u, hu, ru⟩ := rv.get hx
    have tup : s.heap.IsTuple a its.toArray := pt
    have nit : a ≠ it := fun z => by
      obtain ⟨o1, q1, q2, _⟩ := tup
      obtain ⟨o2, q3, q4, _⟩ := id h2
      rw [z, q3] at q1
      cases q1
      rw [q2] at q4
      injection q4 with q5
      exact absurd q5 (by decide)
    have ne : e ∉ [it, a] := fun z => by
      rcases (show e = it ∨ e = a by simpa using z) with z | z
      · exact h3 z
      · obtain ⟨o1, q1, q2, _⟩ := tup
        rw [← z, h1] at q1
        cases q1
        injection q2 with q5
        exact absurd q5 (by decide)
    have hli : i < its.toArray.size := by
      obtain ⟨z, _⟩ := List.getElem?_eq_some_iff.mp hu
      simpa using z
    have esz : e < s.heap.objs.size := Heap.lt_size h1
    have isz : it < s.heap.objs.size := by
      obtain ⟨_, z, _⟩ := id h2
      exact Heap.lt_size z
    have hh : X.A.in1.handled = none := I.ok.hd hc
    refine wpAny_pyNext_enum_itemD (Draws.tuple hh it a nit its.toArray) h1 ⟨h2, tup⟩ hli h3 ne fun y g1 tk gP gO gS gT gz gk => ?_
    have ey : y = u := by
      have z : its.toArray[i]? = some u := by simpa using hu
      rw [z] at gP
      exact (Option.some.inj gP).symm
    subst ey
    refine ⟨_, rfl, wpAny_letOwnedTupleGo_enum (s := { s with heap := g1, toks := tk + 1 }) gO fun g2 gE sb => ?_⟩
    have gT2 : g2.get? s.heap.objs.size = some { cls := .type "tuple", data := .seq #[.int i tk, y] } := (sb.2 _ (Nat.ne_of_gt esz)).trans gT
    have ob : ObjOk X.prog X.w (upd H s.heap.objs.size (.tup [.int (i : Nat), x])) g2 s.heap.objs.size (.tup [.int (i : Nat), x]) :=
      ⟨by show 2 ≤ sizeLine; decide, [.int i tk, y], .cons ⟨_, rfl⟩ (.cons ru .nil), _, gT2, rfl, _, rfl⟩
    have J : Inv X pins σ (upd H s.heap.objs.size (.tup [.int (i : Nat), x])) { s with heap := g2, toks := tk + 1 } :=
      I.turnedNew (ch := [e, it]) (fun b o hb q => (sb.2 b (fun z => hb (by simp [z]))).trans (gk b o (fun z => hb (by simp [z])) (fun z => hb (by simp [z])) q)) fpk (Nat.le_refl _) ob
    refine ⟨.ref s.heap.objs.size, _, J, rfl, ⟨_, x, rfl, I.hok.fresh (Nat.le_refl _), rfl, fun ys hy => by rw [I.tuple_inj hy hq]; exact hx⟩, ⟨⟨y, ?_⟩, gS.1.at fun o q => (sb.2 it (Ne.symm h3)).trans q, h3⟩, fun b hb => ?_⟩
    · rw [show ((i + 1 : Nat) : Int) = (i : Int) + 1 by omega]
      exact gE
    · have hlt : b < s.heap.objs.size := by
        rcases (show b = e ∨ b = it by simpa using hb) with z | z
        · rw [z]; exact esz
        · rw [z]; exact isz
      rw [upd_ne (Nat.ne_of_lt hlt)]
      exact (fpk b hb).1
  done := by
    intro X eP ew eK hc i pins s σ H E I fpk st go
    subst eP ew eK
    obtain ⟨⟨old, h1⟩, h2, h3⟩ := st
    obtain ⟨xs, hq, hx⟩ := go
    obtain ⟨its, rv, pt, _⟩ := I.tuple hq
    have tup : s.heap.IsTuple a its.toArray := pt
    obtain ⟨f0, f1, f2, f3, f4, f5⟩ := fpk it (by simp)
    have hh : X.A.in1.handled = none := I.ok.hd hc
    have hl := rv.length
    have hn : its.toArray[i]? = none := by simp; omega
    have hT : s.TypeIs (.ref e) "enumerate" := ⟨_, h1, rfl⟩
    unfold pyNext
    refine wpAny_bind (wpAny_attempt (wpAny_callSpecial?_slot (name := Str.ofString "__next__") hT F.slot_enumerate_next (wpAny_call_entry F.slot_enumerate_next hT F.entry_enumerate_next ?_ (F.args_enumerate_next_1 _))))
    show wpAny _ _ (field (.ref e) 2 >>= _) _ _ _
    refine wpAny_bind (wpAny_field h1 rfl (x := .ref it) rfl ?_)
    refine wpAny_bind (wpAny_nextOf_tuple_end hh h2 tup hn fun h' ex he' hx' => ?_)
    obtain ⟨o, ho, hcl⟩ := hx'
    refine wpAny_bind (wpAny_isInstance (T := "StopIteration") (b := true) ⟨o, ho, hcl⟩ isSubtype_stop ?_)
    exact wpAny_pure ⟨rfl, I.turned (t' := s.toks) (fun b o hb q => he' b o hb q) f0 f1 f3 f4 f5⟩
  self := fun A i s Q E st hq => by
    obtain ⟨⟨_, h1⟩, _⟩ := st
    exact wpAny_pyIter_enum h1 hq
def iEnumT (K : PySem.W.Frag) (ta : TA) : TI := fun σ H R => ta σ H fun vs H1 => ∃ a xs, vs = [.ref a] ∧ SqT K H1 a xs ∧ R (IteT K a) H1
theorem pi_enumT {X : Cx} {e : Expr} {ta : TA} {p pos tpos : Pos} {elts : List Expr} {kk : Nat} (hg : Gl X "enumerate") (hm : X.mg "enumerate" = none) (ha : PA X [e] ta) (hst : starEach [e] X.env = [(false, eval e X.env)] := by rfl) :
    PI X (.Tuple elts kk tpos) (.Call (.Name "enumerate" p) [e] [] pos) (iEnumT X.K ta) := by
  refine ⟨fun pins s σ H R I h => ?_⟩
  refine Call_ (ld_blt I hg hm boot_enumerate (PyProof.Rows.callWith_type1 (thn (ha.run pos pins s σ H _ I h) fun us s1 hv => ?_) hst rfl))
  obtain ⟨vs, H1, I1, r1, a, xs, ex, hq, hR⟩ := hv
  subst ex
  cases r1 with
  | cons r rr =>
    cases rr
    cases r
    obtain ⟨its, rv, pt, _⟩ := I1.tuple hq
    refine KtM.enum_tup (items := its.toArray) pt fun h2 hE hI hk => wpAny_pyIter_enum hE ?_
    have I2 : Inv X pins σ H1 { s1 with heap := h2 } := I1.kept (t' := s1.toks) hk
    refine ⟨s1.heap.objs.size + 1, [s1.heap.objs.size + 1, s1.heap.objs.size], _, _, H1, rfl, I2, turn_enumT a (s1.heap.objs.size + 1) s1.heap.objs.size, ⟨⟨.none, hE⟩, hI, Nat.succ_ne_self _⟩, fun b hb => ?_, hR⟩
    have hle : s1.heap.objs.size ≤ b := by
      rcases (show b = s1.heap.objs.size + 1 ∨ b = s1.heap.objs.size by simpa using hb) with z | z
      · rw [z]; exact Nat.le_add_right _ _
      · rw [z]; exact Nat.le_refl _
    exact I1.fpOk hle (I1.hok.fresh hle)
theorem walk_enumT {K : PySem.W.Frag} {a : Addr} {xs : List V} : Walk (IteT K a) xs.length (fun H => SqT K H a xs) (YPair (fun i => some (.int (i : Nat))) (fun i => xs[i]?)) := by
  refine ⟨fun i _ hi q => ⟨xs, xs[i], q, List.getElem?_eq_getElem hi⟩, fun _ q => ⟨xs, q, Nat.le_refl _⟩, fun i H v H' _ q y => ?_⟩
  obtain ⟨T, x, h1, h2, h3, h4⟩ := y
  exact ⟨T, .int (i : Nat), x, h1, h2, h3, rfl, h4 xs q⟩
/-- for i, x in enumerate(t) -/
theorem wr_forE {q : Cq} {Γ : List En} {c : Nat} {A : AE} {tb : TS} {t : TA} {j1 j2 : Nat} (h : EvA q t Γ c fun xs c1 => ∃ ds, xs = [.d (.tuple ds)] ∧ ∃ I : Nat → List En → Nat → Prop, I 0 Γ c1 ∧
    (∀ (i : Nat) d Γ' c', ds[i]? = some d → I i Γ' c' → RunN q tb ((Γ'.set j1 (.ab (.d (.int (i : Int))))).set j2 (.ab (.d d))) c' { A with nx := I (i + 1), ct := I (i + 1), bk := A.nx }) ∧ ∀ Γ' c', I ds.length Γ' c' → A.nx Γ' c') :
    RunN q (tFor (iEnumT q.K t) (gTup q.K 2 (gCons (gName j1) (gCons (gName j2) gNil))) tb) Γ c A := by
  intro B H σ D S L
  refine h B H σ _ S fun xs c1 vs B1 H1 h1 g1 S1 r1 => ?_
  obtain ⟨ds, rfl, I, h2, h3, h4⟩ := h1
  obtain ⟨v, rfl, r2⟩ := one_rep r1
  cases r2 with
  | @tup a xs _ a1 a2 =>
    refine ⟨a, xs, rfl, .inl (.inl (S1.same _ _ a1)), for_it (walk_enumT (xs := xs)) (fun i σ' H' => ∃ B' Γ' c', Same B1 B' ∧ SD q B' H' σ' Γ' c' ∧ I i Γ' c') ⟨B1, Γ, c1, Same.refl B1, S1, h2⟩ (fun i σ' H' _ hp => ?_) (fun i y σ' H' H2 hi hp hy => ?_) (fun σ' H' hp => ?_)⟩
    · obtain ⟨B', Γ', c', e, S', _⟩ := hp
      exact .inl (.inl (S'.same _ _ (e _ _ a1)))
    · obtain ⟨B', Γ', c', e, S', hI⟩ := hp
      obtain ⟨T, x1, x2, rfl, nT, rfl, f1, f2⟩ := hy
      cases f1
      obtain ⟨d, hd, rd⟩ := a2.get2 f2
      have g : Gp B' H' B' (upd H' T (.tup [.int (i : Nat), x2])) := Gp.out S'.same nT
      refine ⟨T, _, rfl, .inl (.inl upd_same), rfl, _, _, rfl, _, _, rfl, rfl, ?_⟩
      exact h3 i d Γ' c' hd hI B' _ _ _ (((S'.gp g).setD (.int _)).setD (Dq.mono e _ _ rd)) (lk_turn L g1.b (fun B2 H2 σ2 Γ2 c2 e2 S2 h5 => ⟨B2, Γ2, c2, e2, S2, h5⟩) e)
    · obtain ⟨B', Γ', c', e, S', hI⟩ := hp
      rw [a2.length] at hI
      exact L.nx _ c' _ B' H' (h4 Γ' c' hI) (g1.b.trans e) S'
/-- list.extend by a tuple -/
theorem mt_extT {X : Cx} : MtM X "list.extend" (rExtT X.K) := by
  intro pins s σ H x vs v us Q I rx rv h
  obtain ⟨l, b, xs, zs, rfl, rfl, hH, hB, hz, hq⟩ := h
  cases rx
  obtain ⟨u, rfl, ru⟩ := rv.one
  cases ru
  obtain ⟨z, its, n, r, hl, e⟩ := I.lstM hH
  obtain ⟨_, its2, r2, o2, e2, c2, n2, d2⟩ := (show ObjOk X.prog X.w H s.heap b (.tup zs) from I.hok b _ hB)
  obtain ⟨oc, od, dt, sl⟩ := o2
  simp only at c2 d2
  subst c2 d2
  have l1 := r.length
  have l2 := r2.length
  have hlt : its.toArray.size + its2.toArray.size ≤ sizeLine := by
    simp only [List.size_toArray]
    omega
  have hlong : ¬ (!its.toArray.isEmpty && Builtin.List.listTooLong (its.toArray.size + its2.toArray.size)) = true := by
    rw [notLongL hlt, Bool.and_false]
    exact Bool.false_ne_true
  refine call_meets F.slot_list_extend ⟨_, e, rfl⟩ F.entry_list_extend (F.args_list_extend_2 _ _) (KtM.ext_tup l b its.toArray its2.toArray n n2 od sl hlong (by omega) (by omega)) ⟨e, e2, ?_⟩
  exact ⟨.non, _, I.lset (its' := its ++ its2) hH e (by simp) (r.append r2) (by rw [List.length_append]; exact hz), rfl, hq⟩
/-! ### str(x), x an instance with an own __str__ -/
def tStrOwn (C : Addr) (sp : Sp) : List V → Hp → VK → Prop := fun xs H Q => ∃ a dx fs, xs = [.ref a] ∧ H a = some (.ins C dx fs) ∧ sp [.ref a] H (fun v H' => (∃ y, v = .str y) ∧ Q v H') E0
theorem call_strOwn {X : Cx} {k : Nat} {C f : Addr} {fd : FuncData} {ps : List Str} {sp : Sp} (F1 : FnOk X.prog X.w X.K X.mg X.base CX0 k f fd ps sp) (hb : Binds X.K fd ps []) (hs : PySem.W.findIn X.K (.ref C) "__str__" = some (some (.ref f)))
    (hf : PySem.W.isFn X.K (.ref f) = true) (hr : Room (k + 2) X.A) : CallR X (.type "str") (tStrOwn C sp) := by
  intro pins s σ H xs us Q I r h
  obtain ⟨a, dx, fs, rfl, ha, hq⟩ := h
  obtain ⟨u, rfl, ru⟩ := vals1 r
  cases ru
  obtain ⟨mA, J, _⟩ := ins_get I.hok ha
  obtain ⟨od, J, _⟩ := J.look
  have hu : X.A.in1.in1.units < cLine := hr.in1.in1.units0
  refine PySem.W.kso_call hu I.kIn J hs hf ?_
  have hl : ([V.ref a] : List V).length = ps.length := F1.len _ _ _ _ hq
  refine wpAny_call (codeAny_mono (F1.run X.A.in1.in1 X.stack s H ⟨[.ref a], []⟩ [.ref a] [.ref a] _ E0 hr.in1.in1 I.env0.in1.in1 ?_ (.cons rfl .nil) hq) fun r' s' hq' => ?_)
  · have := hb s [.ref a] I.kIn (by simpa using hl)
    simpa using this
  · cases r' with
    | error e => exact False.elim hq'
    | ok fl =>
      cases fl with
      | ret w =>
        obtain ⟨v, H', I', rv, ⟨y, hy⟩, q2⟩ := I.after hq'
        subst hy
        obtain ⟨t, rfl⟩ := rv
        exact ⟨.str y, H', I', ⟨t, rfl⟩, q2⟩
      | next => exact False.elim hq'
      | brk => exact False.elim hq'
      | cont => exact False.elim hq'
theorem rc_strP {K : PySem.W.Frag} {W : List Ab → (Ab → Prop) → Prop} {g : ProgD} {k : Ab → Prop} (hW : W [.prog g] fun z => (∃ y, z = .d (.str y)) ∧ k z) : RC K (tStrOwn (He.ga K "Program") (spF K W)) [.prog g] k := by
  intro B H vs Q ex r kk
  obtain ⟨v, rfl, r1⟩ := one_rep r
  have r2 := r1
  obtain ⟨a, dx, p, m, r, rfl, e1, e2⟩ := r1
  refine ⟨a, dx, _, rfl, ex _ _ e1, B, _, _, ex, .cons r2 .nil, hW, fun z w B2 H2 h2 g2 r3 => ?_⟩
  obtain ⟨⟨y, rfl⟩, h3⟩ := h2
  refine ⟨?_, kk _ w B2 H2 h3 g2 r3⟩
  cases r3
  exact ⟨y, rfl⟩
end Kt
/-! isinstance, f-strings, ranges as tuples, keyword calls, new instances. -/
namespace Kt
open PySem PySem.Spec PyProof.Rows L2
/-! ### isinstance -/
def tyN : PyData → Option String
  | .none => some "NoneType"
  | .bool _ => some "bool"
  | .int _ => some "int"
  | .str _ => some "str"
  | .list _ => some "list"
  | .tuple _ => some "tuple"
  | .dict _ => none
theorem tyx_of {K : PySem.W.Frag} {B H : Hp} (e : Same B H) {v : V} {d : PyData} {s : String} (h : Dq B v d) (hs : tyN d = some s) : TyX K H v (.type s) := by
  cases h with
  | non => cases hs; exact .base .non
  | bl b => cases hs; exact .base (.bl b)
  | int i => cases hs; exact .base (.int i)
  | str x => cases hs; exact .base (.str x)
  | lst h1 h2 => cases hs; exact .base (.lst (e _ _ h1))
  | tup h1 h2 => cases hs; exact .base (.tup (e _ _ h1))
section
variable {q : Cq} {Γ : List En} {c : Nat} {k : Ab → Nat → Prop} {ta tb te : TE}
theorem wp_isi {T : String} (h : EvN q te Γ c fun x c1 => ∃ d s b, x = .d d ∧ tyN d = some s ∧ kitB s T = some b ∧ k (.d (.bool b)) c1) : EvN q (tCB (rIsi q.K) (tCons te (tCons (tC (.ty T)) tNil))) Γ c k := by
  intro B H σ Q S kk
  refine h B H σ _ S fun x c1 v B1 H1 h1 g1 S1 r1 => ?_
  obtain ⟨d, s, b, rfl, hs, hb, hk⟩ := h1
  exact ⟨v, .ty T, .type s, .type T, b, rfl, .ty T, tyx_of S1.same r1 hs, kit_ty hb, kk _ c1 _ B1 H1 hk g1 S1 (.bl b)⟩
theorem kit_own {K : PySem.W.Frag} {C : Addr} : PySem.W.kitOne K (.ref C) (.ref C) = some true := by
  unfold PySem.W.kitOne
  rw [if_pos (by simp)]
theorem wp_isiP {mg : Str → Option Value} (T : TX q.K mg) (h : EvN q te Γ c fun x c1 => ∃ g, x = .prog g ∧ k (.d (.bool true)) c1) : EvN q (tCB (rIsi q.K) (tCons te (tCons (tC (.ref (He.ga q.K "Program"))) tNil))) Γ c k := by
  intro B H σ Q S kk
  refine h B H σ _ S fun x c1 v B1 H1 h1 g1 S1 r1 => ?_
  obtain ⟨g, rfl, hk⟩ := h1
  obtain ⟨a, dx, p, m, r, rfl, e1, _⟩ := r1
  exact ⟨_, .ref (He.ga q.K "Program"), .ref (He.ga q.K "Program"), .ref (He.ga q.K "Program"), true, rfl, .own _, .base (.ins (S1.same _ _ e1) T.iP.cl T.iP.ha (by rfl) (by rfl) T.iP.hm), kit_own, kk _ c1 _ B1 H1 hk g1 S1 (.bl true)⟩
theorem wp_isiG {mg : Str → Option Value} (T : TX q.K mg) (h : EvN q te Γ c fun x c1 => ∃ g s, x = .grp g s ∧ k (.d (.bool true)) c1) : EvN q (tCB (rIsi q.K) (tCons te (tCons (tC (.ref (He.ga q.K "Group"))) tNil))) Γ c k := by
  intro B H σ Q S kk
  refine h B H σ _ S fun x c1 v B1 H1 h1 g1 S1 r1 => ?_
  obtain ⟨g, s, rfl, hk⟩ := h1
  obtain ⟨a, dx, vo, vs, rfl, e1, _⟩ := r1
  exact ⟨_, .ref (He.ga q.K "Group"), .ref (He.ga q.K "Group"), .ref (He.ga q.K "Group"), true, rfl, .own _, .base (.ins (S1.same _ _ e1) T.iG.cl T.iG.ha (by rfl) (by rfl) T.iG.hm), kit_own, kk _ c1 _ B1 H1 hk g1 S1 (.bl true)⟩
/-! ### f-strings -/
theorem wp_fmtS (h : EvN q te Γ c fun x c1 => ∃ s : Str, x = .d (.str s) ∧ s.length ≤ 100000 ∧ k (.d (.str s)) c1) : EvN q (tFmt te) Γ c k := by
  intro B H σ Q S kk
  refine h B H σ _ S fun x c1 v B1 H1 h1 g1 S1 r1 => ?_
  obtain ⟨s, rfl, hl, hk⟩ := h1
  cases r1
  exact .inl ⟨s, rfl, szl hl, kk _ c1 _ B1 H1 hk g1 S1 (.str s)⟩
theorem wp_fmtI (h : EvN q te Γ c fun x c1 => ∃ i : Int, x = .d (.int i) ∧ i.natAbs.log2 < 1920 ∧ k (.d (.str (toString i))) c1) : EvN q (tFmt te) Γ c k := by
  intro B H σ Q S kk
  refine h B H σ _ S fun x c1 v B1 H1 h1 g1 S1 r1 => ?_
  obtain ⟨i, rfl, hl, hk⟩ := h1
  cases r1
  exact .inr ⟨i, rfl, hl, kk _ c1 _ B1 H1 hk g1 S1 (.str _)⟩
def EvJ (q : Cq) (ts : List TE) (acc : Str) (Γ : List En) (c : Nat) (k : Str → Nat → Prop) : Prop := ∀ (B H : Hp) (σ : L2.St) (Q : Str → Hp → Prop), SD q B H σ Γ c → (∀ x c' B' H', k x c' → Gr q.π B H B' H' → SD q B' H' σ Γ c' → Q x H') → tJs ts acc σ H Q
theorem wj_nil {acc : Str} {k : Str → Nat → Prop} (hk : k acc c) : EvJ q [] acc Γ c k := fun B H σ Q S kk => kk _ c B H hk (Gr.refl S.same) S
theorem wj_cons {ts : List TE} {acc : Str} {k : Str → Nat → Prop} (h : EvN q te Γ c fun x c1 => ∃ s : Str, x = .d (.str s) ∧ (acc ++ s).length ≤ 100000 ∧ EvJ q ts (acc ++ s) Γ c1 k) : EvJ q (te :: ts) acc Γ c k := by
  intro B H σ Q S kk
  refine h B H σ _ S fun x c1 v B1 H1 h1 g1 S1 r1 => ?_
  obtain ⟨s, rfl, hl, hk⟩ := h1
  cases r1
  exact ⟨s, rfl, szl hl, hk B1 H1 σ _ S1 fun x c2 B2 H2 h2 g2 S2 => kk x c2 B2 H2 h2 (g1.trans g2) S2⟩
theorem wp_js {ts : List TE} (h : EvJ q ts Str.empty Γ c fun s c1 => k (.d (.str s)) c1) : EvN q (fun σ H Q => tJs ts Str.empty σ H fun out H1 => Q (.str out) H1) Γ c k := fun B H σ Q S kk =>
  h B H σ _ S fun x c1 B1 H1 h1 g1 S1 => kk _ c1 _ B1 H1 h1 g1 S1 (.str x)
/-! ### tuple(range(n)), abs -/
def upto (n : Nat) : List Int := (List.range n).map Int.ofNat
theorem wp_tupRg (h : EvN q te Γ c fun x c1 => ∃ n : Nat, x = .d (.int n) ∧ n ≤ 100000 ∧ k (.d (.tuple ((upto n).map .int))) c1) : EvN q (tTupRg (tRg1 te)) Γ c k := by
  intro B H σ Q S kk
  refine h B H σ _ S fun x c1 v B1 H1 h1 g1 S1 r1 => ?_
  obtain ⟨n, rfl, hl, hk⟩ := h1
  cases r1
  refine ⟨n, rfl, ⟨by omega, by omega, by omega, by omega, ?_⟩, fun p hp => ?_⟩
  · have := szl hl
    simp only [Int.sub_zero, Int.toNat_natCast]
    omega
  · have e : rgV 0 (n : Int) = (upto n).map V.int := by
      unfold rgV upto
      rw [List.map_map]
      simp
    rw [e]
    have g2 : Gp B1 H1 (upd B1 p (.tup ((upto n).map V.int))) (upd H1 p (.tup ((upto n).map V.int))) := Gp.new S1.same hp
    exact kk _ c1 _ _ _ hk (g1.trans g2.gr) (S1.gp g2) (.tup upd_same (DqA.of_ints _))
theorem rc_abs {K : PySem.W.Frag} {k : Ab → Prop} {i : Int} (hk : k (.d (.int (if i < 0 then -i else i)))) : RC K (fun xs H Q => ∃ i, xs = [.int i] ∧ Q (.int (if i < 0 then -i else i)) H) [.d (.int i)] k := by
  intro B H vs Q ex r kk
  obtain ⟨v, rfl, r1⟩ := one_rep r
  cases r1
  exact ⟨i, rfl, kk _ _ B H hk (Gp.refl ex) (.int _)⟩
theorem rc_max2 {K : PySem.W.Frag} {k : Ab → Prop} {i j : Int} (hk : k (.d (.int (if j > i then j else i)))) : RC K (fun xs H Q => ∃ i j, xs = [.int i, .int j] ∧ Q (.int (if j > i then j else i)) H) [.d (.int i), .d (.int j)] k := by
  intro B H vs Q ex r kk
  obtain ⟨v, u, rfl, r1, r2⟩ := two_rep r
  cases r1; cases r2
  exact ⟨i, j, rfl, kk _ _ B H hk (Gp.refl ex) (.int _)⟩
/-! ### f(k = v, ..) -/
theorem wp_callK {W : List Ab → (Ab → Prop) → Prop} {E : XK} {t : TA} {m : Nat} {gV : List V → List V → List V} {gA : List Ab → List Ab} (hg : ∀ {B : Hp} {vs : List V} {xs : List Ab}, RepA q.K B vs xs → xs.length = m → RepA q.K B (gV [] vs) (gA xs))
    (h : EvA q t Γ c fun xs c1 => xs.length = m ∧ W (gA xs) fun z => k z c1) : EvN q (tCallN 0 m (spF q.K W) gV E tNil t) Γ c k := by
  intro B H σ Q S kk
  refine h B H σ _ S fun xs c1 vs B1 H1 h1 g1 S1 r1 => ?_
  exact ⟨rfl, r1.length.trans h1.1, B1, _, _, S1.same, hg r1 h1.1, h1.2, fun z w B2 H2 h2 g2 r2 => kk z c1 w B2 H2 h2 (g1.trans g2.gr) (S1.gp g2) r2⟩
/-! ### new instances -/
/-- what an __init__ promises: at a new instance of C -/
def spI (K : PySem.W.Frag) (C : Addr) (W : List Ab → Ab → Prop) : Sp := fun vs H Q _ => ∃ (x dx : Addr) (us : List V) (B H0 : Hp) (xs : List Ab) (y : Ab), vs = .ref x :: us ∧ Same B H0 ∧ H0 x = none ∧ H0 dx = none ∧ dx ≠ x ∧ H = upd (upd H0 dx (.own x)) x (.ins C dx []) ∧ RepA K B us xs ∧ W xs y ∧
  ∀ B' H', Gp B H0 B' H' → Rep K B' (.ref x) y → Q .non H'
theorem wp_make {C : Addr} {W : List Ab → Ab → Prop} {E : XK} {t : TA} (h : EvA q t Γ c fun xs c1 => ∃ y, W xs y ∧ k y c1) : EvN q (tMake C (spI q.K C W) [] E t) Γ c k := by
  intro B H σ Q S kk
  refine h B H σ _ S fun xs c1 vs B1 H1 h1 g1 S1 r1 => ?_
  obtain ⟨y, h1, h2⟩ := h1
  intro x dx nx ndx ne
  rw [List.append_nil]
  exact ⟨x, dx, vs, B1, H1, xs, y, rfl, S1.same, nx, ndx, ne, rfl, r1, h1, fun B2 H2 g2 r2 => ⟨rfl, kk _ c1 _ B2 H2 h2 (g1.trans g2.gr) (S1.gp g2) r2⟩⟩
end
end Kt
/-! From a def's text to its promise; calls; the stepper. -/
namespace Kt
open PySem PySem.Spec PyProof.Rows L2
theorem hu65 {A : Around} {k : Nat} (hr : Room k A) : A.units + 65 < cLine := by have := hr.un; omega
section
variable {P : Program} {w : World} {K : PySem.W.Frag} {mg : Str → Option Value} {base : Heap}
theorem ok_f {x qual : Str} {params : Arguments} {body : List Stmt} {scope : Scope} {dvs : List V} {f : Addr} {fd : FuncData} {N ps : List Str} {n : Nat} {W : List Ab → (Ab → Prop) → Prop} (F : FunD K x qual params body scope dvs [] f fd) (S : FnScope N ps scope)
    (len : ∀ xs k, W xs k → xs.length = ps.length)
    (hb : ∀ (cdv : Value) (A : Around) (outer : List Env) (s : Shared) (H : Hp) (E : XK), Room n (A.deeper (envOfC qual scope s.heap.objs.size f cdv)) →
      ∃ t, PSs (cxOf CX0 P w K mg base N qual scope f cdv A outer s H E).nox body t ∧ ∀ (π : Option Addr) (B0 H0 : Hp) (xs : List Ab) (k : Ab → Prop), W xs k → RunN ⟨K, π, B0, H0⟩ t (st0 N xs) 0 ⟨fun _ _ => k (.d .none), fun x _ => k x, fun _ _ => False, fun _ _ => False⟩) :
    FnOk P w K mg base CX0 (n + 1) f fd ps (spF K W) :=
  ok_pure F S len fun cdv A outer s H E hr => by
    obtain ⟨t, h1, h2⟩ := hb cdv A outer s H E hr
    refine ⟨t, h1, fun q xs k hq hw => ?_⟩
    obtain ⟨K', π, B0, H0⟩ := q
    have e : K' = K := hq
    rw [e]
    exact h2 π B0 H0 xs k hw
theorem ok_p {x qual : Str} {params : Arguments} {body : List Stmt} {scope : Scope} {dvs : List V} {f : Addr} {fd : FuncData} {N ps : List Str} {n : Nat} {W : List Ab → Nat → (Ab → Nat → Prop) → Prop} (F : FunD K x qual params body scope dvs [] f fd) (S : FnScope N ps scope)
    (len : ∀ xs c k, W xs c k → xs.length + 1 = ps.length)
    (hb : ∀ (cdv : Value) (A : Around) (outer : List Env) (s : Shared) (H : Hp) (E : XK), Room n (A.deeper (envOfC qual scope s.heap.objs.size f cdv)) →
      ∃ t, PSs (cxOf CX0 P w K mg base N qual scope f cdv A outer s H E).nox body t ∧ ∀ (π : Option Addr) (B0 H0 : Hp) (xs : List Ab) (c : Nat) (k : Ab → Nat → Prop), W xs c k →
        RunN ⟨K, π, B0, H0⟩ t (En.pur :: (xs.map En.ab ++ List.replicate (N.length - (xs.length + 1)) En.no)) c ⟨fun _ c => k (.d .none) c, k, fun _ _ => False, fun _ _ => False⟩) :
    FnOk P w K mg base CX0 (n + 1) f fd ps (spP K W) :=
  ok_purse F S len fun cdv A outer s H E hr => by
    obtain ⟨t, h1, h2⟩ := hb cdv A outer s H E hr
    refine ⟨t, h1, fun q xs c k hq hw => ?_⟩
    obtain ⟨K', π, B0, H0⟩ := q
    have e : K' = K := hq
    rw [e]
    exact h2 π B0 H0 xs c k hw
end
/-- a def one of whose defaults fills up -/
structure FND (P : Program) (w : World) (K : PySem.W.Frag) (mg : Str → Option Value) (base : Heap) (n : Nat) (x : Str) (ps : List Str) (sp : Sp) (dvs : List V) : Prop where
  gl : mg x = some (.ref (He.ga K x))
  kp : PySem.W.keepIn K (.ref (He.ga K x)) = true
  fn : ∃ fd ds, FnOk P w K mg base CX0 n (He.ga K x) fd ps sp ∧ Vals dvs ds ∧ Binds K fd ps ds
/-- an __init__, a method, a property's def -/
structure FM (P : Program) (w : World) (K : PySem.W.Frag) (mg : Str → Option Value) (base : Heap) (n : Nat) (f : Addr) (ps : List Str) (sp : Sp) : Prop where
  fn : ∃ fd, FnOk P w K mg base CX0 n f fd ps sp ∧ Binds K fd ps []
section
variable {X : Cx}
theorem pe_fnD {n j : Nat} {x : Str} {ps : List Str} {sp : Sp} {dvs : List V} {p pos : Pos} {e : Expr} {es : List Expr} {t : TA} (F : FND X.prog X.w X.K X.mg X.base n x ps sp dvs) (hr : Room j X.A) (hj : Nat.ble n j = true) (ha : PA X (e :: es) t) (hg : Gl X x := by rfl)
    (hdb : (x == ("__debug__" : Str)) = false := by decide) (he : starEach (e :: es) X.env = (false, eval e X.env) :: starEach es X.env := by rfl) (hpl : (backTo pos (starEach es X.env)).any (·.1) = false := by rfl) :
    PE X (.Call (.Name x p) (e :: es) [] pos) (tCall sp dvs E0 t) := by
  obtain ⟨fd, ds, h1, h2, h3⟩ := F.fn
  exact pe_call h1 (hr.mono (Nat.le_of_ble_eq_true hj)) hg F.gl F.kp h3 h2 pass0 ha hdb he hpl
theorem pe_mk {n j : Nat} {C f : Addr} {x : Str} {ps : List Str} {sp : Sp} {p pos : Pos} {e : Expr} {es : List Expr} {t : TA} (M : Mk X.K C f) (F : FM X.prog X.w X.K X.mg X.base n f ps sp) (hr : Room j X.A) (hm : X.mg x = some (.ref C)) (hj : Nat.ble (n + 1) j = true) (ha : PA X (e :: es) t) (hg : Gl X x := by rfl)
    (hdb : (x == ("__debug__" : Str)) = false := by decide) (he : starEach (e :: es) X.env = (false, eval e X.env) :: starEach es X.env := by rfl) (hpl : (backTo pos (starEach es X.env)).any (·.1) = false := by rfl) :
    PE X (.Call (.Name x p) (e :: es) [] pos) (tMake C sp [] E0 t) := by
  obtain ⟨fd, h1, h2⟩ := F.fn
  exact pe_make M h1 (hr.mono (Nat.le_of_ble_eq_true hj)) hg hm h2 .nil pass0 ha hdb he hpl
theorem pe_meF {n j : Nat} {C f : Addr} {m : Str} {ps : List Str} {sp : Sp} {pos apos : Pos} {o e : Expr} {es : List Expr} {ta : TE} {t : TA} {pl : Sem Bool} (he : PE X o ta) (c : Cls X.K C) (hm : Meth X.K C m f) (F : FM X.prog X.w X.K X.mg X.base n f ps sp) (hr : Room j X.A) (hj : Nat.ble n j = true) (ha : PA X (e :: es) t)
    (hst : starEach (e :: es) X.env = (false, eval e X.env) :: starEach es X.env := by rfl) (hpl : (backTo pos (starEach es X.env)).any (·.1) = false := by rfl)
    (ht : eval (.Call (.Attribute o m apos) (e :: es) [] pos) X.env = (do
      let ov ← eval o X.env
      standAt apos.atName
      let (f, first) ← holding [ov] (getMethod ov m pl)
      callWith pos f first (backTo pos (starEach (e :: es) X.env)) (backToKw pos (keywordEach [] X.env))) := by rfl) :
    PE X (.Call (.Attribute o m apos) (e :: es) [] pos) (tMeth C m sp [] E0 ta t) := by
  obtain ⟨fd, h1, h2⟩ := F.fn
  exact pe_meth he c hm h1 (hr.mono (Nat.le_of_ble_eq_true hj)) h2 .nil pass0 ha hst hpl ht
theorem pe_prF {n j : Nat} {C p g : Addr} {f : Str} {ps : List Str} {sp : Sp} {pos : Pos} {e : Expr} {ta : TE} (he : PE X e ta) (c : Cls X.K C) (hp : PropOf X.K C f p g) (F : FM X.prog X.w X.K X.mg X.base n g ps sp) (hr : Room j X.A) (hj : Nat.ble (n + 1) j = true)
    (hab : attributeBase e f X.env (eval e X.env) = eval e X.env) : PE X (.Attribute e f pos) (tProp C sp [] E0 ta) := by
  obtain ⟨fd, h1, h2⟩ := F.fn
  exact pe_prop he c hp h1 (hr.mono (Nat.le_of_ble_eq_true hj)) h2 .nil pass0 hab
/-! ### a display's index -/
def tTupIx (K : PySem.W.Frag) (t : TA) (te : TA) : TE := fun σ H Q => t σ H fun xs H1 => xs.length ≤ sizeLine ∧ ∀ p, H1 p = none → te σ (upd H1 p (.tup xs)) fun vs H2 =>
  ∃ ys : List Str, ∃ z j, vs = [.str z] ∧ SqT K H2 p (ys.map V.str) ∧ ys[j]? = some z ∧ (∀ m, m < j → ys[m]? ≠ some z) ∧ Q (.int (j : Nat)) H2
theorem pe_tupIx {e : Expr} {es ts : List Expr} {t te : TA} {tk : Nat} {tp apos cpos : Pos} (h : PA X ts t) (ha : PA X (e :: es) te)
    (hbase : attributeBase (.Tuple ts tk tp) "index" X.env (eval (.Tuple ts tk tp) X.env) = eval (.Tuple ts tk tp) X.env := by rfl)
    (hfew : ((backTo cpos (starEach (e :: es) X.env)).all (fun x => !x.1) && (backToKw cpos (keywordEach [] X.env)).all (fun x => x.1.isSome)
      && decide ((e :: es).length + ([] : List Keyword).length + (if ([] : List Keyword).isEmpty then 0 else 1) < 30)) = true := by rfl)
    (hline : (apos.endLine == cpos.line) = true := by rfl) (hs : starEach (e :: es) X.env = (false, eval e X.env) :: starEach es X.env := by rfl) (hplain : (backTo cpos (starEach es X.env)).any (·.1) = false := by rfl) :
    PE X (.Call (.Attribute (.Tuple ts tk tp) "index" apos) (e :: es) [] cpos) (tTupIx X.K t te) := by
  refine ⟨fun pins s σ H Q I hq => ?_⟩
  refine wpAny_Call_method_late hbase hfew hline rfl ?_
  refine wpAny_Tuple_spliced (thn (h.run tp pins s σ H _ I hq) fun us s1 ⟨xs, H1, I1, r, z, q⟩ => ⟨by rw [← r.length]; exact z, ?_⟩)
  have hf : H1 s1.heap.objs.size = none := I1.hok.fresh (Nat.le_refl _)
  have hget : (s1.heap.push { cls := .type "tuple", data := .seq us.toArray }).get? s1.heap.objs.size = some { cls := .type "tuple", data := .seq us.toArray } := Heap.get?_push_size _ rfl
  have I2 : Inv X pins σ (upd H1 s1.heap.objs.size (.tup xs)) { s1 with heap := s1.heap.push { cls := .type "tuple", data := .seq us.toArray } } :=
    I1.laid (t' := s1.toks) (fun b u e => Heap.get?_push_of_some _ e) (Nat.le_refl _) ⟨z, us, r, ⟨_, hget, rfl, _, rfl⟩⟩
  refine ⟨"tuple", "tuple.index", PySem.F.plainAttrs_tuple, PySem.F.slot_tuple_index, PySem.F.type_tuple_index, ⟨_, hget, rfl⟩, fun a ea => ?_, ?_⟩
  · cases ea
    exact ⟨_, hget, rfl⟩
  · have hA := ha.run cpos pins _ σ _ _ I2 (q _ hf)
    rw [hs] at hA ⊢
    refine Calls.callWith_builtin (by show (false || (backTo cpos (starEach es X.env)).any (·.1)) = false; rw [hplain] <;> rfl) (Calls.evalArgs_plain ?_)
    refine thn hA fun vs s2 ⟨ws, H2, I3, r2, ys, z2, j, e1, e2, e3, e4, q2⟩ => ?_
    exact mt_tup_index pins s2 σ H2 (.ref s1.heap.objs.size) ws _ vs Q I3 rfl r2 ⟨_, ys, z2, j, rfl, e1, e2, e3, e4, q2⟩
end
section
variable {K : PySem.W.Frag} {x qual : Str} {params : Arguments} {body : List Stmt} {scope : Scope} {dvs : List V} {f : Addr} {fd : FuncData} {ps : List Str}
theorem bindsAll (F : FunD K x qual params body scope dvs [] f fd) (hd : dvs ≠ []) (n j : Nat) (hn : n = ps.length) (hj : dvs.length = j)
    (h : ∀ (T : Addr) (kV doc pm : Value) (an : Option Addr) (cdv ct : Value) (us its : List Value), us.length = n → its.length = j →
      ∃ k, bindArgs (PySem.W.fnOf x qual params body scope (.ref T) kV doc pm an cdv ct) ⟨us, []⟩ = seqItems? (.ref T) >>= k ∧ k (some its.toArray) = pure (ps.zip us)) : Binds K fd ps [] := by
  obtain ⟨ds, h1, h2⟩ := F.binds1 (ps := ps) n j hd (by omega) fun T kV doc pm an cdv ct us its l1 l2 => by
    obtain ⟨k, e1, e2⟩ := h T kV doc pm an cdv ct us its l1 (l2.trans hj)
    exact ⟨k, e1, by rw [List.drop_eq_nil_of_le (by omega), List.append_nil]; exact e2⟩
  rw [List.drop_eq_nil_of_le (by omega)] at h1
  cases h1
  exact h2
end
section
variable {q : Cq} {Γ : List En} {c : Nat} {k : Ab → Nat → Prop} {ta te to : TE}
theorem wp_tupIx {t tu : TA} {ys : List Str} {z : Str} {j : Nat} (h : EvA q t Γ c fun xs c1 => xs = (ys.map fun s => Ab.d (.str s)) ∧ ys.length ≤ 100000 ∧ EvA q tu Γ c1 fun us c2 => us = [.d (.str z)] ∧ ys[j]? = some z ∧ (∀ m, m < j → ys[m]? ≠ some z) ∧ k (.d (.int (j : Nat))) c2) : EvN q (tTupIx q.K t tu) Γ c k := by
  intro B H σ Q S kk
  refine h B H σ _ S fun xs c1 vs B1 H1 h1 g1 S1 r1 => ?_
  obtain ⟨rfl, hl, h2⟩ := h1
  have hd : DqA B1 vs (ys.map .str) := dats_rep (by rw [← dats_map (ys.map PyData.str), List.map_map]; rfl) r1
  refine ⟨by rw [hd.length, List.length_map]; exact szl hl, fun p hp => ?_⟩
  have g2 : Gp B1 H1 (upd B1 p (.tup vs)) (upd H1 p (.tup vs)) := Gp.new S1.same hp
  refine h2 _ _ σ _ (S1.gp g2) fun us c2 ws B2 H2 h3 g3 S2 r2 => ?_
  obtain ⟨rfl, e1, e2, hk⟩ := h3
  obtain ⟨u, rfl, r3⟩ := one_rep r2
  cases r3
  have e3 := hd.strs
  subst e3
  have hB2 : B2 p = some (.tup (ys.map V.str)) := g3.b _ _ upd_same
  exact ⟨ys, z, j, rfl, .inl (.inl (S2.same _ _ hB2)), e1, e2, kk _ c2 _ B2 H2 hk ((g1.trans g2.gr).trans g3) S2 (.int _)⟩
/-- a text's method by pe_bm -/
theorem wp_bmS {r : V → List V → Hp → VK → Prop} {t : TA} (h : EvN q to Γ c fun x c1 => ∃ s : Str, x = .d (.str s) ∧ EvA q t Γ c1 fun xs c2 => RM q.K r (.d (.str s)) xs fun z => k z c2) : EvN q (tBM q.K "str" r to t) Γ c k := by
  intro B H σ Q S kk
  refine h B H σ _ S fun x c1 v B1 H1 h1 g1 S1 r1 => ?_
  obtain ⟨s, rfl, h1⟩ := h1
  cases r1
  refine ⟨rfl, ?_⟩
  refine h1 B1 H1 σ _ S1 fun xs c2 vs B2 H2 h2 g2 S2 r2 => ?_
  exact h2 B2 H2 _ vs _ S2.same (.str s) r2 fun z w B3 H3 h3 g3 r3 => kk z c2 w B3 H3 h3 ((g1.trans g2).trans g3.gr) (S2.gp g3) r3
theorem ite_t {b : Bool} {P R : Prop} (e : b = true) (h : P) : (b = true → P) ∧ (b = false → R) := ⟨fun _ => h, fun z => absurd (e.symm.trans z) (by decide)⟩
theorem ite_f {b : Bool} {P R : Prop} (e : b = false) (h : R) : (b = true → P) ∧ (b = false → R) := ⟨fun z => absurd (e.symm.trans z) (by decide), fun _ => h⟩
end
theorem pe_bmK {X : Cx} {K : PySem.W.Frag} {o e : Expr} {es : List Expr} {to : TE} {t : TA} {name : Str} {apos cpos : Pos} {T id : String} {r : V → List V → Hp → VK → Prop} (hK : X.K = K) (pa : PlainAttrs T) (slot : Slot T name id) (hty : typeOf (.builtin id) = pure (.type "method_descriptor")) (hm : MtR X id r) (ho : PE X o to) (ha : PA X (e :: es) t)
    (hbase : attributeBase o name X.env (eval o X.env) = eval o X.env := by rfl)
    (hfew : ((backTo cpos (starEach (e :: es) X.env)).all (fun x => !x.1) && (backToKw cpos (keywordEach [] X.env)).all (fun x => x.1.isSome)
      && decide ((e :: es).length + ([] : List Keyword).length + (if ([] : List Keyword).isEmpty then 0 else 1) < 30)) = true := by rfl)
    (hline : (apos.endLine == cpos.line) = true := by rfl) (hs : starEach (e :: es) X.env = (false, eval e X.env) :: starEach es X.env := by rfl) (hplain : (backTo cpos (starEach es X.env)).any (·.1) = false := by rfl) :
    PE X (.Call (.Attribute o name apos) (e :: es) [] cpos) (tBM K T r to t) := by
  subst hK
  exact pe_bm pa slot hty hm ho ha hbase hfew hline hs hplain
end Kt
/-! Comprehensions that map. -/
namespace Kt
open PySem PySem.Spec PyProof.Rows L2
section
variable {q : Cq} {Γ : List En} {c : Nat} {k : Ab → Nat → Prop} {te tl : TE}
theorem take_map_snoc {α : Type} {f : PyData → α} {ds : List PyData} {i : Nat} {d : PyData} (h : ds[i]? = some d) : (ds.take i).map f ++ [f d] = (ds.take (i + 1)).map f := by
  rw [List.take_add_one, h, List.map_append]
  rfl
theorem wp_mapT {j : Nat} {f : PyData → PyData} (h : EvN q tl Γ c fun x c1 => ∃ ds, x = .d (.tuple ds) ∧ ds.length ≤ 100000 ∧ (∀ d, d ∈ ds → EvN q te (Γ.set j (.ab (.d d))) c1 fun y c3 => y = .d (f d) ∧ c3 = c1) ∧ k (.d (.list (ds.map f))) c1) :
    EvN q (tLc (iTup q.K tl) (gName j) tYes te [j]) Γ c k := by
  refine wp_lcT (h.imp fun x c1 h1 => ?_)
  obtain ⟨ds, rfl, hl, ht, hk⟩ := h1
  refine ⟨ds, rfl, fun i acc c' => acc = (ds.take i).map f ∧ c' = c1, ⟨rfl, rfl⟩, fun i d acc c' hd hI => ?_, fun acc c' hI => ?_⟩
  · obtain ⟨rfl, rfl⟩ := hI
    refine wt_yes ⟨fun _ => ?_, fun z => nomatch z⟩
    refine (ht d (List.mem_of_getElem? hd)).imp fun y c3 hy => ?_
    obtain ⟨rfl, rfl⟩ := hy
    refine ⟨_, rfl, ?_, take_map_snoc hd, rfl⟩
    have := (List.getElem?_eq_some_iff.mp hd).1
    rw [List.length_map, List.length_take]
    omega
  · obtain ⟨rfl, rfl⟩ := hI
    rw [List.take_length]
    exact hk
theorem wp_mapL {j : Nat} {f : PyData → PyData} (h : EvN q tl Γ c fun x c1 => ∃ ds, x = .d (.list ds) ∧ ds.length ≤ 100000 ∧ (∀ d, d ∈ ds → EvN q te (Γ.set j (.ab (.d d))) c1 fun y c3 => y = .d (f d) ∧ c3 = c1) ∧ k (.d (.list (ds.map f))) c1) :
    EvN q (tLc (iList q.K tl) (gName j) tYes te [j]) Γ c k := by
  refine wp_lcL (h.imp fun x c1 h1 => ?_)
  obtain ⟨ds, rfl, hl, ht, hk⟩ := h1
  refine ⟨ds, rfl, fun i acc c' => acc = (ds.take i).map f ∧ c' = c1, ⟨rfl, rfl⟩, fun i d acc c' hd hI => ?_, fun acc c' hI => ?_⟩
  · obtain ⟨rfl, rfl⟩ := hI
    refine wt_yes ⟨fun _ => ?_, fun z => nomatch z⟩
    refine (ht d (List.mem_of_getElem? hd)).imp fun y c3 hy => ?_
    obtain ⟨rfl, rfl⟩ := hy
    refine ⟨_, rfl, ?_, take_map_snoc hd, rfl⟩
    have := (List.getElem?_eq_some_iff.mp hd).1
    rw [List.length_map, List.length_take]
    omega
  · obtain ⟨rfl, rfl⟩ := hI
    rw [List.take_length]
    exact hk
/-- over the ints of a tuple, a list -/
theorem wp_mapTI {j : Nat} {f : Int → PyData} (h : EvN q tl Γ c fun x c1 => ∃ ns : List Int, x = .d (.tuple (ns.map .int)) ∧ ns.length ≤ 100000 ∧ (∀ n, n ∈ ns → EvN q te (Γ.set j (.ab (.d (.int n)))) c1 fun y c3 => y = .d (f n) ∧ c3 = c1) ∧ k (.d (.list (ns.map f))) c1) :
    EvN q (tLc (iTup q.K tl) (gName j) tYes te [j]) Γ c k := by
  refine wp_mapT (f := fun d => match d with | .int n => f n | _ => .none) (h.imp fun x c1 h1 => ?_)
  obtain ⟨ns, rfl, hl, ht, hk⟩ := h1
  refine ⟨_, rfl, by rw [List.length_map]; exact hl, fun d hd => ?_, by rw [List.map_map]; exact hk⟩
  obtain ⟨n, hn, rfl⟩ := List.mem_map.mp hd
  exact ht n hn
theorem wp_mapLI {j : Nat} {f : Int → PyData} (h : EvN q tl Γ c fun x c1 => ∃ ns : List Int, x = .d (.list (ns.map .int)) ∧ ns.length ≤ 100000 ∧ (∀ n, n ∈ ns → EvN q te (Γ.set j (.ab (.d (.int n)))) c1 fun y c3 => y = .d (f n) ∧ c3 = c1) ∧ k (.d (.list (ns.map f))) c1) :
    EvN q (tLc (iList q.K tl) (gName j) tYes te [j]) Γ c k := by
  refine wp_mapL (f := fun d => match d with | .int n => f n | _ => .none) (h.imp fun x c1 h1 => ?_)
  obtain ⟨ns, rfl, hl, ht, hk⟩ := h1
  refine ⟨_, rfl, by rw [List.length_map]; exact hl, fun d hd => ?_, by rw [List.map_map]; exact hk⟩
  obtain ⟨n, hn, rfl⟩ := List.mem_map.mp hd
  exact ht n hn
/-- over the images of a list -/
theorem wp_mapLA {α : Type} {j : Nat} {g : α → PyData} {f : α → PyData} (as : List α) (h : EvN q tl Γ c fun x c1 => x = .d (.list (as.map g)) ∧ as.length ≤ 100000 ∧ (∀ a, a ∈ as → EvN q te (Γ.set j (.ab (.d (g a)))) c1 fun y c3 => y = .d (f a) ∧ c3 = c1) ∧ k (.d (.list (as.map f))) c1) :
    EvN q (tLc (iList q.K tl) (gName j) tYes te [j]) Γ c k := by
  refine wp_lcL (h.imp fun x c1 h1 => ?_)
  obtain ⟨rfl, hl, ht, hk⟩ := h1
  refine ⟨_, rfl, fun i acc c' => acc = (as.take i).map f ∧ c' = c1, ⟨rfl, rfl⟩, fun i d acc c' hd hI => ?_, fun acc c' hI => ?_⟩
  · obtain ⟨rfl, rfl⟩ := hI
    rw [List.getElem?_map] at hd
    cases e : as[i]? with
    | none => rw [e] at hd; cases hd
    | some a =>
      rw [e] at hd
      cases hd
      refine wt_yes ⟨fun _ => ?_, fun z => nomatch z⟩
      refine (ht a (List.mem_of_getElem? e)).imp fun y c3 hy => ?_
      obtain ⟨rfl, rfl⟩ := hy
      have := (List.getElem?_eq_some_iff.mp e).1
      refine ⟨_, rfl, ?_, ?_, rfl⟩
      · rw [List.length_map, List.length_take]
        omega
      · rw [List.take_add_one, e, List.map_append]
        rfl
  · obtain ⟨rfl, rfl⟩ := hI
    rw [List.length_map, List.take_length]
    exact hk
theorem wp_mapTA {α : Type} {j : Nat} {g : α → PyData} {f : α → PyData} (as : List α) (h : EvN q tl Γ c fun x c1 => x = .d (.tuple (as.map g)) ∧ as.length ≤ 100000 ∧ (∀ a, a ∈ as → EvN q te (Γ.set j (.ab (.d (g a)))) c1 fun y c3 => y = .d (f a) ∧ c3 = c1) ∧ k (.d (.list (as.map f))) c1) :
    EvN q (tLc (iTup q.K tl) (gName j) tYes te [j]) Γ c k := by
  refine wp_lcT (h.imp fun x c1 h1 => ?_)
  obtain ⟨rfl, hl, ht, hk⟩ := h1
  refine ⟨_, rfl, fun i acc c' => acc = (as.take i).map f ∧ c' = c1, ⟨rfl, rfl⟩, fun i d acc c' hd hI => ?_, fun acc c' hI => ?_⟩
  · obtain ⟨rfl, rfl⟩ := hI
    rw [List.getElem?_map] at hd
    cases e : as[i]? with
    | none => rw [e] at hd; cases hd
    | some a =>
      rw [e] at hd
      cases hd
      refine wt_yes ⟨fun _ => ?_, fun z => nomatch z⟩
      refine (ht a (List.mem_of_getElem? e)).imp fun y c3 hy => ?_
      obtain ⟨rfl, rfl⟩ := hy
      have := (List.getElem?_eq_some_iff.mp e).1
      refine ⟨_, rfl, ?_, ?_, rfl⟩
      · rw [List.length_map, List.length_take]
        omega
      · rw [List.take_add_one, e, List.map_append]
        rfl
  · obtain ⟨rfl, rfl⟩ := hI
    rw [List.length_map, List.take_length]
    exact hk
/-- over the signs of a text -/
theorem wp_mapS {j : Nat} {f : Nat → PyData} (h : EvN q tl Γ c fun x c1 => ∃ s : Str, x = .d (.str s) ∧ s.length ≤ 100000 ∧ (∀ n, n ∈ s.cps.toList → EvN q te (Γ.set j (.ab (.d (.str ⟨#[n]⟩)))) c1 fun y c3 => y = .d (f n) ∧ c3 = c1) ∧ k (.d (.list (s.cps.toList.map f))) c1) :
    EvN q (tLc (iStr tl) (gName j) tYes te [j]) Γ c k := by
  intro B H σ Q S kk
  refine h B H σ _ S fun x c1 v B1 H1 h1 g1 S1 r1 => ?_
  obtain ⟨s, rfl, hl, ht, hk⟩ := h1
  cases r1
  refine ⟨s, rfl, fun Da hD => lc_it (walk_str (z := s)) (fun i H' => Cv q Γ B1 H1 σ Da (fun acc c' => acc = (s.cps.toList.take i).map f ∧ c' = c1) H') (cv_start S1 hD ⟨rfl, rfl⟩) (fun _ _ _ _ => trivial) (fun i y H' H2 hi hp hy => ?_) (fun H' hp => ?_)⟩
  · obtain ⟨rfl, n, hn, rfl⟩ := hy
    have hn' : s.cps.toList[i]? = some n := by simpa using hn
    refine cv_turn (d := .str ⟨#[n]⟩) (I' := fun acc c' => acc = (s.cps.toList.take (i + 1)).map f ∧ c' = c1) hD hp (.str _) fun acc c' hI => ?_
    obtain ⟨rfl, rfl⟩ := hI
    refine wt_yes ⟨fun _ => ?_, fun z => nomatch z⟩
    refine (ht n (List.mem_of_getElem? hn')).imp fun y c3 hy => ?_
    obtain ⟨rfl, rfl⟩ := hy
    have h5 : i < s.length := hi
    refine ⟨_, rfl, ?_, ?_, rfl⟩
    · rw [List.length_map, List.length_take]
      omega
    · rw [List.take_add_one, hn', List.map_append]
      rfl
  · refine cv_end hD hp (fun acc c' hI => ?_) fun y c' v B' H2 h5 g5 S5 r5 => kk y c' v B' H2 h5 (g1.trans g5) S5 r5
    obtain ⟨rfl, rfl⟩ := hI
    have e : s.cps.toList.take s.cps.size = s.cps.toList := List.take_of_length_le (by simp)
    rw [e]
    exact hk
/-- with a test -/
theorem wp_filTI {j : Nat} {tt : TT} {p : Int → Bool} {f : Int → PyData} (h : EvN q tl Γ c fun x c1 => ∃ ns : List Int, x = .d (.tuple (ns.map .int)) ∧ ns.length ≤ 100000 ∧ (∀ n, n ∈ ns → EvT q tt (Γ.set j (.ab (.d (.int n)))) c1 fun b c2 => b = p n ∧ c2 = c1) ∧
    (∀ n, n ∈ ns → p n = true → EvN q te (Γ.set j (.ab (.d (.int n)))) c1 fun y c3 => y = .d (f n) ∧ c3 = c1) ∧ k (.d (.list ((ns.filter p).map f))) c1) :
    EvN q (tLc (iTup q.K tl) (gName j) tt te [j]) Γ c k := by
  refine wp_lcT (h.imp fun x c1 h1 => ?_)
  obtain ⟨ns, rfl, hl, ht, he, hk⟩ := h1
  refine ⟨_, rfl, fun i acc c' => acc = ((ns.take i).filter p).map f ∧ c' = c1, ⟨rfl, rfl⟩, fun i d acc c' hd hI => ?_, fun acc c' hI => ?_⟩
  · obtain ⟨rfl, rfl⟩ := hI
    rw [List.getElem?_map] at hd
    cases e : ns[i]? with
    | none => rw [e] at hd; cases hd
    | some n =>
      rw [e] at hd
      cases hd
      have hn := List.mem_of_getElem? e
      have e2 : (ns.take (i + 1)).filter p = (ns.take i).filter p ++ [n].filter p := by rw [List.take_add_one, e, List.filter_append]; rfl
      intro B H σ Q S kk
      refine ht n hn B H σ Q S fun b c2 B2 H2 hb g S2 => kk b c2 B2 H2 ?_ g S2
      obtain ⟨rfl, rfl⟩ := hb
      refine ⟨fun hp => (he n hn hp).imp fun y c3 hy => ?_, fun hp => ?_⟩
      · obtain ⟨rfl, rfl⟩ := hy
        refine ⟨_, rfl, ?_, ?_, rfl⟩
        · rw [List.length_map]
          have h1 := List.length_filter_le p (ns.take i)
          have h2 := (List.getElem?_eq_some_iff.mp e).1
          rw [List.length_take] at h1
          omega
        · rw [e2, List.map_append, List.filter_cons, if_pos hp]
          rfl
      · refine ⟨?_, rfl⟩
        rw [e2, List.filter_cons, if_neg (by rw [hp]; exact Bool.false_ne_true), List.filter_nil, List.append_nil]
  · obtain ⟨rfl, rfl⟩ := hI
    rw [List.length_map, List.take_length]
    exact hk
end
end Kt
/-! Comparisons whose answer is known. -/
namespace Kt
open PySem PySem.Spec PyProof.Rows L2
section
variable {K : PySem.W.Frag} {k : Ab → Prop}
theorem rn_ibK {g : Int → Int → Bool} {i j : Int} {b : Bool} (h : g i j = b) (hk : k (.d (.bool b))) : RN K (rI0 fun i j => V.bl (g i j)) (.d (.int i)) (.d (.int j)) k := rn_ib (by rw [h]; exact hk)
theorem rn_eqIK {i j : Int} {b : Bool} (h : decide (i = j) = b) (hk : k (.d (.bool b))) : RN K rEq (.d (.int i)) (.d (.int j)) k := rn_eqI (by rw [h]; exact hk)
theorem rn_neIK {i j : Int} {b : Bool} (h : decide (i = j) = b) (hk : k (.d (.bool (!b)))) : RN K rNe (.d (.int i)) (.d (.int j)) k := rn_neI (by rw [h]; exact hk)
theorem rn_eqSK {i j : Str} {b : Bool} (h : decide (i = j) = b) (hk : k (.d (.bool b))) : RN K rEq (.d (.str i)) (.d (.str j)) k := rn_eqS (by rw [h]; exact hk)
theorem rn_neSK {i j : Str} {b : Bool} (h : decide (i = j) = b) (hk : k (.d (.bool (!b)))) : RN K rNe (.d (.str i)) (.d (.str j)) k := rn_neS (by rw [h]; exact hk)
theorem rn_inTK {neg : Bool} {s : Str} {ss : List Str} {b : Bool} (h : decide (s ∈ ss) = b) (hk : k (.d (.bool (if neg then !b else b)))) : RN K (rIn K neg) (.d (.str s)) (.d (.tuple (ss.map .str))) k := rn_inT (by rw [h]; exact hk)
theorem rn_inLK {neg : Bool} {s : Str} {ss : List Str} {b : Bool} (h : decide (s ∈ ss) = b) (hk : k (.d (.bool (if neg then !b else b)))) : RN K (rIn K neg) (.d (.str s)) (.d (.list (ss.map .str))) k := rn_inL (by rw [h]; exact hk)
/-- a written tuple, a written list of texts -/
theorem rn_inTW {neg : Bool} {s : Str} {ds : List PyData} (ss : List Str) (e : ds = ss.map .str) {b : Bool} (h : decide (s ∈ ss) = b) (hk : k (.d (.bool (if neg then !b else b)))) : RN K (rIn K neg) (.d (.str s)) (.d (.tuple ds)) k := by
  subst e
  exact rn_inTK h hk
theorem rn_inLW {neg : Bool} {s : Str} {ds : List PyData} (ss : List Str) (e : ds = ss.map .str) {b : Bool} (h : decide (s ∈ ss) = b) (hk : k (.d (.bool (if neg then !b else b)))) : RN K (rIn K neg) (.d (.str s)) (.d (.list ds)) k := by
  subst e
  exact rn_inLK h hk
theorem rm_startsK {a b : Str} {r : Bool} (h : Txt.startswith a b = r) (hk : k (.d (.bool r))) : RM K (fun x xs H Q => ∃ a b, x = .str a ∧ xs = [.str b] ∧ Q (.bl (Txt.startswith a b)) H) (.d (.str a)) [.d (.str b)] k := rm_starts (by rw [h]; exact hk)
theorem rm_rmpreK {a b s : Str} (h : Txt.removeprefix a b = s) (hl : a.length ≤ 100000) (hk : k (.d (.str s))) : RM K (fun x xs H Q => ∃ a b, x = .str a ∧ xs = [.str b] ∧ a.length ≤ sizeLine ∧ Q (.str (Txt.removeprefix a b)) H) (.d (.str a)) [.d (.str b)] k := rm_rmpre hl (by rw [h]; exact hk)
theorem rm_splitK {a b : Str} {ss : List Str} (h : Txt.split a b = ss) (hb : (b.length == 0) = false) (hl : a.length + 2 ≤ 100000) (hk : k (.d (.list (ss.map .str)))) :
    RM K (fun x xs H Q => ∃ a b, x = .str a ∧ xs = [.str b] ∧ (b.length == 0) = false ∧ a.length + 2 ≤ sizeLine ∧ rNewStrs (Txt.split a b) H Q) (.d (.str a)) [.d (.str b)] k := rm_split hb hl (by rw [h]; exact hk)
theorem rm_partK {a b x y z : Str} (h : Txt.partition a b = (x, y, z)) (hb : (b.length == 0) = false) (hl : a.length ≤ 100000) (hk : k (.d (.tuple [.str x, .str y, .str z]))) :
    RM K (fun x xs H Q => ∃ a b, x = .str a ∧ xs = [.str b] ∧ (b.length == 0) = false ∧ a.length ≤ sizeLine ∧ ∀ p, H p = none → Q (.ref p) (upd H p (.tup [.str (Txt.partition a b).1, .str (Txt.partition a b).2.1, .str (Txt.partition a b).2.2]))) (.d (.str a)) [.d (.str b)] k :=
  rm_part hb hl (by rw [h]; exact hk)
theorem rn_eqDK {d e : PyData} {b : Bool} (sd : SeqAt.shaped d = true) (se : SeqAt.shaped e = true) (h : PyData.eqv d e = b) (hk : k (.d (.bool b))) : RN K (rEqD K) (.d d) (.d e) k := rn_eqD sd se (by rw [h]; exact hk)
theorem rn_neDK {d e : PyData} {b : Bool} (sd : SeqAt.shaped d = true) (se : SeqAt.shaped e = true) (h : PyData.eqv d e = b) (hk : k (.d (.bool (!b)))) : RN K (rNeD K) (.d d) (.d e) k := rn_neD sd se (by rw [h]; exact hk)
theorem rn_ixLn {ds : List PyData} {i : Nat} {d : PyData} (e : ds[i]? = some d) (hk : k (.d d)) : RN K (rIxL K) (.d (.list ds)) (.d (.int (i : Nat))) k := rn_ixL (atI_nat e) hk
theorem rn_ixTn {ds : List PyData} {i : Nat} {d : PyData} (e : ds[i]? = some d) (hk : k (.d d)) : RN K (rIxT K) (.d (.tuple ds)) (.d (.int (i : Nat))) k := rn_ixT (atI_nat e) hk
theorem wr_own0 {q : Cq} {Γ : List En} {c : Nat} {A : AE} {i : Nat} (h : A.nx (Γ.set i (.own [])) c) : RunN q (tAsg (tLst tNil) (gName i)) Γ c A := wr_own (wa_nil ⟨[], rfl, by decide, h⟩)
theorem take_snoc {α β : Type} (f : α → β) {as : List α} {i : Nat} {a : α} (h : as[i]? = some a) : (as.take (i + 1)).map f = (as.take i).map f ++ [f a] := by
  rw [List.take_add_one, h, List.map_append]
  rfl
/-! what a goal is, for the stepper -/
theorem isN {q : Cq} {te : TE} {Γ : List En} {c : Nat} {k : Ab → Nat → Prop} (h : EvN q te Γ c k) : EvN q te Γ c k := h
theorem isA {q : Cq} {te : TA} {Γ : List En} {c : Nat} {k : List Ab → Nat → Prop} (h : EvA q te Γ c k) : EvA q te Γ c k := h
theorem isT {q : Cq} {te : TT} {Γ : List En} {c : Nat} {k : Bool → Nat → Prop} (h : EvT q te Γ c k) : EvT q te Γ c k := h
theorem isO {q : Cq} {te : TO} {Γ : List En} {c : Nat} {k : Option Int → Nat → Prop} (h : EvO q te Γ c k) : EvO q te Γ c k := h
theorem isS {q : Cq} {ts : TS} {Γ : List En} {c : Nat} {A : AE} (h : RunN q ts Γ c A) : RunN q ts Γ c A := h
theorem isRN {r : R2} {x y : Ab} (h : RN K r x y k) : RN K r x y k := h
theorem isRC {r : List V → Hp → VK → Prop} {xs : List Ab} (h : RC K r xs k) : RC K r xs k := h
theorem isRU {r : V → Hp → VK → Prop} {x : Ab} (h : RU K r x k) : RU K r x k := h
theorem isOpV {q : Cq} {r : R2} {ta : TE} {i : Nat} {Γ : List En} {c : Nat} {k : Ab → Nat → Prop} (h : EvN q (tOp r ta (tVar i)) Γ c k) : EvN q (tOp r ta (tVar i)) Γ c k := h
theorem isOpL {q : Cq} {r : R2} {ta : TE} {i : Nat} {Γ : List En} {c : Nat} {k : Ab → Nat → Prop} (h : EvN q (tOp r (tVar i) ta) Γ c k) : EvN q (tOp r (tVar i) ta) Γ c k := h
theorem isCB1 {q : Cq} {r : List V → Hp → VK → Prop} {i : Nat} {Γ : List En} {c : Nat} {k : Ab → Nat → Prop} (h : EvN q (tCB r (tCons (tVar i) tNil)) Γ c k) : EvN q (tCB r (tCons (tVar i) tNil)) Γ c k := h
theorem isCB2 {q : Cq} {r : List V → Hp → VK → Prop} {ta tb : TE} {Γ : List En} {c : Nat} {k : Ab → Nat → Prop} (h : EvN q (tCB r (tCons ta (tCons tb tNil))) Γ c k) : EvN q (tCB r (tCons ta (tCons tb tNil))) Γ c k := h
theorem isFld {q : Cq} {K : PySem.W.Frag} {ta : TE} {f : Str} {Γ : List En} {c : Nat} {k : Ab → Nat → Prop} (h : EvN q (tFld K ta f) Γ c k) : EvN q (tFld K ta f) Γ c k := h
theorem isBM {q : Cq} {K : PySem.W.Frag} {T : String} {r : V → List V → Hp → VK → Prop} {to : TE} {t : TA} {Γ : List En} {c : Nat} {k : Ab → Nat → Prop} (h : EvN q (tBM K T r to t) Γ c k) : EvN q (tBM K T r to t) Γ c k := h
theorem isCall {q : Cq} {sp : Sp} {dvs : List V} {E : XK} {t : TA} {Γ : List En} {c : Nat} {k : Ab → Nat → Prop} (h : EvN q (tCall sp dvs E t) Γ c k) : EvN q (tCall sp dvs E t) Γ c k := h
theorem isAsg {q : Cq} {te : TE} {g : TG} {Γ : List En} {c : Nat} {A : AE} (h : RunN q (tAsg te g) Γ c A) : RunN q (tAsg te g) Γ c A := h
theorem isVar {q : Cq} {i : Nat} {Γ : List En} {c : Nat} {k : Ab → Nat → Prop} (h : EvN q (tVar i) Γ c k) : EvN q (tVar i) Γ c k := h
theorem isRI0 {f : Int → Int → V} {x y : Ab} (h : RN K (rI0 f) x y k) : RN K (rI0 f) x y k := h
theorem isREq {x y : Ab} (h : RN K rEq x y k) : RN K rEq x y k := h
theorem isRNe {x y : Ab} (h : RN K rNe x y k) : RN K rNe x y k := h
theorem isIxL {K' : PySem.W.Frag} {x y : Ab} (h : RN K (rIxL K') x y k) : RN K (rIxL K') x y k := h
theorem isIxT {K' : PySem.W.Frag} {x y : Ab} (h : RN K (rIxT K') x y k) : RN K (rIxT K') x y k := h
theorem isRIn {K' : PySem.W.Frag} {b : Bool} {x y : Ab} (h : RN K (rIn K' b) x y k) : RN K (rIn K' b) x y k := h
theorem isIte {b : Bool} {P R : Prop} (h : (b = true → P) ∧ (b = false → R)) : (b = true → P) ∧ (b = false → R) := h
theorem isEx {α : Sort _} {P : α → Prop} (h : ∃ x, P x) : ∃ x, P x := h
theorem isDropCall {q : Cq} {sp : Sp} {dvs : List V} {E : XK} {t : TA} {Γ : List En} {c : Nat} {A : AE} (h : RunN q (tDrop (tCall sp dvs E t)) Γ c A) : RunN q (tDrop (tCall sp dvs E t)) Γ c A := h
theorem isProp {q : Cq} {C : Addr} {sp : Sp} {dvs : List V} {E : XK} {ta : TE} {Γ : List En} {c : Nat} {k : Ab → Nat → Prop} (h : EvN q (tProp C sp dvs E ta) Γ c k) : EvN q (tProp C sp dvs E ta) Γ c k := h
theorem isMake {q : Cq} {C : Addr} {sp : Sp} {dvs : List V} {E : XK} {t : TA} {Γ : List En} {c : Nat} {k : Ab → Nat → Prop} (h : EvN q (tMake C sp dvs E t) Γ c k) : EvN q (tMake C sp dvs E t) Γ c k := h
theorem isMeth {q : Cq} {C : Addr} {m : Str} {sp : Sp} {dvs : List V} {E : XK} {ta : TE} {t : TA} {Γ : List En} {c : Nat} {k : Ab → Nat → Prop} (h : EvN q (tMeth C m sp dvs E ta t) Γ c k) : EvN q (tMeth C m sp dvs E ta t) Γ c k := h
theorem isParOwn {q : Cq} {i j : Nat} {te : TE} {Γ : List En} {c : Nat} {A : AE} (h : RunN q (tPar i j (tCons te (tCons (tLst tNil) tNil))) Γ c A) : RunN q (tPar i j (tCons te (tCons (tLst tNil) tNil))) Γ c A := h
theorem rn_ixT0 {d : PyData} {ds : List PyData} (hk : k (.d d)) : RN K (rIxT K) (.d (.tuple (d :: ds))) (.d (.int 0)) k := rn_ixT (atI_nat (j := 0) rfl) hk
theorem rn_ixT1 {d e : PyData} {ds : List PyData} (hk : k (.d e)) : RN K (rIxT K) (.d (.tuple (d :: e :: ds))) (.d (.int 1)) k := rn_ixT (atI_nat (j := 1) rfl) hk
theorem RunN.imp {q : Cq} {ts : TS} {Γ : List En} {c : Nat} {A : AE} (N : List En → Nat → Prop) (h : RunN q ts Γ c ⟨N, A.rt, A.bk, A.ct⟩) (hn : ∀ Γ c, N Γ c → A.nx Γ c) : RunN q ts Γ c A := fun B H σ D S L =>
  h B H σ D S ⟨fun Γ1 c1 σ1 B1 H1 h1 e1 S1 => L.nx Γ1 c1 σ1 B1 H1 (hn Γ1 c1 h1) e1 S1, L.rt, L.bk, L.ct⟩
end
end Kt
/-! What each def promises, over data. -/
namespace Kt
open PySem PySem.Spec PyProof.Rows L2
/-! ### texts, conditions, rows, programs -/
def evW : List Str := ["put", "take", "move", "ask"]
def figS (n : Nat) : Str := ⟨#[48 + n]⟩
structure WordOk (s : Str) : Prop where
  lo : 1 ≤ s.length
  hi : s.length ≤ 8
  ch : ∀ x, x ∈ s.cps.toList → 97 ≤ x ∧ x ≤ 122
structure ModeOk (s : Str) : Prop where
  w : WordOk s
  na : s ≠ "and"
inductive CK where
  | full | whole | above
  | few (n : Nat)
  | inn (m : Str)
structure Cnd where
  k : CK
  pos : Bool
def CK.word : CK → Str
  | .full => "full"
  | .whole => "whole"
  | .above => "above"
  | .few _ => "few"
  | .inn _ => "in"
def CK.part : CK → PyData
  | .few n => .int n
  | .inn m => .str m
  | _ => .int 0
def CK.text : CK → Str
  | .few n => "few" ++ " " ++ figS n
  | .inn m => "in" ++ " " ++ m
  | c => c.word
def Cnd.data (c : Cnd) : PyData := .tuple [.str c.k.word, c.k.part, .bool c.pos]
def Cnd.text (c : Cnd) : Str := (if c.pos then "" else "not ") ++ c.k.text
inductive Oc where
  | put | loss | ask
deriving DecidableEq
def Oc.s : Oc → Str
  | .put => "put"
  | .loss => "loss"
  | .ask => "ask"
def CK.ok (o : Oc) (ms : List Str) : CK → Prop
  | .above => o = .put
  | .few n => n ≤ 3
  | .inn m => m ∈ ms
  | _ => True
inductive Dd where
  | keep | skip
  | read (n : Nat)
def Dd.word : Dd → Str
  | .keep => "keep"
  | .skip => "skip"
  | .read _ => "read"
def Dd.count : Dd → Nat
  | .read n => n
  | _ => 0
def Dd.data (d : Dd) : PyData := .tuple [.str d.word, .int d.count]
def Dd.text : Dd → Str
  | .read n => "read" ++ " " ++ figS n
  | d => d.word
def Dd.ok (room : Nat) (o : Oc) : Dd → Prop
  | .read n => 1 ≤ n ∧ n ≤ room
  | _ => o = .put
def goalData (m : Str) : PyData := .tuple [.str "mode", .str m]
def goalText (m : Str) : Str := "mode" ++ " " ++ m
/-- a drawn row: with a first deed (and a goal or none), or with a goal alone -/
inductive Ds where
  | one (d : Dd)
  | two (d : Dd) (m : Str)
  | goal (m : Str)
structure Act where
  o : Oc
  cs : List Cnd
  ds : Ds
def Ds.datas : Ds → List PyData
  | .one d => [d.data]
  | .two d m => [d.data, goalData m]
  | .goal m => [goalData m]
def Ds.texts : Ds → List Str
  | .one d => [d.text]
  | .two d m => [d.text, goalText m]
  | .goal m => [goalText m]
def Ds.word : Ds → Str
  | .one d => d.word
  | .two d _ => d.word
  | .goal _ => ""
def Ds.count : Ds → Nat
  | .one d => d.count
  | .two d _ => d.count
  | .goal _ => 0
def Ds.to : Ds → Str
  | .one _ => ""
  | .two _ m => m
  | .goal m => m
def Ds.ok (room : Nat) (ms : List Str) (o : Oc) : Ds → Prop
  | .one d => d.ok room o
  | .two d m => d.ok room o ∧ m ∈ ms
  | .goal m => o ≠ .put ∧ m ∈ ms
structure Act.ok (room : Nat) (ms : List Str) (a : Act) : Prop where
  few : a.cs.length ≤ 2
  cs : ∀ c, c ∈ a.cs → c.k.ok a.o ms
  ds : a.ds.ok room ms a.o
def Act.data (a : Act) : PyData := .tuple [.str a.o.s, .list (a.cs.map Cnd.data), .list a.ds.datas]
def Act.head (a : Act) : Str := if a.cs = [] then a.o.s else a.o.s ++ " if " ++ Txt.join " and " (a.cs.map Cnd.text)
def Act.tail (a : Act) : Str := Txt.join ", " a.ds.texts
def Act.text (a : Act) : Str := a.head ++ ": " ++ a.tail
def Act.row (a : Act) : PyData := .tuple [.str a.o.s, .tuple (a.cs.map Cnd.data), .str a.ds.word, .int a.ds.count, .str a.ds.to]
structure PD where
  room : Nat
  want : Nat
  ms : List Str
  acts : List Act
structure ModesOk (ms : List Str) : Prop where
  lo : 1 ≤ ms.length
  hi : ms.length ≤ 3
  ok : ∀ m, m ∈ ms → ModeOk m
  nd : ms.Nodup
structure PD.ok (p : PD) : Prop where
  w1 : 1 ≤ p.want
  w2 : p.want ≤ p.room
  r4 : p.room ≤ 4
  ms : ModesOk p.ms
  few : p.acts.length ≤ 12
  acts : ∀ a, a ∈ p.acts → a.ok p.room p.ms
def PD.g (p : PD) : ProgD := ⟨.tuple (p.acts.map Act.row), p.room, p.want, .tuple (p.ms.map .str), .tuple ((p.acts.map Act.text).map .str)⟩
def PD.parts (p : PD) : PyData := .list [.int p.room, .int p.want, .list (p.ms.map .str), .list (p.acts.map Act.data)]
def PD.line (p : PD) : Str := Str.empty ++ "room " ++ toString (p.room : Int) ++ ", wants " ++ toString (p.want : Int) ++ ", modes " ++ Txt.join " " p.ms
def PD.text (p : PD) : Str := Txt.join "\n" ([p.line] ++ p.acts.map Act.text)
/-! ### states -/
structure Stt where
  mode : Str
  size : Int
  kept : List Int
def Stt.data (s : Stt) : PyData := .tuple [.str s.mode, .int s.size, .tuple (s.kept.map .int)]
structure Stt.ok (p : PD) (s : Stt) : Prop where
  s0 : 0 ≤ s.size
  k4 : s.kept.length ≤ 4
  m : s.mode ∈ p.ms
def pairD (x : Stt × List Int) : PyData := .tuple [x.1.data, .tuple (x.2.map .int)]
def CK.h (places : Nat) (mode : Str) (kept : Nat) (whole above : Bool) : CK → Bool
  | .inn m => decide (mode = m)
  | .full => decide ((kept : Int) = (places : Int))
  | .few n => decide ((kept : Int) ≤ (n : Int))
  | .whole => whole
  | .above => above
def Cnd.h (places : Nat) (mode : Str) (kept : Nat) (whole above : Bool) (c : Cnd) : Bool := decide (c.k.h places mode kept whole above = c.pos)
def Act.fits (places : Nat) (o : Oc) (mode : Str) (kept : Nat) (whole above : Bool) (a : Act) : Bool := decide (a.o = o) && (a.cs.map (Cnd.h places mode kept whole above)).all id
/-- the first row that fits -/
def firstFit (f : Act → Bool) : List Act → Nat → Option Nat
  | [], _ => none
  | a :: r, i => if f a then some i else firstFit f r (i + 1)
def PD.rowOf (p : PD) (o : Oc) (mode : Str) (kept : Nat) (whole above : Bool) : Option Nat := firstFit (Act.fits p.room o mode kept whole above) p.acts 0
structure De where
  word : Str
  count : Nat
  mode : Str
def De.data (d : De) : PyData := .tuple [.str d.word, .int d.count, .str d.mode]
def PD.deed (p : PD) (o : Oc) (mode : Str) (kept : Nat) (whole above : Bool) : De :=
  match p.rowOf o mode kept whole above with
  | none => ⟨if o = .put then "skip" else "", 0, mode⟩
  | some i => match p.acts[i]? with
    | none => ⟨"", 0, mode⟩
    | some a => ⟨a.ds.word, a.ds.count, if a.ds.to.length = 0 then mode else a.ds.to⟩
def upto' (n : Nat) : List Int := (List.range n).map Int.ofNat
def rdF (mode : Str) (size : Int) (count : Nat) : Stt × List Int :=
  let many : Nat := (if size < (count : Int) then size else (count : Int)).toNat
  (⟨mode, size, upto' many⟩, [(many : Int)])
def aboveF (kept : List Int) (rank : Int) : Bool := match kept.getLast? with
  | none => true
  | some z => decide (z < rank)
def insI (x : Int) : List Int → List Int
  | [] => [x]
  | y :: r => if x ≤ y then x :: y :: r else y :: insI x r
def sortI : List Int → List Int
  | [] => []
  | x :: r => insI x (sortI r)
def upF (rank : Int) (kept : List Int) : List Int := kept.map fun old => if old ≥ rank then old + 1 else old
def downF (rank : Int) (kept : List Int) : List Int := (kept.filter fun old => decide (old ≠ rank)).map fun old => if old > rank then old - 1 else old
def putF (p : PD) (s : Stt) (rank : Int) : Stt × List Int :=
  let d := p.deed .put s.mode s.kept.length (decide ((s.kept.length : Int) = s.size)) (aboveF s.kept rank)
  if d.word = "read" then rdF d.mode (s.size + 1) d.count
  else (⟨d.mode, s.size + 1, if d.word = "keep" then (sortI (upF rank s.kept ++ [rank])).take p.room else upF rank s.kept⟩, [])
def takeF (p : PD) (s : Stt) (rank : Int) : Stt × List Int :=
  if rank ∈ s.kept then
    let d := p.deed .loss s.mode (downF rank s.kept).length (decide (((downF rank s.kept).length : Int) = s.size - 1)) false
    if d.word = "read" then rdF d.mode (s.size - 1) d.count else (⟨d.mode, s.size - 1, downF rank s.kept⟩, [])
  else (⟨s.mode, s.size - 1, downF rank s.kept⟩, [])
def askF (p : PD) (s : Stt) : Stt × List Int :=
  let d := p.deed .ask s.mode s.kept.length (decide ((s.kept.length : Int) = s.size)) false
  if d.word = "read" then rdF d.mode s.size d.count else (⟨d.mode, s.size, s.kept⟩, [])
inductive Ev where
  | put (r : Int) | take (r : Int) | move (a b : Int) | ask
def Ev.data : Ev → PyData
  | .put r => .tuple [.str "put", .int r]
  | .take r => .tuple [.str "take", .int r]
  | .move a b => .tuple [.str "move", .int a, .int b]
  | .ask => .tuple [.str "ask"]
def Ev.word : Ev → Str
  | .put _ => "put"
  | .take _ => "take"
  | .move _ _ => "move"
  | .ask => "ask"
def Ev.ix : Ev → Nat
  | .put _ => 0
  | .take _ => 1
  | .move _ _ => 2
  | .ask => 3
def Ev.ok (n : Int) : Ev → Prop
  | .put r => 0 ≤ r ∧ r < n + 1
  | .take r => 0 ≤ r ∧ r < n
  | .move a b => 0 ≤ a ∧ a < n ∧ 0 ≤ b ∧ b < n
  | .ask => True
def Ev.next (n : Int) : Ev → Int
  | .put _ => n + 1
  | .take _ => n - 1
  | _ => n
def EvsOk : Int → List Ev → Prop
  | _, [] => True
  | n, e :: r => e.ok n ∧ EvsOk (e.next n) r
def stepF (p : PD) (s : Stt) : Ev → Stt × List Int
  | .ask => askF p s
  | .put r => putF p s r
  | .take r => takeF p s r
  | .move a b =>
    let t := takeF p s a
    let u := putF p t.1 b
    (u.1, t.2 ++ u.2)
def runF (p : PD) : Stt × List Int → List Ev → Stt × List Int
  | x, [] => x
  | x, e :: r => runF p ((stepF p x.1 e).1, x.2 ++ (stepF p x.1 e).2) r
def PD.init (p : PD) (n : Int) : Stt := ⟨p.ms.headD "", n, []⟩
def histD (n : Int) (es : List Ev) : PyData := .tuple [.int n, .tuple (es.map Ev.data)]
def getI (ps : List Int) (i : Nat) : Int := ps.getD i 0
structure PricesOk (ps : List Int) : Prop where
  six : ps.length = 6
  pos : ∀ x, x ∈ ps → 0 ≤ x
def paidF (ps : List Int) (es : List Ev) : Int := (es.map fun e => getI ps e.ix).sum
def readsF (ps : List Int) (cs : List Int) : Int := (cs.map fun n => getI ps 4 + getI ps 5 * n).sum
def priceD (ps : List Int) (es : List Ev) (cs : List Int) : PyData := .tuple [.int (paidF ps es), .int (readsF ps cs)]
/-! ### promises -/
abbrev WF := List Ab → (Ab → Prop) → Prop
abbrev WP := List Ab → Nat → (Ab → Nat → Prop) → Prop
def W_is_integer : WF := fun xs k => ∃ i : Int, xs = [.d (.int i)] ∧ k (.d (.bool true))
def W_is_number : WF := fun xs k => ∃ i : Int, xs = [.d (.int i)] ∧ 0 ≤ i ∧ k (.d (.bool true))
def W_is_below : WF := fun xs k => ∃ i m : Int, xs = [.d (.int i), .d (.int m)] ∧ 0 ≤ i ∧ i < m ∧ k (.d (.bool true))
def W_check_between : WF := fun xs k => ∃ i l h : Int, xs = [.d (.int i), .d (.int l), .d (.int h)] ∧ l ≤ i ∧ i ≤ h ∧ k (.d .none)
def W_check_number : WF := fun xs k => ∃ i : Int, xs = [.d (.int i)] ∧ 0 ≤ i ∧ k (.d .none)
def W_are_prices : WF := fun xs k => ∃ ps : List Int, xs = [.d (.tuple (ps.map .int))] ∧ PricesOk ps ∧ k (.d (.bool true))
def W_check_prices : WF := fun xs k => ∃ ps : List Int, xs = [.d (.tuple (ps.map .int))] ∧ PricesOk ps ∧ k (.d .none)
def W_price_of_event : WF := fun xs k => ∃ (ps : List Int) (e : Ev), xs = [.d (.tuple (ps.map .int)), .d (.str e.word)] ∧ PricesOk ps ∧ k (.d (.int (getI ps e.ix)))
def W_price_of_reads : WF := fun xs k => ∃ ps cs : List Int, xs = [.d (.tuple (ps.map .int)), .d (.list (cs.map .int))] ∧ PricesOk ps ∧ cs.length ≤ 1000 ∧ (∀ n, n ∈ cs → 0 ≤ n ∧ n ≤ 4) ∧ k (.d (.int (readsF ps cs)))
def W_is_word : WF := fun xs k => ∃ s : Str, xs = [.d (.str s)] ∧ WordOk s ∧ k (.d (.bool true))
def W_is_mode : WF := fun xs k => ∃ s : Str, xs = [.d (.str s)] ∧ ModeOk s ∧ k (.d (.bool true))
def W_figure_in : WF := fun xs k => ∃ (n : Nat) (l h : Int), xs = [.d (.str (figS n)), .d (.int l), .d (.int h)] ∧ 0 ≤ l ∧ l ≤ n ∧ n ≤ h ∧ h ≤ 4 ∧ k (.d (.int n))
def W_condition_in : WF := fun xs k => ∃ (c : Cnd) (o : Oc) (ms : List Str), xs = [.d (.str c.text), .d (.str o.s), .d (.tuple (ms.map .str))] ∧ c.k.ok o ms ∧ ModesOk ms ∧ k (.d c.data)
def W_conditions_in : WF := fun xs k => ∃ (cs : List Cnd) (o : Oc) (ms : List Str), xs = [.d (.str (Txt.join " and " (cs.map Cnd.text))), .d (.str o.s), .d (.tuple (ms.map .str))] ∧ cs ≠ [] ∧ cs.length ≤ 2 ∧ (∀ c, c ∈ cs → c.k.ok o ms) ∧ ModesOk ms ∧ k (.d (.tuple (cs.map Cnd.data)))
def W_first_deed : WF := fun xs k => ∃ (d : Dd) (o : Oc) (room : Nat), xs = [.d (.str d.text), .d (.str o.s), .d (.int room)] ∧ d.ok room o ∧ room ≤ 4 ∧ k (.d d.data)
def W_mode_in : WF := fun xs k => ∃ (s : Str) (ms : List Str), xs = [.d (.str s), .d (.tuple (ms.map .str))] ∧ ModesOk ms ∧ ((∃ (room : Nat) (o : Oc) (d : Dd), s = d.text ∧ d.ok room o ∧ room ≤ 4 ∧ k (.d .none)) ∨ ∃ m, s = goalText m ∧ m ∈ ms ∧ k (.d (.str m)))
def W_deeds_in : WF := fun xs k => ∃ (ds : Ds) (o : Oc) (room : Nat) (ms : List Str), xs = [.d (.str (Txt.join ", " ds.texts)), .d (.str o.s), .d (.int room), .d (.tuple (ms.map .str))] ∧ ds.ok room ms o ∧ room ≤ 4 ∧ ModesOk ms ∧ k (.d (.tuple [.str ds.word, .int ds.count, .str ds.to]))
def W_row_in : WF := fun xs k => ∃ (a : Act) (room : Nat) (ms : List Str), xs = [.d (.str a.text), .d (.int room), .d (.tuple (ms.map .str))] ∧ a.ok room ms ∧ room ≤ 4 ∧ ModesOk ms ∧ k (.d a.row)
def W_check_modes : WF := fun xs k => ∃ ms : List Str, xs = [.d (.tuple (ms.map .str))] ∧ ModesOk ms ∧ k (.d .none)
def W_parts_of : WF := fun xs k => ∃ (as : List Act) (room : Nat) (ms : List Str), xs = [.d (.tuple ((as.map Act.text).map .str)), .d (.int room), .d (.tuple (ms.map .str))] ∧ as.length ≤ 12 ∧ (∀ a, a ∈ as → a.ok room ms) ∧ room ≤ 4 ∧ ModesOk ms ∧ k (.d (.tuple (as.map Act.row)))
def W_P_init : List Ab → Ab → Prop := fun xs y => ∃ p : PD, p.ok ∧ xs = [.d (.int p.room), .d (.int p.want), .d (.tuple (p.ms.map .str)), .d (.tuple ((p.acts.map Act.text).map .str))] ∧ y = .prog p.g
def W_P_modes : WF := fun xs k => ∃ p : PD, xs = [.prog p.g] ∧ k (.d (.tuple (p.ms.map .str)))
def W_P_str : WF := fun xs k => ∃ p : PD, xs = [.prog p.g] ∧ p.ok ∧ k (.d (.str p.text))
def W_P_eq : WF := fun xs k => ∃ p : PD, xs = [.prog p.g, .prog p.g] ∧ p.ok ∧ k (.d (.bool true))
def W_check_program : WF := fun xs k => ∃ p : PD, xs = [.prog p.g] ∧ k (.d .none)
def W_holds : WF := fun xs k => ∃ (c : Cnd) (p : PD) (mode : Str) (kept : Nat) (whole above : Bool), xs = [.d c.data, .prog p.g, .d (.str mode), .d (.int kept), .d (.bool whole), .d (.bool above)] ∧ k (.d (.bool (c.h p.room mode kept whole above)))
def optI : Option Nat → PyData
  | none => .none
  | some i => .int i
def W_row_of : WF := fun xs k => ∃ (p : PD) (o : Oc) (mode : Str) (kept : Nat) (whole above : Bool), xs = [.prog p.g, .d (.str o.s), .d (.str mode), .d (.int kept), .d (.bool whole), .d (.bool above)] ∧ p.ok ∧ k (.d (optI (p.rowOf o mode kept whole above)))
def W_deed_for : WF := fun xs k => ∃ (p : PD) (o : Oc) (mode : Str) (kept : Nat) (whole above : Bool), xs = [.prog p.g, .d (.str o.s), .d (.str mode), .d (.int kept), .d (.bool whole), .d (.bool above)] ∧ p.ok ∧ mode ∈ p.ms ∧ k (.d (p.deed o mode kept whole above).data)
def W_is_event : WF := fun xs k => ∃ (e : Ev) (n : Int), xs = [.d e.data, .d (.int n)] ∧ e.ok n ∧ k (.d (.bool true))
def W_check_event : WF := fun xs k => ∃ (e : Ev) (n : Int), xs = [.d e.data, .d (.int n)] ∧ e.ok n ∧ k (.d .none)
def W_read_state : WF := fun xs k => ∃ (mode : Str) (size : Int) (count : Nat), xs = [.d (.str mode), .d (.int size), .d (.int count)] ∧ 0 ≤ size ∧ count ≤ 4 ∧ k (.d (pairD (rdF mode size count)))
def W_put_state : WF := fun xs k => ∃ (p : PD) (s : Stt) (r : Int), xs = [.prog p.g, .d s.data, .d (.int r)] ∧ p.ok ∧ s.ok p ∧ k (.d (pairD (putF p s r)))
def W_take_state : WF := fun xs k => ∃ (p : PD) (s : Stt) (r : Int), xs = [.prog p.g, .d s.data, .d (.int r)] ∧ p.ok ∧ s.ok p ∧ 1 ≤ s.size ∧ k (.d (pairD (takeF p s r)))
def W_ask_state : WF := fun xs k => ∃ (p : PD) (s : Stt), xs = [.prog p.g, .d s.data] ∧ p.ok ∧ s.ok p ∧ k (.d (pairD (askF p s)))
def W_state_behind : WF := fun xs k => ∃ (p : PD) (s : Stt) (e : Ev), xs = [.prog p.g, .d s.data, .d e.data] ∧ p.ok ∧ s.ok p ∧ e.ok s.size ∧ k (.d (pairD (stepF p s e)))
def W_G_init : List Ab → Ab → Prop := fun xs y => ∃ (p : PD) (s : Stt), xs = [.prog p.g, .d s.data] ∧ y = .grp p.g s.data
def W_G_mode : WF := fun xs k => ∃ (p : PD) (s : Stt), xs = [.grp p.g s.data] ∧ k (.d (.str s.mode))
def W_G_size : WF := fun xs k => ∃ (p : PD) (s : Stt), xs = [.grp p.g s.data] ∧ k (.d (.int s.size))
def W_G_kept : WF := fun xs k => ∃ (p : PD) (s : Stt), xs = [.grp p.g s.data] ∧ k (.d (.tuple (s.kept.map .int)))
def W_G_eq : WF := fun xs k => ∃ (p : PD) (s : Stt), xs = [.grp p.g s.data, .grp p.g s.data] ∧ p.ok ∧ s.ok p ∧ k (.d (.bool true))
def W_G_after : WF := fun xs k => ∃ (p : PD) (s : Stt) (e : Ev), xs = [.grp p.g s.data, .d e.data] ∧ p.ok ∧ s.ok p ∧ e.ok s.size ∧ k (.grp p.g (stepF p s e).1.data)
def W_G_reads : WF := fun xs k => ∃ (p : PD) (s : Stt) (e : Ev), xs = [.grp p.g s.data, .d e.data] ∧ p.ok ∧ s.ok p ∧ e.ok s.size ∧ k (.d (.tuple ((stepF p s e).2.map .int)))
def W_begin : WF := fun xs k => ∃ (p : PD) (n : Int), xs = [.prog p.g, .d (.int n)] ∧ p.ok ∧ 0 ≤ n ∧ k (.grp p.g (p.init n).data)
def W_followed : WF := fun xs k => ∃ (p : PD) (n : Int) (es : List Ev), xs = [.prog p.g, .d (histD n es)] ∧ p.ok ∧ 0 ≤ n ∧ EvsOk n es ∧ es.length ≤ 100 ∧ k (.d (.tuple [(runF p (p.init n, []) es).1.data, .list ((runF p (p.init n, []) es).2.map .int)]))
def W_play : WF := fun xs k => ∃ (p : PD) (n : Int) (es : List Ev), xs = [.prog p.g, .d (histD n es)] ∧ p.ok ∧ 0 ≤ n ∧ EvsOk n es ∧ es.length ≤ 100 ∧ k (.grp p.g (runF p (p.init n, []) es).1.data)
def W_price_of : WF := fun xs k => ∃ (p : PD) (n : Int) (es : List Ev) (ps : List Int), xs = [.prog p.g, .d (histD n es), .d (.tuple (ps.map .int))] ∧ p.ok ∧ 0 ≤ n ∧ EvsOk n es ∧ es.length ≤ 100 ∧ PricesOk ps ∧ k (.d (priceD ps es (runF p (p.init n, []) es).2))
/-! ### the law's defs -/
def W_law_draw : WP := fun xs c k => ∃ m : Int, xs = [.d (.int m)] ∧ 0 < m ∧ m ≤ 1000000000 ∧ c ≤ 100000 ∧ ∀ d : Int, 0 ≤ d → d < m → k (.d (.int d)) (c + 1)
def W_law_one : WP := fun xs c k => ∃ ds : List PyData, xs = [.d (.list ds)] ∧ 0 < ds.length ∧ ds.length ≤ 1000 ∧ c ≤ 100000 ∧ ∀ d, d ∈ ds → k (.d d) (c + 1)
def W_law_tag : WP := fun xs c k => xs = [] ∧ c ≤ 5000 ∧ ∀ (s : Str) c', ModeOk s → c' ≤ c + 10 → k (.d (.str s)) c'
def W_law_tags : WP := fun xs c k => xs = [] ∧ c ≤ 4000 ∧ ∀ (ms : List Str) c', ModesOk ms → c' ≤ c + 40 → k (.d (.list (ms.map .str))) c'
def W_law_conds : WP := fun xs c k => ∃ (o : Oc) (ms : List Str), xs = [.d (.str o.s), .d (.list (ms.map .str)), .d (.int 2)] ∧ c ≤ 4000 ∧ ModesOk ms ∧ ∀ (cs : List Cnd) c', cs.length ≤ 2 → (∀ x : Cnd, x ∈ cs → x.k.ok o ms) → c' ≤ c + 10 → k (.d (.list (cs.map Cnd.data))) c'
def W_law_deeds : WP := fun xs c k => ∃ (o : Oc) (room : Nat) (ms : List Str), xs = [.d (.str o.s), .d (.int room), .d (.list (ms.map .str))] ∧ c ≤ 4000 ∧ 1 ≤ room ∧ room ≤ 4 ∧ ModesOk ms ∧ ∀ (ds : Ds) c', ds.ok room ms o → c' ≤ c + 10 → k (.d (.list ds.datas)) c'
def W_law_acts : WP := fun xs c k => ∃ (room : Nat) (ms : List Str) (n : Int), xs = [.d (.int room), .d (.list (ms.map .str)), .d (.int n), .d (.int 2)] ∧ c ≤ 2000 ∧ 1 ≤ room ∧ room ≤ 4 ∧ ModesOk ms ∧ 0 ≤ n ∧ n ≤ 12 ∧ ∀ (as : List Act) c', as.length ≤ 12 → (∀ a : Act, a ∈ as → a.ok room ms) → c' ≤ c + 300 → k (.d (.list (as.map Act.data))) c'
def W_law_parts : WP := fun xs c k => xs = [.d (.int 12), .d (.int 2)] ∧ c ≤ 1000 ∧ ∀ (p : PD) c', p.ok → c' ≤ c + 400 → k (.d p.parts) c'
def W_law_place : WP := fun xs c k => ∃ n : Int, xs = [.d (.int n)] ∧ 0 < n ∧ n ≤ 1000 ∧ c ≤ 5000 ∧ ∀ d : Int, 0 ≤ d → d < n → k (.d (.int d)) (c + 2)
def W_law_step : WP := fun xs c k => ∃ n : Int, xs = [.d (.int n)] ∧ 0 ≤ n ∧ n ≤ 500 ∧ c ≤ 4000 ∧ ∀ (e : Ev) c', e.ok n → c' ≤ c + 10 → k (.d (.tuple [e.data, .int (e.next n)])) c'
def W_law_steps : WP := fun xs c k => ∃ n : Int, xs = [.d (.int n), .d (.int 14)] ∧ 0 ≤ n ∧ n ≤ 10 ∧ c ≤ 3000 ∧ ∀ (es : List Ev) c', EvsOk n es → es.length ≤ 14 → c' ≤ c + 200 → k (.d (.list (es.map Ev.data))) c'
def W_law_prices : WP := fun xs c k => xs = [] ∧ c ≤ 4000 ∧ ∀ (ps : List Int) c', PricesOk ps → (∀ x, x ∈ ps → x ≤ 100000000000000000000) → c' ≤ c + 20 → k (.d (.tuple (ps.map .int))) c'
def W_law_words : WF := fun xs k => ∃ (w : Str) (x : PyData) (r : List PyData), xs = [.d (.tuple (.str w :: x :: r))] ∧ ((w ∈ (["few", "in", "read", "mode"] : List Str) ∧ w.length ≤ 100 ∧ ((∃ n : Nat, x = .int n ∧ n ≤ 4 ∧ k (.d (.str (w ++ " " ++ figS n)))) ∨ ∃ s : Str, x = .str s ∧ s.length ≤ 100 ∧ k (.d (.str (w ++ " " ++ s))))) ∨ (w ∉ (["few", "in", "read", "mode"] : List Str) ∧ k (.d (.str w))))
def W_law_line : WF := fun xs k => ∃ (a : Act) (room : Nat) (ms : List Str), xs = [.d a.data] ∧ a.ok room ms ∧ room ≤ 4 ∧ ModesOk ms ∧ k (.d (.str a.text))
def W_law_program : WF := fun xs k => ∃ p : PD, xs = [.d p.parts] ∧ p.ok ∧ k (.prog p.g)
def W_law_paid : WF := fun xs k => ∃ (es : List Ev) (cs ps : List Int), xs = [.d (.list (es.map Ev.data)), .d (.list (cs.map .int)), .d (.tuple (ps.map .int))] ∧ PricesOk ps ∧ es.length ≤ 100 ∧ cs.length ≤ 1000 ∧ (∀ n, n ∈ cs → 0 ≤ n ∧ n ≤ 4) ∧ k (.d (priceD ps es cs))
end Kt
/-! The drawn lines' texts. -/
namespace Kt
open PySem PySem.Spec PyProof.Rows L2
open PySem.Builtin PySem.Builtin.Str PySem.StrLaws TL
theorem jn (y : Str) (ps : List Str) : Txt.join y ps = Str.join y ps := glued_eq_join y ps
theorem tl_jn (y : Str) (ps : List Str) : tl (Txt.join y ps) = joinL (tl y) (ps.map tl) := by rw [jn, tl_join]
/-! ### startswith, removeprefix -/
theorem starts_pre (x y : Str) : Txt.startswith x y = pre (tl y) (tl x) := by
  unfold Txt.startswith
  rw [subAt_eq, List.drop_zero, len_tl y]
  cases h : pre (tl y) (tl x) with
  | false =>
    rw [Bool.and_eq_false_iff]
    exact .inr h
  | true =>
    have e : (tl x).take (tl y).length = tl y := eq_of_beq h
    have e1 := congrArg List.length e
    rw [List.length_take] at e1
    rw [Bool.and_eq_true]
    refine ⟨decide_eq_true ?_, h⟩
    rw [len_tl x]
    omega
theorem rm_app {y : Str} (s : Str) (hy : tl y ≠ []) : Txt.removeprefix (y ++ s) y = s := by
  unfold Txt.removeprefix
  have h : subAt (y ++ s) y 0 = true := by
    rw [subAt_eq, List.drop_zero, len_tl y]
    have := pre_self (tl y) (tl s)
    rw [← tl_append] at this
    exact this
  rw [if_pos h]
  unfold Txt.affix
  have hl : 0 < (tl y).length := List.length_pos_iff.mpr hy
  have e1 := len_tl y
  show (if ((y ++ s).length - y.length == (y ++ s).length) = true then y ++ s else strSub (y ++ s) y.length (y ++ s).length) = s
  rw [if_neg (by
    rw [PySem.Str.length_append]
    simp only [beq_iff_eq]
    omega)]
  refine ext_tl ?_
  rw [tl_strSub_end, tl_append, e1, List.drop_left]
theorem rm_no {x y : Str} (h : pre (tl y) (tl x) = false) : Txt.removeprefix x y = x := by
  unfold Txt.removeprefix
  have h : subAt x y 0 = false := by
    rw [subAt_eq, List.drop_zero, len_tl y]
    exact h
  rw [h]
  rfl
/-! ### no separator begins here -/
def NA (S p q : List Nat) : Prop := ∀ i, i < p.length → pre S ((p ++ q).drop i) = false
theorem NA.nil {S q : List Nat} : NA S [] q := fun i hi => absurd hi (Nat.not_lt_zero i)
theorem NA.app {S p p2 q : List Nat} (h1 : NA S p (p2 ++ q)) (h2 : NA S p2 q) : NA S (p ++ p2) q := fun i hi => by
  rw [List.append_assoc]
  by_cases h : i < p.length
  · exact h1 i h
  · rw [List.length_append] at hi
    have h3 := h2 (i - p.length) (by omega)
    rw [List.drop_append, List.drop_eq_nil_of_le (by omega), List.nil_append]
    exact h3
theorem NA.free {s : Nat} {S p q : List Nat} (h : s ∉ p) : NA (s :: S) p q := free_of h
def andL : List Nat := [32, 97, 110, 100, 32]
theorem NA.sp {w q : List Nat} (h : 32 ∉ w) (hw : w ≠ [97, 110, 100]) (hq : q = [] ∨ ∃ r, q = 32 :: r) : NA andL [32] (w ++ q) := fun i hi => by
  have e : i = 0 := by
    have : i < 1 := hi
    omega
  subst e
  show (([32] ++ (w ++ q)).take 5 == andL) = false
  rw [beq_eq_false_iff_ne]
  intro z
  have z2 : (w ++ q).take 4 = [97, 110, 100, 32] := by
    have : 32 :: (w ++ q).take 4 = andL := z
    injection this
  clear z hi
  match w, h, hw with
  | [], _, _ =>
    rcases hq with rfl | ⟨r, rfl⟩
    · cases z2
    · injection z2 with z3; cases z3
  | [a], _, _ =>
    rcases hq with rfl | ⟨r, rfl⟩
    · injection z2 with z3 z4; cases z4
    · injection z2 with z3 z4; injection z4 with z5; cases z5
  | [a, b], _, _ =>
    rcases hq with rfl | ⟨r, rfl⟩
    · injection z2 with z3 z4; injection z4 with z5 z6; cases z6
    · injection z2 with z3 z4; injection z4 with z5 z6; injection z6 with z7; cases z7
  | [a, b, c], _, hw =>
    injection z2 with z3 z4; injection z4 with z5 z6; injection z6 with z7 z8
    exact hw (by rw [z3, z5, z7])
  | a :: b :: c :: d :: r, h, _ =>
    injection z2 with z3 z4; injection z4 with z5 z6; injection z6 with z7 z8; injection z8 with z9
    exact h (by rw [z9]; simp)
def spJ : List (List Nat) → List Nat
  | [] => []
  | [w] => w
  | w :: v :: r => w ++ ([32] ++ spJ (v :: r))
theorem spJ_head {q : List Nat} (hq : q = [] ∨ ∃ r, q = 32 :: r) : ∀ (w : List Nat) (r : List (List Nat)), ∃ q', spJ (w :: r) ++ q = w ++ q' ∧ (q' = [] ∨ ∃ r, q' = 32 :: r)
  | w, [] => ⟨q, rfl, hq⟩
  | w, v :: r => ⟨32 :: (spJ (v :: r) ++ q), by show (w ++ ([32] ++ spJ (v :: r))) ++ q = _; rw [List.append_assoc, List.append_assoc]; rfl, .inr ⟨_, rfl⟩⟩
theorem NA.words {q : List Nat} (hq : q = [] ∨ ∃ r, q = 32 :: r) : ∀ (w : List Nat) (r : List (List Nat)), 32 ∉ w → (∀ v, v ∈ r → 32 ∉ v ∧ v ≠ [97, 110, 100]) → NA andL (spJ (w :: r)) q
  | w, [], h, _ => NA.free h
  | w, v :: r, h, h2 => by
    have hv := h2 v (by simp)
    refine NA.app (NA.free h) (NA.app ?_ (NA.words hq v r hv.1 fun x hx => h2 x (by simp [hx])))
    obtain ⟨q', e, hq'⟩ := spJ_head hq v r
    rw [e]
    exact NA.sp hv.1 hv.2 hq'
/-! ### modes -/
theorem ModeOk.free {m : Str} (h : ModeOk m) {n : Nat} (hn : n < 97) : n ∉ tl m := fun z => by
  have := (h.w.ch n z).1
  omega
theorem ModeOk.nand {m : Str} (h : ModeOk m) : tl m ≠ [97, 110, 100] := fun z => h.na (ext_tl z)
theorem mode_of {ms : List Str} (h : ModesOk ms) {m : Str} (hm : m ∈ ms) : ModeOk m := h.ok m hm
/-! ### conditions -/
def CK.ws : CK → List (List Nat)
  | .few n => [[102, 101, 119], [48 + n]]
  | .inn m => [[105, 110], tl m]
  | .full => [[102, 117, 108, 108]]
  | .whole => [[119, 104, 111, 108, 101]]
  | .above => [[97, 98, 111, 118, 101]]
def Cnd.ws (c : Cnd) : List (List Nat) := if c.pos then c.k.ws else [110, 111, 116] :: c.k.ws
theorem CK.tl_text (k : CK) : tl k.text = spJ k.ws := by
  cases k with
  | few n => rfl
  | inn m =>
    show tl ("in" ++ " " ++ m) = _
    rw [tl_append, tl_append]
    rfl
  | _ => rfl
theorem CK.ws_ne (k : CK) : ∃ w r, k.ws = w :: r := by cases k <;> exact ⟨_, _, rfl⟩
theorem Cnd.tl_text (c : Cnd) : tl c.text = spJ c.ws := by
  unfold Cnd.text Cnd.ws
  cases c.pos with
  | true =>
    show tl ("" ++ c.k.text) = _
    rw [tl_append, c.k.tl_text]
    rfl
  | false =>
    show tl ("not " ++ c.k.text) = _
    rw [tl_append, c.k.tl_text]
    obtain ⟨w, r, e⟩ := c.k.ws_ne
    show _ = spJ ([110, 111, 116] :: c.k.ws)
    rw [e]
    rfl
theorem CK.ws_free {k : CK} {o : Oc} {ms : List Str} (h : k.ok o ms) (hm : ModesOk ms) : ∀ w, w ∈ k.ws → (32 ∉ w ∧ 44 ∉ w ∧ 58 ∉ w) ∧ w ≠ [97, 110, 100] := by
  intro w hw
  cases k with
  | few n =>
    have hn : n ≤ 3 := h
    rcases (show w = [102, 101, 119] ∨ w = [48 + n] by simpa [CK.ws] using hw) with rfl | rfl
    · decide
    · refine ⟨⟨?_, ?_, ?_⟩, by simp⟩ <;> simp <;> omega
  | inn m =>
    have hm' := mode_of hm h
    rcases (show w = [105, 110] ∨ w = tl m by simpa [CK.ws] using hw) with rfl | rfl
    · decide
    · exact ⟨⟨hm'.free (by decide), hm'.free (by decide), hm'.free (by decide)⟩, hm'.nand⟩
  | full => rw [show w = [102, 117, 108, 108] by simpa [CK.ws] using hw]; decide
  | whole => rw [show w = [119, 104, 111, 108, 101] by simpa [CK.ws] using hw]; decide
  | above => rw [show w = [97, 98, 111, 118, 101] by simpa [CK.ws] using hw]; decide
theorem Cnd.ws_free {c : Cnd} {o : Oc} {ms : List Str} (h : c.k.ok o ms) (hm : ModesOk ms) : ∀ w, w ∈ c.ws → (32 ∉ w ∧ 44 ∉ w ∧ 58 ∉ w) ∧ w ≠ [97, 110, 100] := by
  intro w hw
  unfold Cnd.ws at hw
  split at hw
  · exact CK.ws_free h hm w hw
  · rcases List.mem_cons.mp hw with rfl | hw
    · decide
    · exact CK.ws_free h hm w hw
theorem Cnd.ws_ne (c : Cnd) : ∃ w r, c.ws = w :: r := by
  unfold Cnd.ws
  split
  · exact c.k.ws_ne
  · exact ⟨_, _, rfl⟩
theorem spJ_mem {n : Nat} (h32 : n ≠ 32) : ∀ {ws : List (List Nat)}, (∀ w, w ∈ ws → n ∉ w) → n ∉ spJ ws
  | [], _ => by simp [spJ]
  | [w], h => h w (by simp)
  | w :: v :: r, h => by
    show n ∉ w ++ ([32] ++ spJ (v :: r))
    rw [List.mem_append, List.mem_append]
    rintro (z | z | z)
    · exact h w (by simp) z
    · exact h32 (by simpa using z)
    · exact spJ_mem h32 (fun x hx => h x (by simp [hx])) z
/-! ### " and " -/
theorem NA.cnd {c : Cnd} {o : Oc} {ms : List Str} (h : c.k.ok o ms) (hm : ModesOk ms) {q : List Nat} (hq : q = [] ∨ ∃ r, q = 32 :: r) : NA andL (tl c.text) q := by
  obtain ⟨w, r, e⟩ := c.ws_ne
  have hf := Cnd.ws_free h hm
  rw [c.tl_text]
  rw [e] at hf ⊢
  exact NA.words hq w r (hf w (by simp)).1.1 fun v hv => ⟨(hf v (by simp [hv])).1.1, (hf v (by simp [hv])).2⟩
theorem spl_cs {o : Oc} {ms : List Str} (hm : ModesOk ms) : ∀ {cs : List Cnd}, cs ≠ [] → (∀ c, c ∈ cs → c.k.ok o ms) → spl andL 0 [] (joinL andL (cs.map fun c => tl c.text)) = cs.map fun c => tl c.text
  | [], h, _ => absurd rfl h
  | [c], _, h => by
    show spl andL 0 [] (tl c.text) = [tl c.text]
    refine spl_last fun i hi => ?_
    have z := NA.cnd (h c (by simp)) hm (.inl rfl) i hi
    rw [List.append_nil] at z
    exact z
  | c :: d :: r, _, h => by
    show spl andL 0 [] (tl c.text ++ (andL ++ joinL andL ((d :: r).map fun c => tl c.text))) = _
    rw [spl_part (by decide) (NA.cnd (h c (by simp)) hm (.inr ⟨_, rfl⟩)), spl_cs hm (by simp) fun x hx => h x (by simp [hx])]
    rfl
theorem conds_split {cs : List Cnd} {o : Oc} {ms : List Str} (hne : cs ≠ []) (h : ∀ c, c ∈ cs → c.k.ok o ms) (hm : ModesOk ms) : Txt.split (Txt.join " and " (cs.map Cnd.text)) " and " = cs.map Cnd.text := by
  refine map_tl_inj ?_
  rw [split_spl _ _ (by decide) (kind_ok (by decide +kernel)), tl_jn]
  show spl andL 0 [] (joinL andL ((cs.map Cnd.text).map tl)) = _
  rw [List.map_map]
  exact spl_cs hm hne h
/-! ### one condition -/
theorem CK.starts (k : CK) : pre [110, 111, 116, 32] (tl k.text) = false := by
  rw [k.tl_text]
  cases k <;> rfl
theorem cnd_starts (c : Cnd) : Txt.startswith c.text "not " = !c.pos := by
  rw [starts_pre]
  show pre [110, 111, 116, 32] (tl c.text) = _
  unfold Cnd.text
  cases c.pos with
  | true =>
    show pre _ (tl ("" ++ c.k.text)) = false
    rw [tl_append]
    exact c.k.starts
  | false =>
    show pre _ (tl ("not " ++ c.k.text)) = true
    rw [tl_append]
    exact pre_self _ _
theorem cnd_rm (c : Cnd) : Txt.removeprefix c.text "not " = c.k.text := by
  unfold Cnd.text
  cases c.pos with
  | true =>
    show Txt.removeprefix ("" ++ c.k.text) _ = _
    have e : ("" : Str) ++ c.k.text = c.k.text := ext_tl (by rw [tl_append]; rfl)
    rw [e]
    exact rm_no c.k.starts
  | false => exact rm_app _ (by decide)
theorem spl_ws {ws : List (List Nat)} : ∀ {w : List Nat} {r : List (List Nat)}, (∀ v, v ∈ w :: r → 32 ∉ v) → spl [32] 0 [] (spJ (w :: r)) = w :: r
  | w, [], h => spl_last1 (h w (by simp))
  | w, v :: r, h => by
    show spl [32] 0 [] (w ++ ([32] ++ spJ (v :: r))) = _
    rw [spl_part1 (h w (by simp)), spl_ws (ws := ws) fun x hx => h x (by simp [hx])]
    rfl
def CK.words : CK → List Str
  | .few n => ["few", figS n]
  | .inn m => ["in", m]
  | k => [k.word]
theorem cnd_words {k : CK} {o : Oc} {ms : List Str} (h : k.ok o ms) (hm : ModesOk ms) : Txt.split k.text " " = k.words := by
  refine map_tl_inj ?_
  rw [split_spl _ _ (by decide) (kind_ok (by decide +kernel)), k.tl_text]
  obtain ⟨w, r, e⟩ := k.ws_ne
  have hf := CK.ws_free h hm
  rw [e] at hf ⊢
  show spl [32] 0 [] _ = _
  rw [spl_ws (ws := []) fun v hv => (hf v hv).1.1, ← e]
  cases k <;> rfl
/-! ### deeds -/
theorem Dd.free {d : Dd} {room : Nat} {o : Oc} (h : d.ok room o) (hr : room ≤ 4) : 44 ∉ tl d.text := by
  cases d with
  | keep => decide
  | skip => decide
  | read n =>
    have hn : 1 ≤ n ∧ n ≤ room := h
    show 44 ∉ tl ("read" ++ " " ++ figS n)
    rw [tl_append, tl_append]
    show 44 ∉ [114, 101, 97, 100, 32, 48 + n]
    simp
    omega
theorem goal_free {m : Str} (h : ModeOk m) : 44 ∉ tl (goalText m) := by
  show 44 ∉ tl ("mode" ++ " " ++ m)
  rw [tl_append, tl_append]
  show 44 ∉ [109, 111, 100, 101, 32] ++ tl m
  rw [List.mem_append]
  rintro (z | z)
  · revert z; decide
  · exact h.free (by decide) z
theorem deeds_split {ds : Ds} {room : Nat} {ms : List Str} {o : Oc} (h : ds.ok room ms o) (hr : room ≤ 4) (hm : ModesOk ms) : Txt.split (Txt.join ", " ds.texts) ", " = ds.texts := by
  refine map_tl_inj ?_
  rw [split_spl _ _ (by decide) (kind_ok (by decide +kernel)), tl_jn]
  show spl [44, 32] 0 [] (joinL [44, 32] (ds.texts.map tl)) = _
  refine spl_join ?_ ?_
  · cases ds <;> simp [Ds.texts]
  · intro p hp
    cases ds with
    | one d =>
      rw [show p = tl d.text by simpa [Ds.texts] using hp]
      exact Dd.free h hr
    | two d m =>
      rcases (show p = tl d.text ∨ p = tl (goalText m) by simpa [Ds.texts] using hp) with rfl | rfl
      · exact Dd.free h.1 hr
      · exact goal_free (mode_of hm h.2)
    | goal m =>
      rw [show p = tl (goalText m) by simpa [Ds.texts] using hp]
      exact goal_free (mode_of hm h.2)
theorem goal_starts (m : Str) : Txt.startswith (goalText m) "mode " = true := by
  rw [starts_pre]
  show pre [109, 111, 100, 101, 32] (tl ("mode" ++ " " ++ m)) = true
  rw [tl_append, tl_append]
  exact pre_self _ _
theorem goal_rm (m : Str) : Txt.removeprefix (goalText m) "mode " = m := by
  have e : goalText m = ("mode " : Str) ++ m := ext_tl (by
    show tl ("mode" ++ " " ++ m) = _
    rw [tl_append, tl_append, tl_append]
    rfl)
  rw [e]
  exact rm_app _ (by decide)
theorem read_no (n : Nat) : (Dd.read n).text ∉ (["keep", "skip"] : List Str) := fun h => by
  have h2 : (Dd.read n).text.length = 4 := by
    rcases List.mem_cons.mp h with e | e
    · rw [e]; rfl
    · rw [List.mem_singleton.mp e]; rfl
  have h3 : (Dd.read n).text.length = 6 := rfl
  omega
theorem Dd.no_mode (d : Dd) : pre [109, 111, 100, 101, 32] (tl d.text) = false := by cases d <;> rfl
theorem dd_starts (d : Dd) : Txt.startswith d.text "mode " = false := by
  rw [starts_pre]
  exact d.no_mode
theorem dd_rm (d : Dd) : Txt.removeprefix d.text "mode " = d.text := rm_no d.no_mode
theorem read_starts (n : Nat) : Txt.startswith (Dd.read n).text "read " = true := by
  rw [starts_pre]
  rfl
theorem read_rm (n : Nat) : Txt.removeprefix (Dd.read n).text "read " = figS n := by
  have e : (Dd.read n).text = ("read " : Str) ++ figS n := ext_tl (by
    show tl ("read" ++ " " ++ figS n) = _
    rw [tl_append, tl_append, tl_append]
    rfl)
  rw [e]
  exact rm_app _ (by decide)
/-! ### a row -/
theorem oc_free (o : Oc) : 58 ∉ tl o.s ∧ 32 ∉ tl o.s := by cases o <;> decide
theorem head_free {a : Act} {room : Nat} {ms : List Str} (h : a.ok room ms) (hm : ModesOk ms) : 58 ∉ tl a.head := by
  unfold Act.head
  split
  · exact (oc_free a.o).1
  · rw [tl_append, tl_append, tl_jn, List.mem_append, List.mem_append]
    rintro ((z | z) | z)
    · exact (oc_free a.o).1 z
    · revert z; decide
    · revert z
      rw [List.map_map]
      have h2 := h.cs
      generalize a.cs = cs at h2
      show ¬ 58 ∈ joinL andL (cs.map fun c => tl c.text)
      have hc : ∀ c, c ∈ cs → 58 ∉ tl c.text := fun c hc => by
        rw [c.tl_text]
        exact spJ_mem (by decide) fun w hw => (Cnd.ws_free (h2 c hc) hm w hw).1.2.2
      clear h2
      induction cs with
      | nil => simp [joinL]
      | cons c r ih =>
        cases r with
        | nil => exact hc c (by simp)
        | cons d r =>
          show ¬ 58 ∈ tl c.text ++ (andL ++ joinL andL ((d :: r).map fun c => tl c.text))
          rw [List.mem_append, List.mem_append]
          rintro (z | z | z)
          · exact hc c (by simp) z
          · revert z; decide
          · exact ih (fun x hx => hc x (by simp [hx])) z
theorem tl_row (a : Act) : tl a.text = tl a.head ++ ([58, 32] ++ tl a.tail) := by
  unfold Act.text
  rw [tl_append, tl_append, List.append_assoc]
  rfl
theorem row_part {a : Act} {room : Nat} {ms : List Str} (h : a.ok room ms) (hm : ModesOk ms) : Txt.partition a.text ": " = (a.head, (": " : Str), a.tail) := by
  rw [partition_par _ _ (by decide)]
  show (match par [58, 32] [] (tl a.text) with | some (x, y) => _ | none => _) = _
  rw [tl_row, par_part1 (head_free h hm)]
  show ((⟨([] ++ tl a.head).toArray⟩ : Str), ((": " : Str), (⟨(tl a.tail).toArray⟩ : Str))) = _
  rw [List.nil_append]
theorem row_colon (a : Act) : (!(!(Builtin.Str.occurrences a.text ": " 0 a.text.length 1).isEmpty)) = false := by
  rcases occ_head a.text ": " 1 (Nat.le_refl 1) with ⟨h0, hn⟩ | ⟨i, r, h0, _⟩
  · refine absurd ((at_iff (x := a.text) (y := ": ") (by decide) (tl a.head).length).mpr ?_) (hn _)
    rw [tl_row, List.drop_left]
    exact pre_self _ _
  · rw [h0]
    rfl
theorem head_part0 (a : Act) (h : a.cs = []) : Txt.partition a.head " if " = (a.o.s, Str.empty, Str.empty) := by
  have e : a.head = a.o.s := if_pos h
  rw [partition_par _ _ (by decide), e]
  show (match par [32, 105, 102, 32] [] (tl a.o.s) with | some (x, y) => _ | none => _) = _
  rw [par_none1 (oc_free a.o).2]
theorem head_part1 (a : Act) (h : a.cs ≠ []) : Txt.partition a.head " if " = (a.o.s, (" if " : Str), Txt.join " and " (a.cs.map Cnd.text)) := by
  have e : a.head = a.o.s ++ " if " ++ Txt.join " and " (a.cs.map Cnd.text) := if_neg h
  have e2 : tl a.head = tl a.o.s ++ ([32, 105, 102, 32] ++ tl (Txt.join " and " (a.cs.map Cnd.text))) := by
    rw [e, tl_append, tl_append, List.append_assoc]
    rfl
  rw [partition_par _ _ (by decide), e2]
  show (match par [32, 105, 102, 32] [] (tl a.o.s ++ ([32, 105, 102, 32] ++ tl (Txt.join " and " (a.cs.map Cnd.text)))) with | some (x, y) => _ | none => _) = _
  rw [par_part1 (oc_free a.o).2]
  show ((⟨([] ++ tl a.o.s).toArray⟩ : Str), ((" if " : Str), (⟨(tl (Txt.join " and " (a.cs.map Cnd.text))).toArray⟩ : Str))) = _
  rw [List.nil_append]
/-! ### lengths -/
theorem len_mode {ms : List Str} (hm : ModesOk ms) {m : Str} (h : m ∈ ms) : m.length ≤ 8 := (mode_of hm h).w.hi
theorem len_k {k : CK} {o : Oc} {ms : List Str} (h : k.ok o ms) (hm : ModesOk ms) : k.text.length ≤ 11 := by
  cases k with
  | few n => exact (by show 5 ≤ 11; decide)
  | inn m =>
    have := len_mode hm h
    show ("in" ++ " " ++ m).length ≤ 11
    rw [PySem.Str.length_append]
    show 3 + m.length ≤ 11
    omega
  | full => decide
  | whole => decide
  | above => decide
theorem len_c {c : Cnd} {o : Oc} {ms : List Str} (h : c.k.ok o ms) (hm : ModesOk ms) : c.text.length ≤ 15 := by
  have := len_k h hm
  unfold Cnd.text
  rw [PySem.Str.length_append]
  cases c.pos with
  | true => show 0 + _ ≤ 15; omega
  | false => show 4 + _ ≤ 15; omega
theorem len_join (y : Str) (ps : List Str) {b : Nat} (h : ∀ p, p ∈ ps → p.length ≤ b) : (Txt.join y ps).length ≤ ps.length * (b + y.length) := by
  rw [jn]
  refine Nat.le_trans (StrLaws.join_length_le y ps) ?_
  have := sumLen_le ps h
  rw [Nat.mul_add]
  omega
theorem len_conds {cs : List Cnd} {o : Oc} {ms : List Str} (hl : cs.length ≤ 2) (h : ∀ c, c ∈ cs → c.k.ok o ms) (hm : ModesOk ms) : (Txt.join " and " (cs.map Cnd.text)).length ≤ 40 := by
  have h1 := len_join " and " (cs.map Cnd.text) (b := 15) fun p hp => by
    obtain ⟨c, hc, rfl⟩ := List.mem_map.mp hp
    exact len_c (h c hc) hm
  rw [List.length_map] at h1
  have h2 : cs.length * (15 + (" and " : Str).length) ≤ 2 * 20 := Nat.mul_le_mul hl (by decide)
  omega
theorem len_dd (d : Dd) : d.text.length ≤ 6 := by cases d <;> first | decide | exact (by show 6 ≤ 6; decide)
theorem len_goal {m : Str} (h : ModeOk m) : (goalText m).length ≤ 13 := by
  have := h.w.hi
  show ("mode" ++ " " ++ m).length ≤ 13
  rw [PySem.Str.length_append]
  show 5 + m.length ≤ 13
  omega
theorem len_ds {ds : Ds} {room : Nat} {ms : List Str} {o : Oc} (h : ds.ok room ms o) (hm : ModesOk ms) : ds.texts.length ≤ 2 ∧ ∀ p, p ∈ ds.texts → p.length ≤ 13 := by
  cases ds with
  | one d =>
    refine ⟨by show 1 ≤ 2; decide, fun p hp => ?_⟩
    rw [show p = d.text by simpa [Ds.texts] using hp]
    have := len_dd d
    omega
  | two d m =>
    refine ⟨by show 2 ≤ 2; decide, fun p hp => ?_⟩
    rcases (show p = d.text ∨ p = goalText m by simpa [Ds.texts] using hp) with rfl | rfl
    · have := len_dd d
      omega
    · exact len_goal (mode_of hm h.2)
  | goal m =>
    refine ⟨by show 1 ≤ 2; decide, fun p hp => ?_⟩
    rw [show p = goalText m by simpa [Ds.texts] using hp]
    exact len_goal (mode_of hm h.2)
theorem len_tail {ds : Ds} {room : Nat} {ms : List Str} {o : Oc} (h : ds.ok room ms o) (hm : ModesOk ms) : (Txt.join ", " ds.texts).length ≤ 30 := by
  obtain ⟨h1, h2⟩ := len_ds h hm
  have h3 := len_join ", " ds.texts h2
  have h4 : ds.texts.length * (13 + (", " : Str).length) ≤ 2 * 15 := Nat.mul_le_mul h1 (by decide)
  omega
theorem len_head {a : Act} {room : Nat} {ms : List Str} (h : a.ok room ms) (hm : ModesOk ms) : a.head.length ≤ 48 := by
  have ho : a.o.s.length ≤ 4 := by cases a.o <;> decide
  unfold Act.head
  split
  · omega
  · have := len_conds h.few h.cs hm
    rw [PySem.Str.length_append, PySem.Str.length_append]
    show _ + 4 + _ ≤ 48
    omega
theorem len_row {a : Act} {room : Nat} {ms : List Str} (h : a.ok room ms) (hm : ModesOk ms) : a.text.length ≤ 80 := by
  have h1 := len_head h hm
  have h2 := len_tail h.ds hm
  unfold Act.text
  rw [PySem.Str.length_append, PySem.Str.length_append]
  show _ + 2 + (Txt.join ", " a.ds.texts).length ≤ 80
  omega
/-! ### rows that fit -/
theorem oc_eq (a b : Oc) : decide (a.s = b.s) = decide (a = b) := by cases a <;> cases b <;> decide +kernel
theorem firstFit_drop {f : Act → Bool} {l : List Act} {a : Act} {i : Nat} (n : Nat) (h : l[i]? = some a) : firstFit f (l.drop i) n = if f a then some n else firstFit f (l.drop (i + 1)) (n + 1) := by
  obtain ⟨hl, he⟩ := List.getElem?_eq_some_iff.mp h
  rw [List.drop_eq_getElem_cons hl, he]
  rfl
theorem firstFit_some {f : Act → Bool} : ∀ {l : List Act} {n i : Nat}, firstFit f l n = some i → ∃ a, n ≤ i ∧ l[i - n]? = some a ∧ f a = true
  | [], _, _, h => nomatch h
  | b :: r, n, i, h => by
    have h : (if f b then some n else firstFit f r (n + 1)) = some i := h
    split at h
    · rename_i hb
      have e : n = i := Option.some.inj h
      subst e
      exact ⟨b, Nat.le_refl n, by rw [Nat.sub_self]; rfl, hb⟩
    · obtain ⟨a, h1, h2, h3⟩ := firstFit_some h
      refine ⟨a, by omega, ?_, h3⟩
      have e : i - n = (i - (n + 1)) + 1 := by omega
      rw [e]
      exact h2
theorem rowOf_some {p : PD} {o : Oc} {mode : Str} {kept : Nat} {whole above : Bool} {i : Nat} (h : p.rowOf o mode kept whole above = some i) : ∃ a, p.acts[i]? = some a := by
  obtain ⟨a, _, h2, _⟩ := firstFit_some h
  exact ⟨a, h2⟩
theorem fig_str {n : Nat} (h : n ≤ 4) : (Str.ofString (toString (n : Int))) = figS n := by
  match n, h with
  | 0, _ => decide +kernel
  | 1, _ => decide +kernel
  | 2, _ => decide +kernel
  | 3, _ => decide +kernel
  | 4, _ => decide +kernel
theorem fig_len (n : Nat) : (figS n).length = 1 := rfl
theorem small_log {n : Nat} (h : n ≤ 4) : ((n : Int)).natAbs.log2 < 1920 := by
  match n, h with
  | 0, _ => decide +kernel
  | 1, _ => decide +kernel
  | 2, _ => decide +kernel
  | 3, _ => decide +kernel
  | 4, _ => decide +kernel
theorem len_modes {ms : List Str} (hm : ModesOk ms) : (Txt.join " " ms).length ≤ 27 := by
  have h1 := len_join " " ms (b := 8) fun m h => len_mode hm h
  have h2 : ms.length * (8 + (" " : Str).length) ≤ 3 * 9 := Nat.mul_le_mul hm.hi (by decide)
  omega
theorem sum_modes {ms : List Str} (hm : ModesOk ms) : (ms.map (·.length)).sum ≤ 24 := by
  have h1 := sumLen_le ms fun m h => len_mode hm h
  have h2 : ms.length * 8 ≤ 3 * 8 := Nat.mul_le_mul hm.hi (by decide)
  omega
theorem sum_acts {as : List Act} {room : Nat} {ms : List Str} (hl : as.length ≤ 12) (h : ∀ a, a ∈ as → a.ok room ms) (hm : ModesOk ms) : ((as.map Act.text).map (·.length)).sum ≤ 960 := by
  have h1 := sumLen_le (as.map Act.text) (B := 80) fun p hp => by
    obtain ⟨a, ha, rfl⟩ := List.mem_map.mp hp
    exact len_row (h a ha) hm
  rw [List.length_map] at h1
  have h2 : as.length * 80 ≤ 12 * 80 := Nat.mul_le_mul hl (by decide)
  omega
/-! ### sorted -/
theorem insI_perm (x : Int) : ∀ l : List Int, (insI x l).Perm (x :: l)
  | [] => List.Perm.refl _
  | y :: r => by
    unfold insI
    split
    · exact List.Perm.refl _
    · exact ((insI_perm x r).cons y).trans (List.Perm.swap x y r)
theorem insI_srt (x : Int) : ∀ {l : List Int}, l.Pairwise (· ≤ ·) → (insI x l).Pairwise (· ≤ ·)
  | [], _ => List.pairwise_singleton _ _
  | y :: r, h => by
    obtain ⟨h1, h2⟩ := List.pairwise_cons.mp h
    unfold insI
    split
    · rename_i hxy
      refine List.pairwise_cons.mpr ⟨fun z hz => ?_, h⟩
      rcases List.mem_cons.mp hz with rfl | hz
      · exact hxy
      · exact Int.le_trans hxy (h1 z hz)
    · rename_i hxy
      refine List.pairwise_cons.mpr ⟨fun z hz => ?_, insI_srt x h2⟩
      rcases List.mem_cons.mp ((insI_perm x r).mem_iff.mp hz) with rfl | hz
      · omega
      · exact h1 z hz
theorem sortI_perm : ∀ l : List Int, (sortI l).Perm l
  | [] => List.Perm.refl _
  | x :: r => (insI_perm x (sortI r)).trans ((sortI_perm r).cons x)
theorem sortI_srt : ∀ l : List Int, (sortI l).Pairwise (· ≤ ·)
  | [] => List.Pairwise.nil
  | x :: r => insI_srt x (sortI_srt r)
theorem sorted_unique : ∀ {a b : List Int}, a.Perm b → a.Pairwise (· ≤ ·) → b.Pairwise (· ≤ ·) → a = b
  | [], b, h, _, _ => by rw [h.nil_eq]
  | x :: a, [], h, _, _ => absurd h.symm.nil_eq (by simp)
  | x :: a, y :: b, h, h1, h2 => by
    obtain ⟨p1, p2⟩ := List.pairwise_cons.mp h1
    obtain ⟨q1, q2⟩ := List.pairwise_cons.mp h2
    have e : x = y := by
      have m1 : x ∈ y :: b := h.mem_iff.mp (by simp)
      have m2 : y ∈ x :: a := h.mem_iff.mpr (by simp)
      rcases List.mem_cons.mp m1 with e | m1
      · exact e
      · rcases List.mem_cons.mp m2 with e | m2
        · exact e.symm
        · exact Int.le_antisymm (p1 y m2) (q1 x m1)
    subst e
    rw [sorted_unique (List.Perm.cons_inv h) p2 q2]
theorem sorted_is {a b : List Int} (h : a.Perm b) (h1 : a.Pairwise (· ≤ ·)) : a = sortI b := sorted_unique (h.trans (sortI_perm b).symm) h1 (sortI_srt b)
/-! ### states -/
theorem deed_some {p : PD} {o : Oc} {mode : Str} {kept : Nat} {whole above : Bool} {i : Nat} {a : Act} (h : p.rowOf o mode kept whole above = some i) (ha : p.acts[i]? = some a) : p.deed o mode kept whole above = ⟨a.ds.word, a.ds.count, if a.ds.to.length = 0 then mode else a.ds.to⟩ := by
  unfold PD.deed
  rw [h]
  show (match p.acts[i]? with | none => (⟨"", 0, mode⟩ : De) | some a => ⟨a.ds.word, a.ds.count, if a.ds.to.length = 0 then mode else a.ds.to⟩) = _
  rw [ha]
theorem deed_ok {p : PD} (hp : p.ok) {o : Oc} {mode : Str} (hm : mode ∈ p.ms) {kept : Nat} {whole above : Bool} : (p.deed o mode kept whole above).count ≤ 4 ∧ (p.deed o mode kept whole above).mode ∈ p.ms := by
  cases h : p.rowOf o mode kept whole above with
  | none =>
    have e : p.deed o mode kept whole above = ⟨if o = .put then "skip" else "", 0, mode⟩ := by
      unfold PD.deed
      rw [h]
    rw [e]
    exact ⟨Nat.zero_le 4, hm⟩
  | some i =>
    obtain ⟨a, ha⟩ := rowOf_some h
    rw [deed_some h ha]
    have hok := (hp.acts a (List.mem_of_getElem? ha)).ds
    have hr := hp.r4
    have hd : ∀ d : Dd, d.ok p.room a.o → d.count ≤ 4 := fun d h => by
      cases d with
      | read n => exact Nat.le_trans h.2 hr
      | keep => exact Nat.zero_le 4
      | skip => exact Nat.zero_le 4
    show a.ds.count ≤ 4 ∧ (if a.ds.to.length = 0 then mode else a.ds.to) ∈ p.ms
    generalize a.ds = ds at hok
    cases ds with
    | one d => exact ⟨hd d hok, by show (if (0 : Nat) = 0 then mode else "") ∈ p.ms; rw [if_pos rfl]; exact hm⟩
    | two d m =>
      refine ⟨hd d hok.1, ?_⟩
      show (if m.length = 0 then mode else m) ∈ p.ms
      split
      · exact hm
      · exact hok.2
    | goal m =>
      refine ⟨Nat.zero_le 4, ?_⟩
      show (if m.length = 0 then mode else m) ∈ p.ms
      split
      · exact hm
      · exact hok.2
theorem cut_take (ds : List PyData) (n : Nat) : cutD ds none (some (n : Int)) = ds.take n := by
  unfold cutD
  rw [HT.sIx_none, HT.sIx_nat]
  simp
structure StOk (p : PD) (n : Int) (x : Stt × List Int) : Prop where
  ok : x.1.ok p
  sz : x.1.size = n
  few : x.2.length ≤ 1
  small : ∀ c, c ∈ x.2 → 0 ≤ c ∧ c ≤ 4
theorem many_le {size : Int} {count : Nat} (h0 : 0 ≤ size) (h4 : count ≤ 4) : (if size < (count : Int) then size else (count : Int)).toNat ≤ 4 := by split <;> omega
theorem stok_rd {p : PD} {mode : Str} {size : Int} {count : Nat} (hm : mode ∈ p.ms) (h0 : 0 ≤ size) (h4 : count ≤ 4) : StOk p size (rdF mode size count) := by
  have h := many_le h0 h4
  refine ⟨⟨h0, ?_, hm⟩, rfl, Nat.le_refl 1, fun c hc => ?_⟩
  · show ((List.range _).map Int.ofNat).length ≤ 4
    rw [List.length_map, List.length_range]
    exact h
  · have hc : c ∈ [((if size < (count : Int) then size else (count : Int)).toNat : Int)] := hc
    rw [List.mem_singleton.mp hc]
    omega
theorem stok_no {p : PD} {mode : Str} {size : Int} {kept : List Int} (hm : mode ∈ p.ms) (h0 : 0 ≤ size) (h4 : kept.length ≤ 4) : StOk p size (⟨mode, size, kept⟩, []) :=
  ⟨⟨h0, h4, hm⟩, rfl, Nat.zero_le 1, fun c hc => by cases hc⟩
theorem up_len (r : Int) (kept : List Int) : (upF r kept).length = kept.length := List.length_map _
theorem down_len (r : Int) (kept : List Int) : (downF r kept).length ≤ kept.length := by
  unfold downF
  rw [List.length_map]
  exact List.length_filter_le _ _
theorem stok_put {p : PD} {s : Stt} (hp : p.ok) (hs : s.ok p) (r : Int) : StOk p (s.size + 1) (putF p s r) := by
  obtain ⟨s0, k4, hm⟩ := hs
  have hdk := deed_ok hp hm (o := .put) (kept := s.kept.length) (whole := decide ((s.kept.length : Int) = s.size)) (above := aboveF s.kept r)
  unfold putF
  generalize p.deed .put s.mode s.kept.length (decide ((s.kept.length : Int) = s.size)) (aboveF s.kept r) = d at hdk
  show StOk p (s.size + 1) (if d.word = "read" then rdF d.mode (s.size + 1) d.count else (⟨d.mode, s.size + 1, if d.word = "keep" then (sortI (upF r s.kept ++ [r])).take p.room else upF r s.kept⟩, []))
  split
  · exact stok_rd hdk.2 (by omega) hdk.1
  · refine stok_no hdk.2 (by omega) ?_
    split
    · have := hp.r4
      rw [List.length_take]
      omega
    · rw [up_len]
      exact k4
theorem stok_take {p : PD} {s : Stt} (hp : p.ok) (hs : s.ok p) (h1 : 1 ≤ s.size) (r : Int) : StOk p (s.size - 1) (takeF p s r) := by
  obtain ⟨s0, k4, hm⟩ := hs
  have hl := down_len r s.kept
  unfold takeF
  split
  · have hdk := deed_ok hp hm (o := .loss) (kept := (downF r s.kept).length) (whole := decide (((downF r s.kept).length : Int) = s.size - 1)) (above := false)
    generalize p.deed .loss s.mode (downF r s.kept).length (decide (((downF r s.kept).length : Int) = s.size - 1)) false = d at hdk
    show StOk p (s.size - 1) (if d.word = "read" then rdF d.mode (s.size - 1) d.count else (⟨d.mode, s.size - 1, downF r s.kept⟩, []))
    split
    · exact stok_rd hdk.2 (by omega) hdk.1
    · exact stok_no hdk.2 (by omega) (by omega)
  · exact stok_no hm (by omega) (by omega)
theorem stok_ask {p : PD} {s : Stt} (hp : p.ok) (hs : s.ok p) : StOk p s.size (askF p s) := by
  obtain ⟨s0, k4, hm⟩ := hs
  have hdk := deed_ok hp hm (o := .ask) (kept := s.kept.length) (whole := decide ((s.kept.length : Int) = s.size)) (above := false)
  unfold askF
  generalize p.deed .ask s.mode s.kept.length (decide ((s.kept.length : Int) = s.size)) false = d at hdk
  show StOk p s.size (if d.word = "read" then rdF d.mode s.size d.count else (⟨d.mode, s.size, s.kept⟩, []))
  split
  · exact stok_rd hdk.2 s0 hdk.1
  · exact stok_no hdk.2 s0 k4
structure StOk2 (p : PD) (n : Int) (x : Stt × List Int) : Prop where
  ok : x.1.ok p
  sz : x.1.size = n
  few : x.2.length ≤ 2
  small : ∀ c, c ∈ x.2 → 0 ≤ c ∧ c ≤ 4
theorem StOk.two {p : PD} {n : Int} {x : Stt × List Int} (h : StOk p n x) : StOk2 p n x := ⟨h.ok, h.sz, Nat.le_trans h.few (by decide), h.small⟩
theorem stt_step {p : PD} {s : Stt} (hp : p.ok) (hs : s.ok p) {e : Ev} (he : e.ok s.size) : StOk2 p (e.next s.size) (stepF p s e) := by
  cases e with
  | ask => exact (stok_ask hp hs).two
  | put r => exact (stok_put hp hs r).two
  | take r =>
    have h : 0 ≤ r ∧ r < s.size := he
    exact (stok_take hp hs (by omega) r).two
  | move a b =>
    have h : 0 ≤ a ∧ a < s.size ∧ 0 ≤ b ∧ b < s.size := he
    have h1 := stok_take hp hs (by omega) a
    have h2 := stok_put hp h1.ok b
    refine ⟨h2.ok, ?_, ?_, fun c hc => ?_⟩
    · show (putF p (takeF p s a).1 b).1.size = s.size
      rw [h2.sz, h1.sz]
      omega
    · show ((takeF p s a).2 ++ (putF p (takeF p s a).1 b).2).length ≤ 2
      rw [List.length_append]
      have := h1.few
      have := h2.few
      omega
    · have hc : c ∈ (takeF p s a).2 ++ (putF p (takeF p s a).1 b).2 := hc
      rcases List.mem_append.mp hc with hc | hc
      · exact h1.small c hc
      · exact h2.small c hc
theorem init_ok {p : PD} (hp : p.ok) {n : Int} (h : 0 ≤ n) : (p.init n).ok p := by
  refine ⟨h, Nat.zero_le 4, ?_⟩
  have hl := hp.ms.lo
  show p.ms.headD "" ∈ p.ms
  cases e : p.ms with
  | nil => rw [e] at hl; exact absurd hl (by decide)
  | cons m r => exact List.mem_cons_self
def Ev.next' (n : Int) (e : Ev) : Int := e.next n
theorem evs_snoc {n : Int} : ∀ {es : List Ev} {e : Ev}, EvsOk n (es ++ [e]) ↔ EvsOk n es ∧ e.ok (es.foldl Ev.next' n)
  | [], e => by simp [EvsOk]
  | d :: r, e => by
    show (d.ok n ∧ EvsOk (d.next n) (r ++ [e])) ↔ _
    rw [evs_snoc]
    show _ ↔ (d.ok n ∧ EvsOk (d.next n) r) ∧ _
    exact and_assoc.symm
theorem runF_step {p : PD} {es : List Ev} {i : Nat} {e : Ev} (x : Stt × List Int) (h : es[i]? = some e) : runF p x (es.drop i) = runF p ((stepF p x.1 e).1, x.2 ++ (stepF p x.1 e).2) (es.drop (i + 1)) := by
  obtain ⟨hl, he⟩ := List.getElem?_eq_some_iff.mp h
  rw [List.drop_eq_getElem_cons hl, he]
  rfl
theorem evs_drop {n : Int} {es : List Ev} {i : Nat} {e : Ev} (h : EvsOk n (es.drop i)) (he : es[i]? = some e) : e.ok n ∧ EvsOk (e.next n) (es.drop (i + 1)) := by
  obtain ⟨hl, he⟩ := List.getElem?_eq_some_iff.mp he
  rw [List.drop_eq_getElem_cons hl, he] at h
  exact h
theorem modes_head {p : PD} (hp : p.ok) : atI (p.ms.map PyData.str) 0 = some (.str (p.ms.headD "")) := by
  have hl := hp.ms.lo
  refine atI_nat (j := 0) ?_
  cases e : p.ms with
  | nil => rw [e] at hl; exact absurd hl (by decide)
  | cons m r => rfl
theorem ev_data (e : Ev) : ∃ r, e.data = .tuple (.str e.word :: r) := by cases e <;> exact ⟨_, rfl⟩
structure RunOk (p : PD) (x : Stt × List Int) (b : Nat) : Prop where
  ok : x.1.ok p
  few : x.2.length ≤ b
  small : ∀ c, c ∈ x.2 → 0 ≤ c ∧ c ≤ 4
theorem run_ok {p : PD} (hp : p.ok) : ∀ {es : List Ev} {x : Stt × List Int} {b : Nat}, RunOk p x b → EvsOk x.1.size es → RunOk p (runF p x es) (b + 2 * es.length)
  | [], _, _, h, _ => h
  | e :: r, x, b, h, he => by
    have hst := stt_step hp h.ok he.1
    have h2 : RunOk p ((stepF p x.1 e).1, x.2 ++ (stepF p x.1 e).2) (b + 2) := by
      refine ⟨hst.ok, ?_, fun c hc => ?_⟩
      · rw [List.length_append]
        have := h.few
        have := hst.few
        omega
      · rcases List.mem_append.mp hc with hc | hc
        · exact h.small c hc
        · exact hst.small c hc
    have h3 := run_ok hp (es := r) h2 (by
      show EvsOk (stepF p x.1 e).1.size r
      rw [hst.sz]
      exact he.2)
    refine ⟨h3.ok, ?_, h3.small⟩
    have := h3.few
    show (runF p _ r).2.length ≤ b + 2 * (r.length + 1)
    omega
theorem run_init {p : PD} (hp : p.ok) {n : Int} (h0 : 0 ≤ n) {es : List Ev} (he : EvsOk n es) : RunOk p (runF p (p.init n, []) es) (2 * es.length) := by
  have := run_ok hp (x := (p.init n, [])) (b := 0) ⟨init_ok hp h0, Nat.le_refl 0, fun c hc => by cases hc⟩ he
  rw [Nat.zero_add] at this
  exact this
end Kt
/-! Data that may be compared, shown. -/
namespace Kt
open PySem PySem.Spec PyProof.Rows L2
structure Sh (n : Nat) (d : PyData) : Prop where
  c : d.canLay0 = true
  dp : d.depth ≤ n
theorem Sh.mono {n m : Nat} {d : PyData} (h : Sh n d) (e : n ≤ m) : Sh m d := ⟨h.c, Nat.le_trans h.dp e⟩
theorem Sh.shaped {n : Nat} {d : PyData} (h : Sh n d) (e : n ≤ 64) : SeqAt.shaped d = true := by
  show (d.canLay0 && decide (d.depth ≤ 64)) = true
  rw [h.c, decide_eq_true (Nat.le_trans h.dp e)]
  rfl
theorem sh_none {n : Nat} : Sh n .none := ⟨by simp [PyData.canLay0], by simp [PyData.depth]⟩
theorem sh_bool {n : Nat} (b : Bool) : Sh n (.bool b) := ⟨by simp [PyData.canLay0], by simp [PyData.depth]⟩
theorem sh_int {n : Nat} (i : Int) : Sh n (.int i) := ⟨by simp [PyData.canLay0], by simp [PyData.depth]⟩
theorem sh_str {n : Nat} {s : Str} (h : PyData.strOk s = true) : Sh n (.str s) := ⟨by simp [PyData.canLay0, h], by simp [PyData.depth]⟩
theorem sh_all {n : Nat} : ∀ {ds : List PyData}, (∀ d, d ∈ ds → Sh n d) → PyData.canLayAll0 ds = true ∧ PyData.depthAll ds ≤ n
  | [], _ => ⟨by simp [PyData.canLayAll0], by simp [PyData.depthAll]⟩
  | d :: r, h => by
    obtain ⟨h1, h2⟩ := sh_all (ds := r) fun x hx => h x (by simp [hx])
    have h3 := h d (by simp)
    refine ⟨by simp [PyData.canLayAll0, h1, h3.c], ?_⟩
    simp only [PyData.depthAll]
    have := h3.dp
    omega
theorem sh_list {n : Nat} {ds : List PyData} (h : ∀ d, d ∈ ds → Sh n d) : Sh (n + 1) (.list ds) := by
  obtain ⟨h1, h2⟩ := sh_all h
  exact ⟨by simp [PyData.canLay0, h1], by simp only [PyData.depth]; omega⟩
theorem sh_tup {n : Nat} {ds : List PyData} (h : ∀ d, d ∈ ds → Sh n d) : Sh (n + 1) (.tuple ds) := by
  obtain ⟨h1, h2⟩ := sh_all h
  exact ⟨by simp [PyData.canLay0, h1], by simp only [PyData.depth]; omega⟩
theorem sh_ints {n : Nat} (ns : List Int) : Sh (n + 1) (.tuple (ns.map .int)) := sh_tup fun d hd => by
  obtain ⟨i, _, rfl⟩ := List.mem_map.mp hd
  exact sh_int i
theorem sh_intsL {n : Nat} (ns : List Int) : Sh (n + 1) (.list (ns.map .int)) := sh_list fun d hd => by
  obtain ⟨i, _, rfl⟩ := List.mem_map.mp hd
  exact sh_int i
theorem strOk_of {s : Str} (h : ∀ x, x ∈ s.cps.toList → x < 1114112) : PyData.strOk s = true := by
  show s.cps.all (· < 0x110000) = true
  rw [← Array.all_toList, List.all_eq_true]
  intro x hx
  exact decide_eq_true (h x hx)
theorem strOk_word {s : Str} (h : WordOk s) : PyData.strOk s = true := strOk_of fun x hx => by
  have := (h.ch x hx).2
  omega
theorem strOk_fig {n : Nat} (h : n ≤ 9) : PyData.strOk (figS n) = true := strOk_of fun x hx => by
  have : x = 48 + n := by simpa [figS] using hx
  omega
theorem sh_mode {n : Nat} {ms : List Str} (hm : ModesOk ms) {m : Str} (h : m ∈ ms) : Sh n (.str m) := sh_str (strOk_word (mode_of hm h).w)
theorem sh_word {n : Nat} (k : CK) : Sh n (.str k.word) := by
  cases k with
  | few j => exact sh_str (s := "few") (by decide +kernel)
  | inn m => exact sh_str (s := "in") (by decide +kernel)
  | _ => exact sh_str (by decide +kernel)
theorem sh_part {n : Nat} {k : CK} {o : Oc} {ms : List Str} (h : k.ok o ms) (hm : ModesOk ms) : Sh n k.part := by
  cases k with
  | inn m => exact sh_mode hm h
  | _ => exact sh_int _
theorem sh_cnd {n : Nat} {c : Cnd} {o : Oc} {ms : List Str} (h : c.k.ok o ms) (hm : ModesOk ms) : Sh (n + 1) c.data := sh_tup fun d hd => by
  rcases (show d = .str c.k.word ∨ d = c.k.part ∨ d = .bool c.pos by simpa [Cnd.data] using hd) with rfl | rfl | rfl
  · exact sh_word c.k
  · exact sh_part h hm
  · exact sh_bool _
theorem sh_words {n : Nat} {k : CK} {o : Oc} {ms : List Str} (h : k.ok o ms) (hm : ModesOk ms) : Sh (n + 1) (.list (k.words.map .str)) := sh_list fun d hd => by
  obtain ⟨s, hs, rfl⟩ := List.mem_map.mp hd
  cases k with
  | few j =>
    have hj : j ≤ 3 := h
    rcases (show s = "few" ∨ s = figS j by simpa [CK.words] using hs) with rfl | rfl
    · exact sh_str (by decide +kernel)
    · exact sh_str (strOk_fig (by omega))
  | inn m =>
    rcases (show s = "in" ∨ s = m by simpa [CK.words] using hs) with rfl | rfl
    · exact sh_str (by decide +kernel)
    · exact sh_mode hm h
  | full => rw [show s = "full" by simpa [CK.words, CK.word] using hs]; exact sh_str (by decide +kernel)
  | whole => rw [show s = "whole" by simpa [CK.words, CK.word] using hs]; exact sh_str (by decide +kernel)
  | above => rw [show s = "above" by simpa [CK.words, CK.word] using hs]; exact sh_str (by decide +kernel)
theorem sh_stt {n : Nat} {s : Stt} {ms : List Str} (hm : ModesOk ms) (h : s.mode ∈ ms) : Sh (n + 2) s.data := sh_tup fun d hd => by
  rcases (show d = .str s.mode ∨ d = .int s.size ∨ d = .tuple (s.kept.map .int) by simpa [Stt.data] using hd) with rfl | rfl | rfl
  · exact sh_mode hm h
  · exact sh_int _
  · exact sh_ints _
theorem eqvAll_ints : ∀ ns : List Int, PyData.eqvAll (ns.map PyData.int) (ns.map PyData.int) = true
  | [] => by simp [PyData.eqvAll]
  | n :: r => by simp [PyData.eqvAll, PyData.eqv, eqvAll_ints r]
theorem eqv_ints (ns : List Int) : PyData.eqv (.tuple (ns.map .int)) (.tuple (ns.map .int)) = true := by
  simp only [PyData.eqv]
  exact eqvAll_ints ns
theorem eqv_stt (s : Stt) : PyData.eqv s.data s.data = true := by
  have h := eqv_ints s.kept
  simp only [PyData.eqv] at h
  simp [Stt.data, PyData.eqv, PyData.eqvAll, h]
theorem eqv_nil {α : Type} (f : α → PyData) (l : List α) : PyData.eqv (.tuple (l.map f)) (.tuple []) = l.isEmpty := by
  cases l <;> simp [PyData.eqv, PyData.eqvAll]
theorem eqv_nilL {α : Type} (f : α → PyData) (l : List α) : PyData.eqv (.list (l.map f)) (.list []) = l.isEmpty := by
  cases l <;> simp [PyData.eqv, PyData.eqvAll]
theorem none_in (cs : List Cnd) : ((cs.map Cnd.data).any fun z => PyData.eqv z .none) = false := by
  rw [List.any_map]
  induction cs with
  | nil => rfl
  | cons c r ih => simp [Cnd.data, PyData.eqv] at ih ⊢
theorem strOk_app {a b : Str} (ha : PyData.strOk a = true) (hb : PyData.strOk b = true) : PyData.strOk (a ++ b) = true := by
  have h : ∀ s : Str, PyData.strOk s = true → ∀ x, x ∈ TL.tl s → x < 1114112 := fun s hs x hx => by
    have hs : s.cps.all (· < 0x110000) = true := hs
    rw [← Array.all_toList, List.all_eq_true] at hs
    exact of_decide_eq_true (hs x hx)
  refine strOk_of fun x hx => ?_
  have hx : x ∈ TL.tl (a ++ b) := hx
  rw [TL.tl_append] at hx
  rcases List.mem_append.mp hx with z | z
  · exact h a ha x z
  · exact h b hb x z
theorem strOk_cnd {c : Cnd} {o : Oc} {ms : List Str} (h : c.k.ok o ms) (hm : ModesOk ms) : PyData.strOk c.text = true := by
  unfold Cnd.text
  refine strOk_app (by cases c.pos <;> decide +kernel) ?_
  obtain ⟨ck, pos⟩ := c
  cases ck with
  | few n =>
    have hn : n ≤ 3 := h
    exact strOk_app (by decide +kernel) (strOk_fig (by omega))
  | inn m => exact strOk_app (by decide +kernel) (strOk_word (mode_of hm h).w)
  | full => exact (by decide +kernel : PyData.strOk "full" = true)
  | whole => exact (by decide +kernel : PyData.strOk "whole" = true)
  | above => exact (by decide +kernel : PyData.strOk "above" = true)
theorem sumLen_le' {B : Nat} (texts : List Str) (h : ∀ y, y ∈ texts → y.length ≤ B) : (texts.map (·.length)).sum ≤ texts.length * B := StrLaws.sumLen_le texts h
end Kt
/-! What the law's defs need besides. -/
namespace Kt
open PySem PySem.Spec PyProof.Rows L2 TL
def tStrA : List V → Hp → VK → Prop := fun xs H Q => (∃ i, xs = [.int i] ∧ i.natAbs.log2 < 1920 ∧ Q (.str (toString i)) H) ∨ ∃ a, xs = [.str a] ∧ Q (.str a) H
theorem call_strA {X : Cx} : CallR X (.type "str") tStrA := by
  intro pins s σ H xs us Q I r h
  rcases h with ⟨i, e, hl, q⟩ | ⟨a, e, q⟩
  · exact call_str_int pins s σ H xs us Q I r ⟨i, e, hl, q⟩
  · exact SkE.call_str_str pins s σ H xs us Q I r ⟨a, e, q⟩
section
variable {K : PySem.W.Frag} {k : Ab → Prop}
theorem rc_strAI {n : Nat} (h : n ≤ 4) (hk : k (.d (.str (figS n)))) : RC K tStrA [.d (.int n)] k := by
  intro B H vs Q ex r kk
  obtain ⟨v, rfl, r1⟩ := one_rep r
  cases r1
  refine .inl ⟨_, rfl, small_log h, ?_⟩
  have e : (Str.ofString (toString (n : Int))) = figS n := fig_str h
  show Q (.str (Str.ofString (toString (n : Int)))) H
  rw [e]
  exact kk _ _ B H hk (Gp.refl ex) (.str _)
theorem rc_strAS {s : Str} (hk : k (.d (.str s))) : RC K tStrA [.d (.str s)] k := by
  intro B H vs Q ex r kk
  obtain ⟨v, rfl, r1⟩ := one_rep r
  cases r1
  exact .inr ⟨s, rfl, kk _ _ B H hk (Gp.refl ex) (.str _)⟩
end
/-- an Off list becomes a slot's own -/
theorem SD.ownOff {q : Cq} {B H : Hp} {σ : L2.St} {Γ : List En} {c i : Nat} {a : Addr} {xs : List V} {ds : List PyData} (S : SD q B H σ Γ c) (O : Off q B σ Γ a) (ha : H a = some (.lst xs)) (r : DqA B xs ds) : SD q B H (σ.set i (some (V.ref a))) (Γ.set i (.own ds)) c := by
  refine ⟨S.gs, by rw [List.length_set, List.length_set, S.len], fun j y e => ?_, fun j ds' e => ?_, fun j l d1 d2 e e' h => ?_, fun j e => ?_⟩
  · rcases getE_set e with ⟨rfl, hl, h2⟩ | ⟨hn, h2⟩
    · cases h2
    · obtain ⟨w, h3, h4⟩ := S.ab j y h2
      exact ⟨w, by rw [List.getElem?_set_ne hn]; exact h3, h4⟩
  · rcases getE_set e with ⟨rfl, hl, h2⟩ | ⟨hn, h2⟩
    · cases h2
      exact ⟨a, xs, List.getElem?_set_self (S.len ▸ hl), O.b, O.pi, O.h0, ha, r⟩
    · obtain ⟨a', xs', h3, h4⟩ := S.own j ds' h2
      exact ⟨a', xs', by rw [List.getElem?_set_ne hn]; exact h3, h4⟩
  · rcases getE_set e with ⟨rfl, hl, h2⟩ | ⟨hn, h2⟩
    · rcases getE_set e' with ⟨rfl, hl', h3⟩ | ⟨hn', h3⟩
      · rfl
      · rw [List.getElem?_set_self (S.len ▸ hl), List.getElem?_set_ne hn'] at h
        exact absurd h.symm (O.own l d2 h3)
    · rcases getE_set e' with ⟨rfl, hl', h3⟩ | ⟨hn', h3⟩
      · rw [List.getElem?_set_self (S.len ▸ hl'), List.getElem?_set_ne hn] at h
        exact absurd h (O.own j d1 h2)
      · rw [List.getElem?_set_ne hn, List.getElem?_set_ne hn'] at h
        exact S.one j l d1 d2 h2 h3 h
  · rcases getE_set e with ⟨rfl, hl, h2⟩ | ⟨hn, h2⟩
    · cases h2
    · obtain ⟨p, h3, h4⟩ := S.pur j h2
      exact ⟨p, h3, by rw [List.getElem?_set_ne hn]; exact h4⟩
/-- x = [e for k in range(n)], the list stays the body's own -/
theorem wr_lcRO {q : Cq} {Γ : List En} {c : Nat} {A : AE} {te : TE} {i j : Nat} {tt : TT} {t : TA} (h : EvA q t Γ c fun xs c1 => ∃ n : Int, xs = [.d (.int n)] ∧ -100000 ≤ n ∧ n ≤ 100000 ∧ ∃ I : Nat → List PyData → Nat → Prop, I 0 [] c1 ∧
    (∀ (i : Nat) acc c', (i : Int) < n → I i acc c' → EvT q tt (Γ.set j (.ab (.d (.int (i : Int))))) c' fun b c2 => (b = true → EvN q te (Γ.set j (.ab (.d (.int (i : Int))))) c2 fun y c3 => ∃ dy, y = .d dy ∧ acc.length < 100000 ∧ I (i + 1) (acc ++ [dy]) c3) ∧ (b = false → I (i + 1) acc c2)) ∧
    ∀ acc c', I n.toNat acc c' → A.nx (Γ.set i (.own acc)) c') : RunN q (tAsg (tLc (iRng1 t) (gName j) tt te [j]) (gName i)) Γ c A := by
  intro B H σ D S L
  refine h B H σ _ S fun xs c1 vs B1 H1 h1 g1 S1 r1 => ?_
  obtain ⟨n, rfl, hn1, hn2, I, h2, h3, h4⟩ := h1
  obtain ⟨v, rfl, r2⟩ := one_rep r1
  cases r2
  refine ⟨n, rfl, by omega, by omega, fun Da hD => lc_range (lo := 0) (n := n.toNat) (fun i H' => Cv q Γ B1 H1 σ Da (I i) H') (cv_start S1 hD h2) (fun i H' hi hp => ?_) (fun H' hp => ?_)⟩
  · have e0 : (0 : Int) + (i : Int) = (i : Int) := Int.zero_add _
    rw [e0]
    exact cv_turn hD hp (.int _) fun acc c' hI => h3 i acc c' (by omega) hI
  · obtain ⟨B', xs, acc, c', g, S', O, hDa, ha, hI⟩ := hp
    exact L.nx _ c' _ B' H' (h4 acc c' hI) (g1.b.trans g.b) (S'.ownOff O hDa ha)
/-! ### texts that are drawn -/
def modeB (s : Str) : Bool := decide (1 ≤ s.length) && decide (s.length ≤ 8) && s.cps.toList.all (fun x => decide (97 ≤ x) && decide (x ≤ 122)) && decide (s ≠ "and")
theorem modeB_ok {s : Str} (h : modeB s = true) : ModeOk s := by
  unfold modeB at h
  rw [Bool.and_eq_true, Bool.and_eq_true, Bool.and_eq_true] at h
  obtain ⟨⟨⟨h1, h2⟩, h3⟩, h4⟩ := h
  refine ⟨⟨of_decide_eq_true h1, of_decide_eq_true h2, fun x hx => ?_⟩, of_decide_eq_true h4⟩
  have := List.all_eq_true.mp h3 x hx
  rw [Bool.and_eq_true] at this
  exact ⟨of_decide_eq_true this.1, of_decide_eq_true this.2⟩
def tagL : List Str := ["if", "not", "in", "full", "few", "whole", "above", "keep", "skip", "read", "mode", "put", "loss", "ask", "room", "wants", "modes", "plain", "ands", "an"]
theorem tagL_ok {s : Str} (h : s ∈ tagL) : ModeOk s := modeB_ok (List.all_eq_true.mp (by decide +kernel : tagL.all modeB = true) s h)
theorem word_cut {a b : Str} (ha : WordOk a) (hb : WordOk b) : WordOk (cutS (a ++ b) none (some 8)) := by
  have e : tl (cutS (a ++ b) none (some 8)) = (tl (a ++ b)).take 8 := by
    unfold cutS
    have h8 : HT.sIx (a ++ b).length (a ++ b).length (some 8) = min 8 (a ++ b).length := HT.sIx_nat (a ++ b).length (a ++ b).length 8
    have hl := len_tl (a ++ b)
    simp only [HT.sIx_none, h8]
    show ((tl (a ++ b)).drop 0).take _ = _
    rw [List.drop_zero, Nat.sub_zero, hl]
    by_cases h : 8 ≤ (tl (a ++ b)).length
    · rw [Nat.min_eq_left h]
    · rw [List.take_of_length_le (by omega), List.take_of_length_le (by omega)]
  have la := len_tl a
  have lo := ha.lo
  have hl2 : (tl (a ++ b)).length = (tl a).length + (tl b).length := by rw [tl_append, List.length_append]
  refine ⟨?_, ?_, fun x hx => ?_⟩
  · rw [len_tl, e, List.length_take]
    omega
  · rw [len_tl, e, List.length_take]
    omega
  · have hx : x ∈ tl (cutS (a ++ b) none (some 8)) := hx
    rw [e] at hx
    have := List.mem_of_mem_take hx
    rw [tl_append] at this
    rcases List.mem_append.mp this with h | h
    · exact ha.ch x h
    · exact hb.ch x h
theorem letter_at {d : Int} (h0 : 0 ≤ d) (h1 : d < 26) : ∃ x : Nat, atI (Str.ofString "abcdefghijklmnopqrstuvwxyz").cps.toList d = some x ∧ 97 ≤ x ∧ x ≤ 122 := by
  obtain ⟨j, rfl⟩ := Int.eq_ofNat_of_zero_le h0
  have hj : j < 26 := by omega
  refine ⟨97 + j, atI_nat ?_, by omega, by omega⟩
  have := (by decide : ∀ m : Fin 26, (Str.ofString "abcdefghijklmnopqrstuvwxyz").cps.toList[m.val]? = some (97 + m.val)) ⟨j, hj⟩
  exact this
/-! ### deeds one by one -/
def Ds.its : Ds → List (Sum Dd Str)
  | .one d => [.inl d]
  | .two d m => [.inl d, .inr m]
  | .goal m => [.inr m]
theorem its_datas (ds : Ds) : ds.its.map (Sum.elim Dd.data goalData) = ds.datas := by cases ds <;> rfl
theorem its_texts (ds : Ds) : ds.its.map (Sum.elim Dd.text goalText) = ds.texts := by cases ds <;> rfl
theorem its_len (ds : Ds) : ds.its.length = ds.texts.length := by cases ds <;> rfl
theorem its_dd {ds : Ds} {room : Nat} {ms : List Str} {o : Oc} (h : ds.ok room ms o) {d : Dd} (hd : .inl d ∈ ds.its) : d.ok room o := by
  cases ds with
  | one e =>
    have : d = e := by simpa [Ds.its] using hd
    rw [this]
    exact h
  | two e m =>
    have : d = e := by simpa [Ds.its] using hd
    rw [this]
    exact h.1
  | goal m => simp [Ds.its] at hd
theorem its_m {ds : Ds} {room : Nat} {ms : List Str} {o : Oc} (h : ds.ok room ms o) {m : Str} (hd : .inr m ∈ ds.its) : m ∈ ms := by
  cases ds with
  | one e => simp [Ds.its] at hd
  | two e n =>
    have : m = n := by simpa [Ds.its] using hd
    rw [this]
    exact h.2
  | goal n =>
    have : m = n := by simpa [Ds.its] using hd
    rw [this]
    exact h.2
theorem ev_first (e : Ev) : ∀ m, m < e.ix → evW[m]? ≠ some e.word := by
  intro m hm
  cases e with
  | put r => exact absurd hm (Nat.not_lt_zero m)
  | take r => match m, hm with | 0, _ => exact (by decide : evW[0]? ≠ some (Str.ofString "take"))
  | move a b => match m, hm with | 0, _ => exact (by decide : evW[0]? ≠ some (Str.ofString "move")) | 1, _ => exact (by decide : evW[1]? ≠ some (Str.ofString "move"))
  | ask => match m, hm with | 0, _ => exact (by decide : evW[0]? ≠ some (Str.ofString "ask")) | 1, _ => exact (by decide : evW[1]? ≠ some (Str.ofString "ask")) | 2, _ => exact (by decide : evW[2]? ≠ some (Str.ofString "ask"))
theorem sm6 {n : Nat} (h : Nat.ble (n + 1) 6 = true) : n < 6 := Nat.le_of_ble_eq_true h
theorem ixN_nat {n j : Nat} (h : j < n) : ixN n (j : Int) = some j := by
  unfold ixN
  rw [if_pos (by omega : (0 : Int) ≤ (j : Int)), if_pos (by omega : (j : Int) < (n : Int))]
  simp
end Kt
/-! repr of containers: what stands round the call is carried along. -/
namespace Kt
open PySem PySem.Spec PyProof.Rows L2
/-! ### repr -/
def rRepr (K : PySem.W.Frag) : List V → Hp → VK → Prop := fun xs H Q => ∃ a d, xs = [.ref a] ∧ Dp K H (.ref a) d ∧ d.showable = true ∧ d.hasDict = false ∧ d.depth ≤ 60 ∧ d.shown.length ≤ sizeLine ∧ Q (.str d.shown) H
theorem cr_repr {X : Cx} (hg : X.A.guards = some []) (hu : X.A.units + 65 < cLine) : CallR X (.builtin "repr") (rRepr X.K) := by
  intro pins s σ H xs us Q I r h
  obtain ⟨a, d, rfl, hd, h1, h2, h3, h4, q⟩ := h
  obtain ⟨u, rfl, ru⟩ := vals1 r
  cases ru
  obtain ⟨as, rd⟩ := Dp.reads I d (.ref a) (.ref a) hd rfl
  exact repr_of_reads' rd h1 (fun z => absurd (h2.symm.trans z) Bool.false_ne_true) hg (by omega) (fun _ _ e => e) (fun h' t tk hk => ⟨.str d.shown, H, I.kept (t' := tk) hk, ⟨t, rfl⟩, q⟩) h4
structure Shw (n : Nat) (d : PyData) : Prop where
  s : d.showable = true
  nd : d.hasDict = false
  dp : d.depth ≤ 60
  len : d.shown.length ≤ n
theorem rc_repr {K : PySem.W.Frag} {k : Ab → Prop} {ds : List PyData} (h : Shw 100000 (.list ds)) (hk : k (.d (.str (PyData.list ds).shown))) : RC K (rRepr K) [.d (.list ds)] k := by
  intro B H vs Q ex r kk
  obtain ⟨v, rfl, r1⟩ := one_rep r
  have r2 := Dq.mono ex _ _ r1
  cases r1 with
  | lst a1 a2 => exact ⟨_, _, rfl, Dq.dp _ _ r2, h.s, h.nd, h.dp, szl h.len, kk _ _ B H hk (Gp.refl ex) (.str _)⟩
theorem rc_reprT {K : PySem.W.Frag} {k : Ab → Prop} {ds : List PyData} (h : Shw 100000 (.tuple ds)) (hk : k (.d (.str (PyData.tuple ds).shown))) : RC K (rRepr K) [.d (.tuple ds)] k := by
  intro B H vs Q ex r kk
  obtain ⟨v, rfl, r1⟩ := one_rep r
  have r2 := Dq.mono ex _ _ r1
  cases r1 with
  | tup a1 a2 => exact ⟨_, _, rfl, Dq.dp _ _ r2, h.s, h.nd, h.dp, szl h.len, kk _ _ B H hk (Gp.refl ex) (.str _)⟩
/-! ### what is shown is short -/
theorem shw_int {i : Int} (h : i.natAbs < 10 ^ 100) : Shw 101 (.int i) := by
  have h2 : i.natAbs < 2 ^ 1920 := Nat.lt_trans h (by decide +kernel)
  have h3 : i.natAbs.log2 < 1920 := by
    by_cases h0 : i.natAbs = 0
    · rw [h0]
      decide
    · exact (Nat.log2_lt h0).mpr h2
  refine ⟨?_, by simp [PyData.hasDict], by simp [PyData.depth], ?_⟩
  · show decide (i.natAbs.log2 < 1920) = true
    exact decide_eq_true h3
  · have e := int_text_length_le10 (k := 100) (by decide) h
    show (Str.ofString (toString i)).length ≤ 101
    rw [PySem.ofString_length]
    exact e
theorem shw_str {s : Str} (h : WordOk s) : Shw 101 (.str s) := by
  refine ⟨by simp [PyData.showable], by simp [PyData.hasDict], by simp [PyData.depth], ?_⟩
  have e := StrLaws.reprText_len s fun c hc => by
    have := (h.ch c hc).2
    omega
  have := h.hi
  show (reprText s).length ≤ 101
  omega
theorem shw_all {n m : Nat} : ∀ {ds : List PyData}, (∀ d, d ∈ ds → Shw n d ∧ d.depth ≤ m) → PyData.showableAll ds = true ∧ PyData.hasDictAll ds = false ∧ PyData.depthAll ds ≤ m ∧ ((PyData.shownAll ds).map (·.length)).sum ≤ ds.length * n ∧ (PyData.shownAll ds).length = ds.length
  | [], _ => ⟨by simp [PyData.showableAll], by simp [PyData.hasDictAll], by simp [PyData.depthAll], by simp [PyData.shownAll], by simp [PyData.shownAll]⟩
  | d :: r, h => by
    obtain ⟨h1, h2, h3, h4, h5⟩ := shw_all (ds := r) fun x hx => h x (by simp [hx])
    obtain ⟨h6, h7⟩ := h d (by simp)
    refine ⟨by simp [PyData.showableAll, h1, h6.s], by simp [PyData.hasDictAll, h2, h6.nd], ?_, ?_, by simp [PyData.shownAll, h5]⟩
    · simp only [PyData.depthAll]
      omega
    · simp only [PyData.shownAll, List.map_cons, List.sum_cons, List.length_cons]
      have := h6.len
      rw [Nat.succ_mul]
      omega
theorem shw_tup {n m : Nat} {ds : List PyData} (h : ∀ d, d ∈ ds → Shw n d ∧ d.depth ≤ m) (hm : m + 1 ≤ 60) : Shw (ds.length * n + 2 * ds.length + 3) (.tuple ds) ∧ PyData.depth (.tuple ds) ≤ m + 1 := by
  obtain ⟨h1, h2, h3, h4, h5⟩ := shw_all h
  have hd : PyData.depth (.tuple ds) ≤ m + 1 := by
    simp only [PyData.depth]
    omega
  refine ⟨⟨by simp [PyData.showable, h1], by simp [PyData.hasDict, h2], by omega, ?_⟩, hd⟩
  have e := tupleText_len_le (PyData.shownAll ds)
  rw [h5] at e
  show (tupleText (PyData.shownAll ds)).length ≤ _
  omega
theorem shw_list {n m : Nat} {ds : List PyData} (h : ∀ d, d ∈ ds → Shw n d ∧ d.depth ≤ m) (hm : m + 1 ≤ 60) : Shw (ds.length * n + 2 * ds.length + 3) (.list ds) := by
  obtain ⟨h1, h2, h3, h4, h5⟩ := shw_all h
  refine ⟨by simp [PyData.showable, h1], by simp [PyData.hasDict, h2], by simp only [PyData.depth]; omega, ?_⟩
  have e := listText_len_le (PyData.shownAll ds)
  rw [h5] at e
  show (listText (PyData.shownAll ds)).length ≤ _
  omega
theorem Shw.mono {n m : Nat} {d : PyData} (h : Shw n d) (e : n ≤ m) : Shw m d := ⟨h.s, h.nd, h.dp, Nat.le_trans h.len e⟩
theorem shw_price {a b : Int} (ha : a.natAbs < 10 ^ 100) (hb : b.natAbs < 10 ^ 100) : Shw 100000 (.tuple [.int a, .int b]) :=
  (shw_tup (n := 101) (m := 0) (fun d hd => by
    rcases (show d = .int a ∨ d = .int b by simpa using hd) with rfl | rfl
    · exact ⟨shw_int ha, by simp [PyData.depth]⟩
    · exact ⟨shw_int hb, by simp [PyData.depth]⟩) (by decide)).1.mono (sm rfl)
theorem shw_state {ks : List Int} {m : Str} {n : Int} (hk : ks.length ≤ 4) (hks : ∀ x, x ∈ ks → x.natAbs < 10 ^ 100) (hm : WordOk m) (hn : n.natAbs < 10 ^ 100) : Shw 100000 (.list [.tuple (ks.map .int), .str m, .int n]) := by
  have ht := shw_tup (n := 101) (m := 0) (ds := ks.map .int) (fun d hd => by
    obtain ⟨x, hx, rfl⟩ := List.mem_map.mp hd
    exact ⟨shw_int (hks x hx), by simp [PyData.depth]⟩) (by decide)
  rw [List.length_map] at ht
  refine (shw_list (n := 1000) (m := 1) (fun d hd => ?_) (by decide)).mono (sm rfl)
  rcases (show d = .tuple (ks.map .int) ∨ d = .str m ∨ d = .int n by simpa using hd) with rfl | rfl | rfl
  · exact ⟨ht.1.mono (by omega), ht.2⟩
  · exact ⟨(shw_str hm).mono (by decide), by simp [PyData.depth]⟩
  · exact ⟨(shw_int hn).mono (by decide), by simp [PyData.depth]⟩
/-! ### a def that asks that no repr is under way -/
structure FnG (P : Program) (w : World) (K : PySem.W.Frag) (mg : Str → Option Value) (base : Heap) (j : Nat) (g : Addr) (gd : FuncData) (ps : List Str) (sp : Sp) : Prop where
  ln : ∀ xs H Q E, sp xs H Q E → xs.length = ps.length
  go : ∀ (A : Around) (ov : List Env) (z : Shared) (H : Hp) (ar : Args) (us : List Value) (xs : List V) (Q : VK) (E : XK), A.guards = some [] → Room j A → Env0 P w K mg base A ov z H → BindsTo z gd ar (ps.zip us) → Vals xs us → sp xs H Q E →
    codeAny (model P w) A (.call (.ref g) ar) (CR CX0 ov P w H z Q E) z
theorem fnG_of {P : Program} {w : World} {K : PySem.W.Frag} {mg : Str → Option Value} {base : Heap} {x qual : Str} {pm : Arguments} {bd : List Stmt} {scp : Scope} {dvs : List V} {g : Addr} {gd : FuncData} {N ps : List Str} {j : Nat} {sp : Sp}
    (F : FunD K x qual pm bd scp dvs [] g gd) (S : FnScope N ps scp) (ln : ∀ xs H Q E, sp xs H Q E → xs.length = ps.length)
    (hb : ∀ (cdv : Value) (A : Around) (ov : List Env) (z : Shared) (H : Hp) (xs : List V) (Q : VK) (E : XK), A.guards = some [] → Room j (A.deeper (envOfC qual scp z.heap.objs.size g cdv)) → sp xs H Q E →
      ∃ t, PSs (cxOf CX0 P w K mg base N qual scp g cdv A ov z H E) bd t ∧ t ⟨fun _ H' => Q .non H', Q, fun _ _ => False, fun _ _ => False⟩ (start N xs) H) : FnG P w K mg base (j + 1) g gd ps sp := by
  obtain ⟨q1, q2, q3, q4, q5, q6, q7, cdv, q9, q10, rfl, lku, cin, _⟩ := F.ex
  refine ⟨ln, fun A ov z H ar us xs Q E hgu hro en bi rv hs => ?_⟩
  have l0 := ln _ _ _ _ hs
  have kz : K.In z.heap := en.mod.kin.keeps fun a o e => (en.bs a o e).1
  have nl : z.heap.NoLimit := en.mod.nolimit.keeps fun a o e => (en.bs a o e).1
  have kinds : ∀ y ∈ ps.zip us, scp.names.lookup y.1 = some .local ∨ (scp.names.lookup y.1 = some .cell ∧ ((cellsFrom (z.heap.objs.size + 1) scp.names []).lookup y.1).isSome = true) := fun ⟨n, v⟩ hy => by
    rcases S.par n (List.of_mem_zip hy).1 with h | h
    · exact .inl h
    · exact .inr ⟨h, PySem.W.cellsFrom_some _ _ _ (.inl h)⟩
  refine codeAny_call_function hro.depth (kz _ _ lku) rfl S.co S.gen rfl (PySem.W.codeRec_of kz cin) (bi _ _ _ _ ?_)
  refine wpAny_newFunctionEnv_cells S.kind kinds fun nv ev z1 xc => ?_
  subst ev
  refine ⟨nl.keeps xc.toInCall.keep, codeAny_func ?_⟩
  obtain ⟨t, ht, hrun⟩ := hb cdv A ov z H xs Q E hgu (hro.deeper _) hs
  have J0 : Inv (cxOf CX0 P w K mg base N qual scp g cdv A ov z H E) [] (start N xs) H z1 := inv_start S hro.hd en l0 rv xc
  refine wpAny_mono (ht.run [] z1 (start N xs) H _ J0 hrun) (fun fo z2 ho => ?_) fun _ _ ho => ho
  cases fo with
  | ret u =>
    obtain ⟨y, _, H2, J, rel, hq⟩ := ho
    exact ⟨y, H2, J.os, J.bare, J.base, J.hok, rel, hq⟩
  | next =>
    obtain ⟨_, H2, J, hq⟩ := ho
    exact ⟨V.non, H2, J.os, J.bare, J.base, J.hok, rfl, hq⟩
  | brk =>
    obtain ⟨_, _, _, hq⟩ := ho
    exact False.elim hq
  | cont =>
    obtain ⟨_, _, _, hq⟩ := ho
    exact False.elim hq
structure FNG (P : Program) (w : World) (K : PySem.W.Frag) (mg : Str → Option Value) (base : Heap) (n : Nat) (x : Str) (ps : List Str) (sp : Sp) : Prop where
  gl : mg x = some (.ref (He.ga K x))
  kp : PySem.W.keepIn K (.ref (He.ga K x)) = true
  fn : ∃ fd, FnG P w K mg base n (He.ga K x) fd ps sp ∧ Binds K fd ps []
theorem pe_fnG {X : Cx} {n j : Nat} {x : Str} {ps : List Str} {sp : Sp} {p pos : Pos} {e : Expr} {es : List Expr} {t : TA} (F : FNG X.prog X.w X.K X.mg X.base n x ps sp) (hgu : X.A.guards = some []) (hr : Room j X.A) (hj : Nat.ble n j = true) (ha : PA X (e :: es) t) (hg : Gl X x := by rfl)
    (hdb : (x == ("__debug__" : Str)) = false := by decide) (he : starEach (e :: es) X.env = (false, eval e X.env) :: starEach es X.env := by rfl) (hpl : (backTo pos (starEach es X.env)).any (·.1) = false := by rfl) :
    PE X (.Call (.Name x p) (e :: es) [] pos) (tCall sp [] E0 t) := by
  obtain ⟨fd, h1, h2⟩ := F.fn
  have hro := hr.mono (Nat.le_of_ble_eq_true hj)
  refine ⟨fun qs z σ H Q J hq => wpAny_Call_Name_kw (ld_glob J hg F.gl ?_ hdb)⟩
  refine PySem.W.callWith_K (h₀ := X.base) J.ok.mod.kin F.kp (thn (ha.run pos qs z σ H _ J hq) fun ws z1 ⟨vs, H1, J1, rel, q1⟩ => ⟨J1.kIn, ?_⟩) he hpl
  have hl : (ws ++ []).length = ps.length := by
    rw [List.append_nil, ← rel.length]
    have := h1.ln _ _ _ _ q1
    rwa [List.append_nil] at this
  have hb := h2 z1 ws J1.kIn hl
  have q1 : sp (vs ++ []) H1 Q E0 := q1
  rw [List.append_nil] at hb q1
  refine wpAny_call (codeAny_mono (h1.go X.A X.stack z1 H1 ⟨ws, []⟩ ws vs Q E0 hgu hro J1.env0 hb rel q1) fun fo z2 ho => ?_)
  cases fo with
  | error e => exact pass0 qs σ H1 z1 e z2 J1 ho
  | ok fl =>
    cases fl with
    | ret u => exact J1.after ho
    | next => exact ho.elim
    | brk => exact ho.elim
    | cont => exact ho.elim
/-! ### the own == of both classes; str of a program -/
def RP (K : PySem.W.Frag) : Addr → Addr → Hp → Prop := fun a b H => ∃ p : PD, p.ok ∧ RepP K H (.ref a) p.g ∧ RepP K H (.ref b) p.g
def RG (K : PySem.W.Frag) : Addr → Addr → Hp → Prop := fun a b H => ∃ (p : PD) (s : Stt), p.ok ∧ s.ok p ∧ Rep K H (.ref a) (.grp p.g s.data) ∧ Rep K H (.ref b) (.grp p.g s.data)
theorem op_P {X : Cx} {n j : Nat} (F : FM X.prog X.w X.K X.mg X.base n (He.ma X.K (He.ga X.K "Program") "__eq__") ["self", "other"] (spF X.K W_P_eq)) (h : DunF X.K "Program" "__eq__") (hr : Room j X.A) (hj : Nat.ble n j = true) : OpR X (compareOp .Eq) (rEqG (DIns (He.ga X.K "Program") (RP X.K))) := by
  obtain ⟨fd, h1, h2⟩ := F.fn
  refine op_eqG (rcG_ins (E := E0) (h1.imp (eq_imp fun a b H hR => ?_)) h.at_ h.fn h2 pass0) (hr.mono (Nat.le_of_ble_eq_true hj))
  obtain ⟨p, hp, r1, r2⟩ := hR
  exact ⟨.prog p.g, .prog p.g, r1, r2, fun k hk => ⟨p, rfl, hp, hk⟩⟩
theorem op_Gr {X : Cx} {n j : Nat} (F : FM X.prog X.w X.K X.mg X.base n (He.ma X.K (He.ga X.K "Group") "__eq__") ["self", "other"] (spF X.K W_G_eq)) (h : DunF X.K "Group" "__eq__") (hr : Room j X.A) (hj : Nat.ble n j = true) : OpR X (compareOp .Eq) (rEqG (DIns (He.ga X.K "Group") (RG X.K))) := by
  obtain ⟨fd, h1, h2⟩ := F.fn
  refine op_eqG (rcG_ins (E := E0) (h1.imp (eq_imp fun a b H hR => ?_)) h.at_ h.fn h2 pass0) (hr.mono (Nat.le_of_ble_eq_true hj))
  obtain ⟨p, s, hp, hs, r1, r2⟩ := hR
  exact ⟨.grp p.g s.data, .grp p.g s.data, r1, r2, fun k hk => ⟨p, s, rfl, hp, hs, hk⟩⟩
theorem rn_eqP {K : PySem.W.Frag} {k : Ab → Prop} {p : PD} (hp : p.ok) (hk : k (.d (.bool true))) : RN K (rEqG (DIns (He.ga K "Program") (RP K))) (.prog p.g) (.prog p.g) k := by
  refine rn_eqG (fun {B H v u} e r1 r2 => ?_) hk
  have m1 := RepP.mono e r1
  have m2 := RepP.mono e r2
  obtain ⟨a, dx, x1, x2, x3, rfl, ha, _⟩ := id m1
  obtain ⟨b, dy, y1, y2, y3, rfl, hb, _⟩ := id m2
  exact ⟨a, b, dx, dy, _, _, rfl, rfl, ha, hb, p, hp, m1, m2⟩
theorem rn_eqGr {K : PySem.W.Frag} {k : Ab → Prop} {p : PD} {s : Stt} (hp : p.ok) (hs : s.ok p) (hk : k (.d (.bool true))) : RN K (rEqG (DIns (He.ga K "Group") (RG K))) (.grp p.g s.data) (.grp p.g s.data) k := by
  refine rn_eqG (fun {B H v u} e r1 r2 => ?_) hk
  have m1 := Rep.mono e r1
  have m2 := Rep.mono e r2
  obtain ⟨a, dx, x1, x2, rfl, ha, _⟩ := id m1
  obtain ⟨b, dy, y1, y2, rfl, hb, _⟩ := id m2
  exact ⟨a, b, dx, dy, _, _, rfl, rfl, ha, hb, p, s, hp, hs, m1, m2⟩
theorem cs_own {X : Cx} {n j : Nat} {C f : Addr} {ps : List Str} {sp : Sp} (F : FM X.prog X.w X.K X.mg X.base n f ps sp) (hs : PySem.W.findIn X.K (.ref C) "__str__" = some (some (.ref f))) (hf : PySem.W.isFn X.K (.ref f) = true) (hr : Room j X.A) (hj : Nat.ble (n + 2) j = true) : CallR X (.type "str") (tStrOwn C sp) := by
  obtain ⟨fd, h1, h2⟩ := F.fn
  exact call_strOwn h1 h2 hs hf (hr.mono (Nat.le_of_ble_eq_true hj))
/-! ### calls by keywords alone, the names in the opposite order -/
theorem vals_rev : ∀ {zs : List V} {ws : List Value}, Vals zs ws → Vals zs.reverse ws.reverse
  | _, _, .nil => .nil
  | _, _, .cons a b => by
    rw [List.reverse_cons, List.reverse_cons]
    exact (vals_rev b).append (.cons a .nil)
theorem rep_rev {K : PySem.W.Frag} {B : Hp} : ∀ {vs : List V} {xs : List Ab}, RepA K B vs xs → RepA K B vs.reverse xs.reverse
  | _, _, .nil => .nil
  | _, _, .cons a b => by
    rw [List.reverse_cons, List.reverse_cons]
    exact (rep_rev b).append (.cons a .nil)
structure FNK (P : Program) (w : World) (K : PySem.W.Frag) (mg : Str → Option Value) (base : Heap) (n : Nat) (x : Str) (ps ks : List Str) (sp : Sp) : Prop where
  gl : mg x = some (.ref (He.ga K x))
  kp : PySem.W.keepIn K (.ref (He.ga K x)) = true
  fn : ∃ fd, FnOk P w K mg base CX0 n (He.ga K x) fd ps sp ∧ KBn K fd ps 0 ks (fun _ ws => ws.reverse) (fun _ zs => zs.reverse)
theorem bindsK {K : PySem.W.Frag} {x qual : Str} {pm : Arguments} {bd : List Stmt} {scp : Scope} {g : Addr} {gd : FuncData} {ps ks : List Str} (F : FunD K x qual pm bd scp [] [] g gd)
    (h : ∀ (kV doc m : Value) (an : Option Addr) (cdv ct : Value) (ws : List Value), ws.length = ks.length → bindArgs (PySem.W.fnOf x qual pm bd scp .none kV doc m an cdv ct) ⟨[], ks.zip ws⟩ = pure (ps.zip ws.reverse)) : KBn K gd ps 0 ks (fun _ ws => ws.reverse) (fun _ zs => zs.reverse) := by
  obtain ⟨q1, q2, q3, q4, q5, q6, q7, cdv, q9, q10, rfl, lku, cin, hd, _⟩ := F.ex
  refine ⟨fun s us ws _ l1 l2 => ?_, fun _ b => vals_rev b⟩
  rcases hd with ⟨_, rfl⟩ | ⟨e, _⟩
  · cases us with
    | nil => exact .of_eq (h _ _ _ _ _ _ ws l2)
    | cons a b => exact absurd l1 (by simp)
  · exact absurd rfl e
theorem pe_fnK {X : Cx} {n j : Nat} {x : Str} {ps ks : List Str} {sp : Sp} {p pos : Pos} {kws : List Keyword} {tk : TA} (F : FNK X.prog X.w X.K X.mg X.base n x ps ks sp) (hr : Room j X.A) (hj : Nat.ble n j = true) (hkw : PK X kws tk) (hg : Gl X x := by rfl)
    (hall : (backToKw pos (keywordEach kws X.env)).all (·.1.isSome) = true := by rfl) (hks : (backToKw pos (keywordEach kws X.env)).filterMap (·.1) = ks := by rfl) (hdb : (x == ("__debug__" : Str)) = false := by decide)
    (hpl : ((backTo pos (starEach [] X.env)).any (·.1) || (backToKw pos (keywordEach kws X.env)).any (·.1.isNone)) = false := by rfl) :
    PE X (.Call (.Name x p) [] kws pos) (tCallN 0 ks.length sp (fun _ zs => zs.reverse) E0 tNil tk) := by
  obtain ⟨fd, h1, h2⟩ := F.fn
  refine ⟨fun qs z σ H Q J hq => wpAny_Call_Name_kw (ld_glob J hg F.gl ?_ hdb)⟩
  refine PySem.W.callWith_KW0 (h₀ := X.base) J.ok.mod.kin F.kp hall ?_ hpl
  refine thn (hkw.run pos qs z σ H _ J hq) fun ws z2 ⟨zs, H2, J2, rz, l1, l2, q2⟩ => ⟨J2.kIn, ?_⟩
  rw [hks]
  exact run_fnN (us := []) (vs := []) h1 (hr.mono (Nat.le_of_ble_eq_true hj)) h2 pass0 J2 .nil rz rfl l2 q2
theorem wp_callR {q : Cq} {Γ : List En} {c : Nat} {k : Ab → Nat → Prop} {W : List Ab → (Ab → Prop) → Prop} {E : XK} {t : TA} {m : Nat} (h : EvA q t Γ c fun xs c1 => xs.length = m ∧ W xs.reverse fun z => k z c1) : EvN q (tCallN 0 m (spF q.K W) (fun _ zs => zs.reverse) E tNil t) Γ c k :=
  wp_callK (gA := List.reverse) (fun r _ => rep_rev r) h
/-! ### a def with a purse that asks that no repr is under way -/
theorem ok_pG {P : Program} {w : World} {K : PySem.W.Frag} {mg : Str → Option Value} {base : Heap} {x qual : Str} {pm : Arguments} {bd : List Stmt} {scp : Scope} {dvs : List V} {g : Addr} {gd : FuncData} {N ps : List Str} {n : Nat} {W : List Ab → Nat → (Ab → Nat → Prop) → Prop} (F : FunD K x qual pm bd scp dvs [] g gd) (S : FnScope N ps scp)
    (ln : ∀ xs c k, W xs c k → xs.length + 1 = ps.length)
    (hb : ∀ (cdv : Value) (A : Around) (ov : List Env) (z : Shared) (H : Hp) (E : XK), A.guards = some [] → Room n (A.deeper (envOfC qual scp z.heap.objs.size g cdv)) →
      ∃ t, PSs (cxOf CX0 P w K mg base N qual scp g cdv A ov z H E).nox bd t ∧ ∀ (π : Option Addr) (B0 H0 : Hp) (xs : List Ab) (c : Nat) (k : Ab → Nat → Prop), W xs c k →
        RunN ⟨K, π, B0, H0⟩ t (En.pur :: (xs.map En.ab ++ List.replicate (N.length - (xs.length + 1)) En.no)) c ⟨fun _ c => k (.d .none) c, k, fun _ _ => False, fun _ _ => False⟩) :
    FnG P w K mg base (n + 1) g gd ps (spP K W) := by
  refine fnG_of F S (fun vs H Q E h => ?_) (fun cdv A ov z H vs Q E hgu hr h => ?_)
  · obtain ⟨p, us, B, xs, c, k, rfl, h1, h2, h3, h4, h5, h6⟩ := h
    rw [List.length_cons, h4.length]
    exact ln xs c k h5
  · obtain ⟨p, us, B, xs, c, k, rfl, h1, h2, h3, h4, h5, h6⟩ := h
    obtain ⟨t, ht, hrun⟩ := hb cdv A ov z H E hgu hr
    refine ⟨t, PSs.nox ht, ?_⟩
    refine hrun (some p) B H xs c k h5 B H _ _ (sd1 h1 h2 h3 h4) ⟨fun Γ c σ B' H' h7 _ S' => ?_, fun y c v B' H' h7 g r => ?_, fun _ _ _ _ _ h7 => h7.elim, fun _ _ _ _ _ h7 => h7.elim⟩
    · obtain ⟨z1, z2⟩ := S'.gs.ps p rfl
      exact h6 _ c _ B' H' h7 S'.gs.g z1 z2 .non
    · obtain ⟨z1, z2⟩ := g.ps p rfl
      exact h6 _ c _ B' H' h7 g.g z1 z2 r
end Kt
/-! What holds along the drawn events. -/
namespace Kt
open PySem PySem.Spec PyProof.Rows L2
def KB (s : Stt) : Prop := ∀ v, v ∈ s.kept → 0 ≤ v ∧ v < s.size
theorem kb_rd {mode : Str} {size : Int} {count : Nat} (h0 : 0 ≤ size) : KB (rdF mode size count).1 := fun v hv => by
  have hv : v ∈ (List.range (if size < (count : Int) then size else (count : Int)).toNat).map Int.ofNat := hv
  obtain ⟨j, hj, rfl⟩ := List.mem_map.mp hv
  have hj := List.mem_range.mp hj
  show 0 ≤ (j : Int) ∧ (j : Int) < size
  split at hj <;> omega
theorem kb_up {kept : List Int} {r size : Int} (h : ∀ v, v ∈ kept → 0 ≤ v ∧ v < size) : ∀ v, v ∈ upF r kept → 0 ≤ v ∧ v < size + 1 := fun v hv => by
  obtain ⟨u, hu, rfl⟩ := List.mem_map.mp hv
  have := h u hu
  split <;> omega
theorem kb_down {kept : List Int} {r size : Int} (hr : 0 ≤ r ∧ r < size) (h : ∀ v, v ∈ kept → 0 ≤ v ∧ v < size) : ∀ v, v ∈ downF r kept → 0 ≤ v ∧ v < size - 1 := fun v hv => by
  obtain ⟨u, hu, rfl⟩ := List.mem_map.mp hv
  obtain ⟨h1, h2⟩ := List.mem_filter.mp hu
  have h3 := h u h1
  have h4 : u ≠ r := of_decide_eq_true h2
  split <;> omega
theorem kb_put {p : PD} {s : Stt} {r : Int} (h0 : 0 ≤ s.size) (hr : 0 ≤ r ∧ r < s.size + 1) (h : KB s) : KB (putF p s r).1 := by
  unfold putF
  generalize p.deed .put s.mode s.kept.length (decide ((s.kept.length : Int) = s.size)) (aboveF s.kept r) = d
  show KB (if d.word = "read" then rdF d.mode (s.size + 1) d.count else (⟨d.mode, s.size + 1, if d.word = "keep" then (sortI (upF r s.kept ++ [r])).take p.room else upF r s.kept⟩, [])).1
  split
  · exact kb_rd (by omega)
  · intro v hv
    have hv : v ∈ (if d.word = "keep" then (sortI (upF r s.kept ++ [r])).take p.room else upF r s.kept) := hv
    show 0 ≤ v ∧ v < s.size + 1
    split at hv
    · have h1 := (sortI_perm _).mem_iff.mp (List.mem_of_mem_take hv)
      rcases List.mem_append.mp h1 with z | z
      · exact kb_up h v z
      · rw [List.mem_singleton.mp z]
        exact hr
    · exact kb_up h v hv
theorem kb_take {p : PD} {s : Stt} {r : Int} (hr : 0 ≤ r ∧ r < s.size) (h : KB s) : KB (takeF p s r).1 := by
  unfold takeF
  split
  · generalize p.deed .loss s.mode (downF r s.kept).length (decide (((downF r s.kept).length : Int) = s.size - 1)) false = d
    show KB (if d.word = "read" then rdF d.mode (s.size - 1) d.count else (⟨d.mode, s.size - 1, downF r s.kept⟩, [])).1
    split
    · exact kb_rd (by omega)
    · exact kb_down hr h
  · exact kb_down hr h
theorem kb_ask {p : PD} {s : Stt} (h0 : 0 ≤ s.size) (h : KB s) : KB (askF p s).1 := by
  unfold askF
  generalize p.deed .ask s.mode s.kept.length (decide ((s.kept.length : Int) = s.size)) false = d
  show KB (if d.word = "read" then rdF d.mode s.size d.count else (⟨d.mode, s.size, s.kept⟩, [])).1
  split
  · exact kb_rd h0
  · exact h
theorem kb_step {p : PD} {s : Stt} (hp : p.ok) (hs : s.ok p) {e : Ev} (he : e.ok s.size) (h : KB s) : KB (stepF p s e).1 := by
  have h0 := hs.s0
  cases e with
  | ask => exact kb_ask h0 h
  | put r => exact kb_put h0 he h
  | take r => exact kb_take he h
  | move a b =>
    have he : 0 ≤ a ∧ a < s.size ∧ 0 ≤ b ∧ b < s.size := he
    have h1 := stok_take hp hs (by omega) a
    have h2 := kb_take (p := p) ⟨he.1, he.2.1⟩ h
    refine kb_put h1.ok.s0 ?_ h2
    rw [h1.sz]
    omega
structure NowOk (p : PD) (x : Stt × List Int) (b : Nat) (m : Int) : Prop where
  run : RunOk p x b
  kb : KB x.1
  sz : x.1.size ≤ m
theorem now_gen {p : PD} (hp : p.ok) : ∀ {es : List Ev} {x : Stt × List Int} {i b : Nat} {m : Int}, NowOk p x b m → EvsOk x.1.size es →
    NowOk p (runF p x (es.take i)) (b + 2 * i) (m + i) ∧ EvsOk x.1.size (es.take i) ∧ ∀ e, es[i]? = some e → e.ok (runF p x (es.take i)).1.size ∧ runF p x (es.take (i + 1)) = ((stepF p (runF p x (es.take i)).1 e).1, (runF p x (es.take i)).2 ++ (stepF p (runF p x (es.take i)).1 e).2)
  | [], x, i, b, m, h, _ => by
    refine ⟨?_, ?_, fun e he => by simp at he⟩
    · rw [List.take_nil]
      exact ⟨⟨h.run.ok, Nat.le_trans h.run.few (by omega), h.run.small⟩, h.kb, by have := h.sz; show x.1.size ≤ _; omega⟩
    · rw [List.take_nil]
      trivial
  | e :: r, x, 0, b, m, h, he => by
    refine ⟨⟨⟨h.run.ok, Nat.le_trans h.run.few (by omega), h.run.small⟩, h.kb, by have := h.sz; show x.1.size ≤ _; omega⟩, trivial, fun e' h' => ?_⟩
    have e2 : e = e' := Option.some.inj h'
    subst e2
    exact ⟨he.1, rfl⟩
  | e :: r, x, i + 1, b, m, h, he => by
    have hst := stt_step hp h.run.ok he.1
    have h2 : NowOk p ((stepF p x.1 e).1, x.2 ++ (stepF p x.1 e).2) (b + 2) (m + 1) := by
      refine ⟨⟨hst.ok, ?_, fun c hc => ?_⟩, kb_step hp h.run.ok he.1 h.kb, ?_⟩
      · rw [List.length_append]
        have := h.run.few
        have := hst.few
        omega
      · rcases List.mem_append.mp hc with hc | hc
        · exact h.run.small c hc
        · exact hst.small c hc
      · show (stepF p x.1 e).1.size ≤ m + 1
        rw [hst.sz]
        have := h.sz
        cases e with
        | put a => show x.1.size + 1 ≤ m + 1; omega
        | take a => show x.1.size - 1 ≤ m + 1; omega
        | move a b => show x.1.size ≤ m + 1; omega
        | ask => show x.1.size ≤ m + 1; omega
    have h3 := now_gen hp (es := r) (i := i) h2 (by
      show EvsOk (stepF p x.1 e).1.size r
      rw [hst.sz]
      exact he.2)
    obtain ⟨g1, g2, g3⟩ := h3
    have g2 : EvsOk (stepF p x.1 e).1.size (r.take i) := g2
    rw [hst.sz] at g2
    refine ⟨?_, ⟨he.1, g2⟩, fun e' h' => g3 e' h'⟩
    rw [show b + 2 * (i + 1) = b + 2 + 2 * i by omega, show m + ((i + 1 : Nat) : Int) = m + 1 + (i : Int) by omega]
    exact g1
theorem now_init {p : PD} (hp : p.ok) {n : Int} (h0 : 0 ≤ n) : NowOk p (p.init n, []) 0 n := ⟨⟨init_ok hp h0, Nat.le_refl 0, fun c hc => (by cases hc)⟩, fun v hv => (by cases hv), Int.le_refl n⟩
/-- prices that are bounded -/
structure PrB (ps : List Int) : Prop where
  ok : PricesOk ps
  hi : ∀ x, x ∈ ps → x ≤ 200000000000000000000
theorem getI_bd {ps : List Int} (h : PrB ps) (i : Nat) : 0 ≤ getI ps i ∧ getI ps i ≤ 200000000000000000000 := by
  unfold getI
  rw [List.getD_eq_getElem?_getD]
  cases e : ps[i]? with
  | none => exact ⟨by decide, by decide⟩
  | some x => exact ⟨h.ok.pos x (List.mem_of_getElem? e), h.hi x (List.mem_of_getElem? e)⟩
theorem sum_bd {b : Int} : ∀ {l : List Int}, (∀ x, x ∈ l → 0 ≤ x ∧ x ≤ b) → 0 ≤ l.sum ∧ l.sum ≤ (l.length : Int) * b
  | [], _ => ⟨Int.le_refl 0, by simp⟩
  | x :: r, h => by
    have h1 := h x (by simp)
    have h2 := sum_bd (l := r) fun y hy => h y (by simp [hy])
    rw [List.sum_cons, List.length_cons]
    have e : ((r.length + 1 : Nat) : Int) * b = (r.length : Int) * b + b := by
      rw [Int.natCast_add, Int.add_mul]
      simp
    rw [e]
    omega
theorem paid_bd {ps : List Int} (h : PrB ps) {es : List Ev} (hl : es.length ≤ 100) : (paidF ps es).natAbs < 10 ^ 100 := by
  have h1 := sum_bd (b := 200000000000000000000) (l := es.map fun e => getI ps e.ix) fun x hx => by
    obtain ⟨e, _, rfl⟩ := List.mem_map.mp hx
    exact getI_bd h e.ix
  rw [List.length_map] at h1
  have h3 : (es.length : Int) * 200000000000000000000 ≤ 100 * 200000000000000000000 := by omega
  have h4 : paidF ps es = (es.map fun e => getI ps e.ix).sum := rfl
  have h5 : (paidF ps es).natAbs ≤ 20000000000000000000000 := by omega
  exact Nat.lt_of_le_of_lt h5 (by decide +kernel)
theorem reads_bd {ps : List Int} (h : PrB ps) {cs : List Int} (hl : cs.length ≤ 1000) (hc : ∀ n, n ∈ cs → 0 ≤ n ∧ n ≤ 4) : (readsF ps cs).natAbs < 10 ^ 100 := by
  have h1 := sum_bd (b := 1000000000000000000000) (l := cs.map fun n => getI ps 4 + getI ps 5 * n) fun x hx => by
    obtain ⟨n, hn, rfl⟩ := List.mem_map.mp hx
    have g4 := getI_bd h 4
    have g5 := getI_bd h 5
    have hn := hc n hn
    have m1 : 0 ≤ getI ps 5 * n := Int.mul_nonneg g5.1 hn.1
    have m2 : getI ps 5 * n ≤ 200000000000000000000 * 4 := Int.mul_le_mul g5.2 hn.2 hn.1 (by decide)
    omega
  rw [List.length_map] at h1
  have h3 : (cs.length : Int) * 1000000000000000000000 ≤ 1000 * 1000000000000000000000 := by omega
  have h4 : readsF ps cs = (cs.map fun n => getI ps 4 + getI ps 5 * n).sum := rfl
  have h5 : (readsF ps cs).natAbs ≤ 1000000000000000000000000 := by omega
  exact Nat.lt_of_le_of_lt h5 (by decide +kernel)
theorem shw_priceD {ps : List Int} (h : PrB ps) {es : List Ev} (hl : es.length ≤ 100) {cs : List Int} (hcl : cs.length ≤ 1000) (hc : ∀ n, n ∈ cs → 0 ≤ n ∧ n ≤ 4) : Shw 100000 (.tuple [.int (paidF ps es), .int (readsF ps cs)]) := shw_price (paid_bd h hl) (reads_bd h hcl hc)
def bothF (a b : List Int) : List Int := (List.range 6).map fun i => getI a i + getI b i
theorem getI_bd1 {ps : List Int} (h : PricesOk ps) (hh : ∀ x, x ∈ ps → x ≤ 100000000000000000000) (i : Nat) : 0 ≤ getI ps i ∧ getI ps i ≤ 100000000000000000000 := by
  unfold getI
  rw [List.getD_eq_getElem?_getD]
  cases e : ps[i]? with
  | none => exact ⟨by decide, by decide⟩
  | some x => exact ⟨h.pos x (List.mem_of_getElem? e), hh x (List.mem_of_getElem? e)⟩
theorem prb_both {a b : List Int} (ha : PricesOk a) (hah : ∀ x, x ∈ a → x ≤ 100000000000000000000) (hb : PricesOk b) (hbh : ∀ x, x ∈ b → x ≤ 100000000000000000000) : PrB (bothF a b) := by
  have h : ∀ x, x ∈ bothF a b → 0 ≤ x ∧ x ≤ 200000000000000000000 := fun x hx => by
    obtain ⟨i, _, rfl⟩ := List.mem_map.mp hx
    have := getI_bd1 ha hah i
    have := getI_bd1 hb hbh i
    omega
  exact ⟨⟨by unfold bothF; rw [List.length_map, List.length_range], fun x hx => (h x hx).1⟩, fun x hx => (h x hx).2⟩
theorem prb_of {a : List Int} (ha : PricesOk a) (hah : ∀ x, x ∈ a → x ≤ 100000000000000000000) : PrB a := ⟨ha, fun x hx => by have := hah x hx; omega⟩
theorem price_at {ps : List Int} (h : PricesOk ps) {i : Nat} (hi : i < 6) : atI (ps.map PyData.int) ((i : Nat) : Int) = some (.int (getI ps i)) := by
  have h6 := h.six
  have h7 : i < ps.length := by omega
  refine atI_nat ?_
  rw [List.getElem?_map, List.getElem?_eq_getElem h7]
  unfold getI
  rw [List.getD_eq_getElem?_getD, List.getElem?_eq_getElem h7]
  rfl
theorem evs_cut (es : List Ev) (i : Nat) : cutD (es.map Ev.data) none (some (i : Int)) = (es.take i).map Ev.data := by
  rw [cut_take, List.map_take]
def W_law_right : WP := fun xs c k => xs = [] ∧ c ≤ 100 ∧ ∀ c', k (.d (.bool true)) c'
end Kt
namespace Kt
open PySem PySem.Spec PyProof.Rows L2
local macro_rules | `(tactic| walk_at "kN") => `(tactic| first
  | ((with_reducible refine isVar ?_); refine wp_var (by rfl) ?_) | with_reducible refine wp_int ?_ | with_reducible refine wp_str ?_ | with_reducible refine wp_bool ?_ | with_reducible refine wp_none ?_
  | ((with_reducible refine isOpV ?_); refine wp_inO (by rfl) ?_) | ((with_reducible refine isOpL ?_); refine wp_ixO (by rfl) ?_) | with_reducible refine wp_op ?_
  | ((with_reducible refine isCB2 ?_); first | refine wp_isi ?_ | refine wp_isiP (by assumption) ?_ | refine wp_isiG (by assumption) ?_)
  | ((with_reducible refine isCB1 ?_); refine wp_tupO (by rfl) ?_) | with_reducible refine wp_cb ?_
  | ((with_reducible refine isFld ?_); first | refine wp_parts (by assumption) ?_ | refine wp_places (by assumption) ?_ | refine wp_wanted (by assumption) ?_ | refine wp_modes (by assumption) ?_ | refine wp_rows (by assumption) ?_ | refine wp_owner (by assumption) ?_ | refine wp_state (by assumption) ?_)
  | ((with_reducible refine isCall ?_); first | refine wp_call ?_ | refine wp_callB ?_ | refine wp_callP (by rfl) ?_) | with_reducible refine wp_tup ?_ | with_reducible refine wp_lst ?_
  | with_reducible refine wp_un ?_ | with_reducible refine wp_and ?_ | with_reducible refine wp_or ?_ | with_reducible refine wp_not ?_ | with_reducible refine wp_if ?_ | with_reducible refine wp_chain ?_
  | with_reducible refine wp_m1 ?_ | with_reducible refine wp_sl ?_
  | ((with_reducible refine isProp ?_); first | refine wp_propP ?_ | refine wp_propG ?_) | ((with_reducible refine isMake ?_); refine wp_make ?_) | ((with_reducible refine isMeth ?_); refine wp_methG (fun _ _ => rfl) ?_)
  | ((with_reducible refine isBM ?_); first | refine wp_bmS ?_ | refine wp_bmL ?_))
local macro_rules | `(tactic| walk_at "kS") => `(tactic| first
  | with_reducible refine wr_seq ?_ | with_reducible refine wr_if ?_ | with_reducible refine wr_ret ?_ | with_reducible refine wr_never ?_ | with_reducible refine wr_next ?_
  | ((with_reducible refine isParOwn ?_); refine wr_parOwn (by decide) ?_) | with_reducible refine wr_par ?_ | with_reducible refine wr_par3 ?_ | with_reducible refine wr_own0 ?_ | with_reducible refine wr_asg ?_
  | ((with_reducible refine isDropCall ?_); refine wr_drop ?_) | ((with_reducible refine isAsg ?_); first | refine wr_un2 ?_ | refine wr_un3 ?_))
local macro_rules | `(tactic| walk_at "kt") => `(tactic| first
  | ((with_reducible refine isN ?_); walk_at "kN")
  | ((with_reducible refine isA ?_); first | with_reducible refine wa_cons ?_ | with_reducible refine wa_nil ?_)
  | ((with_reducible refine isS ?_); walk_at "kS")
  | ((with_reducible refine isT ?_); first | with_reducible refine wt_test ?_ | with_reducible refine wt_B ?_ | with_reducible refine wt_and ?_ | with_reducible refine wt_or ?_ | with_reducible refine wt_not ?_ | with_reducible refine wt_yes ?_)
  | ((with_reducible refine isO ?_); first | with_reducible refine wo_none ?_ | with_reducible refine wo_some ?_))
local macro_rules | `(tactic| walk_at "kd") => `(tactic| first | exact decide_eq_true (by first | assumption | omega | decide) | exact decide_eq_false (by first | assumption | omega | decide) | exact decide_eq_true (by simp only [List.length_map, List.length_append, List.length_cons, List.length_nil]; omega) | exact decide_eq_false (by simp only [List.length_map, List.length_append, List.length_cons, List.length_nil]; omega))
local macro_rules | `(tactic| walk_at "kv") => `(tactic| first
  | ((with_reducible refine isRN ?_); first
    | ((with_reducible refine isRI0 ?_); first | refine rn_ii ?_ | refine rn_ibK (by walk_at "kd") ?_ | refine rn_ib ?_)
    | ((with_reducible refine isREq ?_); first | refine rn_eqIK (by walk_at "kd") ?_ | refine rn_eqI ?_ | refine rn_eqSK (by rfl) ?_ | refine rn_eqSK (by walk_at "kd") ?_ | refine rn_eqS ?_ | refine rn_eqB ?_)
    | ((with_reducible refine isRNe ?_); first | refine rn_neSK (decide_eq_true rfl) ?_ | refine rn_neIK (by walk_at "kd") ?_ | refine rn_neI ?_ | refine rn_neSK (by walk_at "kd") ?_ | refine rn_neS ?_)
    | ((with_reducible refine isIxL ?_); refine rn_ixL (by rfl) ?_) | ((with_reducible refine isIxT ?_); first | refine rn_ixT (by rfl) ?_ | refine rn_ixT0 ?_ | refine rn_ixT1 ?_)
    | ((with_reducible refine isRIn ?_); refine rn_inTI ?_) | refine rn_isN (by rfl) ?_ | refine rn_notN (by rfl) ?_)
  | ((with_reducible refine isRC ?_); first
    | with_reducible refine rc_lenL ?_ | with_reducible refine rc_lenT ?_ | with_reducible refine rc_min2 ?_ | with_reducible refine rc_max2 ?_ | with_reducible refine rc_int1 ?_ | with_reducible refine rc_abs ?_ | with_reducible refine rc_tupL ?_ | with_reducible refine rc_listT ?_ | with_reducible refine rc_sum ?_ | with_reducible refine rc_all ?_ | with_reducible refine rc_strS ?_
    | refine rc_lenS (by omega) ?_ | refine rc_lenL ?_ | refine rc_lenT ?_ | refine rc_tupL ?_ | refine rc_listT ?_ | refine rc_sum ?_ | refine rc_all ?_)
  | ((with_reducible refine isRU ?_); refine ru_ii ?_))
local macro_rules | `(tactic| walk_at "ke") => `(tactic| first
  | ((with_reducible refine isIte ?_); first | refine ite_t (by first | rfl | assumption | walk_at "kd") ?_ | refine ite_f (by first | rfl | assumption | walk_at "kd") ?_)
  | refine ⟨_, _, true, rfl, rfl, rfl, ?_⟩ | refine ⟨_, _, false, rfl, rfl, rfl, ?_⟩ | refine ⟨_, rfl, sm rfl, ?_⟩ | refine ⟨_, rfl, ?_⟩ | refine ⟨_, _, rfl, ?_⟩ | refine ⟨_, _, _, rfl, ?_⟩ | refine ⟨_, _, _, _, rfl, ?_⟩ | refine ⟨_, _, _, _, _, _, rfl, ?_⟩
  | refine ⟨rfl, ?_⟩ | refine And.intro (by first | assumption | omega | decide) ?_)
local macro_rules | `(tactic| walk_at "k") => `(tactic| first | walk_at "kt" | walk_at "kv" | walk_at "ke" | assumption)
local macro_rules | `(tactic| walk_at "kk") => `(tactic| first | walk_at "kt" | walk_at "kv")
theorem f_is_integer {P : Program} {w : World} {K : PySem.W.Frag} {mg : Str → Option Value} {base : Heap} (T : TX K mg)   : FN P w K mg base 1 "is_integer" ["value"] (spF K W_is_integer) := by
  obtain ⟨fd, F⟩ := T.fn 0 d_is_integer rfl
  refine ⟨T.glo "is_integer" (by decide +kernel), F.kp, fd, ok_f F sc_is_integer (fun xs k h => by obtain ⟨i, rfl, hk⟩ := h; rfl) (fun cdv A outer s H E hr => ⟨_, (pss_one (ps_ret (pe_and (pe_callB call_isi (by rfl) (T.free "isinstance" (by decide +kernel)) (by decide +kernel) (pa_cons (pv 0) (pa_cons (pe_bltn (v := .ty "int") (by rfl) (T.free "int" (by decide +kernel)) (by decide +kernel) rfl) pa_nil))) (pe_one (pe_not (pe_callB call_isi (by rfl) (T.free "isinstance" (by decide +kernel)) (by decide +kernel) (pa_cons (pv 0) (pa_cons (pe_bltn (v := .ty "bool") (by rfl) (T.free "bool" (by decide +kernel)) (by decide +kernel) rfl) pa_nil)))))))), ?_⟩), F.bindsN (ps := ["value"]) fun _ _ _ _ _ _ us hl => match us, hl with | [_], _ => rfl⟩
  intro π B0 H0 xs k hW
  obtain ⟨i, rfl, hk⟩ := hW
  try dsimp only [cxOf, Cx.nox]
  repeat walk_at "k"
theorem f_is_number {P : Program} {w : World} {K : PySem.W.Frag} {mg : Str → Option Value} {base : Heap} (T : TX K mg) (F_is_integer : FN P w K mg base 1 "is_integer" ["value"] (spF K W_is_integer))  : FN P w K mg base 2 "is_number" ["value"] (spF K W_is_number) := by
  obtain ⟨fd, F⟩ := T.fn 1 d_is_number rfl
  refine ⟨T.glo "is_number" (by decide +kernel), F.kp, fd, ok_f F sc_is_number (fun xs k h => by obtain ⟨i, rfl, h0, hk⟩ := h; rfl) (fun cdv A outer s H E hr => ⟨_, (pss_one (ps_ret (pe_and (pe_fn F_is_integer hr (by decide) (pa_cons (pv 0) pa_nil)) (pe_one (pe_cmpR op_ge (pv 0) pe_int (nomark _)))))), ?_⟩), F.bindsN (ps := ["value"]) fun _ _ _ _ _ _ us hl => match us, hl with | [_], _ => rfl⟩
  intro π B0 H0 xs k hW
  obtain ⟨i, rfl, h0, hk⟩ := hW
  try dsimp only [cxOf, Cx.nox]
  repeat walk_at "k"
theorem f_is_below {P : Program} {w : World} {K : PySem.W.Frag} {mg : Str → Option Value} {base : Heap} (T : TX K mg) (F_is_number : FN P w K mg base 2 "is_number" ["value"] (spF K W_is_number))  : FN P w K mg base 3 "is_below" ["value", "many"] (spF K W_is_below) := by
  obtain ⟨fd, F⟩ := T.fn 2 d_is_below rfl
  refine ⟨T.glo "is_below" (by decide +kernel), F.kp, fd, ok_f F sc_is_below (fun xs k h => by obtain ⟨i, m, rfl, h0, h1, hk⟩ := h; rfl) (fun cdv A outer s H E hr => ⟨_, (pss_one (ps_ret (pe_and (pe_fn F_is_number hr (by decide) (pa_cons (pv 0) pa_nil)) (pe_one (pe_cmpR op_lt (pv 0) (pv 1) (nomark _)))))), ?_⟩), F.bindsN (ps := ["value", "many"]) fun _ _ _ _ _ _ us hl => match us, hl with | [_, _], _ => rfl⟩
  intro π B0 H0 xs k hW
  obtain ⟨i, m, rfl, h0, h1, hk⟩ := hW
  try dsimp only [cxOf, Cx.nox]
  repeat walk_at "k"
theorem f_check_between {P : Program} {w : World} {K : PySem.W.Frag} {mg : Str → Option Value} {base : Heap} (T : TX K mg) (F_is_integer : FN P w K mg base 1 "is_integer" ["value"] (spF K W_is_integer))  : FN P w K mg base 2 "check_between" ["value", "low", "high"] (spF K W_check_between) := by
  obtain ⟨fd, F⟩ := T.fn 3 d_check_between rfl
  refine ⟨T.glo "check_between" (by decide +kernel), F.kp, fd, ok_f F sc_check_between (fun xs k h => by obtain ⟨i, l, h, rfl, h0, h1, hk⟩ := h; rfl) (fun cdv A outer s H E hr => ⟨_, (pss_one (ps_if (PW.pt (pw_or (pt_not (pt_val (pe_fn F_is_integer hr (by decide) (pa_cons (pv 0) pa_nil)))) (pw_or1 (pt_not (pt_chain op_le op_le (pv 1) (pv 0) (pv 2)))))) (pss_one ps_never) pss_nil)), ?_⟩), F.bindsN (ps := ["value", "low", "high"]) fun _ _ _ _ _ _ us hl => match us, hl with | [_, _, _], _ => rfl⟩
  intro π B0 H0 xs k hW
  obtain ⟨i, l, h, rfl, h0, h1, hk⟩ := hW
  try dsimp only [cxOf, Cx.nox]
  repeat walk_at "k"
theorem f_check_number {P : Program} {w : World} {K : PySem.W.Frag} {mg : Str → Option Value} {base : Heap} (T : TX K mg) (F_is_number : FN P w K mg base 2 "is_number" ["value"] (spF K W_is_number))  : FN P w K mg base 3 "check_number" ["value"] (spF K W_check_number) := by
  obtain ⟨fd, F⟩ := T.fn 4 d_check_number rfl
  refine ⟨T.glo "check_number" (by decide +kernel), F.kp, fd, ok_f F sc_check_number (fun xs k h => by obtain ⟨i, rfl, h0, hk⟩ := h; rfl) (fun cdv A outer s H E hr => ⟨_, (pss_one (ps_if (pt_not (pt_val (pe_fn F_is_number hr (by decide) (pa_cons (pv 0) pa_nil)))) (pss_one ps_never) pss_nil)), ?_⟩), F.bindsN (ps := ["value"]) fun _ _ _ _ _ _ us hl => match us, hl with | [_], _ => rfl⟩
  intro π B0 H0 xs k hW
  obtain ⟨i, rfl, h0, hk⟩ := hW
  try dsimp only [cxOf, Cx.nox]
  repeat walk_at "k"
theorem f_are_prices {P : Program} {w : World} {K : PySem.W.Frag} {mg : Str → Option Value} {base : Heap} (T : TX K mg) (F_is_number : FN P w K mg base 2 "is_number" ["value"] (spF K W_is_number))  : FN P w K mg base 3 "are_prices" ["value"] (spF K W_are_prices) := by
  obtain ⟨fd, F⟩ := T.fn 5 d_are_prices rfl
  refine ⟨T.glo "are_prices" (by decide +kernel), F.kp, fd, ok_f F sc_are_prices (fun xs k h => by obtain ⟨ps, rfl, ⟨h6, h0⟩, hk⟩ := h; rfl) (fun cdv A outer s H E hr => ⟨_, (pss_one (ps_ret (pe_and (pe_callB call_isi (by rfl) (T.free "isinstance" (by decide +kernel)) (by decide +kernel) (pa_cons (pv 0) (pa_cons (pe_bltn (v := .ty "tuple") (by rfl) (T.free "tuple" (by decide +kernel)) (by decide +kernel) rfl) pa_nil))) (pe_and (pe_cmpR op_eq (pe_callB call_len_seq (by rfl) (T.free "len" (by decide +kernel)) (by decide +kernel) (pa_cons (pv 0) pa_nil)) pe_int (nomark _)) (pe_one (pe_callB (cr_all rfl) (by rfl) (T.free "all" (by decide +kernel)) (by decide +kernel) (pa_cons (pe_lc (own := [("price", 1)]) (g := gName 1) (tt := tYes) (by rfl) sc_are_prices.nd (pi_tup (pv 0)) (blkOk_by (own := [("price", 1)]) (N := ["value", "price"]) (sc := defScope s_are_prices) (by decide +kernel)) (fun _ _ _ _ _ => pg_name (i := 1) sc_are_prices.nd rfl (Or.inl rfl)) (fun _ _ _ _ _ => pts_nil) (fun _ _ _ _ _ => (pe_fn F_is_number hr (by decide) (pa_cons (pv 1) pa_nil)))) pa_nil))))))), ?_⟩), F.bindsN (ps := ["value"]) fun _ _ _ _ _ _ us hl => match us, hl with | [_], _ => rfl⟩
  intro π B0 H0 xs k hW
  obtain ⟨ps, rfl, ⟨h6, h0⟩, hk⟩ := hW
  try dsimp only [cxOf, Cx.nox]
  repeat walk_at "k"
  refine wp_mapTI (f := fun _ => .bool true) ?_
  repeat walk_at "k"
  refine ⟨fun n hn => ?_, ?_⟩
  · have h1 := h0 n hn
    repeat walk_at "k"
    all_goals (first | exact ⟨rfl, rfl⟩ | rfl)
  rw [show (ps.map fun _ => PyData.bool true) = (ps.map fun _ => true).map PyData.bool by rw [List.map_map]; rfl]
  refine wa_nil (rc_all ?_)
  rw [show (ps.map fun _ => true).all id = true by simp]
  exact hk
theorem f_check_prices {P : Program} {w : World} {K : PySem.W.Frag} {mg : Str → Option Value} {base : Heap} (T : TX K mg) (F_are_prices : FN P w K mg base 3 "are_prices" ["value"] (spF K W_are_prices))  : FN P w K mg base 4 "check_prices" ["prices"] (spF K W_check_prices) := by
  obtain ⟨fd, F⟩ := T.fn 6 d_check_prices rfl
  refine ⟨T.glo "check_prices" (by decide +kernel), F.kp, fd, ok_f F sc_check_prices (fun xs k h => by obtain ⟨ps, rfl, ⟨h6, h0⟩, hk⟩ := h; rfl) (fun cdv A outer s H E hr => ⟨_, (pss_one (ps_if (pt_not (pt_val (pe_fn F_are_prices hr (by decide) (pa_cons (pv 0) pa_nil)))) (pss_one ps_never) pss_nil)), ?_⟩), F.bindsN (ps := ["prices"]) fun _ _ _ _ _ _ us hl => match us, hl with | [_], _ => rfl⟩
  intro π B0 H0 xs k hW
  obtain ⟨ps, rfl, ⟨h6, h0⟩, hk⟩ := hW
  try dsimp only [cxOf, Cx.nox]
  repeat walk_at "k"
  refine ⟨⟨h6, h0⟩, ?_⟩
  repeat walk_at "k"
theorem f_price_of_event {P : Program} {w : World} {K : PySem.W.Frag} {mg : Str → Option Value} {base : Heap} (T : TX K mg)   : FN P w K mg base 1 "price_of_event" ["prices", "word"] (spF K W_price_of_event) := by
  obtain ⟨fd, F⟩ := T.fn 7 d_price_of_event rfl
  refine ⟨T.glo "price_of_event" (by decide +kernel), F.kp, fd, ok_f F sc_price_of_event (fun xs k h => by obtain ⟨ps, e, rfl, ⟨h6, h0⟩, hk⟩ := h; rfl) (fun cdv A outer s H E hr => ⟨_, (pss_one (ps_ret (pe_ix (r := rIxT K) ix_tup (pv 0) (pe_tupIx (pa_cons pe_str (pa_cons pe_str (pa_cons pe_str (pa_cons pe_str pa_nil)))) (pa_cons (pv 1) pa_nil)) (fun _ _ => rfl)))), ?_⟩), F.bindsN (ps := ["prices", "word"]) fun _ _ _ _ _ _ us hl => match us, hl with | [_, _], _ => rfl⟩
  intro π B0 H0 xs k hW
  obtain ⟨ps, e, rfl, ⟨h6, h0⟩, hk⟩ := hW
  try dsimp only [cxOf, Cx.nox]
  repeat walk_at "k"
  refine wp_tupIx (ys := evW) (z := e.word) (j := e.ix) ?_
  repeat walk_at "kk"
  refine ⟨rfl, by decide, ?_⟩
  repeat walk_at "kk"
  refine ⟨rfl, by cases e <;> rfl, fun m hm => ?_, ?_⟩
  · cases e with
    | put r => exact absurd hm (Nat.not_lt_zero m)
    | take r => match m, hm with | 0, _ => exact (by decide : evW[0]? ≠ some (Str.ofString "take"))
    | move a b => match m, hm with | 0, _ => exact (by decide : evW[0]? ≠ some (Str.ofString "move")) | 1, _ => exact (by decide : evW[1]? ≠ some (Str.ofString "move"))
    | ask => match m, hm with | 0, _ => exact (by decide : evW[0]? ≠ some (Str.ofString "ask")) | 1, _ => exact (by decide : evW[1]? ≠ some (Str.ofString "ask")) | 2, _ => exact (by decide : evW[2]? ≠ some (Str.ofString "ask"))
  · have h7 : e.ix < ps.length := by
      rw [h6]
      cases e with
      | put r => exact (by decide : 0 < 6)
      | take r => exact (by decide : 1 < 6)
      | move a b => exact (by decide : 2 < 6)
      | ask => exact (by decide : 3 < 6)
    refine rn_ixT (atI_nat (v := .int (getI ps e.ix)) ?_) hk
    rw [List.getElem?_map, List.getElem?_eq_getElem h7]
    unfold getI
    rw [List.getD_eq_getElem?_getD, List.getElem?_eq_getElem h7]
    rfl
theorem f_price_of_reads {P : Program} {w : World} {K : PySem.W.Frag} {mg : Str → Option Value} {base : Heap} (T : TX K mg)   : FN P w K mg base 1 "price_of_reads" ["prices", "counts"] (spF K W_price_of_reads) := by
  obtain ⟨fd, F⟩ := T.fn 8 d_price_of_reads rfl
  refine ⟨T.glo "price_of_reads" (by decide +kernel), F.kp, fd, ok_f F sc_price_of_reads (fun xs k h => by obtain ⟨ps, cs, rfl, ⟨h6, h0⟩, hl, hc, hk⟩ := h; rfl) (fun cdv A outer s H E hr => ⟨_, (pss_one (ps_ret (pe_callB (cr_sum rfl) (by rfl) (T.free "sum" (by decide +kernel)) (by decide +kernel) (pa_cons (pe_lc (own := [("count", 2)]) (g := gName 2) (tt := tYes) (by rfl) sc_price_of_reads.nd (pi_list (pv 1)) (blkOk_by (own := [("count", 2)]) (N := ["prices", "counts", "count"]) (sc := defScope s_price_of_reads) (by decide +kernel)) (fun _ _ _ _ _ => pg_name (i := 2) sc_price_of_reads.nd rfl (Or.inl rfl)) (fun _ _ _ _ _ => pts_nil) (fun _ _ _ _ _ => (pe_op op_add (pe_ix (r := rIxT K) ix_tup (pv 0) pe_int (fun _ _ => rfl)) (pe_op op_mul (pe_ix (r := rIxT K) ix_tup (pv 0) pe_int (fun _ _ => rfl)) (pv 2))))) pa_nil)))), ?_⟩), F.bindsN (ps := ["prices", "counts"]) fun _ _ _ _ _ _ us hl => match us, hl with | [_, _], _ => rfl⟩
  intro π B0 H0 xs k hW
  obtain ⟨ps, cs, rfl, ⟨h6, h0⟩, hl, hc, hk⟩ := hW
  try dsimp only [cxOf, Cx.nox]
  repeat walk_at "k"
  refine wp_mapLI (f := fun n => .int (getI ps 4 + getI ps 5 * n)) ?_
  have hat : ∀ i, i < 6 → atI (ps.map PyData.int) ((i : Nat) : Int) = some (.int (getI ps i)) := fun i hi => by
    have h7 : i < ps.length := by omega
    refine atI_nat ?_
    rw [List.getElem?_map, List.getElem?_eq_getElem h7]
    unfold getI
    rw [List.getD_eq_getElem?_getD, List.getElem?_eq_getElem h7]
    rfl
  repeat walk_at "k"
  refine ⟨fun n hn => ?_, ?_⟩
  · have h1 := hc n hn
    repeat walk_at "k"
    refine rn_ixT (hat 4 (by decide)) ?_
    repeat walk_at "k"
    refine rn_ixT (hat 5 (by decide)) ?_
    repeat walk_at "k"
    refine rn_ci (.inr ⟨by omega, by omega⟩) ?_
    repeat walk_at "k"
    all_goals (first | exact ⟨rfl, rfl⟩ | rfl)
  · rw [show (cs.map fun n => PyData.int (getI ps 4 + getI ps 5 * n)) = (cs.map fun n => getI ps 4 + getI ps 5 * n).map PyData.int by rw [List.map_map]; rfl]
    repeat walk_at "k"
theorem letters_mem {n : Nat} (h1 : 97 ≤ n) (h2 : n ≤ 122) : n ∈ (Str.ofString "abcdefghijklmnopqrstuvwxyz").cps.toList := by
  obtain ⟨m, rfl⟩ : ∃ m, n = 97 + m := ⟨n - 97, by omega⟩
  have h : m < 26 := by omega
  clear h1 h2
  have := (by decide : ∀ m : Fin 26, 97 + m.val ∈ (Str.ofString "abcdefghijklmnopqrstuvwxyz").cps.toList) ⟨m, h⟩
  exact this
theorem f_is_word {P : Program} {w : World} {K : PySem.W.Frag} {mg : Str → Option Value} {base : Heap} (T : TX K mg)   : FN P w K mg base 1 "is_word" ["value"] (spF K W_is_word) := by
  obtain ⟨fd, F⟩ := T.fn 9 d_is_word rfl
  refine ⟨T.glo "is_word" (by decide +kernel), F.kp, fd, ok_f F sc_is_word (fun xs k h => by obtain ⟨s, rfl, ⟨h1, h2, h3⟩, hk⟩ := h; rfl) (fun cdv A outer s H E hr => ⟨_, (pss_one (ps_ret (pe_and (pe_callB call_isi (by rfl) (T.free "isinstance" (by decide +kernel)) (by decide +kernel) (pa_cons (pv 0) (pa_cons (pe_bltn (v := .ty "str") (by rfl) (T.free "str" (by decide +kernel)) (by decide +kernel) rfl) pa_nil))) (pe_and (pe_chain op_le op_le pe_int (pe_callB call_len_str (by rfl) (T.free "len" (by decide +kernel)) (by decide +kernel) (pa_cons (pv 0) pa_nil)) (pe_glob (v := .int 8) rfl T.longest.choose_spec ⟨_, rfl⟩)) (pe_one (pe_callB (cr_all rfl) (by rfl) (T.free "all" (by decide +kernel)) (by decide +kernel) (pa_cons (pe_lc (own := [("sign", 1)]) (g := gName 1) (tt := tYes) (by rfl) sc_is_word.nd (pi_str (pv 0)) (blkOk_by (own := [("sign", 1)]) (N := ["value", "sign"]) (sc := defScope s_is_word) (by decide +kernel)) (fun _ _ _ _ _ => pg_name (i := 1) sc_is_word.nd rfl (Or.inl rfl)) (fun _ _ _ _ _ => pts_nil) (fun _ _ _ _ _ => (pe_cmpR op_in_sign (pv 1) (pe_glob (v := .str "abcdefghijklmnopqrstuvwxyz") rfl T.letters.choose_spec ⟨_, rfl⟩) (by rfl)))) pa_nil))))))), ?_⟩), F.bindsN (ps := ["value"]) fun _ _ _ _ _ _ us hl => match us, hl with | [_], _ => rfl⟩
  intro π B0 H0 xs k hW
  obtain ⟨s, rfl, ⟨h1, h2, h3⟩, hk⟩ := hW
  try dsimp only [cxOf, Cx.nox]
  repeat walk_at "k"
  refine wp_mapS (f := fun _ => .bool true) ?_
  repeat walk_at "k"
  refine ⟨fun n hn => ?_, ?_⟩
  · have h4 := h3 n hn
    repeat walk_at "k"
    refine rn_inSign ?_
    rw [show decide (n ∈ (Str.ofString "abcdefghijklmnopqrstuvwxyz").cps.toList) = true from decide_eq_true (letters_mem h4.1 h4.2)]
    all_goals (first | exact ⟨rfl, rfl⟩ | rfl)
  rw [show (s.cps.toList.map fun _ => PyData.bool true) = (s.cps.toList.map fun _ => true).map PyData.bool by rw [List.map_map]; rfl]
  refine wa_nil (rc_all ?_)
  rw [show (s.cps.toList.map fun _ => true).all id = true by simp]
  exact hk
theorem f_is_mode {P : Program} {w : World} {K : PySem.W.Frag} {mg : Str → Option Value} {base : Heap} (T : TX K mg) (F_is_word : FN P w K mg base 1 "is_word" ["value"] (spF K W_is_word))  : FN P w K mg base 2 "is_mode" ["value"] (spF K W_is_mode) := by
  obtain ⟨fd, F⟩ := T.fn 10 d_is_mode rfl
  refine ⟨T.glo "is_mode" (by decide +kernel), F.kp, fd, ok_f F sc_is_mode (fun xs k h => by obtain ⟨s, rfl, ⟨h1, h2⟩, hk⟩ := h; rfl) (fun cdv A outer s H E hr => ⟨_, (pss_one (ps_ret (pe_and (pe_fn F_is_word hr (by decide) (pa_cons (pv 0) pa_nil)) (pe_one (pe_cmpR op_ne (pv 0) pe_str (nomark _)))))), ?_⟩), F.bindsN (ps := ["value"]) fun _ _ _ _ _ _ us hl => match us, hl with | [_], _ => rfl⟩
  intro π B0 H0 xs k hW
  obtain ⟨s, rfl, ⟨h1, h2⟩, hk⟩ := hW
  try dsimp only [cxOf, Cx.nox]
  repeat walk_at "k"
theorem fig_at {i : Nat} (h : i ≤ 4) : atI (Str.ofString "01234").cps.toList ((i : Nat) : Int) = some (48 + i) := by
  refine atI_nat ?_
  match i, h with
  | 0, _ => rfl
  | 1, _ => rfl
  | 2, _ => rfl
  | 3, _ => rfl
  | 4, _ => rfl
theorem fig_inj {i j : Nat} (h : figS i = figS j) : i = j := by
  unfold figS at h
  injection h with h
  have := congrArg Array.toList h
  simp at this
  exact this
theorem f_figure_in {P : Program} {w : World} {K : PySem.W.Frag} {mg : Str → Option Value} {base : Heap} (T : TX K mg)   : FN P w K mg base 1 "figure_in" ["word", "low", "high"] (spF K W_figure_in) := by
  obtain ⟨fd, F⟩ := T.fn 11 d_figure_in rfl
  refine ⟨T.glo "figure_in" (by decide +kernel), F.kp, fd, ok_f F sc_figure_in (fun xs k h => by obtain ⟨n, l, h, rfl, h0, h1, h2, h3, hk⟩ := h; rfl) (fun cdv A outer s H E hr => ⟨_, (pss_cons (ps_for PassesOwn.never rfl (pi_range2 (by rfl) (T.free "range" (by decide +kernel)) (pa_cons (pv 1) (pa_cons (pe_op op_add (pv 2) pe_int) pa_nil))) (pg_name (i := 3) sc_figure_in.nd rfl (Or.inl rfl)) (pss_one (ps_if (pt_cmpR op_eq (pv 0) (pe_ix ix_str (pe_glob (v := .str "01234") rfl T.figures.choose_spec ⟨_, rfl⟩) (pv 3) (fun _ _ => rfl)) (nomark _)) (pss_one (ps_ret (pv 3))) pss_nil))) (pss_one (ps_ret pe_non))), ?_⟩), F.bindsN (ps := ["word", "low", "high"]) fun _ _ _ _ _ _ us hl => match us, hl with | [_, _, _], _ => rfl⟩
  intro π B0 H0 xs k hW
  obtain ⟨n, l, h, rfl, h0, h1, h2, h3, hk⟩ := hW
  try dsimp only [cxOf, Cx.nox]
  obtain ⟨a, rfl⟩ := Int.eq_ofNat_of_zero_le h0
  repeat walk_at "k"
  refine wr_forR2 ?_
  repeat walk_at "kk"
  refine ⟨_, _, rfl, by omega, by omega, by omega, by omega, fun i Γ' c' => (a : Int) + (i : Int) ≤ (n : Int) ∧ c' = 0 ∧ ∃ e, Γ' = [.ab (.d (.str (figS n))), .ab (.d (.int a)), .ab (.d (.int h)), e], ⟨by omega, rfl, _, rfl⟩, fun i Γ' c' hi hI => ?_, fun Γ' c' hI => ?_⟩
  · obtain ⟨h4, rfl, e, rfl⟩ := hI
    have e5 : (a : Int) + (i : Int) = ((a + i : Nat) : Int) := by omega
    rw [e5]
    have h6 : a + i ≤ 4 := by omega
    repeat walk_at "k"
    refine rn_ixS (by decide) (fig_at h6) ?_
    by_cases e7 : a + i = n
    · rw [← e7]
      refine rn_eqSK (decide_eq_true rfl) ?_
      repeat walk_at "k"
      rw [e7]
      exact hk
    · refine rn_eqSK (b := false) (decide_eq_false fun z => e7 ?_) ?_
      · have := fig_inj z
        omega
      repeat walk_at "k"
      exact ⟨_, rfl⟩
  · obtain ⟨h4, rfl, e, rfl⟩ := hI
    omega
theorem f_condition_in {P : Program} {w : World} {K : PySem.W.Frag} {mg : Str → Option Value} {base : Heap} (T : TX K mg) (F_figure_in : FN P w K mg base 1 "figure_in" ["word", "low", "high"] (spF K W_figure_in))  : FN P w K mg base 2 "condition_in" ["line", "occasion", "modes"] (spF K W_condition_in) := by
  obtain ⟨fd, F⟩ := T.fn 12 d_condition_in rfl
  refine ⟨T.glo "condition_in" (by decide +kernel), F.kp, fd, ok_f F sc_condition_in (fun xs k h => by obtain ⟨c, o, ms, rfl, h1, h2, hk⟩ := h; rfl) (fun cdv A outer s H E hr => ⟨_, (pss_cons (ps_set (i := 3) sc_condition_in.nd rfl (Or.inl rfl) (pe_not (pe_m1 PySem.F.slot_str_startswith PySem.F.type_str_startswith mt_startswith (pv 0) pe_str))) (pss_cons (ps_set (i := 4) sc_condition_in.nd rfl (Or.inl rfl) (pe_split (pe_bm PySem.F.plainAttrs_str PySem.F.slot_str_removeprefix PySem.F.type_str_removeprefix mt_removeprefix (pv 0) (pa_cons pe_str pa_nil)) pe_str)) (pss_cons (ps_if (PW.pt (pw_or (pt_cmpR (op_eqD hr.units) (pv 4) (pe_lst (pa_cons pe_str pa_nil)) (nomark _)) (pw_or (pt_cmpR (op_eqD hr.units) (pv 4) (pe_lst (pa_cons pe_str pa_nil)) (nomark _)) (pw_or1 (PW.pt (pw_and (pt_cmpR (op_eqD hr.units) (pv 4) (pe_lst (pa_cons pe_str pa_nil)) (nomark _)) (pw_and1 (pt_cmpR op_eq (pv 1) pe_str (nomark _))))))))) (pss_one (ps_ret (pe_tup (pa_cons (pe_ix (r := rIxL K) ix_list (pv 4) pe_int (fun _ _ => rfl)) (pa_cons pe_int (pa_cons (pv 3) pa_nil)))))) pss_nil) (pss_cons (ps_if (pt_cmpR op_ne (pe_callB call_len_seq (by rfl) (T.free "len" (by decide +kernel)) (by decide +kernel) (pa_cons (pv 4) pa_nil)) pe_int (nomark _)) (pss_one (ps_ret pe_non)) pss_nil) (pss_cons (ps_if (pt_cmpR op_eq (pe_ix (r := rIxL K) ix_list (pv 4) pe_int (fun _ _ => rfl)) pe_str (nomark _)) (pss_one (ps_ret (pe_ifExp (pt_cmpR op_in_seq (pe_ix (r := rIxL K) ix_list (pv 4) pe_int (fun _ _ => rfl)) (pv 2) (by rfl)) (pe_tup (pa_cons pe_str (pa_cons (pe_ix (r := rIxL K) ix_list (pv 4) pe_int (fun _ _ => rfl)) (pa_cons (pv 3) pa_nil)))) pe_non))) pss_nil) (pss_cons (ps_set (i := 5) sc_condition_in.nd rfl (Or.inl rfl) (pe_fn F_figure_in hr (by decide) (pa_cons (pe_ix (r := rIxL K) ix_list (pv 4) pe_int (fun _ _ => rfl)) (pa_cons pe_int (pa_cons pe_int pa_nil))))) (pss_one (ps_ret (pe_ifExp (PW.pt (pw_and (pt_cmpR op_eq (pe_ix (r := rIxL K) ix_list (pv 4) pe_int (fun _ _ => rfl)) pe_str (nomark _)) (pw_and1 (pt_cmpR op_notN (pv 5) pe_non (nomark _))))) (pe_tup (pa_cons pe_str (pa_cons (pv 5) (pa_cons (pv 3) pa_nil)))) pe_non))))))))), ?_⟩), F.bindsN (ps := ["line", "occasion", "modes"]) fun _ _ _ _ _ _ us hl => match us, hl with | [_, _, _], _ => rfl⟩
  intro π B0 H0 xs k hW
  obtain ⟨c, o, ms, rfl, h1, h2, hk⟩ := hW
  try dsimp only [cxOf, Cx.nox]
  obtain ⟨ck, pos⟩ := c
  have hlc := len_c (c := ⟨ck, pos⟩) h1 h2
  have hlk := len_k (k := ck) h1 h2
  repeat walk_at "k"
  refine rm_startsK (cnd_starts ⟨ck, pos⟩) ?_
  repeat walk_at "k"
  refine rm_rmpreK (cnd_rm ⟨ck, pos⟩) (by omega) ?_
  repeat walk_at "k"
  refine rm_splitK (cnd_words h1 h2) (by rfl) (by show ck.text.length + 2 ≤ 100000; omega) ?_
  repeat walk_at "k"
  have sw := (sh_words (n := 1) h1 h2).shaped (by decide)
  have en : (!(!pos)) = pos := Bool.not_not pos
  cases ck with
  | full =>
    refine rn_eqDK (b := true) sw (by decide +kernel) (by rfl) ?_
    repeat walk_at "k"
    exact (congrArg (fun b => k (.d (.tuple [.str (CK.word .full), .int 0, .bool b]))) en).mpr hk
  | whole =>
    refine rn_eqDK (b := false) sw (by decide +kernel) (by rfl) ?_
    repeat walk_at "k"
    refine rn_eqDK (b := true) sw (by decide +kernel) (by rfl) ?_
    repeat walk_at "k"
    exact (congrArg (fun b => k (.d (.tuple [.str (CK.word .whole), .int 0, .bool b]))) en).mpr hk
  | above =>
    have ho : o = .put := h1
    subst ho
    refine rn_eqDK (b := false) sw (by decide +kernel) (by rfl) ?_
    repeat walk_at "k"
    refine rn_eqDK (b := false) sw (by decide +kernel) (by rfl) ?_
    repeat walk_at "k"
    refine rn_eqDK (b := true) sw (by decide +kernel) (by rfl) ?_
    repeat walk_at "k"
    exact (congrArg (fun b => k (.d (.tuple [.str (CK.word .above), .int 0, .bool b]))) en).mpr hk
  | few n =>
    have hn : n ≤ 3 := h1
    refine rn_eqDK (b := false) sw (by decide +kernel) (by rfl) ?_
    repeat walk_at "k"
    refine rn_eqDK (b := false) sw (by decide +kernel) (by rfl) ?_
    repeat walk_at "k"
    refine rn_eqDK (b := false) sw (by decide +kernel) (by rfl) ?_
    repeat walk_at "k"
    exact (congrArg (fun b => k (.d (.tuple [.str (CK.word (.few n)), .int n, .bool b]))) en).mpr hk
  | inn m =>
    refine rn_eqDK (b := false) sw (by decide +kernel) (by rfl) ?_
    repeat walk_at "k"
    refine rn_eqDK (b := false) sw (by decide +kernel) (by rfl) ?_
    repeat walk_at "k"
    refine rn_eqDK (b := false) sw (by decide +kernel) (by rfl) ?_
    repeat walk_at "k"
    refine rn_inTK (b := true) (decide_eq_true h1) ?_
    repeat walk_at "k"
    exact (congrArg (fun b => k (.d (.tuple [.str (CK.word (.inn m)), .str m, .bool b]))) en).mpr hk
theorem f_conditions_in {P : Program} {w : World} {K : PySem.W.Frag} {mg : Str → Option Value} {base : Heap} (T : TX K mg) (F_condition_in : FN P w K mg base 2 "condition_in" ["line", "occasion", "modes"] (spF K W_condition_in))  : FN P w K mg base 3 "conditions_in" ["line", "occasion", "modes"] (spF K W_conditions_in) := by
  obtain ⟨fd, F⟩ := T.fn 13 d_conditions_in rfl
  refine ⟨T.glo "conditions_in" (by decide +kernel), F.kp, fd, ok_f F sc_conditions_in (fun xs k h => by obtain ⟨cs, o, ms, rfl, h0, h1, h2, h3, hk⟩ := h; rfl) (fun cdv A outer s H E hr => ⟨_, (pss_cons (ps_setLc (i := 3) (own := [("part", 4)]) (g := gName 4) (tt := tYes) (by rfl) sc_conditions_in.nd rfl rfl (sw_true rfl rfl rfl (by decide +kernel)) (pi_list (pe_split (pv 0) pe_str)) (blkOk_by (own := [("part", 4)]) (N := ["line", "occasion", "modes", "found", "part"]) (sc := defScope s_conditions_in) (by decide +kernel)) (fun _ _ _ _ _ => pg_name (i := 4) sc_conditions_in.nd rfl (Or.inl rfl)) (fun _ _ _ _ _ => pts_nil) (fun _ _ _ _ _ => (pe_fn F_condition_in hr (by decide) (pa_cons (pv 4) (pa_cons (pv 1) (pa_cons (pv 2) pa_nil)))))) (pss_one (ps_ret (pe_ifExp (PW.pt (pw_and (pt_cmpR (op_notInD (hu65 hr)) pe_non (pv 3) (by rfl)) (pw_and1 (pt_cmpR op_le (pe_callB call_len_seq (by rfl) (T.free "len" (by decide +kernel)) (by decide +kernel) (pa_cons (pv 3) pa_nil)) (pe_glob (v := .int 4) rfl T.nconds.choose_spec ⟨_, rfl⟩) (nomark _))))) (pe_callTy call_tuple_of (by rfl) (T.free "tuple" (by decide +kernel)) (by decide +kernel) (pa_cons (pv 3) pa_nil)) pe_non)))), ?_⟩), F.bindsN (ps := ["line", "occasion", "modes"]) fun _ _ _ _ _ _ us hl => match us, hl with | [_, _, _], _ => rfl⟩
  intro π B0 H0 xs k hW
  obtain ⟨cs, o, ms, rfl, h0, h1, h2, h3, hk⟩ := hW
  try dsimp only [cxOf, Cx.nox]
  have hl := len_conds h1 h2 h3
  repeat walk_at "k"
  refine wp_mapLA cs (g := fun c => .str c.text) (f := Cnd.data) ?_
  repeat walk_at "k"
  refine rm_splitK (conds_split h0 h2 h3) (by rfl) (by omega) ?_
  refine ⟨by rw [List.map_map]; rfl, by omega, fun c hc => ?_, ?_⟩
  · repeat walk_at "kt"
    exact ⟨c, o, ms, rfl, h2 c hc, h3, rfl, rfl⟩
  repeat walk_at "k"
  refine rn_notInD (by decide +kernel) ((sh_list fun d hd => ?_ : Sh 2 _).shaped (by decide)) ?_
  · obtain ⟨c, hc, rfl⟩ := List.mem_map.mp hd
    exact sh_cnd (h2 c hc) h3
  rw [none_in]
  repeat walk_at "k"
theorem f_first_deed {P : Program} {w : World} {K : PySem.W.Frag} {mg : Str → Option Value} {base : Heap} (T : TX K mg) (F_figure_in : FN P w K mg base 1 "figure_in" ["word", "low", "high"] (spF K W_figure_in))  : FN P w K mg base 2 "first_deed" ["line", "occasion", "room"] (spF K W_first_deed) := by
  obtain ⟨fd, F⟩ := T.fn 14 d_first_deed rfl
  refine ⟨T.glo "first_deed" (by decide +kernel), F.kp, fd, ok_f F sc_first_deed (fun xs k h => by obtain ⟨d, o, room, rfl, h1, h2, hk⟩ := h; rfl) (fun cdv A outer s H E hr => ⟨_, (pss_cons (ps_if (PW.pt (pw_and (pt_cmpR op_in_seq (pv 0) (pe_tup (pa_cons pe_str (pa_cons pe_str pa_nil))) (by rfl)) (pw_and1 (pt_cmpR op_eq (pv 1) pe_str (nomark _))))) (pss_one (ps_ret (pe_tup (pa_cons (pv 0) (pa_cons pe_int pa_nil))))) pss_nil) (pss_cons (ps_if (pt_not (pt_val (pe_m1 PySem.F.slot_str_startswith PySem.F.type_str_startswith mt_startswith (pv 0) pe_str))) (pss_one (ps_ret pe_non)) pss_nil) (pss_cons (ps_set (i := 3) sc_first_deed.nd rfl (Or.inl rfl) (pe_fn F_figure_in hr (by decide) (pa_cons (pe_bm PySem.F.plainAttrs_str PySem.F.slot_str_removeprefix PySem.F.type_str_removeprefix mt_removeprefix (pv 0) (pa_cons pe_str pa_nil)) (pa_cons pe_int (pa_cons (pv 2) pa_nil))))) (pss_one (ps_ret (pe_ifExp (pt_cmpR op_isN (pv 3) pe_non (nomark _)) pe_non (pe_tup (pa_cons pe_str (pa_cons (pv 3) pa_nil))))))))), ?_⟩), F.bindsN (ps := ["line", "occasion", "room"]) fun _ _ _ _ _ _ us hl => match us, hl with | [_, _, _], _ => rfl⟩
  intro π B0 H0 xs k hW
  obtain ⟨d, o, room, rfl, h1, h2, hk⟩ := hW
  try dsimp only [cxOf, Cx.nox]
  repeat walk_at "k"
  cases d with
  | keep =>
    have ho : o = .put := h1
    subst ho
    refine rn_inTW ["keep", "skip"] rfl (b := true) (by decide +kernel) ?_
    repeat walk_at "k"
  | skip =>
    have ho : o = .put := h1
    subst ho
    refine rn_inTW ["keep", "skip"] rfl (b := true) (by decide +kernel) ?_
    repeat walk_at "k"
  | read n =>
    have hn : 1 ≤ n ∧ n ≤ room := h1
    refine rn_inTW ["keep", "skip"] rfl (b := false) (decide_eq_false (read_no n)) ?_
    repeat walk_at "k"
    refine rm_startsK (read_starts n) ?_
    repeat walk_at "k"
    refine rm_rmpreK (read_rm n) (by have := len_dd (.read n); omega) ?_
    repeat walk_at "kt"
    refine ⟨n, _, _, rfl, by decide, by omega, by omega, by omega, ?_⟩
    repeat walk_at "k"
theorem f_mode_in {P : Program} {w : World} {K : PySem.W.Frag} {mg : Str → Option Value} {base : Heap} (T : TX K mg)   : FN P w K mg base 1 "mode_in" ["line", "modes"] (spF K W_mode_in) := by
  obtain ⟨fd, F⟩ := T.fn 15 d_mode_in rfl
  refine ⟨T.glo "mode_in" (by decide +kernel), F.kp, fd, ok_f F sc_mode_in (fun xs k ⟨s, ms, e, _⟩ => by rw [e]; rfl) (fun cdv A outer s H E hr => ⟨_, (pss_cons (ps_set (i := 2) sc_mode_in.nd rfl (Or.inl rfl) (pe_bm PySem.F.plainAttrs_str PySem.F.slot_str_removeprefix PySem.F.type_str_removeprefix mt_removeprefix (pv 0) (pa_cons pe_str pa_nil))) (pss_one (ps_ret (pe_ifExp (PW.pt (pw_and (pt_val (pe_m1 PySem.F.slot_str_startswith PySem.F.type_str_startswith mt_startswith (pv 0) pe_str)) (pw_and1 (pt_cmpR op_in_seq (pv 2) (pv 1) (by rfl))))) (pv 2) pe_non)))), ?_⟩), F.bindsN (ps := ["line", "modes"]) fun _ _ _ _ _ _ us hl => match us, hl with | [_, _], _ => rfl⟩
  intro π B0 H0 xs k hW
  obtain ⟨s, ms, rfl, hm, h⟩ := hW
  try dsimp only [cxOf, Cx.nox]
  repeat walk_at "k"
  rcases h with ⟨room, o, d, rfl, h1, h2, hk⟩ | ⟨m, rfl, h1, hk⟩
  · refine rm_rmpreK (dd_rm d) (by have := len_dd d; omega) ?_
    repeat walk_at "k"
    refine rm_startsK (dd_starts d) ?_
    repeat walk_at "k"
  · refine rm_rmpreK (goal_rm m) (by have := len_goal (mode_of hm h1); omega) ?_
    repeat walk_at "k"
    refine rm_startsK (goal_starts m) ?_
    repeat walk_at "k"
    refine rn_inTK (b := true) (decide_eq_true h1) ?_
    repeat walk_at "k"
theorem f_deeds_in {P : Program} {w : World} {K : PySem.W.Frag} {mg : Str → Option Value} {base : Heap} (T : TX K mg) (F_first_deed : FN P w K mg base 2 "first_deed" ["line", "occasion", "room"] (spF K W_first_deed)) (F_mode_in : FN P w K mg base 1 "mode_in" ["line", "modes"] (spF K W_mode_in))  : FN P w K mg base 3 "deeds_in" ["line", "occasion", "room", "modes"] (spF K W_deeds_in) := by
  obtain ⟨fd, F⟩ := T.fn 16 d_deeds_in rfl
  refine ⟨T.glo "deeds_in" (by decide +kernel), F.kp, fd, ok_f F sc_deeds_in (fun xs k h => by obtain ⟨ds, o, room, ms, rfl, h1, h2, h3, hk⟩ := h; rfl) (fun cdv A outer s H E hr => ⟨_, (pss_cons (ps_set (i := 4) sc_deeds_in.nd rfl (Or.inl rfl) (pe_split (pv 0) pe_str)) (pss_cons (ps_if (pt_cmpR op_gt (pe_callB call_len_seq (by rfl) (T.free "len" (by decide +kernel)) (by decide +kernel) (pa_cons (pv 4) pa_nil)) pe_int (nomark _)) (pss_one (ps_ret pe_non)) pss_nil) (pss_cons (ps_set (i := 5) sc_deeds_in.nd rfl (Or.inl rfl) (pe_fn F_mode_in hr (by decide) (pa_cons (pe_ix (r := rIxL K) ix_list (pv 4) (pe_un un_neg pe_int) (fun _ _ => rfl)) (pa_cons (pv 3) pa_nil)))) (pss_cons (ps_if (PW.pt (pw_and (pt_cmpR op_eq (pe_callB call_len_seq (by rfl) (T.free "len" (by decide +kernel)) (by decide +kernel) (pa_cons (pv 4) pa_nil)) pe_int (nomark _)) (pw_and1 (pt_cmpR op_isN (pv 5) pe_non (nomark _))))) (pss_one (ps_ret pe_non)) pss_nil) (pss_cons (ps_if (PW.pt (pw_and (pt_cmpR op_eq (pe_callB call_len_seq (by rfl) (T.free "len" (by decide +kernel)) (by decide +kernel) (pa_cons (pv 4) pa_nil)) pe_int (nomark _)) (pw_and1 (pt_cmpR op_notN (pv 5) pe_non (nomark _))))) (pss_one (ps_ret (pe_ifExp (pt_cmpR op_eq (pv 1) pe_str (nomark _)) pe_non (pe_tup (pa_cons pe_str (pa_cons pe_int (pa_cons (pv 5) pa_nil))))))) pss_nil) (pss_cons (ps_set (i := 6) sc_deeds_in.nd rfl (Or.inl rfl) (pe_fn F_first_deed hr (by decide) (pa_cons (pe_ix (r := rIxL K) ix_list (pv 4) pe_int (fun _ _ => rfl)) (pa_cons (pv 1) (pa_cons (pv 2) pa_nil))))) (pss_one (ps_ret (pe_ifExp (pt_cmpR op_isN (pv 6) pe_non (nomark _)) pe_non (pe_tup (pa_cons (pe_ix (r := rIxT K) ix_tup (pv 6) pe_int (fun _ _ => rfl)) (pa_cons (pe_ix (r := rIxT K) ix_tup (pv 6) pe_int (fun _ _ => rfl)) (pa_cons (pe_orT (pv 5) (pe_one pe_str)) pa_nil))))))))))))), ?_⟩), F.bindsN (ps := ["line", "occasion", "room", "modes"]) fun _ _ _ _ _ _ us hl => match us, hl with | [_, _, _, _], _ => rfl⟩
  intro π B0 H0 xs k hW
  obtain ⟨ds, o, room, ms, rfl, h1, h2, h3, hk⟩ := hW
  try dsimp only [cxOf, Cx.nox]
  have hl := len_tail h1 h3
  repeat walk_at "k"
  refine rm_splitK (deeds_split h1 h2 h3) (by rfl) (by omega) ?_
  cases ds with
  | one d =>
    repeat walk_at "k"
    refine .inl ⟨room, o, d, rfl, h1, h2, ?_⟩
    repeat walk_at "k"
    refine wp_orT ?_
    repeat walk_at "k"
    refine .inr ⟨rfl, ?_⟩
    repeat walk_at "k"
  | two d m =>
    repeat walk_at "k"
    refine .inr ⟨m, rfl, h1.2, ?_⟩
    repeat walk_at "k"
    refine ⟨h1.1, h2, ?_⟩
    repeat walk_at "k"
    refine wp_orT ?_
    repeat walk_at "k"
    have h5 := (mode_of h3 h1.2).w
    refine .inl ⟨m, rfl, by have := h5.hi; omega, fun _ => ?_, fun z => ?_⟩
    · repeat walk_at "k"
    · have := h5.lo
      omega
  | goal m =>
    repeat walk_at "k"
    refine .inr ⟨m, rfl, h1.2, ?_⟩
    repeat walk_at "k"
    have h6 := h1.1
    cases o with
    | put => exact absurd rfl h6
    | loss => repeat walk_at "k"
    | ask => repeat walk_at "k"
theorem f_row_in {P : Program} {w : World} {K : PySem.W.Frag} {mg : Str → Option Value} {base : Heap} (T : TX K mg) (F_conditions_in : FN P w K mg base 3 "conditions_in" ["line", "occasion", "modes"] (spF K W_conditions_in)) (F_deeds_in : FN P w K mg base 3 "deeds_in" ["line", "occasion", "room", "modes"] (spF K W_deeds_in))  : FN P w K mg base 4 "row_in" ["line", "room", "modes"] (spF K W_row_in) := by
  obtain ⟨fd, F⟩ := T.fn 17 d_row_in rfl
  refine ⟨T.glo "row_in" (by decide +kernel), F.kp, fd, ok_f F sc_row_in (fun xs k h => by obtain ⟨a, room, ms, rfl, h1, h2, h3, hk⟩ := h; rfl) (fun cdv A outer s H E hr => ⟨_, (pss_cons (ps_if (PW.pt (pw_or (pt_not (pt_val (pe_callB call_isi (by rfl) (T.free "isinstance" (by decide +kernel)) (by decide +kernel) (pa_cons (pv 0) (pa_cons (pe_bltn (v := .ty "str") (by rfl) (T.free "str" (by decide +kernel)) (by decide +kernel) rfl) pa_nil))))) (pw_or1 (pt_cmpR op_notIn_str pe_str (pv 0) (by rfl))))) (pss_one (ps_ret pe_non)) pss_nil) (pss_cons (ps_asg (pe_partition (pv 0) pe_str) (pg_tup (by rfl) (pgs_cons (pg_name (i := 3) sc_row_in.nd rfl (Or.inl rfl)) (pgs_cons (pg_name (i := 4) sc_row_in.nd rfl (Or.inl rfl)) (pgs_cons (pg_name (i := 5) sc_row_in.nd rfl (Or.inl rfl)) pgs_nil))))) (pss_cons (ps_asg (pe_partition (pv 3) pe_str) (pg_tup (by rfl) (pgs_cons (pg_name (i := 6) sc_row_in.nd rfl (Or.inl rfl)) (pgs_cons (pg_name (i := 7) sc_row_in.nd rfl (Or.inl rfl)) (pgs_cons (pg_name (i := 8) sc_row_in.nd rfl (Or.inl rfl)) pgs_nil))))) (pss_cons (ps_if (pt_cmpR op_notIn_seq (pv 6) (pe_tup (pa_cons pe_str (pa_cons pe_str (pa_cons pe_str pa_nil)))) (by rfl)) (pss_one (ps_ret pe_non)) pss_nil) (pss_cons (ps_set (i := 9) sc_row_in.nd rfl (Or.inl rfl) (pe_ifExp (pt_cmpR op_eq (pv 7) pe_str (nomark _)) (pe_tup pa_nil) (pe_fn F_conditions_in hr (by decide) (pa_cons (pv 8) (pa_cons (pv 6) (pa_cons (pv 2) pa_nil)))))) (pss_cons (ps_set (i := 10) sc_row_in.nd rfl (Or.inl rfl) (pe_fn F_deeds_in hr (by decide) (pa_cons (pv 5) (pa_cons (pv 6) (pa_cons (pv 1) (pa_cons (pv 2) pa_nil)))))) (pss_one (ps_ret (pe_ifExp (PW.pt (pw_or (pt_cmpR op_isN (pv 9) pe_non (nomark _)) (pw_or1 (pt_cmpR op_isN (pv 10) pe_non (nomark _))))) pe_non (pe_tup (pa_cons (pv 6) (pa_cons (pv 9) (pa_cons (pe_ix (r := rIxT K) ix_tup (pv 10) pe_int (fun _ _ => rfl)) (pa_cons (pe_ix (r := rIxT K) ix_tup (pv 10) pe_int (fun _ _ => rfl)) (pa_cons (pe_ix (r := rIxT K) ix_tup (pv 10) pe_int (fun _ _ => rfl)) pa_nil))))))))))))))), ?_⟩), F.bindsN (ps := ["line", "room", "modes"]) fun _ _ _ _ _ _ us hl => match us, hl with | [_, _, _], _ => rfl⟩
  intro π B0 H0 xs k hW
  obtain ⟨a, room, ms, rfl, h1, h2, h3, hk⟩ := hW
  try dsimp only [cxOf, Cx.nox]
  have hl := len_row h1 h3
  have hh := len_head h1 h3
  have hd := h1.ds
  have hoc : decide (a.o.s ∈ (["put", "loss", "ask"] : List Str)) = true := by cases a.o <;> decide +kernel
  repeat walk_at "k"
  refine rn_notInStr (row_colon a) ?_
  repeat walk_at "k"
  refine rm_partK (row_part h1 h3) (by rfl) (by omega) ?_
  repeat walk_at "k"
  by_cases hcs : a.cs = []
  · refine rm_partK (head_part0 a hcs) (by rfl) (by omega) ?_
    repeat walk_at "k"
    refine rn_inTW ["put", "loss", "ask"] rfl hoc ?_
    repeat walk_at "k"
    have e : a.row = .tuple [.str a.o.s, .tuple [], .str a.ds.word, .int a.ds.count, .str a.ds.to] := by
      unfold Act.row
      rw [hcs]
      rfl
    rw [e] at hk
    exact hk
  · refine rm_partK (head_part1 a hcs) (by rfl) (by omega) ?_
    repeat walk_at "k"
    refine rn_inTW ["put", "loss", "ask"] rfl hoc ?_
    repeat walk_at "k"
    refine ⟨h1.few, h1.cs, ?_⟩
    repeat walk_at "k"
theorem nodup_take {α : Type} : ∀ {l : List α} {i : Nat} {a : α}, l.Nodup → l[i]? = some a → a ∉ l.take i
  | [], _, _, _, h => by simp at h
  | x :: r, 0, a, _, _ => by simp
  | x :: r, i + 1, a, hn, h => by
    have h2 := List.nodup_cons.mp hn
    rw [List.take_succ_cons]
    have h3 : r[i]? = some a := by simpa using h
    intro z
    rcases List.mem_cons.mp z with rfl | z
    · exact h2.1 (List.mem_of_getElem? h3)
    · exact nodup_take h2.2 h3 z
theorem f_check_modes {P : Program} {w : World} {K : PySem.W.Frag} {mg : Str → Option Value} {base : Heap} (T : TX K mg) (F_is_mode : FN P w K mg base 2 "is_mode" ["value"] (spF K W_is_mode))  : FN P w K mg base 3 "check_modes" ["modes"] (spF K W_check_modes) := by
  obtain ⟨fd, F⟩ := T.fn 18 d_check_modes rfl
  refine ⟨T.glo "check_modes" (by decide +kernel), F.kp, fd, ok_f F sc_check_modes (fun xs k h => by obtain ⟨ms, rfl, hm, hk⟩ := h; rfl) (fun cdv A outer s H E hr => ⟨_, (pss_cons (ps_if (PW.pt (pw_or (pt_not (pt_val (pe_callB call_isi (by rfl) (T.free "isinstance" (by decide +kernel)) (by decide +kernel) (pa_cons (pv 0) (pa_cons (pe_bltn (v := .ty "tuple") (by rfl) (T.free "tuple" (by decide +kernel)) (by decide +kernel) rfl) pa_nil))))) (pw_or1 (pt_not (pt_chain op_le op_le pe_int (pe_callB call_len_seq (by rfl) (T.free "len" (by decide +kernel)) (by decide +kernel) (pa_cons (pv 0) pa_nil)) (pe_glob (v := .int 3) rfl T.nmodes.choose_spec ⟨_, rfl⟩)))))) (pss_one ps_never) pss_nil) (pss_cons (ps_set (i := 1) sc_check_modes.nd rfl (Or.inl rfl) (pe_lst pa_nil)) (pss_one (ps_for PassesOwn.never rfl (pi_enumT (by rfl) (T.free "enumerate" (by decide +kernel)) (pa_cons (pv 0) pa_nil)) (pg_tup (by rfl) (pgs_cons (pg_name (i := 2) sc_check_modes.nd rfl (Or.inl rfl)) (pgs_cons (pg_name (i := 3) sc_check_modes.nd rfl (Or.inl rfl)) pgs_nil))) (pss_cons (ps_if (PW.pt (pw_or (pt_not (pt_val (pe_fn F_is_mode hr (by decide) (pa_cons (pv 3) pa_nil)))) (pw_or1 (pt_cmpR op_in_seq (pv 3) (pv 1) (by rfl))))) (pss_one ps_never) pss_nil) (pss_one (ps_expr (pe_bm PySem.F.plainAttrs_list PySem.F.slot_list_append PySem.F.type_list_append mt_append (pv 1) (pa_cons (pv 3) pa_nil))))))))), ?_⟩), F.bindsN (ps := ["modes"]) fun _ _ _ _ _ _ us hl => match us, hl with | [_], _ => rfl⟩
  intro π B0 H0 xs k hW
  obtain ⟨ms, rfl, hm, hk⟩ := hW
  try dsimp only [cxOf, Cx.nox]
  have h1 := hm.lo
  have h2 := hm.hi
  repeat walk_at "k"
  refine wr_forE ?_
  repeat walk_at "kk"
  refine ⟨_, rfl, fun i Γ' c' => c' = 0 ∧ ∃ e2 e3, Γ' = [.ab (.d (.tuple (ms.map .str))), .own ((ms.take i).map .str), e2, e3], ⟨rfl, _, _, rfl⟩, fun i d Γ' c' hd hI => ?_, fun Γ' c' hI => hk⟩
  · obtain ⟨rfl, e2, e3, rfl⟩ := hI
    rw [List.getElem?_map] at hd
    cases ha : ms[i]? with
    | none => rw [ha] at hd; cases hd
    | some m =>
      rw [ha] at hd
      cases hd
      have hi := (List.getElem?_eq_some_iff.mp ha).1
      have hmo := hm.ok m (List.mem_of_getElem? ha)
      have hno : decide (m ∈ ms.take i) = false := decide_eq_false (nodup_take hm.nd ha)
      repeat walk_at "k"
      refine wr_app rfl (by rw [List.length_map, List.length_take]; omega) ?_
      repeat walk_at "kt"
      refine ⟨_, rfl, rfl, .ab (.d (.int i)), .ab (.d (.str m)), ?_⟩
      rw [take_snoc PyData.str ha]
      rfl
theorem f_parts_of {P : Program} {w : World} {K : PySem.W.Frag} {mg : Str → Option Value} {base : Heap} (T : TX K mg) (F_row_in : FN P w K mg base 4 "row_in" ["line", "room", "modes"] (spF K W_row_in))  : FN P w K mg base 5 "parts_of" ["rows", "room", "modes"] (spF K W_parts_of) := by
  obtain ⟨fd, F⟩ := T.fn 19 d_parts_of rfl
  refine ⟨T.glo "parts_of" (by decide +kernel), F.kp, fd, ok_f F sc_parts_of (fun xs k h => by obtain ⟨as, room, ms, rfl, h1, h2, h3, h4, hk⟩ := h; rfl) (fun cdv A outer s H E hr => ⟨_, (pss_cons (ps_if (PW.pt (pw_or (pt_not (pt_val (pe_callB call_isi (by rfl) (T.free "isinstance" (by decide +kernel)) (by decide +kernel) (pa_cons (pv 0) (pa_cons (pe_bltn (v := .ty "tuple") (by rfl) (T.free "tuple" (by decide +kernel)) (by decide +kernel) rfl) pa_nil))))) (pw_or1 (pt_cmpR op_gt (pe_callB call_len_seq (by rfl) (T.free "len" (by decide +kernel)) (by decide +kernel) (pa_cons (pv 0) pa_nil)) (pe_glob (v := .int 12) rfl T.nrows.choose_spec ⟨_, rfl⟩) (nomark _))))) (pss_one ps_never) pss_nil) (pss_cons (ps_set (i := 3) sc_parts_of.nd rfl (Or.inl rfl) (pe_lst pa_nil)) (pss_cons (ps_for PassesOwn.never rfl (pi_enumT (by rfl) (T.free "enumerate" (by decide +kernel)) (pa_cons (pv 0) pa_nil)) (pg_tup (by rfl) (pgs_cons (pg_name (i := 4) sc_parts_of.nd rfl (Or.inl rfl)) (pgs_cons (pg_name (i := 5) sc_parts_of.nd rfl (Or.inl rfl)) pgs_nil))) (pss_cons (ps_set (i := 6) sc_parts_of.nd rfl (Or.inl rfl) (pe_fn F_row_in hr (by decide) (pa_cons (pv 5) (pa_cons (pv 1) (pa_cons (pv 2) pa_nil))))) (pss_cons (ps_if (pt_cmpR op_isN (pv 6) pe_non (nomark _)) (pss_one ps_never) pss_nil) (pss_one (ps_expr (pe_bm PySem.F.plainAttrs_list PySem.F.slot_list_append PySem.F.type_list_append mt_append (pv 3) (pa_cons (pv 6) pa_nil))))))) (pss_one (ps_ret (pe_callTy call_tuple_of (by rfl) (T.free "tuple" (by decide +kernel)) (by decide +kernel) (pa_cons (pv 3) pa_nil))))))), ?_⟩), F.bindsN (ps := ["rows", "room", "modes"]) fun _ _ _ _ _ _ us hl => match us, hl with | [_, _, _], _ => rfl⟩
  intro π B0 H0 xs k hW
  obtain ⟨as, room, ms, rfl, h1, h2, h3, h4, hk⟩ := hW
  try dsimp only [cxOf, Cx.nox]
  repeat walk_at "k"
  refine wr_forE ?_
  repeat walk_at "kk"
  refine ⟨_, rfl, fun i Γ' c' => c' = 0 ∧ ∃ e4 e5 e6, Γ' = [.ab (.d (.tuple ((as.map Act.text).map .str))), .ab (.d (.int room)), .ab (.d (.tuple (ms.map .str))), .own ((as.take i).map Act.row), e4, e5, e6], ⟨rfl, _, _, _, rfl⟩, fun i d Γ' c' hd hI => ?_, fun Γ' c' hI => ?_⟩
  · obtain ⟨rfl, e4, e5, e6, rfl⟩ := hI
    rw [List.getElem?_map, List.getElem?_map] at hd
    cases ha : as[i]? with
    | none => rw [ha] at hd; cases hd
    | some a =>
      rw [ha] at hd
      cases hd
      have hi := (List.getElem?_eq_some_iff.mp ha).1
      have hm := h2 a (List.mem_of_getElem? ha)
      repeat walk_at "kt"
      refine ⟨a, room, ms, rfl, hm, h3, h4, ?_⟩
      repeat walk_at "k"
      refine wr_app rfl (by rw [List.length_map, List.length_take]; omega) ?_
      repeat walk_at "kt"
      refine ⟨_, rfl, rfl, .ab (.d (.int i)), .ab (.d (.str a.text)), .ab (.d a.row), ?_⟩
      rw [take_snoc Act.row ha]
      rfl
  · obtain ⟨rfl, e4, e5, e6, rfl⟩ := hI
    repeat walk_at "kt"
    rw [List.length_map, List.length_map, List.take_length]
    exact hk
theorem f_P_modes {P : Program} {w : World} {K : PySem.W.Frag} {mg : Str → Option Value} {base : Heap} (T : TX K mg)   : FM P w K mg base 1 (padr "Program" "modes" K) ["self"] (spF K W_P_modes) := by
  obtain ⟨fd, F⟩ := T.fn 21 d_P_modes rfl
  refine ⟨fd, ok_f F sc_P_modes (fun xs k h => by obtain ⟨p, rfl, hk⟩ := h; rfl) (fun cdv A outer s H E hr => ⟨_, (pss_one (ps_ret (pe_fld (pv 0) rfl))), ?_⟩), F.bindsN (ps := ["self"]) fun _ _ _ _ _ _ us hl => match us, hl with | [_], _ => rfl⟩
  intro π B0 H0 xs k hW
  obtain ⟨p, rfl, hk⟩ := hW
  try dsimp only [cxOf, Cx.nox]
  refine wr_ret (wp_modes T ?_)
  repeat walk_at "k"
theorem f_check_program {P : Program} {w : World} {K : PySem.W.Frag} {mg : Str → Option Value} {base : Heap} (T : TX K mg)   : FN P w K mg base 1 "check_program" ["value"] (spF K W_check_program) := by
  obtain ⟨fd, F⟩ := T.fn 24 d_check_program rfl
  refine ⟨T.glo "check_program" (by decide +kernel), F.kp, fd, ok_f F sc_check_program (fun xs k h => by obtain ⟨p, rfl, hk⟩ := h; rfl) (fun cdv A outer s H E hr => ⟨_, (pss_one (ps_if (pt_not (pt_val (pe_callB call_isi (by rfl) (T.free "isinstance" (by decide +kernel)) (by decide +kernel) (pa_cons (pv 0) (pa_cons (pe_glob (v := .ref (He.ga K "Program")) rfl (T.glo "Program" (by decide +kernel)) rfl) pa_nil))))) (pss_one ps_never) pss_nil)), ?_⟩), F.bindsN (ps := ["value"]) fun _ _ _ _ _ _ us hl => match us, hl with | [_], _ => rfl⟩
  intro π B0 H0 xs k hW
  obtain ⟨p, rfl, hk⟩ := hW
  try dsimp only [cxOf, Cx.nox]
  repeat walk_at "k"
theorem f_holds {P : Program} {w : World} {K : PySem.W.Frag} {mg : Str → Option Value} {base : Heap} (T : TX K mg)   : FN P w K mg base 1 "holds" ["condition", "program", "mode", "kept", "whole", "above"] (spF K W_holds) := by
  obtain ⟨fd, F⟩ := T.fn 25 d_holds rfl
  refine ⟨T.glo "holds" (by decide +kernel), F.kp, fd, ok_f F sc_holds (fun xs k h => by obtain ⟨c, p, mode, kept, whole, above, rfl, hk⟩ := h; rfl) (fun cdv A outer s H E hr => ⟨_, (pss_cons (ps_asg (pv 0) (pg_tup (by rfl) (pgs_cons (pg_name (i := 6) sc_holds.nd rfl (Or.inl rfl)) (pgs_cons (pg_name (i := 7) sc_holds.nd rfl (Or.inl rfl)) (pgs_cons (pg_name (i := 8) sc_holds.nd rfl (Or.inl rfl)) pgs_nil))))) (pss_cons (ps_if (pt_cmpR op_eq (pv 6) pe_str (nomark _)) (pss_one (ps_ret (pe_cmpR op_eq (pe_cmpR op_eq (pv 2) (pv 7) (nomark _)) (pv 8) (nomark _)))) pss_nil) (pss_cons (ps_if (pt_cmpR op_eq (pv 6) pe_str (nomark _)) (pss_one (ps_ret (pe_cmpR op_eq (pe_cmpR op_eq (pv 3) (pe_fld (pv 1) rfl) (nomark _)) (pv 8) (nomark _)))) pss_nil) (pss_cons (ps_if (pt_cmpR op_eq (pv 6) pe_str (nomark _)) (pss_one (ps_ret (pe_cmpR op_eq (pe_cmpR op_le (pv 3) (pv 7) (nomark _)) (pv 8) (nomark _)))) pss_nil) (pss_one (ps_ret (pe_cmpR op_eq (pe_ifExp (pt_cmpR op_eq (pv 6) pe_str (nomark _)) (pv 4) (pv 5)) (pv 8) (nomark _)))))))), ?_⟩), F.bindsN (ps := ["condition", "program", "mode", "kept", "whole", "above"]) fun _ _ _ _ _ _ us hl => match us, hl with | [_, _, _, _, _, _], _ => rfl⟩
  intro π B0 H0 xs k hW
  obtain ⟨c, p, mode, kept, whole, above, rfl, hk⟩ := hW
  try dsimp only [cxOf, Cx.nox]
  obtain ⟨ck, pos⟩ := c
  cases ck with
  | inn m => repeat walk_at "k"
  | full => repeat walk_at "k"
  | few n => repeat walk_at "k"
  | whole => repeat walk_at "k"
  | above => repeat walk_at "k"
theorem f_row_of {P : Program} {w : World} {K : PySem.W.Frag} {mg : Str → Option Value} {base : Heap} (T : TX K mg) (F_holds : FN P w K mg base 1 "holds" ["condition", "program", "mode", "kept", "whole", "above"] (spF K W_holds))  : FN P w K mg base 2 "row_of" ["program", "occasion", "mode", "kept", "whole", "above"] (spF K W_row_of) := by
  obtain ⟨fd, F⟩ := T.fn 26 d_row_of rfl
  refine ⟨T.glo "row_of" (by decide +kernel), F.kp, fd, ok_f F sc_row_of (fun xs k h => by obtain ⟨p, o, mode, kept, whole, above, rfl, hp, hk⟩ := h; rfl) (fun cdv A outer s H E hr => ⟨_, (pss_cons (ps_for PassesOwn.never rfl (pi_enumT (by rfl) (T.free "enumerate" (by decide +kernel)) (pa_cons (pe_fld (pv 0) rfl) pa_nil)) (pg_tup (by rfl) (pgs_cons (pg_name (i := 6) sc_row_of.nd rfl (Or.inl rfl)) (pgs_cons (pg_name (i := 7) sc_row_of.nd rfl (Or.inl rfl)) pgs_nil))) (pss_one (ps_if (PW.pt (pw_and (pt_cmpR op_eq (pe_ix (r := rIxT K) ix_tup (pv 7) pe_int (fun _ _ => rfl)) (pv 1) (nomark _)) (pw_and1 (pt_val (pe_callB (cr_all rfl) (by rfl) (T.free "all" (by decide +kernel)) (by decide +kernel) (pa_cons (pe_lc (own := [("one", 8)]) (g := gName 8) (tt := tYes) (by rfl) sc_row_of.nd (pi_tup (pe_ix (r := rIxT K) ix_tup (pv 7) pe_int (fun _ _ => rfl))) (blkOk_by (own := [("one", 8)]) (N := ["program", "occasion", "mode", "kept", "whole", "above", "index", "part", "one"]) (sc := defScope s_row_of) (by decide +kernel)) (fun _ _ _ _ _ => pg_name (i := 8) sc_row_of.nd rfl (Or.inl rfl)) (fun _ _ _ _ _ => pts_nil) (fun _ _ _ _ _ => (pe_fn F_holds hr (by decide) (pa_cons (pv 8) (pa_cons (pv 0) (pa_cons (pv 2) (pa_cons (pv 3) (pa_cons (pv 4) (pa_cons (pv 5) pa_nil))))))))) pa_nil)))))) (pss_one (ps_ret (pv 6))) pss_nil))) (pss_one (ps_ret pe_non))), ?_⟩), bindsAll F (by intro z; cases z) 6 1 rfl rfl fun _ _ _ _ _ _ _ us its hl hl2 => match us, hl, its, hl2 with | [_, _, _, _, _, _], _, [_], _ => ⟨_, rfl, rfl⟩⟩
  intro π B0 H0 xs k hW
  obtain ⟨p, o, mode, kept, whole, above, rfl, hp, hk⟩ := hW
  try dsimp only [cxOf, Cx.nox]
  have hf := hp.few
  refine wr_seq (wr_forE (wa_cons (wp_parts T ?_)))
  repeat walk_at "kt"
  refine ⟨p.g, rfl, wa_nil ?_⟩
  refine ⟨p.acts.map Act.row, rfl, fun i Γ' c' => c' = 0 ∧ p.rowOf o mode kept whole above = firstFit (Act.fits p.room o mode kept whole above) (p.acts.drop i) i ∧ ∃ e6 e7 e8, Γ' = [.ab (.prog p.g), .ab (.d (.str o.s)), .ab (.d (.str mode)), .ab (.d (.int kept)), .ab (.d (.bool whole)), .ab (.d (.bool above)), e6, e7, e8], ⟨rfl, rfl, _, _, _, rfl⟩, fun i d Γ' c' hd hI => ?_, fun Γ' c' hI => ?_⟩
  · obtain ⟨rfl, hrow, e6, e7, e8, rfl⟩ := hI
    rw [List.getElem?_map] at hd
    cases ha : p.acts[i]? with
    | none => rw [ha] at hd; cases hd
    | some a =>
      rw [ha] at hd
      cases hd
      have hok := hp.acts a (List.mem_of_getElem? ha)
      rw [firstFit_drop i ha] at hrow
      have hfit : a.fits p.room o mode kept whole above = (decide (a.o = o) && (a.cs.map (Cnd.h p.room mode kept whole above)).all id) := rfl
      repeat walk_at "k"
      rw [oc_eq a.o o]
      cases ho : decide (a.o = o) with
      | false =>
        rw [ho] at hfit
        repeat walk_at "k"
        rw [hfit] at hrow
        exact ⟨hrow, .ab (.d (.int i)), .ab (.d a.row), e8, rfl⟩
      | true =>
        rw [ho] at hfit
        repeat walk_at "k"
        refine wp_mapTA a.cs (g := Cnd.data) (f := fun c => .bool (c.h p.room mode kept whole above)) ?_
        repeat walk_at "kt"
        refine rn_ixT (by rfl) ?_
        refine ⟨rfl, by have := hok.few; omega, fun c hc => ?_, ?_⟩
        · repeat walk_at "kt"
          exact ⟨c, p, mode, kept, whole, above, rfl, rfl, rfl⟩
        rw [show (a.cs.map fun c => PyData.bool (c.h p.room mode kept whole above)) = (a.cs.map (Cnd.h p.room mode kept whole above)).map PyData.bool by rw [List.map_map]; rfl]
        repeat walk_at "kt"
        refine rc_all ?_
        repeat walk_at "k"
        cases hall : (a.cs.map (Cnd.h p.room mode kept whole above)).all id with
        | true =>
          rw [hall] at hfit
          rw [hfit] at hrow
          rw [hrow] at hk
          repeat walk_at "k"
        | false =>
          rw [hall] at hfit
          rw [hfit] at hrow
          repeat walk_at "k"
          exact ⟨.ab (.d (.int i)), .ab (.d a.row), e8, rfl⟩
  · obtain ⟨rfl, hrow, e6, e7, e8, rfl⟩ := hI
    rw [List.length_map, List.drop_length] at hrow
    rw [hrow] at hk
    repeat walk_at "k"
theorem f_deed_for {P : Program} {w : World} {K : PySem.W.Frag} {mg : Str → Option Value} {base : Heap} (T : TX K mg) (F_row_of : FN P w K mg base 2 "row_of" ["program", "occasion", "mode", "kept", "whole", "above"] (spF K W_row_of))  : FN P w K mg base 3 "deed_for" ["program", "occasion", "mode", "kept", "whole", "above"] (spF K W_deed_for) ∧ FND P w K mg base 3 "deed_for" ["program", "occasion", "mode", "kept", "whole", "above"] (spF K W_deed_for) [.bl false] := by
  obtain ⟨fd, F⟩ := T.fn 27 d_deed_for rfl
  suffices hok : FnOk P w K mg base CX0 3 (He.ga K "deed_for") fd ["program", "occasion", "mode", "kept", "whole", "above"] (spF K W_deed_for) by
    refine ⟨⟨T.glo "deed_for" (by decide +kernel), F.kp, fd, hok, bindsAll F (by intro z; cases z) 6 1 rfl rfl fun _ _ _ _ _ _ _ us its hl hl2 => match us, hl, its, hl2 with | [_, _, _, _, _, _], _, [_], _ => ⟨_, rfl, rfl⟩⟩, ⟨T.glo "deed_for" (by decide +kernel), F.kp, fd, ?_⟩⟩
    obtain ⟨ds, h1, h2⟩ := F.binds1 (ps := ["program", "occasion", "mode", "kept", "whole", "above"]) 5 0 (by intro z; cases z) rfl fun _ _ _ _ _ _ _ us its hl hl2 => match us, hl, its, hl2 with | [_, _, _, _, _], _, [_], _ => ⟨_, rfl, rfl⟩
    exact ⟨ds, hok, h1, h2⟩
  refine ok_f F sc_deed_for (fun xs k h => by obtain ⟨p, o, mode, kept, whole, above, rfl, hp, hm, hk⟩ := h; rfl) (fun cdv A outer s H E hr => ⟨_, (pss_cons (ps_set (i := 6) sc_deed_for.nd rfl (Or.inl rfl) (pe_fn F_row_of hr (by decide) (pa_cons (pv 0) (pa_cons (pv 1) (pa_cons (pv 2) (pa_cons (pv 3) (pa_cons (pv 4) (pa_cons (pv 5) pa_nil)))))))) (pss_cons (ps_if (pt_cmpR op_isN (pv 6) pe_non (nomark _)) (pss_one (ps_ret (pe_tup (pa_cons (pe_ifExp (pt_cmpR op_eq (pv 1) pe_str (nomark _)) pe_str pe_str) (pa_cons pe_int (pa_cons (pv 2) pa_nil)))))) pss_nil) (pss_cons (ps_set (i := 7) sc_deed_for.nd rfl (Or.inl rfl) (pe_ix (r := rIxT K) ix_tup (pe_fld (pv 0) rfl) (pv 6) (fun _ _ => rfl))) (pss_one (ps_ret (pe_tup (pa_cons (pe_ix (r := rIxT K) ix_tup (pv 7) pe_int (fun _ _ => rfl)) (pa_cons (pe_ix (r := rIxT K) ix_tup (pv 7) pe_int (fun _ _ => rfl)) (pa_cons (pe_orT (pe_ix (r := rIxT K) ix_tup (pv 7) pe_int (fun _ _ => rfl)) (pe_one (pv 2))) pa_nil))))))))), ?_⟩)
  intro π B0 H0 xs k hW
  obtain ⟨p, o, mode, kept, whole, above, rfl, hp, hm, hk⟩ := hW
  try dsimp only [cxOf, Cx.nox]
  unfold PD.deed at hk
  cases hrow : p.rowOf o mode kept whole above with
  | none =>
    rw [hrow] at hk
    repeat walk_at "kt"
    refine ⟨p, o, mode, kept, whole, above, rfl, hp, ?_⟩
    rw [hrow]
    cases o with
    | put => repeat walk_at "k"
    | loss => repeat walk_at "k"
    | ask => repeat walk_at "k"
  | some i =>
    rw [hrow] at hk
    obtain ⟨a, ha⟩ := rowOf_some hrow
    have hk : k (.d (De.data (match p.acts[i]? with | none => ⟨"", 0, mode⟩ | some a => ⟨a.ds.word, a.ds.count, if a.ds.to.length = 0 then mode else a.ds.to⟩))) := hk
    rw [ha] at hk
    have hok := hp.acts a (List.mem_of_getElem? ha)
    have hlen : a.ds.to.length ≤ 100000 := by
      have := hok.ds
      cases hds : a.ds with
      | one d => exact (by show 0 ≤ 100000; decide)
      | two d m =>
        rw [hds] at this
        have := len_mode hp.ms this.2
        show m.length ≤ 100000
        omega
      | goal m =>
        rw [hds] at this
        have := len_mode hp.ms this.2
        show m.length ≤ 100000
        omega
    repeat walk_at "kt"
    refine ⟨p, o, mode, kept, whole, above, rfl, hp, ?_⟩
    rw [hrow]
    repeat walk_at "k"
    refine rn_ixTn (d := a.row) (by rw [List.getElem?_map, ha]; rfl) ?_
    repeat walk_at "k"
    refine wp_orT ?_
    repeat walk_at "k"
    refine .inl ⟨a.ds.to, rfl, hlen, fun hz => ?_, fun hz => ?_⟩
    · have hk : k (.d (.tuple [.str a.ds.word, .int a.ds.count, .str (if a.ds.to.length = 0 then mode else a.ds.to)])) := hk
      rw [if_neg hz] at hk
      repeat walk_at "k"
    · have hk : k (.d (.tuple [.str a.ds.word, .int a.ds.count, .str (if a.ds.to.length = 0 then mode else a.ds.to)])) := hk
      rw [if_pos hz] at hk
      repeat walk_at "k"
theorem f_is_event {P : Program} {w : World} {K : PySem.W.Frag} {mg : Str → Option Value} {base : Heap} (T : TX K mg) (F_is_below : FN P w K mg base 3 "is_below" ["value", "many"] (spF K W_is_below))  : FN P w K mg base 4 "is_event" ["value", "size"] (spF K W_is_event) := by
  obtain ⟨fd, F⟩ := T.fn 28 d_is_event rfl
  refine ⟨T.glo "is_event" (by decide +kernel), F.kp, fd, ok_f F sc_is_event (fun xs k h => by obtain ⟨e, n, rfl, he, hk⟩ := h; rfl) (fun cdv A outer s H E hr => ⟨_, (pss_cons (ps_if (PW.pt (pw_or (pt_not (pt_val (pe_callB call_isi (by rfl) (T.free "isinstance" (by decide +kernel)) (by decide +kernel) (pa_cons (pv 0) (pa_cons (pe_bltn (v := .ty "tuple") (by rfl) (T.free "tuple" (by decide +kernel)) (by decide +kernel) rfl) pa_nil))))) (pw_or (pt_cmpR (op_eqD hr.units) (pv 0) (pe_tup pa_nil) (nomark _)) (pw_or1 (pt_not (pt_val (pe_callB call_isi (by rfl) (T.free "isinstance" (by decide +kernel)) (by decide +kernel) (pa_cons (pe_ix (r := rIxT K) ix_tup (pv 0) pe_int (fun _ _ => rfl)) (pa_cons (pe_bltn (v := .ty "str") (by rfl) (T.free "str" (by decide +kernel)) (by decide +kernel) rfl) pa_nil))))))))) (pss_one (ps_ret pe_bl)) pss_nil) (pss_cons (ps_par (i := 2) (j := 3) (by rfl) sc_is_event.nd rfl rfl (by decide) rfl rfl (pa_cons (pe_ix (r := rIxT K) ix_tup (pv 0) pe_int (fun _ _ => rfl)) (pa_cons (pe_slice sl_tupA (pv 0) (po_some pe_int) po_none) pa_nil)) (by rfl)) (pss_cons (ps_if (pt_cmpR op_eq (pv 2) pe_str (nomark _)) (pss_one (ps_ret (pe_cmpR (op_eqD hr.units) (pv 3) (pe_tup pa_nil) (nomark _)))) pss_nil) (pss_cons (ps_if (pt_cmpR op_eq (pv 2) pe_str (nomark _)) (pss_one (ps_ret (pe_and (pe_cmpR op_eq (pe_callB call_len_seq (by rfl) (T.free "len" (by decide +kernel)) (by decide +kernel) (pa_cons (pv 3) pa_nil)) pe_int (nomark _)) (pe_one (pe_fn F_is_below hr (by decide) (pa_cons (pe_ix (r := rIxT K) ix_tup (pv 3) pe_int (fun _ _ => rfl)) (pa_cons (pe_op op_add (pv 1) pe_int) pa_nil))))))) pss_nil) (pss_cons (ps_if (pt_cmpR op_eq (pv 2) pe_str (nomark _)) (pss_one (ps_ret (pe_and (pe_cmpR op_eq (pe_callB call_len_seq (by rfl) (T.free "len" (by decide +kernel)) (by decide +kernel) (pa_cons (pv 3) pa_nil)) pe_int (nomark _)) (pe_one (pe_fn F_is_below hr (by decide) (pa_cons (pe_ix (r := rIxT K) ix_tup (pv 3) pe_int (fun _ _ => rfl)) (pa_cons (pv 1) pa_nil))))))) pss_nil) (pss_one (ps_ret (pe_and (pe_cmpR op_eq (pv 2) pe_str (nomark _)) (pe_and (pe_cmpR op_eq (pe_callB call_len_seq (by rfl) (T.free "len" (by decide +kernel)) (by decide +kernel) (pa_cons (pv 3) pa_nil)) pe_int (nomark _)) (pe_and (pe_fn F_is_below hr (by decide) (pa_cons (pe_ix (r := rIxT K) ix_tup (pv 3) pe_int (fun _ _ => rfl)) (pa_cons (pv 1) pa_nil))) (pe_one (pe_fn F_is_below hr (by decide) (pa_cons (pe_ix (r := rIxT K) ix_tup (pv 3) pe_int (fun _ _ => rfl)) (pa_cons (pv 1) pa_nil)))))))))))))), ?_⟩), F.bindsN (ps := ["value", "size"]) fun _ _ _ _ _ _ us hl => match us, hl with | [_, _], _ => rfl⟩
  intro π B0 H0 xs k hW
  obtain ⟨e, n, rfl, he, hk⟩ := hW
  try dsimp only [cxOf, Cx.nox]
  have sne : ∀ (w : Str) (ds : List PyData), PyData.strOk w = true → (∀ d, d ∈ ds → ∃ i, d = PyData.int i) → SeqAt.shaped (.tuple (.str w :: ds)) = true := fun w ds hw hd => (sh_tup (n := 1) fun d hd2 => by
    rcases List.mem_cons.mp hd2 with rfl | hd2
    · exact sh_str hw
    · obtain ⟨i, rfl⟩ := hd d hd2
      exact sh_int i).shaped (by decide)
  cases e with
  | ask =>
    repeat walk_at "k"
    refine rn_eqDK (b := false) (sne _ _ (by decide +kernel) (by simp)) (by decide +kernel) (by rfl) ?_
    repeat walk_at "k"
    refine rs_T ?_
    repeat walk_at "k"
    refine rn_eqDK (b := true) (by decide +kernel) (by decide +kernel) (by rfl) ?_
    repeat walk_at "k"
  | put r =>
    have h1 : 0 ≤ r ∧ r < n + 1 := he
    repeat walk_at "k"
    refine rn_eqDK (b := false) (sne _ _ (by decide +kernel) (by simp)) (by decide +kernel) (by rfl) ?_
    repeat walk_at "k"
    refine rs_T ?_
    repeat walk_at "k"
  | take r =>
    have h1 : 0 ≤ r ∧ r < n := he
    repeat walk_at "k"
    refine rn_eqDK (b := false) (sne _ _ (by decide +kernel) (by simp)) (by decide +kernel) (by rfl) ?_
    repeat walk_at "k"
    refine rs_T ?_
    repeat walk_at "k"
  | move a b =>
    have h1 : 0 ≤ a ∧ a < n ∧ 0 ≤ b ∧ b < n := he
    repeat walk_at "k"
    refine rn_eqDK (b := false) (sne _ _ (by decide +kernel) (by simp)) (by decide +kernel) (by rfl) ?_
    repeat walk_at "k"
    refine rs_T ?_
    repeat walk_at "k"
theorem f_check_event {P : Program} {w : World} {K : PySem.W.Frag} {mg : Str → Option Value} {base : Heap} (T : TX K mg) (F_is_event : FN P w K mg base 4 "is_event" ["value", "size"] (spF K W_is_event))  : FN P w K mg base 5 "check_event" ["event", "size"] (spF K W_check_event) := by
  obtain ⟨fd, F⟩ := T.fn 41 d_check_event rfl
  refine ⟨T.glo "check_event" (by decide +kernel), F.kp, fd, ok_f F sc_check_event (fun xs k h => by obtain ⟨e, n, rfl, he, hk⟩ := h; rfl) (fun cdv A outer s H E hr => ⟨_, (pss_one (ps_if (pt_not (pt_val (pe_fn F_is_event hr (by decide) (pa_cons (pv 0) (pa_cons (pv 1) pa_nil))))) (pss_one ps_never) pss_nil)), ?_⟩), F.bindsN (ps := ["event", "size"]) fun _ _ _ _ _ _ us hl => match us, hl with | [_, _], _ => rfl⟩
  intro π B0 H0 xs k hW
  obtain ⟨e, n, rfl, he, hk⟩ := hW
  try dsimp only [cxOf, Cx.nox]
  repeat walk_at "k"
theorem f_read_state {P : Program} {w : World} {K : PySem.W.Frag} {mg : Str → Option Value} {base : Heap} (T : TX K mg)   : FN P w K mg base 1 "read_state" ["mode", "size", "count"] (spF K W_read_state) := by
  obtain ⟨fd, F⟩ := T.fn 29 d_read_state rfl
  refine ⟨T.glo "read_state" (by decide +kernel), F.kp, fd, ok_f F sc_read_state (fun xs k h => by obtain ⟨mode, size, count, rfl, h0, h4, hk⟩ := h; rfl) (fun cdv A outer s H E hr => ⟨_, (pss_cons (ps_set (i := 3) sc_read_state.nd rfl (Or.inl rfl) (pe_callB (call_min2 rfl) (by rfl) (T.free "min" (by decide +kernel)) (by decide +kernel) (pa_cons (pv 2) (pa_cons (pv 1) pa_nil)))) (pss_one (ps_ret (pe_tup (pa_cons (pe_tup (pa_cons (pv 0) (pa_cons (pv 1) (pa_cons (pe_tupRg rfl (by rfl) (T.free "tuple" (by decide +kernel)) (prg_1 (by rfl) (T.free "range" (by decide +kernel)) (pv 3))) pa_nil)))) (pa_cons (pe_tup (pa_cons (pv 3) pa_nil)) pa_nil)))))), ?_⟩), F.bindsN (ps := ["mode", "size", "count"]) fun _ _ _ _ _ _ us hl => match us, hl with | [_, _, _], _ => rfl⟩
  intro π B0 H0 xs k hW
  obtain ⟨mode, size, count, rfl, h0, h4, hk⟩ := hW
  try dsimp only [cxOf, Cx.nox]
  obtain ⟨m, hm, hm4⟩ : ∃ m : Nat, (if size < (count : Int) then size else (count : Int)) = (m : Int) ∧ m ≤ 4 := by
    refine ⟨(if size < (count : Int) then size else (count : Int)).toNat, ?_, ?_⟩ <;> split <;> omega
  have hk : k (.d (.tuple [.tuple [.str mode, .int size, .tuple ((upto' (if size < (count : Int) then size else (count : Int)).toNat).map .int)], .tuple [.int ((if size < (count : Int) then size else (count : Int)).toNat : Nat)]])) := hk
  rw [hm] at hk
  repeat walk_at "k"
  rw [hm]
  refine wp_tupRg ?_
  repeat walk_at "k"
theorem f_P_str {P : Program} {w : World} {K : PySem.W.Frag} {mg : Str → Option Value} {base : Heap} (T : TX K mg)   : FM P w K mg base 1 (He.ma K (He.ga K "Program") "__str__") ["self"] (spF K W_P_str) := by
  obtain ⟨fd, F⟩ := T.fn 23 d_P_str rfl
  refine ⟨fd, ok_f F sc_P_str (fun xs k h => by obtain ⟨p, rfl, hp, hk⟩ := h; rfl) (fun cdv A outer s H E hr => ⟨_, (pss_cons (ps_set (i := 1) sc_P_str.nd rfl (Or.inl rfl) (pe_lst (pa_cons (pe_joined (PJ.cons pe_str (PJ.cons (pe_fmt (pe_fld (pv 0) rfl)) (PJ.cons pe_str (PJ.cons (pe_fmt (pe_fld (pv 0) rfl)) (PJ.cons pe_str (PJ.cons (pe_fmt (pe_join pe_str (pe_fld (pv 0) rfl))) PJ.nil))))))) pa_nil))) (pss_one (ps_ret (pe_join pe_str (pe_op op_cat (pv 1) (pe_callTy call_list_of (by rfl) (T.free "list" (by decide +kernel)) (by decide +kernel) (pa_cons (pe_fld (pv 0) rfl) pa_nil))))))), ?_⟩), F.bindsN (ps := ["self"]) fun _ _ _ _ _ _ us hl => match us, hl with | [_], _ => rfl⟩
  intro π B0 H0 xs k hW
  obtain ⟨p, rfl, hp, hk⟩ := hW
  try dsimp only [cxOf, Cx.nox]
  have hr4 := hp.r4
  have hw4 : p.want ≤ 4 := Nat.le_trans hp.w2 hp.r4
  have s1 := sum_modes hp.ms
  have s2 := len_modes hp.ms
  have s3 := sum_acts hp.few hp.acts hp.ms
  have s4 := hp.few
  have s5 := hp.ms.hi
  have l1 : (Str.ofString (toString (p.room : Int))).length = 1 := by rw [fig_str hr4]; rfl
  have l2 : (Str.ofString (toString (p.want : Int))).length = 1 := by rw [fig_str hw4]; rfl
  have hline : p.line.length ≤ 100 := by
    unfold PD.line
    simp only [PySem.Str.length_append]
    show 0 + 5 + (Str.ofString (toString (p.room : Int))).length + 8 + (Str.ofString (toString (p.want : Int))).length + 8 + (Txt.join " " p.ms).length ≤ 100
    omega
  have c0 : Str.empty.length = 0 := rfl
  have c1 : (Str.ofString "room ").length = 5 := by decide
  have c2 : (Str.ofString ", wants ").length = 8 := by decide
  have c3 : (Str.ofString ", modes ").length = 8 := by decide
  repeat walk_at "k"
  refine wp_js ?_
  refine wj_cons (wp_str ⟨_, rfl, by decide, ?_⟩)
  refine wj_cons (wp_fmtI (wp_places T (wp_var (by rfl) ⟨p.g, rfl, (p.room : Int), rfl, small_log hr4, Str.ofString (toString (p.room : Int)), rfl, ?_, ?_⟩)))
  · simp only [PySem.Str.length_append]
    omega
  refine wj_cons (wp_str ⟨_, rfl, ?_, ?_⟩)
  · simp only [PySem.Str.length_append]
    omega
  refine wj_cons (wp_fmtI (wp_wanted T (wp_var (by rfl) ⟨p.g, rfl, (p.want : Int), rfl, small_log hw4, Str.ofString (toString (p.want : Int)), rfl, ?_, ?_⟩)))
  · simp only [PySem.Str.length_append]
    omega
  refine wj_cons (wp_str ⟨_, rfl, ?_, ?_⟩)
  · simp only [PySem.Str.length_append]
    omega
  refine wj_cons (wp_fmtS (wp_m1 (wp_str ⟨_, rfl, wp_modes T (wp_var (by rfl) ⟨_, rfl, ?_⟩)⟩)))
  refine rm_joinT (ys := p.ms) ?_ ⟨_, rfl, ?_, _, rfl, ?_, wj_nil ?_⟩
  · have c4 : (Str.ofString " ").length = 1 := by decide
    rw [c4]
    omega
  · omega
  · simp only [PySem.Str.length_append]
    omega
  repeat walk_at "k"
  refine rn_catL (by rw [List.length_map, List.length_map]; show 1 + p.acts.length ≤ 100000; omega) ?_
  refine rm_joinL (ys := [p.line] ++ p.acts.map Act.text) ?_ ?_
  · rw [List.map_append, List.sum_append, List.length_append, List.length_map]
    show (p.line.length + 0) + _ + (1 + p.acts.length) * 1 ≤ 100000
    omega
  exact hk
theorem f_put_state {P : Program} {w : World} {K : PySem.W.Frag} {mg : Str → Option Value} {base : Heap} (T : TX K mg) (F_deed_for : FN P w K mg base 3 "deed_for" ["program", "occasion", "mode", "kept", "whole", "above"] (spF K W_deed_for)) (F_read_state : FN P w K mg base 1 "read_state" ["mode", "size", "count"] (spF K W_read_state))  : FN P w K mg base 4 "put_state" ["program", "state", "rank"] (spF K W_put_state) := by
  obtain ⟨fd, F⟩ := T.fn 30 d_put_state rfl
  refine ⟨T.glo "put_state" (by decide +kernel), F.kp, fd, ok_f F sc_put_state (fun xs k h => by obtain ⟨p, s, r, rfl, hp, hs, hk⟩ := h; rfl) (fun cdv A outer s H E hr => ⟨_, (pss_cons (ps_asg (pv 1) (pg_tup (by rfl) (pgs_cons (pg_name (i := 3) sc_put_state.nd rfl (Or.inl rfl)) (pgs_cons (pg_name (i := 4) sc_put_state.nd rfl (Or.inl rfl)) (pgs_cons (pg_name (i := 5) sc_put_state.nd rfl (Or.inl rfl)) pgs_nil))))) (pss_cons (ps_set (i := 6) sc_put_state.nd rfl (Or.inl rfl) (pe_or (pe_cmpR (op_eqD hr.units) (pv 5) (pe_tup pa_nil) (nomark _)) (pe_one (pe_cmpR op_lt (pe_ix (r := rIxT K) ix_tup (pv 5) (pe_un un_neg pe_int) (fun _ _ => rfl)) (pv 2) (nomark _))))) (pss_cons (ps_asg (pe_fn F_deed_for hr (by decide) (pa_cons (pv 0) (pa_cons pe_str (pa_cons (pv 3) (pa_cons (pe_callB call_len_seq (by rfl) (T.free "len" (by decide +kernel)) (by decide +kernel) (pa_cons (pv 5) pa_nil)) (pa_cons (pe_cmpR op_eq (pe_callB call_len_seq (by rfl) (T.free "len" (by decide +kernel)) (by decide +kernel) (pa_cons (pv 5) pa_nil)) (pv 4) (nomark _)) (pa_cons (pv 6) pa_nil))))))) (pg_tup (by rfl) (pgs_cons (pg_name (i := 7) sc_put_state.nd rfl (Or.inl rfl)) (pgs_cons (pg_name (i := 8) sc_put_state.nd rfl (Or.inl rfl)) (pgs_cons (pg_name (i := 3) sc_put_state.nd rfl (Or.inl rfl)) pgs_nil))))) (pss_cons (ps_if (pt_cmpR op_eq (pv 7) pe_str (nomark _)) (pss_one (ps_ret (pe_fn F_read_state hr (by decide) (pa_cons (pv 3) (pa_cons (pe_op op_add (pv 4) pe_int) (pa_cons (pv 8) pa_nil)))))) pss_nil) (pss_cons (ps_setLc (i := 9) (own := [("old", 10)]) (g := gName 10) (tt := tYes) (by rfl) sc_put_state.nd rfl rfl (sw_true rfl rfl rfl (by decide +kernel)) (pi_tup (pv 5)) (blkOk_by (own := [("old", 10)]) (N := ["program", "state", "rank", "mode", "size", "kept", "above", "deed", "count", "ranks", "old"]) (sc := defScope s_put_state) (by decide +kernel)) (fun _ _ _ _ _ => pg_name (i := 10) sc_put_state.nd rfl (Or.inl rfl)) (fun _ _ _ _ _ => pts_nil) (fun _ _ _ _ _ => (pe_ifExp (pt_cmpR op_ge (pv 10) (pv 2) (nomark _)) (pe_op op_add (pv 10) pe_int) (pv 10)))) (pss_cons (ps_if (pt_cmpR op_eq (pv 7) pe_str (nomark _)) (pss_one (ps_set (i := 9) sc_put_state.nd rfl (Or.inl rfl) (pe_slice sl_list (pe_callB cr_sortedI (by rfl) (T.free "sorted" (by decide +kernel)) (by decide +kernel) (pa_cons (pe_op op_cat (pv 9) (pe_lst (pa_cons (pv 2) pa_nil))) pa_nil)) po_none (po_some (pe_fld (pv 0) rfl))))) pss_nil) (pss_one (ps_ret (pe_tup (pa_cons (pe_tup (pa_cons (pv 3) (pa_cons (pe_op op_add (pv 4) pe_int) (pa_cons (pe_callTy call_tuple_of (by rfl) (T.free "tuple" (by decide +kernel)) (by decide +kernel) (pa_cons (pv 9) pa_nil)) pa_nil)))) (pa_cons (pe_tup pa_nil) pa_nil))))))))))), ?_⟩), F.bindsN (ps := ["program", "state", "rank"]) fun _ _ _ _ _ _ us hl => match us, hl with | [_, _, _], _ => rfl⟩
  intro π B0 H0 xs k hW
  obtain ⟨p, s, r, rfl, hp, hs, hk⟩ := hW
  try dsimp only [cxOf, Cx.nox]
  obtain ⟨mode, size, kept⟩ := s
  obtain ⟨s0, k4, hm⟩ := hs
  have s0 : 0 ≤ size := s0
  have k4 : kept.length ≤ 4 := k4
  have hm : mode ∈ p.ms := hm
  refine wr_seq (wr_un3 (wp_var (by rfl) ⟨_, _, _, rfl, ?_⟩))
  refine wr_seq (wr_asg (EvN.imp (k' := fun x c1 => x = .d (.bool (aboveF kept r)) ∧ c1 = 0) ?_ fun x c1 hx => ?_))
  · repeat walk_at "k"
    refine rn_eqDK (b := kept.isEmpty) ((sh_ints (n := 1) kept).shaped (by decide)) (by decide +kernel) (eqv_nil _ _) ?_
    repeat walk_at "k"
    rcases List.eq_nil_or_concat kept with rfl | ⟨l, z, rfl⟩
    · repeat walk_at "k"
      all_goals (first | exact ⟨rfl, rfl⟩ | rfl)
    · refine ite_f (by simp) ?_
      repeat walk_at "k"
      rw [List.concat_eq_append, List.map_append]
      refine rn_ixT (atI_last _ _) ?_
      repeat walk_at "k"
      exact ⟨by simp [aboveF], rfl⟩
  obtain ⟨rfl, rfl⟩ := hx
  have hdk := deed_ok hp hm (o := .put) (kept := kept.length) (whole := decide ((kept.length : Int) = size)) (above := aboveF kept r)
  have hput : putF p ⟨mode, size, kept⟩ r = (let d := p.deed .put mode kept.length (decide ((kept.length : Int) = size)) (aboveF kept r); if d.word = "read" then rdF d.mode (size + 1) d.count else (⟨d.mode, size + 1, if d.word = "keep" then (sortI (upF r kept ++ [r])).take p.room else upF r kept⟩, [])) := rfl
  rw [hput] at hk
  repeat walk_at "kk"
  rw [List.length_map]
  refine ⟨p, .put, mode, kept.length, decide ((kept.length : Int) = size), aboveF kept r, rfl, hp, hm, ?_⟩
  generalize p.deed .put mode kept.length (decide ((kept.length : Int) = size)) (aboveF kept r) = de at hk hdk
  obtain ⟨dw, dc, dm⟩ := de
  obtain ⟨hc, hm2⟩ := hdk
  have hc : dc ≤ 4 := hc
  have hk : k (.d (pairD (if dw = "read" then rdF dm (size + 1) dc else (⟨dm, size + 1, if dw = "keep" then (sortI (upF r kept ++ [r])).take p.room else upF r kept⟩, [])))) := hk
  by_cases hw : dw = "read"
  · rw [if_pos hw] at hk
    repeat walk_at "k"
  · rw [if_neg hw] at hk
    repeat walk_at "k"
    refine wp_mapTI (f := fun old => .int (if old ≥ r then old + 1 else old)) ?_
    repeat walk_at "kt"
    refine ⟨kept, rfl, by omega, fun n hn => ?_, ?_⟩
    · by_cases hnr : n ≥ r
      · repeat walk_at "k"
        exact ⟨by rw [if_pos hnr], rfl⟩
      · repeat walk_at "k"
        exact ⟨by rw [if_neg hnr], rfl⟩
    have e : (kept.map fun old => PyData.int (if old ≥ r then old + 1 else old)) = (upF r kept).map .int := by
      unfold upF
      rw [List.map_map]
      rfl
    rw [e]
    have hul : (upF r kept).length ≤ 4 := by
      unfold upF
      rw [List.length_map]
      exact k4
    by_cases hw2 : dw = "keep"
    · rw [if_pos hw2] at hk
      repeat walk_at "k"
      refine rn_catL (by rw [List.length_map]; show (upF r kept).length + 1 ≤ 100000; omega) ?_
      rw [show (upF r kept).map PyData.int ++ [PyData.int r] = (upF r kept ++ [r]).map PyData.int by rw [List.map_append]; rfl]
      repeat walk_at "kt"
      refine rc_sortedI fun ns' h1 h2 => ?_
      rw [sorted_is h1 h2]
      repeat walk_at "k"
      have ec : cutD ((sortI (upF r kept ++ [r])).map PyData.int) none (some p.g.places) = ((sortI (upF r kept ++ [r])).take p.room).map PyData.int := by
        rw [List.map_take]
        exact cut_take _ p.room
      refine rs_L ?_
      rw [ec]
      repeat walk_at "k"
    · rw [if_neg hw2] at hk
      repeat walk_at "k"
theorem f_take_state {P : Program} {w : World} {K : PySem.W.Frag} {mg : Str → Option Value} {base : Heap} (T : TX K mg) (FD_deed_for : FND P w K mg base 3 "deed_for" ["program", "occasion", "mode", "kept", "whole", "above"] (spF K W_deed_for) [.bl false]) (F_read_state : FN P w K mg base 1 "read_state" ["mode", "size", "count"] (spF K W_read_state))  : FN P w K mg base 4 "take_state" ["program", "state", "rank"] (spF K W_take_state) := by
  obtain ⟨fd, F⟩ := T.fn 31 d_take_state rfl
  refine ⟨T.glo "take_state" (by decide +kernel), F.kp, fd, ok_f F sc_take_state (fun xs k h => by obtain ⟨p, s, r, rfl, hp, hs, h1, hk⟩ := h; rfl) (fun cdv A outer s H E hr => ⟨_, (pss_cons (ps_asg (pv 1) (pg_tup (by rfl) (pgs_cons (pg_name (i := 3) sc_take_state.nd rfl (Or.inl rfl)) (pgs_cons (pg_name (i := 4) sc_take_state.nd rfl (Or.inl rfl)) (pgs_cons (pg_name (i := 5) sc_take_state.nd rfl (Or.inl rfl)) pgs_nil))))) (pss_cons (ps_set (i := 6) sc_take_state.nd rfl (Or.inl rfl) (pe_callTy call_tuple_of (by rfl) (T.free "tuple" (by decide +kernel)) (by decide +kernel) (pa_cons (pe_lc (own := [("old", 9)]) (g := gName 9) (by rfl) sc_take_state.nd (pi_tup (pv 5)) (blkOk_by (own := [("old", 9)]) (N := ["program", "state", "rank", "mode", "size", "kept", "ranks", "deed", "count", "old"]) (sc := defScope s_take_state) (by decide +kernel)) (fun _ _ _ _ _ => pg_name (i := 9) sc_take_state.nd rfl (Or.inl rfl)) (fun _ _ _ _ _ => pts_one (pt_cmpR op_ne (pv 9) (pv 2) (nomark _))) (fun _ _ _ _ _ => (pe_ifExp (pt_cmpR op_gt (pv 9) (pv 2) (nomark _)) (pe_op op_sub (pv 9) pe_int) (pv 9)))) pa_nil))) (pss_cons (ps_if (pt_cmpR op_notIn_seq (pv 2) (pv 5) (by rfl)) (pss_one (ps_ret (pe_tup (pa_cons (pe_tup (pa_cons (pv 3) (pa_cons (pe_op op_sub (pv 4) pe_int) (pa_cons (pv 6) pa_nil)))) (pa_cons (pe_tup pa_nil) pa_nil))))) pss_nil) (pss_cons (ps_asg (pe_fnD FD_deed_for hr (by decide) (pa_cons (pv 0) (pa_cons pe_str (pa_cons (pv 3) (pa_cons (pe_callB call_len_seq (by rfl) (T.free "len" (by decide +kernel)) (by decide +kernel) (pa_cons (pv 6) pa_nil)) (pa_cons (pe_cmpR op_eq (pe_callB call_len_seq (by rfl) (T.free "len" (by decide +kernel)) (by decide +kernel) (pa_cons (pv 6) pa_nil)) (pe_op op_sub (pv 4) pe_int) (nomark _)) pa_nil)))))) (pg_tup (by rfl) (pgs_cons (pg_name (i := 7) sc_take_state.nd rfl (Or.inl rfl)) (pgs_cons (pg_name (i := 8) sc_take_state.nd rfl (Or.inl rfl)) (pgs_cons (pg_name (i := 3) sc_take_state.nd rfl (Or.inl rfl)) pgs_nil))))) (pss_cons (ps_if (pt_cmpR op_eq (pv 7) pe_str (nomark _)) (pss_one (ps_ret (pe_fn F_read_state hr (by decide) (pa_cons (pv 3) (pa_cons (pe_op op_sub (pv 4) pe_int) (pa_cons (pv 8) pa_nil)))))) pss_nil) (pss_one (ps_ret (pe_tup (pa_cons (pe_tup (pa_cons (pv 3) (pa_cons (pe_op op_sub (pv 4) pe_int) (pa_cons (pv 6) pa_nil)))) (pa_cons (pe_tup pa_nil) pa_nil)))))))))), ?_⟩), F.bindsN (ps := ["program", "state", "rank"]) fun _ _ _ _ _ _ us hl => match us, hl with | [_, _, _], _ => rfl⟩
  intro π B0 H0 xs k hW
  obtain ⟨p, s, r, rfl, hp, hs, h1, hk⟩ := hW
  try dsimp only [cxOf, Cx.nox]
  obtain ⟨mode, size, kept⟩ := s
  obtain ⟨s0, k4, hm⟩ := hs
  have s0 : 0 ≤ size := s0
  have k4 : kept.length ≤ 4 := k4
  have hm : mode ∈ p.ms := hm
  have h1 : 1 ≤ size := h1
  have htake : takeF p ⟨mode, size, kept⟩ r = (if r ∈ kept then (let d := p.deed .loss mode (downF r kept).length (decide (((downF r kept).length : Int) = size - 1)) false; if d.word = "read" then rdF d.mode (size - 1) d.count else (⟨d.mode, size - 1, downF r kept⟩, [])) else (⟨mode, size - 1, downF r kept⟩, [])) := rfl
  rw [htake] at hk
  refine wr_seq (wr_un3 (wp_var (by rfl) ⟨_, _, _, rfl, ?_⟩))
  repeat walk_at "k"
  refine wp_filTI (p := fun old => decide (old ≠ r)) (f := fun old => .int (if old > r then old - 1 else old)) ?_
  repeat walk_at "kt"
  refine ⟨kept, rfl, by omega, fun n hn => ?_, fun n hn hp => ?_, ?_⟩
  · repeat walk_at "kk"
    refine ⟨_, rfl, ?_, rfl⟩
    simp
  · by_cases hnr : n > r
    · repeat walk_at "k"
      exact ⟨by rw [if_pos hnr], rfl⟩
    · repeat walk_at "k"
      exact ⟨by rw [if_neg hnr], rfl⟩
  have e : ((kept.filter fun old => decide (old ≠ r)).map fun old => PyData.int (if old > r then old - 1 else old)) = (downF r kept).map .int := by
    unfold downF
    rw [List.map_map]
    rfl
  rw [e]
  repeat walk_at "k"
  by_cases hr : r ∈ kept
  · rw [if_pos hr] at hk
    refine ite_f (by simp [hr]) ?_
    have hdk := deed_ok hp hm (o := .loss) (kept := (downF r kept).length) (whole := decide (((downF r kept).length : Int) = size - 1)) (above := false)
    repeat walk_at "kk"
    rw [List.length_map]
    refine ⟨p, .loss, mode, (downF r kept).length, decide (((downF r kept).length : Int) = size - 1), false, rfl, hp, hm, ?_⟩
    generalize p.deed .loss mode (downF r kept).length (decide (((downF r kept).length : Int) = size - 1)) false = de at hk hdk
    obtain ⟨dw, dc, dm⟩ := de
    obtain ⟨hc, hm2⟩ := hdk
    have hc : dc ≤ 4 := hc
    have hk : k (.d (pairD (if dw = "read" then rdF dm (size - 1) dc else (⟨dm, size - 1, downF r kept⟩, [])))) := hk
    by_cases hw : dw = "read"
    · rw [if_pos hw] at hk
      repeat walk_at "k"
    · rw [if_neg hw] at hk
      repeat walk_at "k"
  · rw [if_neg hr] at hk
    refine ite_t (by simp [hr]) ?_
    repeat walk_at "k"
theorem f_ask_state {P : Program} {w : World} {K : PySem.W.Frag} {mg : Str → Option Value} {base : Heap} (T : TX K mg) (FD_deed_for : FND P w K mg base 3 "deed_for" ["program", "occasion", "mode", "kept", "whole", "above"] (spF K W_deed_for) [.bl false]) (F_read_state : FN P w K mg base 1 "read_state" ["mode", "size", "count"] (spF K W_read_state))  : FN P w K mg base 4 "ask_state" ["program", "state"] (spF K W_ask_state) := by
  obtain ⟨fd, F⟩ := T.fn 32 d_ask_state rfl
  refine ⟨T.glo "ask_state" (by decide +kernel), F.kp, fd, ok_f F sc_ask_state (fun xs k h => by obtain ⟨p, s, rfl, hp, hs, hk⟩ := h; rfl) (fun cdv A outer s H E hr => ⟨_, (pss_cons (ps_asg (pv 1) (pg_tup (by rfl) (pgs_cons (pg_name (i := 2) sc_ask_state.nd rfl (Or.inl rfl)) (pgs_cons (pg_name (i := 3) sc_ask_state.nd rfl (Or.inl rfl)) (pgs_cons (pg_name (i := 4) sc_ask_state.nd rfl (Or.inl rfl)) pgs_nil))))) (pss_cons (ps_asg (pe_fnD FD_deed_for hr (by decide) (pa_cons (pv 0) (pa_cons pe_str (pa_cons (pv 2) (pa_cons (pe_callB call_len_seq (by rfl) (T.free "len" (by decide +kernel)) (by decide +kernel) (pa_cons (pv 4) pa_nil)) (pa_cons (pe_cmpR op_eq (pe_callB call_len_seq (by rfl) (T.free "len" (by decide +kernel)) (by decide +kernel) (pa_cons (pv 4) pa_nil)) (pv 3) (nomark _)) pa_nil)))))) (pg_tup (by rfl) (pgs_cons (pg_name (i := 5) sc_ask_state.nd rfl (Or.inl rfl)) (pgs_cons (pg_name (i := 6) sc_ask_state.nd rfl (Or.inl rfl)) (pgs_cons (pg_name (i := 2) sc_ask_state.nd rfl (Or.inl rfl)) pgs_nil))))) (pss_cons (ps_if (pt_cmpR op_eq (pv 5) pe_str (nomark _)) (pss_one (ps_ret (pe_fn F_read_state hr (by decide) (pa_cons (pv 2) (pa_cons (pv 3) (pa_cons (pv 6) pa_nil)))))) pss_nil) (pss_one (ps_ret (pe_tup (pa_cons (pe_tup (pa_cons (pv 2) (pa_cons (pv 3) (pa_cons (pv 4) pa_nil)))) (pa_cons (pe_tup pa_nil) pa_nil)))))))), ?_⟩), F.bindsN (ps := ["program", "state"]) fun _ _ _ _ _ _ us hl => match us, hl with | [_, _], _ => rfl⟩
  intro π B0 H0 xs k hW
  obtain ⟨p, s, rfl, hp, hs, hk⟩ := hW
  try dsimp only [cxOf, Cx.nox]
  obtain ⟨mode, size, kept⟩ := s
  obtain ⟨s0, k4, hm⟩ := hs
  have s0 : 0 ≤ size := s0
  have k4 : kept.length ≤ 4 := k4
  have hm : mode ∈ p.ms := hm
  have hask : askF p ⟨mode, size, kept⟩ = (let d := p.deed .ask mode kept.length (decide ((kept.length : Int) = size)) false; if d.word = "read" then rdF d.mode size d.count else (⟨d.mode, size, kept⟩, [])) := rfl
  rw [hask] at hk
  have hdk := deed_ok hp hm (o := .ask) (kept := kept.length) (whole := decide ((kept.length : Int) = size)) (above := false)
  refine wr_seq (wr_un3 (wp_var (by rfl) ⟨_, _, _, rfl, ?_⟩))
  repeat walk_at "kk"
  rw [List.length_map]
  refine ⟨p, .ask, mode, kept.length, decide ((kept.length : Int) = size), false, rfl, hp, hm, ?_⟩
  generalize p.deed .ask mode kept.length (decide ((kept.length : Int) = size)) false = de at hk hdk
  obtain ⟨dw, dc, dm⟩ := de
  obtain ⟨hc, hm2⟩ := hdk
  have hc : dc ≤ 4 := hc
  have hk : k (.d (pairD (if dw = "read" then rdF dm size dc else (⟨dm, size, kept⟩, [])))) := hk
  by_cases hw : dw = "read"
  · rw [if_pos hw] at hk
    repeat walk_at "k"
  · rw [if_neg hw] at hk
    repeat walk_at "k"
theorem f_state_behind {P : Program} {w : World} {K : PySem.W.Frag} {mg : Str → Option Value} {base : Heap} (T : TX K mg) (F_ask_state : FN P w K mg base 4 "ask_state" ["program", "state"] (spF K W_ask_state)) (F_put_state : FN P w K mg base 4 "put_state" ["program", "state", "rank"] (spF K W_put_state)) (F_take_state : FN P w K mg base 4 "take_state" ["program", "state", "rank"] (spF K W_take_state))  : FN P w K mg base 5 "state_behind" ["program", "state", "event"] (spF K W_state_behind) := by
  obtain ⟨fd, F⟩ := T.fn 33 d_state_behind rfl
  refine ⟨T.glo "state_behind" (by decide +kernel), F.kp, fd, ok_f F sc_state_behind (fun xs k h => by obtain ⟨p, s, e, rfl, hp, hs, he, hk⟩ := h; rfl) (fun cdv A outer s H E hr => ⟨_, (pss_cons (ps_set (i := 3) sc_state_behind.nd rfl (Or.inl rfl) (pe_ix (r := rIxT K) ix_tup (pv 2) pe_int (fun _ _ => rfl))) (pss_cons (ps_if (pt_cmpR op_eq (pv 3) pe_str (nomark _)) (pss_one (ps_ret (pe_fn F_ask_state hr (by decide) (pa_cons (pv 0) (pa_cons (pv 1) pa_nil))))) pss_nil) (pss_cons (ps_if (pt_cmpR op_eq (pv 3) pe_str (nomark _)) (pss_one (ps_ret (pe_fn F_put_state hr (by decide) (pa_cons (pv 0) (pa_cons (pv 1) (pa_cons (pe_ix (r := rIxT K) ix_tup (pv 2) pe_int (fun _ _ => rfl)) pa_nil)))))) pss_nil) (pss_cons (ps_asg (pe_fn F_take_state hr (by decide) (pa_cons (pv 0) (pa_cons (pv 1) (pa_cons (pe_ix (r := rIxT K) ix_tup (pv 2) pe_int (fun _ _ => rfl)) pa_nil)))) (pg_tup (by rfl) (pgs_cons (pg_name (i := 4) sc_state_behind.nd rfl (Or.inl rfl)) (pgs_cons (pg_name (i := 5) sc_state_behind.nd rfl (Or.inl rfl)) pgs_nil)))) (pss_cons (ps_if (pt_cmpR op_eq (pv 3) pe_str (nomark _)) (pss_one (ps_ret (pe_tup (pa_cons (pv 4) (pa_cons (pv 5) pa_nil))))) pss_nil) (pss_cons (ps_asg (pe_fn F_put_state hr (by decide) (pa_cons (pv 0) (pa_cons (pv 4) (pa_cons (pe_ix (r := rIxT K) ix_tup (pv 2) pe_int (fun _ _ => rfl)) pa_nil)))) (pg_tup (by rfl) (pgs_cons (pg_name (i := 6) sc_state_behind.nd rfl (Or.inl rfl)) (pgs_cons (pg_name (i := 7) sc_state_behind.nd rfl (Or.inl rfl)) pgs_nil)))) (pss_one (ps_ret (pe_tup (pa_cons (pv 6) (pa_cons (pe_op op_catA (pv 5) (pv 7)) pa_nil))))))))))), ?_⟩), F.bindsN (ps := ["program", "state", "event"]) fun _ _ _ _ _ _ us hl => match us, hl with | [_, _, _], _ => rfl⟩
  intro π B0 H0 xs k hW
  obtain ⟨p, s, e, rfl, hp, hs, he, hk⟩ := hW
  try dsimp only [cxOf, Cx.nox]
  cases e with
  | ask => repeat walk_at "k"
  | put r => repeat walk_at "k"
  | take r =>
    have h1 : 0 ≤ r ∧ r < s.size := he
    repeat walk_at "k"
  | move a b =>
    have h1 : 0 ≤ a ∧ a < s.size ∧ 0 ≤ b ∧ b < s.size := he
    have hso := stok_take hp hs (by omega) a
    have hso2 := stok_put hp hso.ok b
    have f1 := hso.few
    have f2 := hso2.few
    repeat walk_at "k"
    refine ⟨hso.ok, ?_⟩
    repeat walk_at "k"
    refine rn_catT (by rw [List.length_map, List.length_map]; omega) ?_
    rw [← List.map_append]
    repeat walk_at "k"
theorem gp_ins {B H0 H' : Hp} {x dx : Addr} {o : HO} (e : Same B H0) (nx : H0 x = none) (ndx : H0 dx = none) (hx : H' x = some o) (hr : ∀ b u, H0 b = some u → H' b = some u) : Gp B H0 (upd B x o) H' := by
  have hb : B x = none := e.free nx
  refine ⟨same_new hb, fun b u q => ?_, fun b u q => ?_, fun b u q => hr b u q⟩
  · by_cases nb : b = x
    · rw [nb, upd_same] at q
      rw [nb, hx]
      exact q
    · rw [upd_ne nb] at q
      exact hr b u (e b u q)
  · by_cases nb : b = x
    · rw [nb]; exact .inr nx
    · rw [upd_ne nb] at q
      exact .inl q
theorem f_G_init {P : Program} {w : World} {K : PySem.W.Frag} {mg : Str → Option Value} {base : Heap} (T : TX K mg) : FM P w K mg base 1 (He.ma K (He.ga K "Group") "__init__") ["self", "program", "state"] (spI K (He.ga K "Group") W_G_init) := by
  obtain ⟨fd, F⟩ := T.fn 34 d_G_init rfl
  refine ⟨fd, F.ok sc_G_init (fun vs H Q E h => ?_) (fun cdv A outer s H vs Q E hr h => ?_), F.bindsN (ps := ["self", "program", "state"]) fun _ _ _ _ _ _ us hl => match us, hl with | [_, _, _], _ => rfl⟩
  · obtain ⟨x, dx, us, B, H0, xs, y, rfl, h1, h2, h3, h4, h5, h6, ⟨p, s, rfl, rfl⟩, h8⟩ := h
    rw [List.length_cons, h6.length]
    rfl
  · obtain ⟨x, dx, us, B, H0, xs, y, rfl, h1, h2, h3, h4, rfl, h6, ⟨p, st, rfl, rfl⟩, h8⟩ := h
    obtain ⟨v, u, rfl, r1, r2⟩ := two_rep h6
    refine ⟨_, PSs.nox (pss_cons (ps_fld (pv 0) (pv 1) rfl) (pss_one (ps_fld (pv 0) (pv 2) rfl))), ?_⟩
    refine ⟨v, rfl, .ref x, rfl, x, He.ga K "Group", dx, [], rfl, upd_same, T.iG.cl, T.noG _ (by simp), by show 0 < 1000; decide, ?_⟩
    refine ⟨u, rfl, .ref x, rfl, x, He.ga K "Group", dx, [("owner", v)], rfl, upd_same, T.iG.cl, T.noG _ (by simp), by show 1 < 1000; decide, ?_⟩
    have hH : ∀ b o, H0 b = some o → b ≠ x ∧ b ≠ dx := fun b o q => ⟨fun z => (by rw [z, h2] at q; cases q), fun z => (by rw [z, h3] at q; cases q)⟩
    have g := gp_ins (H' := upd (upd (upd (upd H0 dx (.own x)) x (.ins (He.ga K "Group") dx [])) x (.ins (He.ga K "Group") dx [("owner", v)])) x (.ins (He.ga K "Group") dx [("owner", v), ("state", u)])) (o := .ins (He.ga K "Group") dx [("owner", v), ("state", u)]) h1 h2 h3 upd_same fun b o q => by
      obtain ⟨z1, z2⟩ := hH b o q
      rw [upd_ne z1, upd_ne z1, upd_ne z1, upd_ne z2]
      exact q
    have sb : Same B (upd B x (.ins (He.ga K "Group") dx [("owner", v), ("state", u)])) := g.b
    exact h8 _ _ g ⟨x, dx, v, u, rfl, upd_same, RepP.mono sb r1, Dq.mono sb _ _ r2⟩
theorem four_rep {K : PySem.W.Frag} {B : Hp} {vs : List V} {x y z t : Ab} (h : RepA K B vs [x, y, z, t]) : ∃ v u w r, vs = [v, u, w, r] ∧ Rep K B v x ∧ Rep K B u y ∧ Rep K B w z ∧ Rep K B r t := by
  cases h with
  | cons h1 h2 =>
    obtain ⟨u, w, r, rfl, h3, h4, h5⟩ := three_rep h2
    exact ⟨_, u, w, r, rfl, h1, h3, h4, h5⟩
theorem sdX {K : PySem.W.Frag} {B H : Hp} {us : List V} {xs : List Ab} {x : Addr} (e : Same B H) (r : RepA K B us xs) : SD ⟨K, none, B, H⟩ B H (some (.ref x) :: us.map some) (En.no :: xs.map En.ab) 0 := by
  have S := sd0 (N := []) e r
  have e1 : L2.start [] us = us.map some := by
    unfold L2.start
    simp
  have e2 : st0 [] xs = xs.map En.ab := by
    unfold st0
    simp
  rw [e1, e2] at S
  refine ⟨⟨Gr.refl e, fun p hp => by cases hp⟩, by rw [List.length_cons, List.length_cons, S.len], fun i y h => ?_, fun i ds h => ?_, fun i j ds ds' h h' q => ?_, fun i h => ?_⟩
  · cases i with
    | zero => cases h
    | succ i => exact S.ab i y h
  · cases i with
    | zero => cases h
    | succ i => exact S.own i ds h
  · cases i with
    | zero => cases h
    | succ i =>
      cases j with
      | zero => cases h'
      | succ j => rw [S.one i j ds ds' h h' q]
  · cases i with
    | zero => cases h
    | succ i => exact S.pur i h
theorem f_P_init {P : Program} {w : World} {K : PySem.W.Frag} {mg : Str → Option Value} {base : Heap} (T : TX K mg) (F_check_between : FN P w K mg base 2 "check_between" ["value", "low", "high"] (spF K W_check_between)) (F_check_modes : FN P w K mg base 3 "check_modes" ["modes"] (spF K W_check_modes)) (F_parts_of : FN P w K mg base 5 "parts_of" ["rows", "room", "modes"] (spF K W_parts_of)) : FM P w K mg base 6 (He.ma K (He.ga K "Program") "__init__") ["self", "room", "wants", "modes", "rows"] (spI K (He.ga K "Program") W_P_init) := by
  obtain ⟨fd, F⟩ := T.fn 20 d_P_init rfl
  refine ⟨fd, F.ok sc_P_init (fun vs H Q E h => ?_) (fun cdv A outer s H vs Q E hr h => ?_), bindsAll F (by intro z; cases z) 5 3 rfl rfl fun _ _ _ _ _ _ _ us its hl hl2 => match us, hl, its, hl2 with | [_, _, _, _, _], _, [_, _, _], _ => ⟨_, rfl, rfl⟩⟩
  · obtain ⟨x, dx, us, B, H0, xs, y, rfl, h1, h2, h3, h4, h5, h6, ⟨p, hp, rfl, rfl⟩, h8⟩ := h
    rw [List.length_cons, h6.length]
    rfl
  · obtain ⟨x, dx, us, B, H0, xs, y, rfl, h1, h2, h3, h4, rfl, h6, ⟨p, hp, rfl, rfl⟩, h8⟩ := h
    obtain ⟨v1, v2, v3, v4, rfl, r1, r2, r3, r4⟩ := four_rep h6
    have hH : ∀ b o, H0 b = some o → b ≠ x ∧ b ≠ dx := fun b o q => ⟨fun z => (by rw [z, h2] at q; cases q), fun z => (by rw [z, h3] at q; cases q)⟩
    have hup : ∀ b o, H0 b = some o → upd (upd H0 dx (.own x)) x (.ins (He.ga K "Program") dx []) b = some o := fun b o q => by
      obtain ⟨z1, z2⟩ := hH b o q
      rw [upd_ne z1, upd_ne z2]
      exact q
    have eB : Same B (upd (upd H0 dx (.own x)) x (.ins (He.ga K "Program") dx [])) := fun b o q => hup b o (h1 b o q)
    refine ⟨_, PSs.nox (pss_cons (ps_expr (pe_fn F_check_between hr (by decide) (pa_cons (pv 1) (pa_cons pe_int (pa_cons (pe_glob (v := .int 4) rfl T.room.choose_spec ⟨_, rfl⟩) pa_nil))))) (pss_cons (ps_expr (pe_fn F_check_between hr (by decide) (pa_cons (pv 2) (pa_cons pe_int (pa_cons (pv 1) pa_nil))))) (pss_cons (ps_expr (pe_fn F_check_modes hr (by decide) (pa_cons (pv 3) pa_nil))) (pss_cons (ps_fld (pv 0) (pe_fn F_parts_of hr (by decide) (pa_cons (pv 4) (pa_cons (pv 1) (pa_cons (pv 3) pa_nil)))) rfl) (pss_cons (ps_fld (pv 0) (pv 1) rfl) (pss_cons (ps_fld (pv 0) (pv 2) rfl) (pss_cons (ps_fld (pv 0) (pv 3) rfl) (pss_one (ps_fld (pv 0) (pv 4) rfl))))))))), ?_⟩
    have S0 := sdX (x := x) eB h6
    have w1 := hp.w1
    have w2 := hp.w2
    have w4 := hp.r4
    have E1 : EvN ⟨K, none, B, upd (upd H0 dx (.own x)) x (.ins (He.ga K "Program") dx [])⟩ (tCall (spF K W_check_between) [] E0 (tCons (tVar 1) (tCons (tC (.int 1)) (tCons (tC (.int 4)) tNil)))) [.no, .ab (.d (.int p.room)), .ab (.d (.int p.want)), .ab (.d (.tuple (p.ms.map .str))), .ab (.d (.tuple ((p.acts.map Act.text).map .str)))] 0 fun _ c => c = 0 :=
      wp_call (wa_cons (wp_var rfl (wa_cons (wp_int (wa_cons (wp_int (wa_nil ⟨_, _, _, rfl, by omega, by omega, rfl⟩)))))))
    refine E1 _ _ _ _ S0 fun x1 c1 u1 B1 H1 hc1 g1 S1 rr1 => ?_
    subst hc1
    have E2 : EvN ⟨K, none, B, upd (upd H0 dx (.own x)) x (.ins (He.ga K "Program") dx [])⟩ (tCall (spF K W_check_between) [] E0 (tCons (tVar 2) (tCons (tC (.int 1)) (tCons (tVar 1) tNil)))) [.no, .ab (.d (.int p.room)), .ab (.d (.int p.want)), .ab (.d (.tuple (p.ms.map .str))), .ab (.d (.tuple ((p.acts.map Act.text).map .str)))] 0 fun _ c => c = 0 :=
      wp_call (wa_cons (wp_var rfl (wa_cons (wp_int (wa_cons (wp_var rfl (wa_nil ⟨_, _, _, rfl, by omega, by omega, rfl⟩)))))))
    refine E2 _ _ _ _ S1 fun x2 c2 u2 B2 H2 hc2 g2 S2 rr2 => ?_
    subst hc2
    have E3 : EvN ⟨K, none, B, upd (upd H0 dx (.own x)) x (.ins (He.ga K "Program") dx [])⟩ (tCall (spF K W_check_modes) [] E0 (tCons (tVar 3) tNil)) [.no, .ab (.d (.int p.room)), .ab (.d (.int p.want)), .ab (.d (.tuple (p.ms.map .str))), .ab (.d (.tuple ((p.acts.map Act.text).map .str)))] 0 fun _ c => c = 0 :=
      wp_call (wa_cons (wp_var rfl (wa_nil ⟨_, rfl, hp.ms, rfl⟩)))
    refine E3 _ _ _ _ S2 fun x3 c3 u3 B3 H3 hc3 g3 S3 rr3 => ?_
    subst hc3
    have E4 : EvN ⟨K, none, B, upd (upd H0 dx (.own x)) x (.ins (He.ga K "Program") dx [])⟩ (tCall (spF K W_parts_of) [] E0 (tCons (tVar 4) (tCons (tVar 1) (tCons (tVar 3) tNil)))) [.no, .ab (.d (.int p.room)), .ab (.d (.int p.want)), .ab (.d (.tuple (p.ms.map .str))), .ab (.d (.tuple ((p.acts.map Act.text).map .str)))] 0 fun z c => z = .d (.tuple (p.acts.map Act.row)) ∧ c = 0 :=
      wp_call (wa_cons (wp_var rfl (wa_cons (wp_var rfl (wa_cons (wp_var rfl (wa_nil ⟨p.acts, p.room, p.ms, rfl, hp.few, hp.acts, hp.r4, hp.ms, rfl, rfl⟩)))))))
    refine E4 _ _ _ _ S3 fun x4 c4 u4 B4 H4 hc4 g4 S4 rr4 => ?_
    obtain ⟨rfl, rfl⟩ := hc4
    have g : Gr none B (upd (upd H0 dx (.own x)) x (.ins (He.ga K "Program") dx [])) B4 H4 := S4.gs.g
    have hx4 : H4 x = some (.ins (He.ga K "Program") dx []) := g.h x _ (fun z => nomatch z) upd_same
    cases r1
    cases r2
    refine ⟨.ref x, rfl, x, He.ga K "Program", dx, [], rfl, hx4, T.iP.cl, T.noP _ (by simp), by show 0 < 1000; decide, ?_⟩
    refine ⟨_, rfl, .ref x, rfl, x, He.ga K "Program", dx, _, rfl, upd_same, T.iP.cl, T.noP _ (by simp), by show 1 < 1000; decide, ?_⟩
    refine ⟨_, rfl, .ref x, rfl, x, He.ga K "Program", dx, _, rfl, upd_same, T.iP.cl, T.noP _ (by simp), by show 2 < 1000; decide, ?_⟩
    refine ⟨_, rfl, .ref x, rfl, x, He.ga K "Program", dx, _, rfl, upd_same, T.iP.cl, T.noP _ (by simp), by show 3 < 1000; decide, ?_⟩
    refine ⟨_, rfl, .ref x, rfl, x, He.ga K "Program", dx, _, rfl, upd_same, T.iP.cl, T.noP _ (by simp), by show 4 < 1000; decide, ?_⟩
    have nB4 : B4 x = none := by
      cases e : B4 x with
      | none => rfl
      | some o =>
        rcases g.fr x o e with z | z
        · rw [h1.free h2] at z; cases z
        · rw [upd_same] at z; cases z
    have sb : Same B4 (upd B4 x (.ins (He.ga K "Program") dx (progF u4 v3 v4 p.room p.want))) := same_new nB4
    refine h8 (upd B4 x (.ins (He.ga K "Program") dx (progF u4 v3 v4 p.room p.want))) _ ⟨g.b.trans sb, fun b o q => ?_, fun b o q => ?_, fun b o q => ?_⟩ ⟨x, dx, u4, v3, v4, rfl, upd_same, Dq.mono sb _ _ rr4, Dq.mono (g.b.trans sb) _ _ r3, Dq.mono (g.b.trans sb) _ _ r4⟩
    · by_cases nb : b = x
      · rw [nb, upd_same] at q
        rw [nb, upd_same]
        exact q
      · rw [upd_ne nb] at q
        rw [upd_ne nb, upd_ne nb, upd_ne nb, upd_ne nb, upd_ne nb]
        exact g.ex b o q
    · by_cases nb : b = x
      · rw [nb]; exact .inr h2
      · rw [upd_ne nb] at q
        rcases g.fr b o q with z | z
        · exact .inl z
        · refine .inr ?_
          cases e : H0 b with
          | none => rfl
          | some o' => rw [hup b o' e] at z; cases z
    · have nb := (hH b o q).1
      rw [upd_ne nb, upd_ne nb, upd_ne nb, upd_ne nb, upd_ne nb]
      exact g.h b o (fun z => nomatch z) (hup b o q)
theorem f_G_mode {P : Program} {w : World} {K : PySem.W.Frag} {mg : Str → Option Value} {base : Heap} (T : TX K mg)   : FM P w K mg base 1 (padr "Group" "mode" K) ["self"] (spF K W_G_mode) := by
  obtain ⟨fd, F⟩ := T.fn 35 d_G_mode rfl
  refine ⟨fd, ok_f F sc_G_mode (fun xs k h => by obtain ⟨p, s, rfl, hk⟩ := h; rfl) (fun cdv A outer s H E hr => ⟨_, (pss_one (ps_ret (pe_ix (r := rIxT K) ix_tup (pe_fld (pv 0) rfl) pe_int (fun _ _ => rfl)))), ?_⟩), F.bindsN (ps := ["self"]) fun _ _ _ _ _ _ us hl => match us, hl with | [_], _ => rfl⟩
  intro π B0 H0 xs k hW
  obtain ⟨p, s, rfl, hk⟩ := hW
  try dsimp only [cxOf, Cx.nox]
  repeat walk_at "k"
theorem f_G_size {P : Program} {w : World} {K : PySem.W.Frag} {mg : Str → Option Value} {base : Heap} (T : TX K mg)   : FM P w K mg base 1 (padr "Group" "size" K) ["self"] (spF K W_G_size) := by
  obtain ⟨fd, F⟩ := T.fn 36 d_G_size rfl
  refine ⟨fd, ok_f F sc_G_size (fun xs k h => by obtain ⟨p, s, rfl, hk⟩ := h; rfl) (fun cdv A outer s H E hr => ⟨_, (pss_one (ps_ret (pe_ix (r := rIxT K) ix_tup (pe_fld (pv 0) rfl) pe_int (fun _ _ => rfl)))), ?_⟩), F.bindsN (ps := ["self"]) fun _ _ _ _ _ _ us hl => match us, hl with | [_], _ => rfl⟩
  intro π B0 H0 xs k hW
  obtain ⟨p, s, rfl, hk⟩ := hW
  try dsimp only [cxOf, Cx.nox]
  repeat walk_at "k"
theorem f_G_kept {P : Program} {w : World} {K : PySem.W.Frag} {mg : Str → Option Value} {base : Heap} (T : TX K mg)   : FM P w K mg base 1 (padr "Group" "kept" K) ["self"] (spF K W_G_kept) := by
  obtain ⟨fd, F⟩ := T.fn 37 d_G_kept rfl
  refine ⟨fd, ok_f F sc_G_kept (fun xs k h => by obtain ⟨p, s, rfl, hk⟩ := h; rfl) (fun cdv A outer s H E hr => ⟨_, (pss_one (ps_ret (pe_ix (r := rIxT K) ix_tup (pe_fld (pv 0) rfl) pe_int (fun _ _ => rfl)))), ?_⟩), F.bindsN (ps := ["self"]) fun _ _ _ _ _ _ us hl => match us, hl with | [_], _ => rfl⟩
  intro π B0 H0 xs k hW
  obtain ⟨p, s, rfl, hk⟩ := hW
  try dsimp only [cxOf, Cx.nox]
  repeat walk_at "k"
theorem f_G_after {P : Program} {w : World} {K : PySem.W.Frag} {mg : Str → Option Value} {base : Heap} (T : TX K mg) (F_G_init : FM P w K mg base 1 (He.ma K (He.ga K "Group") "__init__") ["self", "program", "state"] (spI K (He.ga K "Group") W_G_init)) (F_check_event : FN P w K mg base 5 "check_event" ["event", "size"] (spF K W_check_event)) (F_state_behind : FN P w K mg base 5 "state_behind" ["program", "state", "event"] (spF K W_state_behind))  : FM P w K mg base 6 (He.ma K (He.ga K "Group") "after") ["self", "event"] (spF K W_G_after) := by
  obtain ⟨fd, F⟩ := T.fn 39 d_G_after rfl
  refine ⟨fd, ok_f F sc_G_after (fun xs k h => by obtain ⟨p, s, e, rfl, hp, hs, he, hk⟩ := h; rfl) (fun cdv A outer s H E hr => ⟨_, (pss_cons (ps_expr (pe_fn F_check_event hr (by decide) (pa_cons (pv 1) (pa_cons (pe_ix (r := rIxT K) ix_tup (pe_fld (pv 0) rfl) pe_int (fun _ _ => rfl)) pa_nil)))) (pss_one (ps_ret (pe_mk T.mkG F_G_init hr (T.glo "Group" (by decide +kernel)) (by decide) (pa_cons (pe_fld (pv 0) rfl) (pa_cons (pe_ix (r := rIxT K) ix_tup (pe_fn F_state_behind hr (by decide) (pa_cons (pe_fld (pv 0) rfl) (pa_cons (pe_fld (pv 0) rfl) (pa_cons (pv 1) pa_nil)))) pe_int (fun _ _ => rfl)) pa_nil)))))), ?_⟩), F.bindsN (ps := ["self", "event"]) fun _ _ _ _ _ _ us hl => match us, hl with | [_, _], _ => rfl⟩
  intro π B0 H0 xs k hW
  obtain ⟨p, s, e, rfl, hp, hs, he, hk⟩ := hW
  try dsimp only [cxOf, Cx.nox]
  repeat walk_at "k"
  exact ⟨.grp p.g (stepF p s e).1.data, ⟨p, (stepF p s e).1, rfl, rfl⟩, hk⟩
theorem f_G_reads {P : Program} {w : World} {K : PySem.W.Frag} {mg : Str → Option Value} {base : Heap} (T : TX K mg) (F_check_event : FN P w K mg base 5 "check_event" ["event", "size"] (spF K W_check_event)) (F_state_behind : FN P w K mg base 5 "state_behind" ["program", "state", "event"] (spF K W_state_behind))  : FM P w K mg base 6 (He.ma K (He.ga K "Group") "reads") ["self", "event"] (spF K W_G_reads) := by
  obtain ⟨fd, F⟩ := T.fn 40 d_G_reads rfl
  refine ⟨fd, ok_f F sc_G_reads (fun xs k h => by obtain ⟨p, s, e, rfl, hp, hs, he, hk⟩ := h; rfl) (fun cdv A outer s H E hr => ⟨_, (pss_cons (ps_expr (pe_fn F_check_event hr (by decide) (pa_cons (pv 1) (pa_cons (pe_ix (r := rIxT K) ix_tup (pe_fld (pv 0) rfl) pe_int (fun _ _ => rfl)) pa_nil)))) (pss_one (ps_ret (pe_ix (r := rIxT K) ix_tup (pe_fn F_state_behind hr (by decide) (pa_cons (pe_fld (pv 0) rfl) (pa_cons (pe_fld (pv 0) rfl) (pa_cons (pv 1) pa_nil)))) pe_int (fun _ _ => rfl))))), ?_⟩), F.bindsN (ps := ["self", "event"]) fun _ _ _ _ _ _ us hl => match us, hl with | [_, _], _ => rfl⟩
  intro π B0 H0 xs k hW
  obtain ⟨p, s, e, rfl, hp, hs, he, hk⟩ := hW
  try dsimp only [cxOf, Cx.nox]
  repeat walk_at "k"
theorem f_begin {P : Program} {w : World} {K : PySem.W.Frag} {mg : Str → Option Value} {base : Heap} (T : TX K mg) (F_G_init : FM P w K mg base 1 (He.ma K (He.ga K "Group") "__init__") ["self", "program", "state"] (spI K (He.ga K "Group") W_G_init)) (F_P_modes : FM P w K mg base 1 (padr "Program" "modes" K) ["self"] (spF K W_P_modes)) (F_check_number : FN P w K mg base 3 "check_number" ["value"] (spF K W_check_number)) (F_check_program : FN P w K mg base 1 "check_program" ["value"] (spF K W_check_program))  : FN P w K mg base 4 "begin" ["program", "size"] (spF K W_begin) := by
  obtain ⟨fd, F⟩ := T.fn 42 d_begin rfl
  refine ⟨T.glo "begin" (by decide +kernel), F.kp, fd, ok_f F sc_begin (fun xs k h => by obtain ⟨p, n, rfl, hp, h0, hk⟩ := h; rfl) (fun cdv A outer s H E hr => ⟨_, (pss_cons (ps_expr (pe_fn F_check_program hr (by decide) (pa_cons (pv 0) pa_nil))) (pss_cons (ps_expr (pe_fn F_check_number hr (by decide) (pa_cons (pv 1) pa_nil))) (pss_one (ps_ret (pe_mk T.mkG F_G_init hr (T.glo "Group" (by decide +kernel)) (by decide) (pa_cons (pv 0) (pa_cons (pe_tup (pa_cons (pe_ix (r := rIxT K) ix_tup (pe_prF (pv 0) T.iP.cl T.pModes F_P_modes hr (by decide) rfl) pe_int (fun _ _ => rfl)) (pa_cons (pv 1) (pa_cons (pe_tup pa_nil) pa_nil)))) pa_nil))))))), ?_⟩), bindsAll F (by intro z; cases z) 2 1 rfl rfl fun _ _ _ _ _ _ _ us its hl hl2 => match us, hl, its, hl2 with | [_, _], _, [_], _ => ⟨_, rfl, rfl⟩⟩
  intro π B0 H0 xs k hW
  obtain ⟨p, n, rfl, hp, h0, hk⟩ := hW
  try dsimp only [cxOf, Cx.nox]
  repeat walk_at "k"
  refine rn_ixT (modes_head hp) ?_
  repeat walk_at "k"
  exact ⟨.grp p.g (p.init n).data, ⟨p, p.init n, rfl, rfl⟩, hk⟩
theorem f_followed {P : Program} {w : World} {K : PySem.W.Frag} {mg : Str → Option Value} {base : Heap} (T : TX K mg) (F_P_modes : FM P w K mg base 1 (padr "Program" "modes" K) ["self"] (spF K W_P_modes)) (F_is_event : FN P w K mg base 4 "is_event" ["value", "size"] (spF K W_is_event)) (F_is_number : FN P w K mg base 2 "is_number" ["value"] (spF K W_is_number)) (F_state_behind : FN P w K mg base 5 "state_behind" ["program", "state", "event"] (spF K W_state_behind))  : FN P w K mg base 6 "followed" ["program", "history"] (spF K W_followed) := by
  obtain ⟨fd, F⟩ := T.fn 43 d_followed rfl
  refine ⟨T.glo "followed" (by decide +kernel), F.kp, fd, ok_f F sc_followed (fun xs k h => by obtain ⟨p, n, es, rfl, hp, h0, he, hl, hk⟩ := h; rfl) (fun cdv A outer s H E hr => ⟨_, (pss_cons (ps_if (PW.pt (pw_or (pt_not (pt_val (pe_callB call_isi (by rfl) (T.free "isinstance" (by decide +kernel)) (by decide +kernel) (pa_cons (pv 1) (pa_cons (pe_bltn (v := .ty "tuple") (by rfl) (T.free "tuple" (by decide +kernel)) (by decide +kernel) rfl) pa_nil))))) (pw_or1 (pt_cmpR op_ne (pe_callB call_len_seq (by rfl) (T.free "len" (by decide +kernel)) (by decide +kernel) (pa_cons (pv 1) pa_nil)) pe_int (nomark _))))) (pss_one ps_never) pss_nil) (pss_cons (ps_asg (pv 1) (pg_tup (by rfl) (pgs_cons (pg_name (i := 2) sc_followed.nd rfl (Or.inl rfl)) (pgs_cons (pg_name (i := 3) sc_followed.nd rfl (Or.inl rfl)) pgs_nil)))) (pss_cons (ps_if (PW.pt (pw_or (pt_not (pt_val (pe_fn F_is_number hr (by decide) (pa_cons (pv 2) pa_nil)))) (pw_or1 (pt_not (pt_val (pe_callB call_isi (by rfl) (T.free "isinstance" (by decide +kernel)) (by decide +kernel) (pa_cons (pv 3) (pa_cons (pe_bltn (v := .ty "tuple") (by rfl) (T.free "tuple" (by decide +kernel)) (by decide +kernel) rfl) pa_nil)))))))) (pss_one ps_never) pss_nil) (pss_cons (ps_par (i := 4) (j := 5) (by rfl) sc_followed.nd rfl rfl (by decide) rfl rfl (pa_cons (pe_tup (pa_cons (pe_ix (r := rIxT K) ix_tup (pe_prF (pv 0) T.iP.cl T.pModes F_P_modes hr (by decide) rfl) pe_int (fun _ _ => rfl)) (pa_cons (pv 2) (pa_cons (pe_tup pa_nil) pa_nil)))) (pa_cons (pe_lst pa_nil) pa_nil)) (by rfl)) (pss_cons (ps_for PassesOwn.never rfl (pi_enumT (by rfl) (T.free "enumerate" (by decide +kernel)) (pa_cons (pv 3) pa_nil)) (pg_tup (by rfl) (pgs_cons (pg_name (i := 6) sc_followed.nd rfl (Or.inl rfl)) (pgs_cons (pg_name (i := 7) sc_followed.nd rfl (Or.inl rfl)) pgs_nil))) (pss_cons (ps_if (pt_not (pt_val (pe_fn F_is_event hr (by decide) (pa_cons (pv 7) (pa_cons (pe_ix (r := rIxT K) ix_tup (pv 4) pe_int (fun _ _ => rfl)) pa_nil))))) (pss_one ps_never) pss_nil) (pss_cons (ps_asg (pe_fn F_state_behind hr (by decide) (pa_cons (pv 0) (pa_cons (pv 4) (pa_cons (pv 7) pa_nil)))) (pg_tup (by rfl) (pgs_cons (pg_name (i := 4) sc_followed.nd rfl (Or.inl rfl)) (pgs_cons (pg_name (i := 8) sc_followed.nd rfl (Or.inl rfl)) pgs_nil)))) (pss_one (ps_expr (pe_bm PySem.F.plainAttrs_list PySem.F.slot_list_extend PySem.F.type_list_extend mt_extT (pv 5) (pa_cons (pv 8) pa_nil))))))) (pss_one (ps_ret (pe_tup (pa_cons (pv 4) (pa_cons (pv 5) pa_nil)))))))))), ?_⟩), F.bindsN (ps := ["program", "history"]) fun _ _ _ _ _ _ us hl => match us, hl with | [_, _], _ => rfl⟩
  intro π B0 H0 xs k hW
  obtain ⟨p, n, es, rfl, hp, h0, he, hl, hk⟩ := hW
  try dsimp only [cxOf, Cx.nox]
  repeat walk_at "k"
  refine rn_ixT (modes_head hp) ?_
  repeat walk_at "k"
  refine wr_forE ?_
  repeat walk_at "kk"
  refine ⟨es.map Ev.data, rfl, fun i Γ' c' => c' = 0 ∧ ∃ (x : Stt × List Int) (e6 e7 e8 : En), Γ' = [.ab (.prog p.g), .ab (.d (histD n es)), .ab (.d (.int n)), .ab (.d (.tuple (es.map Ev.data))), .ab (.d x.1.data), .own (x.2.map .int), e6, e7, e8] ∧ x.1.ok p ∧ EvsOk x.1.size (es.drop i) ∧ x.2.length ≤ 2 * i ∧ runF p (p.init n, []) es = runF p x (es.drop i), ⟨rfl, (p.init n, []), .no, .no, .no, rfl, init_ok hp h0, he, Nat.zero_le _, rfl⟩, fun i d Γ' c' hd hI => ?_, fun Γ' c' hI => ?_⟩
  · obtain ⟨rfl, x, e6, e7, e8, rfl, hxo, hev, hxl, hrun⟩ := hI
    rw [List.getElem?_map] at hd
    cases ha : es[i]? with
    | none => rw [ha] at hd; cases hd
    | some e =>
      rw [ha] at hd
      cases hd
      obtain ⟨heo, hev2⟩ := evs_drop hev ha
      have hst := stt_step hp hxo heo
      have hil := (List.getElem?_eq_some_iff.mp ha).1
      have hf := hst.few
      rw [runF_step x ha] at hrun
      repeat walk_at "k"
      refine wr_ext (by rfl) ?_
      repeat walk_at "kk"
      refine ⟨_, rfl, by rw [List.length_map, List.length_map]; omega, rfl, ((stepF p x.1 e).1, x.2 ++ (stepF p x.1 e).2), .ab (.d (.int i)), .ab (.d e.data), .ab (.d (.tuple ((stepF p x.1 e).2.map .int))), ?_, hst.ok, ?_, ?_, hrun⟩
      · rw [List.map_append]
        rfl
      · rw [hst.sz]
        exact hev2
      · rw [List.length_append]
        omega
  · obtain ⟨rfl, x, e6, e7, e8, rfl, hxo, hev, hxl, hrun⟩ := hI
    rw [List.length_map, List.drop_length] at hrun
    rw [hrun] at hk
    refine wr_freeze (i := 5) (by rfl) ?_
    repeat walk_at "k"
theorem f_play {P : Program} {w : World} {K : PySem.W.Frag} {mg : Str → Option Value} {base : Heap} (T : TX K mg) (F_G_init : FM P w K mg base 1 (He.ma K (He.ga K "Group") "__init__") ["self", "program", "state"] (spI K (He.ga K "Group") W_G_init)) (F_check_program : FN P w K mg base 1 "check_program" ["value"] (spF K W_check_program)) (F_followed : FN P w K mg base 6 "followed" ["program", "history"] (spF K W_followed))  : FN P w K mg base 7 "play" ["program", "history"] (spF K W_play) ∧ FNK P w K mg base 7 "play" ["program", "history"] ["history", "program"] (spF K W_play) := by
  obtain ⟨fd, F⟩ := T.fn 44 d_play rfl
  suffices hok : FnOk P w K mg base CX0 7 (He.ga K "play") fd ["program", "history"] (spF K W_play) from
    ⟨⟨T.glo "play" (by decide +kernel), F.kp, fd, hok, F.bindsN (ps := ["program", "history"]) fun _ _ _ _ _ _ us hl => match us, hl with | [_, _], _ => rfl⟩, ⟨T.glo "play" (by decide +kernel), F.kp, fd, hok, bindsK F fun _ _ _ _ _ _ ws hl => match ws, hl with | [_, _], _ => rfl⟩⟩
  refine ok_f F sc_play (fun xs k h => by obtain ⟨p, n, es, rfl, hp, h0, he, hl, hk⟩ := h; rfl) (fun cdv A outer s H E hr => ⟨_, (pss_cons (ps_expr (pe_fn F_check_program hr (by decide) (pa_cons (pv 0) pa_nil))) (pss_one (ps_ret (pe_mk T.mkG F_G_init hr (T.glo "Group" (by decide +kernel)) (by decide) (pa_cons (pv 0) (pa_cons (pe_ix (r := rIxT K) ix_tup (pe_fn F_followed hr (by decide) (pa_cons (pv 0) (pa_cons (pv 1) pa_nil))) pe_int (fun _ _ => rfl)) pa_nil)))))), ?_⟩)
  intro π B0 H0 xs k hW
  obtain ⟨p, n, es, rfl, hp, h0, he, hl, hk⟩ := hW
  try dsimp only [cxOf, Cx.nox]
  repeat walk_at "k"
  exact ⟨.grp p.g (runF p (p.init n, []) es).1.data, ⟨p, (runF p (p.init n, []) es).1, rfl, rfl⟩, hk⟩
theorem f_price_of {P : Program} {w : World} {K : PySem.W.Frag} {mg : Str → Option Value} {base : Heap} (T : TX K mg) (F_check_prices : FN P w K mg base 4 "check_prices" ["prices"] (spF K W_check_prices)) (F_check_program : FN P w K mg base 1 "check_program" ["value"] (spF K W_check_program)) (F_followed : FN P w K mg base 6 "followed" ["program", "history"] (spF K W_followed)) (F_price_of_event : FN P w K mg base 1 "price_of_event" ["prices", "word"] (spF K W_price_of_event)) (F_price_of_reads : FN P w K mg base 1 "price_of_reads" ["prices", "counts"] (spF K W_price_of_reads))  : FN P w K mg base 7 "price_of" ["program", "history", "prices"] (spF K W_price_of) ∧ FNK P w K mg base 7 "price_of" ["program", "history", "prices"] ["prices", "history", "program"] (spF K W_price_of) := by
  obtain ⟨fd, F⟩ := T.fn 45 d_price_of rfl
  suffices hok : FnOk P w K mg base CX0 7 (He.ga K "price_of") fd ["program", "history", "prices"] (spF K W_price_of) from
    ⟨⟨T.glo "price_of" (by decide +kernel), F.kp, fd, hok, F.bindsN (ps := ["program", "history", "prices"]) fun _ _ _ _ _ _ us hl => match us, hl with | [_, _, _], _ => rfl⟩, ⟨T.glo "price_of" (by decide +kernel), F.kp, fd, hok, bindsK F fun _ _ _ _ _ _ ws hl => match ws, hl with | [_, _, _], _ => rfl⟩⟩
  refine ok_f F sc_price_of (fun xs k h => by obtain ⟨p, n, es, ps, rfl, hp, h0, he, hl, hps, hk⟩ := h; rfl) (fun cdv A outer s H E hr => ⟨_, (pss_cons (ps_expr (pe_fn F_check_program hr (by decide) (pa_cons (pv 0) pa_nil))) (pss_cons (ps_set (i := 3) sc_price_of.nd rfl (Or.inl rfl) (pe_ix (r := rIxT K) ix_tup (pe_fn F_followed hr (by decide) (pa_cons (pv 0) (pa_cons (pv 1) pa_nil))) pe_int (fun _ _ => rfl))) (pss_cons (ps_expr (pe_fn F_check_prices hr (by decide) (pa_cons (pv 2) pa_nil))) (pss_cons (ps_set (i := 4) sc_price_of.nd rfl (Or.inl rfl) (pe_callB (cr_sum rfl) (by rfl) (T.free "sum" (by decide +kernel)) (by decide +kernel) (pa_cons (pe_lc (own := [("event", 5)]) (g := gName 5) (tt := tYes) (by rfl) sc_price_of.nd (pi_tup (pe_ix (r := rIxT K) ix_tup (pv 1) pe_int (fun _ _ => rfl))) (blkOk_by (own := [("event", 5)]) (N := ["program", "history", "prices", "counts", "paid", "event"]) (sc := defScope s_price_of) (by decide +kernel)) (fun _ _ _ _ _ => pg_name (i := 5) sc_price_of.nd rfl (Or.inl rfl)) (fun _ _ _ _ _ => pts_nil) (fun _ _ _ _ _ => (pe_fn F_price_of_event hr (by decide) (pa_cons (pv 2) (pa_cons (pe_ix (r := rIxT K) ix_tup (pv 5) pe_int (fun _ _ => rfl)) pa_nil))))) pa_nil))) (pss_one (ps_ret (pe_tup (pa_cons (pv 4) (pa_cons (pe_fn F_price_of_reads hr (by decide) (pa_cons (pv 2) (pa_cons (pv 3) pa_nil))) pa_nil))))))))), ?_⟩)
  intro π B0 H0 xs k hW
  obtain ⟨p, n, es, ps, rfl, hp, h0, he, hl, hps, hk⟩ := hW
  try dsimp only [cxOf, Cx.nox]
  have hrun := run_init hp h0 he
  have f1 := hrun.few
  repeat walk_at "k"
  refine wp_mapTA es (g := Ev.data) (f := fun e => .int (getI ps e.ix)) ?_
  repeat walk_at "kk"
  refine ⟨rfl, by omega, fun e _ => ?_, ?_⟩
  · obtain ⟨r, er⟩ := ev_data e
    rw [er]
    repeat walk_at "kk"
    exact ⟨ps, e, rfl, hps, rfl, rfl⟩
  rw [show (es.map fun e => PyData.int (getI ps e.ix)) = (es.map fun e => getI ps e.ix).map PyData.int by rw [List.map_map]; rfl]
  repeat walk_at "kk"
  refine ⟨ps, (runF p (p.init n, []) es).2, rfl, hps, by omega, hrun.small, ?_⟩
  repeat walk_at "k"
theorem f_P_eq {P : Program} {w : World} {K : PySem.W.Frag} {mg : Str → Option Value} {base : Heap} (T : TX K mg) (F_P_str : FM P w K mg base 1 (He.ma K (He.ga K "Program") "__str__") ["self"] (spF K W_P_str))  : FM P w K mg base 4 (He.ma K (He.ga K "Program") "__eq__") ["self", "other"] (spF K W_P_eq) := by
  obtain ⟨fd, F⟩ := T.fn 22 d_P_eq rfl
  refine ⟨fd, ok_f F sc_P_eq (fun xs k h => by obtain ⟨p, rfl, hp, hk⟩ := h; rfl) (fun cdv A outer s H E hr => ⟨_, (pss_one (ps_ret (pe_and (pe_callB call_isi (by rfl) (T.free "isinstance" (by decide +kernel)) (by decide +kernel) (pa_cons (pv 1) (pa_cons (pe_glob (v := .ref (He.ga K "Program")) rfl (T.glo "Program" (by decide +kernel)) rfl) pa_nil))) (pe_one (pe_cmpR op_eq (pe_callTy (cs_own F_P_str T.strP.at_ T.strP.fn hr (by decide)) (by rfl) (T.free "str" (by decide +kernel)) (by decide +kernel) (pa_cons (pv 0) pa_nil)) (pe_callTy (cs_own F_P_str T.strP.at_ T.strP.fn hr (by decide)) (by rfl) (T.free "str" (by decide +kernel)) (by decide +kernel) (pa_cons (pv 1) pa_nil)) (nomark _)))))), ?_⟩), F.bindsN (ps := ["self", "other"]) fun _ _ _ _ _ _ us hl => match us, hl with | [_, _], _ => rfl⟩
  intro π B0 H0 xs k hW
  obtain ⟨p, rfl, hp, hk⟩ := hW
  try dsimp only [cxOf, Cx.nox]
  repeat walk_at "k"
  refine rc_strP (W := W_P_str) ⟨p, rfl, hp, ⟨_, rfl⟩, ?_⟩
  repeat walk_at "kk"
  refine rc_strP (W := W_P_str) ⟨p, rfl, hp, ⟨_, rfl⟩, ?_⟩
  refine rn_eqSK (decide_eq_true rfl) ?_
  exact hk
theorem f_G_eq {P : Program} {w : World} {K : PySem.W.Frag} {mg : Str → Option Value} {base : Heap} (T : TX K mg) (F_P_eq : FM P w K mg base 4 (He.ma K (He.ga K "Program") "__eq__") ["self", "other"] (spF K W_P_eq))  : FM P w K mg base 5 (He.ma K (He.ga K "Group") "__eq__") ["self", "other"] (spF K W_G_eq) := by
  obtain ⟨fd, F⟩ := T.fn 38 d_G_eq rfl
  refine ⟨fd, ok_f F sc_G_eq (fun xs k h => by obtain ⟨p, s, rfl, hp, hs, hk⟩ := h; rfl) (fun cdv A outer s H E hr => ⟨_, (pss_one (ps_ret (pe_and (pe_callB call_isi (by rfl) (T.free "isinstance" (by decide +kernel)) (by decide +kernel) (pa_cons (pv 1) (pa_cons (pe_glob (v := .ref (He.ga K "Group")) rfl (T.glo "Group" (by decide +kernel)) rfl) pa_nil))) (pe_and (pe_cmpR (op_P F_P_eq T.eqP hr (by decide)) (pe_fld (pv 0) rfl) (pe_fld (pv 1) rfl) (nomark _)) (pe_one (pe_cmpR (op_eqD hr.units) (pe_fld (pv 0) rfl) (pe_fld (pv 1) rfl) (nomark _))))))), ?_⟩), F.bindsN (ps := ["self", "other"]) fun _ _ _ _ _ _ us hl => match us, hl with | [_, _], _ => rfl⟩
  intro π B0 H0 xs k hW
  obtain ⟨p, s, rfl, hp, hs, hk⟩ := hW
  try dsimp only [cxOf, Cx.nox]
  repeat walk_at "k"
  refine rn_eqP hp ?_
  repeat walk_at "k"
  refine rn_eqDK ((sh_stt (n := 1) hp.ms hs.m).shaped (by decide)) ((sh_stt (n := 1) hp.ms hs.m).shaped (by decide)) (eqv_stt s) ?_
  exact hk
theorem gr_p {B H H' : Hp} {p : Addr} (e : Same B H) (hb : B p = none) (h1 : ∀ a o, a ≠ p → H a = some o → H' a = some o) (h2 : ∀ a, H' a = none → H a = none) : Gr (some p) B H B H' :=
  ⟨Same.refl B, fun a o q => h1 a o (fun z => (by rw [z, hb] at q; cases q)) (e a o q), fun _ _ q => .inl q, fun a o q r => h1 a o (fun z => q (by rw [z])) r, h2⟩
theorem f_law_draw {P : Program} {w : World} {K : PySem.W.Frag} {mg : Str → Option Value} {base : Heap} (T : TX K mg) : FN P w K mg base 1 "_law_draw" ["_law_purse_here", "_law_many"] (spP K W_law_draw) := by
  obtain ⟨fd, F⟩ := T.fn 47 d_law_draw rfl
  refine ⟨T.glo "_law_draw" (by decide +kernel), F.kp, fd, F.ok sc_law_draw (fun vs H Q E h => ?_) (fun cdv A outer s H vs Q E hr h => ?_), F.bindsN (ps := ["_law_purse_here", "_law_many"]) fun _ _ _ _ _ _ us hl => match us, hl with | [_, _], _ => rfl⟩
  · obtain ⟨p, us, B, xs, c, k, rfl, h1, h2, h3, h4, ⟨m, rfl, h5⟩, h6⟩ := h
    rw [List.length_cons, h4.length]
    rfl
  · obtain ⟨p, us, B, xs, c, k, rfl, h1, h2, ⟨a, b, n, hp, ha, hb0, hb1, hn0, hn1⟩, h4, ⟨m, rfl, hm0, hm1, hc, hk⟩, h6⟩ := h
    obtain ⟨v, rfl, r1⟩ := one_rep h4
    cases r1
    refine ⟨_, PSs.nox (pss_cons (ps_asg (pe_op op_add (pe_ix (r := rIxL K) ix_list (pv 0) pe_int (fun _ _ => rfl)) pe_int) (pg_sub (pv 0) pe_int set_list)) (pss_cons (ps_set (i := 2) sc_law_draw.nd rfl (Or.inl rfl) (pe_op op_add (pe_ix (r := rIxL K) ix_list (pv 0) pe_int (fun _ _ => rfl)) (pe_op op_mul pe_int (pe_ix (r := rIxL K) ix_list (pv 0) pe_int (fun _ _ => rfl))))) (pss_cons (ps_asg (pe_op op_mod (pe_callTy call_int1 (by rfl) (T.free "int" (by decide +kernel)) (by decide +kernel) (pa_cons (pe_op op_add (pe_op op_mul (pv 2) (pe_op op_add (pe_op op_fdiv (pv 2) pe_int) pe_int)) (pe_op op_mul pe_int (pe_ix (r := rIxL K) ix_list (pv 0) pe_int (fun _ _ => rfl)))) pa_nil)) pe_int) (pg_sub (pv 0) pe_int set_list)) (pss_cons (ps_if (pt_cmpR op_gt (pe_ix (r := rIxL K) ix_list (pv 0) pe_int (fun _ _ => rfl)) pe_int (nomark _)) (pss_cons (ps_asg (pe_callB call_divmod (by rfl) (T.free "divmod" (by decide +kernel)) (by decide +kernel) (pa_cons (pe_ix (r := rIxL K) ix_list (pv 0) pe_int (fun _ _ => rfl)) (pa_cons (pv 1) pa_nil))) (pg_tup (by rfl) (pgs_cons (pg_sub (pv 0) pe_int set_list) (pgs_cons (pg_name (i := 3) sc_law_draw.nd rfl (Or.inl rfl)) pgs_nil)))) (pss_one (ps_ret (pv 3)))) pss_nil) (pss_one (ps_ret (pe_op op_mod (pe_callTy call_int1 (by rfl) (T.free "int" (by decide +kernel)) (by decide +kernel) (pa_cons (pe_op op_fdiv (pe_ix (r := rIxL K) ix_list (pv 0) pe_int (fun _ _ => rfl)) pe_int) pa_nil)) (pv 1)))))))), ?_⟩
    have st : ∀ {H : Hp} {xs : List V}, H p = some (.lst xs) → SqL K H p xs := fun h => .inl (.inl h)
    refine ⟨.ref p, rfl, p, _, 2, .int n, rfl, rfl, st hp, rfl, n, 1, rfl, rfl, .ref p, rfl, p, _, 2, 2, rfl, rfl, hp, rfl, ?_⟩
    have hp1 : (upd H p (.lst [.int a, .int b, .int (n + 1)])) p = some (.lst [.int a, .int b, .int (n + 1)]) := upd_same
    show _
    refine ⟨.ref p, rfl, p, _, 1, .int b, rfl, rfl, st hp1, rfl, .ref p, rfl, p, _, 2, .int (n + 1), rfl, rfl, st hp1, rfl, 86028121, n + 1, rfl, rfl, .inl ⟨by decide, by decide⟩, b, _, rfl, rfl, ?_⟩
    have hmul : 0 ≤ (86028121 : Int) * (n + 1) ∧ (86028121 : Int) * (n + 1) ≤ 86028121 * 100001 := ⟨by omega, by omega⟩
    refine ⟨_, rfl, _, rfl, b + 86028121 * (n + 1), 19, rfl, rfl, ⟨by decide, by decide⟩, _, 50021, rfl, rfl, b + 86028121 * (n + 1), _, rfl, rfl, .inl ⟨by omega, by omega⟩, .ref p, rfl, p, _, 2, .int (n + 1), rfl, rfl, st hp1, rfl, 7907, n + 1, rfl, rfl, .inl ⟨by decide, by decide⟩, _, _, rfl, rfl, .inl ⟨_, rfl, ?_⟩⟩
    refine ⟨_, 2147483549, rfl, rfl, (by show (0 : Int) < 2147483549; decide), .ref p, rfl, p, _, 1, 1, rfl, rfl, hp1, rfl, ?_⟩
    have hE0 : ∀ x : Int, 0 ≤ x % 2147483549 := fun x => Int.emod_nonneg _ (by decide)
    have hE1 : ∀ x : Int, x % 2147483549 < 2147483549 := fun x => Int.emod_lt_of_pos _ (by decide)
    have hp2 : ∀ (Hx : Hp) (v : Int), (upd Hx p (.lst [.int a, .int v, .int (n + 1)])) p = some (.lst [.int a, .int v, .int (n + 1)]) := fun _ _ => upd_same
    refine ⟨.ref p, rfl, p, _, 0, .int a, rfl, rfl, st (hp2 _ _), rfl, a, 0, rfl, rfl, _, rfl, ?_⟩
    by_cases hpos : a > 0
    · rw [decide_eq_true hpos]
      refine iteT ?_
      refine ⟨.ref p, rfl, p, _, 0, .int a, rfl, rfl, st (hp2 _ _), rfl, .int m, rfl, a, m, rfl, ⟨hm0, by omega⟩, fun q hq => ?_⟩
      have npq : p ≠ q := fun z => by rw [← z] at hq; exact absurd ((hp2 _ _).symm.trans hq) (by simp)
      refine ⟨q, _, rfl, .inl (.inl upd_same), rfl, .int (a / m), _, rfl, .ref p, rfl, p, _, 0, 0, rfl, rfl, (by rw [upd_ne npq]; exact hp2 _ _), rfl, .int (a % m), _, rfl, rfl, .int (a % m), rfl, ?_⟩
      refine h6 (.d (.int (a % m))) (c + 1) _ B _ (hk _ (Int.emod_nonneg _ (by omega)) (Int.emod_lt_of_pos _ hm0)) (gr_p h1 h2 (fun x o hx ho => ?_) fun x hx => ?_) h2 ⟨a / m, _, n + 1, upd_same, Int.ediv_nonneg ha (by omega), hE0 _, hE1 _, by omega, by omega⟩ (.int _)
      · have nxq : x ≠ q := fun z => by
          rw [← z, upd_ne hx, upd_ne hx, ho] at hq
          cases hq
        rw [upd_ne hx, upd_ne nxq, upd_ne hx, upd_ne hx]
        exact ho
      · have nxp : x ≠ p := fun z => by rw [z, upd_same] at hx; cases hx
        have nxq : x ≠ q := fun z => by rw [z, upd_ne npq.symm, upd_same] at hx; cases hx
        rw [upd_ne nxp, upd_ne nxq, upd_ne nxp, upd_ne nxp] at hx
        exact hx
    · rw [decide_eq_false hpos]
      refine iteF ?_
      refine ⟨.ref p, rfl, p, _, 1, .int _, rfl, rfl, st (hp2 _ _), rfl, _, 101, rfl, rfl, ⟨by decide, by decide⟩, .inl ⟨_, rfl, .int m, rfl, _, m, rfl, rfl, hm0, ?_⟩⟩
      refine h6 (.d (.int (_ / 101 % m))) (c + 1) _ B _ (hk _ (Int.emod_nonneg _ (by omega)) (Int.emod_lt_of_pos _ hm0)) (gr_p h1 h2 (fun x o hx ho => by rw [upd_ne hx, upd_ne hx]; exact ho) fun x hx => ?_) h2 ⟨a, _, n + 1, upd_same, ha, hE0 _, hE1 _, by omega, by omega⟩ (.int _)
      have nxp : x ≠ p := fun z => by rw [z, upd_same] at hx; cases hx
      rw [upd_ne nxp, upd_ne nxp] at hx
      exact hx
def spQ (K : PySem.W.Frag) : Sp := fun vs H Q _ => ∃ (a : Addr) (ns : List Int) (k : Int), vs = [.ref a, .int k] ∧ SqL K H a (ns.map V.int) ∧ ns.length ≤ 63 ∧ 0 ≤ k ∧ k ≤ 4 ∧ ∀ H' p, Same H H' → H p = none → PurH H' p 0 → Q (.ref p) H'
theorem f_law_purse {P : Program} {w : World} {K : PySem.W.Frag} {mg : Str → Option Value} {base : Heap} (T : TX K mg) : FN P w K mg base 1 "_law_purse" ["_law_script", "_law_k"] (spQ K) := by
  obtain ⟨fd, F⟩ := T.fn 46 d_law_purse rfl
  refine ⟨T.glo "_law_purse" (by decide +kernel), F.kp, fd, F.ok sc_law_purse (fun vs H Q E h => ?_) (fun cdv A outer s H vs Q E hr h => ?_), F.bindsN (ps := ["_law_script", "_law_k"]) fun _ _ _ _ _ _ us hl => match us, hl with | [_, _], _ => rfl⟩
  · obtain ⟨a, ns, k, rfl, _⟩ := h
    rfl
  · obtain ⟨a, ns, k, rfl, hs, hl, hk0, hk4, hq⟩ := h
    have hsl : (ns.map V.int).length = ns.length := List.length_map _
    have hat : ∀ i : Int, 0 ≤ i → i < ns.length → ∃ z, atI (ns.map V.int) i = some (.int z) := fun i h0 h1 => by
      obtain ⟨j, rfl⟩ := Int.eq_ofNat_of_zero_le h0
      have hj : j < ns.length := by omega
      exact ⟨ns[j], atI_nat (by rw [List.getElem?_map, List.getElem?_eq_getElem hj]; rfl)⟩
    refine ⟨_, PSs.nox (pss_cons (ps_set (i := 2) sc_law_purse.nd rfl (Or.inl rfl) (pe_op op_add (pe_op op_mul pe_int (pv 1)) pe_int)) (pss_cons (ps_for PassesOwn.never rfl (pi_range1 (by rfl) (T.free "range" (by decide +kernel)) (pa_cons (pe_callB call_len_seq (by rfl) (T.free "len" (by decide +kernel)) (by decide +kernel) (pa_cons (pv 0) pa_nil)) pa_nil)) (pg_name (i := 3) sc_law_purse.nd rfl (Or.inl rfl)) (pss_one (ps_set (i := 2) sc_law_purse.nd rfl (Or.inl rfl) (pe_op op_mod (pe_callTy call_int1 (by rfl) (T.free "int" (by decide +kernel)) (by decide +kernel) (pa_cons (pe_op op_add (pe_op op_add (pe_op op_mul (pv 2) pe_int) (pe_op op_mul (pe_ix (r := rIxL K) ix_list (pv 0) (pv 3) (fun _ _ => rfl)) (pe_op op_add (pv 3) pe_int))) pe_int) pa_nil)) pe_int)))) (pss_cons (ps_set (i := 4) sc_law_purse.nd rfl (Or.inl rfl) (pe_ifExp (pt_cmpR op_lt (pv 1) (pe_callB call_len_seq (by rfl) (T.free "len" (by decide +kernel)) (by decide +kernel) (pa_cons (pv 0) pa_nil)) (nomark _)) (pe_ix (r := rIxL K) ix_list (pv 0) (pv 1) (fun _ _ => rfl)) pe_int)) (pss_one (ps_ret (pe_lst (pa_cons (pe_ifExp (PW.pt (pw_or (pt_cmpR op_lt (pv 4) pe_int (nomark _)) (pw_or1 (pt_cmpR op_ge (pv 4) (pe_op op_pow pe_int pe_int) (nomark _))))) (pe_callB call_abs (by rfl) (T.free "abs" (by decide +kernel)) (by decide +kernel) (pa_cons (pv 4) pa_nil)) pe_int) (pa_cons (pv 2) (pa_cons pe_int pa_nil))))))))), ?_⟩
    refine ⟨.int k, rfl, 40009, k, rfl, rfl, .inl ⟨by decide, by decide⟩, _, 771, rfl, rfl, ?_⟩
    refine ⟨.ref a, rfl, a, _, rfl, .inl hs, ?_⟩
    rw [hsl]
    refine ⟨_, rfl, by omega, by omega, for_range (lo := 0) (n := (ns.length : Int).toNat) (fun i σ' H' => H' = H ∧ ∃ (m : Int) (e3 : Option V), σ' = [some (.ref a), some (.int k), some (.int m), e3, none] ∧ 0 ≤ m ∧ m < 2147483549) ⟨rfl, _, _, rfl, by omega, by omega⟩ (fun i σ' H' hi hp => ?_) (fun σ' H' hp => ?_)⟩
    · obtain ⟨rfl, m, e3, rfl, hm0, hm1⟩ := hp
      have hi : i < ns.length := by omega
      obtain ⟨z, hz⟩ := hat (0 + (i : Int)) (by omega) (by omega)
      refine ⟨.int m, rfl, m, 69061, rfl, rfl, .inr ⟨by decide, by decide⟩, .ref a, rfl, .int (0 + (i : Int)), rfl, a, _, 0 + (i : Int), .int z, rfl, rfl, hs, hz, .int (0 + (i : Int)), rfl, 0 + (i : Int), 3, rfl, rfl, z, 0 + (i : Int) + 3, rfl, rfl, .inr ⟨by omega, by omega⟩, _, _, rfl, rfl, _, 37, rfl, rfl, .inl ⟨_, rfl, ?_⟩⟩
      exact ⟨_, 2147483549, rfl, rfl, (by show (0 : Int) < 2147483549; decide), rfl, _, _, rfl, Int.emod_nonneg _ (by decide), Int.emod_lt_of_pos _ (by decide)⟩
    · obtain ⟨rfl, m, e3, rfl, hm0, hm1⟩ := hp
      have fin : ∀ (cell : Int) (H2 : Hp), H2 = H' → ∃ v : V, (([some (.ref a), some (.int k), some (.int m), e3, some (.int cell)] : L2.St)[4]?) = some (some v) ∧ True := fun cell H2 _ => ⟨_, rfl, trivial⟩
      have fin2 : ∀ av : Int, 0 ≤ av → 3 ≤ sizeLine ∧ ∀ l, H' l = none → Q (.ref l) (upd H' l (.lst [.int av, .int m, .int 0])) := fun av hav => ⟨by decide, fun l hl => hq _ l (same_new hl) hl ⟨av, m, 0, upd_same, hav, hm0, hm1, by decide, by decide⟩⟩
      have endc : ∀ cell : Int, (tRet (tLst (tCons (tIf (tOr (tTest (tOp (rI0 fun i j => V.bl (decide (i < j))) (tVar 4) (tC (.int 0)))) (tTest (tOp (rI0 fun i j => V.bl (decide (i ≥ j))) (tVar 4) (tOp (rI CPow fun i j => V.int (i ^ j.toNat)) (tC (.int 10)) (tC (.int 18)))))) (tCB (fun xs H Q => ∃ i, xs = [.int i] ∧ Q (.int (if i < 0 then -i else i)) H) (tCons (tVar 4) tNil)) (tC (.int 0))) (tCons (tVar 2) (tCons (tC (.int 0)) tNil))))) { nx := fun x H' => Q V.non H', rt := Q } [some (.ref a), some (.int k), some (.int m), e3, some (.int cell)] H' := fun cell => by
        refine ⟨.int cell, rfl, cell, 0, rfl, rfl, _, rfl, ?_⟩
        by_cases h0 : cell < 0
        · rw [decide_eq_true h0]
          refine iteT ?_
          refine iteT ?_
          refine ⟨.int cell, rfl, cell, rfl, .int m, rfl, ?_⟩
          rw [if_pos h0]
          exact fin2 _ (by omega)
        · rw [decide_eq_false h0]
          refine iteF ?_
          refine ⟨.int cell, rfl, 10, 18, rfl, rfl, ⟨by decide, by decide, by decide⟩, cell, _, rfl, rfl, _, rfl, ?_⟩
          by_cases h1 : cell ≥ (10 : Int) ^ (18 : Int).toNat
          · rw [decide_eq_true h1]
            refine iteT ?_
            refine ⟨.int cell, rfl, cell, rfl, .int m, rfl, ?_⟩
            rw [if_neg h0]
            exact fin2 _ (by omega)
          · rw [decide_eq_false h1]
            refine iteF ?_
            refine ⟨.int m, rfl, ?_⟩
            exact fin2 _ (by decide)
      refine ⟨.int k, rfl, .ref a, rfl, a, _, rfl, .inl hs, ?_⟩
      rw [hsl]
      refine ⟨k, _, rfl, rfl, _, rfl, ?_⟩
      by_cases hkl : k < (ns.length : Int)
      · rw [decide_eq_true hkl]
        refine iteT ?_
        obtain ⟨z, hz⟩ := hat k hk0 hkl
        exact ⟨.ref a, rfl, .int k, rfl, a, _, k, .int z, rfl, rfl, hs, hz, endc z⟩
      · rw [decide_eq_false hkl]
        refine iteF ?_
        exact endc 0
theorem f_law_one {P : Program} {w : World} {K : PySem.W.Frag} {mg : Str → Option Value} {base : Heap} (T : TX K mg) (F_law_draw : FN P w K mg base 1 "_law_draw" ["_law_purse_here", "_law_many"] (spP K W_law_draw))  : FN P w K mg base 2 "_law_one" ["_law_purse_here", "_law_menu"] (spP K W_law_one) := by
  obtain ⟨fd, F⟩ := T.fn 48 d_law_one rfl
  refine ⟨T.glo "_law_one" (by decide +kernel), F.kp, fd, ok_p F sc_law_one (fun xs c k h => by obtain ⟨ds, rfl, h0, h1, hc, hk⟩ := h; rfl) (fun cdv A outer s H E hr => ⟨_, (pss_one (ps_ret (pe_ix (r := rIxL K) ix_list (pv 1) (pe_fn F_law_draw hr (by decide) (pa_cons (pv 0) (pa_cons (pe_callB call_len_seq (by rfl) (T.free "len" (by decide +kernel)) (by decide +kernel) (pa_cons (pv 1) pa_nil)) pa_nil))) (fun _ _ => rfl)))), ?_⟩), F.bindsN (ps := ["_law_purse_here", "_law_menu"]) fun _ _ _ _ _ _ us hl => match us, hl with | [_, _], _ => rfl⟩
  intro π B0 H0 xs c k hW
  obtain ⟨ds, rfl, h0, h1, hc, hk⟩ := hW
  try dsimp only [cxOf, Cx.nox]
  repeat walk_at "k"
  intro d hd0 hd1
  obtain ⟨j, rfl⟩ := Int.eq_ofNat_of_zero_le hd0
  have hj : j < ds.length := by omega
  refine rn_ixLn (List.getElem?_eq_getElem hj) ?_
  exact hk _ (List.getElem_mem hj)
theorem f_law_tag {P : Program} {w : World} {K : PySem.W.Frag} {mg : Str → Option Value} {base : Heap} (T : TX K mg) (F_law_draw : FN P w K mg base 1 "_law_draw" ["_law_purse_here", "_law_many"] (spP K W_law_draw)) (F_law_one : FN P w K mg base 2 "_law_one" ["_law_purse_here", "_law_menu"] (spP K W_law_one))  : FN P w K mg base 3 "_law_tag" ["_law_purse_here"] (spP K W_law_tag) := by
  obtain ⟨fd, F⟩ := T.fn 49 d_law_tag rfl
  refine ⟨T.glo "_law_tag" (by decide +kernel), F.kp, fd, ok_p F sc_law_tag (fun xs c k h => by obtain ⟨rfl, hc, hk⟩ := h; rfl) (fun cdv A outer s H E hr => ⟨_, (pss_cons (ps_if (pt_cmpR op_eq (pe_fn F_law_draw hr (by decide) (pa_cons (pv 0) (pa_cons pe_int pa_nil))) pe_int (nomark _)) (pss_cons (ps_set (i := 1) sc_law_tag.nd rfl (Or.inl rfl) (pe_lst (pa_cons pe_str (pa_cons pe_str (pa_cons pe_str (pa_cons pe_str (pa_cons pe_str (pa_cons pe_str (pa_cons pe_str (pa_cons pe_str (pa_cons pe_str (pa_cons pe_str (pa_cons pe_str (pa_cons pe_str (pa_cons pe_str pa_nil))))))))))))))) (pss_one (ps_ret (pe_fn F_law_one hr (by decide) (pa_cons (pv 0) (pa_cons (pe_op op_cat (pv 1) (pe_lst (pa_cons pe_str (pa_cons pe_str (pa_cons pe_str (pa_cons pe_str (pa_cons pe_str (pa_cons pe_str (pa_cons pe_str pa_nil))))))))) pa_nil)))))) pss_nil) (pss_cons (ps_set (i := 2) sc_law_tag.nd rfl (Or.inl rfl) pe_str) (pss_cons (ps_for PassesOwn.never rfl (pi_range1 (by rfl) (T.free "range" (by decide +kernel)) (pa_cons (pe_op op_add pe_int (pe_fn F_law_draw hr (by decide) (pa_cons (pv 0) (pa_cons pe_int pa_nil)))) pa_nil)) (pg_name (i := 3) sc_law_tag.nd rfl (Or.inl rfl)) (pss_one (ps_set (i := 2) sc_law_tag.nd rfl (Or.inl rfl) (pe_op op_add_str (pv 2) (pe_ix ix_str pe_str (pe_fn F_law_draw hr (by decide) (pa_cons (pv 0) (pa_cons pe_int pa_nil))) (fun _ _ => rfl)))))) (pss_one (ps_ret (pe_ifExp (pt_cmpR op_eq (pv 2) pe_str (nomark _)) pe_str (pv 2))))))), ?_⟩), F.bindsN (ps := ["_law_purse_here"]) fun _ _ _ _ _ _ us hl => match us, hl with | [_], _ => rfl⟩
  intro π B0 H0 xs c k hW
  obtain ⟨rfl, hc, hk⟩ := hW
  try dsimp only [cxOf, Cx.nox]
  repeat walk_at "k"
  intro d hd0 hd1
  by_cases h5 : d = 5
  · repeat walk_at "k"
    refine rn_catL (by decide) ?_
    repeat walk_at "kk"
    refine ⟨tagL.map .str, rfl, by decide, by decide, by omega, fun d hd => ?_⟩
    obtain ⟨s, hs, rfl⟩ := List.mem_map.mp hd
    exact hk s _ (tagL_ok hs) (by omega)
  · repeat walk_at "k"
    refine wr_forR ?_
    repeat walk_at "k"
    intro e he0 he1
    repeat walk_at "kk"
    refine ⟨_, rfl, by omega, by omega, fun i Γ' c' => ∃ (f : Str) (e1 e3 : En), Γ' = [.pur, e1, .ab (.d (.str f)), e3] ∧ f.length = i ∧ (∀ x, x ∈ f.cps.toList → 97 ≤ x ∧ x ≤ 122) ∧ c' ≤ c + 2 + i, ⟨_, _, _, rfl, rfl, by decide, by omega⟩, fun i Γ' c' hi hI => ?_, fun Γ' c' hI => ?_⟩
    · obtain ⟨f, e1, e3, rfl, hfl, hfc, hcc⟩ := hI
      repeat walk_at "k"
      intro d hd0 hd1
      obtain ⟨x, hx, hx1, hx2⟩ := letter_at hd0 hd1
      refine rn_ixS (by decide) hx ?_
      refine rn_addS (by show f.length + 1 ≤ 100000; omega) ?_
      refine ⟨f ++ ⟨#[x]⟩, e1, .ab (.d (.int i)), rfl, ?_, fun y hy => ?_, by omega⟩
      · rw [PySem.Str.length_append, hfl]
        rfl
      · have hy : y ∈ TL.tl (f ++ ⟨#[x]⟩) := hy
        rw [TL.tl_append] at hy
        rcases List.mem_append.mp hy with h | h
        · exact hfc y h
        · have : y = x := by simpa using h
          omega
    · obtain ⟨f, e1, e3, rfl, hfl, hfc, hcc⟩ := hI
      have hw : WordOk f := ⟨by omega, by omega, hfc⟩
      repeat walk_at "k"
      by_cases hand : f = "and"
      · refine ite_t (decide_eq_true hand) ?_
        repeat walk_at "k"
        exact hk "andy" _ (modeB_ok (by decide +kernel)) (by omega)
      · refine ite_f (decide_eq_false hand) ?_
        repeat walk_at "k"
        exact hk f _ ⟨hw, hand⟩ (by omega)
theorem f_law_tags {P : Program} {w : World} {K : PySem.W.Frag} {mg : Str → Option Value} {base : Heap} (T : TX K mg) (F_law_draw : FN P w K mg base 1 "_law_draw" ["_law_purse_here", "_law_many"] (spP K W_law_draw)) (F_law_tag : FN P w K mg base 3 "_law_tag" ["_law_purse_here"] (spP K W_law_tag))  : FN P w K mg base 4 "_law_tags" ["_law_purse_here"] (spP K W_law_tags) := by
  obtain ⟨fd, F⟩ := T.fn 50 d_law_tags rfl
  refine ⟨T.glo "_law_tags" (by decide +kernel), F.kp, fd, ok_p F sc_law_tags (fun xs c k h => by obtain ⟨rfl, hc, hk⟩ := h; rfl) (fun cdv A outer s H E hr => ⟨_, (pss_cons (ps_set (i := 1) sc_law_tags.nd rfl (Or.inl rfl) (pe_lst (pa_cons (pe_fn F_law_tag hr (by decide) (pa_cons (pv 0) pa_nil)) pa_nil))) (pss_cons (ps_for PassesOwn.never rfl (pi_range1 (by rfl) (T.free "range" (by decide +kernel)) (pa_cons (pe_fn F_law_draw hr (by decide) (pa_cons (pv 0) (pa_cons pe_int pa_nil))) pa_nil)) (pg_name (i := 2) sc_law_tags.nd rfl (Or.inl rfl)) (pss_cons (ps_par (i := 3) (j := 4) (by rfl) sc_law_tags.nd rfl rfl (by decide) rfl rfl (pa_cons (pe_fn F_law_draw hr (by decide) (pa_cons (pv 0) (pa_cons pe_int pa_nil))) (pa_cons (pe_fn F_law_tag hr (by decide) (pa_cons (pv 0) pa_nil)) pa_nil)) (by rfl)) (pss_cons (ps_if (pt_cmpR op_eq (pv 3) pe_int (nomark _)) (pss_one (ps_set (i := 4) sc_law_tags.nd rfl (Or.inl rfl) (pe_slice sl_str (pe_op op_add_str (pe_ix (r := rIxL K) ix_list (pv 1) pe_int (fun _ _ => rfl)) (pv 4)) po_none (po_some pe_int)))) pss_nil) (pss_one (ps_if (PW.pt (pw_and (pt_cmpR op_notIn_seq (pv 4) (pv 1) (by rfl)) (pw_and1 (pt_cmpR op_ne (pv 4) pe_str (nomark _))))) (pss_one (ps_expr (pe_bm PySem.F.plainAttrs_list PySem.F.slot_list_append PySem.F.type_list_append mt_append (pv 1) (pa_cons (pv 4) pa_nil)))) pss_nil))))) (pss_one (ps_ret (pv 1))))), ?_⟩), F.bindsN (ps := ["_law_purse_here"]) fun _ _ _ _ _ _ us hl => match us, hl with | [_], _ => rfl⟩
  intro π B0 H0 xs c k hW
  obtain ⟨rfl, hc, hk⟩ := hW
  try dsimp only [cxOf, Cx.nox]
  refine wr_seq (wr_own ?_)
  repeat walk_at "k"
  intro s c1 hs hc1
  repeat walk_at "k"
  refine wr_forR ?_
  repeat walk_at "k"
  intro d hd0 hd1
  repeat walk_at "kk"
  refine ⟨_, rfl, by omega, by omega, fun i Γ' c' => ∃ (ts : List Str) (e2 e3 e4 : En), Γ' = [.pur, .own (ts.map .str), e2, e3, e4] ∧ 1 ≤ ts.length ∧ ts.length ≤ 1 + i ∧ (∀ m, m ∈ ts → ModeOk m) ∧ ts.Nodup ∧ c' ≤ c + 11 + 11 * i, ⟨[s], _, _, _, rfl, Nat.le_refl 1, Nat.le_refl 1, fun m hm => (by rw [List.mem_singleton.mp hm]; exact hs), by simp, by omega⟩, fun i Γ' c' hi hI => ?_, fun Γ' c' hI => ?_⟩
  · obtain ⟨ts, e2, e3, e4, rfl, hl1, hl2, hok, hnd, hcc⟩ := hI
    repeat walk_at "k"
    intro w hw0 hw1
    repeat walk_at "k"
    intro t c2 ht hc2
    refine wa_nil ⟨_, _, rfl, wr_seq (RunN.imp (fun Γ c' => c' = c2 ∧ ∃ u : Str, WordOk u ∧ Γ = [.pur, .own (ts.map .str), .ab (.d (.int i)), .ab (.d (.int w)), .ab (.d (.str u))]) ?_ fun Γ c' hN => ?_)⟩
    · by_cases h2 : w = 2
      · repeat walk_at "k"
        obtain ⟨t0, tr, rfl⟩ : ∃ t0 tr, ts = t0 :: tr := by
          cases ts with
          | nil => exact absurd hl1 (by decide)
          | cons t0 tr => exact ⟨t0, tr, rfl⟩
        have h0 := hok t0 (by simp)
        have hi0 := h0.w.hi
        have hi1 := ht.w.hi
        refine ⟨0, .str t0, rfl, atI_nat (j := 0) rfl, ?_⟩
        repeat walk_at "k"
        refine rn_addS (by omega) ?_
        repeat walk_at "k"
        refine rs_S (by rw [PySem.Str.length_append]; omega) ?_
        exact ⟨rfl, _, word_cut h0.w ht.w, rfl⟩
      · repeat walk_at "k"
        exact ⟨t, ht.w, rfl⟩
    · obtain ⟨rfl, u, hu, rfl⟩ := hN
      repeat walk_at "k"
      by_cases hin : u ∈ ts
      · rw [decide_eq_true hin]
        repeat walk_at "k"
        omega
      · rw [decide_eq_false hin]
        repeat walk_at "k"
        by_cases ha : u = "and"
        · refine ite_f (by rw [decide_eq_true ha]; rfl) ?_
          repeat walk_at "k"
          omega
        · refine ite_t (by rw [decide_eq_false ha]; rfl) ?_
          refine wr_app rfl (by rw [List.length_map]; omega) ?_
          repeat walk_at "kk"
          refine ⟨_, rfl, ts ++ [u], .ab (.d (.int i)), .ab (.d (.int w)), .ab (.d (.str u)), ?_, by rw [List.length_append]; omega, by rw [List.length_append]; show ts.length + 1 ≤ _; omega, fun m hm => ?_, ?_, by omega⟩
          · rw [List.map_append]
            rfl
          · rcases List.mem_append.mp hm with h | h
            · exact hok m h
            · rw [List.mem_singleton.mp h]
              exact ⟨hu, ha⟩
          · rw [List.nodup_append]
            refine ⟨hnd, by simp, fun a h1 b h2 => ?_⟩
            rw [List.mem_singleton.mp h2]
            exact fun z => hin (z ▸ h1)
  · obtain ⟨ts, e2, e3, e4, rfl, hl1, hl2, hok, hnd, hcc⟩ := hI
    refine wr_freeze (i := 1) (by rfl) ?_
    repeat walk_at "k"
    exact hk ts _ ⟨hl1, by omega, hok, hnd⟩ (by omega)
theorem f_law_conds {P : Program} {w : World} {K : PySem.W.Frag} {mg : Str → Option Value} {base : Heap} (T : TX K mg) (F_law_draw : FN P w K mg base 1 "_law_draw" ["_law_purse_here", "_law_many"] (spP K W_law_draw)) (F_law_one : FN P w K mg base 2 "_law_one" ["_law_purse_here", "_law_menu"] (spP K W_law_one))  : FN P w K mg base 3 "_law_conds" ["_law_purse_here", "_law_when", "_law_tags_here", "_law_most"] (spP K W_law_conds) := by
  obtain ⟨fd, F⟩ := T.fn 51 d_law_conds rfl
  refine ⟨T.glo "_law_conds" (by decide +kernel), F.kp, fd, ok_p F sc_law_conds (fun xs c k h => by obtain ⟨o, ms, rfl, hc, hm, hk⟩ := h; rfl) (fun cdv A outer s H E hr => ⟨_, (pss_cons (ps_set (i := 4) sc_law_conds.nd rfl (Or.inl rfl) (pe_lst pa_nil)) (pss_cons (ps_for PassesOwn.never rfl (pi_range1 (by rfl) (T.free "range" (by decide +kernel)) (pa_cons (pe_fn F_law_draw hr (by decide) (pa_cons (pv 0) (pa_cons (pe_op op_add (pv 3) pe_int) pa_nil))) pa_nil)) (pg_name (i := 5) sc_law_conds.nd rfl (Or.inl rfl)) (pss_cons (ps_par (i := 6) (j := 7) (by rfl) sc_law_conds.nd rfl rfl (by decide) rfl rfl (pa_cons (pe_fn F_law_one hr (by decide) (pa_cons (pv 0) (pa_cons (pe_lst (pa_cons pe_str (pa_cons pe_str (pa_cons pe_str (pa_cons pe_str (pa_cons pe_str (pa_cons pe_str pa_nil))))))) pa_nil))) (pa_cons pe_int pa_nil)) (by rfl)) (pss_cons (ps_if (PW.pt (pw_and (pt_cmpR op_eq (pv 6) pe_str (nomark _)) (pw_and1 (pt_cmpR op_ne (pv 1) pe_str (nomark _))))) (pss_one (ps_set (i := 6) sc_law_conds.nd rfl (Or.inl rfl) pe_str)) pss_nil) (pss_cons (ps_if (pt_cmpR op_eq (pv 6) pe_str (nomark _)) (pss_one (ps_set (i := 7) sc_law_conds.nd rfl (Or.inl rfl) (pe_fn F_law_draw hr (by decide) (pa_cons (pv 0) (pa_cons pe_int pa_nil))))) pss_nil) (pss_cons (ps_if (pt_cmpR op_eq (pv 6) pe_str (nomark _)) (pss_one (ps_set (i := 7) sc_law_conds.nd rfl (Or.inl rfl) (pe_fn F_law_one hr (by decide) (pa_cons (pv 0) (pa_cons (pv 2) pa_nil))))) pss_nil) (pss_one (ps_expr (pe_bm PySem.F.plainAttrs_list PySem.F.slot_list_append PySem.F.type_list_append mt_append (pv 4) (pa_cons (pe_tup (pa_cons (pv 6) (pa_cons (pv 7) (pa_cons (pe_cmpR op_eq (pe_fn F_law_draw hr (by decide) (pa_cons (pv 0) (pa_cons pe_int pa_nil))) pe_int (nomark _)) pa_nil)))) pa_nil))))))))) (pss_one (ps_ret (pv 4))))), ?_⟩), F.bindsN (ps := ["_law_purse_here", "_law_when", "_law_tags_here", "_law_most"]) fun _ _ _ _ _ _ us hl => match us, hl with | [_, _, _, _], _ => rfl⟩
  intro π B0 H0 xs c k hW
  obtain ⟨o, ms, rfl, hc, hm, hk⟩ := hW
  try dsimp only [cxOf, Cx.nox]
  have hml := hm.hi
  have hml1 := hm.lo
  repeat walk_at "k"
  refine wr_forR ?_
  repeat walk_at "k"
  intro d hd0 hd1
  repeat walk_at "kk"
  refine ⟨_, rfl, by omega, by omega, fun i Γ' c' => ∃ (cs : List Cnd) (e5 e6 e7 : En), Γ' = [.pur, .ab (.d (.str o.s)), .ab (.d (.list (ms.map .str))), .ab (.d (.int 2)), .own (cs.map Cnd.data), e5, e6, e7] ∧ cs.length ≤ i ∧ (∀ x : Cnd, x ∈ cs → x.k.ok o ms) ∧ c' ≤ c + 1 + 4 * i, ⟨[], _, _, _, rfl, by decide, fun x hx => (by cases hx), by omega⟩, fun i Γ' c' hi hI => ?_, fun Γ' c' hI => ?_⟩
  · obtain ⟨cs, e5, e6, e7, rfl, hl, hok, hcc⟩ := hI
    have fin : ∀ (ck : CK) (b : Bool) (c2 : Nat), ck.ok o ms → c2 ≤ c + 1 + 4 * i + 4 → ∀ e5 e6 e7 : En, ∃ (cs' : List Cnd) (f5 f6 f7 : En), [En.pur, .ab (.d (.str o.s)), .ab (.d (.list (ms.map .str))), .ab (.d (.int 2)), .own (cs.map Cnd.data ++ [Cnd.data ⟨ck, b⟩]), e5, e6, e7] = [En.pur, .ab (.d (.str o.s)), .ab (.d (.list (ms.map .str))), .ab (.d (.int 2)), .own (cs'.map Cnd.data), f5, f6, f7] ∧ cs'.length ≤ i + 1 ∧ (∀ x : Cnd, x ∈ cs' → x.k.ok o ms) ∧ c2 ≤ c + 1 + 4 * (i + 1) := fun ck b c2 h1 h2 e5 e6 e7 => by
      refine ⟨cs ++ [⟨ck, b⟩], e5, e6, e7, by rw [List.map_append]; rfl, by rw [List.length_append]; show cs.length + 1 ≤ _; omega, fun x hx => ?_, by omega⟩
      rcases List.mem_append.mp hx with h | h
      · exact hok x h
      · rw [List.mem_singleton.mp h]
        exact h1
    repeat walk_at "k"
    intro d hd
    simp only [List.mem_cons, List.not_mem_nil, or_false] at hd
    rcases hd with rfl | rfl | rfl | rfl | rfl | rfl
    · repeat walk_at "k"
      refine wr_app rfl (by rw [List.length_map]; omega) ?_
      repeat walk_at "k"
      intro b hb0 hb1
      repeat walk_at "k"
      exact fin .full (decide (b = 0)) _ trivial (by omega) _ _ _
    · repeat walk_at "k"
      refine wr_app rfl (by rw [List.length_map]; omega) ?_
      repeat walk_at "k"
      intro b hb0 hb1
      repeat walk_at "k"
      exact fin .whole (decide (b = 0)) _ trivial (by omega) _ _ _
    · repeat walk_at "k"
      intro n hn0 hn1
      obtain ⟨j, rfl⟩ := Int.eq_ofNat_of_zero_le hn0
      repeat walk_at "k"
      refine wr_app rfl (by rw [List.length_map]; omega) ?_
      repeat walk_at "k"
      intro b hb0 hb1
      repeat walk_at "k"
      exact fin (.few j) (decide (b = 0)) _ (by show j ≤ 3; omega) (by omega) _ _ _
    · repeat walk_at "k"
      intro n hn0 hn1
      obtain ⟨j, rfl⟩ := Int.eq_ofNat_of_zero_le hn0
      repeat walk_at "k"
      refine wr_app rfl (by rw [List.length_map]; omega) ?_
      repeat walk_at "k"
      intro b hb0 hb1
      repeat walk_at "k"
      exact fin (.few j) (decide (b = 0)) _ (by show j ≤ 3; omega) (by omega) _ _ _
    · repeat walk_at "k"
      refine ⟨by rw [List.length_map]; omega, by rw [List.length_map]; omega, by omega, fun d hd => ?_⟩
      obtain ⟨m, hm1, rfl⟩ := List.mem_map.mp hd
      repeat walk_at "k"
      refine wr_app rfl (by rw [List.length_map]; omega) ?_
      repeat walk_at "k"
      intro b hb0 hb1
      repeat walk_at "k"
      exact fin (.inn m) (decide (b = 0)) _ hm1 (by omega) _ _ _
    · cases o with
      | put =>
        repeat walk_at "k"
        refine wr_app rfl (by rw [List.length_map]; omega) ?_
        repeat walk_at "k"
        intro b hb0 hb1
        repeat walk_at "k"
        exact fin .above (decide (b = 0)) _ rfl (by omega) _ _ _
      | loss =>
        repeat walk_at "k"
        refine wr_app rfl (by rw [List.length_map]; omega) ?_
        repeat walk_at "k"
        intro b hb0 hb1
        repeat walk_at "k"
        exact fin .whole (decide (b = 0)) _ trivial (by omega) _ _ _
      | ask =>
        repeat walk_at "k"
        refine wr_app rfl (by rw [List.length_map]; omega) ?_
        repeat walk_at "k"
        intro b hb0 hb1
        repeat walk_at "k"
        exact fin .whole (decide (b = 0)) _ trivial (by omega) _ _ _
  · obtain ⟨cs, e5, e6, e7, rfl, hl, hok, hcc⟩ := hI
    refine wr_freeze (i := 4) (by rfl) ?_
    repeat walk_at "k"
    exact hk cs _ (by omega) hok (by omega)
theorem f_law_deeds {P : Program} {w : World} {K : PySem.W.Frag} {mg : Str → Option Value} {base : Heap} (T : TX K mg) (F_law_draw : FN P w K mg base 1 "_law_draw" ["_law_purse_here", "_law_many"] (spP K W_law_draw)) (F_law_one : FN P w K mg base 2 "_law_one" ["_law_purse_here", "_law_menu"] (spP K W_law_one))  : FN P w K mg base 3 "_law_deeds" ["_law_purse_here", "_law_when", "_law_cap", "_law_tags_here"] (spP K W_law_deeds) := by
  obtain ⟨fd, F⟩ := T.fn 52 d_law_deeds rfl
  refine ⟨T.glo "_law_deeds" (by decide +kernel), F.kp, fd, ok_p F sc_law_deeds (fun xs c k h => by obtain ⟨o, room, ms, rfl, hc, h1, h4, hm, hk⟩ := h; rfl) (fun cdv A outer s H E hr => ⟨_, (pss_cons (ps_par (i := 4) (j := 5) (by rfl) sc_law_deeds.nd rfl rfl (by decide) rfl rfl (pa_cons (pe_lst (pa_cons (pe_tup (pa_cons pe_str (pa_cons (pe_fn F_law_one hr (by decide) (pa_cons (pv 0) (pa_cons (pv 3) pa_nil))) pa_nil))) pa_nil)) (pa_cons (pe_fn F_law_draw hr (by decide) (pa_cons (pv 0) (pa_cons pe_int pa_nil))) pa_nil)) (by rfl)) (pss_cons (ps_if (pt_cmpR op_eq (pv 1) pe_str (nomark _)) (pss_cons (ps_set (i := 6) sc_law_deeds.nd rfl (Or.inl rfl) (pe_ix (r := rIxL K) ix_list (pe_lst (pa_cons (pe_tup (pa_cons pe_str (pa_cons pe_int pa_nil))) (pa_cons (pe_tup (pa_cons pe_str (pa_cons pe_int pa_nil))) (pa_cons (pe_tup (pa_cons pe_str (pa_cons pe_int pa_nil))) (pa_cons (pe_tup (pa_cons pe_str (pa_cons (pe_op op_add pe_int (pe_fn F_law_draw hr (by decide) (pa_cons (pv 0) (pa_cons (pv 2) pa_nil)))) pa_nil))) pa_nil))))) (pe_op op_mod (pe_callTy call_int1 (by rfl) (T.free "int" (by decide +kernel)) (by decide +kernel) (pa_cons (pv 5) pa_nil)) pe_int) (fun _ _ => rfl))) (pss_one (ps_ret (pe_op op_cat (pe_lst (pa_cons (pv 6) pa_nil)) (pe_slice sl_list (pv 4) po_none (po_some (pe_op op_fdiv (pv 5) pe_int))))))) pss_nil) (pss_cons (ps_if (pt_cmpR op_lt (pv 5) pe_int (nomark _)) (pss_one (ps_ret (pv 4))) pss_nil) (pss_one (ps_ret (pe_op op_cat (pe_lst (pa_cons (pe_tup (pa_cons pe_str (pa_cons (pe_op op_add pe_int (pe_fn F_law_draw hr (by decide) (pa_cons (pv 0) (pa_cons (pv 2) pa_nil)))) pa_nil))) pa_nil)) (pe_slice sl_list (pv 4) po_none (po_some (pe_op op_mod (pe_callTy call_int1 (by rfl) (T.free "int" (by decide +kernel)) (by decide +kernel) (pa_cons (pv 5) pa_nil)) pe_int))))))))), ?_⟩), F.bindsN (ps := ["_law_purse_here", "_law_when", "_law_cap", "_law_tags_here"]) fun _ _ _ _ _ _ us hl => match us, hl with | [_, _, _, _], _ => rfl⟩
  intro π B0 H0 xs c k hW
  obtain ⟨o, room, ms, rfl, hc, h1, h4, hm, hk⟩ := hW
  try dsimp only [cxOf, Cx.nox]
  have hml := hm.hi
  have hml1 := hm.lo
  repeat walk_at "k"
  refine ⟨by rw [List.length_map]; omega, by rw [List.length_map]; omega, by omega, fun d hd => ?_⟩
  obtain ⟨m, hm1, rfl⟩ := List.mem_map.mp hd
  repeat walk_at "k"
  intro w hw0 hw1
  have hw8 : w = 0 ∨ w = 1 ∨ w = 2 ∨ w = 3 ∨ w = 4 ∨ w = 5 ∨ w = 6 ∨ w = 7 := by omega
  have rd : ∀ r : Int, 0 ≤ r → r < (room : Int) → ∃ j : Nat, (1 : Int) + r = (j : Int) ∧ 1 ≤ j ∧ j ≤ room := fun r h h' => ⟨(1 + r).toNat, by omega, by omega, by omega⟩
  rcases hw8 with rfl | rfl | rfl | rfl | rfl | rfl | rfl | rfl
  · cases o with
    | put =>
      repeat walk_at "k"
      intro r hr0 hr1
      obtain ⟨j, hj, hj1, hj2⟩ := rd r hr0 hr1
      repeat walk_at "k"
      rw [hj]
      repeat walk_at "k"
      refine rn_ci (by show (0 : Int) < 4; decide) ?_
      refine rn_ixL (d := Dd.data .keep) (by rfl) ?_
      repeat walk_at "k"
      refine rn_ci ⟨by decide, by decide⟩ ?_
      repeat walk_at "k"
      refine rs_L ?_
      refine rn_catL (sm rfl) ?_
      exact hk (.one .keep) _ rfl (by omega)
    | loss =>
      repeat walk_at "k"
      exact hk (.goal m) _ ⟨by decide, hm1⟩ (by omega)
    | ask =>
      repeat walk_at "k"
      exact hk (.goal m) _ ⟨by decide, hm1⟩ (by omega)
  · cases o with
    | put =>
      repeat walk_at "k"
      intro r hr0 hr1
      obtain ⟨j, hj, hj1, hj2⟩ := rd r hr0 hr1
      repeat walk_at "k"
      rw [hj]
      repeat walk_at "k"
      refine rn_ci (by show (0 : Int) < 4; decide) ?_
      refine rn_ixL (d := Dd.data .keep) (by rfl) ?_
      repeat walk_at "k"
      refine rn_ci ⟨by decide, by decide⟩ ?_
      repeat walk_at "k"
      refine rs_L ?_
      refine rn_catL (sm rfl) ?_
      exact hk (.one .keep) _ rfl (by omega)
    | loss =>
      repeat walk_at "k"
      exact hk (.goal m) _ ⟨by decide, hm1⟩ (by omega)
    | ask =>
      repeat walk_at "k"
      exact hk (.goal m) _ ⟨by decide, hm1⟩ (by omega)
  · cases o with
    | put =>
      repeat walk_at "k"
      intro r hr0 hr1
      obtain ⟨j, hj, hj1, hj2⟩ := rd r hr0 hr1
      repeat walk_at "k"
      rw [hj]
      repeat walk_at "k"
      refine rn_ci (by show (0 : Int) < 4; decide) ?_
      refine rn_ixL (d := Dd.data .skip) (by rfl) ?_
      repeat walk_at "k"
      refine rn_ci ⟨by decide, by decide⟩ ?_
      repeat walk_at "k"
      refine rs_L ?_
      refine rn_catL (sm rfl) ?_
      exact hk (.one .skip) _ rfl (by omega)
    | loss =>
      repeat walk_at "k"
      intro r hr0 hr1
      obtain ⟨j, hj, hj1, hj2⟩ := rd r hr0 hr1
      repeat walk_at "k"
      rw [hj]
      repeat walk_at "k"
      refine rn_ci (by show (0 : Int) < 2; decide) ?_
      repeat walk_at "k"
      refine rs_L ?_
      refine rn_catL (sm rfl) ?_
      exact hk (.one (.read j)) _ ⟨hj1, hj2⟩ (by omega)
    | ask =>
      repeat walk_at "k"
      intro r hr0 hr1
      obtain ⟨j, hj, hj1, hj2⟩ := rd r hr0 hr1
      repeat walk_at "k"
      rw [hj]
      repeat walk_at "k"
      refine rn_ci (by show (0 : Int) < 2; decide) ?_
      repeat walk_at "k"
      refine rs_L ?_
      refine rn_catL (sm rfl) ?_
      exact hk (.one (.read j)) _ ⟨hj1, hj2⟩ (by omega)
  · cases o with
    | put =>
      repeat walk_at "k"
      intro r hr0 hr1
      obtain ⟨j, hj, hj1, hj2⟩ := rd r hr0 hr1
      repeat walk_at "k"
      rw [hj]
      repeat walk_at "k"
      refine rn_ci (by show (0 : Int) < 4; decide) ?_
      refine rn_ixL (d := Dd.data (.read j)) (by rfl) ?_
      repeat walk_at "k"
      refine rn_ci ⟨by decide, by decide⟩ ?_
      repeat walk_at "k"
      refine rs_L ?_
      refine rn_catL (sm rfl) ?_
      exact hk (.one (.read j)) _ ⟨hj1, hj2⟩ (by omega)
    | loss =>
      repeat walk_at "k"
      intro r hr0 hr1
      obtain ⟨j, hj, hj1, hj2⟩ := rd r hr0 hr1
      repeat walk_at "k"
      rw [hj]
      repeat walk_at "k"
      refine rn_ci (by show (0 : Int) < 2; decide) ?_
      repeat walk_at "k"
      refine rs_L ?_
      refine rn_catL (sm rfl) ?_
      exact hk (.two (.read j) m) _ ⟨⟨hj1, hj2⟩, hm1⟩ (by omega)
    | ask =>
      repeat walk_at "k"
      intro r hr0 hr1
      obtain ⟨j, hj, hj1, hj2⟩ := rd r hr0 hr1
      repeat walk_at "k"
      rw [hj]
      repeat walk_at "k"
      refine rn_ci (by show (0 : Int) < 2; decide) ?_
      repeat walk_at "k"
      refine rs_L ?_
      refine rn_catL (sm rfl) ?_
      exact hk (.two (.read j) m) _ ⟨⟨hj1, hj2⟩, hm1⟩ (by omega)
  · cases o with
    | put =>
      repeat walk_at "k"
      intro r hr0 hr1
      obtain ⟨j, hj, hj1, hj2⟩ := rd r hr0 hr1
      repeat walk_at "k"
      rw [hj]
      repeat walk_at "k"
      refine rn_ci (by show (0 : Int) < 4; decide) ?_
      refine rn_ixL (d := Dd.data .keep) (by rfl) ?_
      repeat walk_at "k"
      refine rn_ci ⟨by decide, by decide⟩ ?_
      repeat walk_at "k"
      refine rs_L ?_
      refine rn_catL (sm rfl) ?_
      exact hk (.two .keep m) _ ⟨rfl, hm1⟩ (by omega)
    | loss =>
      repeat walk_at "k"
      intro r hr0 hr1
      obtain ⟨j, hj, hj1, hj2⟩ := rd r hr0 hr1
      repeat walk_at "k"
      rw [hj]
      repeat walk_at "k"
      refine rn_ci (by show (0 : Int) < 2; decide) ?_
      repeat walk_at "k"
      refine rs_L ?_
      refine rn_catL (sm rfl) ?_
      exact hk (.one (.read j)) _ ⟨hj1, hj2⟩ (by omega)
    | ask =>
      repeat walk_at "k"
      intro r hr0 hr1
      obtain ⟨j, hj, hj1, hj2⟩ := rd r hr0 hr1
      repeat walk_at "k"
      rw [hj]
      repeat walk_at "k"
      refine rn_ci (by show (0 : Int) < 2; decide) ?_
      repeat walk_at "k"
      refine rs_L ?_
      refine rn_catL (sm rfl) ?_
      exact hk (.one (.read j)) _ ⟨hj1, hj2⟩ (by omega)
  · cases o with
    | put =>
      repeat walk_at "k"
      intro r hr0 hr1
      obtain ⟨j, hj, hj1, hj2⟩ := rd r hr0 hr1
      repeat walk_at "k"
      rw [hj]
      repeat walk_at "k"
      refine rn_ci (by show (0 : Int) < 4; decide) ?_
      refine rn_ixL (d := Dd.data .keep) (by rfl) ?_
      repeat walk_at "k"
      refine rn_ci ⟨by decide, by decide⟩ ?_
      repeat walk_at "k"
      refine rs_L ?_
      refine rn_catL (sm rfl) ?_
      exact hk (.two .keep m) _ ⟨rfl, hm1⟩ (by omega)
    | loss =>
      repeat walk_at "k"
      intro r hr0 hr1
      obtain ⟨j, hj, hj1, hj2⟩ := rd r hr0 hr1
      repeat walk_at "k"
      rw [hj]
      repeat walk_at "k"
      refine rn_ci (by show (0 : Int) < 2; decide) ?_
      repeat walk_at "k"
      refine rs_L ?_
      refine rn_catL (sm rfl) ?_
      exact hk (.two (.read j) m) _ ⟨⟨hj1, hj2⟩, hm1⟩ (by omega)
    | ask =>
      repeat walk_at "k"
      intro r hr0 hr1
      obtain ⟨j, hj, hj1, hj2⟩ := rd r hr0 hr1
      repeat walk_at "k"
      rw [hj]
      repeat walk_at "k"
      refine rn_ci (by show (0 : Int) < 2; decide) ?_
      repeat walk_at "k"
      refine rs_L ?_
      refine rn_catL (sm rfl) ?_
      exact hk (.two (.read j) m) _ ⟨⟨hj1, hj2⟩, hm1⟩ (by omega)
  · cases o with
    | put =>
      repeat walk_at "k"
      intro r hr0 hr1
      obtain ⟨j, hj, hj1, hj2⟩ := rd r hr0 hr1
      repeat walk_at "k"
      rw [hj]
      repeat walk_at "k"
      refine rn_ci (by show (0 : Int) < 4; decide) ?_
      refine rn_ixL (d := Dd.data .skip) (by rfl) ?_
      repeat walk_at "k"
      refine rn_ci ⟨by decide, by decide⟩ ?_
      repeat walk_at "k"
      refine rs_L ?_
      refine rn_catL (sm rfl) ?_
      exact hk (.two .skip m) _ ⟨rfl, hm1⟩ (by omega)
    | loss =>
      repeat walk_at "k"
      intro r hr0 hr1
      obtain ⟨j, hj, hj1, hj2⟩ := rd r hr0 hr1
      repeat walk_at "k"
      rw [hj]
      repeat walk_at "k"
      refine rn_ci (by show (0 : Int) < 2; decide) ?_
      repeat walk_at "k"
      refine rs_L ?_
      refine rn_catL (sm rfl) ?_
      exact hk (.one (.read j)) _ ⟨hj1, hj2⟩ (by omega)
    | ask =>
      repeat walk_at "k"
      intro r hr0 hr1
      obtain ⟨j, hj, hj1, hj2⟩ := rd r hr0 hr1
      repeat walk_at "k"
      rw [hj]
      repeat walk_at "k"
      refine rn_ci (by show (0 : Int) < 2; decide) ?_
      repeat walk_at "k"
      refine rs_L ?_
      refine rn_catL (sm rfl) ?_
      exact hk (.one (.read j)) _ ⟨hj1, hj2⟩ (by omega)
  · cases o with
    | put =>
      repeat walk_at "k"
      intro r hr0 hr1
      obtain ⟨j, hj, hj1, hj2⟩ := rd r hr0 hr1
      repeat walk_at "k"
      rw [hj]
      repeat walk_at "k"
      refine rn_ci (by show (0 : Int) < 4; decide) ?_
      refine rn_ixL (d := Dd.data (.read j)) (by rfl) ?_
      repeat walk_at "k"
      refine rn_ci ⟨by decide, by decide⟩ ?_
      repeat walk_at "k"
      refine rs_L ?_
      refine rn_catL (sm rfl) ?_
      exact hk (.two (.read j) m) _ ⟨⟨hj1, hj2⟩, hm1⟩ (by omega)
    | loss =>
      repeat walk_at "k"
      intro r hr0 hr1
      obtain ⟨j, hj, hj1, hj2⟩ := rd r hr0 hr1
      repeat walk_at "k"
      rw [hj]
      repeat walk_at "k"
      refine rn_ci (by show (0 : Int) < 2; decide) ?_
      repeat walk_at "k"
      refine rs_L ?_
      refine rn_catL (sm rfl) ?_
      exact hk (.two (.read j) m) _ ⟨⟨hj1, hj2⟩, hm1⟩ (by omega)
    | ask =>
      repeat walk_at "k"
      intro r hr0 hr1
      obtain ⟨j, hj, hj1, hj2⟩ := rd r hr0 hr1
      repeat walk_at "k"
      rw [hj]
      repeat walk_at "k"
      refine rn_ci (by show (0 : Int) < 2; decide) ?_
      repeat walk_at "k"
      refine rs_L ?_
      refine rn_catL (sm rfl) ?_
      exact hk (.two (.read j) m) _ ⟨⟨hj1, hj2⟩, hm1⟩ (by omega)
theorem f_law_acts {P : Program} {w : World} {K : PySem.W.Frag} {mg : Str → Option Value} {base : Heap} (T : TX K mg) (F_law_conds : FN P w K mg base 3 "_law_conds" ["_law_purse_here", "_law_when", "_law_tags_here", "_law_most"] (spP K W_law_conds)) (F_law_deeds : FN P w K mg base 3 "_law_deeds" ["_law_purse_here", "_law_when", "_law_cap", "_law_tags_here"] (spP K W_law_deeds)) (F_law_one : FN P w K mg base 2 "_law_one" ["_law_purse_here", "_law_menu"] (spP K W_law_one))  : FN P w K mg base 4 "_law_acts" ["_law_purse_here", "_law_cap", "_law_tags_here", "_law_many", "_law_most"] (spP K W_law_acts) := by
  obtain ⟨fd, F⟩ := T.fn 53 d_law_acts rfl
  refine ⟨T.glo "_law_acts" (by decide +kernel), F.kp, fd, ok_p F sc_law_acts (fun xs c k h => by obtain ⟨room, ms, n, rfl, hc, h1, h4, hm, hn0, hn, hk⟩ := h; rfl) (fun cdv A outer s H E hr => ⟨_, (pss_cons (ps_set (i := 5) sc_law_acts.nd rfl (Or.inl rfl) (pe_lst pa_nil)) (pss_cons (ps_for PassesOwn.never rfl (pi_range1 (by rfl) (T.free "range" (by decide +kernel)) (pa_cons (pv 3) pa_nil)) (pg_name (i := 6) sc_law_acts.nd rfl (Or.inl rfl)) (pss_cons (ps_set (i := 7) sc_law_acts.nd rfl (Or.inl rfl) (pe_fn F_law_one hr (by decide) (pa_cons (pv 0) (pa_cons (pe_lst (pa_cons pe_str (pa_cons pe_str (pa_cons pe_str (pa_cons pe_str pa_nil))))) pa_nil)))) (pss_cons (ps_set (i := 8) sc_law_acts.nd rfl (Or.inl rfl) (pe_fn F_law_conds hr (by decide) (pa_cons (pv 0) (pa_cons (pv 7) (pa_cons (pv 2) (pa_cons (pv 4) pa_nil)))))) (pss_one (ps_expr (pe_bm PySem.F.plainAttrs_list PySem.F.slot_list_append PySem.F.type_list_append mt_append (pv 5) (pa_cons (pe_tup (pa_cons (pv 7) (pa_cons (pv 8) (pa_cons (pe_fn F_law_deeds hr (by decide) (pa_cons (pv 0) (pa_cons (pv 7) (pa_cons (pv 1) (pa_cons (pv 2) pa_nil))))) pa_nil)))) pa_nil))))))) (pss_one (ps_ret (pv 5))))), ?_⟩), F.bindsN (ps := ["_law_purse_here", "_law_cap", "_law_tags_here", "_law_many", "_law_most"]) fun _ _ _ _ _ _ us hl => match us, hl with | [_, _, _, _, _], _ => rfl⟩
  intro π B0 H0 xs c k hW
  obtain ⟨room, ms, n, rfl, hc, h1, h4, hm, hn0, hn, hk⟩ := hW
  try dsimp only [cxOf, Cx.nox]
  repeat walk_at "k"
  refine wr_forR ?_
  repeat walk_at "kk"
  refine ⟨_, rfl, by omega, by omega, fun i Γ' c' => ∃ (as : List Act) (e6 e7 e8 : En), Γ' = [.pur, .ab (.d (.int room)), .ab (.d (.list (ms.map .str))), .ab (.d (.int n)), .ab (.d (.int 2)), .own (as.map Act.data), e6, e7, e8] ∧ as.length ≤ i ∧ (∀ a : Act, a ∈ as → a.ok room ms) ∧ c' ≤ c + 21 * i, ⟨[], _, _, _, rfl, by decide, fun x hx => (by cases hx), by omega⟩, fun i Γ' c' hi hI => ?_, fun Γ' c' hI => ?_⟩
  · obtain ⟨as, e6, e7, e8, rfl, hl, hok, hcc⟩ := hI
    have fin : ∀ (a : Act) (c2 : Nat), a.ok room ms → c2 ≤ c + 21 * i + 21 → ∀ e6 e7 e8 : En, ∃ (as' : List Act) (f6 f7 f8 : En), [En.pur, .ab (.d (.int room)), .ab (.d (.list (ms.map .str))), .ab (.d (.int n)), .ab (.d (.int 2)), .own (as.map Act.data ++ [a.data]), e6, e7, e8] = [En.pur, .ab (.d (.int room)), .ab (.d (.list (ms.map .str))), .ab (.d (.int n)), .ab (.d (.int 2)), .own (as'.map Act.data), f6, f7, f8] ∧ as'.length ≤ i + 1 ∧ (∀ a : Act, a ∈ as' → a.ok room ms) ∧ c2 ≤ c + 21 * (i + 1) := fun a c2 h1 h2 e6 e7 e8 => by
      refine ⟨as ++ [a], e6, e7, e8, by rw [List.map_append]; rfl, by rw [List.length_append]; show as.length + 1 ≤ _; omega, fun x hx => ?_, by omega⟩
      rcases List.mem_append.mp hx with h | h
      · exact hok x h
      · rw [List.mem_singleton.mp h]
        exact h1
    repeat walk_at "k"
    intro d hd
    have hd : ∃ o : Oc, d = .str o.s := by
      simp only [List.mem_cons, List.not_mem_nil, or_false] at hd
      rcases hd with rfl | rfl | rfl | rfl
      · exact ⟨.put, rfl⟩
      · exact ⟨.put, rfl⟩
      · exact ⟨.loss, rfl⟩
      · exact ⟨.ask, rfl⟩
    obtain ⟨o, rfl⟩ := hd
    repeat walk_at "kk"
    refine ⟨o, ms, rfl, by omega, hm, fun cs c2 hcs hcso hc2 => ?_⟩
    repeat walk_at "kk"
    refine wr_app rfl (by rw [List.length_map]; omega) ?_
    repeat walk_at "kk"
    refine ⟨o, room, ms, rfl, by omega, h1, h4, hm, fun ds c3 hds hc3 => ?_⟩
    repeat walk_at "k"
    exact fin ⟨o, cs, ds⟩ _ ⟨hcs, hcso, hds⟩ (by omega) _ _ _
  · obtain ⟨as, e6, e7, e8, rfl, hl, hok, hcc⟩ := hI
    refine wr_freeze (i := 5) (by rfl) ?_
    repeat walk_at "k"
    exact hk as _ (by omega) hok (by omega)
theorem f_law_words {P : Program} {w : World} {K : PySem.W.Frag} {mg : Str → Option Value} {base : Heap} (T : TX K mg)   : FN P w K mg base 1 "_law_words" ["_law_pair"] (spF K W_law_words) := by
  obtain ⟨fd, F⟩ := T.fn 54 d_law_words rfl
  refine ⟨T.glo "_law_words" (by decide +kernel), F.kp, fd, ok_f F sc_law_words (fun xs k ⟨w, x, r, e, _⟩ => by rw [e]; rfl) (fun cdv A outer s H E hr => ⟨_, (pss_one (ps_ret (pe_ifExp (pt_cmpR op_in_seq (pe_ix (r := rIxT K) ix_tup (pv 0) pe_int (fun _ _ => rfl)) (pe_lst (pa_cons pe_str (pa_cons pe_str (pa_cons pe_str (pa_cons pe_str pa_nil))))) (by rfl)) (pe_op op_add_str (pe_op op_add_str (pe_ix (r := rIxT K) ix_tup (pv 0) pe_int (fun _ _ => rfl)) pe_str) (pe_callTy call_strA (by rfl) (T.free "str" (by decide +kernel)) (by decide +kernel) (pa_cons (pe_ix (r := rIxT K) ix_tup (pv 0) pe_int (fun _ _ => rfl)) pa_nil))) (pe_ix (r := rIxT K) ix_tup (pv 0) pe_int (fun _ _ => rfl))))), ?_⟩), F.bindsN (ps := ["_law_pair"]) fun _ _ _ _ _ _ us hl => match us, hl with | [_], _ => rfl⟩
  intro π B0 H0 xs k hW
  obtain ⟨w, x, r, rfl, hw⟩ := hW
  try dsimp only [cxOf, Cx.nox]
  repeat walk_at "k"
  rcases hw with ⟨hin, hl, ⟨n, rfl, hn, hk⟩ | ⟨s, rfl, hs, hk⟩⟩ | ⟨hin, hk⟩
  · refine rn_inLW ["few", "in", "read", "mode"] rfl (decide_eq_true hin) ?_
    repeat walk_at "k"
    refine rn_addS (by show w.length + 1 ≤ 100000; omega) ?_
    repeat walk_at "k"
    refine rc_strAI hn ?_
    refine rn_addS (by rw [PySem.Str.length_append]; show w.length + 1 + 1 ≤ 100000; omega) ?_
    exact hk
  · refine rn_inLW ["few", "in", "read", "mode"] rfl (decide_eq_true hin) ?_
    repeat walk_at "k"
    refine rn_addS (by show w.length + 1 ≤ 100000; omega) ?_
    repeat walk_at "k"
    refine rc_strAS ?_
    refine rn_addS (by rw [PySem.Str.length_append]; show w.length + 1 + s.length ≤ 100000; omega) ?_
    exact hk
  · refine rn_inLW ["few", "in", "read", "mode"] rfl (decide_eq_false hin) ?_
    repeat walk_at "k"
theorem f_law_line {P : Program} {w : World} {K : PySem.W.Frag} {mg : Str → Option Value} {base : Heap} (T : TX K mg) (F_law_words : FN P w K mg base 1 "_law_words" ["_law_pair"] (spF K W_law_words))  : FN P w K mg base 2 "_law_line" ["_law_act"] (spF K W_law_line) := by
  obtain ⟨fd, F⟩ := T.fn 55 d_law_line rfl
  refine ⟨T.glo "_law_line" (by decide +kernel), F.kp, fd, ok_f F sc_law_line (fun xs k h => by obtain ⟨a, room, ms, rfl, ha, h4, hm, hk⟩ := h; rfl) (fun cdv A outer s H E hr => ⟨_, (pss_cons (ps_setLc (i := 1) (own := [("_law_cond", 3)]) (g := gName 3) (tt := tYes) (by rfl) sc_law_line.nd rfl rfl (sw_true rfl rfl rfl (by decide +kernel)) (pi_list (pe_ix (r := rIxT K) ix_tup (pv 0) pe_int (fun _ _ => rfl))) (blkOk_by (own := [("_law_cond", 3)]) (N := ["_law_act", "_law_conds_here", "_law_head", "_law_cond", "_law_deed"]) (sc := defScope s_law_line) (by decide +kernel)) (fun _ _ _ _ _ => pg_name (i := 3) sc_law_line.nd rfl (Or.inl rfl)) (fun _ _ _ _ _ => pts_nil) (fun _ _ _ _ _ => (pe_op op_add_str (pe_ifExp (pt_val (pe_ix (r := rIxT K) ix_tup (pv 3) pe_int (fun _ _ => rfl))) pe_str pe_str) (pe_fn F_law_words hr (by decide) (pa_cons (pv 3) pa_nil))))) (pss_cons (ps_set (i := 2) sc_law_line.nd rfl (Or.inl rfl) (pe_ifExp (pt_cmpR (op_neD hr.units) (pv 1) (pe_lst pa_nil) (nomark _)) (pe_op op_add_str (pe_op op_add_str (pe_ix (r := rIxT K) ix_tup (pv 0) pe_int (fun _ _ => rfl)) pe_str) (pe_join pe_str (pv 1))) (pe_ix (r := rIxT K) ix_tup (pv 0) pe_int (fun _ _ => rfl)))) (pss_one (ps_ret (pe_op op_add_str (pe_op op_add_str (pv 2) pe_str) (pe_join pe_str (pe_lc (own := [("_law_deed", 4)]) (g := gName 4) (tt := tYes) (by rfl) sc_law_line.nd (pi_list (pe_ix (r := rIxT K) ix_tup (pv 0) pe_int (fun _ _ => rfl))) (blkOk_by (own := [("_law_deed", 4)]) (N := ["_law_act", "_law_conds_here", "_law_head", "_law_cond", "_law_deed"]) (sc := defScope s_law_line) (by decide +kernel)) (fun _ _ _ _ _ => pg_name (i := 4) sc_law_line.nd rfl (Or.inl rfl)) (fun _ _ _ _ _ => pts_nil) (fun _ _ _ _ _ => (pe_fn F_law_words hr (by decide) (pa_cons (pv 4) pa_nil)))))))))), ?_⟩), F.bindsN (ps := ["_law_act"]) fun _ _ _ _ _ _ us hl => match us, hl with | [_], _ => rfl⟩
  intro π B0 H0 xs k hW
  obtain ⟨a, room, ms, rfl, ha, h4, hm, hk⟩ := hW
  try dsimp only [cxOf, Cx.nox]
  have hfew := ha.few
  have hlc : ∀ c, c ∈ a.cs → c.text.length ≤ 15 := fun c hc => len_c (ha.cs c hc) hm
  have hlcs := len_conds ha.few ha.cs hm
  have hlh := len_head ha hm
  have hlt := len_tail ha.ds hm
  obtain ⟨hd1, hd2⟩ := len_ds ha.ds hm
  refine wr_seq (RunN.imp (fun Γ c' => c' = 0 ∧ Γ = [.ab (.d a.data), .ab (.d (.list ((a.cs.map Cnd.text).map .str))), .no, .no, .no]) ?_ fun Γ c' hN => ?_)
  · repeat walk_at "k"
    refine wp_mapLA a.cs (g := Cnd.data) (f := fun c => .str c.text) ?_
    repeat walk_at "kk"
    refine ⟨rfl, by omega, fun c hc => ?_, ?_⟩
    · obtain ⟨ck, pos⟩ := c
      have hck := ha.cs _ hc
      have hlk := len_k hck hm
      have fin : ∀ z : Ab, z = .d (.str ck.text) → RN K (fun x y H Q => ∃ i j, x = .str i ∧ y = .str j ∧ i.length + j.length ≤ sizeLine ∧ Q (.str (i ++ j)) H) (.d (.str (if pos then "" else "not "))) z (fun z => z = .d (.str (Cnd.text ⟨ck, pos⟩)) ∧ (0 : Nat) = 0) := fun z hz => by
        subst hz
        refine rn_addS ?_ ⟨by cases pos <;> rfl, rfl⟩
        have : (if pos then ("" : Str) else "not ").length ≤ 4 := by cases pos <;> decide
        have hlk : ck.text.length ≤ 11 := hlk
        omega
      cases pos with
      | true =>
        repeat walk_at "kk"
        refine ⟨_, rfl, ite_t rfl ?_⟩
        repeat walk_at "kk"
        cases ck with
        | full => exact ⟨"full", .int 0, [.bool true], rfl, .inr ⟨by decide +kernel, fin _ rfl⟩⟩
        | whole => exact ⟨"whole", .int 0, [.bool true], rfl, .inr ⟨by decide +kernel, fin _ rfl⟩⟩
        | above => exact ⟨"above", .int 0, [.bool true], rfl, .inr ⟨by decide +kernel, fin _ rfl⟩⟩
        | few n =>
          have hn : n ≤ 3 := hck
          exact ⟨"few", .int n, [.bool true], rfl, .inl ⟨by decide +kernel, by decide, .inl ⟨n, rfl, by omega, fin _ rfl⟩⟩⟩
        | inn m =>
          have := len_mode hm hck
          exact ⟨"in", .str m, [.bool true], rfl, .inl ⟨by decide +kernel, by decide, .inr ⟨m, rfl, by omega, fin _ rfl⟩⟩⟩
      | false =>
        repeat walk_at "kk"
        refine ⟨_, rfl, ite_f rfl ?_⟩
        repeat walk_at "kk"
        cases ck with
        | full => exact ⟨"full", .int 0, [.bool false], rfl, .inr ⟨by decide +kernel, fin _ rfl⟩⟩
        | whole => exact ⟨"whole", .int 0, [.bool false], rfl, .inr ⟨by decide +kernel, fin _ rfl⟩⟩
        | above => exact ⟨"above", .int 0, [.bool false], rfl, .inr ⟨by decide +kernel, fin _ rfl⟩⟩
        | few n =>
          have hn : n ≤ 3 := hck
          exact ⟨"few", .int n, [.bool false], rfl, .inl ⟨by decide +kernel, by decide, .inl ⟨n, rfl, by omega, fin _ rfl⟩⟩⟩
        | inn m =>
          have := len_mode hm hck
          exact ⟨"in", .str m, [.bool false], rfl, .inl ⟨by decide +kernel, by decide, .inr ⟨m, rfl, by omega, fin _ rfl⟩⟩⟩
    · refine ⟨rfl, ?_⟩
      rw [List.map_map]
      rfl
  obtain ⟨rfl, rfl⟩ := hN
  refine wr_seq (RunN.imp (fun Γ c' => c' = 0 ∧ Γ = [.ab (.d a.data), .ab (.d (.list ((a.cs.map Cnd.text).map .str))), .ab (.d (.str a.head)), .no, .no]) ?_ fun Γ c' hN => ?_)
  · repeat walk_at "k"
    have hsh : SeqAt.shaped (.list ((a.cs.map Cnd.text).map .str)) = true := (sh_list (n := 1) fun d hd => by
      obtain ⟨s, hs, rfl⟩ := List.mem_map.mp hd
      obtain ⟨c, hc, rfl⟩ := List.mem_map.mp hs
      exact sh_str (strOk_cnd (ha.cs c hc) hm)).shaped (by decide)
    refine rn_neDK (b := a.cs.isEmpty) hsh (by decide +kernel) (by rw [eqv_nilL]; cases a.cs <;> rfl) ?_
    repeat walk_at "k"
    by_cases hcs : a.cs = []
    · refine ite_f (by rw [hcs]; rfl) ?_
      repeat walk_at "k"
      rw [show a.head = a.o.s from if_pos hcs]
      rfl
    · have hne : a.cs.isEmpty = false := by
        cases e : a.cs with
        | nil => exact absurd e hcs
        | cons c r => rfl
      have hos : a.o.s.length ≤ 4 := by cases a.o <;> decide
      refine ite_t (by rw [hne]; rfl) ?_
      repeat walk_at "k"
      refine rn_addS (by show _ + 4 ≤ 100000; omega) ?_
      repeat walk_at "k"
      refine rm_joinL ?_ ?_
      · have h1 := sumLen_le' (a.cs.map Cnd.text) (B := 15) fun p hp => by
          obtain ⟨c, hc, rfl⟩ := List.mem_map.mp hp
          exact hlc c hc
        rw [List.length_map] at h1 ⊢
        show _ + a.cs.length * 5 ≤ 100000
        omega
      refine rn_addS (by rw [PySem.Str.length_append]; show _ + 4 + _ ≤ 100000; omega) ?_
      refine ⟨rfl, ?_⟩
      rw [show a.head = a.o.s ++ " if " ++ Txt.join " and " (a.cs.map Cnd.text) from if_neg hcs]
      rfl
  obtain ⟨rfl, rfl⟩ := hN
  repeat walk_at "k"
  refine rn_addS (by show _ + 2 ≤ 100000; omega) ?_
  repeat walk_at "k"
  refine wp_mapLA a.ds.its (g := Sum.elim Dd.data goalData) (f := fun x => .str (Sum.elim Dd.text goalText x)) ?_
  repeat walk_at "kk"
  refine ⟨by rw [its_datas], by rw [its_len]; omega, fun x hx => ?_, ?_⟩
  · repeat walk_at "kk"
    cases x with
    | inl d =>
      have hd := its_dd ha.ds hx
      cases d with
      | keep => exact ⟨"keep", .int 0, [], rfl, .inr ⟨by decide +kernel, rfl, rfl⟩⟩
      | skip => exact ⟨"skip", .int 0, [], rfl, .inr ⟨by decide +kernel, rfl, rfl⟩⟩
      | read n =>
        have hn : 1 ≤ n ∧ n ≤ room := hd
        exact ⟨"read", .int n, [], rfl, .inl ⟨by decide +kernel, by decide, .inl ⟨n, rfl, by omega, rfl, rfl⟩⟩⟩
    | inr m =>
      have hmo := its_m ha.ds hx
      have := len_mode hm hmo
      exact ⟨"mode", .str m, [], rfl, .inl ⟨by decide +kernel, by decide, .inr ⟨m, rfl, by omega, rfl, rfl⟩⟩⟩
  rw [show (a.ds.its.map fun x => PyData.str (Sum.elim Dd.text goalText x)) = a.ds.texts.map PyData.str by rw [← its_texts, List.map_map]; rfl]
  refine rm_joinL ?_ ?_
  · have h1 := sumLen_le' a.ds.texts hd2
    show _ + a.ds.texts.length * 2 ≤ 100000
    omega
  refine rn_addS (by rw [PySem.Str.length_append]; have hlt : (Txt.join ", " a.ds.texts).length ≤ 30 := hlt; show _ + 2 + _ ≤ 100000; omega) ?_
  exact hk
theorem f_law_parts {P : Program} {w : World} {K : PySem.W.Frag} {mg : Str → Option Value} {base : Heap} (T : TX K mg) (F_law_acts : FN P w K mg base 4 "_law_acts" ["_law_purse_here", "_law_cap", "_law_tags_here", "_law_many", "_law_most"] (spP K W_law_acts)) (F_law_draw : FN P w K mg base 1 "_law_draw" ["_law_purse_here", "_law_many"] (spP K W_law_draw)) (F_law_tags : FN P w K mg base 4 "_law_tags" ["_law_purse_here"] (spP K W_law_tags))  : FN P w K mg base 5 "_law_parts" ["_law_purse_here", "_law_most", "_law_deep"] (spP K W_law_parts) := by
  obtain ⟨fd, F⟩ := T.fn 56 d_law_parts rfl
  refine ⟨T.glo "_law_parts" (by decide +kernel), F.kp, fd, ok_p F sc_law_parts (fun xs c k h => by obtain ⟨rfl, hc, hk⟩ := h; rfl) (fun cdv A outer s H E hr => ⟨_, (pss_cons (ps_set (i := 3) sc_law_parts.nd rfl (Or.inl rfl) (pe_op op_add pe_int (pe_fn F_law_draw hr (by decide) (pa_cons (pv 0) (pa_cons pe_int pa_nil))))) (pss_cons (ps_par (i := 4) (j := 5) (by rfl) sc_law_parts.nd rfl rfl (by decide) rfl rfl (pa_cons (pe_op op_add pe_int (pe_fn F_law_draw hr (by decide) (pa_cons (pv 0) (pa_cons (pv 3) pa_nil)))) (pa_cons (pe_fn F_law_tags hr (by decide) (pa_cons (pv 0) pa_nil)) pa_nil)) (by rfl)) (pss_one (ps_ret (pe_lst (pa_cons (pv 3) (pa_cons (pv 4) (pa_cons (pv 5) (pa_cons (pe_fn F_law_acts hr (by decide) (pa_cons (pv 0) (pa_cons (pv 3) (pa_cons (pv 5) (pa_cons (pe_fn F_law_draw hr (by decide) (pa_cons (pv 0) (pa_cons (pe_op op_add (pv 1) pe_int) pa_nil))) (pa_cons (pv 2) pa_nil)))))) pa_nil))))))))), ?_⟩), F.bindsN (ps := ["_law_purse_here", "_law_most", "_law_deep"]) fun _ _ _ _ _ _ us hl => match us, hl with | [_, _, _], _ => rfl⟩
  intro π B0 H0 xs c k hW
  obtain ⟨rfl, hc, hk⟩ := hW
  try dsimp only [cxOf, Cx.nox]
  repeat walk_at "k"
  intro d hd0 hd1
  obtain ⟨room, hroom⟩ : ∃ room : Nat, (1 : Int) + d = (room : Int) := ⟨(1 + d).toNat, by omega⟩
  repeat walk_at "k"
  rw [hroom]
  repeat walk_at "k"
  intro e he0 he1
  obtain ⟨want, hwant⟩ : ∃ want : Nat, (1 : Int) + e = (want : Int) := ⟨(1 + e).toNat, by omega⟩
  repeat walk_at "k"
  intro ms c1 hms hc1
  repeat walk_at "k"
  intro n hn0 hn1
  repeat walk_at "kk"
  refine ⟨room, ms, n, rfl, by omega, by omega, by omega, hms, by omega, by omega, fun as c2 hal hao hc2 => ?_⟩
  repeat walk_at "k"
  rw [hwant]
  exact hk ⟨room, want, ms, as⟩ _ ⟨by show 1 ≤ want; omega, by show want ≤ room; omega, by show room ≤ 4; omega, hms, hal, hao⟩ (by omega)
theorem f_law_program {P : Program} {w : World} {K : PySem.W.Frag} {mg : Str → Option Value} {base : Heap} (T : TX K mg) (F_P_init : FM P w K mg base 6 (He.ma K (He.ga K "Program") "__init__") ["self", "room", "wants", "modes", "rows"] (spI K (He.ga K "Program") W_P_init)) (F_law_line : FN P w K mg base 2 "_law_line" ["_law_act"] (spF K W_law_line))  : FN P w K mg base 8 "_law_program" ["_law_parts_here"] (spF K W_law_program) := by
  obtain ⟨fd, F⟩ := T.fn 57 d_law_program rfl
  refine ⟨T.glo "_law_program" (by decide +kernel), F.kp, fd, ok_f F sc_law_program (fun xs k h => by obtain ⟨p, rfl, hp, hk⟩ := h; rfl) (fun cdv A outer s H E hr => ⟨_, (pss_one (ps_ret (pe_mk T.mkP F_P_init hr (T.glo "Program" (by decide +kernel)) (by decide) (pa_cons (pe_ix (r := rIxL K) ix_list (pv 0) pe_int (fun _ _ => rfl)) (pa_cons (pe_ix (r := rIxL K) ix_list (pv 0) pe_int (fun _ _ => rfl)) (pa_cons (pe_callTy call_tuple_of (by rfl) (T.free "tuple" (by decide +kernel)) (by decide +kernel) (pa_cons (pe_ix (r := rIxL K) ix_list (pv 0) pe_int (fun _ _ => rfl)) pa_nil)) (pa_cons (pe_callTy call_tuple_of (by rfl) (T.free "tuple" (by decide +kernel)) (by decide +kernel) (pa_cons (pe_lc (own := [("_law_act", 1)]) (g := gName 1) (tt := tYes) (by rfl) sc_law_program.nd (pi_list (pe_ix (r := rIxL K) ix_list (pv 0) pe_int (fun _ _ => rfl))) (blkOk_by (own := [("_law_act", 1)]) (N := ["_law_parts_here", "_law_act"]) (sc := defScope s_law_program) (by decide +kernel)) (fun _ _ _ _ _ => pg_name (i := 1) sc_law_program.nd rfl (Or.inl rfl)) (fun _ _ _ _ _ => pts_nil) (fun _ _ _ _ _ => (pe_fn F_law_line hr (by decide) (pa_cons (pv 1) pa_nil)))) pa_nil)) pa_nil))))))), ?_⟩), F.bindsN (ps := ["_law_parts_here"]) fun _ _ _ _ _ _ us hl => match us, hl with | [_], _ => rfl⟩
  intro π B0 H0 xs k hW
  obtain ⟨p, rfl, hp, hk⟩ := hW
  try dsimp only [cxOf, Cx.nox]
  repeat walk_at "k"
  refine wp_mapLA p.acts (g := Act.data) (f := fun a => .str a.text) ?_
  repeat walk_at "kk"
  have hf := hp.few
  refine ⟨rfl, by omega, fun a ha => ?_, ?_⟩
  · repeat walk_at "kk"
    exact ⟨a, p.room, p.ms, rfl, hp.acts a ha, hp.r4, hp.ms, rfl, rfl⟩
  rw [show (p.acts.map fun a => PyData.str a.text) = (p.acts.map Act.text).map PyData.str by rw [List.map_map]; rfl]
  repeat walk_at "kk"
  exact ⟨.prog p.g, ⟨p, hp, rfl, rfl⟩, hk⟩
theorem f_law_place {P : Program} {w : World} {K : PySem.W.Frag} {mg : Str → Option Value} {base : Heap} (T : TX K mg) (F_law_draw : FN P w K mg base 1 "_law_draw" ["_law_purse_here", "_law_many"] (spP K W_law_draw))  : FN P w K mg base 2 "_law_place" ["_law_purse_here", "_law_many"] (spP K W_law_place) := by
  obtain ⟨fd, F⟩ := T.fn 58 d_law_place rfl
  refine ⟨T.glo "_law_place" (by decide +kernel), F.kp, fd, ok_p F sc_law_place (fun xs c k h => by obtain ⟨n, rfl, h0, h1, hc, hk⟩ := h; rfl) (fun cdv A outer s H E hr => ⟨_, (pss_one (ps_ret (pe_fn F_law_draw hr (by decide) (pa_cons (pv 0) (pa_cons (pe_callB (call_min2 rfl) (by rfl) (T.free "min" (by decide +kernel)) (by decide +kernel) (pa_cons (pv 1) (pa_cons (pe_ix (r := rIxL K) ix_list (pe_lst (pa_cons (pv 1) (pa_cons pe_int pa_nil))) (pe_fn F_law_draw hr (by decide) (pa_cons (pv 0) (pa_cons pe_int pa_nil))) (fun _ _ => rfl)) pa_nil))) pa_nil))))), ?_⟩), F.bindsN (ps := ["_law_purse_here", "_law_many"]) fun _ _ _ _ _ _ us hl => match us, hl with | [_, _], _ => rfl⟩
  intro π B0 H0 xs c k hW
  obtain ⟨n, rfl, h0, h1, hc, hk⟩ := hW
  try dsimp only [cxOf, Cx.nox]
  repeat walk_at "k"
  intro d hd0 hd1
  have hd : d = 0 ∨ d = 1 := by omega
  have hend : ∀ m : Int, 0 < m → m ≤ n → m ≤ 1000000000 ∧ ∀ d : Int, 0 ≤ d → d < m → k (.d (.int d)) (c + 1 + 1) := fun m hm0 hm1 => ⟨by omega, fun d h h' => hk d h (by omega)⟩
  rcases hd with rfl | rfl
  · repeat walk_at "kk"
    rw [if_neg (Int.lt_irrefl n)]
    exact ⟨n, rfl, h0, (hend n h0 (Int.le_refl n)).1, by omega, (hend n h0 (Int.le_refl n)).2⟩
  · repeat walk_at "kk"
    by_cases h4 : (4 : Int) < n
    · rw [if_pos h4]
      exact ⟨4, rfl, by omega, by omega, by omega, (hend 4 (by omega) (by omega)).2⟩
    · rw [if_neg h4]
      exact ⟨n, rfl, h0, by omega, by omega, (hend n h0 (Int.le_refl n)).2⟩
theorem f_law_step {P : Program} {w : World} {K : PySem.W.Frag} {mg : Str → Option Value} {base : Heap} (T : TX K mg) (F_law_draw : FN P w K mg base 1 "_law_draw" ["_law_purse_here", "_law_many"] (spP K W_law_draw)) (F_law_place : FN P w K mg base 2 "_law_place" ["_law_purse_here", "_law_many"] (spP K W_law_place))  : FN P w K mg base 3 "_law_step" ["_law_purse_here", "_law_many"] (spP K W_law_step) := by
  obtain ⟨fd, F⟩ := T.fn 59 d_law_step rfl
  refine ⟨T.glo "_law_step" (by decide +kernel), F.kp, fd, ok_p F sc_law_step (fun xs c k h => by obtain ⟨n, rfl, h0, h5, hc, hk⟩ := h; rfl) (fun cdv A outer s H E hr => ⟨_, (pss_cons (ps_set (i := 2) sc_law_step.nd rfl (Or.inl rfl) (pe_fn F_law_draw hr (by decide) (pa_cons (pv 0) (pa_cons pe_int pa_nil)))) (pss_cons (ps_if (PW.pt (pw_or (pt_cmpR op_lt (pv 2) pe_int (nomark _)) (pw_or1 (PW.pt (pw_and (pt_cmpR op_eq (pv 1) pe_int (nomark _)) (pw_and1 (pt_cmpR op_lt (pv 2) pe_int (nomark _)))))))) (pss_one (ps_ret (pe_tup (pa_cons (pe_tup (pa_cons pe_str (pa_cons (pe_fn F_law_place hr (by decide) (pa_cons (pv 0) (pa_cons (pe_op op_add (pv 1) pe_int) pa_nil))) pa_nil))) (pa_cons (pe_op op_add (pv 1) pe_int) pa_nil))))) pss_nil) (pss_cons (ps_if (pt_cmpR op_eq (pv 2) pe_int (nomark _)) (pss_one (ps_ret (pe_tup (pa_cons (pe_tup (pa_cons pe_str pa_nil)) (pa_cons (pv 1) pa_nil))))) pss_nil) (pss_cons (ps_if (pt_cmpR op_lt (pv 2) pe_int (nomark _)) (pss_one (ps_ret (pe_tup (pa_cons (pe_tup (pa_cons pe_str (pa_cons (pe_fn F_law_place hr (by decide) (pa_cons (pv 0) (pa_cons (pv 1) pa_nil))) pa_nil))) (pa_cons (pe_op op_sub (pv 1) pe_int) pa_nil))))) pss_nil) (pss_one (ps_ret (pe_tup (pa_cons (pe_tup (pa_cons pe_str (pa_cons (pe_fn F_law_place hr (by decide) (pa_cons (pv 0) (pa_cons (pv 1) pa_nil))) (pa_cons (pe_fn F_law_place hr (by decide) (pa_cons (pv 0) (pa_cons (pv 1) pa_nil))) pa_nil)))) (pa_cons (pv 1) pa_nil))))))))), ?_⟩), F.bindsN (ps := ["_law_purse_here", "_law_many"]) fun _ _ _ _ _ _ us hl => match us, hl with | [_, _], _ => rfl⟩
  intro π B0 H0 xs c k hW
  obtain ⟨n, rfl, h0, h5, hc, hk⟩ := hW
  try dsimp only [cxOf, Cx.nox]
  repeat walk_at "k"
  intro w hw0 hw1
  by_cases h3 : w < 3 ∨ (n = 0 ∧ w < 7)
  · have fin : ∀ r : Int, 0 ≤ r → r < n + 1 → k (.d (.tuple [.tuple [.str "put", .int r], .int (n + 1)])) (c + 1 + 2) := fun r h h' => hk (.put r) _ ⟨h, h'⟩ (by omega)
    rcases h3 with h3 | ⟨h3, h7⟩
    · repeat walk_at "k"
      intro r hr0 hr1
      repeat walk_at "k"
      exact fin r hr0 hr1
    · by_cases h3b : w < 3
      · repeat walk_at "k"
        intro r hr0 hr1
        repeat walk_at "k"
        exact fin r hr0 hr1
      · repeat walk_at "k"
        intro r hr0 hr1
        repeat walk_at "k"
        exact fin r hr0 hr1
  · have h3b : ¬ w < 3 := fun h => h3 (.inl h)
    have hn7 : n ≠ 0 ∨ w = 7 := by omega
    by_cases h7 : w = 7
    · by_cases hn0 : n = 0
      · repeat walk_at "k"
        exact hk .ask _ trivial (by omega)
      · repeat walk_at "k"
        exact hk .ask _ trivial (by omega)
    · have hn0 : n ≠ 0 := by omega
      by_cases h6 : w < 6
      · repeat walk_at "k"
        intro r hr0 hr1
        repeat walk_at "k"
        exact hk (.take r) _ ⟨hr0, hr1⟩ (by omega)
      · repeat walk_at "k"
        intro r hr0 hr1
        repeat walk_at "k"
        intro r2 hr2 hr3
        repeat walk_at "k"
        exact hk (.move r r2) _ ⟨hr0, hr1, hr2, hr3⟩ (by omega)
theorem f_law_steps {P : Program} {w : World} {K : PySem.W.Frag} {mg : Str → Option Value} {base : Heap} (T : TX K mg) (F_law_draw : FN P w K mg base 1 "_law_draw" ["_law_purse_here", "_law_many"] (spP K W_law_draw)) (F_law_step : FN P w K mg base 3 "_law_step" ["_law_purse_here", "_law_many"] (spP K W_law_step))  : FN P w K mg base 4 "_law_steps" ["_law_purse_here", "_law_many", "_law_turns"] (spP K W_law_steps) := by
  obtain ⟨fd, F⟩ := T.fn 60 d_law_steps rfl
  refine ⟨T.glo "_law_steps" (by decide +kernel), F.kp, fd, ok_p F sc_law_steps (fun xs c k h => by obtain ⟨n, rfl, h0, h1, hc, hk⟩ := h; rfl) (fun cdv A outer s H E hr => ⟨_, (pss_cons (ps_set (i := 3) sc_law_steps.nd rfl (Or.inl rfl) (pe_lst pa_nil)) (pss_cons (ps_for PassesOwn.never rfl (pi_range1 (by rfl) (T.free "range" (by decide +kernel)) (pa_cons (pe_fn F_law_draw hr (by decide) (pa_cons (pv 0) (pa_cons (pe_op op_add (pv 2) pe_int) pa_nil))) pa_nil)) (pg_name (i := 4) sc_law_steps.nd rfl (Or.inl rfl)) (pss_cons (ps_asg (pe_fn F_law_step hr (by decide) (pa_cons (pv 0) (pa_cons (pv 1) pa_nil))) (pg_tup (by rfl) (pgs_cons (pg_name (i := 5) sc_law_steps.nd rfl (Or.inl rfl)) (pgs_cons (pg_name (i := 1) sc_law_steps.nd rfl (Or.inl rfl)) pgs_nil)))) (pss_one (ps_expr (pe_bm PySem.F.plainAttrs_list PySem.F.slot_list_append PySem.F.type_list_append mt_append (pv 3) (pa_cons (pv 5) pa_nil)))))) (pss_one (ps_ret (pv 3))))), ?_⟩), F.bindsN (ps := ["_law_purse_here", "_law_many", "_law_turns"]) fun _ _ _ _ _ _ us hl => match us, hl with | [_, _, _], _ => rfl⟩
  intro π B0 H0 xs c k hW
  obtain ⟨n, rfl, h0, h1, hc, hk⟩ := hW
  try dsimp only [cxOf, Cx.nox]
  repeat walk_at "k"
  refine wr_forR ?_
  repeat walk_at "k"
  intro d hd0 hd1
  repeat walk_at "kk"
  refine ⟨_, rfl, by omega, by omega, fun i Γ' c' => ∃ (es : List Ev) (m : Int) (e4 e5 : En), Γ' = [.pur, .ab (.d (.int m)), .ab (.d (.int 14)), .own (es.map Ev.data), e4, e5] ∧ es.length = i ∧ EvsOk n es ∧ m = es.foldl Ev.next' n ∧ 0 ≤ m ∧ m ≤ n + i ∧ c' ≤ c + 1 + 10 * i, ⟨[], n, _, _, rfl, rfl, trivial, rfl, h0, by omega, by omega⟩, fun i Γ' c' hi hI => ?_, fun Γ' c' hI => ?_⟩
  · obtain ⟨es, m, e4, e5, rfl, hl, hev, hme, hm0, hmn, hcc⟩ := hI
    repeat walk_at "kk"
    refine ⟨m, rfl, hm0, by omega, by omega, fun e c2 he hc2 => ?_⟩
    repeat walk_at "k"
    refine wr_app rfl (by rw [List.length_map]; omega) ?_
    repeat walk_at "kk"
    have hnx : 0 ≤ e.next m ∧ e.next m ≤ m + 1 := by
      cases e with
      | put r => exact ⟨by show 0 ≤ m + 1; omega, by show m + 1 ≤ m + 1; omega⟩
      | take r =>
        have h : 0 ≤ r ∧ r < m := he
        exact ⟨by show 0 ≤ m - 1; omega, by show m - 1 ≤ m + 1; omega⟩
      | move a b => exact ⟨hm0, by show m ≤ m + 1; omega⟩
      | ask => exact ⟨hm0, by show m ≤ m + 1; omega⟩
    refine ⟨_, rfl, es ++ [e], e.next m, .ab (.d (.int i)), .ab (.d e.data), ?_, by rw [List.length_append, hl]; rfl, evs_snoc.mpr ⟨hev, by rw [← hme]; exact he⟩, ?_, hnx.1, by omega, by omega⟩
    · rw [List.map_append]
      rfl
    · rw [List.foldl_append, ← hme]
      rfl
  · obtain ⟨es, m, e4, e5, rfl, hl, hev, hme, hm0, hmn, hcc⟩ := hI
    refine wr_freeze (i := 3) (by rfl) ?_
    repeat walk_at "k"
    exact hk es _ hev (by omega) (by omega)
theorem f_law_prices {P : Program} {w : World} {K : PySem.W.Frag} {mg : Str → Option Value} {base : Heap} (T : TX K mg) (F_law_draw : FN P w K mg base 1 "_law_draw" ["_law_purse_here", "_law_many"] (spP K W_law_draw))  : FN P w K mg base 2 "_law_prices" ["_law_purse_here"] (spP K W_law_prices) := by
  obtain ⟨fd, F⟩ := T.fn 61 d_law_prices rfl
  refine ⟨T.glo "_law_prices" (by decide +kernel), F.kp, fd, ok_p F sc_law_prices (fun xs c k h => by obtain ⟨rfl, hc, hk⟩ := h; rfl) (fun cdv A outer s H E hr => ⟨_, (pss_cons (ps_setLc (i := 1) (own := [("_law_k", 4)]) (g := gName 4) (tt := tYes) (by rfl) sc_law_prices.nd rfl rfl (sw_true rfl rfl rfl (by decide +kernel)) (pi_range1 (by rfl) (T.free "range" (by decide +kernel)) (pa_cons pe_int pa_nil)) (blkOk_by (own := [("_law_k", 4)]) (N := ["_law_purse_here", "_law_some", "_law_at", "_law_way", "_law_k"]) (sc := defScope s_law_prices) (by decide +kernel)) (fun _ _ _ _ _ => pg_name (i := 4) sc_law_prices.nd rfl (Or.inl rfl)) (fun _ _ _ _ _ => pts_nil) (fun _ _ _ _ _ => (pe_ix (r := rIxL K) ix_list (pe_lst (pa_cons pe_int (pa_cons pe_int (pa_cons pe_int (pa_cons pe_int pa_nil))))) (pe_fn F_law_draw hr (by decide) (pa_cons (pv 0) (pa_cons pe_int pa_nil))) (fun _ _ => rfl)))) (pss_cons (ps_par (i := 2) (j := 3) (by rfl) sc_law_prices.nd rfl rfl (by decide) rfl rfl (pa_cons (pe_fn F_law_draw hr (by decide) (pa_cons (pv 0) (pa_cons pe_int pa_nil))) (pa_cons (pe_fn F_law_draw hr (by decide) (pa_cons (pv 0) (pa_cons pe_int pa_nil))) pa_nil)) (by rfl)) (pss_cons (ps_if (pt_cmpR op_gt (pv 3) pe_int (nomark _)) (pss_one (ps_asg (pe_ix (r := rIxL K) ix_list (pe_lst (pa_cons (pe_op op_sub (pe_op op_pow pe_int pe_int) pe_int) (pa_cons (pe_fn F_law_draw hr (by decide) (pa_cons (pv 0) (pa_cons pe_int pa_nil))) (pa_cons (pe_fn F_law_draw hr (by decide) (pa_cons (pv 0) (pa_cons (pe_op op_pow pe_int pe_int) pa_nil))) pa_nil)))) (pe_op op_sub (pv 3) pe_int) (fun _ _ => rfl)) (pg_sub (pv 1) (pv 2) set_list))) pss_nil) (pss_one (ps_ret (pe_callTy call_tuple_of (by rfl) (T.free "tuple" (by decide +kernel)) (by decide +kernel) (pa_cons (pv 1) pa_nil))))))), ?_⟩), F.bindsN (ps := ["_law_purse_here"]) fun _ _ _ _ _ _ us hl => match us, hl with | [_], _ => rfl⟩
  intro π B0 H0 xs c k hW
  obtain ⟨rfl, hc, hk⟩ := hW
  try dsimp only [cxOf, Cx.nox]
  refine wr_seq (wr_lcRO ?_)
  repeat walk_at "kk"
  refine ⟨_, rfl, by decide, by decide, fun i acc c' => ∃ ns : List Int, acc = ns.map .int ∧ ns.length = i ∧ (∀ x, x ∈ ns → 0 ≤ x ∧ x ≤ 100000000000000000000) ∧ c' ≤ c + i, ⟨[], rfl, rfl, fun x hx => (by cases hx), by omega⟩, fun i acc c' hi hI => ?_, fun acc c' hI => ?_⟩
  · obtain ⟨ns, rfl, hl, hpos, hcc⟩ := hI
    refine wt_yes ⟨fun _ => ?_, fun z => nomatch z⟩
    repeat walk_at "k"
    intro d hd0 hd1
    have fin : ∀ v : Int, 0 ≤ v ∧ v ≤ 100000000000000000000 → ∃ dy, Ab.d (.int v) = .d dy ∧ (ns.map PyData.int).length < 100000 ∧ ∃ ns' : List Int, ns.map PyData.int ++ [dy] = ns'.map .int ∧ ns'.length = i + 1 ∧ (∀ x, x ∈ ns' → 0 ≤ x ∧ x ≤ 100000000000000000000) ∧ c' + 1 ≤ c + ((i + 1 : Nat) : Nat) := fun v hv => by
      refine ⟨_, rfl, by rw [List.length_map]; omega, ns ++ [v], by rw [List.map_append]; rfl, by rw [List.length_append, hl]; rfl, fun x hx => ?_, by omega⟩
      rcases List.mem_append.mp hx with h | h
      · exact hpos x h
      · rw [List.mem_singleton.mp h]
        exact hv
    have hd4 : d = 0 ∨ d = 1 ∨ d = 2 ∨ d = 3 := by omega
    rcases hd4 with rfl | rfl | rfl | rfl
    · exact rn_ixL (by rfl) (fin 0 (by decide))
    · exact rn_ixL (by rfl) (fin 1 (by decide))
    · exact rn_ixL (by rfl) (fin 2 (by decide))
    · exact rn_ixL (by rfl) (fin 7 (by decide))
  obtain ⟨ns, rfl, hl, hpos, hcc⟩ := hI
  have hl : ns.length = 6 := hl
  have hcc : c' ≤ c + 6 := hcc
  repeat walk_at "k"
  intro a ha0 ha1
  repeat walk_at "k"
  intro w hw0 hw1
  refine wa_nil ⟨_, _, rfl, wr_seq (RunN.imp (fun Γ c2 => ∃ ms : List Int, Γ = [.pur, .own (ms.map .int), .ab (.d (.int a)), .ab (.d (.int w)), .no] ∧ ms.length = 6 ∧ (∀ x, x ∈ ms → 0 ≤ x ∧ x ≤ 100000000000000000000) ∧ c2 ≤ c + 10) ?_ fun Γ c2 hN => ?_)⟩
  · by_cases hw : w > 0
    · repeat walk_at "k"
      refine wr_setO (by rfl) ?_
      repeat walk_at "k"
      refine rn_ci ⟨by decide, by decide, by decide⟩ ?_
      repeat walk_at "k"
      intro d1 hd1 hd2
      repeat walk_at "k"
      refine rn_ci ⟨by decide, by decide, by decide⟩ ?_
      repeat walk_at "k"
      intro d2 hd3 hd4
      repeat walk_at "k"
      obtain ⟨j, rfl⟩ := Int.eq_ofNat_of_zero_le ha0
      have fin : ∀ v : Int, 0 ≤ v ∧ v ≤ 100000000000000000000 → ∃ (n : Int) (j' : Nat), Ab.d (.int (j : Int)) = .d (.int n) ∧ ixN (ns.map PyData.int).length n = some j' ∧ ∃ ms : List Int, [En.pur, .own ((ns.map PyData.int).set j' (.int v)), .ab (.d (.int (j : Int))), .ab (.d (.int w)), .no] = [En.pur, .own (ms.map .int), .ab (.d (.int (j : Int))), .ab (.d (.int w)), .no] ∧ ms.length = 6 ∧ (∀ x, x ∈ ms → 0 ≤ x ∧ x ≤ 100000000000000000000) ∧ c' + 1 + 1 + 1 + 1 ≤ c + 10 := fun v hv => by
        refine ⟨_, j, rfl, ?_, ns.set j v, ?_, ?_, fun x hx => ?_, by omega⟩
        · rw [List.length_map]
          exact ixN_nat (by omega)
        · rw [List.map_set]
        · rw [List.length_set]
          exact hl
        · rcases List.mem_or_eq_of_mem_set hx with h | h
          · exact hpos x h
          · rw [h]
            exact hv
      have hw3 : w = 1 ∨ w = 2 ∨ w = 3 := by omega
      rcases hw3 with rfl | rfl | rfl
      · refine rn_ixL (by rfl) ⟨_, rfl, ?_⟩
        repeat walk_at "kk"
        exact fin _ (by decide)
      · refine rn_ixL (by rfl) ⟨_, rfl, ?_⟩
        repeat walk_at "kk"
        exact fin _ ⟨hd1, by omega⟩
      · refine rn_ixL (by rfl) ⟨_, rfl, ?_⟩
        repeat walk_at "kk"
        exact fin _ ⟨hd3, Int.le_trans (Int.le_of_lt hd4) (by decide)⟩
    · repeat walk_at "k"
      omega
  obtain ⟨ms, rfl, hl2, hpos2, hc2⟩ := hN
  repeat walk_at "k"
  exact hk ms _ ⟨hl2, fun x hx => (hpos2 x hx).1⟩ (fun x hx => (hpos2 x hx).2) (by omega)
theorem f_law_paid {P : Program} {w : World} {K : PySem.W.Frag} {mg : Str → Option Value} {base : Heap} (T : TX K mg)   : FN P w K mg base 1 "_law_paid" ["_law_steps_here", "_law_counts", "_law_costs"] (spF K W_law_paid) := by
  obtain ⟨fd, F⟩ := T.fn 62 d_law_paid rfl
  refine ⟨T.glo "_law_paid" (by decide +kernel), F.kp, fd, ok_f F sc_law_paid (fun xs k h => by obtain ⟨es, cs, ps, rfl, hps, hl, hcl, hcs, hk⟩ := h; rfl) (fun cdv A outer s H E hr => ⟨_, (pss_cons (ps_set (i := 3) sc_law_paid.nd rfl (Or.inr rfl) (pe_lst (pa_cons pe_str (pa_cons pe_str (pa_cons pe_str (pa_cons pe_str pa_nil)))))) (pss_cons (ps_set (i := 4) sc_law_paid.nd rfl (Or.inl rfl) (pe_callB (cr_sum rfl) (by rfl) (T.free "sum" (by decide +kernel)) (by decide +kernel) (pa_cons (pe_lc (own := [("_law_step_here", 5)]) (g := gName 5) (tt := tYes) (by rfl) sc_law_paid.nd (pi_list (pv 0)) (blkOk_by (own := [("_law_step_here", 5)]) (N := ["_law_steps_here", "_law_counts", "_law_costs", "_law_words_here", "_law_events_here", "_law_step_here", "_law_count"]) (sc := defScope s_law_paid) (by decide +kernel)) (fun _ _ _ _ _ => pg_name (i := 5) sc_law_paid.nd rfl (Or.inl rfl)) (fun _ _ _ _ _ => pts_nil) (fun _ _ _ _ _ => (pe_ix (r := rIxT K) ix_tup (pv 2) (pe_bmK (K := K) rfl PySem.F.plainAttrs_list PySem.F.slot_list_index PySem.F.type_list_index (r := rIndex K) mt_index (pv 3) (pa_cons (pe_ix (r := rIxT K) ix_tup (pv 5) pe_int (fun _ _ => rfl)) pa_nil)) (fun _ _ => rfl)))) pa_nil))) (pss_one (ps_ret (pe_tup (pa_cons (pv 4) (pa_cons (pe_callB (cr_sum rfl) (by rfl) (T.free "sum" (by decide +kernel)) (by decide +kernel) (pa_cons (pe_lc (own := [("_law_count", 6)]) (g := gName 6) (tt := tYes) (by rfl) sc_law_paid.nd (pi_list (pv 1)) (blkOk_by (own := [("_law_count", 6)]) (N := ["_law_steps_here", "_law_counts", "_law_costs", "_law_words_here", "_law_events_here", "_law_step_here", "_law_count"]) (sc := defScope s_law_paid) (by decide +kernel)) (fun _ _ _ _ _ => pg_name (i := 6) sc_law_paid.nd rfl (Or.inl rfl)) (fun _ _ _ _ _ => pts_nil) (fun _ _ _ _ _ => (pe_op op_add (pe_ix (r := rIxT K) ix_tup (pv 2) pe_int (fun _ _ => rfl)) (pe_op op_mul (pe_ix (r := rIxT K) ix_tup (pv 2) pe_int (fun _ _ => rfl)) (pv 6))))) pa_nil)) pa_nil))))))), ?_⟩), F.bindsN (ps := ["_law_steps_here", "_law_counts", "_law_costs"]) fun _ _ _ _ _ _ us hl => match us, hl with | [_, _, _], _ => rfl⟩
  intro π B0 H0 xs k hW
  obtain ⟨es, cs, ps, rfl, hps, hl, hcl, hcs, hk⟩ := hW
  try dsimp only [cxOf, Cx.nox]
  have hat : ∀ i, i < 6 → atI (ps.map PyData.int) ((i : Nat) : Int) = some (.int (getI ps i)) := fun i hi => by
    have h6 := hps.six
    have h7 : i < ps.length := by omega
    refine atI_nat ?_
    rw [List.getElem?_map, List.getElem?_eq_getElem h7]
    unfold getI
    rw [List.getD_eq_getElem?_getD, List.getElem?_eq_getElem h7]
    rfl
  repeat walk_at "k"
  refine wp_mapLA es (g := Ev.data) (f := fun e => .int (getI ps e.ix)) ?_
  repeat walk_at "kk"
  refine ⟨rfl, by omega, fun e _ => ?_, ?_⟩
  · obtain ⟨r, er⟩ := ev_data e
    rw [er]
    repeat walk_at "k"
    refine rm_index (ys := evW) (j := e.ix) (by cases e <;> rfl) (ev_first e) ?_
    refine rn_ixT (hat e.ix (by cases e <;> exact sm6 rfl)) ?_
    all_goals (first | exact ⟨rfl, rfl⟩ | rfl)
  rw [show (es.map fun e => PyData.int (getI ps e.ix)) = (es.map fun e => getI ps e.ix).map PyData.int by rw [List.map_map]; rfl]
  repeat walk_at "k"
  refine wp_mapLI (f := fun n => .int (getI ps 4 + getI ps 5 * n)) ?_
  repeat walk_at "k"
  refine ⟨fun n hn => ?_, ?_⟩
  · have h1 := hcs n hn
    repeat walk_at "k"
    refine rn_ixT (hat 4 (by decide)) ?_
    repeat walk_at "k"
    refine rn_ixT (hat 5 (by decide)) ?_
    repeat walk_at "k"
    refine rn_ci (.inr ⟨by omega, by omega⟩) ?_
    repeat walk_at "k"
    all_goals (first | exact ⟨rfl, rfl⟩ | rfl)
  · rw [show (cs.map fun n => PyData.int (getI ps 4 + getI ps 5 * n)) = (cs.map fun n => getI ps 4 + getI ps 5 * n).map PyData.int by rw [List.map_map]; rfl]
    repeat walk_at "k"
theorem f_law_right {P : Program} {w : World} {K : PySem.W.Frag} {mg : Str → Option Value} {base : Heap} (T : TX K mg) (FK_play : FNK P w K mg base 7 "play" ["program", "history"] ["history", "program"] (spF K W_play)) (FK_price_of : FNK P w K mg base 7 "price_of" ["program", "history", "prices"] ["prices", "history", "program"] (spF K W_price_of)) (F_G_after : FM P w K mg base 6 (He.ma K (He.ga K "Group") "after") ["self", "event"] (spF K W_G_after)) (F_G_eq : FM P w K mg base 5 (He.ma K (He.ga K "Group") "__eq__") ["self", "other"] (spF K W_G_eq)) (F_G_kept : FM P w K mg base 1 (padr "Group" "kept" K) ["self"] (spF K W_G_kept)) (F_G_mode : FM P w K mg base 1 (padr "Group" "mode" K) ["self"] (spF K W_G_mode)) (F_G_reads : FM P w K mg base 6 (He.ma K (He.ga K "Group") "reads") ["self", "event"] (spF K W_G_reads)) (F_G_size : FM P w K mg base 1 (padr "Group" "size" K) ["self"] (spF K W_G_size)) (F_begin : FN P w K mg base 4 "begin" ["program", "size"] (spF K W_begin)) (F_law_draw : FN P w K mg base 1 "_law_draw" ["_law_purse_here", "_law_many"] (spP K W_law_draw)) (F_law_paid : FN P w K mg base 1 "_law_paid" ["_law_steps_here", "_law_counts", "_law_costs"] (spF K W_law_paid)) (F_law_parts : FN P w K mg base 5 "_law_parts" ["_law_purse_here", "_law_most", "_law_deep"] (spP K W_law_parts)) (F_law_prices : FN P w K mg base 2 "_law_prices" ["_law_purse_here"] (spP K W_law_prices)) (F_law_program : FN P w K mg base 8 "_law_program" ["_law_parts_here"] (spF K W_law_program)) (F_law_steps : FN P w K mg base 4 "_law_steps" ["_law_purse_here", "_law_many", "_law_turns"] (spP K W_law_steps)) (F_play : FN P w K mg base 7 "play" ["program", "history"] (spF K W_play)) (F_price_of : FN P w K mg base 7 "price_of" ["program", "history", "prices"] (spF K W_price_of)) : FNG P w K mg base 9 "_law_right" ["_law_purse_here"] (spP K W_law_right) := by
  obtain ⟨fd, F⟩ := T.fn 63 d_law_right rfl
  refine ⟨T.glo "_law_right" (by decide +kernel), F.kp, fd, ok_pG F sc_law_right (fun xs c k h => by obtain ⟨rfl, _⟩ := h; rfl) (fun cdv A outer s H E hgu hr => ⟨_, (pss_cons (ps_par (i := 1) (j := 2) (by rfl) sc_law_right.nd rfl rfl (by decide) rfl rfl (pa_cons (pe_fn F_law_parts hr (by decide) (pa_cons (pv 0) (pa_cons pe_int (pa_cons pe_int pa_nil)))) (pa_cons (pe_fn F_law_draw hr (by decide) (pa_cons (pv 0) (pa_cons pe_int pa_nil))) pa_nil)) (by rfl)) (pss_cons (ps_par3 (i := 3) (j := 4) (l := 5) (by rfl) sc_law_right.nd rfl rfl rfl (by decide) (by decide) (by decide) rfl rfl rfl (pa_cons (pe_fn F_law_program hr (by decide) (pa_cons (pv 1) pa_nil)) (pa_cons (pe_fn F_law_steps hr (by decide) (pa_cons (pv 0) (pa_cons (pv 2) (pa_cons pe_int pa_nil)))) (pa_cons (pe_lst pa_nil) pa_nil))) (by rfl)) (pss_cons (ps_asg (pe_tup (pa_cons (pe_fn F_begin hr (by decide) (pa_cons (pv 3) (pa_cons (pv 2) pa_nil))) (pa_cons (pe_fn F_law_prices hr (by decide) (pa_cons (pv 0) pa_nil)) (pa_cons (pe_fn F_law_prices hr (by decide) (pa_cons (pv 0) pa_nil)) pa_nil)))) (pg_tup (by rfl) (pgs_cons (pg_name (i := 6) sc_law_right.nd rfl (Or.inl rfl)) (pgs_cons (pg_name (i := 7) sc_law_right.nd rfl (Or.inr rfl)) (pgs_cons (pg_name (i := 8) sc_law_right.nd rfl (Or.inr rfl)) pgs_nil))))) (pss_cons (ps_set (i := 9) sc_law_right.nd rfl (Or.inl rfl) (pe_callTy call_tuple_of (by rfl) (T.free "tuple" (by decide +kernel)) (by decide +kernel) (pa_cons (pe_lc (own := [("_law_k", 17)]) (g := gName 17) (tt := tYes) (by rfl) sc_law_right.nd (pi_range1 (by rfl) (T.free "range" (by decide +kernel)) (pa_cons pe_int pa_nil)) (blkOk_by (own := [("_law_k", 17)]) (N := ["_law_purse_here", "_law_parts_here", "_law_many", "_law_mine", "_law_steps_here", "_law_counts", "_law_group", "_law_costs", "_law_more", "_law_both", "_law_at", "_law_played", "_law_due", "_law_some", "_law_told", "_law_behind", "_law_named", "_law_k"]) (sc := defScope s_law_right) (by decide +kernel)) (fun _ _ _ _ _ => pg_name (i := 17) sc_law_right.nd rfl (Or.inl rfl)) (fun _ _ _ _ _ => pts_nil) (fun _ _ _ _ _ => (pe_op op_add (pe_ix (r := rIxT K) ix_tup (pv 7) (pv 17) (fun _ _ => rfl)) (pe_ix (r := rIxT K) ix_tup (pv 8) (pv 17) (fun _ _ => rfl))))) pa_nil))) (pss_cons (ps_for PassesOwn.never rfl (pi_range1 (by rfl) (T.free "range" (by decide +kernel)) (pa_cons (pe_op op_add (pe_callB call_len_seq (by rfl) (T.free "len" (by decide +kernel)) (by decide +kernel) (pa_cons (pv 4) pa_nil)) pe_int) pa_nil)) (pg_name (i := 10) sc_law_right.nd rfl (Or.inl rfl)) (pss_cons (ps_set (i := 11) sc_law_right.nd rfl (Or.inl rfl) (pe_fn F_play hr (by decide) (pa_cons (pv 3) (pa_cons (pe_tup (pa_cons (pv 2) (pa_cons (pe_callTy call_tuple_of (by rfl) (T.free "tuple" (by decide +kernel)) (by decide +kernel) (pa_cons (pe_slice sl_list (pv 4) po_none (po_some (pv 10))) pa_nil)) pa_nil))) pa_nil)))) (pss_cons (ps_set (i := 12) sc_law_right.nd rfl (Or.inl rfl) (pe_lst (pa_cons (pe_prF (pv 6) T.iG.cl T.pKept F_G_kept hr (by decide) rfl) (pa_cons (pe_prF (pv 6) T.iG.cl T.pMode F_G_mode hr (by decide) rfl) (pa_cons (pe_prF (pv 6) T.iG.cl T.pSize F_G_size hr (by decide) rfl) pa_nil))))) (pss_cons (ps_if (PW.pt (pw_or (pt_not (pt_cmpR (op_Gr F_G_eq T.eqG hr (by decide)) (pv 11) (pv 6) (nomark _))) (pw_or1 (pt_cmpR op_ne (pe_callB (cr_repr hgu (hu65 hr)) (by rfl) (T.free "repr" (by decide +kernel)) (by decide +kernel) (pa_cons (pe_lst (pa_cons (pe_prF (pv 11) T.iG.cl T.pKept F_G_kept hr (by decide) rfl) (pa_cons (pe_prF (pv 11) T.iG.cl T.pMode F_G_mode hr (by decide) rfl) (pa_cons (pe_prF (pv 11) T.iG.cl T.pSize F_G_size hr (by decide) rfl) pa_nil)))) pa_nil)) (pe_callB (cr_repr hgu (hu65 hr)) (by rfl) (T.free "repr" (by decide +kernel)) (by decide +kernel) (pa_cons (pv 12) pa_nil)) (nomark _))))) (pss_one (ps_ret pe_bl)) pss_nil) (pss_cons (ps_for PassesOwn.never rfl (pi_list (pe_lst (pa_cons (pv 7) (pa_cons (pv 9) pa_nil)))) (pg_name (i := 13) sc_law_right.nd rfl (Or.inl rfl)) (pss_cons (ps_set (i := 14) sc_law_right.nd rfl (Or.inl rfl) (pe_fn F_price_of hr (by decide) (pa_cons (pv 3) (pa_cons (pe_tup (pa_cons (pv 2) (pa_cons (pe_callTy call_tuple_of (by rfl) (T.free "tuple" (by decide +kernel)) (by decide +kernel) (pa_cons (pe_slice sl_list (pv 4) po_none (po_some (pv 10))) pa_nil)) pa_nil))) (pa_cons (pv 13) pa_nil))))) (pss_one (ps_if (pt_cmpR op_ne (pe_callB (cr_repr hgu (hu65 hr)) (by rfl) (T.free "repr" (by decide +kernel)) (by decide +kernel) (pa_cons (pv 14) pa_nil)) (pe_callB (cr_repr hgu (hu65 hr)) (by rfl) (T.free "repr" (by decide +kernel)) (by decide +kernel) (pa_cons (pe_fn F_law_paid hr (by decide) (pa_cons (pe_slice sl_list (pv 4) po_none (po_some (pv 10))) (pa_cons (pv 5) (pa_cons (pv 13) pa_nil)))) pa_nil)) (nomark _)) (pss_one (ps_ret pe_bl)) pss_nil)))) (pss_one (ps_if (pt_cmpR op_lt (pv 10) (pe_callB call_len_seq (by rfl) (T.free "len" (by decide +kernel)) (by decide +kernel) (pa_cons (pv 4) pa_nil)) (nomark _)) (pss_cons (ps_set (i := 5) sc_law_right.nd rfl (Or.inl rfl) (pe_op op_cat (pv 5) (pe_callTy call_list_of (by rfl) (T.free "list" (by decide +kernel)) (by decide +kernel) (pa_cons (pe_meF (pv 6) T.iG.cl T.mReads F_G_reads hr (by decide) (pa_cons (pe_ix (r := rIxL K) ix_list (pv 4) (pv 10) (fun _ _ => rfl)) pa_nil)) pa_nil)))) (pss_one (ps_set (i := 6) sc_law_right.nd rfl (Or.inl rfl) (pe_meF (pv 6) T.iG.cl T.mAfter F_G_after hr (by decide) (pa_cons (pe_ix (r := rIxL K) ix_list (pv 4) (pv 10) (fun _ _ => rfl)) pa_nil))))) pss_nil))))))) (pss_cons (ps_set (i := 15) sc_law_right.nd rfl (Or.inl rfl) (pe_tup (pa_cons (pv 2) (pa_cons (pe_callTy call_tuple_of (by rfl) (T.free "tuple" (by decide +kernel)) (by decide +kernel) (pa_cons (pv 4) pa_nil)) pa_nil)))) (pss_cons (ps_set (i := 16) sc_law_right.nd rfl (Or.inl rfl) (pe_fnK FK_price_of hr (by decide) (pk_cons (pv 8) (pk_cons (pv 15) (pk_cons (pv 3) pk_nil))))) (pss_cons (ps_if (pt_cmpR op_ne (pe_callB (cr_repr hgu (hu65 hr)) (by rfl) (T.free "repr" (by decide +kernel)) (by decide +kernel) (pa_cons (pv 16) pa_nil)) (pe_callB (cr_repr hgu (hu65 hr)) (by rfl) (T.free "repr" (by decide +kernel)) (by decide +kernel) (pa_cons (pe_fn F_law_paid hr (by decide) (pa_cons (pv 4) (pa_cons (pv 5) (pa_cons (pv 8) pa_nil)))) pa_nil)) (nomark _)) (pss_one (ps_ret pe_bl)) pss_nil) (pss_cons (ps_if (pt_not (pt_cmpR (op_Gr F_G_eq T.eqG hr (by decide)) (pe_fnK FK_play hr (by decide) (pk_cons (pv 15) (pk_cons (pv 3) pk_nil))) (pv 6) (nomark _))) (pss_one (ps_ret pe_bl)) pss_nil) (pss_one (ps_ret (pe_cmpR (op_eqD hr.units) (pe_fn F_price_of hr (by decide) (pa_cons (pv 3) (pa_cons (pe_tup (pa_cons (pv 2) (pa_cons (pe_tup pa_nil) pa_nil))) (pa_cons (pv 9) pa_nil)))) (pe_tup (pa_cons pe_int (pa_cons pe_int pa_nil))) (nomark _))))))))))))), ?_⟩), F.bindsN (ps := ["_law_purse_here"]) fun _ _ _ _ _ _ us hl => match us, hl with | [_], _ => rfl⟩
  intro π B0 H0 xs c k hW
  obtain ⟨rfl, hc, hk⟩ := hW
  try dsimp only [cxOf, Cx.nox]
  repeat walk_at "k"
  intro p c1 hp hc1
  repeat walk_at "k"
  intro n hn0 hn1
  repeat walk_at "k"
  intro es c2 hev hel hc2
  refine wa_cons (wp_lst (wa_nil ⟨[], rfl, sm rfl, wa_nil ⟨_, _, _, rfl, wr_seq (wr_tup3 ?_)⟩⟩))
  repeat walk_at "k"
  intro ps c3 hps hpsh hc3
  repeat walk_at "k"
  intro qs c4 hqs hqsh hc4
  repeat walk_at "k"
  have hboth := prb_both hps hpsh hqs hqsh
  have hbo := hboth.ok
  have hpb := prb_of hps hpsh
  have hqb := prb_of hqs hqsh
  refine wp_lcR ?_
  repeat walk_at "kk"
  refine ⟨_, rfl, by decide, by decide, fun i acc c' => acc = ((List.range i).map fun j => PyData.int (getI ps j + getI qs j)) ∧ c4 = c', ⟨rfl, rfl⟩, fun i acc c' hi hI => ?_, fun acc c' hI => ?_⟩
  · obtain ⟨rfl, rfl⟩ := hI
    refine wt_yes ⟨fun _ => ?_, fun z => nomatch z⟩
    have hi : i < 6 := by omega
    repeat walk_at "kk"
    refine rn_ixT (price_at hps hi) ?_
    repeat walk_at "kk"
    refine rn_ixT (price_at hqs hi) ?_
    repeat walk_at "kk"
    exact ⟨_, rfl, by rw [List.length_map, List.length_range]; omega, by rw [List.range_succ, List.map_append]; rfl, rfl⟩
  obtain ⟨rfl, rfl⟩ := hI
  rw [show ((List.range (Int.toNat 6)).map fun j => PyData.int (getI ps j + getI qs j)) = (bothF ps qs).map PyData.int by unfold bothF; rw [List.map_map]; rfl]
  repeat walk_at "k"
  refine wr_forR ?_
  repeat walk_at "kk"
  rw [List.length_map]
  refine ⟨_, rfl, by omega, by omega, fun i Γ' c' => c4 = c' ∧ ∃ e10 e11 e12 e13 e14 e15 e16 e17 : En, Γ' = [.pur, .ab (.d p.parts), .ab (.d (.int n)), .ab (.prog p.g), .ab (.d (.list (es.map Ev.data))), .ab (.d (.list ((runF p (p.init n, []) (es.take i)).2.map .int))), .ab (.grp p.g (runF p (p.init n, []) (es.take i)).1.data), .ab (.d (.tuple (ps.map .int))), .ab (.d (.tuple (qs.map .int))), .ab (.d (.tuple ((bothF ps qs).map .int))), e10, e11, e12, e13, e14, e15, e16, e17], ⟨rfl, _, _, _, _, _, _, _, _, rfl⟩, fun i Γ' c' hi hI => ?_, fun Γ' c' hI => ?_⟩
  · obtain ⟨rfl, e10, e11, e12, e13, e14, e15, e16, e17, rfl⟩ := hI
    have hie : i ≤ es.length := by omega
    obtain ⟨⟨hrun, hkb, hsz⟩, hevi, hstep⟩ := now_gen hp (es := es) (x := (p.init n, [])) (i := i) (now_init hp hn0) hev
    have hevi : EvsOk n (es.take i) := hevi
    have hlt : (es.take i).length ≤ 100 := by rw [List.length_take]; omega
    have hsucc : es.length ≤ i → es.take (i + 1) = es.take i := fun h => by rw [List.take_of_length_le (by omega), List.take_of_length_le h]
    generalize hx : runF p (p.init n, []) (es.take i) = x at hrun hkb hsz hstep
    have hso := hrun.ok
    have hfew := hrun.few
    have hcl : x.2.length ≤ 1000 := by omega
    have hsm := hrun.small
    have hs0 := hso.s0
    have hshw := shw_state (ks := x.1.kept) (m := x.1.mode) (n := x.1.size) hso.k4 (fun v hv => by
      have h1 := hkb v hv
      have h2 : v.natAbs < 100 := by omega
      exact Nat.lt_trans h2 (by decide +kernel)) (hp.ms.ok _ hso.m).w (by
      have h2 : x.1.size.natAbs < 100 := by omega
      exact Nat.lt_trans h2 (by decide +kernel))
    try rw [hx]
    repeat walk_at "k"
    refine rs_L ?_
    rw [evs_cut]
    repeat walk_at "k"
    try rw [hx]
    repeat walk_at "k"
    refine rn_eqGr hp hso ?_
    repeat walk_at "k"
    refine rc_repr hshw ?_
    repeat walk_at "k"
    refine rc_repr hshw ?_
    repeat walk_at "k"
    refine wr_forL ?_
    repeat walk_at "kk"
    refine ⟨_, rfl, sm rfl, _, rfl, fun j Γ' c' => c4 = c' ∧ ∃ f13 f14 : En, Γ' = [.pur, .ab (.d p.parts), .ab (.d (.int n)), .ab (.prog p.g), .ab (.d (.list (es.map Ev.data))), .ab (.d (.list (x.2.map .int))), .ab (.grp p.g x.1.data), .ab (.d (.tuple (ps.map .int))), .ab (.d (.tuple (qs.map .int))), .ab (.d (.tuple ((bothF ps qs).map .int))), .ab (.d (.int i)), .ab (.grp p.g x.1.data), .ab (.d (.list [.tuple (x.1.kept.map .int), .str x.1.mode, .int x.1.size])), f13, f14, e15, e16, e17], ⟨rfl, _, _, rfl⟩, fun j d Γ' c' hd hI => ?_, fun Γ' c' hI => ?_⟩
    · obtain ⟨rfl, f13, f14, rfl⟩ := hI
      obtain ⟨ws, rfl, hws⟩ : ∃ ws : List Int, d = .tuple (ws.map .int) ∧ PrB ws := by
        match j, hd with
        | 0, hd => exact ⟨ps, (Option.some.inj hd).symm, hpb⟩
        | 1, hd => exact ⟨bothF ps qs, (Option.some.inj hd).symm, hboth⟩
      have hwo := hws.ok
      have hshp := shw_priceD hws hlt hcl hsm
      repeat walk_at "k"
      refine rs_L ?_
      rw [evs_cut]
      repeat walk_at "k"
      try rw [hx]
      repeat walk_at "k"
      refine rc_reprT hshp ?_
      repeat walk_at "k"
      refine rs_L ?_
      rw [evs_cut]
      repeat walk_at "k"
      refine rc_reprT hshp ?_
      repeat walk_at "k"
      exact ⟨_, _, rfl⟩
    · obtain ⟨rfl, f13, f14, rfl⟩ := hI
      by_cases hlt2 : i < es.length
      · obtain ⟨heo, hrn⟩ := hstep es[i] (List.getElem?_eq_getElem hlt2)
        have hst := stt_step hp hso heo
        have hstf := hst.few
        have hat : (es.map Ev.data)[i]? = some (es[i].data) := by
          rw [List.getElem?_map, List.getElem?_eq_getElem hlt2]
          rfl
        repeat walk_at "k"
        refine rn_ixLn hat ?_
        repeat walk_at "k"
        refine rn_catL (by rw [List.length_map, List.length_map]; omega) ?_
        rw [← List.map_append]
        repeat walk_at "k"
        refine rn_ixLn hat ?_
        repeat walk_at "k"
        rw [hrn]
        exact ⟨_, _, _, _, _, _, _, _, rfl⟩
      · have h1 := hsucc (by omega)
        repeat walk_at "k"
        rw [h1]; try rw [hx]
        exact ⟨_, _, _, _, _, _, _, _, rfl⟩
  · obtain ⟨rfl, e10, e11, e12, e13, e14, e15, e16, e17, rfl⟩ := hI
    have htk : es.take ((es.length : Int) + 1).toNat = es := List.take_of_length_le (by omega)
    rw [htk]
    have hrun := run_init hp hn0 hev
    have hel2 : es.length ≤ 100 := by omega
    generalize hx : runF p (p.init n, []) es = x at hrun
    have hso := hrun.ok
    have hfew := hrun.few
    have hcl : x.2.length ≤ 1000 := by omega
    have hsm := hrun.small
    have hshp := shw_priceD hqb hel2 hcl hsm
    repeat walk_at "k"
    refine wp_callR ?_
    repeat walk_at "kk"
    refine ⟨rfl, p, n, es, qs, rfl, hp, hn0, hev, hel2, hqs, ?_⟩
    try rw [hx]
    repeat walk_at "k"
    refine rc_reprT hshp ?_
    repeat walk_at "k"
    refine rc_reprT hshp ?_
    repeat walk_at "k"
    refine wp_callR ?_
    repeat walk_at "kk"
    refine ⟨rfl, p, n, es, rfl, hp, hn0, hev, hel2, ?_⟩
    try rw [hx]
    repeat walk_at "kk"
    refine rn_eqGr hp hso ?_
    repeat walk_at "k"
    have hsp : SeqAt.shaped (priceD (bothF ps qs) [] (runF p (p.init n, []) []).2) = true := (sh_tup (n := 1) fun d hd => by
      rcases (show d = .int (paidF (bothF ps qs) []) ∨ d = .int (readsF (bothF ps qs) (runF p (p.init n, []) []).2) by simpa using hd) with rfl | rfl
      · exact sh_int _
      · exact sh_int _).shaped (by decide)
    refine ⟨p, n, [], bothF ps qs, rfl, hp, hn0, trivial, by decide, hbo, ?_⟩
    repeat walk_at "k"
    refine rn_eqDK (b := true) hsp (by decide +kernel) (by rfl) ?_
    exact hk _
def spL (K : PySem.W.Frag) : Sp := fun vs H Q _ => ∃ (a : Addr) (ns : List Int), vs = [.ref a] ∧ SqL K H a (ns.map V.int) ∧ ns.length ≤ 63 ∧ ∀ H', Q (.bl true) H'
theorem f_law {P : Program} {w : World} {K : PySem.W.Frag} {mg : Str → Option Value} {base : Heap} (T : TX K mg) (F_law_purse : FN P w K mg base 1 "_law_purse" ["_law_script", "_law_k"] (spQ K)) (F_law_right : FNG P w K mg base 9 "_law_right" ["_law_purse_here"] (spP K W_law_right)) {fd : FuncData}
    (F : FunD K d_law.name d_law.qual d_law.params d_law.body d_law.scope (d_law.dvs K) [] (d_law.at_ K) fd) : FnG P w K mg base 10 (He.ga K "law") fd ["_law_script"] (spL K) := by
  refine fnG_of F sc_law (fun vs H Q E h => ?_) (fun cdv A outer s H vs Q E hgu hr h => ?_)
  · obtain ⟨a, ns, rfl, _⟩ := h
    rfl
  · obtain ⟨a, ns, rfl, hs, hl, hq⟩ := h
    refine ⟨_, PSs.nox (pss_one (ps_ret (pe_callB (cr_all rfl) (by rfl) (T.free "all" (by decide +kernel)) (by decide +kernel) (pa_cons (pe_lc (own := [("_law_k", 1)]) (g := gName 1) (tt := tYes) (by rfl) sc_law.nd (pi_range1 (by rfl) (T.free "range" (by decide +kernel)) (pa_cons (pe_callB (call_max2 rfl) (by rfl) (T.free "max" (by decide +kernel)) (by decide +kernel) (pa_cons pe_int (pa_cons (pe_callB (call_min2 rfl) (by rfl) (T.free "min" (by decide +kernel)) (by decide +kernel) (pa_cons (pe_callB call_len_seq (by rfl) (T.free "len" (by decide +kernel)) (by decide +kernel) (pa_cons (pv 0) pa_nil)) (pa_cons pe_int pa_nil))) pa_nil))) pa_nil)) (blkOk_by (own := [("_law_k", 1)]) (N := ["_law_script", "_law_k"]) (sc := defScope s_law) (by decide +kernel)) (fun _ _ _ _ _ => pg_name (i := 1) sc_law.nd rfl (Or.inl rfl)) (fun _ _ _ _ _ => pts_nil) (fun _ _ _ _ _ => (pe_fnG F_law_right hgu hr (by decide) (pa_cons (pe_fn F_law_purse hr (by decide) (pa_cons (pv 0) (pa_cons (pv 1) pa_nil))) pa_nil)))) pa_nil)))), ?_⟩
    have hsl : (ns.map V.int).length = ns.length := List.length_map _
    refine ⟨.ref a, rfl, a, _, rfl, .inl hs, _, 4, rfl, 2, _, rfl, ?_⟩
    rw [hsl]
    obtain ⟨N, hN, hN1, hN2⟩ : ∃ N : Nat, (if (if (4 : Int) < (ns.length : Int) then (4 : Int) else (ns.length : Int)) > 2 then (if (4 : Int) < (ns.length : Int) then (4 : Int) else (ns.length : Int)) else 2) = (N : Int) ∧ 2 ≤ N ∧ N ≤ 4 := by
      refine ⟨(if (if (4 : Int) < (ns.length : Int) then (4 : Int) else (ns.length : Int)) > 2 then (if (4 : Int) < (ns.length : Int) then (4 : Int) else (ns.length : Int)) else 2).toNat, ?_, ?_, ?_⟩ <;> split <;> split <;> omega
    rw [hN]
    refine ⟨_, rfl, by omega, by omega, fun Da hD => lc_range (lo := 0) (n := (N : Int).toNat) (fun i H' => Same H H' ∧ H' Da = some (.lst (List.replicate i (.bl true)))) ⟨same_new hD, upd_same⟩ (fun i H' hi hp => ?_) (fun H' hp => ?_)⟩
    · obtain ⟨e, hDa⟩ := hp
      refine ⟨rfl, ?_⟩
      show (if true = true then _ else (Same H H' ∧ H' Da = some (.lst (List.replicate (i + 1) (V.bl true)))))
      rw [if_pos rfl]
      refine ⟨.ref a, rfl, .int (0 + (i : Int)), rfl, a, ns, 0 + (i : Int), rfl, e.seq hs, hl, by omega, by omega, fun H1 p1 s1 n1 pu => ?_⟩
      refine ⟨p1, [], fun _ => none, [], 0, fun z _ => z = .d (.bool true), rfl, (fun _ _ z => by cases z), rfl, pu, .nil, ⟨rfl, by decide, fun _ => rfl⟩, fun z c' v B' H2 hz g nb pu2 rep => ?_⟩
      subst hz
      cases rep
      have nDp : Da ≠ p1 := fun z => by rw [z, n1] at hDa; cases hDa
      have h2 : H2 Da = some (.lst (List.replicate i (.bl true))) := g.h Da _ (fun z => nDp (Option.some.inj z)) (s1 _ _ hDa)
      refine ⟨_, h2, by rw [List.length_replicate]; exact Nat.lt_of_lt_of_le (show i < 100000 by omega) (by decide), fun b o q => ?_, ?_⟩
      · have nb1 : b ≠ Da := fun z => by rw [z, hD] at q; cases q
        have q1 := e _ _ q
        have nb2 : b ≠ p1 := fun z => by rw [z, n1] at q1; cases q1
        rw [upd_ne nb1]
        exact g.h b _ (fun z => nb2 (Option.some.inj z)) (s1 _ _ q1)
      · rw [upd_same, List.replicate_succ']
    · obtain ⟨e, hDa⟩ := hp
      refine ⟨Da, List.replicate (N : Int).toNat true, rfl, .inl (.inl (by rw [hDa, List.map_replicate])), ?_⟩
      rw [show (List.replicate (N : Int).toNat true).all id = true by simp]
      exact hq H'
theorem facts {P : Program} {w : World} {K : PySem.W.Frag} {mg : Str → Option Value} {base : Heap} (T : TX K mg) : FN P w K mg base 1 "_law_purse" ["_law_script", "_law_k"] (spQ K) ∧ FNG P w K mg base 9 "_law_right" ["_law_purse_here"] (spP K W_law_right) := by
  have F_is_integer := f_is_integer (P := P) (w := w) (base := base) T 
  have F_is_number := f_is_number (P := P) (w := w) (base := base) T F_is_integer
  have F_is_below := f_is_below (P := P) (w := w) (base := base) T F_is_number
  have F_check_between := f_check_between (P := P) (w := w) (base := base) T F_is_integer
  have F_check_number := f_check_number (P := P) (w := w) (base := base) T F_is_number
  have F_are_prices := f_are_prices (P := P) (w := w) (base := base) T F_is_number
  have F_check_prices := f_check_prices (P := P) (w := w) (base := base) T F_are_prices
  have F_price_of_event := f_price_of_event (P := P) (w := w) (base := base) T 
  have F_price_of_reads := f_price_of_reads (P := P) (w := w) (base := base) T 
  have F_is_word := f_is_word (P := P) (w := w) (base := base) T 
  have F_is_mode := f_is_mode (P := P) (w := w) (base := base) T F_is_word
  have F_figure_in := f_figure_in (P := P) (w := w) (base := base) T 
  have F_condition_in := f_condition_in (P := P) (w := w) (base := base) T F_figure_in
  have F_conditions_in := f_conditions_in (P := P) (w := w) (base := base) T F_condition_in
  have F_first_deed := f_first_deed (P := P) (w := w) (base := base) T F_figure_in
  have F_mode_in := f_mode_in (P := P) (w := w) (base := base) T 
  have F_deeds_in := f_deeds_in (P := P) (w := w) (base := base) T F_first_deed F_mode_in
  have F_row_in := f_row_in (P := P) (w := w) (base := base) T F_conditions_in F_deeds_in
  have F_check_modes := f_check_modes (P := P) (w := w) (base := base) T F_is_mode
  have F_parts_of := f_parts_of (P := P) (w := w) (base := base) T F_row_in
  have F_P_modes := f_P_modes (P := P) (w := w) (base := base) T 
  have F_check_program := f_check_program (P := P) (w := w) (base := base) T 
  have F_holds := f_holds (P := P) (w := w) (base := base) T 
  have F_row_of := f_row_of (P := P) (w := w) (base := base) T F_holds
  obtain ⟨F_deed_for, FD_deed_for⟩ := f_deed_for (P := P) (w := w) (base := base) T F_row_of
  have F_is_event := f_is_event (P := P) (w := w) (base := base) T F_is_below
  have F_check_event := f_check_event (P := P) (w := w) (base := base) T F_is_event
  have F_read_state := f_read_state (P := P) (w := w) (base := base) T 
  have F_P_str := f_P_str (P := P) (w := w) (base := base) T 
  have F_put_state := f_put_state (P := P) (w := w) (base := base) T F_deed_for F_read_state
  have F_take_state := f_take_state (P := P) (w := w) (base := base) T FD_deed_for F_read_state
  have F_ask_state := f_ask_state (P := P) (w := w) (base := base) T FD_deed_for F_read_state
  have F_state_behind := f_state_behind (P := P) (w := w) (base := base) T F_ask_state F_put_state F_take_state
  have F_G_init := f_G_init (P := P) (w := w) (base := base) T 
  have F_P_init := f_P_init (P := P) (w := w) (base := base) T F_check_between F_check_modes F_parts_of
  have F_G_mode := f_G_mode (P := P) (w := w) (base := base) T 
  have F_G_size := f_G_size (P := P) (w := w) (base := base) T 
  have F_G_kept := f_G_kept (P := P) (w := w) (base := base) T 
  have F_G_after := f_G_after (P := P) (w := w) (base := base) T F_G_init F_check_event F_state_behind
  have F_G_reads := f_G_reads (P := P) (w := w) (base := base) T F_check_event F_state_behind
  have F_begin := f_begin (P := P) (w := w) (base := base) T F_G_init F_P_modes F_check_number F_check_program
  have F_followed := f_followed (P := P) (w := w) (base := base) T F_P_modes F_is_event F_is_number F_state_behind
  obtain ⟨F_play, FK_play⟩ := f_play (P := P) (w := w) (base := base) T F_G_init F_check_program F_followed
  obtain ⟨F_price_of, FK_price_of⟩ := f_price_of (P := P) (w := w) (base := base) T F_check_prices F_check_program F_followed F_price_of_event F_price_of_reads
  have F_P_eq := f_P_eq (P := P) (w := w) (base := base) T F_P_str
  have F_G_eq := f_G_eq (P := P) (w := w) (base := base) T F_P_eq
  have F_law_draw := f_law_draw (P := P) (w := w) (base := base) T 
  have F_law_purse := f_law_purse (P := P) (w := w) (base := base) T 
  have F_law_one := f_law_one (P := P) (w := w) (base := base) T F_law_draw
  have F_law_tag := f_law_tag (P := P) (w := w) (base := base) T F_law_draw F_law_one
  have F_law_tags := f_law_tags (P := P) (w := w) (base := base) T F_law_draw F_law_tag
  have F_law_conds := f_law_conds (P := P) (w := w) (base := base) T F_law_draw F_law_one
  have F_law_deeds := f_law_deeds (P := P) (w := w) (base := base) T F_law_draw F_law_one
  have F_law_acts := f_law_acts (P := P) (w := w) (base := base) T F_law_conds F_law_deeds F_law_one
  have F_law_words := f_law_words (P := P) (w := w) (base := base) T 
  have F_law_line := f_law_line (P := P) (w := w) (base := base) T F_law_words
  have F_law_parts := f_law_parts (P := P) (w := w) (base := base) T F_law_acts F_law_draw F_law_tags
  have F_law_program := f_law_program (P := P) (w := w) (base := base) T F_P_init F_law_line
  have F_law_place := f_law_place (P := P) (w := w) (base := base) T F_law_draw
  have F_law_step := f_law_step (P := P) (w := w) (base := base) T F_law_draw F_law_place
  have F_law_steps := f_law_steps (P := P) (w := w) (base := base) T F_law_draw F_law_step
  have F_law_prices := f_law_prices (P := P) (w := w) (base := base) T F_law_draw
  have F_law_paid := f_law_paid (P := P) (w := w) (base := base) T 
  have F_law_right := f_law_right (P := P) (w := w) (base := base) T FK_play FK_price_of F_G_after F_G_eq F_G_kept F_G_mode F_G_reads F_G_size F_begin F_law_draw F_law_paid F_law_parts F_law_prices F_law_program F_law_steps F_play F_price_of
  exact ⟨F_law_purse, F_law_right⟩
theorem law_binds {K : PySem.W.Frag} {fd : FuncData} (F : FunD K d_law.name d_law.qual d_law.params d_law.body d_law.scope (d_law.dvs K) [] (d_law.at_ K) fd) (s : Shared) (u : Value) : BindsTo s fd ⟨[u], []⟩ [("_law_script", u)] :=
  F.bindsA (ps := ["_law_script"]) (fun _ _ _ _ _ _ us hl => match us, hl with | [_], _ => rfl) s [u] rfl
end Kt
/-! From the promise of the law's def to the walk, where no repr is under way at the caller. -/
namespace Kt
open PySem PySem.Spec PyProof.Rows L2
theorem law_goG {P : Program} {w : World} {K : PySem.W.Frag} {mg mb : Str → Option Value} {j : Nat} {fa sa : Addr} {gd : FuncData} {x : Str} {sp : Sp} {z : Shared} {us : List Value} {is : List Int}
    (kin : K.In z.heap) (ng : z.heap.Ns mainGlobals mg) (nb : z.heap.Ns builtinsNs mb) (hbi : ∀ y : Str, y ≠ "__name__" → mb y = bootBuiltins y) (nol : z.heap.NoLimit) (gen0 : z.gens = #[])
    (hsa : z.heap.get? sa = some { cls := .type "list", data := .seq us.toArray }) (hin : IntsAre us is) (hle : is.length ≤ sizeLine) (hro : Room j callerA)
    (F : ∀ bs : Heap, K.In bs → bs.Ns mainGlobals mg → FnG P w K mg bs j fa gd [x] sp) (bnd : ∀ (s : Shared) (u : Value), BindsTo s gd ⟨[u], []⟩ [(x, u)])
    (hp : ∀ H : Hp, Only H → SqL K H sa (is.map V.int) → sp [.ref sa] H (fun v _ => v = .bl true) E0) :
    codeAny (model P w) callerA (.call (.ref fa) ⟨[.ref sa], []⟩) (fun r z' => r = .ok (.ret (.bool true)) ∧ OldK z.heap z'.heap ∧ z'.os = z.os ∧ AllBare z'.gens) z := by
  have vi := vals_ints hin
  have le := hin.length
  suffices core : ∃ H : Hp, Only H ∧ SqL K H sa (is.map V.int) ∧ HOk P w H z.heap ∧ (∀ b, H b ≠ none → b = sa) ∧ (H sa ≠ none → K.lookup sa = none) by
    obtain ⟨H, on, sq, ok, onlyA, noK⟩ := core
    have tr : ∀ {b : Addr}, H b ≠ none → z.heap.get? b = some { cls := .type "list", data := .seq us.toArray } := fun {b} h => (onlyA b h) ▸ hsa
    have free : ∀ {b : Addr} {o : Obj} {es : Array DictEntry} {m : Nat}, z.heap.get? b = some o → o.data = .dict es m → H b = none := fun {b o es m} e d => by
      cases hq : H b with
      | none => rfl
      | some t =>
        have e2 := tr (b := b) (by rw [hq]; simp)
        rw [e] at e2
        cases e2
        have d2 : Data.seq us.toArray _ = Data.dict es m := d
        cases d2
    have hid : ∀ {b : Addr} {o : Obj}, z.heap.get? b = some o → H b = none → (hidT z.heap H).get? b = some o := fun e n => hidT_get e n
    have nsH : ∀ {b : Addr} {m : Str → Option Value}, z.heap.Ns b m → (hidT z.heap H).Ns b m := fun {b m} h => by
      obtain ⟨o, es, m2, e, d, r⟩ := h
      exact ⟨o, es, m2, hid e (free e d), d, r⟩
    have kinH : K.In (hidT z.heap H) := fun b o e => hid (kin b o e) (by
      cases hq : H b with
      | none => rfl
      | some t =>
        have e2 : b = sa := onlyA b (by rw [hq]; simp)
        rw [e2] at hq e
        rw [noK (by rw [hq]; simp)] at e
        cases e)
    have md : Mod K mg (hidT z.heap H) := ⟨kinH, nsH ng, ⟨mb, nsH nb, hbi⟩, by
      obtain ⟨m, h1, h2⟩ := nol
      exact ⟨m, nsH h1, h2⟩⟩
    have env : Env0 P w K mg (hidT z.heap H) callerA [] z H := ⟨rfl, md, fun b o e => of_hidT e, Nat.le_of_eq (hidT_size _ _), trivial, fun b h => (by cases h), ok, .of_eq gen0⟩
    refine codeAny_mono ((F _ kinH (nsH ng)).go callerA [] z H ⟨[.ref sa], []⟩ [.ref sa] [.ref sa] _ _ rfl hro env (bnd z (.ref sa)) (.cons rfl .nil) (hp H on sq)) fun r z' hr => ?_
    cases r with
    | error e => exact False.elim hr
    | ok fo =>
      cases fo with
      | next => exact hr.elim
      | brk => exact hr.elim
      | cont => exact hr.elim
      | ret u =>
        obtain ⟨v, H', os', bare', un', ok', rel, hv⟩ := hr
        have hv : v = .bl true := hv
        subst hv
        cases rel
        refine ⟨rfl, OldK.of_keep fun b o e => ?_, os', bare'⟩
        cases hq : H b with
        | none => exact un'.keep b o e hq (fun h => by cases h) (by simp)
        | some t =>
          rcases on b with h | ⟨ob, xs, h⟩
          · rw [hq] at h; cases h
          · obtain ⟨a1, _⟩ := ok b _ h
            obtain ⟨a2, _⟩ := ok' b _ (un'.frzs b ob _ h)
            rw [e] at a1
            cases a1
            exact a2
  cases hk : K.lookup sa with
  | some o =>
    have e := kin sa o hk
    rw [hsa] at e
    cases e
    exact ⟨fun _ => none, fun _ => .inl rfl, .inr ⟨_, us.toArray, _, hk, rfl, rfl, rfl, (by rw [List.size_toArray, le]; exact hle), (by simpa using vi)⟩, fun b t h => (by cases h), fun b h => absurd rfl h, fun h => absurd rfl h⟩
  | none =>
    have at1 : ∀ b, b = sa → (if b = sa then some (HO.frz { cls := .type "list", data := .seq us.toArray } (.lst (is.map V.int))) else none) = some (HO.frz { cls := .type "list", data := .seq us.toArray } (.lst (is.map V.int))) := fun b h => if_pos h
    have at2 : ∀ b, b ≠ sa → (if b = sa then some (HO.frz { cls := .type "list", data := .seq us.toArray } (.lst (is.map V.int))) else none) = none := fun b h => if_neg h
    refine ⟨fun b => if b = sa then some (HO.frz { cls := .type "list", data := .seq us.toArray } (.lst (is.map V.int))) else none, fun b => ?_, .inl (.inr ⟨_, at1 sa rfl⟩), fun b t h => ?_, fun b h => ?_, fun _ => rfl⟩
    · by_cases e : b = sa
      · exact .inr ⟨_, _, at1 b e⟩
      · exact .inl (at2 b e)
    · by_cases e : b = sa
      · have h2 := (at1 b e).symm.trans h
        cases h2
        subst e
        exact ⟨hsa, by rw [List.length_map]; exact hle, us, _, vi, hsa⟩
      · exact absurd ((at2 b e).symm.trans h) (by simp)
    · by_cases e : b = sa
      · exact e
      · exact absurd (at2 b e) h
theorem walk_G {l : PySem.W.OpenLaw} {m j : Nat} {q : Program} {lo : List Str} {XP : (Str → Option Value) → Heap → Prop} {YP : World → Heap → Prop} {d : DefRec} {x : Str} (hm : l.most = some m) (hm2 : m ≤ sizeLine) (hd0 : d.params.defaults = []) (hro : Room j callerA)
    (F : ∀ (w : World) (mg : Str → Option Value) (fa : Addr) (h : Heap), YP w h → h.Ns mainGlobals mg → mg d.name = some (.ref fa) →
      ∃ (K : PySem.W.Frag) (gd : FuncData) (sp : Sp), K.In h ∧ (∀ (s : Shared) (u : Value), BindsTo s gd ⟨[u], []⟩ [(x, u)]) ∧ (∀ (H : Hp) (a : Addr) (is : List Int), is.length ≤ m → Only H → SqL K H a (is.map V.int) → sp [.ref a] H (fun v _ => v = .bl true) E0) ∧
        ∀ bs : Heap, K.In bs → bs.Ns mainGlobals mg → FnG l.prog w K mg bs j fa gd [x] sp) :
    PySem.W.WalkO q lo XP YP l.row.toRowW d [] (fun f vs => PySem.call f vs) := by
  refine Att.attach_call hm hd0 fun w z0 z mg mb fa o pm cd doc a us is G Y h1 h2 h3 hmg hobj hin hlen hgen => ?_
  obtain ⟨K, gd, sp, kin, hb, hp, hF⟩ := F w mg fa _ Y G.T.g hmg
  exact law_goG kin G.T.g G.T.b G.T.builtins G.T.nolimit hgen hobj hin (Nat.le_trans hlen hm2) hro hF hb fun H on sq => hp H a is hlen on sq
end Kt
open PySem PySem.W PySem.Calls PyProof.Rows
theorem PySem.Challenge.cw_keptleast_k17_whole_plays_and_prices_holds : PySem.Challenge.rw_keptleast_k17_whole_plays_and_prices.Holds := by
  w_on
  o_law
  refine HandSHeadRun.head_any (r := OpenLaw.row PySem.Challenge.rw_keptleast_k17_whole_plays_and_prices) (q := view (OpenLaw.row PySem.Challenge.rw_keptleast_k17_whole_plays_and_prices).prog [83]) (H := Kt.hk) (ob := Kt.ob) (M := 20000) (loose := Kt.loose) (d := HandSHeadRun.topDef (OpenLaw.row PySem.Challenge.rw_keptleast_k17_whole_plays_and_prices).prog 83) (kwd := [])
    Kt.ob_eq (by kernel_rfl) (fun s => by kernel_rfl) Kt.run (by kernel_rfl) (by kernel_rfl) (by kernel_rfl) (by rfl) (by first | assumption | decide +kernel) (by decide +kernel) ⟨rfl, rfl, rfl, rfl, rfl, by decide +kernel⟩ ?hw ?hc
  case hw => w_witness2
  case hc =>
    refine Kt.walk_G (l := PySem.Challenge.rw_keptleast_k17_whole_plays_and_prices) (m := 63) (j := 10) (x := "_law_script") rfl (by decide) (by kernel_rfl) ⟨rfl, by decide, by decide⟩ ?F
    intro w mg fa h Y G hmg0
    obtain ⟨K, KX, c⟩ := Y
    have T : Kt.TX K mg := Kt.tx_of KX G c
    have hmg : mg "law" = some (.ref fa) := by
      have e : (HandSHeadRun.topDef (OpenLaw.row PySem.Challenge.rw_keptleast_k17_whole_plays_and_prices).prog 83).name = "law" := by kernel_rfl
      rw [e] at hmg0
      exact hmg0
    have hfa : fa = He.ga K "law" := by
      have e := T.glo "law" (by decide +kernel)
      rw [hmg] at e
      exact Value.ref.inj (Option.some.inj e)
    subst hfa
    obtain ⟨fd, F⟩ := T.fn 64 Kt.d_law rfl
    refine ⟨K, fd, Kt.spL K, KX, Kt.law_binds F, fun H a ns hl _ hS => ⟨a, ns, rfl, hS, hl, fun _ => rfl⟩, fun bs _ _ => ?_⟩
    obtain ⟨F1, F2⟩ := Kt.facts (P := PySem.W.OpenLaw.prog PySem.Challenge.rw_keptleast_k17_whole_plays_and_prices) (w := w) (base := bs) T
    exact Kt.f_law T F1 F2 F
