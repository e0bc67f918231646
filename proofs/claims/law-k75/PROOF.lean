import PyProof.Rows.All
import Wide.All
import OpenK.AllK
import Wide.FinOn
import PySem.Challenge.RW_surepast_k75_whole_what_can_come
import HandS.ForMost
import HandS.Exc
import HandS.ExcInit
import HandS.ExcField
import HandS.TryOnly
import HandS.IsInst
import HandS.WordsExc
import HandS.CallRecv
import HandS.Evl
import HandS.Walk
import KE.IntTextLaws
import HandS.ExcIs
set_option Elab.async false
set_option linter.all false
set_option maxRecDepth 100000
set_option maxHeartbeats 4000000
/-! ## KBase -/
namespace WC
open PySem PySem.Spec PyProof.Rows L2 Evl
/-! where the defs stand; what the top has written -/
def topS (i : Nat) : Stmt := PySem.Challenge.pw_surepast_k75_whole_what_can_come.main.body.getD i (.Pass ⟨0, 0, 0, 0⟩)
structure Dn (K : PySem.W.Frag) (mg : Str → Option Value) (x : Str) (st : Stmt) (ps : List Str) where
  f : Addr
  fd : FuncData
  F : Fun K x x st f fd
  g : mg x = some (.ref f)
  b : Binds K fd ps []
structure Mn (K : PySem.W.Frag) (C : Addr) (x qual : Str) (st : Stmt) (ps : List Str) where
  f : Addr
  fd : FuncData
  F : Fun K x qual st f fd
  M : Meth K C x f
  b : Binds K fd ps []
structure Ini (K : PySem.W.Frag) (C : Addr) (qual : Str) (st : Stmt) (ps : List Str) where
  f : Addr
  fd : FuncData
  F : Fun K "__init__" qual st f fd
  at_ : PySem.W.findIn K (.ref C) "__init__" = some (some (.ref f))
  ty : PySem.W.typeIn K (.ref f) = some (.type "function")
  b : Binds K fd ps []
abbrev s_TextError_init : Stmt := inClass (topS 3) 0
abbrev N_TextError_init : List Str := ["self", "column", "words"]
theorem sc_TextError_init : FnScope N_TextError_init ["self", "column", "words"] (defScope s_TextError_init) := ⟨rfl, rfl, rfl, by decide +kernel, rfl, by decide +kernel, by decide +kernel⟩
abbrev s_is_whole : Stmt := topS 9
abbrev N_is_whole : List Str := ["value", "low", "high"]
theorem sc_is_whole : FnScope N_is_whole ["value", "low", "high"] (defScope s_is_whole) := ⟨rfl, rfl, rfl, by decide +kernel, rfl, by decide +kernel, by decide +kernel⟩
abbrev s_are_costs : Stmt := topS 10
abbrev N_are_costs : List Str := ["value", "many", "cost"]
theorem sc_are_costs : FnScope N_are_costs ["value", "many"] (defScope s_are_costs) := ⟨rfl, rfl, rfl, by decide +kernel, rfl, by decide +kernel, by decide +kernel⟩
abbrev s_are_rows : Stmt := topS 11
abbrev N_are_rows : List Str := ["value", "many", "wide", "row"]
theorem sc_are_rows : FnScope N_are_rows ["value", "many", "wide"] (defScope s_are_rows) := ⟨rfl, rfl, rfl, by decide +kernel, rfl, by decide +kernel, by decide +kernel⟩
abbrev s_is_model : Stmt := topS 12
abbrev N_is_model : List Str := ["value", "many"]
theorem sc_is_model : FnScope N_is_model ["value"] (defScope s_is_model) := ⟨rfl, rfl, rfl, by decide +kernel, rfl, by decide +kernel, by decide +kernel⟩
abbrev s_states_of : Stmt := topS 13
abbrev N_states_of : List Str := ["model"]
theorem sc_states_of : FnScope N_states_of ["model"] (defScope s_states_of) := ⟨rfl, rfl, rfl, by decide +kernel, rfl, by decide +kernel, by decide +kernel⟩
abbrev s_signs_of : Stmt := topS 14
abbrev N_signs_of : List Str := ["model"]
theorem sc_signs_of : FnScope N_signs_of ["model"] (defScope s_signs_of) := ⟨rfl, rfl, rfl, by decide +kernel, rfl, by decide +kernel, by decide +kernel⟩
abbrev s_check_model : Stmt := topS 16
abbrev N_check_model : List Str := ["model"]
theorem sc_check_model : FnScope N_check_model ["model"] (defScope s_check_model) := ⟨rfl, rfl, rfl, by decide +kernel, rfl, by decide +kernel, by decide +kernel⟩
abbrev s_check_text : Stmt := topS 22
abbrev N_check_text : List Str := ["text"]
theorem sc_check_text : FnScope N_check_text ["text"] (defScope s_check_text) := ⟨rfl, rfl, rfl, by decide +kernel, rfl, by decide +kernel, by decide +kernel⟩
abbrev s_digits_at : Stmt := topS 23
abbrev N_digits_at : List Str := ["text", "at", "end"]
theorem sc_digits_at : FnScope N_digits_at ["text", "at"] (defScope s_digits_at) := ⟨rfl, rfl, rfl, by decide +kernel, rfl, by decide +kernel, by decide +kernel⟩
abbrev s_token_at : Stmt := topS 24
abbrev N_token_at : List Str := ["text", "at", "number"]
theorem sc_token_at : FnScope N_token_at ["text", "at"] (defScope s_token_at) := ⟨rfl, rfl, rfl, by decide +kernel, rfl, by decide +kernel, by decide +kernel⟩
abbrev s_scan : Stmt := topS 25
abbrev N_scan : List Str := ["text", "tokens", "at"]
theorem sc_scan : FnScope N_scan ["text"] (defScope s_scan) := ⟨rfl, rfl, rfl, by decide +kernel, rfl, by decide +kernel, by decide +kernel⟩
abbrev s_shown : Stmt := topS 28
abbrev N_shown : List Str := ["token"]
theorem sc_shown : FnScope N_shown ["token"] (defScope s_shown) := ⟨rfl, rfl, rfl, by decide +kernel, rfl, by decide +kernel, by decide +kernel⟩
abbrev s_in_order : Stmt := topS 29
abbrev N_in_order : List Str := ["options", "order", "sign", "option"]
theorem sc_in_order : FnScope N_in_order ["options"] (defScope s_in_order) := ⟨rfl, rfl, rfl, by decide +kernel, rfl, by decide +kernel, by decide +kernel⟩
abbrev s_joined : Stmt := topS 30
abbrev N_joined : List Str := ["options"]
theorem sc_joined : FnScope N_joined ["options"] (defScope s_joined) := ⟨rfl, rfl, rfl, by decide +kernel, rfl, by decide +kernel, by decide +kernel⟩
abbrev s_Ahead_init : Stmt := inClass (topS 31) 0
abbrev N_Ahead_init : List Str := ["self", "options"]
theorem sc_Ahead_init : FnScope N_Ahead_init ["self", "options"] (defScope s_Ahead_init) := ⟨rfl, rfl, rfl, by decide +kernel, rfl, by decide +kernel, by decide +kernel⟩
abbrev s_Parser_init : Stmt := inClass (topS 32) 0
abbrev N_Parser_init : List Str := ["self", "tokens", "stops"]
theorem sc_Parser_init : FnScope N_Parser_init ["self", "tokens", "stops"] (defScope s_Parser_init) := ⟨rfl, rfl, rfl, by decide +kernel, rfl, by decide +kernel, by decide +kernel⟩
abbrev s_Parser_take : Stmt := inClass (topS 32) 1
abbrev N_Parser_take : List Str := ["self", "options", "token"]
theorem sc_Parser_take : FnScope N_Parser_take ["self", "options"] (defScope s_Parser_take) := ⟨rfl, rfl, rfl, by decide +kernel, rfl, by decide +kernel, by decide +kernel⟩
abbrev s_Parser_costs : Stmt := inClass (topS 32) 2
abbrev N_Parser_costs : List Str := ["self", "closing", "found", "token"]
theorem sc_Parser_costs : FnScope N_Parser_costs ["self", "closing"] (defScope s_Parser_costs) := ⟨rfl, rfl, rfl, by decide +kernel, rfl, by decide +kernel, by decide +kernel⟩
abbrev s_Parser_table : Stmt := inClass (topS 32) 3
abbrev N_Parser_table : List Str := ["self", "closing", "found", "token", "row"]
theorem sc_Parser_table : FnScope N_Parser_table ["self", "closing"] (defScope s_Parser_table) := ⟨rfl, rfl, rfl, by decide +kernel, rfl, by decide +kernel, by decide +kernel⟩
abbrev s_Parser_model : Stmt := inClass (topS 32) 4
abbrev N_Parser_model : List Str := ["self", "begin", "change"]
theorem sc_Parser_model : FnScope N_Parser_model ["self"] (defScope s_Parser_model) := ⟨rfl, rfl, rfl, by decide +kernel, rfl, by decide +kernel, by decide +kernel⟩
abbrev s_Parser_numbers : Stmt := inClass (topS 32) 5
abbrev N_Parser_numbers : List Str := ["self", "found", "token"]
theorem sc_Parser_numbers : FnScope N_Parser_numbers ["self"] (defScope s_Parser_numbers) := ⟨rfl, rfl, rfl, by decide +kernel, rfl, by decide +kernel, by decide +kernel⟩
abbrev s_next_tokens : Stmt := topS 33
abbrev N_next_tokens : List Str := ["text", "kind", "parser", "ahead"]
theorem sc_next_tokens : FnScope N_next_tokens ["text", "kind"] (defScope s_next_tokens) := ⟨rfl, rfl, rfl, by decide +kernel, rfl, by decide +kernel, by decide +kernel⟩
abbrev s_costs_of : Stmt := topS 34
abbrev N_costs_of : List Str := ["tokens", "most", "words", "found", "token"]
theorem sc_costs_of : FnScope N_costs_of ["tokens", "most", "words"] (defScope s_costs_of) := ⟨rfl, rfl, rfl, by decide +kernel, rfl, by decide +kernel, by decide +kernel⟩
abbrev s_change_of : Stmt := topS 35
abbrev N_change_of : List Str := ["rows", "many", "found", "tokens", "behind"]
theorem sc_change_of : FnScope N_change_of ["rows", "many"] (defScope s_change_of) := ⟨rfl, rfl, rfl, by decide +kernel, rfl, by decide +kernel, by decide +kernel⟩
abbrev s_show_of : Stmt := topS 36
abbrev N_show_of : List Str := ["rows", "many", "found", "tokens", "behind"]
theorem sc_show_of : FnScope N_show_of ["rows", "many"] (defScope s_show_of) := ⟨rfl, rfl, rfl, by decide +kernel, rfl, by decide +kernel, by decide +kernel⟩
abbrev s_read_model : Stmt := topS 37
abbrev N_read_model : List Str := ["text", "tokens", "change", "show", "begin"]
theorem sc_read_model : FnScope N_read_model ["text"] (defScope s_read_model) := ⟨rfl, rfl, rfl, by decide +kernel, rfl, by decide +kernel, by decide +kernel⟩
abbrev s_numbers_of : Stmt := topS 38
abbrev N_numbers_of : List Str := ["tokens", "many", "words", "none", "found", "token"]
theorem sc_numbers_of : FnScope N_numbers_of ["tokens", "many", "words", "none"] (defScope s_numbers_of) := ⟨rfl, rfl, rfl, by decide +kernel, rfl, by decide +kernel, by decide +kernel⟩
abbrev s_read_signs : Stmt := topS 39
abbrev N_read_signs : List Str := ["model", "text", "tokens"]
theorem sc_read_signs : FnScope N_read_signs ["model", "text"] (defScope s_read_signs) := ⟨rfl, rfl, rfl, by decide +kernel, rfl, by decide +kernel, by decide +kernel⟩
abbrev s_read_row : Stmt := topS 40
abbrev N_read_row : List Str := ["model", "text", "tokens"]
theorem sc_read_row : FnScope N_read_row ["model", "text"] (defScope s_read_row) := ⟨rfl, rfl, rfl, by decide +kernel, rfl, by decide +kernel, by decide +kernel⟩
abbrev s__law_stream : Stmt := topS 42
abbrev N__law_stream : List Str := ["_law_script"]
theorem sc__law_stream : FnScope N__law_stream ["_law_script"] (defScope s__law_stream) := ⟨rfl, rfl, rfl, by decide +kernel, rfl, by decide +kernel, by decide +kernel⟩
abbrev s__law_next : Stmt := topS 43
abbrev N__law_next : List Str := ["_law_stream_here", "_law_many", "_law_k", "_law_cell", "_law_digit"]
theorem sc__law_next : FnScope N__law_next ["_law_stream_here", "_law_many"] (defScope s__law_next) := ⟨rfl, rfl, rfl, by decide +kernel, rfl, by decide +kernel, by decide +kernel⟩
abbrev s__law_is_integer : Stmt := topS 44
abbrev N__law_is_integer : List Str := ["_law_actual"]
theorem sc__law_is_integer : FnScope N__law_is_integer ["_law_actual"] (defScope s__law_is_integer) := ⟨rfl, rfl, rfl, by decide +kernel, rfl, by decide +kernel, by decide +kernel⟩
abbrev s__law_equal : Stmt := topS 45
abbrev N__law_equal : List Str := ["_law_actual", "_law_due_here", "_law_at"]
theorem sc__law_equal : FnScope N__law_equal ["_law_actual", "_law_due_here"] (defScope s__law_equal) := ⟨rfl, rfl, rfl, by decide +kernel, rfl, by decide +kernel, by decide +kernel⟩
abbrev s__law_pick : Stmt := topS 46
abbrev N__law_pick : List Str := ["_law_stream_here", "_law_rows"]
theorem sc__law_pick : FnScope N__law_pick ["_law_stream_here", "_law_rows"] (defScope s__law_pick) := ⟨rfl, rfl, rfl, by decide +kernel, rfl, by decide +kernel, by decide +kernel⟩
abbrev s__law_laid : Stmt := topS 47
abbrev N__law_laid : List Str := ["_law_stream_here", "_law_words", "_law_text", "_law_places", "_law_k", "_law_word", "_law_near"]
theorem sc__law_laid : FnScope N__law_laid ["_law_stream_here", "_law_words"] (defScope s__law_laid) := ⟨rfl, rfl, rfl, by decide +kernel, rfl, by decide +kernel, by decide +kernel⟩
abbrev s__law_shown : Stmt := topS 48
abbrev N__law_shown : List Str := ["_law_kind"]
theorem sc__law_shown : FnScope N__law_shown ["_law_kind"] (defScope s__law_shown) := ⟨rfl, rfl, rfl, by decide +kernel, rfl, by decide +kernel, by decide +kernel⟩
abbrev s__law_kinds : Stmt := topS 49
abbrev N__law_kinds : List Str := []
theorem sc__law_kinds : FnScope N__law_kinds [] (defScope s__law_kinds) := ⟨rfl, rfl, rfl, by decide +kernel, rfl, by decide +kernel, by decide +kernel⟩
abbrev s__law_listed : Stmt := topS 50
abbrev N__law_listed : List Str := ["_law_words"]
theorem sc__law_listed : FnScope N__law_listed ["_law_words"] (defScope s__law_listed) := ⟨rfl, rfl, rfl, by decide +kernel, rfl, by decide +kernel, by decide +kernel⟩
abbrev s__law_table : Stmt := topS 51
abbrev N__law_table : List Str := ["_law_kind"]
theorem sc__law_table : FnScope N__law_table ["_law_kind"] (defScope s__law_table) := ⟨rfl, rfl, rfl, by decide +kernel, rfl, by decide +kernel, by decide +kernel⟩
abbrev s__law_due : Stmt := topS 52
abbrev N__law_due : List Str := ["_law_table_here", "_law_state", "_law_kind"]
theorem sc__law_due : FnScope N__law_due ["_law_table_here", "_law_state"] (defScope s__law_due) := ⟨rfl, rfl, rfl, by decide +kernel, rfl, by decide +kernel, by decide +kernel⟩
abbrev s__law_told : Stmt := topS 53
abbrev N__law_told : List Str := ["_law_text", "_law_kind", "_law_which", "_law_model", "_law_problem"]
theorem sc__law_told : FnScope N__law_told ["_law_text", "_law_kind", "_law_which"] (defScope s__law_told) := ⟨rfl, rfl, rfl, by decide +kernel, rfl, by decide +kernel, by decide +kernel⟩
abbrev s__law_token : Stmt := topS 54
abbrev N__law_token : List Str := ["_law_stream_here", "_law_kind"]
theorem sc__law_token : FnScope N__law_token ["_law_stream_here", "_law_kind"] (defScope s__law_token) := ⟨rfl, rfl, rfl, by decide +kernel, rfl, by decide +kernel, by decide +kernel⟩
abbrev s__law_is_right : Stmt := topS 55
abbrev N__law_is_right : List Str := ["_law_stream_here", "_law_table_here", "_law_kind", "_law_words", "_law_state", "_law_text", "_law_places", "_law_due_here", "_law_which", "_law_told_here"]
theorem sc__law_is_right : FnScope N__law_is_right ["_law_stream_here", "_law_table_here", "_law_kind", "_law_words", "_law_state"] (defScope s__law_is_right) := ⟨rfl, rfl, rfl, by decide +kernel, rfl, by decide +kernel, by decide +kernel⟩
abbrev s__law_goes_on : Stmt := topS 56
abbrev N__law_goes_on : List Str := ["_law_stream_here", "_law_table_here", "_law_kind", "_law_words", "_law_state", "_law_word", "_law_token_here", "_law_text", "_law_places", "_law_due_here", "_law_told_here", "_law_problem", "_law_strange"]
theorem sc__law_goes_on : FnScope N__law_goes_on ["_law_stream_here", "_law_table_here", "_law_kind", "_law_words", "_law_state"] (defScope s__law_goes_on) := ⟨rfl, rfl, rfl, by decide +kernel, rfl, by decide +kernel, by decide +kernel⟩
abbrev s_law : Stmt := topS 57
abbrev N_law : List Str := ["_law_script", "_law_stream_here", "_law_kind", "_law_table_here", "_law_state", "_law_words", "_law_turn", "_law_word", "_law_kept", "_law_told_here", "_law_one"]
theorem sc_law : FnScope N_law ["_law_script"] (defScope s_law) := ⟨rfl, rfl, rfl, by decide +kernel, rfl, by decide +kernel, by decide +kernel⟩
structure Tx (K : PySem.W.Frag) (mg : Str → Option Value) where
  z_isinstance : mg "isinstance" = none
  z_int : mg "int" = none
  z_bool : mg "bool" = none
  z_str : mg "str" = none
  z_list : mg "list" = none
  z_tuple : mg "tuple" = none
  z_len : mg "len" = none
  z_all : mg "all" = none
  z_abs : mg "abs" = none
  z_max : mg "max" = none
  z_range : mg "range" = none
  z_enumerate : mg "enumerate" = none
  t_DIGITS : Tok
  g_DIGITS : mg "DIGITS" = some (.str "0123456789" t_DIGITS)
  t_SIGNS : Tok
  g_SIGNS : mg "SIGNS" = some (.str "|," t_SIGNS)
  t_MOST_COST : Tok
  g_MOST_COST : mg "MOST_COST" = some (.int 3 t_MOST_COST)
  t_MOST_STATES : Tok
  g_MOST_STATES : mg "MOST_STATES" = some (.int 3 t_MOST_STATES)
  t_MOST_SHOWN : Tok
  g_MOST_SHOWN : mg "MOST_SHOWN" = some (.int 3 t_MOST_SHOWN)
  t_LONGEST : Tok
  g_LONGEST : mg "LONGEST" = some (.int 20 t_LONGEST)
  t_LONGEST_TEXT : Tok
  g_LONGEST_TEXT : mg "LONGEST_TEXT" = some (.int 400 t_LONGEST_TEXT)
  t_MOST_DIGITS : Tok
  g_MOST_DIGITS : mg "MOST_DIGITS" = some (.int 6 t_MOST_DIGITS)
  a_KINDS : Addr
  g_KINDS : mg "KINDS" = some (.ref a_KINDS)
  q_KINDS : ∀ H : Hp, SqT K H a_KINDS [.str "model", .str "numbers"]
  C_TextError : Addr
  g_TextError : mg "TextError" = some (.ref C_TextError)
  C_Ahead : Addr
  g_Ahead : mg "Ahead" = some (.ref C_Ahead)
  C_Parser : Addr
  g_Parser : mg "Parser" = some (.ref C_Parser)
  i_TextError : Ini K C_TextError "TextError.__init__" s_TextError_init ["self", "column", "words"]
  d_is_whole : Dn K mg "is_whole" s_is_whole ["value", "low", "high"]
  d_are_costs : Dn K mg "are_costs" s_are_costs ["value", "many"]
  d_are_rows : Dn K mg "are_rows" s_are_rows ["value", "many", "wide"]
  d_is_model : Dn K mg "is_model" s_is_model ["value"]
  d_states_of : Dn K mg "states_of" s_states_of ["model"]
  d_signs_of : Dn K mg "signs_of" s_signs_of ["model"]
  d_check_model : Dn K mg "check_model" s_check_model ["model"]
  d_check_text : Dn K mg "check_text" s_check_text ["text"]
  d_digits_at : Dn K mg "digits_at" s_digits_at ["text", "at"]
  d_token_at : Dn K mg "token_at" s_token_at ["text", "at"]
  d_scan : Dn K mg "scan" s_scan ["text"]
  d_shown : Dn K mg "shown" s_shown ["token"]
  d_in_order : Dn K mg "in_order" s_in_order ["options"]
  d_joined : Dn K mg "joined" s_joined ["options"]
  i_Ahead : Ini K C_Ahead "Ahead.__init__" s_Ahead_init ["self", "options"]
  i_Parser : Ini K C_Parser "Parser.__init__" s_Parser_init ["self", "tokens", "stops"]
  m_take : Mn K C_Parser "take" "Parser.take" s_Parser_take ["self", "options"]
  m_costs : Mn K C_Parser "costs" "Parser.costs" s_Parser_costs ["self", "closing"]
  m_table : Mn K C_Parser "table" "Parser.table" s_Parser_table ["self", "closing"]
  m_model : Mn K C_Parser "model" "Parser.model" s_Parser_model ["self"]
  m_numbers : Mn K C_Parser "numbers" "Parser.numbers" s_Parser_numbers ["self"]
  d_next_tokens : Dn K mg "next_tokens" s_next_tokens ["text", "kind"]
  d_costs_of : Dn K mg "costs_of" s_costs_of ["tokens", "most", "words"]
  d_change_of : Dn K mg "change_of" s_change_of ["rows", "many"]
  d_show_of : Dn K mg "show_of" s_show_of ["rows", "many"]
  d_read_model : Dn K mg "read_model" s_read_model ["text"]
  d_numbers_of : Dn K mg "numbers_of" s_numbers_of ["tokens", "many", "words", "none"]
  d_read_signs : Dn K mg "read_signs" s_read_signs ["model", "text"]
  d_read_row : Dn K mg "read_row" s_read_row ["model", "text"]
  d__law_stream : Dn K mg "_law_stream" s__law_stream ["_law_script"]
  d__law_next : Dn K mg "_law_next" s__law_next ["_law_stream_here", "_law_many"]
  d__law_is_integer : Dn K mg "_law_is_integer" s__law_is_integer ["_law_actual"]
  d__law_equal : Dn K mg "_law_equal" s__law_equal ["_law_actual", "_law_due_here"]
  d__law_pick : Dn K mg "_law_pick" s__law_pick ["_law_stream_here", "_law_rows"]
  d__law_laid : Dn K mg "_law_laid" s__law_laid ["_law_stream_here", "_law_words"]
  d__law_shown : Dn K mg "_law_shown" s__law_shown ["_law_kind"]
  d__law_kinds : Dn K mg "_law_kinds" s__law_kinds []
  d__law_listed : Dn K mg "_law_listed" s__law_listed ["_law_words"]
  d__law_table : Dn K mg "_law_table" s__law_table ["_law_kind"]
  d__law_due : Dn K mg "_law_due" s__law_due ["_law_table_here", "_law_state"]
  d__law_told : Dn K mg "_law_told" s__law_told ["_law_text", "_law_kind", "_law_which"]
  d__law_token : Dn K mg "_law_token" s__law_token ["_law_stream_here", "_law_kind"]
  d__law_is_right : Dn K mg "_law_is_right" s__law_is_right ["_law_stream_here", "_law_table_here", "_law_kind", "_law_words", "_law_state"]
  d__law_goes_on : Dn K mg "_law_goes_on" s__law_goes_on ["_law_stream_here", "_law_table_here", "_law_kind", "_law_words", "_law_state"]
  d_law : Dn K mg "law" s_law ["_law_script"]
  cl_Parser : Cls K C_Parser
  mk_Parser : Mk K C_Parser i_Parser.f
  na_tokens : NoAttr K C_Parser "tokens"
  na_stops : NoAttr K C_Parser "stops"
  na_at : NoAttr K C_Parser "at"
  ox_TextError : OexC K C_TextError
  xf_TextError : XfC K C_TextError
  no_TextError_column : PySem.W.findIn K (.ref C_TextError) "column" = some none
  no_TextError_words : PySem.W.findIn K (.ref C_TextError) "words" = some none
  ox_Ahead : OexC K C_Ahead
  xf_Ahead : XfC K C_Ahead
  no_Ahead_options : PySem.W.findIn K (.ref C_Ahead) "options" = some none
  ex_TT : PySem.W.exmOne K (.ref C_TextError) (.ref C_TextError) = some true
  ex_AA : PySem.W.exmOne K (.ref C_Ahead) (.ref C_Ahead) = some true
  ex_TA : PySem.W.exmOne K (.ref C_TextError) (.ref C_Ahead) = some false
end WC

/-! ## Kh -/
/-! helpers over the hand layer -/
namespace WC
open PySem PySem.Spec PyProof.Rows L2 Evl
/-- all but what stands at p is kept -/
def XB (p : Addr) (H H' : Hp) : Prop := ∀ b o, b ≠ p → H b = some o → H' b = some o
theorem XB.refl {p : Addr} {H : Hp} : XB p H H := fun _ _ _ h => h
theorem XB.trans {p : Addr} {H H1 H2 : Hp} (a : XB p H H1) (b : XB p H1 H2) : XB p H H2 := fun c o n h => b c o n (a c o n h)
theorem xb_of {p : Addr} {H H' : Hp} (e : Ex H H') : XB p H H' := fun b o _ h => e b o h
theorem XB.upd {p : Addr} {H : Hp} {o : HO} : XB p H (upd H p o) := fun b u n h => by rw [upd_ne n]; exact h
/-- what is not known is free to change -/
theorem XB.ex {p : Addr} {H H' : Hp} (x : XB p H H') (n : H p = none) : Ex H H' := fun b o h => x b o (ne_of_none h n) h
theorem XB.back {p q : Addr} {H H' : Hp} (x : XB p H H') (h : H' q = none) (ne : q ≠ p) : H q = none := by
  cases e : H q with
  | none => rfl
  | some o => rw [x q o ne e] at h; cases h
theorem sz_of' {n : Nat} (h : n ≤ 100000) : n ≤ sizeLine := sz_of h

theorem passX {X : Cx} {E : XK} (tk : Takes X (fun cls d _ H => E cls d H)) : Passes (L2.CX X.prog X.w) X E := passes_call tk fun _ _ _ _ h => h
/-- what a try wishes of an exception, at whatever slots -/
def EA (n : Nat) (W : WX) : XK := fun cls d H => ∀ σ : L2.St, σ.length = n → W cls d σ H
theorem passA {X : Cx} {W : WX} {n : Nat} (tk : Takes X W) (hn : X.N.length = n) : Passes (L2.CX X.prog X.w) X (EA n W) :=
  fun _ σ _ _ e s' I c => tk e s' (XE.of_call I (fun _ _ _ h => h σ (I.len.trans hn)) c)

section
variable {K : PySem.W.Frag} {σ : L2.St} {H H' : Hp} {ta tb te tx : TE} {t u : TT} {x y z v : V} {r : R2}
theorem Ev.at (h : Ev te σ H v) {Q : VK} (q : ∀ H', Ex H H' → Q v H') : te σ H Q := h H (Ex.refl H) Q q
theorem EvT.at {b : Bool} (h : EvT t σ H b) {Q : Bool → Hp → Prop} (q : ∀ H', Ex H H' → Q b H') : t σ H Q := h H (Ex.refl H) Q q
theorem EvL.at {xs : List V} (h : EvL te σ H xs) {Q : VK} (q : ∀ p H', H p = none → Ex H H' → H' p = some (.lst xs) → Q (.ref p) H') : te σ H Q := h H (Ex.refl H) Q q
theorem EvU.at {xs : List V} (h : EvU te σ H xs) {Q : VK} (q : ∀ p H', H p = none → Ex H H' → H' p = some (.tup xs) → Q (.ref p) H') : te σ H Q := h H (Ex.refl H) Q q
theorem EvU.mono {xs : List V} (e : Ex H H') (h : EvU te σ H xs) : EvU te σ H' xs := fun H1 a Q q => h H1 (e.trans a) Q q
/-! texts -/
theorem rv_adds {i j : Str} (hl : i.length + j.length ≤ 100000) : RV (fun x y H Q => ∃ i j, x = V.str i ∧ y = V.str j ∧ i.length + j.length ≤ sizeLine ∧ Q (.str (i ++ j)) H) (.str i) (.str j) H (.str (i ++ j)) :=
  fun H1 _ _ q => ⟨i, j, rfl, rfl, sz_of hl, q H1 (Ex.refl H1)⟩
theorem ev_len_s {w : Str} (h : Ev ta σ H (.str w)) (hl : w.length ≤ 100000) : Ev (tCB (fun xs H Q => ∃ x n, xs = [x] ∧ LenV K x H n ∧ Q (.int n) H) (tCons ta tNil)) σ H (.int (w.length : Int)) :=
  fun H1 e _ q => h H1 e _ fun H2 e2 => ⟨.str w, w.length, rfl, ⟨sz_of hl, rfl⟩, q H2 e2⟩
theorem ev_len_l {p : Addr} {xs : List V} (h : Ev ta σ H (.ref p)) (hs : SqL K H p xs) : Ev (tCB (fun xs H Q => ∃ x n, xs = [x] ∧ LenV K x H n ∧ Q (.int n) H) (tCons ta tNil)) σ H (.int (xs.length : Int)) :=
  fun H1 e _ q => h H1 e _ fun H2 e2 => ⟨.ref p, xs.length, rfl, .inl ⟨xs, ex_l (e.trans e2) hs, rfl⟩, q H2 e2⟩
theorem ev_len_t {p : Addr} {xs : List V} (h : Ev ta σ H (.ref p)) (hs : SqT K H p xs) : Ev (tCB (fun xs H Q => ∃ x n, xs = [x] ∧ LenV K x H n ∧ Q (.int n) H) (tCons ta tNil)) σ H (.int (xs.length : Int)) :=
  fun H1 e _ q => h H1 e _ fun H2 e2 => ⟨.ref p, xs.length, rfl, .inr ⟨xs, ex_t (e.trans e2) hs, rfl⟩, q H2 e2⟩
theorem ev_sl_s {tl th : TO} {w : Str} {lo hi : Option Int} (h : Ev te σ H (.str w)) (h1 : EvO tl σ H lo) (h2 : EvO th σ H hi) (hl : w.length ≤ 100000) : Ev (tSl rSlS te tl th) σ H (.str (cutS w lo hi)) :=
  fun H1 e _ q => h H1 e _ fun H2 e2 => h1 H2 (e.trans e2) _ fun H3 e3 => h2 H3 ((e.trans e2).trans e3) _ fun H4 e4 => ⟨w, rfl, sz_of hl, q H4 ((e2.trans e3).trans e4)⟩
theorem rv_insign {c : Nat} {w : Str} : RV (fun x y H Q => ∃ (c : Nat) (z : Str), x = V.str ⟨#[c]⟩ ∧ y = V.str z ∧ Q (.bl (decide (c ∈ z.cps.toList))) H) (.str ⟨#[c]⟩) (.str w) H (.bl (decide (c ∈ w.cps.toList))) :=
  fun H1 _ _ q => ⟨c, w, rfl, rfl, q H1 (Ex.refl H1)⟩
/-! isinstance -/
theorem ev_isi {ty n : String} {b : Bool} (h : Ev ta σ H x) (hx : ∀ H1, Ex H H1 → TyX K H1 x (.type ty)) (hc : Ev tb σ H (.ty n)) (hk : kitB ty n = some b) : Ev (tCB (rIsi K) (tCons ta (tCons tb tNil))) σ H (.bl b) :=
  fun H1 e _ q => h H1 e _ fun H2 e2 => hc H2 (e.trans e2) _ fun H3 e3 => ⟨x, .ty n, .type ty, .type n, b, rfl, .ty n, hx H3 ((e.trans e2).trans e3), kit_ty hk, q H3 (e2.trans e3)⟩
theorem tx_s {w : Str} : ∀ H1, Ex H H1 → TyX K H1 (.str w) (.type "str") := fun _ _ => .base (.str w)
theorem tx_i {i : Int} : ∀ H1, Ex H H1 → TyX K H1 (.int i) (.type "int") := fun _ _ => .base (.int i)
theorem tx_t {p : Addr} {xs : List V} (h : H p = some (.tup xs)) : ∀ H1, Ex H H1 → TyX K H1 (.ref p) (.type "tuple") := fun H1 e => .base (.tup (e p _ h))
theorem tx_l {p : Addr} {xs : List V} (h : H p = some (.lst xs)) : ∀ H1, Ex H H1 → TyX K H1 (.ref p) (.type "list") := fun H1 e => .base (.lst (e p _ h))
/-! fields, items -/
theorem ev_fld {a C dx : Addr} {fs : List (Str × V)} {f : Str} (h : Ev ta σ H (.ref a)) (ho : H a = some (.ins C dx fs)) (cl : Cls K C) (na : NoAttr K C f) (l : fs.lookup f = some v) : Ev (tFld K ta f) σ H v :=
  fun H1 e _ q => h H1 e _ fun H2 e2 => ⟨a, C, dx, fs, v, rfl, e2 _ _ (e _ _ ho), cl, na, l, q H2 e2⟩
theorem ev_ixl {p : Addr} {xs : List V} {i : Int} (h : Ev ta σ H (.ref p)) (hi : Ev tb σ H (.int i)) (hs : SqL K H p xs) (a : atI xs i = some v) : Ev (tOp (rIxL K) ta tb) σ H v := ev_op h hi (rv_ixL hs a)
theorem ev_ixt {p : Addr} {xs : List V} {i : Int} (h : Ev ta σ H (.ref p)) (hi : Ev tb σ H (.int i)) (hs : SqT K H p xs) (a : atI xs i = some v) : Ev (tOp (rIxT K) ta tb) σ H v := ev_op h hi (rv_ixT hs a)
theorem ev_ixs {w : Str} {i : Int} {c : Nat} (h : Ev ta σ H (.str w)) (hi : Ev tb σ H (.int i)) (hl : w.length ≤ 100000) (a : atI w.cps.toList i = some c) : Ev (tOp rIxS ta tb) σ H (.str ⟨#[c]⟩) := ev_op h hi (rv_ixS hl a)
theorem ev_neg {i : Int} (h : Ev ta σ H (.int i)) : Ev (tUn (rU fun i => .int (-i)) ta) σ H (.int (-i)) := ev_un h ru_neg
theorem ev_chain {i j k : Int} (ha : Ev ta σ H (.int i)) (hb : Ev tb σ H (.int j)) (hc : Ev tx σ H (.int k)) (f : Int → Int → Bool) :
    Ev (tChain (rI0 fun i j => .bl (f i j)) (rI0 fun i j => .bl (f i j)) ta tb tx) σ H (.bl (f i j && f j k)) := fun H1 e Q q =>
  ha H1 e _ fun H2 e2 => hb H2 (e.trans e2) _ fun H3 e3 => ⟨i, j, rfl, rfl, f i j, rfl, by
    cases hf : f i j with
    | true =>
      show tx σ H3 _
      refine hc H3 ((e.trans e2).trans e3) _ fun H4 e4 => ⟨j, k, rfl, rfl, ?_⟩
      have := q H4 ((e2.trans e3).trans e4)
      rw [hf, Bool.true_and] at this
      exact this
    | false =>
      show Q (.bl false) H3
      have := q H3 (e2.trans e3)
      rw [hf, Bool.false_and] at this
      exact this⟩
/-! dicts -/
theorem ev_dget {a : Addr} {kvs : List (Key × V)} {k : Key} (h : Ev ta σ H (.ref a)) (hi : Ev tb σ H (kV k)) (hs : H a = some (.dK kvs)) (hv : valV kvs k = some v) : Ev (tDGet ta tb) σ H v :=
  fun H1 e _ q => h H1 e _ fun H2 e2 => hi H2 (e.trans e2) _ fun H3 e3 => ⟨a, v, rfl, hv ▸ DGet.k (((e.trans e2).trans e3) _ _ hs), q H3 (e2.trans e3)⟩
theorem ev_din {a : Addr} {kvs : List (Key × V)} {k : Key} {b : Bool} (hi : Ev ta σ H (kV k)) (h : Ev tb σ H (.ref a)) (hs : H a = some (.dK kvs)) (hv : (valV kvs k).isSome = b) : Ev (tDIn ta tb) σ H (.bl b) :=
  fun H1 e _ q => hi H1 e _ fun H2 e2 => h H2 (e.trans e2) _ fun H3 e3 => ⟨a, valV kvs k, rfl, DGet.k (((e.trans e2).trans e3) _ _ hs), by rw [hv]; exact q H3 (e2.trans e3)⟩
/-! tuples, lists -/
theorem eu_catT {xs ys : List V} (ha : EvU ta σ H xs) {b : Addr} (hb : Ev tb σ H (.ref b)) (hs : SqT K H b ys) (hx : xs ≠ []) (hy : ys ≠ []) (hl : xs.length + ys.length ≤ 100000) : EvU (tOp (rCatT K) ta tb) σ H (xs ++ ys) :=
  fun H1 e _ q => ha H1 e _ fun p H2 hp e2 h2 => hb H2 (e.trans e2) _ fun H3 e3 => ⟨p, b, xs, ys, rfl, rfl, st_of (e3 _ _ h2), ex_t ((e.trans e2).trans e3) hs, hx, sz_of hl, fun z => (hy z).elim, fun _ n hn =>
    q n _ (fresh_back (e2.trans e3) hn) ((e2.trans e3).trans (Ex.new hn)) upd_same⟩
theorem el_cat {xs ys : List V} (ha : EvL ta σ H xs) (hb : EvL tb σ H ys) (hl : xs.length + ys.length ≤ 100000) : EvL (tOp rCat ta tb) σ H (xs ++ ys) :=
  fun H1 e _ q => ha H1 e _ fun p H2 hp e2 h2 => hb H2 (e.trans e2) _ fun b H3 hb3 e3 h3 => ⟨p, b, xs, ys, rfl, rfl, e3 _ _ h2, h3, sz_of hl, fun n hn =>
    q n _ (fresh_back (e2.trans e3) hn) ((e2.trans e3).trans (Ex.new hn)) upd_same⟩
theorem el_cat1 {xs ys : List V} {a : Addr} (ha : Ev ta σ H (.ref a)) (hs : H a = some (.lst xs)) (hb : EvL tb σ H ys) (hl : xs.length + ys.length ≤ 100000) : EvL (tOp rCat ta tb) σ H (xs ++ ys) :=
  fun H1 e _ q => ha H1 e _ fun H2 e2 => hb H2 (e.trans e2) _ fun b H3 hb3 e3 h3 => ⟨a, b, xs, ys, rfl, rfl, ((e.trans e2).trans e3) _ _ hs, h3, sz_of hl, fun n hn =>
    q n _ (fresh_back (e2.trans e3) hn) ((e2.trans e3).trans (Ex.new hn)) upd_same⟩
theorem ea_two {y : V} (h : Ev ta σ H x) (h2 : Ev tb σ H y) : EvA (tCons ta (tCons tb tNil)) σ H [x, y] := ea_cons h (ea_cons h2 ea_nil)
theorem ea_one (h : Ev ta σ H x) : EvA (tCons ta tNil) σ H [x] := ea_cons h ea_nil
theorem ea_three {y : V} (h : Ev ta σ H x) (h2 : Ev tb σ H y) (h3 : Ev tx σ H z) : EvA (tCons ta (tCons tb (tCons tx tNil))) σ H [x, y, z] := ea_cons h (ea_cons h2 (ea_cons h3 ea_nil))
theorem et_cmp (h : Ev te σ H (.bl true)) : EvT (tTest te) σ H true := et_test h
/-! comprehensions over a tuple, over a text -/
theorem el_lcT {a : Addr} {xs : List V} {tl : TE} {j : Nat} {vs : List Nat} (f : Nat → Bool) (v : Nat → V) (h : Ev tl σ H (.ref a)) (hx : SqT K H a xs) (hz : xs.length ≤ 40000) (hw : ∀ x, wipe ((wipe σ vs).set j (some x)) vs = wipe σ vs)
    (ht : ∀ (i : Nat) (x : V) H1, Ex H H1 → xs[i]? = some x → EvT t ((wipe σ vs).set j (some x)) H1 (f i)) (he : ∀ (i : Nat) (x : V) H1, Ex H H1 → xs[i]? = some x → f i = true → Ev te ((wipe σ vs).set j (some x)) H1 (v i)) :
    EvL (tLc (iTup K tl) (gName j) t te vs) σ H (given xs.length f v) := fun H0 e Q q => h H0 e _ fun H1 e1 => ⟨a, rfl, ⟨xs, ex_t (e.trans e1) hx⟩, fun Dl hD =>
  lc_tup (xs := xs) (Cw H1 f v Dl) ⟨hD, Ex.new hD, upd_same⟩ (fun _ _ _ p => ex_t ((e.trans e1).trans p.2.1) hx)
    (fun i x _ hi p => ⟨hw x, cw_turn p (by have := (List.getElem?_eq_some_iff.mp hi).1; omega) (ht i x H1 (e.trans e1) hi) (fun hf => he i x H1 (e.trans e1) hi hf)⟩) fun H' p => q Dl H' (fresh_back e1 p.1) (e1.trans p.2.1) p.2.2⟩
theorem el_lcS {w : Str} {tl : TE} {j : Nat} {vs : List Nat} (f : Nat → Bool) (v : Nat → V) (h : Ev tl σ H (.str w)) (hz : w.cps.size ≤ 40000) (hw : ∀ x, wipe ((wipe σ vs).set j (some x)) vs = wipe σ vs)
    (ht : ∀ (i : Nat) (c : Nat) H1, Ex H H1 → w.cps[i]? = some c → EvT t ((wipe σ vs).set j (some (.str ⟨#[c]⟩))) H1 (f i)) (he : ∀ (i : Nat) (c : Nat) H1, Ex H H1 → w.cps[i]? = some c → f i = true → Ev te ((wipe σ vs).set j (some (.str ⟨#[c]⟩))) H1 (v i)) :
    EvL (tLc (iStr tl) (gName j) t te vs) σ H (given w.cps.size f v) := fun H0 e Q q => h H0 e _ fun H1 e1 => ⟨w, rfl, fun Dl hD =>
  lc_it walk_str (Cw H1 f v Dl) ⟨hD, Ex.new hD, upd_same⟩ (fun _ _ _ _ => trivial) (fun i x Ha Hb hi p y => by
    obtain ⟨rfl, c, hc, rfl⟩ := y
    exact ⟨hw _, cw_turn p (by omega) (ht i c H1 (e.trans e1) hc) (fun hf => he i c H1 (e.trans e1) hc hf)⟩) fun H' p => q Dl H' (fresh_back e1 p.1) (e1.trans p.2.1) p.2.2⟩
theorem et_yes : EvT tYes σ H true := fun H1 _ _ q => q H1 (Ex.refl H1)
end
end WC

/-! ## KMath -/
/-! the plain law: tokens, the automaton, what a laid text is read as; no program here -/
namespace WC
open PySem L2
/-! ### tokens -/
def isDig (c : Nat) : Bool := decide (48 ≤ c) && decide (c ≤ 57)
inductive Tk where
  | num (x : List Nat) (c : Int) | bar (c : Int) | com (c : Int) | fin (c : Int)
def Tk.kind : Tk → Str
  | .num _ _ => "number"
  | .bar _ => "sign"
  | .com _ => "sign"
  | .fin _ => "end"
def Tk.chs : Tk → Str
  | .num x _ => ⟨x.toArray⟩
  | .bar _ => "|"
  | .com _ => ","
  | .fin _ => ""
def Tk.col : Tk → Int
  | .num _ c => c
  | .bar c => c
  | .com c => c
  | .fin c => c
def Tk.len : Tk → Nat
  | .num x _ => x.length
  | .bar _ => 1
  | .com _ => 1
  | .fin _ => 0
def Tk.shown : Tk → Str
  | .num _ _ => "a number"
  | .bar _ => "\"|\""
  | .com _ => "\",\""
  | .fin _ => "the end"
def Tk.isNum : Tk → Bool
  | .num _ _ => true
  | _ => false
def Tk.isFin : Tk → Bool
  | .fin _ => true
  | _ => false
def Tk.v (t : Tk) : List V := [.str t.kind, .str t.chs, .int t.col]
/-- a number's signs are digits, one to six -/
def Tk.fine : Tk → Prop
  | .num x _ => x ≠ [] ∧ (∀ c ∈ x, isDig c = true) ∧ x.length ≤ 6
  | _ => True
abbrev Sc := Except (Int × Str) (List Tk)
def consR (t : Tk) : Sc → Sc
  | .ok l => .ok (t :: l)
  | .error e => .error e
def consAll : List Tk → Sc → Sc
  | l, .ok r => .ok (l ++ r)
  | _, .error e => .error e
theorem consAll_nil (R : Sc) : consAll [] R = R := by cases R <;> rfl
theorem consAll_snoc (l : List Tk) (t : Tk) (R : Sc) : consAll (l ++ [t]) R = consAll l (consR t R) := by
  cases R <;> simp [consAll, consR]
theorem consAll_cons (l : List Tk) (t : Tk) (R : Sc) : consAll (t :: l) R = consR t (consAll l R) := by
  cases R <;> simp [consAll, consR]
/-- the token that stands first -/
inductive Tok1 : List Nat → Nat → Tk → List Nat → Prop
  | bar (n : Nat) (r : List Nat) : Tok1 (124 :: r) n (.bar ((n + 1 : Nat) : Int)) r
  | com (n : Nat) (r : List Nat) : Tok1 (44 :: r) n (.com ((n + 1 : Nat) : Int)) r
  | num {d : Nat} {ds : List Nat} (n : Nat) (r : List Nat) (h : ∀ c ∈ d :: ds, isDig c = true) (hl : (d :: ds).length ≤ 6) (hr : ∀ c, r.head? = some c → isDig c = false) :
      Tok1 (d :: ds ++ r) n (.num (d :: ds) ((n + 1 : Nat) : Int)) r
/-- the problem that stands first -/
inductive Tok1E : List Nat → Nat → Int → Str → Prop
  | long {d : Nat} {ds : List Nat} (n : Nat) (r : List Nat) (h : ∀ c ∈ d :: ds, isDig c = true) (hl : 6 < (d :: ds).length) (hr : ∀ c, r.head? = some c → isDig c = false) :
      Tok1E (d :: ds ++ r) n ((n + 1 : Nat) : Int) "a number has at most 6 digits"
  | strange {c : Nat} (n : Nat) (r : List Nat) (h1 : c ≠ 32) (h2 : c ≠ 124) (h3 : c ≠ 44) (h4 : isDig c = false) : Tok1E (c :: r) n ((n + 1 : Nat) : Int) "no token begins here"
inductive Scans : List Nat → Nat → Sc → Prop
  | nil (n : Nat) : Scans [] n (.ok [.fin ((n + 1 : Nat) : Int)])
  | blank {r : List Nat} {n : Nat} {R : Sc} (h : Scans r (n + 1) R) : Scans (32 :: r) n R
  | tok {cs r : List Nat} {n : Nat} {t : Tk} {R : Sc} (h : Tok1 cs n t r) (hr : Scans r (n + t.len) R) : Scans cs n (consR t R)
  | bad {cs : List Nat} {n : Nat} {c : Int} {w : Str} (h : Tok1E cs n c w) : Scans cs n (.error (c, w))
theorem scans_blanks (b : Nat) : ∀ {y : List Nat} {n : Nat} {R : Sc}, Scans y (n + b) R → Scans (List.replicate b 32 ++ y) n R := by
  induction b with
  | zero => intro y n R h; simpa using h
  | succ b ih =>
    intro y n R h
    rw [List.replicate_succ, List.cons_append]
    refine .blank (ih ?_)
    rw [show n + 1 + b = n + (b + 1) by omega]
    exact h
/-! ### the automaton -/
inductive S where
  | s0 | begin | change | row | shw | last | nums
  deriving DecidableEq
def S.name : S → Str
  | .s0 => ""
  | .begin => "begin"
  | .change => "change"
  | .row => "row"
  | .shw => "show"
  | .last => "last"
  | .nums => ""
/-- what the program's own lists of options are, in their order there -/
def S.opts : S → List Str
  | .s0 => ["a number"]
  | .begin => ["a number", "\"|\""]
  | .change => ["a number"]
  | .row => ["a number", "\",\"", "\"|\""]
  | .shw => ["a number"]
  | .last => ["a number", "\",\"", "the end"]
  | .nums => ["a number", "the end"]
/-- none: it can't come; some none: the text is over -/
def S.step : S → Tk → Option (Option S)
  | .s0, .num _ _ => some (some .begin)
  | .begin, .num _ _ => some (some .begin)
  | .begin, .bar _ => some (some .change)
  | .change, .num _ _ => some (some .row)
  | .row, .num _ _ => some (some .row)
  | .row, .com _ => some (some .change)
  | .row, .bar _ => some (some .shw)
  | .shw, .num _ _ => some (some .last)
  | .last, .num _ _ => some (some .last)
  | .last, .com _ => some (some .shw)
  | .last, .fin _ => some none
  | .nums, .num _ _ => some (some .nums)
  | .nums, .fin _ => some none
  | _, _ => none
def orderL : List Str := ["a number", "\"|\"", "\",\"", "the end"]
def inOrder (o : List Str) : List Str := orderL.filter fun x => o.any fun y => y == x
def joinedS (l : List Str) : Str := if l.length = 1 then l.headD "" else Txt.join ", " l.dropLast ++ " or " ++ l.getLastD ""
def expS (s : S) : Str := "expected " ++ joinedS (inOrder s.opts)
inductive Out where
  | ahead (o : List Str) | bad (c : Int) (w : Str) | ok
def run (stops : Bool) : S → List Tk → Out
  | _, [] => .ok
  | s, t :: r => if (t.isFin && stops) = true then .ahead (inOrder s.opts) else
    match s.step t with
    | none => .bad t.col (expS s)
    | some none => .ok
    | some (some s') => run stops s' r
theorem step_shown (s : S) (t : Tk) : (s.step t).isSome = s.opts.any fun y => y == t.shown := by
  cases s <;> cases t <;> first | rfl | decide +kernel
/-! ### words of a walk -/
inductive Wd where
  | num (k : Fin 5) | bar | com
def numTxt : Fin 5 → List Nat
  | 0 => [48]
  | 1 => [49]
  | 2 => [51]
  | 3 => [57]
  | 4 => [48, 48, 48, 48, 48, 50]
def Wd.cs : Wd → List Nat
  | .num k => numTxt k
  | .bar => [124]
  | .com => [44]
def Wd.txt (w : Wd) : Str := ⟨w.cs.toArray⟩
def Wd.tk : Wd → Int → Tk
  | .num k, c => .num (numTxt k) c
  | .bar, c => .bar c
  | .com, c => .com c
def Wd.isNum : Wd → Bool
  | .num _ => true
  | _ => false
def S.stepW (s : S) (w : Wd) : Option S := (s.step (w.tk 0)).bind id
theorem step_tk (s : S) (w : Wd) (c : Int) : s.step (w.tk c) = (s.stepW w).map some := by cases s <;> cases w <;> rfl
theorem tk_col (w : Wd) (c : Int) : (w.tk c).col = c := by cases w <;> rfl
theorem tk_len (w : Wd) (c : Int) : (w.tk c).len = w.cs.length := by cases w <;> rfl
theorem tk_fin (w : Wd) (c : Int) : (w.tk c).isFin = false := by cases w <;> rfl
theorem numTxt_dig (k : Fin 5) : ∀ c ∈ numTxt k, isDig c = true := by
  revert k; decide
theorem numTxt_len (k : Fin 5) : 0 < (numTxt k).length ∧ (numTxt k).length ≤ 6 := by
  revert k; decide
theorem cs_len (w : Wd) : 0 < w.cs.length ∧ w.cs.length ≤ 6 := by
  cases w with
  | num k => exact numTxt_len k
  | _ => exact ⟨by decide, by decide⟩
theorem tk_fine (w : Wd) (c : Int) : (w.tk c).fine := by
  cases w with
  | num k =>
    refine ⟨fun z => ?_, numTxt_dig k, (numTxt_len k).2⟩
    have := (numTxt_len k).1
    rw [z] at this
    exact absurd this (by decide)
  | _ => trivial
def stepsW (s : S) : List Wd → Option S
  | [] => some s
  | w :: r => (s.stepW w).bind fun s' => stepsW s' r
theorem stepsW_snoc (w : Wd) : ∀ (ws : List Wd) (s : S), stepsW s (ws ++ [w]) = (stepsW s ws).bind fun s' => s'.stepW w
  | [], s => by simp [stepsW]
  | v :: ws, s => by
    rw [List.cons_append]
    show (s.stepW v).bind (fun s' => stepsW s' (ws ++ [w])) = ((s.stepW v).bind fun s' => stepsW s' ws).bind _
    cases h : s.stepW v with
    | none => rfl
    | some s' => exact stepsW_snoc w ws s'
/-! ### a laid text: pairs of the blanks ahead of a word and its signs -/
abbrev Ly := List (Nat × List Nat)
def textC : Ly → List Nat
  | [] => []
  | (b, w) :: r => List.replicate b 32 ++ (w ++ textC r)
def colsC : Nat → Ly → List Int
  | _, [] => []
  | n, (b, w) :: r => ((n + b + 1 : Nat) : Int) :: colsC (n + b + w.length) r
def dig? (o : Option Nat) : Bool := o.any isDig
/-- a number behind a number has a blank ahead -/
def Near : Bool → Ly → Prop
  | _, [] => True
  | p, (b, w) :: r => (p = true → dig? w.head? = true → 1 ≤ b) ∧ Near (dig? w.getLast?) r
theorem textC_app : ∀ (l m : Ly), textC (l ++ m) = textC l ++ textC m
  | [], _ => rfl
  | (b, w) :: r, m => by
    show List.replicate b 32 ++ (w ++ textC (r ++ m)) = (List.replicate b 32 ++ (w ++ textC r)) ++ textC m
    rw [textC_app r m]
    simp
theorem colsC_app : ∀ (n : Nat) (l m : Ly), colsC n (l ++ m) = colsC n l ++ colsC (n + (textC l).length) m
  | n, [], m => by simp [colsC, textC]
  | n, (b, w) :: r, m => by
    show _ :: colsC (n + b + w.length) (r ++ m) = _ :: (colsC (n + b + w.length) r ++ _)
    rw [colsC_app]
    have : n + b + w.length + (textC r).length = n + (textC ((b, w) :: r)).length := by simp [textC]; omega
    rw [this]
theorem colsC_len : ∀ (n : Nat) (l : Ly), (colsC n l).length = l.length
  | _, [] => rfl
  | n, (b, w) :: r => by
    show (colsC _ r).length + 1 = _
    rw [colsC_len]
    rfl
def lastD (p : Bool) : Ly → Bool
  | [] => p
  | (_, w) :: r => lastD (dig? w.getLast?) r
theorem near_app : ∀ (p : Bool) (l m : Ly), Near p (l ++ m) ↔ Near p l ∧ Near (lastD p l) m
  | p, [], m => by simp [Near, lastD]
  | p, (b, w) :: r, m => by
    show (_ ∧ Near _ (r ++ m)) ↔ (_ ∧ Near _ r) ∧ Near (lastD _ r) m
    rw [near_app]
    constructor
    · rintro ⟨a, b, c⟩; exact ⟨⟨a, b⟩, c⟩
    · rintro ⟨⟨a, b⟩, c⟩; exact ⟨a, b, c⟩
/-! ### a walk's layout -/
abbrev Lw := List (Nat × Wd)
def ly (l : Lw) : Ly := l.map fun q => (q.1, q.2.cs)
def toks : Nat → Lw → List Tk
  | _, [] => []
  | n, (b, w) :: r => w.tk ((n + b + 1 : Nat) : Int) :: toks (n + b + w.cs.length) r
theorem dig_head (w : Wd) : dig? w.cs.head? = w.isNum := by
  cases w with
  | num k => revert k; decide
  | _ => rfl
theorem dig_last (w : Wd) : dig? w.cs.getLast? = w.isNum := by
  cases w with
  | num k => revert k; decide
  | _ => rfl
theorem head_blank {b : Nat} (h : 1 ≤ b) (y : List Nat) : ∀ c, (List.replicate b 32 ++ y).head? = some c → isDig c = false := by
  intro c hc
  obtain ⟨b', rfl⟩ : ∃ b', b = b' + 1 := ⟨b - 1, by omega⟩
  rw [List.replicate_succ, List.cons_append, List.head?_cons] at hc
  cases hc
  decide
/-- a walk's words are read as its tokens, then what stands behind -/
theorem scans_walk : ∀ (l : Lw) (p : Bool) (n : Nat) (z : List Nat) (R : Sc), Near p (ly l) → (lastD p (ly l) = true → ∀ c, z.head? = some c → isDig c = false) →
    Scans z (n + (textC (ly l)).length) R → Scans (textC (ly l) ++ z) n (consAll (toks n l) R)
  | [], p, n, z, R, _, _, h => by
    rw [show toks n [] = [] from rfl, consAll_nil]
    simpa [ly, textC] using h
  | (b, w) :: r, p, n, z, R, hn, hz, h => by
    have hn' : (p = true → dig? w.cs.head? = true → 1 ≤ b) ∧ Near (dig? w.cs.getLast?) (ly r) := hn
    have e1 : textC (ly ((b, w) :: r)) = List.replicate b 32 ++ (w.cs ++ textC (ly r)) := rfl
    have e2 : n + (textC (ly ((b, w) :: r))).length = n + b + w.cs.length + (textC (ly r)).length := by rw [e1]; simp; omega
    rw [e2] at h
    have ih := scans_walk r (dig? w.cs.getLast?) (n + b + w.cs.length) z R hn'.2 hz h
    rw [e1, List.append_assoc, List.append_assoc]
    refine scans_blanks b ?_
    show Scans _ (n + b) (consAll (w.tk ((n + b + 1 : Nat) : Int) :: toks (n + b + w.cs.length) r) R)
    rw [consAll_cons]
    refine .tok (t := w.tk ((n + b + 1 : Nat) : Int)) (r := textC (ly r) ++ z) ?_ (by rw [tk_len]; exact ih)
    cases w with
    | bar => exact .bar _ _
    | com => exact .com _ _
    | num k =>
      have hd : ∀ c, (textC (ly r) ++ z).head? = some c → isDig c = false := by
        have hp : dig? (Wd.num k).cs.getLast? = true := dig_last _
        rw [hp] at hn'
        cases r with
        | nil => exact hz (by show dig? (Wd.num k).cs.getLast? = true; exact hp)
        | cons q r =>
          obtain ⟨b', w'⟩ := q
          have h2 : (true = true → dig? w'.cs.head? = true → 1 ≤ b') ∧ _ := hn'.2
          intro c hc
          have hc' : ((List.replicate b' 32 ++ (w'.cs ++ textC (ly r))) ++ z).head? = some c := hc
          rw [List.append_assoc] at hc'
          by_cases hb : 1 ≤ b'
          · exact head_blank hb _ c hc'
          · have hb0 : b' = 0 := by omega
            subst hb0
            cases w' with
            | num k' => exact absurd (h2.1 rfl (dig_head _)) hb
            | bar =>
              have h3 : some 124 = some c := hc'
              cases h3
              decide
            | com =>
              have h3 : some 44 = some c := hc'
              cases h3
              decide
      have e := numTxt_dig k
      have el := numTxt_len k
      show Tok1 (numTxt k ++ (textC (ly r) ++ z)) (n + b) (.num (numTxt k) ((n + b + 1 : Nat) : Int)) _
      cases hk : numTxt k with
      | nil => rw [hk] at el; exact absurd el.1 (by decide)
      | cons d ds =>
        rw [hk] at e el
        exact .num _ _ e el.2 hd
theorem run_walk (st : Bool) (T : List Tk) : ∀ (l : Lw) (n : Nat) (s s' : S), stepsW s (l.map (·.2)) = some s' → run st s (toks n l ++ T) = run st s' T
  | [], _, s, s', h => by cases h; rfl
  | (b, w) :: r, n, s, s', h => by
    have h' : (s.stepW w).bind (fun s1 => stepsW s1 (r.map (·.2))) = some s' := h
    cases hs : s.stepW w with
    | none => rw [hs] at h'; cases h'
    | some s1 =>
      rw [hs] at h'
      have ih := run_walk st T r (n + b + w.cs.length) s1 s' h'
      show (if ((w.tk _).isFin && st) = true then _ else match s.step (w.tk _) with | none => _ | some none => _ | some (some s2) => run st s2 (toks _ r ++ T)) = _
      rw [tk_fin, step_tk, hs]
      exact ih
theorem run_fin (s : S) (c : Int) (T : List Tk) : run true s (.fin c :: T) = .ahead (inOrder s.opts) := rfl
theorem run_fin0 (s : S) (c : Int) (T : List Tk) : run false s (.fin c :: T) = if (s.step (.fin 0)).isSome = true then .ok else .bad c (expS s) := by
  cases s <;> rfl
theorem run_bad (st : Bool) (s : S) (w : Wd) (c : Int) (T : List Tk) (h : s.stepW w = none) : run st s (w.tk c :: T) = .bad c (expS s) := by
  show (if ((w.tk _).isFin && st) = true then _ else match s.step (w.tk _) with | none => _ | some none => _ | some (some s2) => run st s2 T) = _
  rw [tk_fin, step_tk, h]
  show Out.bad (w.tk c).col _ = _
  rw [tk_col]
end WC

/-! ## Kd1 -/
/-! the errors' makers, the parser's maker -/
namespace WC
open PySem PySem.Spec PyProof.Rows L2 Evl
section
variable {P : Program} {w : World} {K : PySem.W.Frag} {mg : Str → Option Value} {base : Heap}
def spTE (C : Addr) : Sp := fun vs H Q _ => ∃ a c z, vs = [.ref a, c, z] ∧ H a = some (exo a C none) ∧
  ∀ H' d, H d = none → d ≠ a → XB a H H' → H' a = some (exo a C (some d)) → H' d = some (exd d [("words", z), ("column", c)]) → Q .non H'
theorem ok_TextError_init (T : Tx K mg) : FnOk P w K mg base CX0 1 T.i_TextError.f T.i_TextError.fd ["self", "column", "words"] (spTE T.C_TextError) := by
  refine T.i_TextError.F.ok sc_TextError_init (fun vs H Q E h => ?_) (fun cdv A outer s H vs Q E hr h => ?_)
  · obtain ⟨a, c, z, rfl, _⟩ := h
    rfl
  · obtain ⟨a, c, z, rfl, ha, k⟩ := h
    refine ⟨_, (pss_cons (ps_ost (pv 0) (pv 1))
  (pss_one (ps_ost (pv 0) (pv 2)))), ?_⟩
    refine ⟨_, rfl, _, rfl, a, T.C_TextError, rfl, T.ox_TextError, T.no_TextError_column, .inl ⟨ha, fun dx hd ne => ?_⟩⟩
    refine ⟨_, rfl, _, rfl, a, T.C_TextError, rfl, T.ox_TextError, T.no_TextError_words, .inr ⟨dx, _, upd_same, (upd_ne ne).trans upd_same, by simp, ?_⟩⟩
    refine k _ dx hd ne (fun b o n e => ?_) ((upd_ne ne.symm).trans upd_same) upd_same
    have nb : b ≠ dx := ne_of_none e hd
    rw [upd_ne nb, upd_ne n, upd_ne nb]
    exact e
def spAI (C : Addr) : Sp := fun vs H Q _ => ∃ a c, vs = [.ref a, c] ∧ H a = some (exo a C none) ∧
  ∀ H' d, H d = none → d ≠ a → XB a H H' → H' a = some (exo a C (some d)) → H' d = some (exd d [("options", c)]) → Q .non H'
theorem ok_Ahead_init (T : Tx K mg) : FnOk P w K mg base CX0 1 T.i_Ahead.f T.i_Ahead.fd ["self", "options"] (spAI T.C_Ahead) := by
  refine T.i_Ahead.F.ok sc_Ahead_init (fun vs H Q E h => ?_) (fun cdv A outer s H vs Q E hr h => ?_)
  · obtain ⟨a, c, rfl, _⟩ := h
    rfl
  · obtain ⟨a, c, rfl, ha, k⟩ := h
    refine ⟨_, (pss_one (ps_ost (pv 0) (pv 1))), ?_⟩
    refine ⟨_, rfl, _, rfl, a, T.C_Ahead, rfl, T.ox_Ahead, T.no_Ahead_options, .inl ⟨ha, fun dx hd ne => ?_⟩⟩
    refine k _ dx hd ne (fun b o n e => ?_) upd_same ((upd_ne ne).trans upd_same)
    have nb : b ≠ dx := ne_of_none e hd
    rw [upd_ne n, upd_ne nb]
    exact e
/-- a parser's fields -/
def pf (L : Addr) (b : Bool) (n : Int) : List (Str × V) := [("tokens", .ref L), ("stops", .bl b), ("at", .int n)]
def spPI (C : Addr) : Sp := fun vs H Q _ => ∃ a dx L b, vs = [.ref a, .ref L, .bl b] ∧ H a = some (.ins C dx []) ∧
  ∀ H', XB a H H' → H' a = some (.ins C dx (pf L b 0)) → Q .non H'
theorem pf_put (L : Addr) (b : Bool) : putF "at" (.int 0) (putF "stops" (.bl b) (putF "tokens" (.ref L) [])) = pf L b 0 := by
  have h1 : (("tokens" : Str) = "stops") = False := by simp; decide +kernel
  have h2 : (("tokens" : Str) = "at") = False := by simp; decide +kernel
  have h3 : (("stops" : Str) = "at") = False := by simp; decide +kernel
  simp [putF, pf, h1, h2, h3]
theorem ok_Parser_init (T : Tx K mg) : FnOk P w K mg base CX0 1 T.i_Parser.f T.i_Parser.fd ["self", "tokens", "stops"] (spPI T.C_Parser) := by
  refine T.i_Parser.F.ok sc_Parser_init (fun vs H Q E h => ?_) (fun cdv A outer s H vs Q E hr h => ?_)
  · obtain ⟨a, dx, L, b, rfl, _⟩ := h
    rfl
  · obtain ⟨a, dx, L, b, rfl, ha, k⟩ := h
    refine ⟨_, (pss_cons (ps_fld (pv 0) (pv 1) rfl)
  (pss_cons (ps_fld (pv 0) (pv 2) rfl)
  (pss_one (ps_fld (pv 0) pe_int rfl)))), ?_⟩
    refine ⟨_, rfl, _, rfl, a, T.C_Parser, dx, [], rfl, ha, T.cl_Parser, T.na_tokens, by decide, ?_⟩
    refine ⟨_, rfl, _, rfl, a, T.C_Parser, dx, _, rfl, upd_same, T.cl_Parser, T.na_stops, Nat.lt_of_le_of_lt (length_putF _ _ _) (by decide), ?_⟩
    refine ⟨_, rfl, a, T.C_Parser, dx, _, rfl, upd_same, T.cl_Parser, T.na_at, Nat.lt_of_le_of_lt (length_putF _ _ _) (Nat.lt_of_le_of_lt (Nat.add_le_add_right (length_putF _ _ _) 1) (by decide)), ?_⟩
    rw [upd_upd, upd_upd, pf_put]
    exact k _ XB.upd upd_same
/-! raising -/
theorem mk_same {a d : Addr} {H1 H2 : Hp} {C : Addr} {u u2 : HO} (hn : H1 a = none) (hd : H1 d = none) (x : XB a (upd H1 a u) H2) : Ex H1 (upd (del H2 a) d u2) := fun b o e => by
  have nb := ne_of_none e hd
  have na := ne_of_none e hn
  rw [upd_ne nb, del_ne na]
  exact x b o na (by rw [upd_ne na]; exact e)
theorem rd_TE {C : Addr} {ta : TA} {σ : L2.St} {H : Hp} {Q : XK} {c z : V} (h : EvA ta σ H [c, z])
    (k : ∀ H' d, Ex H H' → H d = none → H' d = some (.xd [("words", z), ("column", c)]) → Q (.ref C) (some d) H') : tMkO C (spTE C) [] ta σ H Q := by
  refine h H (Ex.refl H) _ fun H1 e1 => ⟨by simp, fun a hn => ⟨a, c, z, rfl, upd_same, fun H2 d hd ne x e2 e3 => ⟨rfl, d, _, e2, e3, ?_, ?_⟩⟩⟩
  · rw [upd_ne ne] at hd
    exact hd
  · rw [upd_ne ne] at hd
    exact k _ d (e1.trans (mk_same (C := C) hn hd x)) (fresh_back e1 hd) upd_same
theorem rd_AI {C : Addr} {ta : TA} {σ : L2.St} {H : Hp} {Q : XK} {xs : List V} (h : ∀ R : List V → Hp → Prop, (∀ p H1, H p = none → Ex H H1 → H1 p = some (.lst xs) → R [.ref p] H1) → ta σ H R)
    (k : ∀ p H' d, Ex H H' → H p = none → H d = none → H' p = some (.lst xs) → H' d = some (.xd [("options", .ref p)]) → Q (.ref C) (some d) H') : tMkO C (spAI C) [] ta σ H Q := by
  refine h _ fun p H1 hp e1 h1 => ⟨by simp, fun a hn => ⟨a, .ref p, rfl, upd_same, fun H2 d hd ne x e2 e3 => ⟨rfl, d, _, e2, e3, ?_, ?_⟩⟩⟩
  · rw [upd_ne ne] at hd
    exact hd
  · rw [upd_ne ne] at hd
    exact k p _ d (e1.trans (mk_same (C := C) hn hd x)) hp (fresh_back e1 hd) (mk_same (C := C) hn hd x p _ h1) upd_same
end
end WC

/-! ## Kd2 -/
/-! the scanner -/
namespace WC
open PySem PySem.Spec PyProof.Rows L2 Evl
theorem one_nl : (Str.ofString "\n") = ⟨#[10]⟩ := by decide +kernel
theorem one_bar : (Str.ofString "|") = ⟨#[124]⟩ := by decide +kernel
theorem one_com : (Str.ofString ",") = ⟨#[44]⟩ := by decide +kernel
theorem one_sp : (Str.ofString " ") = ⟨#[32]⟩ := by decide +kernel
theorem no_sign : (Str.ofString "") = ⟨#[]⟩ := by decide +kernel
theorem cs_digits : (Str.ofString "0123456789").cps.toList = [48, 49, 50, 51, 52, 53, 54, 55, 56, 57] := by decide +kernel
theorem cs_signs : (Str.ofString "|,").cps.toList = [124, 44] := by decide +kernel
theorem in_digits (c : Nat) : decide (c ∈ (Str.ofString "0123456789").cps.toList) = isDig c := by
  rw [cs_digits, Bool.eq_iff_iff]
  unfold isDig
  simp
  omega
theorem in_signs (c : Nat) : decide (c ∈ (Str.ofString "|,").cps.toList) = (decide (c = 124) || decide (c = 44)) := by
  rw [cs_signs, Bool.eq_iff_iff]
  simp
theorem len_codes (z : Str) : z.length = z.cps.toList.length := by simp [Str.length]
theorem str_eq {a b : Str} (h : a.cps.toList = b.cps.toList) : a = b := by
  obtain ⟨a⟩ := a
  obtain ⟨b⟩ := b
  exact congrArg Str.mk (Array.toList_inj.mp h)
theorem cut_mid {z : Str} {pre d r : List Nat} {i j : Int} (h : z.cps.toList = pre ++ (d ++ r)) (hi : i = (pre.length : Int)) (hj : j = ((pre.length + d.length : Nat) : Int)) : cutS z (some i) (some j) = ⟨d.toArray⟩ := by
  subst hi hj
  unfold cutS
  have hl : z.length = pre.length + (d.length + r.length) := by rw [len_codes, h]; simp
  rw [HT.sIx_nat, HT.sIx_nat, h, Nat.min_eq_left (by omega), Nat.min_eq_left (by omega)]
  have e : pre.length + d.length - pre.length = d.length := by omega
  rw [e]
  simp
section
variable {σ : L2.St} {H : Hp}
theorem ev_str {x : Str} {y : Str} (h : x = y) : Ev (tC (.str x)) σ H (.str y) := ev_is ev_c (congrArg V.str h)
end
section
variable {P : Program} {w : World} {K : PySem.W.Frag} {mg : Str → Option Value} {base : Heap}
/-- what a raised TextError leaves -/
def Rz (C : Addr) (c : Int) (z : Str) (H : Hp) (E : XK) : Prop := ∀ H' d, Ex H H' → H d = none → H' d = some (.xd [("words", .str z), ("column", .int c)]) → E (.ref C) (some d) H'
theorem Rz.mono {C : Addr} {c : Int} {z : Str} {H H1 : Hp} {E : XK} (h : Rz C c z H E) (e : Ex H H1) : Rz C c z H1 E := fun H' d e1 hd hv => h H' d (e.trans e1) (fresh_back e hd) hv
def spCT : Sp := fun vs H Q _ => ∃ z : Str, vs = [.str z] ∧ z.length ≤ 400 ∧ 10 ∉ z.cps.toList ∧ ∀ H', Ex H H' → Q .non H'
theorem ok_check_text (T : Tx K mg) : FnOk P w K mg base CX0 1 T.d_check_text.f T.d_check_text.fd ["text"] spCT := by
  refine T.d_check_text.F.ok sc_check_text (fun vs H Q E h => ?_) (fun cdv A outer s H vs Q E hr h => ?_)
  · obtain ⟨z, rfl, _⟩ := h
    rfl
  · obtain ⟨z, rfl, hl, hn, k⟩ := h
    refine ⟨_, (pss_one (ps_if (PW.pt (pw_or (pt_not (pt_val (pe_callB call_isi (by rfl) T.z_isinstance (by decide +kernel) (pa_cons (pv 0) (pa_cons (pe_bltn (v := .ty "str") (by rfl) T.z_str (by decide +kernel) rfl) pa_nil))))) (pw_or (pt_cmpR op_gt (pe_callB call_len (by rfl) T.z_len PySem.boot_len (pa_cons (pv 0) pa_nil)) (pe_glob (v := .int 400) rfl T.g_LONGEST_TEXT ⟨_, rfl⟩) (nomark _)) (pw_or1 (pt_cmpR op_in_sign pe_str (pv 0) (by rfl))))))
  (pss_one ps_never)
  pss_nil)), ?_⟩
    refine s_when (et_or (et_not (et_B (ev_isi (ev_var rfl) tx_s ev_c (b := true) (by decide +kernel)))) fun _ => et_or (et_test (ev_op (ev_len_s (ev_var rfl) (by omega)) ev_c rv_I0)) fun _ => et_test (ev_op (ev_str one_nl) (ev_var rfl) rv_insign)) (fun h => ?_) (fun _ H1 e => k H1 e)
    have h2 : ¬ (400 < z.length) := by omega
    simp [hn] at h
    omega
/-- the digits that stand from a place on -/
def spDA : Sp := fun vs H Q _ => ∃ (z : Str) (pre d r : List Nat), vs = [.str z, .int (pre.length : Int)] ∧ z.length ≤ 400 ∧ z.cps.toList = pre ++ (d ++ r) ∧ (∀ c ∈ d, isDig c = true) ∧ (∀ c, r.head? = some c → isDig c = false) ∧
  ∀ H', Ex H H' → Q (.str ⟨d.toArray⟩) H'
theorem ok_digits_at (T : Tx K mg) : FnOk P w K mg base CX0 1 T.d_digits_at.f T.d_digits_at.fd ["text", "at"] spDA := by
  refine T.d_digits_at.F.ok sc_digits_at (fun vs H Q E h => ?_) (fun cdv A outer s H vs Q E hr h => ?_)
  · obtain ⟨z, pre, d, r, rfl, _⟩ := h
    rfl
  · obtain ⟨z, pre, d, r, rfl, hl, hz, hd, hh, k⟩ := h
    have hlen : z.length = pre.length + (d.length + r.length) := by rw [len_codes, hz]; simp
    refine ⟨_, (pss_cons (ps_set (i := 2) sc_digits_at.nd rfl (Or.inl rfl) (pv 1))
  (pss_cons (ps_while PassesOwn.never (PW.pt (pw_and (pt_cmpR op_lt (pv 2) (pe_callB call_len (by rfl) T.z_len PySem.boot_len (pa_cons (pv 0) pa_nil)) (nomark _)) (pw_and1 (pt_cmpR op_in_sign (pe_ix ix_str (pv 0) (pv 2) (fun _ _ => rfl)) (pe_glob (v := .str "0123456789") rfl T.g_DIGITS ⟨_, rfl⟩) (by rfl)))))
  (pss_one (ps_set (i := 2) sc_digits_at.nd rfl (Or.inl rfl) (pe_op op_add (pv 2) pe_int))))
  (pss_one (ps_ret (pe_slice sl_str (pv 0) (po_some (pv 1)) (po_some (pv 2))))))), ?_⟩
    refine q_asg (ev_var rfl) fun H1 e1 => ?_
    refine q_while (fun m σ' H' => ∃ j, j + m = d.length ∧ σ' = [some (.str z), some (.int (pre.length : Int)), some (.int ((pre.length + j : Nat) : Int))] ∧ Ex H H') d.length ⟨0, by omega, rfl, e1⟩ ?_
    rintro m σ' H' ⟨j, hj, rfl, e2⟩
    by_cases hlt : j < d.length
    · -- a digit
      have hc : z.cps.toList[pre.length + j]? = some d[j] := by rw [hz, List.getElem?_append_right (by omega), List.getElem?_append_left (by omega)]; simp [hlt]
      refine ⟨true, et_is (et_and (et_test (ev_op (ev_var rfl) (ev_len_s (ev_var rfl) (by omega)) rv_I0)) fun _ => et_test (ev_op (ev_ixs (ev_var rfl) (ev_var rfl) (by omega) (atI_nat hc)) ev_c rv_insign)) ?_, fun _ H3 e3 => ?_, (fun z => nomatch z)⟩
      · rw [in_digits, hd _ (List.getElem_mem hlt)]
        simp
        omega
      · refine ⟨fun σ2 H2 => ∃ j, j + (m - 1) = d.length ∧ σ2 = [some (.str z), some (.int (pre.length : Int)), some (.int ((pre.length + j : Nat) : Int))] ∧ Ex H H2, fun σ2 H2 ⟨j, h1, h2⟩ => ⟨m - 1, by omega, j, h1, h2⟩, ?_⟩
        exact s_asg (ev_op (ev_var rfl) ev_c rv_I0) fun H4 e4 => ⟨j + 1, by omega, rfl, (e2.trans e3).trans e4⟩
    · have hj2 : j = d.length := by omega
      subst hj2
      have fin : ∀ H3, Ex H' H3 → (tRet (tSl rSlS (tVar 0) (tPart (tVar 1)) (tPart (tVar 2)))) { nx := fun _ H' => Q .non H', rt := Q } [some (.str z), some (.int (pre.length : Int)), some (.int ((pre.length + d.length : Nat) : Int))] H3 := fun H3 e3 =>
        s_ret (ev_is (ev_sl_s (ev_var rfl) (eo_some (ev_var rfl)) (eo_some (ev_var rfl)) (by omega)) (congrArg V.str (cut_mid hz rfl rfl))) fun H4 e4 => k H4 ((e2.trans e3).trans e4)
      cases r with
      | nil =>
        refine ⟨false, et_is (et_and (b := false) (et_test (ev_op (ev_var rfl) (ev_len_s (ev_var rfl) (by omega)) rv_I0)) fun h => ?_) (by simp), (fun z => nomatch z), fun _ => fin⟩
        simp at hlen
        simp [hlen] at h
      | cons c r =>
        have hc : z.cps.toList[pre.length + d.length]? = some c := by rw [hz, List.getElem?_append_right (by omega), List.getElem?_append_right (by omega)]; simp
        refine ⟨false, et_is (et_and (et_test (ev_op (ev_var rfl) (ev_len_s (ev_var rfl) (by omega)) rv_I0)) fun _ => et_test (ev_op (ev_ixs (ev_var rfl) (ev_var rfl) (by omega) (atI_nat hc)) ev_c rv_insign)) ?_, (fun z => nomatch z), fun _ => fin⟩
        rw [in_digits, hh c rfl]
        simp
/-- the token at a place that is no blank -/
def spTA (C : Addr) : Sp := fun vs H Q E => ∃ (z : Str) (pre cs : List Nat), vs = [.str z, .int (pre.length : Int)] ∧ z.length ≤ 400 ∧ z.cps.toList = pre ++ cs ∧
  ((∃ t r, Tok1 cs pre.length t r ∧ ∀ p H', H p = none → Ex H H' → H' p = some (.tup t.v) → Q (.ref p) H') ∨ ∃ c x, Tok1E cs pre.length c x ∧ Rz C c x H E)
theorem v_bar (n : Nat) : ([.str "sign", .str ⟨#[124]⟩, .int ((n : Int) + 1)] : List V) = (Tk.bar ((n + 1 : Nat) : Int)).v := by
  rw [← one_bar]; rfl
theorem v_com (n : Nat) : ([.str "sign", .str ⟨#[44]⟩, .int ((n : Int) + 1)] : List V) = (Tk.com ((n + 1 : Nat) : Int)).v := by
  rw [← one_com]; rfl
theorem at_mid {z : Str} {pre r : List Nat} {c : Nat} (h : z.cps.toList = pre ++ (c :: r)) : atI z.cps.toList (pre.length : Int) = some c := by
  refine atI_nat ?_
  rw [h, List.getElem?_append_right (Nat.le_refl _)]
  simp
theorem ok_token_at (T : Tx K mg) : FnOk P w K mg base (L2.CX P w) 3 T.d_token_at.f T.d_token_at.fd ["text", "at"] (spTA T.C_TextError) := by
  refine T.d_token_at.F.okX sc_token_at (fun vs H Q E h => ?_) (fun cdv A outer s H vs Q E hr h => ?_)
  · obtain ⟨z, pre, cs, rfl, _⟩ := h
    rfl
  · obtain ⟨z, pre, cs, rfl, hl, hz, h⟩ := h
    refine ⟨_, (pss_cons (ps_if (pt_cmpR op_in_sign (pe_ix ix_str (pv 0) (pv 1) (fun _ _ => rfl)) (pe_glob (v := .str "|,") rfl T.g_SIGNS ⟨_, rfl⟩) (by rfl))
  (pss_one (ps_ret (pe_tup (pa_cons pe_str (pa_cons (pe_ix ix_str (pv 0) (pv 1) (fun _ _ => rfl)) (pa_cons (pe_op op_add (pv 1) pe_int) pa_nil))))))
  pss_nil)
  (pss_cons (ps_set (i := 2) sc_token_at.nd rfl (Or.inl rfl) (pe_call (ok_digits_at T) (hr.mono (by decide)) rfl T.d_digits_at.g T.d_digits_at.F.kp T.d_digits_at.b .nil pass0 (pa_cons (pv 0) (pa_cons (pv 1) pa_nil))))
  (pss_cons (ps_if (pt_cmpR op_eq (pv 2) pe_str (nomark _))
  (pss_one (ps_raise rfl (takes_of rfl rfl rfl rfl) (pmk_oex T.ox_TextError T.i_TextError.at_ T.i_TextError.ty (ok_TextError_init T) (hr.mono (by decide)) T.i_TextError.b .nil pass0 rfl T.g_TextError (pa_cons (pe_op op_add (pv 1) pe_int) (pa_cons pe_str pa_nil)))))
  pss_nil)
  (pss_cons (ps_if (pt_cmpR op_gt (pe_callB call_len (by rfl) T.z_len PySem.boot_len (pa_cons (pv 2) pa_nil)) (pe_glob (v := .int 6) rfl T.g_MOST_DIGITS ⟨_, rfl⟩) (nomark _))
  (pss_one (ps_raise rfl (takes_of rfl rfl rfl rfl) (pmk_oex T.ox_TextError T.i_TextError.at_ T.i_TextError.ty (ok_TextError_init T) (hr.mono (by decide)) T.i_TextError.b .nil pass0 rfl T.g_TextError (pa_cons (pe_op op_add (pv 1) pe_int) (pa_cons pe_str pa_nil)))))
  pss_nil)
  (pss_one (ps_ret (pe_tup (pa_cons pe_str (pa_cons (pv 2) (pa_cons (pe_op op_add (pv 1) pe_int) pa_nil)))))))))), ?_⟩
    have nosign : ∀ {c : Nat}, isDig c = true → (decide (c = 124) || decide (c = 44)) = false := by
      intro c hc
      unfold isDig at hc
      simp at hc
      simp
      omega
    rcases h with ⟨t, r, ht, k⟩ | ⟨c, x, ht, k⟩
    · cases ht with
      | bar =>
        refine q_when (et_is (et_test (ev_op (ev_ixs (ev_var rfl) (ev_var rfl) (by omega) (at_mid hz)) ev_c rv_insign)) (by rw [in_signs])) (fun _ H1 e1 => ?_) (fun h => absurd h (by simp))
        refine s_retU (eu_tup (ea_three ev_c (ev_ixs (ev_var rfl) (ev_var rfl) (by omega) (at_mid hz)) (ev_op (ev_var rfl) ev_c rv_I0)) (by simp)) fun p H2 hp e2 h2 => ?_
        exact k p H2 (fresh_back e1 hp) (e1.trans e2) (h2.trans (congrArg (fun l => some (HO.tup l)) (v_bar _)))
      | com =>
        refine q_when (et_is (et_test (ev_op (ev_ixs (ev_var rfl) (ev_var rfl) (by omega) (at_mid hz)) ev_c rv_insign)) (by rw [in_signs])) (fun _ H1 e1 => ?_) (fun h => absurd h (by simp))
        refine s_retU (eu_tup (ea_three ev_c (ev_ixs (ev_var rfl) (ev_var rfl) (by omega) (at_mid hz)) (ev_op (ev_var rfl) ev_c rv_I0)) (by simp)) fun p H2 hp e2 h2 => ?_
        exact k p H2 (fresh_back e1 hp) (e1.trans e2) (h2.trans (congrArg (fun l => some (HO.tup l)) (v_com _)))
      | @num d ds _ _ hd h6 hh =>
        refine q_when (et_is (b := false) (et_test (ev_op (ev_ixs (ev_var rfl) (ev_var rfl) (by omega) (at_mid hz)) ev_c rv_insign)) (by rw [in_signs]; exact nosign (hd d List.mem_cons_self))) (fun h => nomatch h) (fun _ H1 e1 => ?_)
        refine q_asg (ev_call (ea_two (ev_var rfl) (ev_var rfl)) fun H2 e2 Q2 k2 E2 => ⟨z, pre, d :: ds, r, rfl, hl, hz, hd, hh, k2⟩) fun H2 e2 => ?_
        refine q_when (et_is (et_test (ev_op (ev_var rfl) ev_c (rv_eq rfl))) (b := false) ?_) (fun h => nomatch h) (fun _ H3 e3 => ?_)
        · rw [no_sign]
          simp
        refine q_when (et_is (et_test (ev_op (ev_len_s (ev_var rfl) (by simp [Str.length]; simp at h6; omega)) ev_c rv_I0)) (b := false) ?_) (fun h => nomatch h) (fun _ H4 e4 => ?_)
        · simp [Str.length]
          simp at h6
          omega
        refine s_retU (eu_tup (ea_three ev_c (ev_var rfl) (ev_op (ev_var rfl) ev_c rv_I0)) (by simp)) fun p H5 hp e5 h5 => ?_
        have ee := ((e1.trans e2).trans e3).trans e4
        exact k p H5 (fresh_back ee hp) (ee.trans e5) h5
    · cases ht with
      | @long d ds _ r hd h6 hh =>
        refine q_when (et_is (b := false) (et_test (ev_op (ev_ixs (ev_var rfl) (ev_var rfl) (by omega) (at_mid hz)) ev_c rv_insign)) (by rw [in_signs]; exact nosign (hd d List.mem_cons_self))) (fun h => nomatch h) (fun _ H1 e1 => ?_)
        refine q_asg (ev_call (ea_two (ev_var rfl) (ev_var rfl)) fun H2 e2 Q2 k2 E2 => ⟨z, pre, d :: ds, r, rfl, hl, hz, hd, hh, k2⟩) fun H2 e2 => ?_
        have hlen : z.length = pre.length + ((d :: ds).length + r.length) := by rw [len_codes, hz]; simp; omega
        refine q_when (et_is (et_test (ev_op (ev_var rfl) ev_c (rv_eq rfl))) (b := false) ?_) (fun h => nomatch h) (fun _ H3 e3 => ?_)
        · rw [no_sign]
          simp
        refine q_when (et_is (et_test (ev_op (ev_len_s (ev_var rfl) (by simp [Str.length]; simp at hlen; omega)) ev_c rv_I0)) (b := true) ?_) (fun _ H4 e4 => ?_) (fun h => nomatch h)
        · simp [Str.length]
          simp at h6
          omega
        exact rd_TE (ea_two (ev_op (ev_var rfl) ev_c rv_I0) ev_c) fun H' d' e' hd' hv => k.mono (((e1.trans e2).trans e3).trans e4) H' d' e' hd' hv
      | @strange c _ r h1 h2 h3 h4 =>
        refine q_when (et_is (b := false) (et_test (ev_op (ev_ixs (ev_var rfl) (ev_var rfl) (by omega) (at_mid hz)) ev_c rv_insign)) (by rw [in_signs]; simp; exact ⟨h2, h3⟩)) (fun h => nomatch h) (fun _ H1 e1 => ?_)
        refine q_asg (ev_call (ea_two (ev_var rfl) (ev_var rfl)) fun H2 e2 Q2 k2 E2 => ⟨z, pre, [], c :: r, rfl, hl, hz, (fun _ h => nomatch h), (fun c' hc => by cases hc; exact h4), k2⟩) fun H2 e2 => ?_
        refine q_when (et_is (et_test (ev_op (ev_var rfl) ev_c (rv_eq rfl))) (b := true) ?_) (fun _ H3 e3 => ?_) (fun h => nomatch h)
        · rw [no_sign]
          simp
        exact rd_TE (ea_two (ev_op (ev_var rfl) ev_c rv_I0) ev_c) fun H' d' e' hd' hv => k.mono ((e1.trans e2).trans e3) H' d' e' hd' hv
end
end WC

/-! ## Kd3 -/
/-! the scanner's loop -/
namespace WC
open PySem PySem.Spec PyProof.Rows L2 Evl
/-- tuples of tokens -/
inductive TokQ (H : Hp) : List Addr → List Tk → Prop
  | nil : TokQ H [] []
  | cons {q : Addr} {qs : List Addr} {t : Tk} {ts : List Tk} (h : H q = some (.tup t.v)) (r : TokQ H qs ts) : TokQ H (q :: qs) (t :: ts)
theorem TokQ.mono {H H' : Hp} (e : ∀ q xs, H q = some (.tup xs) → H' q = some (.tup xs)) : ∀ {qs : List Addr} {ts : List Tk}, TokQ H qs ts → TokQ H' qs ts
  | _, _, .nil => .nil
  | _, _, .cons h r => .cons (e _ _ h) (r.mono e)
theorem TokQ.ex {H H' : Hp} (e : Ex H H') {qs : List Addr} {ts : List Tk} (h : TokQ H qs ts) : TokQ H' qs ts := h.mono fun q xs => e q _
theorem TokQ.snoc {H : Hp} {q : Addr} {t : Tk} (hq : H q = some (.tup t.v)) : ∀ {qs : List Addr} {ts : List Tk}, TokQ H qs ts → TokQ H (qs ++ [q]) (ts ++ [t])
  | _, _, .nil => .cons hq .nil
  | _, _, .cons h r => .cons h (r.snoc hq)
theorem TokQ.len {H : Hp} : ∀ {qs : List Addr} {ts : List Tk}, TokQ H qs ts → qs.length = ts.length
  | _, _, .nil => rfl
  | _, _, .cons _ r => congrArg (· + 1) r.len
theorem TokQ.get {H : Hp} : ∀ {qs : List Addr} {ts : List Tk} {i : Nat} {t : Tk}, TokQ H qs ts → ts[i]? = some t → ∃ q, qs[i]? = some q ∧ H q = some (.tup t.v)
  | _, _, _, _, .nil, e => by simp at e
  | _, _, 0, _, .cons h _, e => by simp at e; subst e; exact ⟨_, rfl, h⟩
  | _, _, i + 1, _, .cons _ r, e => by
    obtain ⟨q, h1, h2⟩ := r.get (i := i) (by simpa using e)
    exact ⟨q, by simpa using h1, h2⟩
/-- a change of a list keeps the tuples -/
theorem tup_keep {H : Hp} {p : Addr} {xs : List V} {o : HO} (h : H p = some (.lst xs)) : ∀ q ys, H q = some (.tup ys) → upd H p o q = some (.tup ys) := fun q ys e => by
  rw [upd_ne (ne_of e h (fun z => nomatch z))]
  exact e
theorem Tok1.head {cs r : List Nat} {n : Nat} {t : Tk} (h : Tok1 cs n t r) : ∃ c r', cs = c :: r' ∧ c ≠ 32 := by
  cases h with
  | bar => exact ⟨_, _, rfl, by decide⟩
  | com => exact ⟨_, _, rfl, by decide⟩
  | num _ _ hd _ _ =>
    refine ⟨_, _, rfl, fun z => ?_⟩
    have := hd _ List.mem_cons_self
    rw [z] at this
    cases this
theorem Tok1E.head {cs : List Nat} {n : Nat} {c : Int} {x : Str} (h : Tok1E cs n c x) : ∃ c r', cs = c :: r' ∧ c ≠ 32 := by
  cases h with
  | long _ _ hd _ _ =>
    refine ⟨_, _, rfl, fun z => ?_⟩
    have := hd _ List.mem_cons_self
    rw [z] at this
    cases this
  | strange _ _ h1 _ _ _ => exact ⟨_, _, rfl, h1⟩
theorem Tok1.split {cs r : List Nat} {n : Nat} {t : Tk} (h : Tok1 cs n t r) : ∃ d, cs = d ++ r ∧ d.length = t.len ∧ 0 < d.length := by
  cases h with
  | bar => exact ⟨[124], rfl, rfl, by decide⟩
  | com => exact ⟨[44], rfl, rfl, by decide⟩
  | @num d ds _ _ _ _ _ => exact ⟨d :: ds, rfl, rfl, by simp⟩
theorem chs_len (t : Tk) : t.chs.length = t.len := by
  cases t with
  | num x c => simp [Tk.chs, Tk.len, Str.length]
  | bar c =>
    show (Str.ofString "|").length = 1
    decide +kernel
  | com c =>
    show (Str.ofString ",").length = 1
    decide +kernel
  | fin c =>
    show (Str.ofString "").length = 0
    decide +kernel
section
variable {P : Program} {w : World} {K : PySem.W.Frag} {mg : Str → Option Value} {base : Heap}
def spSC (C : Addr) : Sp := fun vs H Q E => ∃ (z : Str) (R : Sc), vs = [.str z] ∧ z.length ≤ 400 ∧ 10 ∉ z.cps.toList ∧ Scans z.cps.toList 0 R ∧
  (∀ l, R = .ok l → ∀ p qs H', H p = none → Ex H H' → H' p = some (.lst (qs.map V.ref)) → TokQ H' qs l → Q (.ref p) H') ∧ (∀ c x, R = .error (c, x) → Rz C c x H E)
theorem ok_scan (T : Tx K mg) : FnOk P w K mg base (L2.CX P w) 4 T.d_scan.f T.d_scan.fd ["text"] (spSC T.C_TextError) := by
  refine T.d_scan.F.okX sc_scan (fun vs H Q E h => ?_) (fun cdv A outer s H vs Q E hr h => ?_)
  · obtain ⟨z, R, rfl, _⟩ := h
    rfl
  · obtain ⟨z, R, rfl, hl, hnl, hR, kok, kerr⟩ := h
    refine ⟨_, (pss_cons (ps_expr (pe_call (ok_check_text T) (hr.mono (by decide)) rfl T.d_check_text.g T.d_check_text.F.kp T.d_check_text.b .nil pass0 (pa_cons (pv 0) pa_nil)))
  (pss_cons (ps_set (i := 1) sc_scan.nd rfl (Or.inl rfl) (pe_lst pa_nil))
  (pss_cons (ps_set (i := 2) sc_scan.nd rfl (Or.inl rfl) pe_int)
  (pss_cons (ps_while (passes_of rfl) (pt_cmpR op_lt (pv 2) (pe_callB call_len (by rfl) T.z_len PySem.boot_len (pa_cons (pv 0) pa_nil)) (nomark _))
  (pss_one (ps_if (pt_cmpR op_eq (pe_ix ix_str (pv 0) (pv 2) (fun _ _ => rfl)) pe_str (nomark _))
  (pss_one (ps_set (i := 2) sc_scan.nd rfl (Or.inl rfl) (pe_op op_add (pv 2) pe_int)))
  (pss_cons (ps_expr (pe_bm PySem.F.plainAttrs_list PySem.F.slot_list_append PySem.F.type_list_append mt_append (pv 1) (pa_cons (pe_call (ok_token_at T) (hr.mono (by decide)) rfl T.d_token_at.g T.d_token_at.F.kp T.d_token_at.b .nil (passX (takes_of rfl rfl rfl rfl)) (pa_cons (pv 0) (pa_cons (pv 2) pa_nil))) pa_nil)))
  (pss_one (ps_set (i := 2) sc_scan.nd rfl (Or.inl rfl) (pe_op op_add (pv 2) (pe_callB call_len (by rfl) T.z_len PySem.boot_len (pa_cons (pe_ix ix_tup (pe_ix ix_list (pv 1) (pe_un un_neg pe_int) (fun _ _ => rfl)) pe_int (fun _ _ => rfl)) pa_nil)))))))))
  (pss_cons (ps_expr (pe_bm PySem.F.plainAttrs_list PySem.F.slot_list_append PySem.F.type_list_append mt_append (pv 1) (pa_cons (pe_tup (pa_cons pe_str (pa_cons pe_str (pa_cons (pe_op op_add (pe_callB call_len (by rfl) T.z_len PySem.boot_len (pa_cons (pv 0) pa_nil)) pe_int) pa_nil)))) pa_nil)))
  (pss_one (ps_ret (pv 1)))))))), ?_⟩
    refine q_drop (ev_call (ea_one (ev_var rfl)) fun H1 _ Q2 k2 E2 => ⟨z, rfl, hl, hnl, k2⟩) fun H1 e1 => ?_
    refine q_asgL (el_lst ea_nil (by decide)) fun p H2 hp e2 h2 => ?_
    have hp0 : H p = none := fresh_back e1 hp
    refine q_asg ev_c fun H3 e3 => ?_
    refine q_while (fun m σ' H' => ∃ (T : List Tk) (qs : List Addr) (pre cs : List Nat) (R' : Sc), cs.length = m ∧ z.cps.toList = pre ++ cs ∧ σ' = [some (.str z), some (.ref p), some (.int (pre.length : Int))] ∧
      Ex H H' ∧ H' p = some (.lst (qs.map V.ref)) ∧ TokQ H' qs T ∧ Scans cs pre.length R' ∧ consAll T R' = R ∧ T.length ≤ pre.length) z.cps.toList.length
      ⟨[], [], [], z.cps.toList, R, rfl, rfl, rfl, (e1.trans e2).trans e3, e3 p _ h2, .nil, hR, consAll_nil R, Nat.le_refl _⟩ ?_
    rintro m σ' H' ⟨T', qs, pre, cs, R', hm, hz, rfl, e4, hq, hT, hS, hc, hTl⟩
    have hlen : z.length = pre.length + cs.length := by rw [len_codes, hz]; simp
    have lt : EvT (tTest (tOp (rI0 fun i j => .bl (decide (i < j))) (tVar 2) (tCB (fun xs H Q => ∃ x n, xs = [x] ∧ LenV K x H n ∧ Q (.int n) H) (tCons (tVar 0) tNil)))) [some (.str z), some (.ref p), some (.int (pre.length : Int))] H' (decide (0 < cs.length)) :=
      et_is (et_test (ev_op (ev_var rfl) (ev_len_s (ev_var rfl) (by omega)) rv_I0)) (by rw [Bool.eq_iff_iff]; simp; omega)
    have hql : qs.length ≤ 400 := by rw [hT.len]; omega
    have split : ∀ {c : Nat} {r : List Nat}, cs = c :: r → atI z.cps.toList (pre.length : Int) = some c := fun e => at_mid (by rw [hz, e])
    have cmp : ∀ {c : Nat} {r : List Nat} (b : Bool), cs = c :: r → decide (c = 32) = b → EvT (tTest (tOp rEq (tOp rIxS (tVar 0) (tVar 2)) (tC (.str (Str.ofString " "))))) [some (.str z), some (.ref p), some (.int (pre.length : Int))] H' b := fun {c r} b e eb =>
      et_is (et_test (ev_op (ev_ixs (ev_var rfl) (ev_var rfl) (by omega) (split e)) ev_c (rv_eq rfl))) (by rw [one_sp, ← eb, Bool.eq_iff_iff]; simp)
    cases hS with
    | nil n =>
      refine ⟨false, et_is lt (by simp), (fun z => nomatch z), fun _ H5 e5 => ?_⟩
      refine q_appU (e5 p _ hq) (ev_var rfl) (eu_tup (ea_three ev_c ev_c (ev_op (ev_len_s (ev_var rfl) (by omega)) ev_c rv_I0)) (by simp)) (by simp; omega) fun q H6 hq6 e6 h6 => ?_
      have ve : ([.str (Str.ofString "end"), .str (Str.ofString ""), .int ((z.length : Int) + 1)] : List V) = (Tk.fin ((pre.length + 1 : Nat) : Int)).v := by
        rw [hlen]
        simp [Tk.v, Tk.kind, Tk.chs, Tk.col]
      rw [ve] at h6
      have hp6 : H6 p = some (.lst (qs.map V.ref)) := e6 p _ (e5 p _ hq)
      refine s_ret (ev_var rfl) fun H7 e7 => ?_
      refine kok (T' ++ [.fin ((pre.length + 1 : Nat) : Int)]) (by rw [← hc]; rfl) p (qs ++ [q]) H7 hp0 ?_ ?_ ?_
      · exact (Ex.mut ((e4.trans e5).trans e6) hp0).trans e7
      · rw [List.map_append]
        exact e7 p _ upd_same
      · exact (TokQ.mono (tup_keep hp6) ((hT.ex (e5.trans e6)).snoc h6)).ex e7
    | @blank r n R'' hr' =>
      refine ⟨true, et_is lt (by simp), fun _ H5 e5 => ?_, (fun z => nomatch z)⟩
      refine ⟨_, fun _ _ h => ⟨m - 1, by simp at hm; omega, h⟩, ?_⟩
      refine s_if ((cmp true rfl rfl).mono e5) (fun _ H6 e6 => ?_) (fun h => nomatch h)
      refine s_asg (ev_op (ev_var rfl) ev_c rv_I0) fun H7 e7 => ?_
      have ee := (e5.trans e6).trans e7
      refine ⟨T', qs, pre ++ [32], r, R', ?_, by rw [hz]; simp, ?_, e4.trans ee, ee p _ hq, hT.ex ee, ?_, hc, by simp; omega⟩
      · simp at hm; omega
      · simp
      · have : (pre ++ [32]).length = pre.length + 1 := by simp
        rw [this]; exact hr'
    | @tok _ r n t R'' ht hr' =>
      obtain ⟨c, r', ec, nc⟩ := ht.head
      obtain ⟨d, ed, dl, dp⟩ := ht.split
      refine ⟨true, et_is lt (by rw [ec]; simp), fun _ H5 e5 => ?_, (fun z => nomatch z)⟩
      refine ⟨_, fun _ _ h => ⟨m - t.len, ?_, h⟩, ?_⟩
      · rw [ed] at hm
        simp at hm
        omega
      refine s_if ((cmp false ec (by simp [nc])).mono e5) (fun h => nomatch h) (fun _ H6 e6 => ?_)
      have hp6 : H6 p = some (.lst (qs.map V.ref)) := e6 p _ (e5 p _ hq)
      refine q_appU (ys := t.v) hp6 (ev_var rfl) (fun H7 e7 Q7 k7 => ?_) (by simp; omega) fun q H7 hq7 e7 h7 => ?_
      · exact ⟨_, rfl, _, rfl, z, pre, cs, rfl, hl, hz, .inl ⟨t, r, ht, k7⟩⟩
      have hp7 := e7 p _ hp6
      have hp8 : upd H7 p (.lst (qs.map V.ref ++ [.ref q])) q = some (.tup t.v) := tup_keep hp7 q _ h7
      refine s_asg (ev_op (ev_var rfl) (ev_len_s (ev_ixt (ev_ixl (ev_var rfl) (ev_neg ev_c) (sq_of upd_same) (atI_last _ _)) ev_c (st_of hp8) (show atI t.v 1 = some (.str t.chs) from rfl)) (by rw [chs_len, ← dl]; rw [hlen, ed] at hl; simp at hl; omega)) rv_I0) fun H9 e9 => ?_
      have ee : Ex H' H7 := (e5.trans e6).trans e7
      refine ⟨T' ++ [t], qs ++ [q], pre ++ d, r, R'', ?_, by rw [hz, ed]; simp, ?_, (Ex.mut (e4.trans ee) hp0).trans e9, by rw [List.map_append]; exact e9 p _ upd_same, (TokQ.mono (tup_keep hp7) ((hT.ex ee).snoc h7)).ex e9, ?_, ?_, ?_⟩
      · rw [ed] at hm
        simp at hm
        omega
      · simp [chs_len, dl]
      · have : (pre ++ d).length = pre.length + t.len := by simp [dl]
        rw [this]; exact hr'
      · rw [consAll_snoc]
        exact hc
      · simp
        omega
    | @bad _ n c x hE =>
      obtain ⟨c', r', ec, nc⟩ := hE.head
      refine ⟨true, et_is lt (by rw [ec]; simp), fun _ H5 e5 => ?_, (fun z => nomatch z)⟩
      refine ⟨fun _ _ => False, fun _ _ h => h.elim, ?_⟩
      refine s_if ((cmp false ec (by simp [nc])).mono e5) (fun h => nomatch h) (fun _ H6 e6 => ?_)
      have hp6 : H6 p = some (.lst (qs.map V.ref)) := e6 p _ (e5 p _ hq)
      refine ⟨_, rfl, Or.inl ⟨rfl, _, sq_of hp6⟩, _, rfl, _, rfl, z, pre, cs, rfl, hl, hz, .inr ⟨c, x, hE, ?_⟩⟩
      exact (kerr c x (by rw [← hc]; cases T' <;> rfl)).mono ((e4.trans e5).trans e6)
end
end WC

/-! ## Kd4 -/
/-! shown, in_order, joined -/
namespace WC
open PySem PySem.Spec PyProof.Rows L2 Evl
section
variable {K : PySem.W.Frag} {σ : L2.St} {H H' : Hp} {ta tb te tk tv : TE} {x y z v : V}
/-- a new dict -/
def EvD (te : TE) (σ : L2.St) (H : Hp) (kvs : List (Key × V)) : Prop := ∀ H1, Ex H H1 → ∀ Q : VK, (∀ p H2, H1 p = none → Ex H1 H2 → H2 p = some (.dK kvs) → Q (.ref p) H2) → te σ H1 Q
def EvPs (trs : List (TE × TE)) (σ : L2.St) (H : Hp) (kvs : List (Key × V)) : Prop :=
  ∀ H1, Ex H H1 → ∀ Q : List (V × V) → Hp → Prop, (∀ H2, Ex H1 H2 → Q (kvs.map fun kv => (kV kv.1, kv.2)) H2) → tPairs trs σ H1 Q
theorem ep_nil : EvPs [] σ H [] := fun H1 _ _ q => q H1 (Ex.refl H1)
theorem ep_cons {trs : List (TE × TE)} {k : Key} {kvs : List (Key × V)} (hk : Ev tk σ H (kV k)) (hv : Ev tv σ H v) (r : EvPs trs σ H kvs) : EvPs ((tk, tv) :: trs) σ H ((k, v) :: kvs) := fun H1 e Q q =>
  hk H1 e _ fun H2 e2 => hv H2 (e.trans e2) _ fun H3 e3 => r H3 ((e.trans e2).trans e3) _ fun H4 e4 => q H4 ((e2.trans e3).trans e4)
theorem ed_disp {trs : List (TE × TE)} {kvs : List (Key × V)} (h : EvPs trs σ H kvs) (hl : kvs.length ≤ 15) : EvD (tDisp trs) σ H (mergeK [] kvs) := fun H1 e Q q p hp =>
  h (upd H1 p (.dK [])) (e.trans (Ex.new hp)) _ fun H2 e2 => ⟨e2 p _ upd_same, kvs, rfl, hl, q p _ hp (Ex.mut ((Ex.new hp).trans e2) hp) upd_same⟩
theorem ev_dgetD {kvs : List (Key × V)} {k : Key} (h : EvD ta σ H kvs) (hi : ∀ H1, Ex H H1 → Ev tb σ H1 (kV k)) (hv : valV kvs k = some v) : Ev (tDGet ta tb) σ H v :=
  fun H1 e _ q => h H1 e _ fun p H2 hp e2 h2 => hi H2 (e.trans e2) H2 (Ex.refl H2) _ fun H3 e3 => ⟨p, v, rfl, hv ▸ DGet.k (e3 _ _ h2), q H3 (e2.trans e3)⟩
theorem ev_join {a : Str} {ys : List Str} (h : Ev ta σ H (.str a)) (hl : EvL te σ H (ys.map V.str)) (hz : (ys.map (·.length)).sum + ys.length * a.length ≤ 16777216) :
    Ev (tM1 (fun x xs H Q => ∃ a p, ∃ ys : List Str, x = .str a ∧ xs = [.ref p] ∧ (SqL K H p (ys.map V.str) ∨ SqT K H p (ys.map V.str)) ∧ (ys.map (·.length)).sum + ys.length * a.length ≤ 16777216 ∧ Q (.str (Txt.join a ys)) H) ta te) σ H (.str (Txt.join a ys)) :=
  fun H1 e _ q => h H1 e _ fun H2 e2 => ⟨⟨a, rfl⟩, hl H2 (e.trans e2) _ fun p H3 _ e3 h3 => ⟨a, p, ys, rfl, rfl, .inl (sq_of h3), hz, q H3 (e2.trans e3)⟩⟩
end
theorem given_list {α : Type} (d : α) (g : α → Bool) (u : α → V) (l : List α) : given l.length (fun i => g (l.getD i d)) (fun i => u (l.getD i d)) = (l.filter g).map u := by
  have e : (List.range l.length).map (fun i => l.getD i d) = l := by
    apply List.ext_getElem
    · simp
    · intro i h1 h2
      simp at h1
      simp [h1]
  have e2 : (l.filter g).map u = (((List.range l.length).map (fun i => l.getD i d)).filter g).map u := by rw [e]
  rw [e2, List.filter_map, List.map_map]
  rfl
theorem cut_init {l : List V} (h : l ≠ []) : cutV l none (some (-1)) = l.dropLast := by
  unfold cutV
  have hl : 0 < l.length := List.length_pos_iff.mpr h
  have e : HT.sIx l.length l.length (some (-1)) = l.length - 1 := by
    show (if (-1 : Int) < 0 then ((-1 : Int) + (l.length : Int)).toNat else min (-1 : Int).toNat l.length) = l.length - 1
    rw [if_pos (by decide)]
    omega
  rw [e, HT.sIx_none, List.drop_zero, Nat.sub_zero, ← List.dropLast_eq_take]
section
variable {P : Program} {w : World} {K : PySem.W.Frag} {mg : Str → Option Value} {base : Heap}
def spSH : Sp := fun vs H Q _ => ∃ p t, vs = [.ref p] ∧ H p = some (.tup (Tk.v t)) ∧ ∀ H', Ex H H' → Q (.str t.shown) H'
theorem ok_shown (T : Tx K mg) : FnOk P w K mg base CX0 1 T.d_shown.f T.d_shown.fd ["token"] spSH := by
  refine T.d_shown.F.ok sc_shown (fun vs H Q E h => ?_) (fun cdv A outer s H vs Q E hr h => ?_)
  · obtain ⟨p, t, rfl, _⟩ := h
    rfl
  · obtain ⟨p, t, rfl, hp, k⟩ := h
    have hu := hu_of hr
    refine ⟨_, (pss_cons (ps_if (pt_cmpR op_eq (pe_ix ix_tup (pv 0) pe_int (fun _ _ => rfl)) pe_str (nomark _))
  (pss_one (ps_ret (pe_op op_add_str (pe_op op_add_str pe_str (pe_ix ix_tup (pv 0) pe_int (fun _ _ => rfl))) pe_str)))
  pss_nil)
  (pss_one (ps_ret (pe_dget hu (pe_disp (pps_cons pe_str pe_str (pps_cons pe_str pe_str pps_nil)) (by rfl) (by rfl) (fun z => by cases z) (by decide)) (pe_ix ix_tup (pv 0) pe_int (fun _ _ => rfl)) (fun _ _ => rfl))))), ?_⟩
    have sg : ∀ b, decide (V.str t.kind = V.str (Str.ofString "sign")) = b → EvT (tTest (tOp rEq (tOp (rIxT K) (tVar 0) (tC (.int 0))) (tC (.str (Str.ofString "sign"))))) [some (.ref p)] H b := fun b hb =>
      et_is (et_test (ev_op (ev_ixt (v := .str t.kind) (ev_var rfl) ev_c (st_of hp) rfl) ev_c (rv_eq rfl))) hb
    have sgn : ∀ H1, Ex H H1 → t.chs.length ≤ 1 → (Str.ofString "\"" ++ t.chs ++ Str.ofString "\"") = t.shown → (tRet (tOp (fun x y H Q => ∃ i j, x = V.str i ∧ y = V.str j ∧ i.length + j.length ≤ sizeLine ∧ Q (.str (i ++ j)) H)
        (tOp (fun x y H Q => ∃ i j, x = V.str i ∧ y = V.str j ∧ i.length + j.length ≤ sizeLine ∧ Q (.str (i ++ j)) H) (tC (.str (Str.ofString "\""))) (tOp (rIxT K) (tVar 0) (tC (.int 1)))) (tC (.str (Str.ofString "\""))))) { nx := fun _ H' => Q .non H', rt := Q } [some (.ref p)] H1 := fun H1 e1 hl he => by
      have q1 : (Str.ofString "\"").length = 1 := by decide +kernel
      refine s_ret (ev_is (ev_op (ev_op ev_c (ev_ixt (v := .str t.chs) (ev_var rfl) ev_c (st_of (e1 _ _ hp)) rfl) (rv_adds (by omega))) ev_c (rv_adds ?_)) (congrArg V.str he)) fun H2 e2 => k H2 (e1.trans e2)
      show (_ ++ _ : Array Nat).size + _ ≤ _
      have : (Str.ofString "\"").cps.size = 1 := q1
      have : t.chs.cps.size ≤ 1 := hl
      simp only [Array.size_append]
      omega
    have dic : ∀ H1, Ex H H1 → ∀ z : Str, valV (mergeK [] [((Sum.inr (Str.ofString "number") : Key), V.str (Str.ofString "a number")), (Sum.inr (Str.ofString "end"), V.str (Str.ofString "the end"))]) (Sum.inr t.kind) = some (.str z) → z = t.shown →
        (tRet (tDGet (tDisp [(tC (.str (Str.ofString "number")), tC (.str (Str.ofString "a number"))), (tC (.str (Str.ofString "end")), tC (.str (Str.ofString "the end")))]) (tOp (rIxT K) (tVar 0) (tC (.int 0))))) { nx := fun _ H' => Q .non H', rt := Q } [some (.ref p)] H1 := fun H1 e1 z hz he => by
      refine s_ret (ev_dgetD (k := Sum.inr t.kind) (ed_disp (ep_cons (k := Sum.inr (Str.ofString "number")) ev_c ev_c (ep_cons (k := Sum.inr (Str.ofString "end")) ev_c ev_c ep_nil)) (by decide)) (fun H2 e2 => ev_ixt (ev_var rfl) ev_c (st_of (e2 _ _ (e1 _ _ hp))) rfl) hz) fun H2 e2 => ?_
      rw [he]
      exact k H2 (e1.trans e2)
    have f1 : decide (V.str (Str.ofString "number") = V.str (Str.ofString "sign")) = false := by decide +kernel
    have f2 : decide (V.str (Str.ofString "sign") = V.str (Str.ofString "sign")) = true := by decide +kernel
    have f3 : decide (V.str (Str.ofString "end") = V.str (Str.ofString "sign")) = false := by decide +kernel
    have f4 : valV (mergeK [] [((Sum.inr (Str.ofString "number") : Key), V.str (Str.ofString "a number")), (Sum.inr (Str.ofString "end"), V.str (Str.ofString "the end"))]) (Sum.inr (Str.ofString "number")) = some (.str (Str.ofString "a number")) := by decide +kernel
    have f5 : valV (mergeK [] [((Sum.inr (Str.ofString "number") : Key), V.str (Str.ofString "a number")), (Sum.inr (Str.ofString "end"), V.str (Str.ofString "the end"))]) (Sum.inr (Str.ofString "end")) = some (.str (Str.ofString "the end")) := by decide +kernel
    have f6 : Str.ofString "\"" ++ Str.ofString "|" ++ Str.ofString "\"" = Str.ofString "\"|\"" := by decide +kernel
    have f7 : Str.ofString "\"" ++ Str.ofString "," ++ Str.ofString "\"" = Str.ofString "\",\"" := by decide +kernel
    cases t with
    | num x c => exact q_when (sg false f1) (fun h => nomatch h) (fun _ H1 e1 => dic H1 e1 _ f4 rfl)
    | bar c => exact q_when (sg true f2) (fun _ H1 e1 => sgn H1 e1 (by show (Str.ofString "|").length ≤ 1; decide +kernel) f6) (fun h => nomatch h)
    | com c => exact q_when (sg true f2) (fun _ H1 e1 => sgn H1 e1 (by show (Str.ofString ",").length ≤ 1; decide +kernel) f7) (fun h => nomatch h)
    | fin c => exact q_when (sg false f3) (fun h => nomatch h) (fun _ H1 e1 => dic H1 e1 _ f5 rfl)
def spIO (K : PySem.W.Frag) : Sp := fun vs H Q _ => ∃ a o, vs = [.ref a] ∧ SqT K H a (o.map V.str) ∧ ∀ p H', H p = none → Ex H H' → H' p = some (.lst ((inOrder o).map V.str)) → Q (.ref p) H'
theorem ok_in_order (T : Tx K mg) : FnOk P w K mg base CX0 1 T.d_in_order.f T.d_in_order.fd ["options"] (spIO K) := by
  refine T.d_in_order.F.ok sc_in_order (fun vs H Q E h => ?_) (fun cdv A outer s H vs Q E hr h => ?_)
  · obtain ⟨a, o, rfl, _⟩ := h
    rfl
  · obtain ⟨a, o, rfl, ho, k⟩ := h
    refine ⟨_, (pss_cons (ps_set (i := 1) sc_in_order.nd rfl (Or.inl rfl) (pe_op op_cat (pe_op op_cat (pe_lst (pa_cons pe_str pa_nil)) (pe_lc (own := [("sign", 2)]) (g := gName 2) (by rfl) sc_in_order.nd (pi_str (pe_glob (v := .str "|,") rfl T.g_SIGNS ⟨_, rfl⟩)) (blkOk_by (own := [("sign", 2)]) (N := N_in_order) (sc := defScope s_in_order) (by decide +kernel)) (fun _ _ _ _ _ => pg_name (i := 2) sc_in_order.nd rfl (Or.inl rfl)) (fun _ _ _ _ _ => pts_nil) (fun _ _ _ _ _ => (pe_op op_add_str (pe_op op_add_str pe_str (pv 2)) pe_str)))) (pe_lst (pa_cons pe_str pa_nil))))
  (pss_one (ps_ret (pe_lc (own := [("option", 3)]) (g := gName 3) (by rfl) sc_in_order.nd (pi_list (pv 1)) (blkOk_by (own := [("option", 3)]) (N := N_in_order) (sc := defScope s_in_order) (by decide +kernel)) (fun _ _ _ _ _ => pg_name (i := 3) sc_in_order.nd rfl (Or.inl rfl)) (fun _ _ _ _ _ => (pts_one (pt_cmpR (r := rIn K false) op_in_seq (pv 3) (pv 0) (by rfl)))) (fun _ _ _ _ _ => (pv 3)))))), ?_⟩
    have hs : (Str.ofString "|,") = ⟨#[124, 44]⟩ := by decide +kernel
    refine q_asgL (xs := orderL.map V.str) ?_ fun p H1 hp e1 h1 => ?_
    · have e : ([V.str (Str.ofString "a number")] ++ given (Str.ofString "|,").cps.size (fun _ => true) (fun i => if i = 0 then V.str (Str.ofString "\"|\"") else V.str (Str.ofString "\",\""))) ++ [V.str (Str.ofString "the end")] = orderL.map V.str := by decide +kernel
      rw [← e]
      refine el_cat (el_cat (el_lst (ea_one ev_c) (by simp)) (el_lcS _ _ ev_c (by rw [hs]; decide) (fun _ => rfl) (fun _ _ _ _ _ => et_yes) (fun i c H2 e2 hc _ => ?_)) ?_) (el_lst (ea_one ev_c) (by simp)) ?_
      · rw [hs] at hc
        have q1 : (Str.ofString "\"").length = 1 := by decide +kernel
        refine ev_is (ev_op (ev_op ev_c (ev_var rfl) (rv_adds (by rw [q1]; simp [Str.length]))) ev_c (rv_adds ?_)) ?_
        · show (_ ++ _ : Array Nat).size + _ ≤ _
          have : (Str.ofString "\"").cps.size = 1 := q1
          simp only [Array.size_append]
          simp
          omega
        · match i, hc with
          | 0, hc =>
            simp at hc
            subst hc
            decide +kernel
          | 1, hc =>
            simp at hc
            subst hc
            decide +kernel
          | i + 2, hc => simp at hc
      · decide +kernel
      · decide +kernel
    · refine s_retL (el_lcL (fun i => o.any fun y => y == orderL.getD i (Str.ofString "")) (fun i => V.str (orderL.getD i (Str.ofString ""))) (ev_var rfl) (sq_of h1) (by decide) (fun _ => rfl) (fun i x H2 e2 hx => ?_) (fun i x H2 e2 hx _ => ?_)) fun q H2 hq e2 h2 => ?_
      · have hx' : x = V.str (orderL.getD i (Str.ofString "")) := by
          rw [List.getElem?_map] at hx
          cases ho : orderL[i]? with
          | none => rw [ho] at hx; cases hx
          | some y =>
            rw [ho] at hx
            cases hx
            simp [ho]
        subst hx'
        refine et_is (et_test (ev_op (ev_var rfl) (ev_var rfl) (rv_isT (ex_t (e1.trans e2) ho) rfl ?_))) ?_
        · simp [List.all_map]
          intro _ _
          rfl
        · show ((o.map V.str).any fun y => eqV y (.str (orderL.getD i (Str.ofString "")))) = _
          rw [List.any_map]
          rfl
      · have hx' : x = V.str (orderL.getD i (Str.ofString "")) := by
          rw [List.getElem?_map] at hx
          cases ho : orderL[i]? with
          | none => rw [ho] at hx; cases hx
          | some y =>
            rw [ho] at hx
            cases hx
            simp [ho]
        subst hx'
        exact ev_var rfl
      · refine k q H2 (fresh_back e1 hq) (e1.trans e2) (h2.trans ?_)
        rw [List.length_map, given_list (Str.ofString "") (fun x => o.any fun y => y == x) V.str orderL]
        rfl
/-- a list of what can come, in its order, in words -/
def spJO (K : PySem.W.Frag) : Sp := fun vs H Q _ => ∃ a, ∃ s : S, vs = [.ref a] ∧ SqL K H a ((inOrder s.opts).map V.str) ∧ ∀ H', Ex H H' → Q (.str (joinedS (inOrder s.opts))) H'
theorem join_facts (s : S) : let l := inOrder s.opts
    l ≠ [] ∧ l.length ≤ 10 ∧ (l.length ≠ 1 → (l.dropLast.map (·.length)).sum + l.dropLast.length * (Str.ofString ", ").length ≤ 1000 ∧ (Txt.join (Str.ofString ", ") l.dropLast).length ≤ 100 ∧ (Txt.join (Str.ofString ", ") l.dropLast ++ Str.ofString " or ").length ≤ 100 ∧ (l.getLastD "").length ≤ 100 ∧ (Str.ofString " or ").length ≤ 100) := by
  cases s <;> decide +kernel
theorem ok_words {K : PySem.W.Frag} {H : Hp} {a : Addr} {l : List Str} {D : Ends} {k1 : ∀ H', Ex H H' → D.rt (.str (joinedS l)) H'} (hs : SqL K H a (l.map V.str)) (h0 : l ≠ [])
    (h1 : l.length ≠ 1 → (l.dropLast.map (·.length)).sum + l.dropLast.length * (Str.ofString ", ").length ≤ 1000 ∧ (Txt.join (Str.ofString ", ") l.dropLast).length ≤ 100 ∧ (Txt.join (Str.ofString ", ") l.dropLast ++ Str.ofString " or ").length ≤ 100 ∧ (l.getLastD "").length ≤ 100 ∧ (Str.ofString " or ").length ≤ 100) :
    tSeq (tIfS (tTest (tOp rEq (tCB (fun xs H Q => ∃ x n, xs = [x] ∧ LenV K x H n ∧ Q (.int n) H) (tCons (tVar 0) tNil)) (tC (.int 1)))) (tRet (tOp (rIxL K) (tVar 0) (tC (.int 0)))) tNext)
      (tRet (tOp (fun x y H Q => ∃ i j, x = V.str i ∧ y = V.str j ∧ i.length + j.length ≤ sizeLine ∧ Q (.str (i ++ j)) H) (tOp (fun x y H Q => ∃ i j, x = V.str i ∧ y = V.str j ∧ i.length + j.length ≤ sizeLine ∧ Q (.str (i ++ j)) H)
        (tM1 (fun x xs H Q => ∃ a p, ∃ ys : List Str, x = .str a ∧ xs = [.ref p] ∧ (SqL K H p (ys.map V.str) ∨ SqT K H p (ys.map V.str)) ∧ (ys.map (·.length)).sum + ys.length * a.length ≤ 16777216 ∧ Q (.str (Txt.join a ys)) H)
          (tC (.str (Str.ofString ", "))) (tSl (rSlL K) (tVar 0) tNoPart (tPart (tUn (rU fun i => .int (-i)) (tC (.int 1)))))) (tC (.str (Str.ofString " or ")))) (tOp (rIxL K) (tVar 0) (tUn (rU fun i => .int (-i)) (tC (.int 1)))))) D [some (.ref a)] H := by
  have el : (l.map V.str).length = l.length := List.length_map ..
  refine q_when (b := decide (l.length = 1)) (et_is (et_test (ev_op (ev_len_l (ev_var rfl) hs) ev_c (rv_eq rfl))) ?_) (fun h H1 e1 => ?_) (fun h H1 e1 => ?_)
  · rw [el, Bool.eq_iff_iff]
    simp
    omega
  · have h := of_decide_eq_true h
    have ev : atI (l.map V.str) 0 = some (V.str (l.headD "")) := by
      cases l with
      | nil => cases h
      | cons x r => exact atI_nat (j := 0) rfl
    refine s_ret (ev_ixl (ev_var rfl) ev_c (ex_l e1 hs) ev) fun H2 e2 => ?_
    have := k1 H2 (e1.trans e2)
    unfold joinedS at this
    rw [if_pos h] at this
    exact this
  · have h := of_decide_eq_false h
    obtain ⟨g1, g2, g3, g4, g5⟩ := h1 h
    have hne : l.map V.str ≠ [] := by
      cases l with
      | nil => exact absurd rfl h0
      | cons x r => exact fun z => nomatch z
    have ev : atI (l.map V.str) (-1) = some (V.str (l.getLastD "")) := by
      have e : l = l.dropLast ++ [l.getLastD ""] := by
        rw [List.getLastD_eq_getLast?, List.getLast?_eq_some_getLast h0]
        exact (List.dropLast_concat_getLast h0).symm
      conv => lhs; rw [e, List.map_append]
      exact atI_last _ _
    have ej : EvL (tSl (rSlL K) (tVar 0) tNoPart (tPart (tUn (rU fun i => .int (-i)) (tC (.int 1))))) [some (.ref a)] H1 (l.dropLast.map V.str) := by
      have q := el_sl (K := K) (H := H1) (σ := [some (V.ref a)]) (ev_var (i := 0) rfl) eo_none (eo_some (ev_neg (i := 1) ev_c)) (ex_l e1 hs)
      rw [cut_init hne, ← List.map_dropLast] at q
      exact q
    refine s_ret (ev_op (ev_op (ev_join ev_c ej (by omega)) ev_c (rv_adds (by omega))) (ev_ixl (ev_var rfl) (ev_neg ev_c) (ex_l e1 hs) ev) (rv_adds (by omega))) fun H2 e2 => ?_
    have := k1 H2 (e1.trans e2)
    unfold joinedS at this
    rw [if_neg h] at this
    exact this
theorem ok_joined (T : Tx K mg) : FnOk P w K mg base CX0 1 T.d_joined.f T.d_joined.fd ["options"] (spJO K) := by
  refine T.d_joined.F.ok sc_joined (fun vs H Q E h => ?_) (fun cdv A outer s H vs Q E hr h => ?_)
  · obtain ⟨a, s, rfl, _⟩ := h
    rfl
  · obtain ⟨a, s, rfl, hs, k⟩ := h
    refine ⟨_, (pss_cons (ps_if (pt_cmpR op_eq (pe_callB call_len (by rfl) T.z_len PySem.boot_len (pa_cons (pv 0) pa_nil)) pe_int (nomark _))
  (pss_one (ps_ret (pe_ix ix_list (pv 0) pe_int (fun _ _ => rfl))))
  pss_nil)
  (pss_one (ps_ret (pe_op op_add_str (pe_op op_add_str (pe_join pe_str (pe_slice sl_list (pv 0) po_none (po_some (pe_un un_neg pe_int)))) pe_str) (pe_ix ix_list (pv 0) (pe_un un_neg pe_int) (fun _ _ => rfl)))))), ?_⟩
    obtain ⟨h0, _, h1⟩ := join_facts s
    exact ok_words (k1 := k) hs h0 h1
theorem ok__law_listed (T : Tx K mg) : FnOk P w K mg base CX0 1 T.d__law_listed.f T.d__law_listed.fd ["_law_words"] (spJO K) := by
  refine T.d__law_listed.F.ok sc__law_listed (fun vs H Q E h => ?_) (fun cdv A outer s H vs Q E hr h => ?_)
  · obtain ⟨a, s, rfl, _⟩ := h
    rfl
  · obtain ⟨a, s, rfl, hs, k⟩ := h
    refine ⟨_, (pss_cons (ps_if (pt_cmpR op_eq (pe_callB call_len (by rfl) T.z_len PySem.boot_len (pa_cons (pv 0) pa_nil)) pe_int (nomark _))
  (pss_one (ps_ret (pe_ix ix_list (pv 0) pe_int (fun _ _ => rfl))))
  pss_nil)
  (pss_one (ps_ret (pe_op op_add_str (pe_op op_add_str (pe_join pe_str (pe_slice sl_list (pv 0) po_none (po_some (pe_un un_neg pe_int)))) pe_str) (pe_ix ix_list (pv 0) (pe_un un_neg pe_int) (fun _ _ => rfl)))))), ?_⟩
    obtain ⟨h0, _, h1⟩ := join_facts s
    exact ok_words (k1 := k) hs h0 h1
end
end WC

/-! ## Kd5 -/
/-! the parser's take -/
namespace WC
open PySem PySem.Spec PyProof.Rows L2 Evl
theorem ne_st : (("stops" : Str) == ("tokens" : Str)) = false := by decide +kernel
theorem ne_at : (("at" : Str) == ("tokens" : Str)) = false := by decide +kernel
theorem ne_as : (("at" : Str) == ("stops" : Str)) = false := by decide +kernel
theorem ne_takes : (("take" : Str) == ("tokens" : Str)) = false ∧ (("take" : Str) == ("stops" : Str)) = false ∧ (("take" : Str) == ("at" : Str)) = false := by decide +kernel
theorem ne_costs : (("costs" : Str) == ("tokens" : Str)) = false ∧ (("costs" : Str) == ("stops" : Str)) = false ∧ (("costs" : Str) == ("at" : Str)) = false := by decide +kernel
theorem ne_table : (("table" : Str) == ("tokens" : Str)) = false ∧ (("table" : Str) == ("stops" : Str)) = false ∧ (("table" : Str) == ("at" : Str)) = false := by decide +kernel
theorem ne_model : (("model" : Str) == ("tokens" : Str)) = false ∧ (("model" : Str) == ("stops" : Str)) = false ∧ (("model" : Str) == ("at" : Str)) = false := by decide +kernel
theorem ne_numbers : (("numbers" : Str) == ("tokens" : Str)) = false ∧ (("numbers" : Str) == ("stops" : Str)) = false ∧ (("numbers" : Str) == ("at" : Str)) = false := by decide +kernel
theorem pf_tokens (L : Addr) (b : Bool) (n : Int) : (pf L b n).lookup ("tokens" : Str) = some (.ref L) := by simp [pf, List.lookup]
theorem pf_stops (L : Addr) (b : Bool) (n : Int) : (pf L b n).lookup ("stops" : Str) = some (.bl b) := by simp [pf, List.lookup, ne_st]
theorem pf_at (L : Addr) (b : Bool) (n : Int) : (pf L b n).lookup ("at" : Str) = some (.int n) := by simp [pf, List.lookup, ne_at, ne_as]
theorem pf_no {x : Str} (h : (x == ("tokens" : Str)) = false ∧ (x == ("stops" : Str)) = false ∧ (x == ("at" : Str)) = false) (L : Addr) (b : Bool) (n : Int) : (pf L b n).lookup x = none := by simp [pf, List.lookup, h.1, h.2.1, h.2.2]
theorem pf_next (L : Addr) (b : Bool) (n m : Int) : putF "at" (.int m) (pf L b n) = pf L b m := by
  have h2 : (("tokens" : Str) = "at") = False := by simp; decide +kernel
  have h3 : (("stops" : Str) = "at") = False := by simp; decide +kernel
  simp [putF, pf, h2, h3]
/-- the parser at its n-th token -/
structure PzAt (C : Addr) (H : Hp) (p dx L : Addr) (qs : List Addr) (T : List Tk) (st : Bool) (n : Nat) : Prop where
  ob : H p = some (.ins C dx (pf L st (n : Int)))
  ls : H L = some (.lst (qs.map V.ref))
  tq : TokQ H qs T
section
variable {C p dx L : Addr} {qs : List Addr} {T : List Tk} {st : Bool} {n n' : Nat} {H H' H1 : Hp} {E : XK} {Ct Ca : Addr} {c : Int} {x : Str} {o : HO}
theorem PzAt.ex (z : PzAt C H p dx L qs T st n) (e : Ex H H') : PzAt C H' p dx L qs T st n := ⟨e _ _ z.ob, e _ _ z.ls, z.tq.ex e⟩
theorem tup_xb {fs : List (Str × V)} (ho : H p = some (.ins C dx fs)) (e : XB p H H') : ∀ q xs, H q = some (.tup xs) → H' q = some (.tup xs) := fun q xs h => e q _ (ne_of h ho (fun z => nomatch z)) h
theorem lst_xb {fs : List (Str × V)} (ho : H p = some (.ins C dx fs)) (e : XB p H H') {q : Addr} {xs : List V} (h : H q = some (.lst xs)) : H' q = some (.lst xs) := e q _ (ne_of h ho (fun z => nomatch z)) h
theorem PzAt.go (z : PzAt C H p dx L qs T st n) (e : XB p H H') (ob : H' p = some (.ins C dx (pf L st (n' : Int)))) : PzAt C H' p dx L qs T st n' :=
  ⟨ob, lst_xb z.ob e z.ls, z.tq.mono (tup_xb z.ob e)⟩
def RzB (p C : Addr) (c : Int) (x : Str) (H : Hp) (E : XK) : Prop := ∀ H' d, XB p H H' → H d = none → H' d = some (.xd [("words", .str x), ("column", .int c)]) → E (.ref C) (some d) H'
def RhB (p C : Addr) (l : List Str) (H : Hp) (E : XK) : Prop := ∀ H' q d, XB p H H' → H q = none → H d = none → H' q = some (.lst (l.map V.str)) → H' d = some (.xd [("options", .ref q)]) → E (.ref C) (some d) H'
/-- what a raised outcome asks -/
def Fail (Ct Ca p : Addr) (H : Hp) (E : XK) : Out → Prop
  | .ahead l => RhB p Ca l H E
  | .bad c x => RzB p Ct c x H E
  | .ok => True
theorem Fail.mono {out : Out} (h : Fail Ct Ca p H E out) (hp : H1 p = some o) (e : XB p H H1) : Fail Ct Ca p H1 E out := by
  have b : ∀ d, H1 d = none → H d = none := fun d hd => e.back hd (fun z => by rw [z, hp] at hd; cases hd)
  cases out with
  | ahead l => exact fun H' q d x hq hd h1 h2 => h H' q d (e.trans x) (b q hq) (b d hd) h1 h2
  | bad c x => exact fun H' d x hd h1 => h H' d (e.trans x) (b d hd) h1
  | ok => trivial
end
section
variable {P : Program} {w : World} {K : PySem.W.Frag} {mg : Str → Option Value} {base : Heap}
def spTK (C Ct Ca : Addr) : Sp := fun vs H Q E => ∃ (p oa dx L : Addr) (qs : List Addr) (T : List Tk) (st : Bool) (n : Nat) (s : S) (t : Tk) (r : List Tk), vs = [.ref p, .ref oa] ∧ PzAt C H p dx L qs T st n ∧ H oa = some (.tup (s.opts.map V.str)) ∧ T.drop n = t :: r ∧
  ((t.isFin && st) = false → (s.step t).isSome = true → ∀ q H', XB p H H' → H' p = some (.ins C dx (pf L st ((n + 1 : Nat) : Int))) → H' q = some (.tup t.v) → Q (.ref q) H') ∧ Fail Ct Ca p H E (run st s (t :: r))
theorem exp_len (s : S) : (Str.ofString "expected ").length + (joinedS (inOrder s.opts)).length ≤ 1000 := by cases s <;> decide +kernel
theorem run_no {st : Bool} {s : S} {t : Tk} {r : List Tk} (h1 : (t.isFin && st) = false) (h2 : s.step t = none) : run st s (t :: r) = .bad t.col (expS s) := by
  show (if (t.isFin && st) = true then _ else match s.step t with | none => _ | some none => _ | some (some s2) => run st s2 r) = _
  rw [h1, h2]
  rfl
theorem run_end {st : Bool} {s : S} {t : Tk} {r : List Tk} (h1 : (t.isFin && st) = true) : run st s (t :: r) = .ahead (inOrder s.opts) := by
  show (if (t.isFin && st) = true then _ else match s.step t with | none => _ | some none => _ | some (some s2) => run st s2 r) = _
  rw [h1]
  rfl
theorem run_some {st : Bool} {s s' : S} {t : Tk} {r : List Tk} (h1 : (t.isFin && st) = false) (h2 : s.step t = some (some s')) : run st s (t :: r) = run st s' r := by
  show (if (t.isFin && st) = true then _ else match s.step t with | none => _ | some none => _ | some (some s2) => run st s2 r) = _
  rw [h1, h2]
  rfl
theorem run_done {st : Bool} {s : S} {t : Tk} {r : List Tk} (h1 : (t.isFin && st) = false) (h2 : s.step t = some none) : run st s (t :: r) = .ok := by
  show (if (t.isFin && st) = true then _ else match s.step t with | none => _ | some none => _ | some (some s2) => run st s2 r) = _
  rw [h1, h2]
  rfl
theorem ok_take (T : Tx K mg) : FnOk P w K mg base (L2.CX P w) 3 T.m_take.f T.m_take.fd ["self", "options"] (spTK T.C_Parser T.C_TextError T.C_Ahead) := by
  refine T.m_take.F.okX sc_Parser_take (fun vs H Q E h => ?_) (fun cdv A outer s H vs Q E hr h => ?_)
  · obtain ⟨p, oa, dx, L, qs, T', st, n, s', t, r, rfl, _⟩ := h
    rfl
  · obtain ⟨p, oa, dx, L, qs, T', st, n, s', t, r, rfl, z, ho, hd, k, hf⟩ := h
    refine ⟨_, (pss_cons (ps_set (i := 2) sc_Parser_take.nd rfl (Or.inl rfl) (pe_ix ix_list (pe_fld (pv 0) rfl) (pe_fld (pv 0) rfl) (fun _ _ => rfl)))
  (pss_cons (ps_if (PW.pt (pw_and (pt_cmpR op_eq (pe_ix ix_tup (pv 2) pe_int (fun _ _ => rfl)) pe_str (nomark _)) (pw_and1 (pt_val (pe_fld (pv 0) rfl)))))
  (pss_one (ps_raise rfl (takes_of rfl rfl rfl rfl) (pmk_oex T.ox_Ahead T.i_Ahead.at_ T.i_Ahead.ty (ok_Ahead_init T) (hr.mono (by decide)) T.i_Ahead.b .nil pass0 rfl T.g_Ahead (pa_cons (pe_call (ok_in_order T) (hr.mono (by decide)) rfl T.d_in_order.g T.d_in_order.F.kp T.d_in_order.b .nil pass0 (pa_cons (pv 1) pa_nil)) pa_nil))))
  pss_nil)
  (pss_cons (ps_if (pt_cmpR op_notIn_seq (pe_call (ok_shown T) (hr.mono (by decide)) rfl T.d_shown.g T.d_shown.F.kp T.d_shown.b .nil pass0 (pa_cons (pv 2) pa_nil)) (pv 1) (by rfl))
  (pss_one (ps_raise rfl (takes_of rfl rfl rfl rfl) (pmk_oex T.ox_TextError T.i_TextError.at_ T.i_TextError.ty (ok_TextError_init T) (hr.mono (by decide)) T.i_TextError.b .nil pass0 rfl T.g_TextError (pa_cons (pe_ix ix_tup (pv 2) pe_int (fun _ _ => rfl)) (pa_cons (pe_op op_add_str pe_str (pe_call (ok_joined T) (hr.mono (by decide)) rfl T.d_joined.g T.d_joined.F.kp T.d_joined.b .nil pass0 (pa_cons (pe_call (ok_in_order T) (hr.mono (by decide)) rfl T.d_in_order.g T.d_in_order.F.kp T.d_in_order.b .nil pass0 (pa_cons (pv 1) pa_nil)) pa_nil))) pa_nil)))))
  pss_nil)
  (pss_cons (ps_fldaug (pv 0) pe_int in_add)
  (pss_one (ps_ret (pv 2))))))), ?_⟩
    have hn : T'[n]? = some t := by rw [← List.head?_drop, hd]; rfl
    obtain ⟨q, hq, hqt⟩ := z.tq.get hn
    have hqv : (qs.map V.ref)[n]? = some (V.ref q) := by rw [List.getElem?_map, hq]; rfl
    refine q_asg (ev_ixl (ev_fld (ev_var rfl) z.ob T.cl_Parser T.na_tokens (pf_tokens _ _ _)) (ev_fld (ev_var rfl) z.ob T.cl_Parser T.na_at (pf_at _ _ _)) (sq_of z.ls) (atI_nat hqv)) fun H1 e1 => ?_
    have hq1 := e1 _ _ hqt
    have fe : decide (V.str t.kind = V.str (Str.ofString "end")) = t.isFin := by
      have a1 : decide (V.str (Str.ofString "number") = V.str (Str.ofString "end")) = false := by decide +kernel
      have a2 : decide (V.str (Str.ofString "sign") = V.str (Str.ofString "end")) = false := by decide +kernel
      have a3 : decide (V.str (Str.ofString "end") = V.str (Str.ofString "end")) = true := by decide +kernel
      cases t with
      | num x c => exact a1
      | bar c => exact a2
      | com c => exact a2
      | fin c => exact a3
    refine q_when (b := t.isFin && st) (et_is (et_and (et_test (ev_op (ev_ixt (v := .str t.kind) (ev_var rfl) ev_c (st_of hq1) rfl) ev_c (rv_eq rfl))) fun _ => et_B (ev_fld (ev_var rfl) (e1 _ _ z.ob) T.cl_Parser T.na_stops (pf_stops _ _ _))) (by rw [fe])) (fun hb H2 e2 => ?_) (fun hb H2 e2 => ?_)
    · -- raise Ahead
      rw [run_end hb] at hf
      have e12 := e1.trans e2
      refine rd_AI (xs := (inOrder s'.opts).map V.str) (fun R kR => ?_) fun q' H' d e hq' hd' h1 h2 => ?_
      · exact ⟨_, rfl, oa, s'.opts, rfl, st_of (e12 _ _ ho), fun q2 H3 hq2 e3 h3 => kR q2 H3 hq2 e3 h3⟩
      · exact hf H' q' d (xb_of (e12.trans e)) (fresh_back e12 hq') (fresh_back e12 hd') h1 h2
    · have e12 := e1.trans e2
      refine q_when (b := !(s'.step t).isSome) (et_is (et_test (ev_op (ev_call (ea_one (ev_var rfl)) (z := .str t.shown) fun H3 e3 Q3 k3 E3 => ⟨q, t, rfl, e3 _ _ (e2 _ _ hq1), k3⟩) (ev_var rfl) (rv_niT (st_of (e12 _ _ ho)) rfl ?_))) ?_) (fun hs H3 e3 => ?_) (fun hs H3 e3 => ?_)
      · simp [List.all_map]
        intro _ _
        rfl
      · rw [step_shown]
        show (!(s'.opts.map V.str).any fun y => eqV y (.str t.shown)) = _
        rw [List.any_map]
        rfl
      · -- raise TextError
        have hs' : s'.step t = none := by
          cases h : s'.step t with
          | none => rfl
          | some o => rw [h] at hs; cases hs
        rw [run_no hb hs'] at hf
        have e13 := e12.trans e3
        refine rd_TE (c := .int t.col) (z := .str (expS s')) (ea_two (ev_ixt (v := .int t.col) (ev_var rfl) ev_c (st_of (e3 _ _ (e2 _ _ hq1))) rfl) (ev_op ev_c (y := .str (joinedS (inOrder s'.opts))) (fun H4 e4 Q4 k4 => ?_) (rv_adds (by have := exp_len s'; omega)))) fun H' d e hd' h1 => hf H' d (xb_of (e13.trans e)) (fresh_back e13 hd') h1
        exact ⟨_, rfl, oa, s'.opts, rfl, st_of ((e13.trans e4) _ _ ho), fun q2 H5 hq2 e5 h5 => ⟨q2, s', rfl, sq_of h5, fun H6 e6 => k4 H6 (e5.trans e6)⟩⟩
      · have hs' : (s'.step t).isSome = true := by
          cases h : (s'.step t).isSome with
          | true => rfl
          | false => rw [h] at hs; cases hs
        have e13 := e12.trans e3
        have ob3 := e13 _ _ z.ob
        refine ⟨_, rfl, p, T.C_Parser, dx, _, .int n, rfl, ob3, T.cl_Parser, T.na_at, pf_at _ _ _, _, _, rfl, rfl, dx, _, ob3, by simp [pf], ?_⟩
        rw [pf_next]
        refine s_ret (ev_var rfl) fun H4 e4 => ?_
        refine k hb hs' q H4 ((xb_of e13).trans (XB.upd.trans (xb_of e4))) (e4 _ _ upd_same) (e4 _ _ ?_)
        rw [upd_ne (ne_of (e3 _ _ (e2 _ _ hq1)) ob3 (fun z => nomatch z))]
        exact e3 _ _ (e2 _ _ hq1)
end
end WC

/-! ## Kd6 -/
/-! the parser's costs, table, model, numbers -/
namespace WC
open PySem PySem.Spec PyProof.Rows L2 Evl
/-- tokens with the end as the last one -/
def WFt (l : List Tk) : Prop := ∃ pre c, l = pre ++ [.fin c] ∧ (∀ t ∈ pre, t.isFin = false) ∧ ∀ t ∈ pre, t.fine
theorem WFt.cons {l : List Tk} (h : WFt l) : ∃ t r, l = t :: r ∧ (t.isFin = false → WFt r) ∧ t.fine := by
  obtain ⟨pre, c, rfl, h1, h2⟩ := h
  cases pre with
  | nil => exact ⟨.fin c, [], rfl, (fun z => nomatch z), trivial⟩
  | cons t pre => exact ⟨t, pre ++ [.fin c], rfl, fun _ => ⟨pre, c, rfl, fun u hu => h1 u (List.mem_cons_of_mem _ hu), fun u hu => h2 u (List.mem_cons_of_mem _ hu)⟩, h2 t List.mem_cons_self⟩
def Lp (s : S) : Prop := s = .begin ∨ s = .row ∨ s = .last
def S.first : S → S
  | .begin => .s0
  | .row => .change
  | .last => .shw
  | s => s
def S.closing : S → List Str
  | .begin => ["\"|\""]
  | .row => ["\",\"", "\"|\""]
  | .last => ["\",\"", "the end"]
  | _ => []
theorem Lp.opts {s : S} (h : Lp s) : s.opts.map V.str = V.str (Str.ofString "a number") :: s.closing.map V.str ∧ s.first.opts.map V.str = [V.str (Str.ofString "a number")] ∧ s.closing ≠ [] ∧ s.closing.length ≤ 10 := by
  rcases h with rfl | rfl | rfl <;> exact ⟨rfl, rfl, by decide, by decide⟩
theorem Lp.first {s : S} (h : Lp s) {t : Tk} (ht : (s.first.step t).isSome = true) : t.isNum = true ∧ s.first.step t = some (some s) := by
  rcases h with rfl | rfl | rfl <;> cases t <;> first | exact ⟨rfl, rfl⟩ | (cases ht)
theorem Lp.num {s : S} (h : Lp s) {t : Tk} (ht : t.isNum = true) : s.step t = some (some s) := by
  rcases h with rfl | rfl | rfl <;> cases t <;> first | rfl | (cases ht)
theorem num_fin {t : Tk} (h : t.isNum = true) : t.isFin = false := by cases t <;> first | rfl | cases h
theorem num_is {t : Tk} (h : t.isNum = true) : ∃ x c, t = .num x c := by cases t <;> first | exact ⟨_, _, rfl⟩ | cases h
theorem kind_num (t : Tk) : decide (V.str t.kind = V.str (Str.ofString "number")) = t.isNum := by
  have a1 : decide (V.str (Str.ofString "number") = V.str (Str.ofString "number")) = true := by decide +kernel
  have a2 : decide (V.str (Str.ofString "sign") = V.str (Str.ofString "number")) = false := by decide +kernel
  have a3 : decide (V.str (Str.ofString "end") = V.str (Str.ofString "number")) = false := by decide +kernel
  cases t with
  | num x c => exact a1
  | bar c => exact a2
  | com c => exact a2
  | fin c => exact a3
/-- a row of numbers -/
def RowAt (H : Hp) (f : Addr) : Prop := ∃ fs F, H f = some (.lst (fs.map V.ref)) ∧ TokQ H fs F ∧ F ≠ [] ∧ F.length ≤ 1000 ∧ ∀ t ∈ F, t.isNum = true ∧ t.fine
theorem RowAt.mono {H H' : Hp} {f : Addr} (h : RowAt H f) (l : ∀ q xs, H q = some (.lst xs) → H' q = some (.lst xs)) (t : ∀ q xs, H q = some (.tup xs) → H' q = some (.tup xs)) : RowAt H' f := by
  obtain ⟨fs, F, h1, h2, h3⟩ := h
  exact ⟨fs, F, l _ _ h1, h2.mono t, h3⟩
section
variable {P : Program} {w : World} {K : PySem.W.Frag} {mg : Str → Option Value} {base : Heap}
/-- a call of take, the options a new tuple -/
theorem rd_take {C Ct Ca p dx L : Addr} {qs : List Addr} {T : List Tk} {st : Bool} {n : Nat} {H : Hp} {E : XK} {Q : VK} {σ : L2.St} {s : S} {t : Tk} {r : List Tk} {to : TE}
    (hv : σ[0]? = some (some (.ref p))) (z : PzAt C H p dx L qs T st n) (ho : EvU to σ H (s.opts.map V.str)) (hd : T.drop n = t :: r)
    (k : (t.isFin && st) = false → (s.step t).isSome = true → ∀ q H', XB p H H' → PzAt C H' p dx L qs T st (n + 1) → H' q = some (.tup t.v) → Q (.ref q) H') (hf : Fail Ct Ca p H E (run st s (t :: r))) :
    tMeth C "take" (spTK C Ct Ca) [] E (tVar 0) (tCons to tNil) σ H Q := by
  refine ⟨_, hv, p, dx, _, rfl, z.ob, pf_no ne_takes _ _ _, ?_⟩
  refine ho H (Ex.refl H) _ fun oa H1 hoa e1 h1 => ?_
  have x1 : XB p H H1 := xb_of e1
  exact ⟨p, oa, dx, L, qs, T, st, n, s, t, r, rfl, z.ex e1, h1, hd, fun b1 b2 q H' x hp hq => k b1 b2 q H' (x1.trans x) (z.go (x1.trans x) hp) hq, hf.mono (e1 _ _ z.ob) x1⟩
def spCO (C Ct Ca : Addr) : Sp := fun vs H Q E => ∃ (p ca dx L : Addr) (qs : List Addr) (T : List Tk) (st : Bool) (n : Nat) (s : S), vs = [.ref p, .ref ca] ∧ Lp s ∧ PzAt C H p dx L qs T st n ∧ H ca = some (.tup (s.closing.map V.str)) ∧ WFt (T.drop n) ∧ T.length ≤ 500 ∧
  Fail Ct Ca p H E (run st s.first (T.drop n)) ∧
  (∀ q f k t r n' H', XB p H H' → PzAt C H' p dx L qs T st n' → n < n' → H' q = some (.tup [.ref f, .ref k]) → RowAt H' f → H' k = some (.tup (Tk.v t)) → T.drop n' = r → t.isNum = false → (t.isFin && st) = false → (s.step t).isSome = true →
    (t.isFin = false → WFt r) → run st s (t :: r) = run st s.first (T.drop n) → Q (.ref q) H')
theorem ok_costs (T : Tx K mg) : FnOk P w K mg base (L2.CX P w) 4 T.m_costs.f T.m_costs.fd ["self", "closing"] (spCO T.C_Parser T.C_TextError T.C_Ahead) := by
  refine T.m_costs.F.okX sc_Parser_costs (fun vs H Q E h => ?_) (fun cdv A outer s H vs Q E hr h => ?_)
  · obtain ⟨p, ca, dx, L, qs, T', st, n, s', rfl, _⟩ := h
    rfl
  · obtain ⟨p, ca, dx, L, qs, T', st, n, s', rfl, hs, z, hc, hw, hl, hf, k⟩ := h
    refine ⟨_, (pss_cons (ps_set (i := 2) sc_Parser_costs.nd rfl (Or.inl rfl) (pe_lst (pa_cons (pe_meth (pv 0) T.cl_Parser T.m_take.M (ok_take T) (hr.mono (by decide)) T.m_take.b .nil (passX (takes_of rfl rfl rfl rfl)) (pa_cons (pe_tup (pa_cons pe_str pa_nil)) pa_nil)) pa_nil)))
  (pss_cons (ps_set (i := 3) sc_Parser_costs.nd rfl (Or.inl rfl) (pe_meth (pv 0) T.cl_Parser T.m_take.M (ok_take T) (hr.mono (by decide)) T.m_take.b .nil (passX (takes_of rfl rfl rfl rfl)) (pa_cons (pe_op op_catT (pe_tup (pa_cons pe_str pa_nil)) (pv 1)) pa_nil)))
  (pss_cons (ps_while (passes_of rfl) (pt_cmpR op_eq (pe_ix ix_tup (pv 3) pe_int (fun _ _ => rfl)) pe_str (nomark _))
  (pss_cons (ps_expr (pe_bm PySem.F.plainAttrs_list PySem.F.slot_list_append PySem.F.type_list_append mt_append (pv 2) (pa_cons (pv 3) pa_nil)))
  (pss_one (ps_set (i := 3) sc_Parser_costs.nd rfl (Or.inl rfl) (pe_meth (pv 0) T.cl_Parser T.m_take.M (ok_take T) (hr.mono (by decide)) T.m_take.b .nil (passX (takes_of rfl rfl rfl rfl)) (pa_cons (pe_op op_catT (pe_tup (pa_cons pe_str pa_nil)) (pv 1)) pa_nil))))))
  (pss_one (ps_ret (pe_tup (pa_cons (pv 2) (pa_cons (pv 3) pa_nil)))))))), ?_⟩
    obtain ⟨o1, o2, o3, o4⟩ := hs.opts
    obtain ⟨t, r, hd, hwr, htf⟩ := hw.cons
    rw [hd] at hf
    have cat : ∀ {σ : L2.St} {H1 : Hp}, σ[1]? = some (some (.ref ca)) → H1 ca = some (.tup (s'.closing.map V.str)) → EvU (tOp (rCatT K) (tTup (tCons (tC (.str (Str.ofString "a number"))) tNil)) (tVar 1)) σ H1 (s'.opts.map V.str) := fun h1 h2 => by
      rw [o1]
      exact eu_catT (eu_tup (ea_one ev_c) (by simp)) (ev_var h1) (st_of h2) (by simp) (by simp [o3]) (by simp; omega)
    refine rd_take (s := s'.first) (σ := [some (.ref p), some (.ref ca), none, none]) rfl z (by rw [o2]; exact eu_tup (ea_one ev_c) (by simp)) hd (fun b1 b2 q H1 x1 z1 hq => ?_) hf
    obtain ⟨nt, stp⟩ := hs.first b2
    have rw1 : run st s'.first (t :: r) = run st s' r := run_some b1 stp
    have hw1 := hwr (num_fin nt)
    refine ⟨by simp; decide, fun f hfn => ?_⟩
    have hfp : f ≠ p := fun z => by rw [z, z1.ob] at hfn; cases hfn
    have hfH : H f = none := x1.back hfn hfp
    have ex2 : Ex H1 (upd H1 f (.lst [.ref q])) := Ex.new hfn
    obtain ⟨t2, r2, hd2, hwr2, _⟩ := hw1.cons
    have hdr : T'.drop (n + 1) = r := by rw [← List.drop_drop, hd]; rfl
    have hdr2 : T'.drop (n + 1) = t2 :: r2 := hdr.trans hd2
    have xa : XB p H (upd H1 f (.lst [.ref q])) := x1.trans (xb_of ex2)
    have hcH : ∀ {H2 : Hp}, XB p H H2 → H2 ca = some (.tup (s'.closing.map V.str)) := fun x => tup_xb z.ob x _ _ hc
    refine rd_take (s := s') (σ := [some (.ref p), some (.ref ca), some (.ref f), none]) rfl (z1.ex ex2) (cat rfl (hcH xa)) hdr2 (fun b3 b4 q2 H2 x2 z2 hq2 => ?_) (by rw [← hd2, ← rw1]; exact hf.mono (ex2 _ _ z1.ob) xa)
    have hdr3 : T'.drop (n + 2) = r2 := by rw [show n + 2 = (n + 1) + 1 from rfl, ← List.drop_drop, hdr2]; rfl
    refine q_while (fun m σ' H' => ∃ (fs : List Addr) (F : List Tk) (kq : Addr) (t' : Tk) (r' : List Tk) (n' : Nat), r'.length = m ∧ σ' = [some (.ref p), some (.ref ca), some (.ref f), some (.ref kq)] ∧ XB p H H' ∧ PzAt T.C_Parser H' p dx L qs T' st n' ∧ n < n' ∧
      H' f = some (.lst (fs.map V.ref)) ∧ TokQ H' fs F ∧ F ≠ [] ∧ F.length ≤ n' ∧ n' ≤ T'.length ∧ (∀ u ∈ F, u.isNum = true ∧ u.fine) ∧ H' kq = some (.tup t'.v) ∧ T'.drop n' = r' ∧ (t'.isFin && st) = false ∧ (s'.step t').isSome = true ∧ (t'.isFin = false → WFt r') ∧ t'.fine ∧
      run st s' (t' :: r') = run st s'.first (T'.drop n)) r2.length ⟨[q], [t], q2, t2, r2, n + 2, rfl, rfl, xa.trans x2, z2, by omega, lst_xb (ex2 _ _ z1.ob) x2 upd_same, .cons ?_ .nil, by simp, by simp, ?_, ?_, hq2, hdr3, b3, b4, hwr2, ?_, by rw [← hd2, ← rw1, hd]⟩ ?_
    · exact tup_xb (ex2 _ _ z1.ob) x2 _ _ (ex2 _ _ hq)
    · have : (T'.drop (n + 1)).length = T'.length - (n + 1) := List.length_drop
      rw [hdr2] at this
      simp at this
      omega
    · intro u hu
      rw [List.mem_singleton.mp hu]
      exact ⟨nt, htf⟩
    · have := hw1.cons
      obtain ⟨t3, r3, e3, _, f3⟩ := this
      rw [hd2] at e3
      cases e3
      exact f3
    rintro m σ' H' ⟨fs, F, kq, t', r', n', hm, rfl, x3, z3, hn', h1, h2, h3, h3l, h3n, h4, h5, h6, h7, h8, h9, h9f, h10⟩
    have tst : EvT (tTest (tOp rEq (tOp (rIxT K) (tVar 3) (tC (.int 0))) (tC (.str (Str.ofString "number"))))) [some (.ref p), some (.ref ca), some (.ref f), some (.ref kq)] H' t'.isNum :=
      et_is (et_test (ev_op (ev_ixt (v := .str t'.kind) (ev_var (i := 3) rfl) ev_c (st_of h5) rfl) ev_c (rv_eq rfl))) (kind_num t')
    refine ⟨t'.isNum, tst, fun hb H4 e4 => ?_, fun hb H4 e4 => ?_⟩
    · -- one more
      have hw' := h9 (num_fin hb)
      obtain ⟨t3, r3, hd3, hwr3, hf3⟩ := hw'.cons
      have hrun : run st s' (t' :: r') = run st s' r' := run_some h7 (hs.num hb)
      refine ⟨_, fun _ _ h => ⟨m - 1, by rw [hd3] at hm; simp at hm; omega, h⟩, ?_⟩
      have h14 := e4 _ _ h1
      refine q_app h14 (ev_var rfl) (ev_var rfl) (by simp; have := h2.len; omega) fun H5 e5 => ?_
      have h15 := e5 _ _ h14
      have z4 := (z3.ex e4).ex e5
      have nfp : f ≠ p := ne_of h15 z4.ob (fun z => nomatch z)
      have x5 : XB p H (upd H5 f (.lst (fs.map V.ref ++ [.ref kq]))) := fun b o nb hb' => by
        by_cases hbf : b = f
        · rw [hbf, hfH] at hb'; cases hb'
        · rw [upd_ne hbf]
          exact e5 _ _ (e4 _ _ (x3 b o nb hb'))
      have z5 : PzAt T.C_Parser (upd H5 f (.lst (fs.map V.ref ++ [.ref kq]))) p dx L qs T' st n' := by
        have nL : L ≠ f := fun hLf => by
          have q0 := z.ls
          rw [hLf, hfH] at q0
          cases q0
        exact ⟨by rw [upd_ne nfp.symm]; exact z4.ob, by rw [upd_ne nL]; exact z4.ls, z4.tq.mono (tup_keep h15)⟩
      refine rd_take (s := s') (σ := [some (.ref p), some (.ref ca), some (.ref f), some (.ref kq)]) (n := n') rfl z5 (cat rfl (hcH x5)) (h6.trans hd3) (fun b5 b6 q6 H6 x6 z6 hq6 => ?_) ?_
      · have hdr6 : T'.drop (n' + 1) = r3 := by rw [← List.drop_drop, h6, hd3]; rfl
        refine ⟨fs ++ [kq], F ++ [t'], q6, t3, r3, n' + 1, by rw [hd3] at hm; simp at hm; omega, rfl, x5.trans x6, z6, by omega, ?_, ?_, by simp, by simp; omega, ?_, ?_, hq6, hdr6, b5, b6, hwr3, hf3, ?_⟩
        · rw [List.map_append]
          exact lst_xb z5.ob x6 upd_same
        · exact TokQ.mono (tup_xb z5.ob x6) (TokQ.mono (tup_keep h15) (((h2.ex e4).ex e5).snoc (e5 _ _ (e4 _ _ h5))))
        · have : (T'.drop n').length = T'.length - n' := List.length_drop
          rw [h6, hd3] at this
          simp at this
          omega
        · intro u hu
          rcases List.mem_append.mp hu with hu | hu
          · exact h4 u hu
          · rw [List.mem_singleton.mp hu]
            exact ⟨hb, h9f⟩
        · rw [← hd3, ← hrun, h10]
      · rw [← hd3, ← hrun, h10, hd]
        exact hf.mono z5.ob x5
    · -- the end
      refine s_retU (eu_tup (ea_two (ev_var rfl) (ev_var rfl)) (by simp)) fun q7 H7 hq7 e7 h77 => ?_
      have ee := e4.trans e7
      refine k q7 f kq t' r' n' H7 (x3.trans (xb_of ee)) (z3.ex ee) hn' h77 ⟨fs, F, ee _ _ h1, h2.ex ee, h3, by omega, h4⟩ (ee _ _ h5) h6 hb h7 h8 h9 h10
end
end WC

/-! ## Kd7 -/
/-! the parser's table, model, numbers -/
namespace WC
open PySem PySem.Spec PyProof.Rows L2 Evl
def Tk.isCom : Tk → Bool
  | .com _ => true
  | _ => false
theorem chs_com {t : Tk} (h : t.isNum = false) : decide (V.str t.chs = V.str (Str.ofString ",")) = t.isCom := by
  have a1 : decide (V.str (Str.ofString ",") = V.str (Str.ofString ",")) = true := by decide +kernel
  have a2 : decide (V.str (Str.ofString "|") = V.str (Str.ofString ",")) = false := by decide +kernel
  have a3 : decide (V.str (Str.ofString "") = V.str (Str.ofString ",")) = false := by decide +kernel
  cases t with
  | num x c => cases h
  | bar c => exact a2
  | com c => exact a1
  | fin c => exact a3
def Lq (s : S) : Prop := s = .row ∨ s = .last
theorem Lq.lp {s : S} (h : Lq s) : Lp s := by
  rcases h with rfl | rfl
  · exact .inr (.inl rfl)
  · exact .inr (.inr rfl)
def S.ctab : S → List Str
  | .row => ["\"|\""]
  | .last => ["the end"]
  | _ => []
theorem Lq.opts {s : S} (h : Lq s) : s.closing.map V.str = V.str (Str.ofString "\",\"") :: s.ctab.map V.str ∧ s.ctab ≠ [] ∧ s.ctab.length ≤ 10 := by
  rcases h with rfl | rfl <;> exact ⟨rfl, by decide, by decide⟩
theorem Lq.com {s : S} (h : Lq s) {t : Tk} (ht : t.isCom = true) : s.step t = some (some s.first) ∧ t.isFin = false := by
  rcases h with rfl | rfl <;> cases t <;> first | exact ⟨rfl, rfl⟩ | (cases ht)
/-- a row and the token behind it -/
def PairAt (H : Hp) (pr : Addr) : Prop := ∃ f k t, H pr = some (.tup [.ref f, .ref k]) ∧ RowAt H f ∧ H k = some (.tup (Tk.v t))
theorem PairAt.mono {H H' : Hp} {f : Addr} (h : PairAt H f) (l : ∀ q xs, H q = some (.lst xs) → H' q = some (.lst xs)) (t : ∀ q xs, H q = some (.tup xs) → H' q = some (.tup xs)) : PairAt H' f := by
  obtain ⟨a, b, c, h1, h2, h3⟩ := h
  exact ⟨a, b, c, t _ _ h1, h2.mono l t, t _ _ h3⟩
def PairsAt (H : Hp) (prs : List Addr) : Prop := ∀ pr ∈ prs, PairAt H pr
theorem PairsAt.mono {H H' : Hp} {f : List Addr} (h : PairsAt H f) (l : ∀ q xs, H q = some (.lst xs) → H' q = some (.lst xs)) (t : ∀ q xs, H q = some (.tup xs) → H' q = some (.tup xs)) : PairsAt H' f :=
  fun pr hp => (h pr hp).mono l t
/-- a row's items are triples, a pair's list's are pairs -/
theorem row_pairs {H : Hp} {g : Addr} {prs : List Addr} (h : RowAt H g) (hg : H g = some (.lst (prs.map V.ref))) (hp : PairsAt H prs) : False := by
  obtain ⟨fs, F, h1, h2, h3, _⟩ := h
  rw [h1] at hg
  have e : fs.map V.ref = prs.map V.ref := by
    have := Option.some.inj hg
    injection this
  cases h2 with
  | nil => exact h3 rfl
  | @cons q qs t ts hq _ =>
    cases prs with
    | nil => cases e
    | cons pr prs =>
      rw [List.map_cons, List.map_cons] at e
      injection e with e1 _
      injection e1 with e1
      subst e1
      obtain ⟨a, b, c, h4, _⟩ := hp q List.mem_cons_self
      rw [hq] at h4
      have := Option.some.inj h4
      injection this with this
      cases this
section
variable {P : Program} {w : World} {K : PySem.W.Frag} {mg : Str → Option Value} {base : Heap}
theorem rd_costs {C Ct Ca p dx L : Addr} {qs : List Addr} {T : List Tk} {st : Bool} {n : Nat} {H : Hp} {E : XK} {Q : VK} {σ : L2.St} {s : S} {to : TE}
    (hv : σ[0]? = some (some (.ref p))) (hs : Lp s) (z : PzAt C H p dx L qs T st n) (ho : EvU to σ H (s.closing.map V.str)) (hw : WFt (T.drop n)) (hl : T.length ≤ 500) (hf : Fail Ct Ca p H E (run st s.first (T.drop n)))
    (k : ∀ q f k t r n' H', XB p H H' → PzAt C H' p dx L qs T st n' → n < n' → H' q = some (.tup [.ref f, .ref k]) → RowAt H' f → H' k = some (.tup (Tk.v t)) → T.drop n' = r → t.isNum = false → (t.isFin && st) = false → (s.step t).isSome = true →
      (t.isFin = false → WFt r) → run st s (t :: r) = run st s.first (T.drop n) → Q (.ref q) H') :
    tMeth C "costs" (spCO C Ct Ca) [] E (tVar 0) (tCons to tNil) σ H Q := by
  refine ⟨_, hv, p, dx, _, rfl, z.ob, pf_no ne_costs _ _ _, ?_⟩
  refine ho H (Ex.refl H) _ fun oa H1 hoa e1 h1 => ?_
  have x1 : XB p H H1 := xb_of e1
  exact ⟨p, oa, dx, L, qs, T, st, n, s, rfl, hs, z.ex e1, h1, hw, hl, hf.mono (e1 _ _ z.ob) x1, fun q f kk t r n' H' x zz hn a1 a2 a3 a4 a5 a6 a7 a8 a9 => k q f kk t r n' H' (x1.trans x) zz hn a1 a2 a3 a4 a5 a6 a7 a8 a9⟩
def spTB (C Ct Ca : Addr) : Sp := fun vs H Q E => ∃ (p ca dx L : Addr) (qs : List Addr) (T : List Tk) (st : Bool) (n : Nat) (s : S), vs = [.ref p, .ref ca] ∧ Lq s ∧ PzAt C H p dx L qs T st n ∧ H ca = some (.tup (s.ctab.map V.str)) ∧ WFt (T.drop n) ∧ T.length ≤ 500 ∧
  Fail Ct Ca p H E (run st s.first (T.drop n)) ∧
  (∀ q prs t r n' H', XB p H H' → PzAt C H' p dx L qs T st n' → H' q = some (.lst (prs.map V.ref)) → PairsAt H' prs → prs.length ≤ 500 → T.drop n' = r → Tk.isNum t = false → t.isCom = false → (t.isFin && st) = false → (s.step t).isSome = true →
    (t.isFin = false → WFt r) → run st s (t :: r) = run st s.first (T.drop n) → Q (.ref q) H')
theorem ok_table (T : Tx K mg) : FnOk P w K mg base (L2.CX P w) 5 T.m_table.f T.m_table.fd ["self", "closing"] (spTB T.C_Parser T.C_TextError T.C_Ahead) := by
  refine T.m_table.F.okX sc_Parser_table (fun vs H Q E h => ?_) (fun cdv A outer s H vs Q E hr h => ?_)
  · obtain ⟨p, ca, dx, L, qs, T', st, n, s', rfl, _⟩ := h
    rfl
  · obtain ⟨p, ca, dx, L, qs, T', st, n, s', rfl, hs, z, hc, hw, hl, hf, k⟩ := h
    refine ⟨_, (pss_cons (ps_set (i := 2) sc_Parser_table.nd rfl (Or.inl rfl) (pe_lst pa_nil))
  (pss_cons (ps_set (i := 3) sc_Parser_table.nd rfl (Or.inl rfl) (pe_tup (pa_cons pe_str (pa_cons pe_str (pa_cons pe_int pa_nil)))))
  (pss_cons (ps_while (passes_of rfl) (pt_cmpR op_eq (pe_ix ix_tup (pv 3) pe_int (fun _ _ => rfl)) pe_str (nomark _))
  (pss_cons (ps_asg (pe_meth (pv 0) T.cl_Parser T.m_costs.M (ok_costs T) (hr.mono (by decide)) T.m_costs.b .nil (passX (takes_of rfl rfl rfl rfl)) (pa_cons (pe_op op_catT (pe_tup (pa_cons pe_str pa_nil)) (pv 1)) pa_nil)) (pg_tup (by rfl) (pgs_cons (pg_name (i := 4) sc_Parser_table.nd rfl (Or.inl rfl)) (pgs_cons (pg_name (i := 3) sc_Parser_table.nd rfl (Or.inl rfl)) pgs_nil))))
  (pss_one (ps_expr (pe_bm PySem.F.plainAttrs_list PySem.F.slot_list_append PySem.F.type_list_append mt_append (pv 2) (pa_cons (pe_tup (pa_cons (pv 4) (pa_cons (pv 3) pa_nil))) pa_nil))))))
  (pss_one (ps_ret (pv 2)))))), ?_⟩
    obtain ⟨o1, o2, o3⟩ := hs.opts
    have cat : ∀ {σ : L2.St} {H1 : Hp}, σ[1]? = some (some (.ref ca)) → H1 ca = some (.tup (s'.ctab.map V.str)) → EvU (tOp (rCatT K) (tTup (tCons (tC (.str (Str.ofString "\",\""))) tNil)) (tVar 1)) σ H1 (s'.closing.map V.str) := fun h1 h2 => by
      rw [o1]
      exact eu_catT (eu_tup (ea_one ev_c) (by simp)) (ev_var h1) (st_of h2) (by simp) (by simp [o2]) (by simp; omega)
    have wn : ∀ {m : Nat}, WFt (T'.drop m) → m < T'.length := fun {m} h => by
      obtain ⟨t, r, e, _⟩ := h.cons
      have : (T'.drop m).length = T'.length - m := List.length_drop
      rw [e] at this
      simp at this
      omega
    refine q_asgL (el_lst ea_nil (by decide)) fun f H1 hfn e1 h1 => ?_
    refine q_asgU (eu_tup (ea_three ev_c ev_c ev_c) (by simp)) fun k0 H2 hk0 e2 h2 => ?_
    have e12 := e1.trans e2
    refine q_while (fun m σ' H' => ∃ (prs : List Addr) (kq : Addr) (t' : Tk) (r' : List Tk) (n' : Nat) (rv : Option V), T'.length - n' ≤ m ∧ σ' = [some (.ref p), some (.ref ca), some (.ref f), some (.ref kq), rv] ∧ XB p H H' ∧ PzAt T.C_Parser H' p dx L qs T' st n' ∧ n ≤ n' ∧
      H' f = some (.lst (prs.map V.ref)) ∧ PairsAt H' prs ∧ prs.length + n ≤ n' ∧ H' kq = some (.tup t'.v) ∧ t'.isNum = false ∧ T'.drop n' = r' ∧
      ((t'.isCom = true ∧ WFt r' ∧ prs.length ≤ 500 ∧ run st s'.first r' = run st s'.first (T'.drop n)) ∨ (t'.isCom = false ∧ prs.length ≤ 500 ∧ (t'.isFin && st) = false ∧ (s'.step t').isSome = true ∧ (t'.isFin = false → WFt r') ∧ run st s' (t' :: r') = run st s'.first (T'.drop n))))
      (T'.length - n) ⟨[], k0, .com 0, _, n, none, Nat.le_refl _, rfl, xb_of e12, z.ex e12, Nat.le_refl _, e2 _ _ h1, (fun _ h => nomatch h), by simp, h2, rfl, rfl, .inl ⟨rfl, hw, by simp, rfl⟩⟩ ?_
    rintro m σ' H' ⟨prs, kq, t', r', n', rv, hm, rfl, x3, z3, hn', h3, h4, h4l, h5, h6, h7, h8⟩
    have tst : EvT (tTest (tOp rEq (tOp (rIxT K) (tVar 3) (tC (.int 1))) (tC (.str (Str.ofString ","))))) [some (.ref p), some (.ref ca), some (.ref f), some (.ref kq), rv] H' t'.isCom :=
      et_is (et_test (ev_op (ev_ixt (v := .str t'.chs) (ev_var (i := 3) rfl) ev_c (st_of h5) rfl) ev_c (rv_eq rfl))) (chs_com h6)
    refine ⟨t'.isCom, tst, fun hb H4 e4 => ?_, fun hb H4 e4 => ?_⟩
    · obtain ⟨_, hw', hpl, hrun⟩ | ⟨hb2, _⟩ := h8
      · subst h7
        have hnl := wn hw'
        refine ⟨_, fun _ _ h => ⟨m - 1, by omega, h⟩, ?_⟩
        have z4 := z3.ex e4
        have hc4 : H4 ca = some (.tup (s'.ctab.map V.str)) := e4 _ _ (tup_xb z.ob x3 _ _ hc)
        refine rd_costs (σ := [some (.ref p), some (.ref ca), some (.ref f), some (.ref kq), rv]) rfl hs.lp z4 (cat rfl hc4) hw' hl (by rw [hrun]; exact hf.mono z4.ob (x3.trans (xb_of e4))) fun q f2 k2 t2 r2 n2 H5 x5 z5 hn2 a1 a2 a3 a4 a5 a6 a7 a8 a9 => ?_
        refine ⟨q, _, rfl, st_of a1, rfl, _, _, rfl, _, _, rfl, rfl, ?_⟩
        have hf5 : H5 f = some (.lst (prs.map V.ref)) := lst_xb z4.ob x5 (e4 _ _ h3)
        have hpl2 : prs.length ≤ 499 := by omega
        refine s_appU hf5 (ev_var rfl) (eu_tup (ea_two (ev_var rfl) (ev_var rfl)) (by simp)) (by simp; omega) fun pr H6 hpr e6 h6' => ?_
        have hf6 := e6 _ _ hf5
        have z6 := z5.ex e6
        have nfp : f ≠ p := ne_of hf6 z6.ob (fun z => nomatch z)
        have keepL : ∀ q xs, q ≠ f → H6 q = some (.lst xs) → upd H6 f (.lst (prs.map V.ref ++ [.ref pr])) q = some (.lst xs) := fun q xs nq h => by rw [upd_ne nq]; exact h
        have x6 : XB p H (upd H6 f (.lst (prs.map V.ref ++ [.ref pr]))) := fun b o nb hb' => by
          by_cases hbf : b = f
          · rw [hbf, hfn] at hb'; cases hb'
          · rw [upd_ne hbf]
            exact e6 _ _ (x5 _ _ nb (e4 _ _ (x3 b o nb hb')))
        have hLn : H L ≠ none := by rw [z.ls]; exact fun z => nomatch z
        have nL : L ≠ f := fun hLf => hLn (by rw [hLf]; exact hfn)
        have z7 : PzAt T.C_Parser (upd H6 f (.lst (prs.map V.ref ++ [.ref pr]))) p dx L qs T' st n2 := ⟨by rw [upd_ne nfp.symm]; exact z6.ob, by rw [upd_ne nL]; exact z6.ls, z6.tq.mono (tup_keep hf6)⟩
        have old6 : PairsAt H6 prs := ((h4.mono (fun q xs h => e4 _ _ h) (fun q xs h => e4 _ _ h)).mono (fun q xs h => lst_xb z4.ob x5 h) (tup_xb z4.ob x5)).mono (fun q xs h => e6 _ _ h) (fun q xs h => e6 _ _ h)
        have new6 : PairAt H6 pr := ⟨f2, k2, t2, h6', a2.mono (fun q xs h => e6 _ _ h) (fun q xs h => e6 _ _ h), e6 _ _ a3⟩
        have rowK : ∀ {g : Addr}, RowAt H6 g → RowAt (upd H6 f (.lst (prs.map V.ref ++ [.ref pr]))) g := fun {g} hg => by
          have ng : g ≠ f := fun z => row_pairs hg (by rw [z]; exact hf6) old6
          obtain ⟨fs, F, b1, b2, b3⟩ := hg
          exact ⟨fs, F, keepL _ _ ng b1, b2.mono (tup_keep hf6), b3⟩
        have pairK : ∀ {g : Addr}, PairAt H6 g → PairAt (upd H6 f (.lst (prs.map V.ref ++ [.ref pr]))) g := fun {g} ⟨b1, b2, b3, c1, c2, c3⟩ => ⟨b1, b2, b3, tup_keep hf6 _ _ c1, rowK c2, tup_keep hf6 _ _ c3⟩
        refine ⟨prs ++ [pr], k2, t2, r2, n2, some (.ref f2), by omega, rfl, x6, z7, by omega, ?_, ?_, by simp; omega, tup_keep hf6 _ _ (e6 _ _ a3), a5, a4, ?_⟩
        · rw [List.map_append]
          exact upd_same
        · intro g hg
          rcases List.mem_append.mp hg with hg | hg
          · exact pairK (old6 g hg)
          · rw [List.mem_singleton.mp hg]
            exact pairK new6
        · cases hcm : t2.isCom with
          | true =>
            obtain ⟨g1, g2⟩ := hs.com hcm
            refine .inl ⟨rfl, a8 g2, by simp; omega, ?_⟩
            rw [← run_some (r := r2) a6 g1, a9, hrun]
          | false => exact .inr ⟨rfl, by simp; omega, a6, a7, a8, by rw [a9, hrun]⟩
      · rw [hb] at hb2; cases hb2
    · obtain ⟨hb2, _⟩ | ⟨hb2, hpl, g1, g2, g3, g4⟩ := h8
      · rw [hb] at hb2; cases hb2
      · refine s_ret (ev_var rfl) fun H5 e5 => ?_
        have ee := e4.trans e5
        exact k f prs t' r' n' H5 (x3.trans (xb_of ee)) (z3.ex ee) (ee _ _ h3) (h4.mono (fun q xs h => ee _ _ h) (fun q xs h => ee _ _ h)) hpl h7 h6 hb g1 g2 g3 g4
end
end WC

/-! ## Kd8 -/
/-! the parser's model, numbers -/
namespace WC
open PySem PySem.Spec PyProof.Rows L2 Evl
/-- numbers, none perhaps -/
def NumsAt (H : Hp) (f : Addr) : Prop := ∃ fs F, H f = some (.lst (fs.map V.ref)) ∧ TokQ H fs F ∧ F.length ≤ 1000 ∧ ∀ t ∈ F, Tk.isNum t = true ∧ t.fine
theorem NumsAt.mono {H H' : Hp} {f : Addr} (h : NumsAt H f) (l : ∀ q xs, H q = some (.lst xs) → H' q = some (.lst xs)) (t : ∀ q xs, H q = some (.tup xs) → H' q = some (.tup xs)) : NumsAt H' f := by
  obtain ⟨fs, F, h1, h2, h3⟩ := h
  exact ⟨fs, F, l _ _ h1, h2.mono t, h3⟩
theorem RowAt.nums {H : Hp} {f : Addr} (h : RowAt H f) : NumsAt H f := by
  obtain ⟨fs, F, h1, h2, h3, h4, h5⟩ := h
  exact ⟨fs, F, h1, h2, h4, h5⟩
/-- a table's list -/
def TabAt (H : Hp) (c : Addr) : Prop := ∃ prs : List Addr, H c = some (.lst (prs.map V.ref)) ∧ PairsAt H prs ∧ prs.length ≤ 500
theorem TabAt.mono {H H' : Hp} {f : Addr} (h : TabAt H f) (l : ∀ q xs, H q = some (.lst xs) → H' q = some (.lst xs)) (t : ∀ q xs, H q = some (.tup xs) → H' q = some (.tup xs)) : TabAt H' f := by
  obtain ⟨prs, h1, h2, h3⟩ := h
  exact ⟨prs, l _ _ h1, h2.mono l t, h3⟩
section
variable {P : Program} {w : World} {K : PySem.W.Frag} {mg : Str → Option Value} {base : Heap}
theorem rd_table {C Ct Ca p dx L : Addr} {qs : List Addr} {T : List Tk} {st : Bool} {n : Nat} {H : Hp} {E : XK} {Q : VK} {σ : L2.St} {s : S} {to : TE}
    (hv : σ[0]? = some (some (.ref p))) (hs : Lq s) (z : PzAt C H p dx L qs T st n) (ho : EvU to σ H (s.ctab.map V.str)) (hw : WFt (T.drop n)) (hl : T.length ≤ 500) (hf : Fail Ct Ca p H E (run st s.first (T.drop n)))
    (k : ∀ q t r n' H', XB p H H' → PzAt C H' p dx L qs T st n' → TabAt H' q → T.drop n' = r → Tk.isNum t = false → t.isCom = false → (t.isFin && st) = false → (s.step t).isSome = true →
      (t.isFin = false → WFt r) → run st s (t :: r) = run st s.first (T.drop n) → Q (.ref q) H') :
    tMeth C "table" (spTB C Ct Ca) [] E (tVar 0) (tCons to tNil) σ H Q := by
  refine ⟨_, hv, p, dx, _, rfl, z.ob, pf_no ne_table _ _ _, ?_⟩
  refine ho H (Ex.refl H) _ fun oa H1 hoa e1 h1 => ?_
  have x1 : XB p H H1 := xb_of e1
  exact ⟨p, oa, dx, L, qs, T, st, n, s, rfl, hs, z.ex e1, h1, hw, hl, hf.mono (e1 _ _ z.ob) x1, fun q prs t r n' H' x zz a1 a2 a3 a4 a5 a6 a7 a8 a9 a10 => k q t r n' H' (x1.trans x) zz ⟨prs, a1, a2, a3⟩ a4 a5 a6 a7 a8 a9 a10⟩
def spMO (C Ct Ca : Addr) : Sp := fun vs H Q E => ∃ (p dx L : Addr) (qs : List Addr) (T : List Tk) (st : Bool) (n : Nat), vs = [.ref p] ∧ PzAt C H p dx L qs T st n ∧ WFt (T.drop n) ∧ T.length ≤ 500 ∧ Fail Ct Ca p H E (run st .s0 (T.drop n)) ∧
  (run st .s0 (T.drop n) = .ok → ∀ q b c h H', XB p H H' → H' q = some (.tup [.ref b, .ref c, .ref h]) → RowAt H' b → TabAt H' c → TabAt H' h → Q (.ref q) H')
theorem ok_model (T : Tx K mg) : FnOk P w K mg base (L2.CX P w) 6 T.m_model.f T.m_model.fd ["self"] (spMO T.C_Parser T.C_TextError T.C_Ahead) := by
  refine T.m_model.F.okX sc_Parser_model (fun vs H Q E h => ?_) (fun cdv A outer s H vs Q E hr h => ?_)
  · obtain ⟨p, dx, L, qs, T', st, n, rfl, _⟩ := h
    rfl
  · obtain ⟨p, dx, L, qs, T', st, n, rfl, z, hw, hl, hf, k⟩ := h
    refine ⟨_, (pss_cons (ps_set (i := 1) sc_Parser_model.nd rfl (Or.inl rfl) (pe_meth (pv 0) T.cl_Parser T.m_costs.M (ok_costs T) (hr.mono (by decide)) T.m_costs.b .nil (passX (takes_of rfl rfl rfl rfl)) (pa_cons (pe_tup (pa_cons pe_str pa_nil)) pa_nil)))
  (pss_cons (ps_set (i := 2) sc_Parser_model.nd rfl (Or.inl rfl) (pe_meth (pv 0) T.cl_Parser T.m_table.M (ok_table T) (hr.mono (by decide)) T.m_table.b .nil (passX (takes_of rfl rfl rfl rfl)) (pa_cons (pe_tup (pa_cons pe_str pa_nil)) pa_nil)))
  (pss_one (ps_ret (pe_tup (pa_cons (pe_ix ix_tup (pv 1) pe_int (fun _ _ => rfl)) (pa_cons (pv 2) (pa_cons (pe_meth (pv 0) T.cl_Parser T.m_table.M (ok_table T) (hr.mono (by decide)) T.m_table.b .nil (passX (takes_of rfl rfl rfl rfl)) (pa_cons (pe_tup (pa_cons pe_str pa_nil)) pa_nil)) pa_nil)))))))), ?_⟩
    refine rd_costs (s := .begin) (σ := [some (.ref p), none, none]) rfl (.inl rfl) z (eu_tup (ea_one ev_c) (by simp [S.closing])) hw hl hf fun q f kk t r n1 H1 x1 z1 hn1 a1 a2 a3 a4 a5 a6 a7 a8 a9 => ?_
    obtain ⟨c, rfl⟩ : ∃ c, t = .bar c := by
      cases t with
      | bar c => exact ⟨c, rfl⟩
      | num x c => cases a5
      | com c => cases a7
      | fin c => cases a7
    have r1 : run st .change r = run st .s0 (T'.drop n) := Eq.trans (run_some a6 rfl).symm a9
    have w1 := a8 rfl
    subst a4
    refine rd_table (s := .row) (σ := [some (.ref p), some (.ref q), none]) rfl (.inl rfl) z1 (eu_tup (ea_one ev_c) (by simp [S.ctab])) w1 hl (by show Fail _ _ _ _ _ (run st .change _); rw [r1]; exact hf.mono z1.ob x1) fun q2 t2 r2 n2 H2 x2 z2 b1 b2 b3 b4 b5 b6 b7 b8 => ?_
    obtain ⟨c2, rfl⟩ : ∃ c, t2 = .bar c := by
      cases t2 with
      | bar c => exact ⟨c, rfl⟩
      | num x c => cases b3
      | com c => cases b4
      | fin c => cases b6
    have r2' : run st .shw r2 = run st .s0 (T'.drop n) := by rw [← r1]; exact Eq.trans (run_some b5 rfl).symm b8
    have w2 := b7 rfl
    subst b2
    have x12 := x1.trans x2
    have hq2 : H2 q = some (.tup [.ref f, .ref kk]) := tup_xb z1.ob x2 _ _ a1
    refine ⟨_, rfl, _, _, _, .ref f, rfl, rfl, st_of hq2, rfl, ?_⟩
    refine ⟨_, rfl, ?_⟩
    refine rd_table (s := .last) (σ := [some (.ref p), some (.ref q), some (.ref q2)]) rfl (.inr rfl) z2 (eu_tup (ea_one ev_c) (by simp [S.ctab])) w2 hl (by show Fail _ _ _ _ _ (run st .shw _); rw [r2']; exact hf.mono z2.ob x12) fun q3 t3 r3 n3 H3 x3 z3 c1 c2 c3 c4 c5 c6 c7 c8 => ?_
    obtain ⟨c', rfl⟩ : ∃ c, t3 = .fin c := by
      cases t3 with
      | bar c => cases c6
      | num x c => cases c3
      | com c => cases c4
      | fin c => exact ⟨c, rfl⟩
    have out : run st .s0 (T'.drop n) = .ok := by
      rw [← r2']
      exact Eq.trans c8.symm (run_done c5 rfl)
    refine ⟨by simp; decide, fun qq hqq => ?_⟩
    have e4 : Ex H3 (upd H3 qq (.tup [.ref f, .ref q2, .ref q3])) := Ex.new hqq
    refine k out qq f q2 q3 _ ((x12.trans x3).trans (xb_of e4)) upd_same ?_ ?_ ?_
    · exact RowAt.mono (H := H3) (a2.mono (fun _ _ h => lst_xb z2.ob x3 (lst_xb z1.ob x2 h)) (fun _ _ h => tup_xb z2.ob x3 _ _ (tup_xb z1.ob x2 _ _ h))) (fun _ _ h => e4 _ _ h) (fun _ _ h => e4 _ _ h)
    · exact TabAt.mono (H := H3) (b1.mono (fun _ _ h => lst_xb z2.ob x3 h) (fun _ _ h => tup_xb z2.ob x3 _ _ h)) (fun _ _ h => e4 _ _ h) (fun _ _ h => e4 _ _ h)
    · exact c1.mono (fun _ _ h => e4 _ _ h) (fun _ _ h => e4 _ _ h)
def spNU (C Ct Ca : Addr) : Sp := fun vs H Q E => ∃ (p dx L : Addr) (qs : List Addr) (T : List Tk) (st : Bool) (n : Nat), vs = [.ref p] ∧ PzAt C H p dx L qs T st n ∧ WFt (T.drop n) ∧ T.length ≤ 500 ∧ Fail Ct Ca p H E (run st .nums (T.drop n)) ∧
  (run st .nums (T.drop n) = .ok → ∀ q H', XB p H H' → NumsAt H' q → Q (.ref q) H')
theorem ok_numbers (T : Tx K mg) : FnOk P w K mg base (L2.CX P w) 4 T.m_numbers.f T.m_numbers.fd ["self"] (spNU T.C_Parser T.C_TextError T.C_Ahead) := by
  refine T.m_numbers.F.okX sc_Parser_numbers (fun vs H Q E h => ?_) (fun cdv A outer s H vs Q E hr h => ?_)
  · obtain ⟨p, dx, L, qs, T', st, n, rfl, _⟩ := h
    rfl
  · obtain ⟨p, dx, L, qs, T', st, n, rfl, z, hw, hl, hf, k⟩ := h
    refine ⟨_, (pss_cons (ps_set (i := 1) sc_Parser_numbers.nd rfl (Or.inl rfl) (pe_lst pa_nil))
  (pss_cons (ps_set (i := 2) sc_Parser_numbers.nd rfl (Or.inl rfl) (pe_meth (pv 0) T.cl_Parser T.m_take.M (ok_take T) (hr.mono (by decide)) T.m_take.b .nil (passX (takes_of rfl rfl rfl rfl)) (pa_cons (pe_tup (pa_cons pe_str (pa_cons pe_str pa_nil))) pa_nil)))
  (pss_cons (ps_while (passes_of rfl) (pt_cmpR op_eq (pe_ix ix_tup (pv 2) pe_int (fun _ _ => rfl)) pe_str (nomark _))
  (pss_cons (ps_expr (pe_bm PySem.F.plainAttrs_list PySem.F.slot_list_append PySem.F.type_list_append mt_append (pv 1) (pa_cons (pv 2) pa_nil)))
  (pss_one (ps_set (i := 2) sc_Parser_numbers.nd rfl (Or.inl rfl) (pe_meth (pv 0) T.cl_Parser T.m_take.M (ok_take T) (hr.mono (by decide)) T.m_take.b .nil (passX (takes_of rfl rfl rfl rfl)) (pa_cons (pe_tup (pa_cons pe_str (pa_cons pe_str pa_nil))) pa_nil))))))
  (pss_one (ps_ret (pv 1)))))), ?_⟩
    have wn : ∀ {m : Nat}, WFt (T'.drop m) → m < T'.length := fun {m} h => by
      obtain ⟨t, r, e, _⟩ := h.cons
      have : (T'.drop m).length = T'.length - m := List.length_drop
      rw [e] at this
      simp at this
      omega
    refine q_asgL (el_lst ea_nil (by decide)) fun f H1 hfn e1 h1 => ?_
    have hfp : f ≠ p := fun zz => by rw [zz, z.ob] at hfn; cases hfn
    obtain ⟨t, r, hd, hwr, htf⟩ := hw.cons
    have hnl := wn hw
    refine rd_take (s := .nums) (σ := [some (.ref p), some (.ref f), none]) rfl (z.ex e1) (eu_tup (ea_two ev_c ev_c) (by simp [S.opts])) hd (fun b1 b2 q H2 x2 z2 hq => ?_) (by rw [← hd]; exact hf.mono (e1 _ _ z.ob) (xb_of e1))
    have x02 : XB p H H2 := (xb_of e1).trans x2
    have hdr : T'.drop (n + 1) = r := by rw [← List.drop_drop, hd]; rfl
    refine q_while (fun m σ' H' => ∃ (fs : List Addr) (F : List Tk) (kq : Addr) (t' : Tk) (r' : List Tk) (n' : Nat), r'.length = m ∧ σ' = [some (.ref p), some (.ref f), some (.ref kq)] ∧ XB p H H' ∧ PzAt T.C_Parser H' p dx L qs T' st n' ∧
      H' f = some (.lst (fs.map V.ref)) ∧ TokQ H' fs F ∧ F.length + 1 ≤ n' ∧ n' ≤ T'.length ∧ (∀ u ∈ F, u.isNum = true ∧ u.fine) ∧ H' kq = some (.tup t'.v) ∧ T'.drop n' = r' ∧ (t'.isFin && st) = false ∧ (S.nums.step t').isSome = true ∧ (t'.isFin = false → WFt r') ∧ t'.fine ∧
      run st .nums (t' :: r') = run st .nums (T'.drop n)) r.length ⟨[], [], q, t, r, n + 1, rfl, rfl, x02, z2, lst_xb (e1 _ _ z.ob) x2 h1, .nil, by simp, by omega, (fun _ h => nomatch h), hq, hdr, b1, b2, hwr, htf, by rw [hd]⟩ ?_
    rintro m σ' H' ⟨fs, F, kq, t', r', n', hm, rfl, x3, z3, h1', h2, h3, h3n, h4, h5, h6, h7, h8, h9, h9f, h10⟩
    have tst : EvT (tTest (tOp rEq (tOp (rIxT K) (tVar 2) (tC (.int 0))) (tC (.str (Str.ofString "number"))))) [some (.ref p), some (.ref f), some (.ref kq)] H' t'.isNum :=
      et_is (et_test (ev_op (ev_ixt (v := .str t'.kind) (ev_var (i := 2) rfl) ev_c (st_of h5) rfl) ev_c (rv_eq rfl))) (kind_num t')
    refine ⟨t'.isNum, tst, fun hb H4 e4 => ?_, fun hb H4 e4 => ?_⟩
    · have hw' := h9 (num_fin hb)
      obtain ⟨t3, r3, hd3, hwr3, hf3⟩ := hw'.cons
      have hst : S.nums.step t' = some (some .nums) := by
        obtain ⟨x, c, rfl⟩ := num_is hb
        rfl
      have hrun : run st .nums (t' :: r') = run st .nums r' := run_some h7 hst
      have hn2 : n' < T'.length := wn (by rw [h6]; exact hw')
      refine ⟨_, fun _ _ h => ⟨m - 1, by rw [hd3] at hm; simp at hm; omega, h⟩, ?_⟩
      have h14 := e4 _ _ h1'
      refine q_app h14 (ev_var rfl) (ev_var rfl) (by simp; have := h2.len; omega) fun H5 e5 => ?_
      have h15 := e5 _ _ h14
      have z4 := (z3.ex e4).ex e5
      have x5 : XB p H (upd H5 f (.lst (fs.map V.ref ++ [.ref kq]))) := fun b o nb hb' => by
        by_cases hbf : b = f
        · rw [hbf, hfn] at hb'; cases hb'
        · rw [upd_ne hbf]
          exact e5 _ _ (e4 _ _ (x3 b o nb hb'))
      have z5 : PzAt T.C_Parser (upd H5 f (.lst (fs.map V.ref ++ [.ref kq]))) p dx L qs T' st n' := by
        have nL : L ≠ f := fun hLf => by
          have q0 := z.ls
          rw [hLf, hfn] at q0
          cases q0
        exact ⟨by rw [upd_ne hfp.symm]; exact z4.ob, by rw [upd_ne nL]; exact z4.ls, z4.tq.mono (tup_keep h15)⟩
      refine rd_take (s := .nums) (σ := [some (.ref p), some (.ref f), some (.ref kq)]) (n := n') rfl z5 (eu_tup (ea_two ev_c ev_c) (by simp [S.opts])) (h6.trans hd3) (fun b5 b6 q6 H6 x6 z6 hq6 => ?_) ?_
      · have hdr6 : T'.drop (n' + 1) = r3 := by rw [← List.drop_drop, h6, hd3]; rfl
        refine ⟨fs ++ [kq], F ++ [t'], q6, t3, r3, n' + 1, by rw [hd3] at hm; simp at hm; omega, rfl, x5.trans x6, z6, ?_, ?_, by simp; omega, by omega, ?_, hq6, hdr6, b5, b6, hwr3, hf3, ?_⟩
        · rw [List.map_append]
          exact lst_xb z5.ob x6 upd_same
        · exact TokQ.mono (tup_xb z5.ob x6) (TokQ.mono (tup_keep h15) (((h2.ex e4).ex e5).snoc (e5 _ _ (e4 _ _ h5))))
        · intro u hu
          rcases List.mem_append.mp hu with hu | hu
          · exact h4 u hu
          · rw [List.mem_singleton.mp hu]
            exact ⟨hb, h9f⟩
        · rw [← hd3, ← hrun, h10]
      · rw [← hd3, ← hrun, h10]
        exact hf.mono z5.ob x5
    · have out : run st .nums (T'.drop n) = .ok := by
        rw [← h10]
        cases t' with
        | num x c => cases hb
        | bar c => cases h8
        | com c => cases h8
        | fin c => exact run_done h7 rfl
      refine s_ret (ev_var rfl) fun H5 e5 => ?_
      have ee := e4.trans e5
      exact k out f H5 (x3.trans (xb_of ee)) ⟨fs, F, ee _ _ h1', h2.ex ee, by omega, h4⟩
end
end WC

/-! ## Kd9 -/
/-! next_tokens -/
namespace WC
open PySem PySem.Spec PyProof.Rows L2 Evl
theorem Tok1.fine {cs r : List Nat} {n : Nat} {t : Tk} (h : Tok1 cs n t r) : t.isFin = false ∧ t.fine := by
  cases h with
  | bar => exact ⟨rfl, trivial⟩
  | com => exact ⟨rfl, trivial⟩
  | num _ _ h1 h2 _ => exact ⟨rfl, (fun z => nomatch z), h1, h2⟩
theorem scans_wf {cs : List Nat} {n : Nat} {R : Sc} (h : Scans cs n R) : ∀ l, R = .ok l → WFt l ∧ l.length ≤ cs.length + 1 := by
  induction h with
  | nil n =>
    intro l e
    cases e
    exact ⟨⟨[], _, rfl, (fun _ h => nomatch h), (fun _ h => nomatch h)⟩, by simp⟩
  | blank h ih =>
    intro l e
    obtain ⟨h1, h2⟩ := ih l e
    exact ⟨h1, by simp; omega⟩
  | @tok cs r n t R ht _ ih =>
    intro l e
    cases R with
    | error x => cases e
    | ok l' =>
      cases e
      obtain ⟨⟨pre, c, h1, h2, h3⟩, h4⟩ := ih l' rfl
      obtain ⟨g1, g2⟩ := ht.fine
      obtain ⟨d, e1, e2, e3⟩ := ht.split
      refine ⟨⟨t :: pre, c, by rw [h1]; rfl, fun u hu => ?_, fun u hu => ?_⟩, by rw [e1]; simp; omega⟩
      · rcases List.mem_cons.mp hu with rfl | hu
        · exact g1
        · exact h2 u hu
      · rcases List.mem_cons.mp hu with rfl | hu
        · exact g2
        · exact h3 u hu
  | bad h =>
    intro l e
    cases e
theorem run_ne_ok : ∀ (l : List Tk) (s : S), WFt l → run true s l ≠ .ok := by
  intro l
  induction l with
  | nil =>
    intro s h
    obtain ⟨t, r, e, _⟩ := h.cons
    cases e
  | cons t r ih =>
    intro s h
    obtain ⟨t', r', e, h1, _⟩ := h.cons
    cases e
    cases hf : t.isFin with
    | true =>
      rw [run_end (by rw [hf]; rfl)]
      exact fun z => nomatch z
    | false =>
      have hs : (t.isFin && true) = false := by rw [hf]; rfl
      cases hst : s.step t with
      | none =>
        rw [run_no hs hst]
        exact fun z => nomatch z
      | some o =>
        cases o with
        | none =>
          exfalso
          cases s <;> cases t <;> first | (cases hst; done) | (exact absurd (show true = false from hf) (by decide))
        | some s' =>
          rw [run_some hs hst]
          exact ih s' (h1 hf)
theorem q_set {te : TE} {i : Nat} {tz : TS} {D : Ends} {σ : L2.St} {H : Hp} (h : te σ H fun v H1 => tz D (σ.set i (some v)) H1) : tSeq (tAsg te (gName i)) tz D σ H := h
/-- a text that may be given -/
def Fit (z : Str) : Prop := z.length ≤ 400 ∧ 10 ∉ z.cps.toList
section
variable {P : Program} {w : World} {K : PySem.W.Frag} {mg : Str → Option Value} {base : Heap}
theorem rd_parser {C Ct : Addr} {E E2 : XK} {Q : VK} {σ : L2.St} {H : Hp} {tx : TE} {z : Str} {R : Sc} {b : Bool} (hx : Ev tx σ H (.str z)) (hz : Fit z) (hR : Scans z.cps.toList 0 R) (he : ∀ c x, R = .error (c, x) → Rz Ct c x H E)
    (k : ∀ l x dx L qs H', R = .ok l → Ex H H' → H x = none → PzAt C H' x dx L qs l b 0 → WFt (l.drop 0) → l.length ≤ 500 → Q (.ref x) H') :
    tMake C (spPI C) [] E2 (tCons (tCall (spSC Ct) [] E (tCons tx tNil)) (tCons (tC (.bl b)) tNil)) σ H Q := by
  refine hx H (Ex.refl H) _ fun H1 e1 => ⟨z, R, rfl, hz.1, hz.2, hR, fun l hl p qs H2 hp e2 h2 hq => ?_, fun c x hc => (he c x hc).mono e1⟩
  intro x dx hx2 hdx ne
  have ex : Ex H2 (upd (upd H2 dx (.own x)) x (.ins C dx [])) := fun b o hb => by rw [upd_ne (ne_of_none hb hx2), upd_ne (ne_of_none hb hdx)]; exact hb
  refine ⟨x, dx, p, b, rfl, upd_same, fun H3 x3 h3 => ⟨rfl, ?_⟩⟩
  have e23 : Ex H2 H3 := fun b o hb => x3 b o (ne_of_none hb hx2) (ex b o hb)
  obtain ⟨w1, w2⟩ := scans_wf hR l hl
  have hz1 : z.cps.toList.length ≤ 400 := by rw [← len_codes]; exact hz.1
  exact k l x dx p qs H3 hl ((e1.trans e2).trans e23) (fresh_back (e1.trans e2) hx2) ⟨h3, e23 _ _ h2, hq.ex e23⟩ w1 (by omega)
def GiveN (Ct : Addr) (H : Hp) (Q : VK) (E : XK) : Out → Prop
  | .ahead o => ∀ p H', H p = none → Ex H H' → H' p = some (.lst (o.map V.str)) → Q (.ref p) H'
  | .bad c x => Rz Ct c x H E
  | .ok => True
def kindS (m : Bool) : Str := if m then "model" else "numbers"
def startS (m : Bool) : S := if m then .s0 else .nums
def spNT (Ct : Addr) : Sp := fun vs H Q E => ∃ (z : Str) (m : Bool) (R : Sc), vs = [.str z, .str (kindS m)] ∧ Fit z ∧ Scans z.cps.toList 0 R ∧ (∀ c x, R = .error (c, x) → Rz Ct c x H E) ∧ (∀ l, R = .ok l → GiveN Ct H Q E (run true (startS m) l))
theorem set3 {σ : L2.St} (h : σ.length = 4) (v : Option V) : (σ.set 3 v)[3]? = some v := by
  rw [List.getElem?_set_self (by omega)]
theorem ok_next_tokens (T : Tx K mg) : FnOk P w K mg base (L2.CX P w) 7 T.d_next_tokens.f T.d_next_tokens.fd ["text", "kind"] (spNT T.C_TextError) := by
  refine T.d_next_tokens.F.okX sc_next_tokens (fun vs H Q E h => ?_) (fun cdv A outer s H vs Q E hr h => ?_)
  · obtain ⟨z, m, R, rfl, _⟩ := h
    rfl
  · obtain ⟨z, m, R, rfl, hz, hR, he, k⟩ := h
    refine ⟨_, (pss_cons (ps_expr (pe_call (ok_check_text T) (hr.mono (by decide)) rfl T.d_check_text.g T.d_check_text.F.kp T.d_check_text.b .nil pass0 (pa_cons (pv 0) pa_nil)))
  (pss_cons (ps_if (PW.pt (pw_or (pt_not (pt_val (pe_callB call_isi (by rfl) T.z_isinstance (by decide +kernel) (pa_cons (pv 1) (pa_cons (pe_bltn (v := .ty "str") (by rfl) T.z_str (by decide +kernel) rfl) pa_nil))))) (pw_or1 (pt_cmpR op_notIn_seq (pv 1) (pe_glob (v := .ref T.a_KINDS) rfl T.g_KINDS rfl) (by rfl)))))
  (pss_one ps_never)
  pss_nil)
  (pss_cons (ps_set (i := 2) sc_next_tokens.nd rfl (Or.inl rfl) (pe_make T.mk_Parser (ok_Parser_init T) (hr.mono (by decide)) rfl T.g_Parser T.i_Parser.b .nil pass0 (pa_cons (pe_call (ok_scan T) (hr.mono (by decide)) rfl T.d_scan.g T.d_scan.F.kp T.d_scan.b .nil (passX (takes_of rfl rfl rfl rfl)) (pa_cons (pv 0) pa_nil)) (pa_cons pe_bl pa_nil))))
  (pss_cons (ps_try_as (i := 3) rfl rfl sc_next_tokens.nd rfl rfl ⟨rfl, by decide, Or.inl T.g_Ahead⟩ (takes_of rfl rfl rfl rfl)
  (fun W pn xe tk pn_own => (pss_one (ps_if (pt_cmpR op_eq (pv 1) pe_str (nomark _))
  (pss_one (ps_expr (pe_meth0 (pv 2) T.cl_Parser T.m_model.M (ok_model T) (hr.mono (by decide)) T.m_model.b .nil (passA tk rfl))))
  (pss_one (ps_expr (pe_meth0 (pv 2) T.cl_Parser T.m_numbers.M (ok_numbers T) (hr.mono (by decide)) T.m_numbers.b .nil (passA tk rfl)))))))
  (fun a oe cls d pn hz hf => (pss_one (ps_ret (pe_xf T.xf_Ahead T.no_Ahead_options hz hf (pv 3))))))
  (pss_one (ps_ret (pe_lst pa_nil))))))), ?_⟩
    refine q_drop (ev_call (ea_one (ev_var rfl)) fun H1 _ Q2 k2 E2 => ⟨z, rfl, hz.1, hz.2, k2⟩) fun H1 e1 => ?_
    refine q_when (b := false) (et_is (et_or (et_not (et_B (ev_isi (ev_var rfl) tx_s ev_c (b := true) (by decide +kernel)))) fun _ => et_test (ev_op (ev_var rfl) ev_c (rv_niT (T.q_KINDS _) rfl rfl))) ?_) (fun h => nomatch h) (fun _ H2 e2 => ?_)
    · cases m <;> decide +kernel
    have e12 := e1.trans e2
    refine q_set ?_
    refine rd_parser (σ := [some (.str z), some (.str (kindS m)), none, none]) (ev_var (i := 0) rfl) hz hR (fun c x hc => (he c x hc).mono e12) fun l x dx L qs H3 hl e3 hx z3 hw hll => ?_
    have e13 := e12.trans e3
    have hx0 : H x = none := fresh_back e12 hx
    -- what is wished of an error
    have fail : Fail T.C_TextError T.C_Ahead x H3 (EA 4 (wAs K (.ref T.C_Ahead) 3 (fun a cls d => tRet (tXf a cls d T.C_Ahead "options" (tVar 3))) (fun cls d _ H => E cls d H) { nx := (tRet (tLst tNil)) { nx := fun _ H' => Q .non H', rt := Q }, rt := Q })) (run true (startS m) (l.drop 0)) := by
      have g := k l hl
      rw [List.drop_zero]
      cases hrun : run true (startS m) l with
      | ahead o =>
        rw [hrun] at g
        intro H' q d x' hq hd h1 h2 σ hσ
        have eH : Ex H H' := fun b o' hb => x' b o' (ne_of_none hb hx0) (e13 b o' hb)
        refine ⟨true, T.ex_AA, fun _ a ha => ⟨_, set3 hσ _, rfl, rfl, d, _, .ref q, rfl, h2, by simp [List.lookup], g q H' (fresh_back e13 hq) eH h1⟩, (fun z => nomatch z)⟩
      | bad c y =>
        rw [hrun] at g
        intro H' d x' hd h1 σ hσ
        have eH : Ex H H' := fun b o' hb => x' b o' (ne_of_none hb hx0) (e13 b o' hb)
        exact ⟨false, T.ex_TA, (fun z => nomatch z), fun _ => g H' d eH (fresh_back e13 hd) h1⟩
      | ok => trivial
    have never : ∀ {α : Prop}, run true (startS m) (l.drop 0) = .ok → α := fun h => (run_ne_ok _ _ hw h).elim
    refine s_if (b := m) (et_is (et_test (ev_op (ev_var rfl) ev_c (rv_eq rfl))) ?_) (fun hm H4 e4 => ?_) (fun hm H4 e4 => ?_)
    · cases m <;> decide +kernel
    · subst hm
      have z4 := z3.ex e4
      exact ⟨_, rfl, x, dx, _, rfl, z4.ob, pf_no ne_model _ _ _, x, dx, L, qs, l, true, 0, rfl, z4, hw, hll, fail.mono z4.ob (xb_of e4), fun h => never h⟩
    · subst hm
      have z4 := z3.ex e4
      exact ⟨_, rfl, x, dx, _, rfl, z4.ob, pf_no ne_numbers _ _ _, x, dx, L, qs, l, true, 0, rfl, z4, hw, hll, fail.mono z4.ob (xb_of e4), fun h => never h⟩
end
end WC

/-! ## Ke1 -/
/-! costs_of, numbers_of, change_of, show_of: they hand back a tuple or raise, with words that tell nothing that is expected -/
namespace WC
open PySem PySem.Spec PyProof.Rows L2 Evl
def NotExp (x : Str) : Prop := cutS x none (some 9) ≠ "expected " ∧ x.length ≤ 1000
instance (x : Str) : Decidable (NotExp x) := inferInstanceAs (Decidable (_ ∧ _))
theorem num_int {x : List Nat} {c : Int} (h : (Tk.num x c).fine) : ∃ n, PySem.intText? ⟨x.toArray⟩ = some n ∧ (⟨x.toArray⟩ : Str).length ≤ 640 := by
  obtain ⟨h1, h2, h3⟩ := h
  have e : (⟨x.toArray⟩ : Str).cps.toList = x := by simp
  have el : (⟨x.toArray⟩ : Str).length = x.length := by simp [Str.length]
  refine ⟨_, PySem.intText_digits (fun d hd => ?_) (by rw [e]; exact h1) (by omega), by omega⟩
  rw [e] at hd
  have := h2 d hd
  unfold isDig at this
  simp at this
  exact this
section
variable {K : PySem.W.Frag} {σ : L2.St} {H H' : Hp} {ta tb te tk tv : TE} {x y z v : V}
theorem ev_int_s {a : Str} {n : Int} (h : Ev ta σ H (.str a)) (hn : PySem.intText? a = some n) (hl : a.length ≤ 640) :
    Ev (tCB (fun xs H Q => ∃ a n, xs = [V.str a] ∧ PySem.intText? a = some n ∧ a.length ≤ 640 ∧ Q (.int n) H) (tCons ta tNil)) σ H (.int n) := fun H1 e _ q => h H1 e _ fun H2 e2 => ⟨a, n, rfl, hn, hl, q H2 e2⟩
theorem eu_tuple {p : Addr} {xs : List V} (h : Ev ta σ H (.ref p)) (hs : SqL K H p xs) :
    EvU (tCB (fun xs H Q => ∃ p ys, xs = [V.ref p] ∧ ((SqL K H p ys ∧ ∀ l, H l = none → Q (.ref l) (upd H l (.tup ys))) ∨ (SqT K H p ys ∧ Q (.ref p) H))) (tCons ta tNil)) σ H xs := fun H1 e _ q =>
  h H1 e _ fun H2 e2 => ⟨p, xs, rfl, .inl ⟨ex_l (e.trans e2) hs, fun l hl => q l _ (fresh_back e2 hl) (e2.trans (Ex.new hl)) upd_same⟩⟩
/-- it hands back something of which P is known -/
def EvS (te : TE) (σ : L2.St) (H : Hp) (P : V → Hp → Prop) : Prop := ∀ Q : VK, (∀ v H1, Ex H H1 → P v H1 → Q v H1) → te σ H Q
theorem q_appS {l : Addr} {xs : List V} {D : Ends} {tz : TS} {P : V → Hp → Prop} (hl : H l = some (.lst xs)) (ha : Ev ta σ H (.ref l)) (h : ∀ H1, Ex H H1 → EvS te σ H1 P) (hz : xs.length < 100000) (k : ∀ v H1, Ex H H1 → P v H1 → tz D σ (upd H1 l (.lst (xs ++ [v])))) :
    tSeq (tDrop (tBM K "list" rAppend ta (tCons te tNil))) tz D σ H := ha H (Ex.refl H) _ fun H1 e1 =>
  ⟨Or.inl ⟨rfl, xs, sq_of (e1 l _ hl)⟩, h H1 e1 _ fun v H2 e2 hp => ⟨l, xs, v, rfl, rfl, e2 l _ (e1 l _ hl), sz_lt hz, k v H2 (e1.trans e2) hp⟩⟩
end
section
variable {P : Program} {w : World} {K : PySem.W.Frag} {mg : Str → Option Value} {base : Heap}
/-- a tuple, or an error that tells nothing that is expected -/
def spTup (Ct : Addr) (H : Hp) (Q : VK) (E : XK) : Prop := (∀ p xs H', H p = none → Ex H H' → H' p = some (.tup xs) → xs.length ≤ 1000 → Q (.ref p) H') ∧ ∀ c x, NotExp x → Rz Ct c x H E
def spCS (Ct : Addr) : Sp := fun vs H Q E => ∃ a most z, vs = [.ref a, .int most, .str z] ∧ NumsAt H a ∧ NotExp z ∧ spTup Ct H Q E
theorem cost_word : NotExp (Str.ofString "a cost is from 0 to 3") := by decide +kernel
theorem ok_costs_of (T : Tx K mg) : FnOk P w K mg base (L2.CX P w) 3 T.d_costs_of.f T.d_costs_of.fd ["tokens", "most", "words"] (spCS T.C_TextError) := by
  refine T.d_costs_of.F.okX sc_costs_of (fun vs H Q E h => ?_) (fun cdv A outer s H vs Q E hr h => ?_)
  · obtain ⟨a, most, z, rfl, _⟩ := h
    rfl
  · obtain ⟨a, most, z, rfl, ⟨fs, F, ha, hq, hF, hnum⟩, hz, k, ke⟩ := h
    refine ⟨_, (pss_cons (ps_set (i := 3) sc_costs_of.nd rfl (Or.inl rfl) (pe_lst pa_nil))
  (pss_cons (ps_for (passes_of rfl) rfl (pi_list (pv 0)) (pg_name (i := 4) sc_costs_of.nd rfl (Or.inl rfl))
  (pss_cons (ps_if (pt_cmpR op_eq (pe_callB call_len (by rfl) T.z_len PySem.boot_len (pa_cons (pv 3) pa_nil)) (pv 1) (nomark _))
  (pss_one (ps_raise rfl (takes_of rfl rfl rfl rfl) (pmk_oex T.ox_TextError T.i_TextError.at_ T.i_TextError.ty (ok_TextError_init T) (hr.mono (by decide)) T.i_TextError.b .nil pass0 rfl T.g_TextError (pa_cons (pe_ix ix_tup (pv 4) pe_int (fun _ _ => rfl)) (pa_cons (pv 2) pa_nil)))))
  pss_nil)
  (pss_cons (ps_if (pt_cmpR op_gt (pe_callTy call_int_str (by rfl) T.z_int (by decide +kernel) (pa_cons (pe_ix ix_tup (pv 4) pe_int (fun _ _ => rfl)) pa_nil)) (pe_glob (v := .int 3) rfl T.g_MOST_COST ⟨_, rfl⟩) (nomark _))
  (pss_one (ps_raise rfl (takes_of rfl rfl rfl rfl) (pmk_oex T.ox_TextError T.i_TextError.at_ T.i_TextError.ty (ok_TextError_init T) (hr.mono (by decide)) T.i_TextError.b .nil pass0 rfl T.g_TextError (pa_cons (pe_ix ix_tup (pv 4) pe_int (fun _ _ => rfl)) (pa_cons pe_str pa_nil)))))
  pss_nil)
  (pss_one (ps_expr (pe_bm PySem.F.plainAttrs_list PySem.F.slot_list_append PySem.F.type_list_append mt_append (pv 3) (pa_cons (pe_callTy call_int_str (by rfl) T.z_int (by decide +kernel) (pa_cons (pe_ix ix_tup (pv 4) pe_int (fun _ _ => rfl)) pa_nil)) pa_nil)))))))
  (pss_one (ps_ret (pe_callTy call_tuple_of (by rfl) T.z_tuple (by decide +kernel) (pa_cons (pv 3) pa_nil)))))), ?_⟩
    have hfl : fs.length ≤ 1000 := by rw [hq.len]; exact hF
    refine q_asgL (el_lst ea_nil (by decide)) fun f H1 hfn e1 h1 => ?_
    refine q_forLn (a := a) (xs := fs.map V.ref) (ev_var rfl) (ex_l e1 (sq_of ha)) (fun i σ' H' => ∃ xs rv, σ' = [some (.ref a), some (.int most), some (.str z), some (.ref f), rv] ∧ Ex H H' ∧ H' f = some (.lst xs) ∧ xs.length ≤ i)
      (fun H2 e2 => ⟨[], none, rfl, e1.trans e2, e2 _ _ h1, by simp⟩) (fun i σ' H' _ ⟨_, _, _, e, _⟩ => ex_l e (sq_of ha)) ?_ ?_
    · rintro i x σ' H' hx ⟨xs, rv, rfl, e2, h2, hl⟩
      have hil : i < fs.length := by
        have := (List.getElem?_eq_some_iff.mp hx).1
        simpa using this
      have ht : F[i]? = some (F[i]'(by rw [← hq.len]; exact hil)) := by simp
      obtain ⟨q, hqi, hqt⟩ := hq.get ht
      have hxq : x = .ref q := by
        rw [List.getElem?_map, hqi] at hx
        exact (Option.some.inj hx).symm
      subst hxq
      generalize hte : F[i]'(by rw [← hq.len]; exact hil) = t at *
      have htm : t ∈ F := by rw [← hte]; exact List.getElem_mem _
      obtain ⟨hn, hfine⟩ := hnum t htm
      obtain ⟨xx, cc, rfl⟩ := num_is hn
      obtain ⟨n, hint, hlen⟩ := num_int hfine
      have fresh : ∀ {H3 : Hp} {d : Addr}, Ex H H3 → H3 d = none → H d = none := fun e h => fresh_back e h
      refine q_when (et_test (ev_op (ev_len_l (ev_var rfl) (sq_of h2)) (ev_var rfl) (rv_eq rfl))) (fun _ H3 e3 => ?_) (fun _ H3 e3 => ?_)
      · exact rd_TE (ea_two (ev_ixt (v := .int cc) (ev_var rfl) ev_c (st_of (e3 _ _ (e2 _ _ hqt))) rfl) (ev_var rfl)) fun H' d e hd hv => ke cc z hz H' d ((e2.trans e3).trans e) (fresh_back (e2.trans e3) hd) hv
      · have e23 := e2.trans e3
        have val : ∀ {H4 : Hp}, Ex H H4 → ∀ {rv' : Option V}, Ev (tCB (fun xs H Q => ∃ a n, xs = [V.str a] ∧ PySem.intText? a = some n ∧ a.length ≤ 640 ∧ Q (.int n) H) (tCons (tOp (rIxT K) (tVar 4) (tC (.int 1))) tNil)) [some (.ref a), some (.int most), some (.str z), some (.ref f), some (.ref q)] H4 (.int n) := fun e4 _ =>
          ev_int_s (ev_ixt (v := .str ⟨xx.toArray⟩) (ev_var (i := 4) rfl) ev_c (st_of (e4 _ _ hqt)) rfl) hint hlen
        refine q_when (et_test (ev_op (val e23 (rv' := none)) ev_c rv_I0)) (fun _ H4 e4 => ?_) (fun _ H4 e4 => ?_)
        · exact rd_TE (ea_two (ev_ixt (v := .int cc) (ev_var rfl) ev_c (st_of (e4 _ _ (e23 _ _ hqt))) rfl) ev_c) fun H' d e hd hv => ke cc _ cost_word H' d ((e23.trans e4).trans e) (fresh_back (e23.trans e4) hd) hv
        · have e24 := e23.trans e4
          refine s_app (e4 _ _ (e3 _ _ h2)) (ev_var rfl) (val e24 (rv' := none)) (by omega) fun H5 e5 => ?_
          have hf0 : H f = none := hfn
          exact ⟨xs ++ [.int n], _, rfl, Ex.mut (e24.trans e5) hf0, upd_same, by simp; omega⟩
    · rintro σ' H' ⟨xs, rv, rfl, e2, h2, hl⟩
      refine s_retU (eu_tuple (ev_var rfl) (sq_of h2)) fun p H3 hp e3 h3 => ?_
      exact k p xs H3 (fresh_back e2 hp) (e2.trans e3) h3 (by simp at hl; omega)
def spNO (Ct : Addr) : Sp := fun vs H Q E => ∃ a many z u, vs = [.ref a, .int many, .str z, .str u] ∧ NumsAt H a ∧ NotExp z ∧ NotExp u ∧ spTup Ct H Q E
theorem ok_numbers_of (T : Tx K mg) : FnOk P w K mg base (L2.CX P w) 3 T.d_numbers_of.f T.d_numbers_of.fd ["tokens", "many", "words", "none"] (spNO T.C_TextError) := by
  refine T.d_numbers_of.F.okX sc_numbers_of (fun vs H Q E h => ?_) (fun cdv A outer s H vs Q E hr h => ?_)
  · obtain ⟨a, many, z, u, rfl, _⟩ := h
    rfl
  · obtain ⟨a, most, z, u, rfl, ⟨fs, F, ha, hq, hF, hnum⟩, hz, hu2, k, ke⟩ := h
    refine ⟨_, (pss_cons (ps_set (i := 4) sc_numbers_of.nd rfl (Or.inl rfl) (pe_lst pa_nil))
  (pss_cons (ps_for (passes_of rfl) rfl (pi_list (pv 0)) (pg_name (i := 5) sc_numbers_of.nd rfl (Or.inl rfl))
  (pss_cons (ps_if (pt_cmpR op_eq (pe_callB call_len (by rfl) T.z_len PySem.boot_len (pa_cons (pv 4) pa_nil)) (pe_glob (v := .int 20) rfl T.g_LONGEST ⟨_, rfl⟩) (nomark _))
  (pss_one (ps_raise rfl (takes_of rfl rfl rfl rfl) (pmk_oex T.ox_TextError T.i_TextError.at_ T.i_TextError.ty (ok_TextError_init T) (hr.mono (by decide)) T.i_TextError.b .nil pass0 rfl T.g_TextError (pa_cons (pe_ix ix_tup (pv 5) pe_int (fun _ _ => rfl)) (pa_cons (pv 2) pa_nil)))))
  pss_nil)
  (pss_cons (ps_if (pt_cmpR op_ge (pe_callTy call_int_str (by rfl) T.z_int (by decide +kernel) (pa_cons (pe_ix ix_tup (pv 5) pe_int (fun _ _ => rfl)) pa_nil)) (pv 1) (nomark _))
  (pss_one (ps_raise rfl (takes_of rfl rfl rfl rfl) (pmk_oex T.ox_TextError T.i_TextError.at_ T.i_TextError.ty (ok_TextError_init T) (hr.mono (by decide)) T.i_TextError.b .nil pass0 rfl T.g_TextError (pa_cons (pe_ix ix_tup (pv 5) pe_int (fun _ _ => rfl)) (pa_cons (pv 3) pa_nil)))))
  pss_nil)
  (pss_one (ps_expr (pe_bm PySem.F.plainAttrs_list PySem.F.slot_list_append PySem.F.type_list_append mt_append (pv 4) (pa_cons (pe_callTy call_int_str (by rfl) T.z_int (by decide +kernel) (pa_cons (pe_ix ix_tup (pv 5) pe_int (fun _ _ => rfl)) pa_nil)) pa_nil)))))))
  (pss_one (ps_ret (pe_callTy call_tuple_of (by rfl) T.z_tuple (by decide +kernel) (pa_cons (pv 4) pa_nil)))))), ?_⟩
    have hfl : fs.length ≤ 1000 := by rw [hq.len]; exact hF
    refine q_asgL (el_lst ea_nil (by decide)) fun f H1 hfn e1 h1 => ?_
    refine q_forLn (a := a) (xs := fs.map V.ref) (ev_var rfl) (ex_l e1 (sq_of ha)) (fun i σ' H' => ∃ xs rv, σ' = [some (.ref a), some (.int most), some (.str z), some (.str u), some (.ref f), rv] ∧ Ex H H' ∧ H' f = some (.lst xs) ∧ xs.length ≤ i)
      (fun H2 e2 => ⟨[], none, rfl, e1.trans e2, e2 _ _ h1, by simp⟩) (fun i σ' H' _ ⟨_, _, _, e, _⟩ => ex_l e (sq_of ha)) ?_ ?_
    · rintro i x σ' H' hx ⟨xs, rv, rfl, e2, h2, hl⟩
      have hil : i < fs.length := by
        have := (List.getElem?_eq_some_iff.mp hx).1
        simpa using this
      have ht : F[i]? = some (F[i]'(by rw [← hq.len]; exact hil)) := by simp
      obtain ⟨q, hqi, hqt⟩ := hq.get ht
      have hxq : x = .ref q := by
        rw [List.getElem?_map, hqi] at hx
        exact (Option.some.inj hx).symm
      subst hxq
      generalize hte : F[i]'(by rw [← hq.len]; exact hil) = t at *
      have htm : t ∈ F := by rw [← hte]; exact List.getElem_mem _
      obtain ⟨hn, hfine⟩ := hnum t htm
      obtain ⟨xx, cc, rfl⟩ := num_is hn
      obtain ⟨n, hint, hlen⟩ := num_int hfine
      refine q_when (et_test (ev_op (ev_len_l (ev_var rfl) (sq_of h2)) ev_c (rv_eq rfl))) (fun _ H3 e3 => ?_) (fun _ H3 e3 => ?_)
      · exact rd_TE (ea_two (ev_ixt (v := .int cc) (ev_var rfl) ev_c (st_of (e3 _ _ (e2 _ _ hqt))) rfl) (ev_var rfl)) fun H' d e hd hv => ke cc z hz H' d ((e2.trans e3).trans e) (fresh_back (e2.trans e3) hd) hv
      · have e23 := e2.trans e3
        have val : ∀ {H4 : Hp}, Ex H H4 → Ev (tCB (fun xs H Q => ∃ a n, xs = [V.str a] ∧ PySem.intText? a = some n ∧ a.length ≤ 640 ∧ Q (.int n) H) (tCons (tOp (rIxT K) (tVar 5) (tC (.int 1))) tNil)) [some (.ref a), some (.int most), some (.str z), some (.str u), some (.ref f), some (.ref q)] H4 (.int n) := fun e4 =>
          ev_int_s (ev_ixt (v := .str ⟨xx.toArray⟩) (ev_var (i := 5) rfl) ev_c (st_of (e4 _ _ hqt)) rfl) hint hlen
        refine q_when (et_test (ev_op (val e23) (ev_var rfl) rv_I0)) (fun _ H4 e4 => ?_) (fun _ H4 e4 => ?_)
        · exact rd_TE (ea_two (ev_ixt (v := .int cc) (ev_var rfl) ev_c (st_of (e4 _ _ (e23 _ _ hqt))) rfl) (ev_var rfl)) fun H' d e hd hv => ke cc _ hu2 H' d ((e23.trans e4).trans e) (fresh_back (e23.trans e4) hd) hv
        · have e24 := e23.trans e4
          refine s_app (e4 _ _ (e3 _ _ h2)) (ev_var rfl) (val e24) (by omega) fun H5 e5 => ?_
          exact ⟨xs ++ [.int n], _, rfl, Ex.mut (e24.trans e5) hfn, upd_same, by simp; omega⟩
    · rintro σ' H' ⟨xs, rv, rfl, e2, h2, hl⟩
      refine s_retU (eu_tuple (ev_var rfl) (sq_of h2)) fun p H3 hp e3 h3 => ?_
      exact k p xs H3 (fresh_back e2 hp) (e2.trans e3) h3 (by simp at hl; omega)
end
end WC

/-! ## Ke2 -/
/-! change_of, show_of -/
namespace WC
open PySem PySem.Spec PyProof.Rows L2 Evl
/-- a list of tuples -/
def Tups (H : Hp) (ts : List Addr) : Prop := ∀ t ∈ ts, ∃ xs, H t = some (.tup xs) ∧ xs.length ≤ 1000
theorem Tups.mono {H H' : Hp} {ts : List Addr} (h : Tups H ts) (e : ∀ q xs, H q = some (.tup xs) → H' q = some (.tup xs)) : Tups H' ts := fun t ht => by
  obtain ⟨xs, h1, h2⟩ := h t ht
  exact ⟨xs, e _ _ h1, h2⟩
theorem Tups.snoc {H : Hp} {ts : List Addr} {p : Addr} {xs : List V} (h : Tups H ts) (hp : H p = some (.tup xs)) (hl : xs.length ≤ 1000) : Tups H (ts ++ [p]) := fun t ht => by
  rcases List.mem_append.mp ht with ht | ht
  · exact h t ht
  · rw [List.mem_singleton.mp ht]
    exact ⟨xs, hp, hl⟩
theorem w_state : NotExp (Str.ofString "there is no such state") := by decide +kernel
theorem w_miss : NotExp (Str.ofString "a state is missing") := by decide +kernel
theorem w_signs : NotExp (Str.ofString "there are at most 3 signs") := by decide +kernel
theorem w_sign : NotExp (Str.ofString "there is no such sign") := by decide +kernel
theorem w_missign : NotExp (Str.ofString "a sign is missing") := by decide +kernel
section
variable {P : Program} {w : World} {K : PySem.W.Frag} {mg : Str → Option Value} {base : Heap}
/-- a new tuple is handed back -/
def NewT (v : V) (H1 : Hp) : Prop := ∃ p xs, v = .ref p ∧ H1 p = some (.tup xs) ∧ xs.length ≤ 1000
/-- a call of costs_of, as it is seen from a def that hands its errors on -/
theorem es_costs {Ct g most : Addr} {σ : L2.St} {H0 H : Hp} {Q0 : VK} {E : XK} {ta : TA} {many : Int} {z : Str} (e : Ex H0 H) (ha : EvA ta σ H [.ref g, .int many, .str z]) (hg : NumsAt H g) (hz : NotExp z) (ke : ∀ c x, NotExp x → Rz Ct c x H0 E) :
    ∀ H1, Ex H H1 → EvS (tCall (spCS Ct) [] E ta) σ H1 NewT := fun H1 e1 Q q => ha H1 e1 _ fun H2 e2 =>
  ⟨g, many, z, rfl, (hg.mono (fun _ _ h => e1 _ _ h) (fun _ _ h => e1 _ _ h)).mono (fun _ _ h => e2 _ _ h) (fun _ _ h => e2 _ _ h), hz, fun p xs H3 hp e3 h3 hl => q _ H3 (e2.trans e3) ⟨p, xs, rfl, h3, hl⟩, fun c x hx => (ke c x hx).mono ((e.trans e1).trans e2)⟩
def spCH (Ct : Addr) : Sp := fun vs H Q E => ∃ a many, vs = [.ref a, .int many] ∧ TabAt H a ∧ spTup Ct H Q E
theorem ok_change_of (T : Tx K mg) : FnOk P w K mg base (L2.CX P w) 4 T.d_change_of.f T.d_change_of.fd ["rows", "many"] (spCH T.C_TextError) := by
  refine T.d_change_of.F.okX sc_change_of (fun vs H Q E h => ?_) (fun cdv A outer s H vs Q E hr h => ?_)
  · obtain ⟨a, many, rfl, _⟩ := h
    rfl
  · obtain ⟨a, many, rfl, ⟨prs, ha, hprs, hpl⟩, k, ke⟩ := h
    refine ⟨_, (pss_cons (ps_set (i := 2) sc_change_of.nd rfl (Or.inl rfl) (pe_lst pa_nil))
  (pss_cons (ps_for (passes_of rfl) rfl (pi_list (pv 0)) (pg_tup (by rfl) (pgs_cons (pg_name (i := 3) sc_change_of.nd rfl (Or.inl rfl)) (pgs_cons (pg_name (i := 4) sc_change_of.nd rfl (Or.inl rfl)) pgs_nil)))
  (pss_cons (ps_if (pt_cmpR op_eq (pe_callB call_len (by rfl) T.z_len PySem.boot_len (pa_cons (pv 2) pa_nil)) (pv 1) (nomark _))
  (pss_one (ps_raise rfl (takes_of rfl rfl rfl rfl) (pmk_oex T.ox_TextError T.i_TextError.at_ T.i_TextError.ty (ok_TextError_init T) (hr.mono (by decide)) T.i_TextError.b .nil pass0 rfl T.g_TextError (pa_cons (pe_ix ix_tup (pe_ix ix_list (pv 3) pe_int (fun _ _ => rfl)) pe_int (fun _ _ => rfl)) (pa_cons pe_str pa_nil)))))
  pss_nil)
  (pss_cons (ps_expr (pe_bm PySem.F.plainAttrs_list PySem.F.slot_list_append PySem.F.type_list_append mt_append (pv 2) (pa_cons (pe_call (ok_costs_of T) (hr.mono (by decide)) rfl T.d_costs_of.g T.d_costs_of.F.kp T.d_costs_of.b .nil (passX (takes_of rfl rfl rfl rfl)) (pa_cons (pv 3) (pa_cons (pv 1) (pa_cons pe_str pa_nil)))) pa_nil)))
  (pss_one (ps_if (PW.pt (pw_or (pt_cmpR op_lt (pe_callB call_len (by rfl) T.z_len PySem.boot_len (pa_cons (pe_ix ix_list (pv 2) (pe_un un_neg pe_int) (fun _ _ => rfl)) pa_nil)) (pv 1) (nomark _)) (pw_or1 (PW.pt (pw_and (pt_cmpR op_ne (pe_ix ix_tup (pv 4) pe_int (fun _ _ => rfl)) pe_str (nomark _)) (pw_and1 (pt_cmpR op_lt (pe_callB call_len (by rfl) T.z_len PySem.boot_len (pa_cons (pv 2) pa_nil)) (pv 1) (nomark _))))))))
  (pss_one (ps_raise rfl (takes_of rfl rfl rfl rfl) (pmk_oex T.ox_TextError T.i_TextError.at_ T.i_TextError.ty (ok_TextError_init T) (hr.mono (by decide)) T.i_TextError.b .nil pass0 rfl T.g_TextError (pa_cons (pe_ix ix_tup (pv 4) pe_int (fun _ _ => rfl)) (pa_cons pe_str pa_nil)))))
  pss_nil)))))
  (pss_one (ps_ret (pe_callTy call_tuple_of (by rfl) T.z_tuple (by decide +kernel) (pa_cons (pv 2) pa_nil)))))), ?_⟩
    refine q_asgL (el_lst ea_nil (by decide)) fun f H1 hfn e1 h1 => ?_
    refine q_forL (a := a) (xs := prs.map V.ref) (ev_var rfl) (ex_l e1 (sq_of ha)) (fun i σ' H' => ∃ ts tk be, σ' = [some (.ref a), some (.int many), some (.ref f), tk, be] ∧ Ex H H' ∧ H' f = some (.lst (ts.map V.ref)) ∧ Tups H' ts ∧ ts.length ≤ i)
      (fun H2 e2 => ⟨[], none, none, rfl, e1.trans e2, e2 _ _ h1, (fun _ h => nomatch h), by simp⟩) (fun i σ' H' _ ⟨_, _, _, _, e, _⟩ => ex_l e (sq_of ha)) ?_ ?_
    · rintro i x σ' H' hx ⟨ts, tk, be, rfl, e2, h2, h3, hl⟩
      have hil : i < prs.length := by
        have := (List.getElem?_eq_some_iff.mp hx).1
        simpa using this
      obtain ⟨pr, hpr, rfl⟩ : ∃ pr, pr ∈ prs ∧ x = .ref pr := by
        rw [List.getElem?_map] at hx
        cases h : prs[i]? with
        | none => rw [h] at hx; cases hx
        | some pr => rw [h] at hx; exact ⟨pr, List.mem_of_getElem? h, (Option.some.inj hx).symm⟩
      obtain ⟨g, kq, t, p1, p2, p3⟩ := hprs pr hpr
      obtain ⟨fs, F, g1, g2, g3, g4, g5⟩ := id p2
      refine ⟨pr, _, rfl, st_of (e2 _ _ p1), rfl, _, _, rfl, _, _, rfl, rfl, ?_⟩
      obtain ⟨q0, fs', t0, F', rfl, rfl, g6⟩ : ∃ q0 fs' t0 F', fs = q0 :: fs' ∧ F = t0 :: F' ∧ H q0 = some (.tup (Tk.v t0)) := by
        cases g2 with
        | nil => exact absurd rfl g3
        | cons h r => exact ⟨_, _, _, _, rfl, rfl, h⟩
      refine q_when (et_test (ev_op (ev_len_l (ev_var rfl) (sq_of h2)) (ev_var rfl) (rv_eq rfl))) (fun _ H3 e3 => ?_) (fun _ H3 e3 => ?_)
      · have e23 := e2.trans e3
        exact rd_TE (ea_two (ev_ixt (v := .int t0.col) (ev_ixl (v := .ref q0) (ev_var rfl) ev_c (sq_of (e23 _ _ g1)) (atI_nat (j := 0) rfl)) ev_c (st_of (e23 _ _ g6)) rfl) ev_c) fun H' d e hd hv => ke _ _ w_state H' d (e23.trans e) (fresh_back e23 hd) hv
      · have e23 := e2.trans e3
        refine q_appS (P := NewT) (e3 _ _ h2) (ev_var rfl) (es_costs (H0 := H) (g := g) (most := g) (Q0 := Q) e23 (ea_three (ev_var rfl) (ev_var rfl) ev_c) (p2.nums.mono (fun _ _ h => e23 _ _ h) (fun _ _ h => e23 _ _ h)) w_state ke) (by simp; omega) fun v H4 e4 hv => ?_
        obtain ⟨p, xs, rfl, h4, hxl⟩ := hv
        have hf4 := e4 _ _ (e3 _ _ h2)
        have h5 : upd H4 f (.lst (ts.map V.ref ++ [.ref p])) p = some (.tup xs) := tup_keep hf4 p _ h4
        have hk5 : upd H4 f (.lst (ts.map V.ref ++ [.ref p])) kq = some (.tup t.v) := tup_keep hf4 kq _ (e4 _ _ (e23 _ _ p3))
        have e25 : Ex H (upd H4 f (.lst (ts.map V.ref ++ [.ref p]))) := Ex.mut (e23.trans e4) hfn
        refine s_when (et_or (et_test (ev_op (ev_len_t (ev_ixl (ev_var rfl) (ev_neg ev_c) (sq_of upd_same) (atI_last _ _)) (st_of h5)) (ev_var rfl) rv_I0)) fun _ => et_and (et_test (ev_op (ev_ixt (v := .str t.chs) (ev_var rfl) ev_c (st_of hk5) rfl) ev_c (rv_ne rfl))) fun _ => et_test (ev_op (ev_len_l (ev_var rfl) (sq_of upd_same)) (ev_var rfl) rv_I0)) (fun _ H6 e6 => ?_) (fun _ H6 e6 => ?_)
        · exact rd_TE (ea_two (ev_ixt (v := .int t.col) (ev_var rfl) ev_c (st_of (e6 _ _ hk5)) rfl) ev_c) fun H' d e hd hv => ke _ _ w_miss H' d ((e25.trans e6).trans e) (fresh_back (e25.trans e6) hd) hv
        · refine ⟨ts ++ [p], _, _, rfl, e25.trans e6, ?_, ?_, by simp; omega⟩
          · rw [List.map_append]
            exact e6 _ _ upd_same
          · refine Tups.mono ?_ (fun _ _ h => e6 _ _ h)
            exact ((h3.mono (fun _ _ h => e4 _ _ (e3 _ _ h))).mono (tup_keep hf4)).snoc h5 hxl
    · rintro σ' H' ⟨ts, tk, be, rfl, e2, h2, h3, hl⟩
      refine s_retU (eu_tuple (ev_var rfl) (sq_of h2)) fun p H3 hp e3 h3 => ?_
      exact k p _ H3 (fresh_back e2 hp) (e2.trans e3) h3 (by simp at hl ⊢; omega)
theorem ok_show_of (T : Tx K mg) : FnOk P w K mg base (L2.CX P w) 4 T.d_show_of.f T.d_show_of.fd ["rows", "many"] (spCH T.C_TextError) := by
  refine T.d_show_of.F.okX sc_show_of (fun vs H Q E h => ?_) (fun cdv A outer s H vs Q E hr h => ?_)
  · obtain ⟨a, many, rfl, _⟩ := h
    rfl
  · obtain ⟨a, many, rfl, ⟨prs, ha, hprs, hpl⟩, k, ke⟩ := h
    refine ⟨_, (pss_cons (ps_set (i := 2) sc_show_of.nd rfl (Or.inl rfl) (pe_lst pa_nil))
  (pss_cons (ps_for (passes_of rfl) rfl (pi_list (pv 0)) (pg_tup (by rfl) (pgs_cons (pg_name (i := 3) sc_show_of.nd rfl (Or.inl rfl)) (pgs_cons (pg_name (i := 4) sc_show_of.nd rfl (Or.inl rfl)) pgs_nil)))
  (pss_cons (ps_if (pt_cmpR op_eq (pe_callB call_len (by rfl) T.z_len PySem.boot_len (pa_cons (pv 2) pa_nil)) (pv 1) (nomark _))
  (pss_one (ps_raise rfl (takes_of rfl rfl rfl rfl) (pmk_oex T.ox_TextError T.i_TextError.at_ T.i_TextError.ty (ok_TextError_init T) (hr.mono (by decide)) T.i_TextError.b .nil pass0 rfl T.g_TextError (pa_cons (pe_ix ix_tup (pe_ix ix_list (pv 3) pe_int (fun _ _ => rfl)) pe_int (fun _ _ => rfl)) (pa_cons pe_str pa_nil)))))
  pss_nil)
  (pss_cons (ps_if (pt_cmpR op_eq (pe_callB call_len (by rfl) T.z_len PySem.boot_len (pa_cons (pv 2) pa_nil)) pe_int (nomark _))
  (pss_one (ps_expr (pe_bm PySem.F.plainAttrs_list PySem.F.slot_list_append PySem.F.type_list_append mt_append (pv 2) (pa_cons (pe_call (ok_costs_of T) (hr.mono (by decide)) rfl T.d_costs_of.g T.d_costs_of.F.kp T.d_costs_of.b .nil (passX (takes_of rfl rfl rfl rfl)) (pa_cons (pv 3) (pa_cons (pe_glob (v := .int 3) rfl T.g_MOST_SHOWN ⟨_, rfl⟩) (pa_cons pe_str pa_nil)))) pa_nil))))
  (pss_one (ps_expr (pe_bm PySem.F.plainAttrs_list PySem.F.slot_list_append PySem.F.type_list_append mt_append (pv 2) (pa_cons (pe_call (ok_costs_of T) (hr.mono (by decide)) rfl T.d_costs_of.g T.d_costs_of.F.kp T.d_costs_of.b .nil (passX (takes_of rfl rfl rfl rfl)) (pa_cons (pv 3) (pa_cons (pe_callB call_len (by rfl) T.z_len PySem.boot_len (pa_cons (pe_ix ix_list (pv 2) pe_int (fun _ _ => rfl)) pa_nil)) (pa_cons pe_str pa_nil)))) pa_nil)))))
  (pss_cons (ps_if (pt_cmpR op_lt (pe_callB call_len (by rfl) T.z_len PySem.boot_len (pa_cons (pe_ix ix_list (pv 2) (pe_un un_neg pe_int) (fun _ _ => rfl)) pa_nil)) (pe_callB call_len (by rfl) T.z_len PySem.boot_len (pa_cons (pe_ix ix_list (pv 2) pe_int (fun _ _ => rfl)) pa_nil)) (nomark _))
  (pss_one (ps_raise rfl (takes_of rfl rfl rfl rfl) (pmk_oex T.ox_TextError T.i_TextError.at_ T.i_TextError.ty (ok_TextError_init T) (hr.mono (by decide)) T.i_TextError.b .nil pass0 rfl T.g_TextError (pa_cons (pe_ix ix_tup (pv 4) pe_int (fun _ _ => rfl)) (pa_cons pe_str pa_nil)))))
  pss_nil)
  (pss_one (ps_if (PW.pt (pw_and (pt_cmpR op_ne (pe_ix ix_tup (pv 4) pe_int (fun _ _ => rfl)) pe_str (nomark _)) (pw_and1 (pt_cmpR op_lt (pe_callB call_len (by rfl) T.z_len PySem.boot_len (pa_cons (pv 2) pa_nil)) (pv 1) (nomark _)))))
  (pss_one (ps_raise rfl (takes_of rfl rfl rfl rfl) (pmk_oex T.ox_TextError T.i_TextError.at_ T.i_TextError.ty (ok_TextError_init T) (hr.mono (by decide)) T.i_TextError.b .nil pass0 rfl T.g_TextError (pa_cons (pe_ix ix_tup (pv 4) pe_int (fun _ _ => rfl)) (pa_cons pe_str pa_nil)))))
  pss_nil))))))
  (pss_one (ps_ret (pe_callTy call_tuple_of (by rfl) T.z_tuple (by decide +kernel) (pa_cons (pv 2) pa_nil)))))), ?_⟩
    refine q_asgL (el_lst ea_nil (by decide)) fun f H1 hfn e1 h1 => ?_
    refine q_forL (a := a) (xs := prs.map V.ref) (ev_var rfl) (ex_l e1 (sq_of ha)) (fun i σ' H' => ∃ ts tk be, σ' = [some (.ref a), some (.int many), some (.ref f), tk, be] ∧ Ex H H' ∧ H' f = some (.lst (ts.map V.ref)) ∧ Tups H' ts ∧ ts.length ≤ i)
      (fun H2 e2 => ⟨[], none, none, rfl, e1.trans e2, e2 _ _ h1, (fun _ h => nomatch h), by simp⟩) (fun i σ' H' _ ⟨_, _, _, _, e, _⟩ => ex_l e (sq_of ha)) ?_ ?_
    · rintro i x σ' H' hx ⟨ts, tk, be, rfl, e2, h2, h3, hl⟩
      have hil : i < prs.length := by
        have := (List.getElem?_eq_some_iff.mp hx).1
        simpa using this
      obtain ⟨pr, hpr, rfl⟩ : ∃ pr, pr ∈ prs ∧ x = .ref pr := by
        rw [List.getElem?_map] at hx
        cases h : prs[i]? with
        | none => rw [h] at hx; cases hx
        | some pr => rw [h] at hx; exact ⟨pr, List.mem_of_getElem? h, (Option.some.inj hx).symm⟩
      obtain ⟨g, kq, t, p1, p2, p3⟩ := hprs pr hpr
      obtain ⟨fs, F, g1, g2, g3, g4, g5⟩ := id p2
      refine ⟨pr, _, rfl, st_of (e2 _ _ p1), rfl, _, _, rfl, _, _, rfl, rfl, ?_⟩
      obtain ⟨q0, fs', t0, F', rfl, rfl, g6⟩ : ∃ q0 fs' t0 F', fs = q0 :: fs' ∧ F = t0 :: F' ∧ H q0 = some (.tup (Tk.v t0)) := by
        cases g2 with
        | nil => exact absurd rfl g3
        | cons h r => exact ⟨_, _, _, _, rfl, rfl, h⟩
      refine q_when (et_test (ev_op (ev_len_l (ev_var rfl) (sq_of h2)) (ev_var rfl) (rv_eq rfl))) (fun _ H3 e3 => ?_) (fun _ H3 e3 => ?_)
      · have e23 := e2.trans e3
        exact rd_TE (ea_two (ev_ixt (v := .int t0.col) (ev_ixl (v := .ref q0) (ev_var rfl) ev_c (sq_of (e23 _ _ g1)) (atI_nat (j := 0) rfl)) ev_c (st_of (e23 _ _ g6)) rfl) ev_c) fun H' d e hd hv => ke _ _ w_state H' d (e23.trans e) (fresh_back e23 hd) hv
      · have e23 := e2.trans e3
        refine q_if (et_test (ev_op (ev_len_l (ev_var rfl) (sq_of (e3 _ _ h2))) ev_c (rv_eq rfl))) (fun hb H5 e5 => ?_) (fun hb H5 e5 => ?_)
        · have e25' := e23.trans e5
          refine q_appS (P := NewT) (e5 _ _ (e3 _ _ h2)) (ev_var rfl) (es_costs (H0 := H) (g := g) (most := g) (Q0 := Q) e25' (ea_three (ev_var rfl) ev_c ev_c) (p2.nums.mono (fun _ _ h => e25' _ _ h) (fun _ _ h => e25' _ _ h)) w_signs ke) (by simp; omega) fun v H4 e4 hv => ?_
          obtain ⟨p, xs, rfl, h4, hxl⟩ := hv
          have e34 := e5.trans e4
          have hf4 : H4 f = some (.lst (ts.map V.ref)) := e34 _ _ (e3 _ _ h2)
          have h5 : upd H4 f (.lst (ts.map V.ref ++ [.ref p])) p = some (.tup xs) := tup_keep hf4 p _ h4
          have hk5 : upd H4 f (.lst (ts.map V.ref ++ [.ref p])) kq = some (.tup t.v) := tup_keep hf4 kq _ (e34 _ _ (e23 _ _ p3))
          have e25 : Ex H (upd H4 f (.lst (ts.map V.ref ++ [.ref p]))) := Ex.mut (e23.trans e34) hfn
          have hT : Tups (upd H4 f (.lst (ts.map V.ref ++ [.ref p]))) (ts ++ [p]) := ((h3.mono (fun _ _ h => e34 _ _ (e3 _ _ h))).mono (tup_keep hf4)).snoc h5 hxl
          obtain ⟨z0, zs, hz0, hat⟩ : ∃ z0 zs, upd H4 f (.lst (ts.map V.ref ++ [.ref p])) z0 = some (.tup zs) ∧ atI (ts.map V.ref ++ [V.ref p]) 0 = some (.ref z0) := by
            cases ts with
            | nil => exact ⟨p, xs, h5, atI_nat (j := 0) rfl⟩
            | cons z0 zr =>
              obtain ⟨zs, hz, _⟩ := hT z0 (by simp)
              exact ⟨z0, zs, hz, atI_nat (j := 0) rfl⟩
          refine q_when (et_test (ev_op (ev_len_t (ev_ixl (ev_var rfl) (ev_neg ev_c) (sq_of upd_same) (atI_last _ _)) (st_of h5)) (ev_len_t (ev_ixl (ev_var rfl) ev_c (sq_of upd_same) hat) (st_of hz0)) rv_I0)) (fun _ H6 e6 => ?_) (fun _ H6 e6 => ?_)
          · exact rd_TE (ea_two (ev_ixt (v := .int t.col) (ev_var rfl) ev_c (st_of (e6 _ _ hk5)) rfl) ev_c) fun H' d e hd hv => ke _ _ w_missign H' d ((e25.trans e6).trans e) (fresh_back (e25.trans e6) hd) hv
          have hk6 := e6 _ _ hk5
          have hf6 := e6 _ _ (upd_same (H := H4) (a := f) (o := .lst (ts.map V.ref ++ [.ref p])))
          have e26 := e25.trans e6
          refine s_when (et_and (et_test (ev_op (ev_ixt (v := .str t.chs) (ev_var rfl) ev_c (st_of hk6) rfl) ev_c (rv_ne rfl))) fun _ => et_test (ev_op (ev_len_l (ev_var rfl) (sq_of hf6)) (ev_var rfl) rv_I0)) (fun _ H7 e7 => ?_) (fun _ H7 e7 => ?_)
          · exact rd_TE (ea_two (ev_ixt (v := .int t.col) (ev_var rfl) ev_c (st_of (e7 _ _ hk6)) rfl) ev_c) fun H' d e hd hv => ke _ _ w_miss H' d ((e26.trans e7).trans e) (fresh_back (e26.trans e7) hd) hv
          · refine ⟨ts ++ [p], _, _, rfl, e26.trans e7, ?_, ?_, by simp; omega⟩
            · rw [List.map_append]
              exact e7 _ _ hf6
            · exact hT.mono (fun _ _ h => e7 _ _ (e6 _ _ h))
        · have e25' := e23.trans e5
          have hne : ts ≠ [] := fun z => by
            subst z
            simp at hb
          obtain ⟨y0, ys, hy0, hy1⟩ : ∃ y0 ys, H5 y0 = some (.tup ys) ∧ atI (ts.map V.ref) 0 = some (.ref y0) := by
            cases ts with
            | nil => exact absurd rfl hne
            | cons z0 zr =>
              obtain ⟨zs, hz, _⟩ := h3 z0 (by simp)
              exact ⟨z0, zs, e5 _ _ (e3 _ _ hz), atI_nat (j := 0) rfl⟩
          refine q_appS (P := NewT) (e5 _ _ (e3 _ _ h2)) (ev_var rfl) (es_costs (H0 := H) (g := g) (most := g) (Q0 := Q) e25' (ea_three (ev_var rfl) (ev_len_t (ev_ixl (ev_var rfl) ev_c (sq_of (e5 _ _ (e3 _ _ h2))) hy1) (st_of hy0)) ev_c) (p2.nums.mono (fun _ _ h => e25' _ _ h) (fun _ _ h => e25' _ _ h)) w_sign ke) (by simp; omega) fun v H4 e4 hv => ?_
          obtain ⟨p, xs, rfl, h4, hxl⟩ := hv
          have e34 := e5.trans e4
          have hf4 : H4 f = some (.lst (ts.map V.ref)) := e34 _ _ (e3 _ _ h2)
          have h5 : upd H4 f (.lst (ts.map V.ref ++ [.ref p])) p = some (.tup xs) := tup_keep hf4 p _ h4
          have hk5 : upd H4 f (.lst (ts.map V.ref ++ [.ref p])) kq = some (.tup t.v) := tup_keep hf4 kq _ (e34 _ _ (e23 _ _ p3))
          have e25 : Ex H (upd H4 f (.lst (ts.map V.ref ++ [.ref p]))) := Ex.mut (e23.trans e34) hfn
          have hT : Tups (upd H4 f (.lst (ts.map V.ref ++ [.ref p]))) (ts ++ [p]) := ((h3.mono (fun _ _ h => e34 _ _ (e3 _ _ h))).mono (tup_keep hf4)).snoc h5 hxl
          obtain ⟨z0, zs, hz0, hat⟩ : ∃ z0 zs, upd H4 f (.lst (ts.map V.ref ++ [.ref p])) z0 = some (.tup zs) ∧ atI (ts.map V.ref ++ [V.ref p]) 0 = some (.ref z0) := by
            cases ts with
            | nil => exact ⟨p, xs, h5, atI_nat (j := 0) rfl⟩
            | cons z0 zr =>
              obtain ⟨zs, hz, _⟩ := hT z0 (by simp)
              exact ⟨z0, zs, hz, atI_nat (j := 0) rfl⟩
          refine q_when (et_test (ev_op (ev_len_t (ev_ixl (ev_var rfl) (ev_neg ev_c) (sq_of upd_same) (atI_last _ _)) (st_of h5)) (ev_len_t (ev_ixl (ev_var rfl) ev_c (sq_of upd_same) hat) (st_of hz0)) rv_I0)) (fun _ H6 e6 => ?_) (fun _ H6 e6 => ?_)
          · exact rd_TE (ea_two (ev_ixt (v := .int t.col) (ev_var rfl) ev_c (st_of (e6 _ _ hk5)) rfl) ev_c) fun H' d e hd hv => ke _ _ w_missign H' d ((e25.trans e6).trans e) (fresh_back (e25.trans e6) hd) hv
          have hk6 := e6 _ _ hk5
          have hf6 := e6 _ _ (upd_same (H := H4) (a := f) (o := .lst (ts.map V.ref ++ [.ref p])))
          have e26 := e25.trans e6
          refine s_when (et_and (et_test (ev_op (ev_ixt (v := .str t.chs) (ev_var rfl) ev_c (st_of hk6) rfl) ev_c (rv_ne rfl))) fun _ => et_test (ev_op (ev_len_l (ev_var rfl) (sq_of hf6)) (ev_var rfl) rv_I0)) (fun _ H7 e7 => ?_) (fun _ H7 e7 => ?_)
          · exact rd_TE (ea_two (ev_ixt (v := .int t.col) (ev_var rfl) ev_c (st_of (e7 _ _ hk6)) rfl) ev_c) fun H' d e hd hv => ke _ _ w_miss H' d ((e26.trans e7).trans e) (fresh_back (e26.trans e7) hd) hv
          · refine ⟨ts ++ [p], _, _, rfl, e26.trans e7, ?_, ?_, by simp; omega⟩
            · rw [List.map_append]
              exact e7 _ _ hf6
            · exact hT.mono (fun _ _ h => e7 _ _ (e6 _ _ h))
    · rintro σ' H' ⟨ts, tk, be, rfl, e2, h2, h3, hl⟩
      refine s_retU (eu_tuple (ev_var rfl) (sq_of h2)) fun p H3 hp e3 h3 => ?_
      exact k p _ H3 (fresh_back e2 hp) (e2.trans e3) h3 (by simp at hl ⊢; omega)
end
end WC

/-! ## Ke3 -/
/-! the law's own model is a model -/
namespace WC
open PySem PySem.Spec PyProof.Rows L2 Evl
section
variable {K : PySem.W.Frag} {σ : L2.St} {H H' : Hp} {ta tb te tk tv : TE} {x y z v : V}
theorem ev_all {bs : List Bool} (h : EvL te σ H (bs.map V.bl)) : Ev (tCB (rAll K) (tCons te tNil)) σ H (.bl (bs.all id)) := fun H1 e _ q => h H1 e _ fun p H2 _ e2 h2 => ⟨p, bs, rfl, sq_of h2, q H2 e2⟩
theorem given_true (n : Nat) : given n (fun _ => true) (fun _ => V.bl true) = (List.replicate n true).map V.bl := by
  unfold given
  rw [List.filter_eq_self.mpr (fun _ _ => rfl)]
  induction n with
  | zero => rfl
  | succ n ih => rw [List.range_succ, List.map_append, ih, List.replicate_succ', List.map_append]; rfl
theorem ev_all_lc {n : Nat} (h : EvL te σ H (given n (fun _ => true) (fun _ => V.bl true))) : Ev (tCB (rAll K) (tCons te tNil)) σ H (.bl true) := by
  rw [given_true] at h
  have q := ev_all (K := K) h
  rw [show (List.replicate n true).all id = true by simp] at q
  exact q
end
section
variable {P : Program} {w : World} {K : PySem.W.Frag} {mg : Str → Option Value} {base : Heap}
def spIW : Sp := fun vs H Q _ => ∃ i lo hi : Int, vs = [.int i, .int lo, .int hi] ∧ lo ≤ i ∧ i ≤ hi ∧ ∀ H', Ex H H' → Q (.bl true) H'
theorem ok_is_whole (T : Tx K mg) : FnOk P w K mg base CX0 1 T.d_is_whole.f T.d_is_whole.fd ["value", "low", "high"] spIW := by
  refine T.d_is_whole.F.ok sc_is_whole (fun vs H Q E h => ?_) (fun cdv A outer s H vs Q E hr h => ?_)
  · obtain ⟨i, lo, hi, rfl, _⟩ := h
    rfl
  · obtain ⟨i, lo, hi, rfl, h1, h2, k⟩ := h
    refine ⟨_, (pss_one (ps_ret (pe_and (pe_callB call_isi (by rfl) T.z_isinstance (by decide +kernel) (pa_cons (pv 0) (pa_cons (pe_bltn (v := .ty "int") (by rfl) T.z_int (by decide +kernel) rfl) pa_nil))) (pe_and (pe_not (pe_callB call_isi (by rfl) T.z_isinstance (by decide +kernel) (pa_cons (pv 0) (pa_cons (pe_bltn (v := .ty "bool") (by rfl) T.z_bool (by decide +kernel) rfl) pa_nil)))) (pe_one (pe_chain op_le op_le (pv 1) (pv 0) (pv 2))))))), ?_⟩
    refine s_ret (ev_is (ev_andV (ev_isi (ev_var rfl) tx_i ev_c (b := true) (by decide +kernel)) fun _ => ev_andV (ev_notV (ev_isi (ev_var rfl) tx_i ev_c (b := false) (by decide +kernel))) fun _ => ev_chain (ev_var rfl) (ev_var rfl) (ev_var rfl) (fun i j => decide (i ≤ j))) ?_) k
    simp [h1, h2]
/-- a tuple of small costs -/
def CostT (H : Hp) (a : Addr) (n : Nat) : Prop := ∃ ns : List Int, H a = some (.tup (ns.map V.int)) ∧ ns.length = n ∧ n ≤ 10 ∧ ∀ i ∈ ns, 0 ≤ i ∧ i ≤ 3
theorem CostT.ex {H H' : Hp} {a : Addr} {n : Nat} (h : CostT H a n) (e : Ex H H') : CostT H' a n := by
  obtain ⟨ns, h1, h2⟩ := h
  exact ⟨ns, e _ _ h1, h2⟩
def spAC : Sp := fun vs H Q _ => ∃ a, ∃ n : Nat, vs = [.ref a, .int (n : Int)] ∧ CostT H a n ∧ ∀ H', Ex H H' → Q (.bl true) H'
theorem ok_are_costs (T : Tx K mg) : FnOk P w K mg base CX0 2 T.d_are_costs.f T.d_are_costs.fd ["value", "many"] spAC := by
  refine T.d_are_costs.F.ok sc_are_costs (fun vs H Q E h => ?_) (fun cdv A outer s H vs Q E hr h => ?_)
  · obtain ⟨a, n, rfl, _⟩ := h
    rfl
  · obtain ⟨a, n, rfl, ⟨ns, ha, hn, hn10, hc⟩, k⟩ := h
    refine ⟨_, (pss_one (ps_ret (pe_and (pe_callB call_isi (by rfl) T.z_isinstance (by decide +kernel) (pa_cons (pv 0) (pa_cons (pe_bltn (v := .ty "tuple") (by rfl) T.z_tuple (by decide +kernel) rfl) pa_nil))) (pe_and (pe_cmpR op_eq (pe_callB call_len (by rfl) T.z_len PySem.boot_len (pa_cons (pv 0) pa_nil)) (pv 1) (nomark _)) (pe_one (pe_callB (cr_all rfl) (by rfl) T.z_all (by decide +kernel) (pa_cons (pe_lc (own := [("cost", 2)]) (g := gName 2) (by rfl) sc_are_costs.nd (pi_tup (pv 0)) (blkOk_by (own := [("cost", 2)]) (N := N_are_costs) (sc := defScope s_are_costs) (by decide +kernel)) (fun _ _ _ _ _ => pg_name (i := 2) sc_are_costs.nd rfl (Or.inl rfl)) (fun _ _ _ _ _ => pts_nil) (fun _ _ _ _ _ => (pe_call (ok_is_whole T) (hr.mono (by decide)) rfl T.d_is_whole.g T.d_is_whole.F.kp T.d_is_whole.b .nil pass0 (pa_cons (pv 2) (pa_cons pe_int (pa_cons (pe_glob (v := .int 3) rfl T.g_MOST_COST ⟨_, rfl⟩) pa_nil)))))) pa_nil))))))), ?_⟩
    refine s_ret (ev_is (ev_andV (ev_isi (ev_var rfl) (tx_t ha) ev_c (b := true) (by decide +kernel)) fun _ => ev_andV (ev_op (ev_len_t (ev_var rfl) (st_of ha)) (ev_var rfl) (rv_eq rfl)) fun _ =>
      ev_all_lc (el_lcT _ _ (ev_var rfl) (st_of ha) (by simp; omega) (fun _ => rfl) (fun _ _ _ _ _ => et_yes) (fun i x H1 e1 hx _ => ev_call (ea_three (ev_var rfl) ev_c ev_c) fun H2 e2 Q2 k2 E2 => ?_))) ?_) k
    · rw [List.getElem?_map] at hx
      cases h : ns[i]? with
      | none => rw [h] at hx; cases hx
      | some j =>
        rw [h] at hx
        cases hx
        obtain ⟨g1, g2⟩ := hc j (List.mem_of_getElem? h)
        exact ⟨j, 0, 3, rfl, g1, g2, k2⟩
    · simp [hn]
/-- a tuple of such -/
def CostR (H : Hp) (a : Addr) (n m : Nat) : Prop := ∃ rs : List Addr, H a = some (.tup (rs.map V.ref)) ∧ rs.length = n ∧ n ≤ 10 ∧ ∀ r ∈ rs, CostT H r m
theorem CostR.ex {H H' : Hp} {a : Addr} {n m : Nat} (h : CostR H a n m) (e : Ex H H') : CostR H' a n m := by
  obtain ⟨ns, h1, h2, h3, h4⟩ := h
  exact ⟨ns, e _ _ h1, h2, h3, fun r hr => (h4 r hr).ex e⟩
def spAR : Sp := fun vs H Q _ => ∃ a, ∃ n m : Nat, vs = [.ref a, .int (n : Int), .int (m : Int)] ∧ CostR H a n m ∧ ∀ H', Ex H H' → Q (.bl true) H'
theorem ok_are_rows (T : Tx K mg) : FnOk P w K mg base CX0 3 T.d_are_rows.f T.d_are_rows.fd ["value", "many", "wide"] spAR := by
  refine T.d_are_rows.F.ok sc_are_rows (fun vs H Q E h => ?_) (fun cdv A outer s H vs Q E hr h => ?_)
  · obtain ⟨a, n, m, rfl, _⟩ := h
    rfl
  · obtain ⟨a, n, m, rfl, ⟨ns, ha, hn, hn10, hc⟩, k⟩ := h
    refine ⟨_, (pss_one (ps_ret (pe_and (pe_callB call_isi (by rfl) T.z_isinstance (by decide +kernel) (pa_cons (pv 0) (pa_cons (pe_bltn (v := .ty "tuple") (by rfl) T.z_tuple (by decide +kernel) rfl) pa_nil))) (pe_and (pe_cmpR op_eq (pe_callB call_len (by rfl) T.z_len PySem.boot_len (pa_cons (pv 0) pa_nil)) (pv 1) (nomark _)) (pe_one (pe_callB (cr_all rfl) (by rfl) T.z_all (by decide +kernel) (pa_cons (pe_lc (own := [("row", 3)]) (g := gName 3) (by rfl) sc_are_rows.nd (pi_tup (pv 0)) (blkOk_by (own := [("row", 3)]) (N := N_are_rows) (sc := defScope s_are_rows) (by decide +kernel)) (fun _ _ _ _ _ => pg_name (i := 3) sc_are_rows.nd rfl (Or.inl rfl)) (fun _ _ _ _ _ => pts_nil) (fun _ _ _ _ _ => (pe_call (ok_are_costs T) (hr.mono (by decide)) rfl T.d_are_costs.g T.d_are_costs.F.kp T.d_are_costs.b .nil pass0 (pa_cons (pv 3) (pa_cons (pv 2) pa_nil))))) pa_nil))))))), ?_⟩
    refine s_ret (ev_is (ev_andV (ev_isi (ev_var rfl) (tx_t ha) ev_c (b := true) (by decide +kernel)) fun _ => ev_andV (ev_op (ev_len_t (ev_var rfl) (st_of ha)) (ev_var rfl) (rv_eq rfl)) fun _ =>
      ev_all_lc (el_lcT _ _ (ev_var rfl) (st_of ha) (by simp; omega) (fun _ => rfl) (fun _ _ _ _ _ => et_yes) (fun i x H1 e1 hx _ => ev_call (ea_two (ev_var rfl) (ev_var rfl)) fun H2 e2 Q2 k2 E2 => ?_))) ?_) k
    · rw [List.getElem?_map] at hx
      cases h : ns[i]? with
      | none => rw [h] at hx; cases hx
      | some j =>
        rw [h] at hx
        cases hx
        exact ⟨j, m, rfl, (hc j (List.mem_of_getElem? h)).ex (e1.trans e2), k2⟩
    · simp [hn]
/-- the law's own model -/
def MdAt (H : Hp) (a : Addr) : Prop := ∃ b c s s0 s1, H a = some (.tup [.ref b, .ref c, .ref s]) ∧ CostT H b 2 ∧ CostR H c 2 2 ∧ H s = some (.tup [.ref s0, .ref s1]) ∧ CostT H s0 2 ∧ CostT H s1 2
theorem MdAt.ex {H H' : Hp} {a : Addr} (h : MdAt H a) (e : Ex H H') : MdAt H' a := by
  obtain ⟨b, c, s, s0, s1, h1, h2, h3, h4, h5, h6⟩ := h
  exact ⟨b, c, s, s0, s1, e _ _ h1, h2.ex e, h3.ex e, e _ _ h4, h5.ex e, h6.ex e⟩
theorem CostT.tup {H : Hp} {a : Addr} {n : Nat} (h : CostT H a n) : ∃ xs : List V, H a = some (.tup xs) ∧ xs.length = n := by
  obtain ⟨ns, h1, h2, _⟩ := h
  exact ⟨_, h1, by simpa using h2⟩
theorem CostR.tup {H : Hp} {a : Addr} {n m : Nat} (h : CostR H a n m) : ∃ xs : List V, H a = some (.tup xs) ∧ xs.length = n := by
  obtain ⟨ns, h1, h2, _⟩ := h
  exact ⟨_, h1, by simpa using h2⟩
def spIM : Sp := fun vs H Q _ => ∃ a, vs = [.ref a] ∧ MdAt H a ∧ ∀ H', Ex H H' → Q (.bl true) H'
theorem ok_is_model (T : Tx K mg) : FnOk P w K mg base CX0 4 T.d_is_model.f T.d_is_model.fd ["value"] spIM := by
  refine T.d_is_model.F.ok sc_is_model (fun vs H Q E h => ?_) (fun cdv A outer s H vs Q E hr h => ?_)
  · obtain ⟨a, rfl, _⟩ := h
    rfl
  · obtain ⟨a, rfl, ⟨b, c, sh, s0, s1, ha, hb, hc, hs, h0, h1⟩, k⟩ := h
    refine ⟨_, (pss_cons (ps_if (PW.pt (pw_or (pt_not (pt_val (pe_callB call_isi (by rfl) T.z_isinstance (by decide +kernel) (pa_cons (pv 0) (pa_cons (pe_bltn (v := .ty "tuple") (by rfl) T.z_tuple (by decide +kernel) rfl) pa_nil))))) (pw_or (pt_cmpR op_ne (pe_callB call_len (by rfl) T.z_len PySem.boot_len (pa_cons (pv 0) pa_nil)) pe_int (nomark _)) (pw_or1 (pt_not (pt_val (pe_callB call_isi (by rfl) T.z_isinstance (by decide +kernel) (pa_cons (pe_ix ix_tup (pv 0) pe_int (fun _ _ => rfl)) (pa_cons (pe_bltn (v := .ty "tuple") (by rfl) T.z_tuple (by decide +kernel) rfl) pa_nil)))))))))
  (pss_one (ps_ret pe_bl))
  pss_nil)
  (pss_cons (ps_set (i := 1) sc_is_model.nd rfl (Or.inl rfl) (pe_callB call_len (by rfl) T.z_len PySem.boot_len (pa_cons (pe_ix ix_tup (pv 0) pe_int (fun _ _ => rfl)) pa_nil)))
  (pss_cons (ps_if (PW.pt (pw_or (pt_not (pt_chain op_le op_le pe_int (pv 1) (pe_glob (v := .int 3) rfl T.g_MOST_STATES ⟨_, rfl⟩))) (pw_or (pt_not (pt_val (pe_call (ok_are_costs T) (hr.mono (by decide)) rfl T.d_are_costs.g T.d_are_costs.F.kp T.d_are_costs.b .nil pass0 (pa_cons (pe_ix ix_tup (pv 0) pe_int (fun _ _ => rfl)) (pa_cons (pv 1) pa_nil))))) (pw_or1 (pt_not (pt_val (pe_call (ok_are_rows T) (hr.mono (by decide)) rfl T.d_are_rows.g T.d_are_rows.F.kp T.d_are_rows.b .nil pass0 (pa_cons (pe_ix ix_tup (pv 0) pe_int (fun _ _ => rfl)) (pa_cons (pv 1) (pa_cons (pv 1) pa_nil))))))))))
  (pss_one (ps_ret pe_bl))
  pss_nil)
  (pss_cons (ps_if (PW.pt (pw_or (pt_not (pt_val (pe_callB call_isi (by rfl) T.z_isinstance (by decide +kernel) (pa_cons (pe_ix ix_tup (pv 0) pe_int (fun _ _ => rfl)) (pa_cons (pe_bltn (v := .ty "tuple") (by rfl) T.z_tuple (by decide +kernel) rfl) pa_nil))))) (pw_or (pt_cmpR op_ne (pe_callB call_len (by rfl) T.z_len PySem.boot_len (pa_cons (pe_ix ix_tup (pv 0) pe_int (fun _ _ => rfl)) pa_nil)) (pv 1) (nomark _)) (pw_or1 (pt_not (pt_val (pe_callB call_isi (by rfl) T.z_isinstance (by decide +kernel) (pa_cons (pe_ix ix_tup (pe_ix ix_tup (pv 0) pe_int (fun _ _ => rfl)) pe_int (fun _ _ => rfl)) (pa_cons (pe_bltn (v := .ty "tuple") (by rfl) T.z_tuple (by decide +kernel) rfl) pa_nil)))))))))
  (pss_one (ps_ret pe_bl))
  pss_nil)
  (pss_one (ps_ret (pe_and (pe_chain op_le op_le pe_int (pe_callB call_len (by rfl) T.z_len PySem.boot_len (pa_cons (pe_ix ix_tup (pe_ix ix_tup (pv 0) pe_int (fun _ _ => rfl)) pe_int (fun _ _ => rfl)) pa_nil)) (pe_glob (v := .int 3) rfl T.g_MOST_SHOWN ⟨_, rfl⟩)) (pe_one (pe_call (ok_are_rows T) (hr.mono (by decide)) rfl T.d_are_rows.g T.d_are_rows.F.kp T.d_are_rows.b .nil pass0 (pa_cons (pe_ix ix_tup (pv 0) pe_int (fun _ _ => rfl)) (pa_cons (pv 1) (pa_cons (pe_callB call_len (by rfl) T.z_len PySem.boot_len (pa_cons (pe_ix ix_tup (pe_ix ix_tup (pv 0) pe_int (fun _ _ => rfl)) pe_int (fun _ _ => rfl)) pa_nil)) pa_nil)))))))))))), ?_⟩
    obtain ⟨xb, hb', lb⟩ := hb.tup
    obtain ⟨xc, hc', lc⟩ := hc.tup
    obtain ⟨x0, h0', l0⟩ := h0.tup
    have v0 : ∀ {σ : L2.St} {H1 : Hp}, Ex H H1 → σ[0]? = some (some (.ref a)) → Ev (tOp (rIxT K) (tVar 0) (tC (.int 0))) σ H1 (.ref b) := fun e h => ev_ixt (ev_var h) ev_c (st_of (e _ _ ha)) rfl
    have v1 : ∀ {σ : L2.St} {H1 : Hp}, Ex H H1 → σ[0]? = some (some (.ref a)) → Ev (tOp (rIxT K) (tVar 0) (tC (.int 1))) σ H1 (.ref c) := fun e h => ev_ixt (ev_var h) ev_c (st_of (e _ _ ha)) rfl
    have v2 : ∀ {σ : L2.St} {H1 : Hp}, Ex H H1 → σ[0]? = some (some (.ref a)) → Ev (tOp (rIxT K) (tVar 0) (tC (.int 2))) σ H1 (.ref sh) := fun e h => ev_ixt (ev_var h) ev_c (st_of (e _ _ ha)) rfl
    have v20 : ∀ {σ : L2.St} {H1 : Hp}, Ex H H1 → σ[0]? = some (some (.ref a)) → Ev (tOp (rIxT K) (tOp (rIxT K) (tVar 0) (tC (.int 2))) (tC (.int 0))) σ H1 (.ref s0) := fun e h => ev_ixt (v2 e h) ev_c (st_of (e _ _ hs)) rfl
    have r0 := Ex.refl H
    refine q_when (b := false) (et_is (et_or (et_not (et_B (ev_isi (ev_var rfl) (tx_t ha) ev_c (b := true) (by decide +kernel)))) fun _ => et_or (et_test (ev_op (ev_len_t (ev_var rfl) (st_of ha)) ev_c (rv_ne rfl))) fun _ => et_not (et_B (ev_isi (v0 r0 rfl) (tx_t hb') ev_c (b := true) (by decide +kernel)))) (by show (!true || (!decide (V.int ((3 : Nat) : Int) = V.int 3) || !true)) = false; decide +kernel)) (fun h => nomatch h) (fun _ H1 e1 => ?_)
    refine q_asg (ev_len_t (v0 e1 rfl) (st_of (e1 _ _ hb'))) fun H2 e2 => ?_
    have e12 := e1.trans e2
    have lb' : (xb.length : Int) = ((2 : Nat) : Int) := by rw [lb]
    rw [lb']
    refine q_when (b := false) (et_is (et_or (a := false) (et_is (et_not (a := true) (et_is (et_test (te := tChain (rI0 fun i j => .bl (decide (i ≤ j))) (rI0 fun i j => .bl (decide (i ≤ j))) (tC (.int 1)) (tVar 1) (tC (.int 3))) (ev_chain ev_c (ev_var rfl) ev_c (fun i j => decide (i ≤ j)))) (by decide))) rfl) fun _ =>
      et_or (a := false) (et_not (a := true) (et_B (ev_call (ea_two (v0 e12 rfl) (ev_var rfl)) fun H3 e3 Q3 k3 E3 => ⟨b, 2, rfl, (hb.ex e12).ex e3, k3⟩))) fun _ => et_not (a := true) (et_B (ev_call (ea_three (v1 e12 rfl) (ev_var rfl) (ev_var rfl)) fun H3 e3 Q3 k3 E3 => ⟨c, 2, 2, rfl, (hc.ex e12).ex e3, k3⟩))) (by rfl)) (fun h => nomatch h) (fun _ H3 e3 => ?_)
    have e13 := e12.trans e3
    refine q_when (b := false) (et_is (et_or (a := false) (et_not (a := true) (et_B (ev_isi (v2 e13 rfl) (tx_t (e13 _ _ hs)) ev_c (b := true) (by decide +kernel)))) fun _ => et_or (a := false) (et_is (et_test (ev_op (ev_len_t (v2 e13 rfl) (st_of (e13 _ _ hs))) (ev_var rfl) (rv_ne rfl))) (by show (!decide (V.int ((2 : Nat) : Int) = V.int ((2 : Nat) : Int))) = false; decide +kernel)) fun _ =>
      et_not (a := true) (et_B (ev_isi (v20 e13 rfl) (tx_t (e13 _ _ h0')) ev_c (b := true) (by decide +kernel)))) rfl) (fun h => nomatch h) (fun _ H4 e4 => ?_)
    have e14 := e13.trans e4
    have l0' : (x0.length : Int) = ((2 : Nat) : Int) := by rw [l0]
    have ln : Ev (tCB (fun xs H Q => ∃ x n, xs = [x] ∧ LenV K x H n ∧ Q (.int n) H) (tCons (tOp (rIxT K) (tOp (rIxT K) (tVar 0) (tC (.int 2))) (tC (.int 0))) tNil)) [some (.ref a), some (.int ((2 : Nat) : Int))] H4 (.int ((2 : Nat) : Int)) := by
      rw [← l0']
      exact ev_len_t (v20 e14 rfl) (st_of (e14 _ _ h0'))
    refine s_ret (ev_is (ev_andV (b := true) (ev_chain ev_c ln ev_c (fun i j => decide (i ≤ j))) fun _ => ev_call (ea_three (v2 e14 rfl) (ev_var rfl) ln) fun H5 e5 Q5 k5 E5 => ⟨sh, 2, 2, rfl, ⟨[s0, s1], e5 _ _ (e14 _ _ hs), rfl, by decide, fun r hr' => ?_⟩, k5⟩) (by decide)) fun H5 e5 => k H5 (e14.trans e5)
    simp at hr'
    rcases hr' with rfl | rfl
    · exact (h0.ex e14).ex e5
    · exact (h1.ex e14).ex e5
def spLN : Sp := fun vs H Q _ => ∃ a, vs = [.ref a] ∧ MdAt H a ∧ ∀ H', Ex H H' → Q (.int 2) H'
theorem ok_states_of (T : Tx K mg) : FnOk P w K mg base CX0 1 T.d_states_of.f T.d_states_of.fd ["model"] spLN := by
  refine T.d_states_of.F.ok sc_states_of (fun vs H Q E h => ?_) (fun cdv A outer s H vs Q E hr h => ?_)
  · obtain ⟨a, rfl, _⟩ := h
    rfl
  · obtain ⟨a, rfl, ⟨b, c, sh, s0, s1, ha, hb, hc, hs, h0, h1⟩, k⟩ := h
    refine ⟨_, (pss_one (ps_ret (pe_callB call_len (by rfl) T.z_len PySem.boot_len (pa_cons (pe_ix ix_tup (pv 0) pe_int (fun _ _ => rfl)) pa_nil)))), ?_⟩
    obtain ⟨xb, hb', lb⟩ := hb.tup
    exact s_ret (ev_is (ev_len_t (ev_ixt (ev_var rfl) ev_c (st_of ha) rfl) (st_of hb')) (by rw [lb]; rfl)) k
theorem ok_signs_of (T : Tx K mg) : FnOk P w K mg base CX0 1 T.d_signs_of.f T.d_signs_of.fd ["model"] spLN := by
  refine T.d_signs_of.F.ok sc_signs_of (fun vs H Q E h => ?_) (fun cdv A outer s H vs Q E hr h => ?_)
  · obtain ⟨a, rfl, _⟩ := h
    rfl
  · obtain ⟨a, rfl, ⟨b, c, sh, s0, s1, ha, hb, hc, hs, h0, h1⟩, k⟩ := h
    refine ⟨_, (pss_one (ps_ret (pe_callB call_len (by rfl) T.z_len PySem.boot_len (pa_cons (pe_ix ix_tup (pe_ix ix_tup (pv 0) pe_int (fun _ _ => rfl)) pe_int (fun _ _ => rfl)) pa_nil)))), ?_⟩
    obtain ⟨x0, h0', l0⟩ := h0.tup
    exact s_ret (ev_is (ev_len_t (ev_ixt (ev_ixt (ev_var rfl) ev_c (st_of ha) rfl) ev_c (st_of hs) rfl) (st_of h0')) (by rw [l0]; rfl)) k
def spCM : Sp := fun vs H Q _ => ∃ a, vs = [.ref a] ∧ MdAt H a ∧ ∀ H', Ex H H' → Q .non H'
theorem ok_check_model (T : Tx K mg) : FnOk P w K mg base CX0 5 T.d_check_model.f T.d_check_model.fd ["model"] spCM := by
  refine T.d_check_model.F.ok sc_check_model (fun vs H Q E h => ?_) (fun cdv A outer s H vs Q E hr h => ?_)
  · obtain ⟨a, rfl, _⟩ := h
    rfl
  · obtain ⟨a, rfl, ha, k⟩ := h
    refine ⟨_, (pss_one (ps_if (pt_not (pt_val (pe_call (ok_is_model T) (hr.mono (by decide)) rfl T.d_is_model.g T.d_is_model.F.kp T.d_is_model.b .nil pass0 (pa_cons (pv 0) pa_nil))))
  (pss_one ps_never)
  pss_nil)), ?_⟩
    exact s_when (b := false) (et_not (a := true) (et_B (ev_call (ea_one (ev_var rfl)) fun H1 e1 Q1 k1 E1 => ⟨a, rfl, ha.ex e1, k1⟩))) (fun h => nomatch h) fun _ => k
end
end WC

/-! ## Ke4 -/
/-! read_model, read_signs, read_row -/
namespace WC
open PySem PySem.Spec PyProof.Rows L2 Evl
theorem q_asgG {te : TE} {g : TG} {tz : TS} {D : Ends} {σ : L2.St} {H : Hp} (h : te σ H fun v H1 => g v σ H1 fun σ' H' => tz D σ' H') : tSeq (tAsg te g) tz D σ H := h
theorem m_in {C : Addr} {m : Str} {sp : Sp} {dvs : List V} {E : XK} {ta : TE} {t : TA} {σ : L2.St} {H : Hp} {Q : VK} (h : ta σ H fun x H1 => ∃ a dx fs, x = .ref a ∧ H1 a = some (.ins C dx fs) ∧ fs.lookup m = none ∧
  t σ H1 fun vs H2 => sp (x :: (vs ++ dvs)) H2 Q E) : tMeth C m sp dvs E ta t σ H Q := h
theorem r_in {te : TE} {D : Ends} {σ : L2.St} {H : Hp} (h : te σ H D.rt) : tRet te D σ H := h
theorem c_in {sp : Sp} {dvs : List V} {E : XK} {t : TA} {σ : L2.St} {H : Hp} {Q : VK} (h : t σ H fun vs H1 => sp (vs ++ dvs) H1 Q E) : tCall sp dvs E t σ H Q := h
theorem a_in {ta : TE} {tr : TA} {σ : L2.St} {H : Hp} {Q : List V → Hp → Prop} (h : ta σ H fun x H1 => tr σ H1 fun xs H2 => Q (x :: xs) H2) : tCons ta tr σ H Q := h
theorem t_in {t : TA} {σ : L2.St} {H : Hp} {Q : VK} (h : t σ H fun xs H1 => xs.length ≤ sizeLine ∧ ∀ p, H1 p = none → Q (.ref p) (upd H1 p (.tup xs))) : tTup t σ H Q := h
theorem run_ne_ahead : ∀ (l : List Tk) (s : S) (o : List Str), run false s l ≠ .ahead o := by
  intro l
  induction l with
  | nil => intro s o z; cases z
  | cons t r ih =>
    intro s o
    have hs : (t.isFin && false) = false := by simp
    cases hst : s.step t with
    | none =>
      rw [run_no hs hst]
      exact fun z => nomatch z
    | some o' =>
      cases o' with
      | none =>
        rw [run_done hs hst]
        exact fun z => nomatch z
      | some s' =>
        rw [run_some hs hst]
        exact ih s' o
def GiveR (Ct : Addr) (H : Hp) (Q : VK) (E : XK) : Out → Prop
  | .ahead _ => True
  | .bad c x => Rz Ct c x H E
  | .ok => (∀ v H', Ex H H' → Q v H') ∧ ∀ c x, NotExp x → Rz Ct c x H E
section
variable {P : Program} {w : World} {K : PySem.W.Frag} {mg : Str → Option Value} {base : Heap}
/-- an error of the parser, as it is wished of the reader -/
theorem fail_of {Ct Ca x : Addr} {H H3 : Hp} {Q : VK} {E : XK} {s : S} {l : List Tk} (e : Ex H H3) (hx : H x = none) (g : GiveR Ct H Q E (run false s l)) : Fail Ct Ca x H3 E (run false s l) := by
  cases hrun : run false s l with
  | ahead o => exact (run_ne_ahead _ _ _ hrun).elim
  | bad c y =>
    rw [hrun] at g
    exact fun H' d x' hd h1 => g H' d (fun b o' hb => x' b o' (ne_of_none hb hx) (e b o' hb)) (fresh_back e hd) h1
  | ok => trivial
def spRM (Ct : Addr) : Sp := fun vs H Q E => ∃ (z : Str) (R : Sc), vs = [.str z] ∧ Fit z ∧ Scans z.cps.toList 0 R ∧ (∀ c x, R = .error (c, x) → Rz Ct c x H E) ∧ (∀ l, R = .ok l → GiveR Ct H Q E (run false .s0 l))
theorem w_states : NotExp (Str.ofString "there are at most 3 states") := by decide +kernel
theorem ok_read_model (T : Tx K mg) : FnOk P w K mg base (L2.CX P w) 7 T.d_read_model.f T.d_read_model.fd ["text"] (spRM T.C_TextError) := by
  refine T.d_read_model.F.okX sc_read_model (fun vs H Q E h => ?_) (fun cdv A outer s H vs Q E hr h => ?_)
  · obtain ⟨z, R, rfl, _⟩ := h
    rfl
  · obtain ⟨z, R, rfl, hz, hR, he, k⟩ := h
    refine ⟨_, (pss_cons (ps_asg (pe_meth0 (pe_make T.mk_Parser (ok_Parser_init T) (hr.mono (by decide)) rfl T.g_Parser T.i_Parser.b .nil pass0 (pa_cons (pe_call (ok_scan T) (hr.mono (by decide)) rfl T.d_scan.g T.d_scan.F.kp T.d_scan.b .nil (passX (takes_of rfl rfl rfl rfl)) (pa_cons (pv 0) pa_nil)) (pa_cons pe_bl pa_nil))) T.cl_Parser T.m_model.M (ok_model T) (hr.mono (by decide)) T.m_model.b .nil (passX (takes_of rfl rfl rfl rfl))) (pg_tup (by rfl) (pgs_cons (pg_name (i := 1) sc_read_model.nd rfl (Or.inl rfl)) (pgs_cons (pg_name (i := 2) sc_read_model.nd rfl (Or.inl rfl)) (pgs_cons (pg_name (i := 3) sc_read_model.nd rfl (Or.inl rfl)) pgs_nil)))))
  (pss_cons (ps_set (i := 4) sc_read_model.nd rfl (Or.inl rfl) (pe_call (ok_costs_of T) (hr.mono (by decide)) rfl T.d_costs_of.g T.d_costs_of.F.kp T.d_costs_of.b .nil (passX (takes_of rfl rfl rfl rfl)) (pa_cons (pv 1) (pa_cons (pe_glob (v := .int 3) rfl T.g_MOST_STATES ⟨_, rfl⟩) (pa_cons pe_str pa_nil)))))
  (pss_one (ps_ret (pe_tup (pa_cons (pv 4) (pa_cons (pe_call (ok_change_of T) (hr.mono (by decide)) rfl T.d_change_of.g T.d_change_of.F.kp T.d_change_of.b .nil (passX (takes_of rfl rfl rfl rfl)) (pa_cons (pv 2) (pa_cons (pe_callB call_len (by rfl) T.z_len PySem.boot_len (pa_cons (pv 4) pa_nil)) pa_nil))) (pa_cons (pe_call (ok_show_of T) (hr.mono (by decide)) rfl T.d_show_of.g T.d_show_of.F.kp T.d_show_of.b .nil (passX (takes_of rfl rfl rfl rfl)) (pa_cons (pv 3) (pa_cons (pe_callB call_len (by rfl) T.z_len PySem.boot_len (pa_cons (pv 4) pa_nil)) pa_nil))) pa_nil)))))))), ?_⟩
    refine q_asgG (m_in ?_)
    refine rd_parser (C := T.C_Parser) (Ct := T.C_TextError) (σ := [some (.str z), none, none, none, none]) (ev_var (i := 0) rfl) hz hR he fun l x dx L qs H3 hl e3 hx z3 hw hll => ?_
    have g := k l hl
    refine ⟨x, dx, _, rfl, z3.ob, pf_no ne_model _ _ _, x, dx, L, qs, l, false, 0, rfl, z3, hw, hll, fail_of e3 hx g, fun hok q b c h H4 x4 h4 hb hc hh => ?_⟩
    rw [List.drop_zero] at hok
    rw [hok] at g
    obtain ⟨kv, ke⟩ := g
    have e4 : Ex H H4 := fun b o' hb => x4 b o' (ne_of_none hb hx) (e3 b o' hb)
    refine ⟨q, _, rfl, st_of h4, rfl, _, _, rfl, _, _, rfl, _, _, rfl, rfl, ?_⟩
    have kT : ∀ {H5 : Hp}, Ex H H5 → ∀ (c : Int) (x : Str), NotExp x → Rz T.C_TextError c x H5 E := fun e c x hx => (ke c x hx).mono e
    -- begin = costs_of(..)
    refine q_set (c_in ?_)
    refine (ea_three (ev_var (σ := [some (.str z), some (.ref b), some (.ref c), some (.ref h), none]) (i := 1) rfl) ev_c ev_c) H4 (Ex.refl H4) _ fun H5 e5 => ?_
    have e45 := e4.trans e5
    refine ⟨b, 3, _, rfl, hb.nums.mono (fun _ _ h => e5 _ _ h) (fun _ _ h => e5 _ _ h), w_states, fun bt xs H6 hbt e6 h6 hxl => ?_, fun c x hx => kT e45 c x hx⟩
    have e46 := e45.trans e6
    have e56 := e5.trans e6
    -- return (begin, change_of(..), show_of(..))
    refine r_in (t_in (a_in ⟨_, rfl, a_in (c_in ?_)⟩))
    refine (ea_two (ev_var (σ := [some (.str z), some (.ref b), some (.ref c), some (.ref h), some (.ref bt)]) (i := 2) rfl) (ev_len_t (ev_var (i := 4) rfl) (st_of h6))) H6 (Ex.refl H6) _ fun H7 e7 => ?_
    have e47 := e46.trans e7
    refine ⟨c, _, rfl, (hc.mono (fun _ _ h => e56 _ _ h) (fun _ _ h => e56 _ _ h)).mono (fun _ _ h => e7 _ _ h) (fun _ _ h => e7 _ _ h), fun ct ys H8 hct e8 h8 _ => ?_, fun c x hx => kT e47 c x hx⟩
    have e48 := e47.trans e8
    have e78 := e7.trans e8
    refine a_in (c_in ?_)
    refine (ea_two (ev_var (σ := [some (.str z), some (.ref b), some (.ref c), some (.ref h), some (.ref bt)]) (i := 3) rfl) (ev_len_t (ev_var (i := 4) rfl) (st_of (e78 _ _ h6)))) H8 (Ex.refl H8) _ fun H9 e9 => ?_
    have e49 := e48.trans e9
    refine ⟨h, _, rfl, ((hh.mono (fun _ _ h => e56 _ _ h) (fun _ _ h => e56 _ _ h)).mono (fun _ _ h => e78 _ _ h) (fun _ _ h => e78 _ _ h)).mono (fun _ _ h => e9 _ _ h) (fun _ _ h => e9 _ _ h), fun st zs Ha hst ea ha _ => ?_, fun c x hx => kT e49 c x hx⟩
    refine ⟨by simp; decide, fun p hp => kv _ _ ((e49.trans ea).trans (Ex.new hp))⟩
def spRS (Ct : Addr) : Sp := fun vs H Q E => ∃ (a : Addr) (z : Str) (R : Sc), vs = [.ref a, .str z] ∧ MdAt H a ∧ Fit z ∧ Scans z.cps.toList 0 R ∧ (∀ c x, R = .error (c, x) → Rz Ct c x H E) ∧ (∀ l, R = .ok l → GiveR Ct H Q E (run false .nums l))
theorem w_s1 : NotExp (Str.ofString "there are at most 20 signs") := by decide +kernel
theorem w_s2 : NotExp (Str.ofString "there are at most 20 states") := by decide +kernel
theorem ok_read_signs (T : Tx K mg) : FnOk P w K mg base (L2.CX P w) 6 T.d_read_signs.f T.d_read_signs.fd ["model", "text"] (spRS T.C_TextError) := by
  refine T.d_read_signs.F.okX sc_read_signs (fun vs H Q E h => ?_) (fun cdv A outer s H vs Q E hr h => ?_)
  · obtain ⟨a, z, R, rfl, _⟩ := h
    rfl
  · obtain ⟨a, z, R, rfl, hm, hz, hR, he, k⟩ := h
    refine ⟨_, (pss_cons (ps_expr (pe_call (ok_check_model T) (hr.mono (by decide)) rfl T.d_check_model.g T.d_check_model.F.kp T.d_check_model.b .nil pass0 (pa_cons (pv 0) pa_nil)))
  (pss_cons (ps_set (i := 2) sc_read_signs.nd rfl (Or.inl rfl) (pe_meth0 (pe_make T.mk_Parser (ok_Parser_init T) (hr.mono (by decide)) rfl T.g_Parser T.i_Parser.b .nil pass0 (pa_cons (pe_call (ok_scan T) (hr.mono (by decide)) rfl T.d_scan.g T.d_scan.F.kp T.d_scan.b .nil (passX (takes_of rfl rfl rfl rfl)) (pa_cons (pv 1) pa_nil)) (pa_cons pe_bl pa_nil))) T.cl_Parser T.m_numbers.M (ok_numbers T) (hr.mono (by decide)) T.m_numbers.b .nil (passX (takes_of rfl rfl rfl rfl))))
  (pss_one (ps_ret (pe_call (ok_numbers_of T) (hr.mono (by decide)) rfl T.d_numbers_of.g T.d_numbers_of.F.kp T.d_numbers_of.b .nil (passX (takes_of rfl rfl rfl rfl)) (pa_cons (pv 2) (pa_cons (pe_call (ok_signs_of T) (hr.mono (by decide)) rfl T.d_signs_of.g T.d_signs_of.F.kp T.d_signs_of.b .nil pass0 (pa_cons (pv 0) pa_nil)) (pa_cons pe_str (pa_cons pe_str pa_nil))))))))), ?_⟩
    refine q_drop (ev_call (ea_one (ev_var rfl)) fun H1 e1 Q2 k2 E2 => ⟨a, rfl, hm.ex e1, k2⟩) fun H1 e1 => ?_
    refine q_set (m_in ?_)
    refine rd_parser (C := T.C_Parser) (Ct := T.C_TextError) (σ := [some (.ref a), some (.str z), none]) (ev_var (i := 1) rfl) hz hR (fun c x hc => (he c x hc).mono e1) fun l x dx L qs H3 hl e3 hx z3 hw hll => ?_
    have g := k l hl
    have e13 := e1.trans e3
    have hx0 : H x = none := fresh_back e1 hx
    refine ⟨x, dx, _, rfl, z3.ob, pf_no ne_numbers _ _ _, x, dx, L, qs, l, false, 0, rfl, z3, hw, hll, fail_of e13 hx0 g, fun hok q H4 x4 hq => ?_⟩
    rw [List.drop_zero] at hok
    rw [hok] at g
    obtain ⟨kv, ke⟩ := g
    have e4 : Ex H H4 := fun b o' hb => x4 b o' (ne_of_none hb hx0) (e13 b o' hb)
    have arg : EvA (tCons (tVar 2) (tCons (tCall spLN [] E0 (tCons (tVar 0) tNil)) (tCons (tC (.str (Str.ofString "there are at most 20 signs"))) (tCons (tC (.str (Str.ofString "there is no such sign"))) tNil)))) [some (.ref a), some (.str z), some (.ref q)] H4 [.ref q, .int 2, .str (Str.ofString "there are at most 20 signs"), .str (Str.ofString "there is no such sign")] :=
      ea_cons (ev_var rfl) (ea_cons (ev_call (ea_one (ev_var rfl)) fun H5 e5 Q5 k5 E5 => ⟨a, rfl, (hm.ex e4).ex e5, k5⟩) (ea_two ev_c ev_c))
    refine r_in (c_in (arg H4 (Ex.refl H4) _ fun H5 e5 => ?_))
    exact ⟨q, 2, _, _, rfl, hq.mono (fun _ _ h => e5 _ _ h) (fun _ _ h => e5 _ _ h), w_s1, w_sign, fun p xs H6 hp e6 h6 _ => kv _ _ ((e4.trans e5).trans e6), fun c x hx => (ke c x hx).mono (e4.trans e5)⟩
theorem ok_read_row (T : Tx K mg) : FnOk P w K mg base (L2.CX P w) 6 T.d_read_row.f T.d_read_row.fd ["model", "text"] (spRS T.C_TextError) := by
  refine T.d_read_row.F.okX sc_read_row (fun vs H Q E h => ?_) (fun cdv A outer s H vs Q E hr h => ?_)
  · obtain ⟨a, z, R, rfl, _⟩ := h
    rfl
  · obtain ⟨a, z, R, rfl, hm, hz, hR, he, k⟩ := h
    refine ⟨_, (pss_cons (ps_expr (pe_call (ok_check_model T) (hr.mono (by decide)) rfl T.d_check_model.g T.d_check_model.F.kp T.d_check_model.b .nil pass0 (pa_cons (pv 0) pa_nil)))
  (pss_cons (ps_set (i := 2) sc_read_row.nd rfl (Or.inl rfl) (pe_meth0 (pe_make T.mk_Parser (ok_Parser_init T) (hr.mono (by decide)) rfl T.g_Parser T.i_Parser.b .nil pass0 (pa_cons (pe_call (ok_scan T) (hr.mono (by decide)) rfl T.d_scan.g T.d_scan.F.kp T.d_scan.b .nil (passX (takes_of rfl rfl rfl rfl)) (pa_cons (pv 1) pa_nil)) (pa_cons pe_bl pa_nil))) T.cl_Parser T.m_numbers.M (ok_numbers T) (hr.mono (by decide)) T.m_numbers.b .nil (passX (takes_of rfl rfl rfl rfl))))
  (pss_one (ps_ret (pe_call (ok_numbers_of T) (hr.mono (by decide)) rfl T.d_numbers_of.g T.d_numbers_of.F.kp T.d_numbers_of.b .nil (passX (takes_of rfl rfl rfl rfl)) (pa_cons (pv 2) (pa_cons (pe_call (ok_states_of T) (hr.mono (by decide)) rfl T.d_states_of.g T.d_states_of.F.kp T.d_states_of.b .nil pass0 (pa_cons (pv 0) pa_nil)) (pa_cons pe_str (pa_cons pe_str pa_nil))))))))), ?_⟩
    refine q_drop (ev_call (ea_one (ev_var rfl)) fun H1 e1 Q2 k2 E2 => ⟨a, rfl, hm.ex e1, k2⟩) fun H1 e1 => ?_
    refine q_set (m_in ?_)
    refine rd_parser (C := T.C_Parser) (Ct := T.C_TextError) (σ := [some (.ref a), some (.str z), none]) (ev_var (i := 1) rfl) hz hR (fun c x hc => (he c x hc).mono e1) fun l x dx L qs H3 hl e3 hx z3 hw hll => ?_
    have g := k l hl
    have e13 := e1.trans e3
    have hx0 : H x = none := fresh_back e1 hx
    refine ⟨x, dx, _, rfl, z3.ob, pf_no ne_numbers _ _ _, x, dx, L, qs, l, false, 0, rfl, z3, hw, hll, fail_of e13 hx0 g, fun hok q H4 x4 hq => ?_⟩
    rw [List.drop_zero] at hok
    rw [hok] at g
    obtain ⟨kv, ke⟩ := g
    have e4 : Ex H H4 := fun b o' hb => x4 b o' (ne_of_none hb hx0) (e13 b o' hb)
    have arg : EvA (tCons (tVar 2) (tCons (tCall spLN [] E0 (tCons (tVar 0) tNil)) (tCons (tC (.str (Str.ofString "there are at most 20 states"))) (tCons (tC (.str (Str.ofString "there is no such state"))) tNil)))) [some (.ref a), some (.str z), some (.ref q)] H4 [.ref q, .int 2, .str (Str.ofString "there are at most 20 states"), .str (Str.ofString "there is no such state")] :=
      ea_cons (ev_var rfl) (ea_cons (ev_call (ea_one (ev_var rfl)) fun H5 e5 Q5 k5 E5 => ⟨a, rfl, (hm.ex e4).ex e5, k5⟩) (ea_two ev_c ev_c))
    refine r_in (c_in (arg H4 (Ex.refl H4) _ fun H5 e5 => ?_))
    exact ⟨q, 2, _, _, rfl, hq.mono (fun _ _ h => e5 _ _ h) (fun _ _ h => e5 _ _ h), w_s2, w_state, fun p xs H6 hp e6 h6 _ => kv _ _ ((e4.trans e5).trans e6), fun c x hx => (ke c x hx).mono (e4.trans e5)⟩
end
end WC

/-! ## Kf1 -/
/-! the law's stream of digits -/
namespace WC
open PySem PySem.Spec PyProof.Rows L2 Evl
def Strm (H : Hp) (z L : Addr) : Prop := ∃ (c k : Int) (ns : List Int), H z = some (.lst [.ref L, .int c, .int k]) ∧ H L = some (.lst (ns.map V.int)) ∧ 0 ≤ c ∧ 0 ≤ k
theorem Strm.ex {H H' : Hp} {z L : Addr} (h : Strm H z L) (e : Ex H H') : Strm H' z L := by
  obtain ⟨c, k, ns, h1, h2, h3⟩ := h
  exact ⟨c, k, ns, e _ _ h1, e _ _ h2, h3⟩
theorem Strm.lz {H : Hp} {z L : Addr} (h : Strm H z L) : L ≠ z := by
  obtain ⟨c, k, ns, h1, h2, _⟩ := h
  intro e
  rw [e, h1] at h2
  have := Option.some.inj h2
  injection this with this
  cases ns <;> simp at this
theorem Strm.sc {H : Hp} {z L : Addr} (h : Strm H z L) : ∃ ns : List Int, H L = some (.lst (ns.map V.int)) := by
  obtain ⟨c, k, ns, h1, h2, _⟩ := h
  exact ⟨ns, h2⟩
theorem Strm.ne {H : Hp} {z L p : Addr} (h : Strm H z L) (hp : H p = none) : p ≠ z := by
  obtain ⟨c, k, ns, h1, _⟩ := h
  exact fun e => by rw [e, h1] at hp; cases hp
section
variable {K : PySem.W.Frag} {σ : L2.St} {H H' : Hp} {ta tb te tk tv : TE} {x y z v : V}
theorem ev_int1 {i : Int} (h : Ev ta σ H (.int i)) : Ev (tCB (fun xs H Q => (∃ i, xs = [V.int i] ∧ Q (.int i) H) ∨ ∃ k, xs = [V.bl k] ∧ Q (.int (if k then 1 else 0)) H) (tCons ta tNil)) σ H (.int i) := fun H1 e _ q => h H1 e _ fun H2 e2 => .inl ⟨i, rfl, q H2 e2⟩
theorem ev_intb {b : Bool} (h : Ev ta σ H (.bl b)) : Ev (tCB (fun xs H Q => (∃ i, xs = [V.int i] ∧ Q (.int i) H) ∨ ∃ k, xs = [V.bl k] ∧ Q (.int (if k then 1 else 0)) H) (tCons ta tNil)) σ H (.int (if b then 1 else 0)) := fun H1 e _ q => h H1 e _ fun H2 e2 => .inr ⟨b, rfl, q H2 e2⟩
theorem ev_abs {i : Int} (h : Ev ta σ H (.int i)) : Ev (tCB (fun xs H Q => ∃ i, xs = [V.int i] ∧ Q (.int (if i < 0 then -i else i)) H) (tCons ta tNil)) σ H (.int (if i < 0 then -i else i)) := fun H1 e _ q => h H1 e _ fun H2 e2 => ⟨i, rfl, q H2 e2⟩
theorem i1 : ((1 : Nat) : Int) = 1 := rfl
end
section
variable {P : Program} {w : World} {K : PySem.W.Frag} {mg : Str → Option Value} {base : Heap}
def spST (K : PySem.W.Frag) : Sp := fun vs H Q _ => ∃ (a : Addr) (ns : List Int), vs = [.ref a] ∧ SqL K H a (ns.map V.int) ∧ ∀ z L H', H z = none → Ex H H' → Strm H' z L → Q (.ref z) H'
theorem ok__law_stream (T : Tx K mg) : FnOk P w K mg base CX0 1 T.d__law_stream.f T.d__law_stream.fd ["_law_script"] (spST K) := by
  refine T.d__law_stream.F.ok sc__law_stream (fun vs H Q E h => ?_) (fun cdv A outer s H vs Q E hr h => ?_)
  · obtain ⟨a, ns, rfl, _⟩ := h
    rfl
  · obtain ⟨a, ns, rfl, hS, k⟩ := h
    refine ⟨_, (pss_one (ps_ret (pe_lst (pa_cons (pe_callTy call_list_of (by rfl) T.z_list (by decide +kernel) (pa_cons (pv 0) pa_nil)) (pa_cons pe_int (pa_cons pe_int pa_nil)))))), ?_⟩
    refine ⟨_, rfl, a, _, rfl, .inl hS, fun L hL => ⟨by simp; decide, fun z hz => ?_⟩⟩
    have hzH : H z = none := fresh_back (Ex.new hL) hz
    exact k z L _ hzH ((Ex.new hL).trans (Ex.new hz)) ⟨0, 0, ns, upd_same, by rw [upd_ne (fun e => by rw [← e, upd_same] at hz; cases hz)]; exact upd_same, by decide, by decide⟩
def spNX : Sp := fun vs H Q _ => ∃ (z L : Addr) (n : Int), vs = [.ref z, .int n] ∧ Strm H z L ∧ 0 < n ∧ n < 1073741824 ∧ ∀ d H', 0 ≤ d → d < n → XB z H H' → Strm H' z L → Q (.int d) H'
theorem ok__law_next (T : Tx K mg) : FnOk P w K mg base CX0 1 T.d__law_next.f T.d__law_next.fd ["_law_stream_here", "_law_many"] spNX := by
  refine T.d__law_next.F.ok sc__law_next (fun vs H Q E h => ?_) (fun cdv A outer s H vs Q E hr h => ?_)
  · obtain ⟨z, L, n, rfl, _⟩ := h
    rfl
  · obtain ⟨z, L, n, rfl, ⟨c, k, ns, hz, hL, hc, hk⟩, h0, h1, kq⟩ := h
    refine ⟨_, (pss_cut (ps_if (pt_cmpR op_eq (pe_ix ix_list (pv 0) pe_int (fun _ _ => rfl)) pe_int (nomark _))
  (pss_cons (ps_set (i := 2) sc__law_next.nd rfl (Or.inl rfl) (pe_ix ix_list (pv 0) pe_int (fun _ _ => rfl)))
  (pss_cons (ps_set (i := 3) sc__law_next.nd rfl (Or.inl rfl) (pe_op op_add pe_int (pv 2)))
  (pss_cons (ps_if (pt_cmpR op_lt (pv 2) (pe_callB call_len (by rfl) T.z_len PySem.boot_len (pa_cons (pe_ix ix_list (pv 0) pe_int (fun _ _ => rfl)) pa_nil)) (nomark _))
  (pss_one (ps_set (i := 3) sc__law_next.nd rfl (Or.inl rfl) (pe_callB call_abs (by rfl) T.z_abs (by decide +kernel) (pa_cons (pe_ix ix_list (pe_ix ix_list (pv 0) pe_int (fun _ _ => rfl)) (pv 2) (fun _ _ => rfl)) pa_nil))))
  pss_nil)
  (pss_cut (ps_if (pt_cmpR op_lt (pv 3) (pe_op op_pow pe_int pe_int) (nomark _))
  (pss_cons (ps_set (i := 3) sc__law_next.nd rfl (Or.inl rfl) (pe_op op_mod (pe_callTy call_int1 (by rfl) T.z_int (by decide +kernel) (pa_cons (pe_op op_add (pe_op op_add (pe_op op_mul (pv 3) pe_int) (pe_op op_mul (pv 2) pe_int)) pe_int) pa_nil)) pe_int))
  (pss_one (ps_set (i := 3) sc__law_next.nd rfl (Or.inl rfl) (pe_op op_add (pe_op op_mul (pe_op op_mod (pe_callTy call_int1 (by rfl) T.z_int (by decide +kernel) (pa_cons (pe_op op_add (pe_op op_mul (pv 3) pe_int) pe_int) pa_nil)) pe_int) pe_int) (pv 3)))))
  pss_nil)
  (pss_cons (ps_asg (pv 3) (pg_sub (pv 0) pe_int set_list))
  (pss_one (ps_asg (pe_op op_add (pv 2) pe_int) (pg_sub (pv 0) pe_int set_list))))))))
  pss_nil)
  (pss_cons (ps_set (i := 4) sc__law_next.nd rfl (Or.inl rfl) (pe_op op_mod (pe_callTy call_int1 (by rfl) T.z_int (by decide +kernel) (pa_cons (pe_ix ix_list (pv 0) pe_int (fun _ _ => rfl)) pa_nil)) (pv 1)))
  (pss_cons (ps_asg (pe_op op_fdiv (pe_ix ix_list (pv 0) pe_int (fun _ _ => rfl)) (pv 1)) (pg_sub (pv 0) pe_int set_list))
  (pss_one (ps_ret (pv 4)))))), ?_⟩
    have nLz : L ≠ z := fun e => by
      rw [e, hz] at hL
      have := Option.some.inj hL
      injection this with this
      cases ns <;> simp at this
    refine ⟨fun σ' H' => ∃ v2 v3, σ' = [some (.ref z), some (.int n), v2, v3, none] ∧ XB z H H' ∧ Strm H' z L, ?_, ?_⟩
    · refine s_when (et_test (ev_op (ev_ixl (v := .int c) (ev_var rfl) ev_c (sq_of hz) rfl) ev_c (rv_eq rfl))) (fun _ H1 e1 => ?_) (fun _ H1 e1 => ⟨none, none, rfl, xb_of e1, ⟨c, k, ns, e1 _ _ hz, e1 _ _ hL, hc, hk⟩⟩)
      refine q_asg (ev_ixl (v := .int k) (ev_var rfl) ev_c (sq_of (e1 _ _ hz)) rfl) fun H2 e2 => ?_
      refine q_asg (ev_op ev_c (ev_var rfl) rv_I0) fun H3 e3 => ?_
      have e13 := (e1.trans e2).trans e3
      have lt : EvT (tTest (tOp (rI0 fun i j => .bl (decide (i < j))) (tVar 2) (tCB (fun xs H Q => ∃ x n, xs = [x] ∧ LenV K x H n ∧ Q (.int n) H) (tCons (tOp (rIxL K) (tVar 0) (tC (.int 0))) tNil)))) [some (.ref z), some (.int n), some (.int k), some (.int (7 + k)), none] H3 (decide (k < (ns.length : Int))) :=
        et_is (et_test (ev_op (ev_var rfl) (ev_len_l (xs := ns.map V.int) (ev_ixl (v := .ref L) (ev_var rfl) ev_c (sq_of (e13 _ _ hz)) rfl) (sq_of (e13 _ _ hL))) rv_I0)) (by simp)
      obtain ⟨cell, hcell, hv1, hv2⟩ : ∃ cell : Int, 0 ≤ cell ∧ (decide (k < (ns.length : Int)) = true → Ev (tCB (fun xs H Q => ∃ i, xs = [V.int i] ∧ Q (.int (if i < 0 then -i else i)) H) (tCons (tOp (rIxL K) (tOp (rIxL K) (tVar 0) (tC (.int 0))) (tVar 2)) tNil)) [some (.ref z), some (.int n), some (.int k), some (.int (7 + k)), none] H3 (.int cell)) ∧
          (decide (k < (ns.length : Int)) = false → cell = 7 + k) := by
        by_cases hlt : k < (ns.length : Int)
        · obtain ⟨kn, rfl⟩ : ∃ kn : Nat, k = (kn : Int) := ⟨k.toNat, by omega⟩
          have hkn : kn < ns.length := by omega
          refine ⟨if ns[kn] < 0 then -ns[kn] else ns[kn], by split <;> omega, fun _ => ev_abs (ev_ixl (ev_ixl (v := .ref L) (ev_var rfl) ev_c (sq_of (e13 _ _ hz)) rfl) (ev_var rfl) (sq_of (e13 _ _ hL)) (atI_nat ?_)), fun h => absurd hlt (of_decide_eq_false h)⟩
          rw [List.getElem?_map]
          simp [hkn]
        · exact ⟨7 + k, by omega, fun h => absurd (of_decide_eq_true h) hlt, fun _ => rfl⟩
      refine q_ifAsg lt hv1 (fun h => by rw [hv2 h]; rfl) fun H4 e4 => ?_
      have e14 := e13.trans e4
      refine ⟨fun σ' H' => ∃ cell : Int, 0 ≤ cell ∧ σ' = [some (.ref z), some (.int n), some (.int k), some (.int cell), none] ∧ Ex H H', ?_, ?_⟩
      · refine s_when (et_test (ev_op (ev_var rfl) (ev_op ev_c ev_c (rv_I (C := CPow) ⟨by decide, by decide, by decide⟩)) rv_I0)) (fun _ H5 e5 => ?_) (fun _ H5 e5 => ⟨cell, hcell, rfl, e14.trans e5⟩)
        refine q_asg (ev_op (ev_int1 (ev_op (ev_op (ev_op (ev_var rfl) ev_c (rv_I (C := CMul) (.inr ⟨by decide, by decide⟩))) (ev_op (ev_var rfl) ev_c (rv_I (C := CMul) (.inr ⟨by decide, by decide⟩))) rv_I0) ev_c rv_I0)) ev_c (rv_I (C := fun _ j => 0 < j) (by decide))) fun H6 e6 => ?_
        refine s_asg (ev_op (ev_op (ev_op (ev_int1 (ev_op (ev_op (ev_var rfl) ev_c (rv_I (C := CMul) (.inr ⟨by decide, by decide⟩))) ev_c rv_I0)) ev_c (rv_I (C := fun _ j => 0 < j) (by decide))) ev_c (rv_I (C := CMul) (.inr ⟨by decide, by decide⟩))) (ev_var rfl) rv_I0) fun H7 e7 => ?_
        refine ⟨_, ?_, rfl, ((e14.trans e5).trans e6).trans e7⟩
        have g1 : 0 ≤ (cell * 48271 + k * 69621 + 11) % 2147483647 := Int.emod_nonneg _ (by decide)
        have g2 : 0 ≤ ((cell * 48271 + k * 69621 + 11) % 2147483647 * 16807 + 13) % 2147483647 := Int.emod_nonneg _ (by decide)
        show 0 ≤ ((cell * 48271 + k * 69621 + 11) % 2147483647 * 16807 + 13) % 2147483647 * 65537 + (cell * 48271 + k * 69621 + 11) % 2147483647
        omega
      · rintro σ' H' ⟨cell', hc', rfl, e5⟩
        refine q_setL (l := z) (j := 1) (e5 _ _ hz) (ev_var rfl) (ev_var rfl) ev_c (by simp) fun H6 e6 => ?_
        have nzn : ∀ {Hx : Hp} {o : HO}, Ex H Hx → upd Hx z o L = some (.lst (ns.map V.int)) := fun ex => by rw [upd_ne nLz]; exact ex _ _ hL
        refine s_setL (l := z) (j := 2) upd_same (ev_op (ev_var rfl) ev_c rv_I0) (ev_var rfl) ev_c (by simp) fun H7 e7 => ?_
        refine ⟨_, _, rfl, fun b o nb hb => ?_, ⟨cell', k + 1, ns, upd_same, ?_, hc', by omega⟩⟩
        · rw [upd_ne nb]
          refine e7 _ _ ?_
          rw [upd_ne nb]
          exact e6 _ _ (e5 _ _ hb)
        · rw [upd_ne nLz]
          exact e7 _ _ (nzn (e5.trans e6))
    · rintro σ' H' ⟨v2, v3, rfl, xb, ⟨c', k', ns', hz', hL', hc', hk'⟩⟩
      have nLz' : L ≠ z := fun e => by
        rw [e, hz'] at hL'
        have := Option.some.inj hL'
        injection this with this
        cases ns' <;> simp at this
      refine q_asg (ev_op (ev_int1 (ev_ixl (v := .int c') (ev_var rfl) ev_c (sq_of hz') rfl)) (ev_var rfl) (rv_I (C := fun _ j => 0 < j) h0)) fun H1 e1 => ?_
      refine q_setL (l := z) (j := 1) (e1 _ _ hz') (ev_op (ev_ixl (v := .int c') (ev_var rfl) ev_c (sq_of (e1 _ _ hz')) rfl) (ev_var rfl) (rv_I (C := CDiv) ⟨h0, h1⟩)) (ev_var rfl) ev_c (by simp) fun H2 e2 => ?_
      refine s_ret (ev_var rfl) fun H3 e3 => ?_
      refine kq _ H3 (Int.emod_nonneg _ (by omega)) (Int.emod_lt_of_pos _ h0) (fun b o nb hb => e3 _ _ ?_) ⟨c' / n, k', ns', e3 _ _ upd_same, e3 _ _ ?_, Int.ediv_nonneg hc' (by omega), hk'⟩
      · rw [upd_ne nb]
        exact e2 _ _ (e1 _ _ (xb b o nb hb))
      · rw [upd_ne nLz']
        exact e2 _ _ (e1 _ _ hL')
/-- one of the rows -/
def spPK : Sp := fun vs H Q _ => ∃ (z L a : Addr) (xs : List V), vs = [.ref z, .ref a] ∧ Strm H z L ∧ H a = some (.lst xs) ∧ a ≠ z ∧ xs ≠ [] ∧ xs.length ≤ 1000 ∧ ∀ (i : Nat) v H', xs[i]? = some v → XB z H H' → Strm H' z L → Q v H'
theorem ok__law_pick (T : Tx K mg) : FnOk P w K mg base CX0 2 T.d__law_pick.f T.d__law_pick.fd ["_law_stream_here", "_law_rows"] spPK := by
  refine T.d__law_pick.F.ok sc__law_pick (fun vs H Q E h => ?_) (fun cdv A outer s H vs Q E hr h => ?_)
  · obtain ⟨z, L, a, xs, rfl, _⟩ := h
    rfl
  · obtain ⟨z, L, a, xs, rfl, hs, ha, naz, hne, hl, k⟩ := h
    refine ⟨_, (pss_one (ps_ret (pe_ix ix_list (pv 1) (pe_call (ok__law_next T) (hr.mono (by decide)) rfl T.d__law_next.g T.d__law_next.F.kp T.d__law_next.b .nil pass0 (pa_cons (pv 0) (pa_cons (pe_callB call_len (by rfl) T.z_len PySem.boot_len (pa_cons (pv 1) pa_nil)) pa_nil))) (fun _ _ => rfl)))), ?_⟩
    refine r_in ⟨_, rfl, ?_⟩
    have hpos : 0 < xs.length := List.length_pos_iff.mpr hne
    refine (ea_two (ev_var (σ := [some (.ref z), some (.ref a)]) (i := 0) rfl) (ev_len_l (ev_var (i := 1) rfl) (sq_of ha))) H (Ex.refl H) _ fun H1 e1 => ?_
    refine ⟨z, L, _, rfl, hs.ex e1, by omega, by omega, fun d H2 hd0 hd1 x2 hs2 => ?_⟩
    obtain ⟨dn, rfl⟩ : ∃ dn : Nat, d = (dn : Int) := ⟨d.toNat, by omega⟩
    have hdn : dn < xs.length := by omega
    have hx : xs[dn]? = some xs[dn] := by simp [hdn]
    exact ⟨a, xs, _, _, rfl, rfl, sq_of (x2 _ _ naz (e1 _ _ ha)), atI_nat hx, k dn _ H2 hx ((xb_of e1).trans x2) hs2⟩
end
end WC

/-! ## Kf2 -/
/-! the law's table and what it lists -/
namespace WC
open PySem PySem.Spec PyProof.Rows L2 Evl
def kindsL : List Str := ["number", "|", ",", "end"]
def shownL : List Str := ["a number", "\"|\"", "\",\"", "the end"]
/-- the table's row of a state -/
def rowKV : S → List (Key × V)
  | .s0 => [(.inr "number", .str "begin")]
  | .begin => [(.inr "number", .str "begin"), (.inr "|", .str "change")]
  | .change => [(.inr "number", .str "row")]
  | .row => [(.inr "number", .str "row"), (.inr ",", .str "change"), (.inr "|", .str "show")]
  | .shw => [(.inr "number", .str "last")]
  | .last => [(.inr "number", .str "last"), (.inr ",", .str "show"), (.inr "end", .str "z")]
  | .nums => [(.inr "number", .str ""), (.inr "end", .str "z")]
/-- the states of a kind -/
def InM (m : Bool) (s : S) : Prop := (s ≠ .nums) ↔ m = true
def hasK (s : S) (i : Nat) : Bool := (valV (rowKV s) (.inr (kindsL.getD i ""))).isSome
theorem due_eq (s : S) : given 4 (hasK s) (fun i => V.str (shownL.getD i "")) = (inOrder s.opts).map V.str := by
  cases s <;> decide +kernel
section
variable {K : PySem.W.Frag} {σ : L2.St} {H H' : Hp} {ta tb te tk tv tx : TE} {x y z v : V}
theorem EvD.mono (e : Ex H H') {kvs : List (Key × V)} (h : EvD te σ H kvs) : EvD te σ H' kvs := fun H1 a Q q => h H1 (e.trans a) Q q
theorem ev_dget2 {kvs : List (Key × V)} {k : Key} (h : EvD ta σ H kvs) (hi : ∀ H1, Ex H H1 → Ev tb σ H1 (kV k)) (hx : ∀ H1, Ex H H1 → Ev tx σ H1 x) : Ev (tDGet2 ta tb tx) σ H ((valV kvs k).getD x) :=
  fun H1 e _ q => h H1 e _ fun p H2 hp e2 h2 => ⟨p, rfl, .inl ⟨kvs, .inl h2⟩, hi H2 (e.trans e2) H2 (Ex.refl H2) _ fun H3 e3 => hx H3 ((e.trans e2).trans e3) H3 (Ex.refl H3) _ fun H4 e4 =>
    ⟨_, DGet.k ((e3.trans e4) _ _ h2), q H4 ((e2.trans e3).trans e4)⟩⟩
/-- new dicts under keys -/
inductive DAll (H : Hp) : List (Key × List (Key × V)) → List (Key × V) → Prop
  | nil : DAll H [] []
  | cons {k : Key} {a : Addr} {d : List (Key × V)} {ss : List (Key × List (Key × V))} {kvs : List (Key × V)} (h : H a = some (.dK d)) (r : DAll H ss kvs) : DAll H ((k, d) :: ss) ((k, .ref a) :: kvs)
theorem DAll.ex (e : Ex H H') : ∀ {ss : List (Key × List (Key × V))} {kvs : List (Key × V)}, DAll H ss kvs → DAll H' ss kvs
  | _, _, .nil => .nil
  | _, _, .cons h r => .cons (e _ _ h) (r.ex e)
theorem DAll.len : ∀ {ss : List (Key × List (Key × V))} {kvs : List (Key × V)}, DAll H ss kvs → kvs.length = ss.length
  | _, _, .nil => rfl
  | _, _, .cons _ r => congrArg (· + 1) r.len
def EvPd (trs : List (TE × TE)) (σ : L2.St) (H : Hp) (ss : List (Key × List (Key × V))) : Prop :=
  ∀ H1, Ex H H1 → ∀ Q : List (V × V) → Hp → Prop, (∀ kvs H2, Ex H1 H2 → DAll H2 ss kvs → Q (kvs.map fun kv => (kV kv.1, kv.2)) H2) → tPairs trs σ H1 Q
theorem epd_nil : EvPd [] σ H [] := fun H1 _ _ q => q [] H1 (Ex.refl H1) .nil
theorem epd_cons {trs : List (TE × TE)} {k : Key} {d : List (Key × V)} {ss : List (Key × List (Key × V))} (hk : Ev tk σ H (kV k)) (hv : EvD tv σ H d) (r : EvPd trs σ H ss) : EvPd ((tk, tv) :: trs) σ H ((k, d) :: ss) := fun H1 e Q q =>
  hk H1 e _ fun H2 e2 => hv H2 (e.trans e2) _ fun a H3 _ e3 h3 => r H3 ((e.trans e2).trans e3) _ fun kvs H4 e4 h4 => q _ H4 ((e2.trans e3).trans e4) (.cons (e4 _ _ h3) h4)
theorem DAll.put {p : Addr} {o : HO} (hp : H p = some (.dK [])) {ss : List (Key × List (Key × V))} {kvs : List (Key × V)} (hn : ∀ x ∈ ss, x.2 ≠ []) (hd : DAll H ss kvs) : DAll (upd H p o) ss kvs := by
  induction hd with
  | nil => exact .nil
  | @cons k a d ss kvs h r ih =>
    refine .cons ?_ (ih fun x hx => hn x (List.mem_cons_of_mem _ hx))
    have ne : a ≠ p := ne_of h hp fun z => by
      injection z with z
      exact hn _ List.mem_cons_self z
    rw [upd_ne ne]
    exact h
theorem ed2_disp {trs : List (TE × TE)} {ss : List (Key × List (Key × V))} (h : EvPd trs σ H ss) (hl : ss.length ≤ 15) (hn : ∀ x ∈ ss, x.2 ≠ []) {Q : VK} (q : ∀ p kvs H2, H p = none → Ex H H2 → DAll H2 ss kvs → H2 p = some (.dK (mergeK [] kvs)) → Q (.ref p) H2) : tDisp trs σ H Q := fun p hp =>
  h (upd H p (.dK [])) (Ex.new hp) _ fun kvs H2 e2 h2 => ⟨e2 p _ upd_same, kvs, rfl, by rw [h2.len]; exact hl, q p kvs _ hp (Ex.mut ((Ex.new hp).trans e2) hp) (h2.put (e2 p _ upd_same) hn) upd_same⟩
end
/-- the table -/
def TblAt (H : Hp) (a : Addr) (m : Bool) : Prop := ∃ kvs, H a = some (.dK kvs) ∧ ∀ s, InM m s → ∃ r, valV kvs (.inr s.name) = some (.ref r) ∧ H r = some (.dK (rowKV s))
theorem TblAt.ex {H H' : Hp} {a : Addr} {m : Bool} (h : TblAt H a m) (e : Ex H H') : TblAt H' a m := by
  obtain ⟨kvs, h1, h2⟩ := h
  refine ⟨kvs, e _ _ h1, fun s hs => ?_⟩
  obtain ⟨r, h3, h4⟩ := h2 s hs
  exact ⟨r, h3, e _ _ h4⟩
section
variable {P : Program} {w : World} {K : PySem.W.Frag} {mg : Str → Option Value} {base : Heap}
def spKD : Sp := fun vs H Q _ => vs = [] ∧ ∀ p H', H p = none → Ex H H' → H' p = some (.lst (kindsL.map V.str)) → Q (.ref p) H'
theorem ok__law_kinds (T : Tx K mg) : FnOk P w K mg base CX0 1 T.d__law_kinds.f T.d__law_kinds.fd [] spKD := by
  refine T.d__law_kinds.F.ok sc__law_kinds (fun vs H Q E h => ?_) (fun cdv A outer s H vs Q E hr h => ?_)
  · obtain ⟨rfl, _⟩ := h
    rfl
  · obtain ⟨rfl, k⟩ := h
    refine ⟨_, (pss_one (ps_ret (pe_lst (pa_cons pe_str (pa_cons pe_str (pa_cons pe_str (pa_cons pe_str pa_nil))))))), ?_⟩
    exact s_retL (el_lst (ea_cons ev_c (ea_three ev_c ev_c ev_c)) (by simp)) k
def spLS : Sp := fun vs H Q _ => ∃ i, i < 4 ∧ vs = [.str (kindsL.getD i "")] ∧ ∀ H', Ex H H' → Q (.str (shownL.getD i "")) H'
theorem shown_eq (i : Nat) (h : i < 4) : (valV (mergeK [] [((Sum.inr (Str.ofString "number") : Key), V.str (Str.ofString "a number")), (Sum.inr (Str.ofString "end"), V.str (Str.ofString "the end"))]) (Sum.inr (kindsL.getD i ""))).getD (V.str (Str.ofString "\"" ++ kindsL.getD i "" ++ Str.ofString "\"")) = V.str (shownL.getD i "") := by
  rcases (by omega : i = 0 ∨ i = 1 ∨ i = 2 ∨ i = 3) with rfl | rfl | rfl | rfl <;> decide +kernel
theorem shown_len (i : Nat) (h : i < 4) : (Str.ofString "\"").length + (kindsL.getD i "").length ≤ 100000 ∧ (Str.ofString "\"" ++ kindsL.getD i "").length + (Str.ofString "\"").length ≤ 100000 := by
  rcases (by omega : i = 0 ∨ i = 1 ∨ i = 2 ∨ i = 3) with rfl | rfl | rfl | rfl <;> decide +kernel
theorem ok__law_shown (T : Tx K mg) : FnOk P w K mg base CX0 1 T.d__law_shown.f T.d__law_shown.fd ["_law_kind"] spLS := by
  refine T.d__law_shown.F.ok sc__law_shown (fun vs H Q E h => ?_) (fun cdv A outer s H vs Q E hr h => ?_)
  · obtain ⟨i, _, rfl, _⟩ := h
    rfl
  · obtain ⟨i, hi, rfl, k⟩ := h
    have hu := hu_of hr
    refine ⟨_, (pss_one (ps_ret (pe_dget2 hu (pe_disp (pps_cons pe_str pe_str (pps_cons pe_str pe_str pps_nil)) (by rfl) (by rfl) (fun z => by cases z) (by decide)) (pv 0) (pe_op op_add_str (pe_op op_add_str pe_str (pv 0)) pe_str) ⟨by rfl, by rfl, by rfl, by rfl⟩))), ?_⟩
    obtain ⟨l1, l2⟩ := shown_len i hi
    exact s_ret (ev_is (ev_dget2 (k := Sum.inr (kindsL.getD i "")) (ed_disp (ep_cons (k := Sum.inr (Str.ofString "number")) ev_c ev_c (ep_cons (k := Sum.inr (Str.ofString "end")) ev_c ev_c ep_nil)) (by decide)) (fun H2 e2 => ev_var rfl) (fun H2 e2 => ev_op (ev_op ev_c (ev_var rfl) (rv_adds l1)) ev_c (rv_adds l2))) (shown_eq i hi)) k
def spTL : Sp := fun vs H Q _ => ∃ m, vs = [.str (kindS m)] ∧ ∀ p H', H p = none → Ex H H' → TblAt H' p m → Q (.ref p) H'
theorem ok__law_table (T : Tx K mg) : FnOk P w K mg base CX0 1 T.d__law_table.f T.d__law_table.fd ["_law_kind"] spTL := by
  refine T.d__law_table.F.ok sc__law_table (fun vs H Q E h => ?_) (fun cdv A outer s H vs Q E hr h => ?_)
  · obtain ⟨m, rfl, _⟩ := h
    rfl
  · obtain ⟨m, rfl, k⟩ := h
    refine ⟨_, (pss_cons (ps_if (pt_cmpR op_eq (pv 0) pe_str (nomark _))
  (pss_one (ps_ret (pe_disp (pps_cons pe_str (pe_disp (pps_cons pe_str pe_str (pps_cons pe_str pe_str pps_nil)) (by rfl) (by rfl) (fun z => by cases z) (by decide)) pps_nil) (by rfl) (by rfl) (fun z => by cases z) (by decide))))
  pss_nil)
  (pss_one (ps_ret (pe_disp (pps_cons pe_str (pe_disp (pps_cons pe_str pe_str pps_nil) (by rfl) (by rfl) (fun z => by cases z) (by decide)) (pps_cons pe_str (pe_disp (pps_cons pe_str pe_str (pps_cons pe_str pe_str pps_nil)) (by rfl) (by rfl) (fun z => by cases z) (by decide)) (pps_cons pe_str (pe_disp (pps_cons pe_str pe_str pps_nil) (by rfl) (by rfl) (fun z => by cases z) (by decide)) (pps_cons pe_str (pe_disp (pps_cons pe_str pe_str (pps_cons pe_str pe_str (pps_cons pe_str pe_str pps_nil))) (by rfl) (by rfl) (fun z => by cases z) (by decide)) (pps_cons pe_str (pe_disp (pps_cons pe_str pe_str pps_nil) (by rfl) (by rfl) (fun z => by cases z) (by decide)) (pps_cons pe_str (pe_disp (pps_cons pe_str pe_str (pps_cons pe_str pe_str (pps_cons pe_str pe_str pps_nil))) (by rfl) (by rfl) (fun z => by cases z) (by decide)) pps_nil)))))) (by rfl) (by rfl) (fun z => by cases z) (by decide))))), ?_⟩
    refine q_when (b := !m) (et_is (et_test (ev_op (ev_var rfl) ev_c (rv_eq rfl))) (by cases m <;> decide +kernel)) (fun hm H1 e1 => ?_) (fun hm H1 e1 => ?_)
    · have hm' : m = false := by simpa using hm
      subst hm'
      refine r_in (ed2_disp (ss := [(.inr "", rowKV .nums)]) (epd_cons (k := Sum.inr (Str.ofString "")) ev_c (ed_disp (ep_cons (k := Sum.inr (Str.ofString "number")) ev_c ev_c (ep_cons (k := Sum.inr (Str.ofString "end")) ev_c ev_c ep_nil)) (by decide)) epd_nil) (by decide) (by simp [rowKV]) fun p kvs H2 hp e2 hd h2 => ?_)
      refine k p H2 (fresh_back e1 hp) (e1.trans e2) ⟨_, h2, fun s hs => ?_⟩
      have hs' : s = .nums := by
        by_cases h : s = .nums
        · exact h
        · exact absurd (hs.mp h) (by simp)
      subst hs'
      cases hd with
      | cons h r =>
        cases r
        exact ⟨_, rfl, h⟩
    · have hm' : m = true := by simpa using hm
      subst hm'
      have d1 : ∀ {σ : L2.St} {H : Hp}, EvD (tDisp [(tC (.str (Str.ofString "number")), tC (.str (Str.ofString "begin")))]) σ H (rowKV .s0) := ed_disp (ep_cons (k := Sum.inr (Str.ofString "number")) ev_c ev_c ep_nil) (by decide)
      have d2 : ∀ {σ : L2.St} {H : Hp}, EvD (tDisp [(tC (.str (Str.ofString "number")), tC (.str (Str.ofString "begin"))), (tC (.str (Str.ofString "|")), tC (.str (Str.ofString "change")))]) σ H (rowKV .begin) := ed_disp (ep_cons (k := Sum.inr (Str.ofString "number")) ev_c ev_c (ep_cons (k := Sum.inr (Str.ofString "|")) ev_c ev_c ep_nil)) (by decide)
      have d3 : ∀ {σ : L2.St} {H : Hp}, EvD (tDisp [(tC (.str (Str.ofString "number")), tC (.str (Str.ofString "row")))]) σ H (rowKV .change) := ed_disp (ep_cons (k := Sum.inr (Str.ofString "number")) ev_c ev_c ep_nil) (by decide)
      have d4 : ∀ {σ : L2.St} {H : Hp}, EvD (tDisp [(tC (.str (Str.ofString "number")), tC (.str (Str.ofString "row"))), (tC (.str (Str.ofString ",")), tC (.str (Str.ofString "change"))), (tC (.str (Str.ofString "|")), tC (.str (Str.ofString "show")))]) σ H (rowKV .row) := ed_disp (ep_cons (k := Sum.inr (Str.ofString "number")) ev_c ev_c (ep_cons (k := Sum.inr (Str.ofString ",")) ev_c ev_c (ep_cons (k := Sum.inr (Str.ofString "|")) ev_c ev_c ep_nil))) (by decide)
      have d5 : ∀ {σ : L2.St} {H : Hp}, EvD (tDisp [(tC (.str (Str.ofString "number")), tC (.str (Str.ofString "last")))]) σ H (rowKV .shw) := ed_disp (ep_cons (k := Sum.inr (Str.ofString "number")) ev_c ev_c ep_nil) (by decide)
      have d6 : ∀ {σ : L2.St} {H : Hp}, EvD (tDisp [(tC (.str (Str.ofString "number")), tC (.str (Str.ofString "last"))), (tC (.str (Str.ofString ",")), tC (.str (Str.ofString "show"))), (tC (.str (Str.ofString "end")), tC (.str (Str.ofString "z")))]) σ H (rowKV .last) := ed_disp (ep_cons (k := Sum.inr (Str.ofString "number")) ev_c ev_c (ep_cons (k := Sum.inr (Str.ofString ",")) ev_c ev_c (ep_cons (k := Sum.inr (Str.ofString "end")) ev_c ev_c ep_nil))) (by decide)
      refine r_in (ed2_disp (ss := [(.inr "", rowKV .s0), (.inr "begin", rowKV .begin), (.inr "change", rowKV .change), (.inr "row", rowKV .row), (.inr "show", rowKV .shw), (.inr "last", rowKV .last)])
        (epd_cons (k := Sum.inr (Str.ofString "")) ev_c d1 (epd_cons (k := Sum.inr (Str.ofString "begin")) ev_c d2 (epd_cons (k := Sum.inr (Str.ofString "change")) ev_c d3 (epd_cons (k := Sum.inr (Str.ofString "row")) ev_c d4 (epd_cons (k := Sum.inr (Str.ofString "show")) ev_c d5 (epd_cons (k := Sum.inr (Str.ofString "last")) ev_c d6 epd_nil)))))) (by decide) (by simp [rowKV]) fun p kvs H2 hp e2 hd h2 => ?_)
      refine k p H2 (fresh_back e1 hp) (e1.trans e2) ⟨_, h2, fun s hs => ?_⟩
      cases hd with
      | cons g1 r =>
      cases r with
      | cons g2 r =>
      cases r with
      | cons g3 r =>
      cases r with
      | cons g4 r =>
      cases r with
      | cons g5 r =>
      cases r with
      | cons g6 r =>
      cases r
      cases s with
      | s0 => exact ⟨_, rfl, g1⟩
      | begin => exact ⟨_, rfl, g2⟩
      | change => exact ⟨_, rfl, g3⟩
      | row => exact ⟨_, rfl, g4⟩
      | shw => exact ⟨_, rfl, g5⟩
      | last => exact ⟨_, rfl, g6⟩
      | nums => exact absurd rfl (hs.mpr rfl)
def spDU : Sp := fun vs H Q _ => ∃ (a : Addr) (m : Bool) (s : S), vs = [.ref a, .str s.name] ∧ TblAt H a m ∧ InM m s ∧ ∀ p H', H p = none → Ex H H' → H' p = some (.lst ((inOrder s.opts).map V.str)) → Q (.ref p) H'
theorem ok__law_due (T : Tx K mg) : FnOk P w K mg base CX0 2 T.d__law_due.f T.d__law_due.fd ["_law_table_here", "_law_state"] spDU := by
  refine T.d__law_due.F.ok sc__law_due (fun vs H Q E h => ?_) (fun cdv A outer s H vs Q E hr h => ?_)
  · obtain ⟨a, m, s', rfl, _⟩ := h
    rfl
  · obtain ⟨a, m, s', rfl, ⟨kvs, ha, hall⟩, hs, k⟩ := h
    obtain ⟨r, hr1, hr2⟩ := hall s' hs
    have hu := hu_of hr
    refine ⟨_, (pss_one (ps_ret (pe_lc (own := [("_law_kind", 2)]) (g := gName 2) (by rfl) sc__law_due.nd (pi_list (pe_call0 (ok__law_kinds T) (hr.mono (by decide)) rfl T.d__law_kinds.g T.d__law_kinds.F.kp T.d__law_kinds.b .nil pass0)) (blkOk_by (own := [("_law_kind", 2)]) (N := N__law_due) (sc := defScope s__law_due) (by decide +kernel)) (fun _ _ _ _ _ => pg_name (i := 2) sc__law_due.nd rfl (Or.inl rfl)) (fun _ _ _ _ _ => (pts_one (pt_cmp (pc_din hu (pv 2) (pe_dget hu (pv 0) (pv 1) (fun _ _ => rfl))) (by rfl)))) (fun _ _ _ _ _ => (pe_call (ok__law_shown T) (hr.mono (by decide)) rfl T.d__law_shown.g T.d__law_shown.F.kp T.d__law_shown.b .nil pass0 (pa_cons (pv 2) pa_nil)))))), ?_⟩
    refine s_retL (xs := (inOrder s'.opts).map V.str) ?_ k
    rw [← due_eq]
    refine el_lcNL (xs := kindsL.map V.str) (hasK s') (fun i => V.str (shownL.getD i "")) (fun H1 e1 Q1 q1 => ⟨rfl, q1⟩) (by decide) (fun _ => rfl) (fun i x H2 e2 hx => ?_) (fun i x H2 e2 hx _ => ?_)
    · have hx' : x = V.str (kindsL.getD i "") := by
        rw [List.getElem?_map] at hx
        cases ho : kindsL[i]? with
        | none => rw [ho] at hx; cases hx
        | some y =>
          rw [ho] at hx
          cases hx
          simp [ho]
      subst hx'
      exact et_B (ev_din (k := Sum.inr (kindsL.getD i "")) (ev_var rfl) (ev_dget (k := Sum.inr s'.name) (ev_var rfl) (ev_var rfl) (e2 _ _ ha) hr1) (e2 _ _ hr2) rfl)
    · have hi : i < 4 := by
        have := (List.getElem?_eq_some_iff.mp hx).1
        simpa [kindsL] using this
      have hx' : x = V.str (kindsL.getD i "") := by
        rw [List.getElem?_map] at hx
        cases ho : kindsL[i]? with
        | none => rw [ho] at hx; cases hx
        | some y =>
          rw [ho] at hx
          cases hx
          simp [ho]
      subst hx'
      exact ev_call (ea_one (ev_var rfl)) fun H3 e3 Q3 k3 E3 => ⟨i, hi, rfl, k3⟩
def Wd.kd : Wd → Str
  | .num _ => "number"
  | .bar => "|"
  | .com => ","
def spTN : Sp := fun vs H Q _ => ∃ (z L : Addr) (w0 : Wd), vs = [.ref z, .str w0.kd] ∧ Strm H z L ∧ ∀ (w1 : Wd) H', w1.kd = w0.kd → w1.isNum = w0.isNum → XB z H H' → Strm H' z L → Q (.str w1.txt) H'
theorem num_txts : [V.str (Str.ofString "0"), V.str (Str.ofString "1"), V.str (Str.ofString "3"), V.str (Str.ofString "9"), V.str (Str.ofString "000002")] = ([0, 1, 2, 3, 4] : List (Fin 5)).map fun k => V.str (Wd.num k).txt := by decide +kernel
theorem ok__law_token (T : Tx K mg) : FnOk P w K mg base CX0 3 T.d__law_token.f T.d__law_token.fd ["_law_stream_here", "_law_kind"] spTN := by
  refine T.d__law_token.F.ok sc__law_token (fun vs H Q E h => ?_) (fun cdv A outer s H vs Q E hr h => ?_)
  · obtain ⟨z, L, w0, rfl, _⟩ := h
    rfl
  · obtain ⟨z, L, w0, rfl, hz, k⟩ := h
    refine ⟨_, (pss_one (ps_ret (pe_ifExp (pt_cmpR op_eq (pv 1) pe_str (nomark _)) (pe_call (ok__law_pick T) (hr.mono (by decide)) rfl T.d__law_pick.g T.d__law_pick.F.kp T.d__law_pick.b .nil pass0 (pa_cons (pv 0) (pa_cons (pe_lst (pa_cons pe_str (pa_cons pe_str (pa_cons pe_str (pa_cons pe_str (pa_cons pe_str pa_nil)))))) pa_nil))) (pv 1)))), ?_⟩
    have sg : Ev (tOp rEq (tVar 1) (tC (.str (Str.ofString "number")))) [some (.ref z), some (.str w0.kd)] H (.bl (decide (V.str w0.kd = V.str (Str.ofString "number")))) := ev_op (ev_var rfl) ev_c (rv_eq rfl)
    have kd : decide (V.str w0.kd = V.str (Str.ofString "number")) = w0.isNum := by
      have a1 : decide (V.str (Str.ofString "number") = V.str (Str.ofString "number")) = true := by decide +kernel
      have a2 : decide (V.str (Str.ofString "|") = V.str (Str.ofString "number")) = false := by decide +kernel
      have a3 : decide (V.str (Str.ofString ",") = V.str (Str.ofString "number")) = false := by decide +kernel
      cases w0 with
      | num _ => exact a1
      | bar => exact a2
      | com => exact a3
    rw [kd] at sg
    refine r_in ?_
    refine et_test sg H (Ex.refl H) _ fun H1 e1 => ?_
    cases hn : w0.isNum with
    | true =>
      refine iteT ?_
      refine c_in (a_in ⟨_, rfl, a_in ?_⟩)
      refine (el_lst (ea_cons ev_c (ea_cons ev_c (ea_three ev_c ev_c ev_c))) (by simp)) H1 (Ex.refl H1) _ fun p H2 hp e2 h2 => ?_
      rw [num_txts] at h2
      refine ⟨z, L, p, _, rfl, (hz.ex e1).ex e2, h2, (hz.ex e1).ne hp, by simp, by simp, fun i v H3 hv x3 hs3 => ?_⟩
      rw [List.getElem?_map] at hv
      cases hf : ([0, 1, 2, 3, 4] : List (Fin 5))[i]? with
      | none => rw [hf] at hv; cases hv
      | some kk =>
        rw [hf] at hv
        cases hv
        refine k (.num kk) H3 ?_ hn.symm ((xb_of (e1.trans e2)).trans x3) hs3
        cases w0 with
        | num _ => rfl
        | bar => cases hn
        | com => cases hn
    | false =>
      refine iteF ⟨_, rfl, ?_⟩
      have : w0.kd = w0.txt := by
        cases w0 with
        | num _ => cases hn
        | bar => exact one_bar
        | com => exact one_com
      rw [this]
      exact k w0 H1 rfl rfl (xb_of e1) (hz.ex e1)
end
end WC

/-! ## Kf3 -/
/-! the law's equality -/
namespace WC
open PySem PySem.Spec PyProof.Rows L2 Evl
def Base (x y : V) : Prop := (∃ i : Int, x = .int i ∧ y = .int i) ∨ ∃ z : Str, x = .str z ∧ y = .str z
def SeqE (R : Hp → V → V → Prop) (H : Hp) (x y : V) : Prop := ∃ p q xs ys, x = .ref p ∧ y = .ref q ∧ ((H p = some (.lst xs) ∧ H q = some (.lst ys)) ∨ (H p = some (.tup xs) ∧ H q = some (.tup ys))) ∧ xs.length = ys.length ∧ ys.length ≤ 1000 ∧
  ∀ (i : Nat) a b, xs[i]? = some a → ys[i]? = some b → ∀ H1, Ex H H1 → R H1 a b
def Eqd : Nat → Hp → V → V → Prop
  | 0, _, x, y => Base x y
  | n + 1, H, x, y => Base x y ∨ SeqE (Eqd n) H x y
def spEQ (n : Nat) : Sp := fun vs H Q _ => ∃ x y, vs = [x, y] ∧ Eqd n H x y ∧ ∀ H', Ex H H' → Q (.bl true) H'
section
variable {K : PySem.W.Frag} {σ : L2.St} {H H' : Hp} {ta tb te tk tv tx : TE} {x y z v : V}
theorem ev_isN (h : Ev ta σ H x) : Ev (tIsN ta) σ H (.bl (decide (x = .non))) := fun H1 e _ q => h H1 e _ fun H2 e2 => q H2 e2
end
section
variable {P : Program} {w : World} {K : PySem.W.Frag} {mg : Str → Option Value} {base : Heap}
def spII : Sp := fun vs H Q _ => ∃ i : Int, vs = [.int i] ∧ ∀ H', Ex H H' → Q (.bl true) H'
theorem ok__law_is_integer (T : Tx K mg) : FnOk P w K mg base CX0 1 T.d__law_is_integer.f T.d__law_is_integer.fd ["_law_actual"] spII := by
  refine T.d__law_is_integer.F.ok sc__law_is_integer (fun vs H Q E h => ?_) (fun cdv A outer s H vs Q E hr h => ?_)
  · obtain ⟨i, rfl, _⟩ := h
    rfl
  · obtain ⟨i, rfl, k⟩ := h
    refine ⟨_, (pss_one (ps_ret (pe_and (pe_callB call_isi (by rfl) T.z_isinstance (by decide +kernel) (pa_cons (pv 0) (pa_cons (pe_bltn (v := .ty "int") (by rfl) T.z_int (by decide +kernel) rfl) pa_nil))) (pe_one (pe_not (pe_callB call_isi (by rfl) T.z_isinstance (by decide +kernel) (pa_cons (pv 0) (pa_cons (pe_bltn (v := .ty "bool") (by rfl) T.z_bool (by decide +kernel) rfl) pa_nil)))))))), ?_⟩
    exact s_ret (ev_is (ev_andV (ev_isi (ev_var rfl) tx_i ev_c (b := true) (by decide +kernel)) fun _ => ev_notV (ev_isi (ev_var rfl) tx_i ev_c (b := false) (by decide +kernel))) rfl) k
/-- one level, over the level below -/
theorem equal_step (T : Tx K mg) {k : Nat} {sp : Sp} (hk : 1 ≤ k) (G : FnOk P w K mg base CX0 k T.d__law_equal.f T.d__law_equal.fd ["_law_actual", "_law_due_here"] sp) :
    FnOk P w K mg base CX0 (k + 1) T.d__law_equal.f T.d__law_equal.fd ["_law_actual", "_law_due_here"]
      (fun vs H Q _ => ∃ x y, vs = [x, y] ∧ (Base x y ∨ ∃ R, (∀ a b H1 Q1 E1, R H1 a b → (∀ H2, Ex H1 H2 → Q1 (.bl true) H2) → sp [a, b] H1 Q1 E1) ∧ SeqE R H x y) ∧ ∀ H', Ex H H' → Q (.bl true) H') := by
  refine T.d__law_equal.F.ok sc__law_equal (fun vs H Q E h => ?_) (fun cdv A outer s H vs Q E hr h => ?_)
  · obtain ⟨x, y, rfl, _⟩ := h
    rfl
  · obtain ⟨x, y, rfl, hxy, kq⟩ := h
    refine ⟨_, (pss_cons (ps_if (pt_cmp (pc_isN (pv 1)))
  (pss_one (ps_ret (pe_cmp (pc_isN (pv 0)))))
  pss_nil)
  (pss_cons (ps_if (pt_val (pe_callB call_isi (by rfl) T.z_isinstance (by decide +kernel) (pa_cons (pv 1) (pa_cons (pe_bltn (v := .ty "bool") (by rfl) T.z_bool (by decide +kernel) rfl) pa_nil))))
  (pss_one (ps_ret (pe_and (pe_callB call_isi (by rfl) T.z_isinstance (by decide +kernel) (pa_cons (pv 0) (pa_cons (pe_bltn (v := .ty "bool") (by rfl) T.z_bool (by decide +kernel) rfl) pa_nil))) (pe_one (pe_cmpR op_eq (pv 0) (pv 1) (nomark _))))))
  pss_nil)
  (pss_cons (ps_if (pt_val (pe_callB call_isi (by rfl) T.z_isinstance (by decide +kernel) (pa_cons (pv 1) (pa_cons (pe_bltn (v := .ty "int") (by rfl) T.z_int (by decide +kernel) rfl) pa_nil))))
  (pss_one (ps_ret (pe_and (pe_call (ok__law_is_integer T) (hr.mono (by omega)) rfl T.d__law_is_integer.g T.d__law_is_integer.F.kp T.d__law_is_integer.b .nil pass0 (pa_cons (pv 0) pa_nil)) (pe_one (pe_cmpR op_eq (pv 0) (pv 1) (nomark _))))))
  pss_nil)
  (pss_cons (ps_if (pt_val (pe_callB call_isi (by rfl) T.z_isinstance (by decide +kernel) (pa_cons (pv 1) (pa_cons (pe_bltn (v := .ty "str") (by rfl) T.z_str (by decide +kernel) rfl) pa_nil))))
  (pss_one (ps_ret (pe_and (pe_callB call_isi (by rfl) T.z_isinstance (by decide +kernel) (pa_cons (pv 0) (pa_cons (pe_bltn (v := .ty "str") (by rfl) T.z_str (by decide +kernel) rfl) pa_nil))) (pe_one (pe_cmpR op_eq (pv 0) (pv 1) (nomark _))))))
  pss_nil)
  (pss_cons (ps_if (PW.pt (pw_and (pt_val (pe_callB call_isi (by rfl) T.z_isinstance (by decide +kernel) (pa_cons (pv 1) (pa_cons (pe_bltn (v := .ty "tuple") (by rfl) T.z_tuple (by decide +kernel) rfl) pa_nil)))) (pw_and1 (pt_not (pt_val (pe_callB call_isi (by rfl) T.z_isinstance (by decide +kernel) (pa_cons (pv 0) (pa_cons (pe_bltn (v := .ty "tuple") (by rfl) T.z_tuple (by decide +kernel) rfl) pa_nil))))))))
  (pss_one (ps_ret pe_bl))
  pss_nil)
  (pss_cons (ps_if (PW.pt (pw_and (pt_val (pe_callB call_isi (by rfl) T.z_isinstance (by decide +kernel) (pa_cons (pv 1) (pa_cons (pe_bltn (v := .ty "list") (by rfl) T.z_list (by decide +kernel) rfl) pa_nil)))) (pw_and1 (pt_not (pt_val (pe_callB call_isi (by rfl) T.z_isinstance (by decide +kernel) (pa_cons (pv 0) (pa_cons (pe_bltn (v := .ty "list") (by rfl) T.z_list (by decide +kernel) rfl) pa_nil))))))))
  (pss_one (ps_ret pe_bl))
  pss_nil)
  (pss_cons (ps_if (pt_cmpR op_ne (pe_callB call_len (by rfl) T.z_len PySem.boot_len (pa_cons (pv 0) pa_nil)) (pe_callB call_len (by rfl) T.z_len PySem.boot_len (pa_cons (pv 1) pa_nil)) (nomark _))
  (pss_one (ps_ret pe_bl))
  pss_nil)
  (pss_one (ps_ret (pe_callB (cr_all rfl) (by rfl) T.z_all (by decide +kernel) (pa_cons (pe_lc (own := [("_law_at", 2)]) (g := gName 2) (by rfl) sc__law_equal.nd (pi_range1 (by rfl) T.z_range (pa_cons (pe_callB call_len (by rfl) T.z_len PySem.boot_len (pa_cons (pv 1) pa_nil)) pa_nil)) (blkOk_by (own := [("_law_at", 2)]) (N := N__law_equal) (sc := defScope s__law_equal) (by decide +kernel)) (fun _ _ _ _ _ => pg_name (i := 2) sc__law_equal.nd rfl (Or.inl rfl)) (fun _ _ _ _ _ => pts_nil) (fun _ _ _ _ _ => (pe_call G (hr.mono (by omega)) rfl T.d__law_equal.g T.d__law_equal.F.kp T.d__law_equal.b .nil pass0 (pa_cons (pe_ix (r := rIx K) ix_seq (pv 0) (pv 2) (fun _ _ => rfl)) (pa_cons (pe_ix (r := rIx K) ix_seq (pv 1) (pv 2) (fun _ _ => rfl)) pa_nil))))) pa_nil))))))))))), ?_⟩
    rcases hxy with (⟨i, rfl, rfl⟩ | ⟨z, rfl, rfl⟩) | ⟨R, hR, p, q, xs, ys, rfl, rfl, hpq, hl, hl2, hall⟩
    · refine q_when (b := false) (et_B (ev_is (ev_isN (ev_var rfl)) rfl)) (fun h => nomatch h) (fun _ H1 e1 => ?_)
      refine q_when (b := false) (et_B (ev_isi (ev_var rfl) tx_i ev_c (by decide +kernel))) (fun h => nomatch h) (fun _ H2 e2 => ?_)
      refine q_when (b := true) (et_B (ev_isi (ev_var rfl) tx_i ev_c (by decide +kernel))) (fun _ H3 e3 => ?_) (fun h => nomatch h)
      exact s_ret (ev_is (ev_andV (a := true) (ev_call (ea_one (ev_var rfl)) fun H4 e4 Q4 k4 E4 => ⟨i, rfl, k4⟩) fun _ => ev_op (ev_var rfl) (ev_var rfl) (rv_eq rfl)) (by simp)) fun H4 e4 => kq H4 (((e1.trans e2).trans e3).trans e4)
    · refine q_when (b := false) (et_B (ev_is (ev_isN (ev_var rfl)) rfl)) (fun h => nomatch h) (fun _ H1 e1 => ?_)
      refine q_when (b := false) (et_B (ev_isi (ev_var rfl) tx_s ev_c (by decide +kernel))) (fun h => nomatch h) (fun _ H2 e2 => ?_)
      refine q_when (b := false) (et_B (ev_isi (ev_var rfl) tx_s ev_c (by decide +kernel))) (fun h => nomatch h) (fun _ H3 e3 => ?_)
      refine q_when (b := true) (et_B (ev_isi (ev_var rfl) tx_s ev_c (by decide +kernel))) (fun _ H4 e4 => ?_) (fun h => nomatch h)
      exact s_ret (ev_is (ev_andV (a := true) (ev_isi (ev_var rfl) tx_s ev_c (by decide +kernel)) fun _ => ev_op (ev_var rfl) (ev_var rfl) (rv_eq rfl)) (by simp)) fun H5 e5 => kq H5 ((((e1.trans e2).trans e3).trans e4).trans e5)
    · have rng : ∀ {H1 : Hp}, Ex H H1 → (∀ {H2 : Hp}, Ex H1 H2 → ∀ (i : Nat) (a b : V) {σ : L2.St} {u1 u2 : TE}, Ev u1 σ H2 (.ref p) → Ev u2 σ H2 (.int (i : Int)) → xs[i]? = some a → Ev (tOp (rIx K) u1 u2) σ H2 a) →
          (∀ {H2 : Hp}, Ex H1 H2 → ∀ (i : Nat) (a b : V) {σ : L2.St} {u1 u2 : TE}, Ev u1 σ H2 (.ref q) → Ev u2 σ H2 (.int (i : Int)) → ys[i]? = some a → Ev (tOp (rIx K) u1 u2) σ H2 a) →
          (Ev (tCB (fun xs H Q => ∃ x n, xs = [x] ∧ LenV K x H n ∧ Q (.int n) H) (tCons (tVar 1) tNil)) [some (.ref p), some (.ref q), none] H1 (.int (ys.length : Int))) →
          Ev (tCB (rAll K) (tCons (tLc (iRng1 (tCons (tCB (fun xs H Q => ∃ x n, xs = [x] ∧ LenV K x H n ∧ Q (.int n) H) (tCons (tVar 1) tNil)) tNil)) (gName 2) tYes (tCall sp [] E0 (tCons (tOp (rIx K) (tVar 0) (tVar 2)) (tCons (tOp (rIx K) (tVar 1) (tVar 2)) tNil))) [2]) tNil)) [some (.ref p), some (.ref q), none] H1 (.bl true) := fun {H1} e1 ax ay hlen => by
        refine ev_all_lc (n := (ys.length : Int).toNat) (el_lcR1 _ _ (ea_one hlen) ⟨by omega, by omega⟩ (fun _ => rfl) (fun _ _ _ _ => et_yes) (fun i H2 e2 hi _ => ?_))
        have hi' : i < ys.length := by omega
        have h1 : xs[i]? = some (xs[i]'(by omega)) := by simp [hl, hi']
        have h2 : ys[i]? = some ys[i] := by simp [hi']
        exact ev_call (ea_two (ax e2 i _ (.non) (ev_var rfl) (ev_var rfl) h1) (ay e2 i _ (.non) (ev_var rfl) (ev_var rfl) h2)) fun H3 e3 Q3 k3 E3 => hR _ _ H3 Q3 E3 (hall i _ _ h1 h2 H3 ((e1.trans e2).trans e3)) k3
      refine q_when (b := false) (et_B (ev_is (ev_isN (ev_var rfl)) rfl)) (fun h => nomatch h) (fun _ H1 e1 => ?_)
      rcases hpq with ⟨hp, hq⟩ | ⟨hp, hq⟩
      · refine q_when (b := false) (et_B (ev_isi (ev_var rfl) (tx_l (e1 _ _ hq)) ev_c (by decide +kernel))) (fun h => nomatch h) (fun _ H2 e2 => ?_)
        have e12 := e1.trans e2
        refine q_when (b := false) (et_B (ev_isi (ev_var rfl) (tx_l (e12 _ _ hq)) ev_c (by decide +kernel))) (fun h => nomatch h) (fun _ H3 e3 => ?_)
        have e13 := e12.trans e3
        refine q_when (b := false) (et_B (ev_isi (ev_var rfl) (tx_l (e13 _ _ hq)) ev_c (by decide +kernel))) (fun h => nomatch h) (fun _ H4 e4 => ?_)
        have e14 := e13.trans e4
        refine q_when (b := false) (et_and (a := false) (b := true) (et_B (ev_isi (ev_var rfl) (tx_l (e14 _ _ hq)) ev_c (by decide +kernel))) (fun h => nomatch h)) (fun h => nomatch h) (fun _ H5 e5 => ?_)
        have e15 := e14.trans e5
        refine q_when (b := false) (et_and (a := true) (b := false) (et_B (ev_isi (ev_var rfl) (tx_l (e15 _ _ hq)) ev_c (by decide +kernel))) (fun _ => et_not (a := true) (et_B (ev_isi (ev_var rfl) (tx_l (e15 _ _ hp)) ev_c (by decide +kernel))))) (fun h => nomatch h) (fun _ H6 e6 => ?_)
        have e16 := e15.trans e6
        refine q_when (b := false) (et_is (et_test (ev_op (ev_len_l (ev_var rfl) (sq_of (e16 _ _ hp))) (ev_len_l (ev_var rfl) (sq_of (e16 _ _ hq))) (rv_ne rfl))) (by simp [hl])) (fun h => nomatch h) (fun _ H7 e7 => ?_)
        have e17 := e16.trans e7
        refine s_ret (rng e17 (fun {H2} e2 i a b {σ} {u1} {u2} h1 h2 h3 => ev_op h1 h2 fun H8 e8 Q8 k8 => .inl ⟨p, xs, _, _, rfl, rfl, sq_of (e8 _ _ (e2 _ _ (e17 _ _ hp))), atI_nat h3, k8 H8 (Ex.refl H8)⟩)
          (fun {H2} e2 i a b {σ} {u1} {u2} h1 h2 h3 => ev_op h1 h2 fun H8 e8 Q8 k8 => .inl ⟨q, ys, _, _, rfl, rfl, sq_of (e8 _ _ (e2 _ _ (e17 _ _ hq))), atI_nat h3, k8 H8 (Ex.refl H8)⟩) (ev_len_l (ev_var rfl) (sq_of (e17 _ _ hq)))) fun H8 e8 => kq H8 (e17.trans e8)
      · refine q_when (b := false) (et_B (ev_isi (ev_var rfl) (tx_t (e1 _ _ hq)) ev_c (by decide +kernel))) (fun h => nomatch h) (fun _ H2 e2 => ?_)
        have e12 := e1.trans e2
        refine q_when (b := false) (et_B (ev_isi (ev_var rfl) (tx_t (e12 _ _ hq)) ev_c (by decide +kernel))) (fun h => nomatch h) (fun _ H3 e3 => ?_)
        have e13 := e12.trans e3
        refine q_when (b := false) (et_B (ev_isi (ev_var rfl) (tx_t (e13 _ _ hq)) ev_c (by decide +kernel))) (fun h => nomatch h) (fun _ H4 e4 => ?_)
        have e14 := e13.trans e4
        refine q_when (b := false) (et_and (a := true) (b := false) (et_B (ev_isi (ev_var rfl) (tx_t (e14 _ _ hq)) ev_c (by decide +kernel))) (fun _ => et_not (a := true) (et_B (ev_isi (ev_var rfl) (tx_t (e14 _ _ hp)) ev_c (by decide +kernel))))) (fun h => nomatch h) (fun _ H5 e5 => ?_)
        have e15 := e14.trans e5
        refine q_when (b := false) (et_and (a := false) (b := true) (et_B (ev_isi (ev_var rfl) (tx_t (e15 _ _ hq)) ev_c (by decide +kernel))) (fun h => nomatch h)) (fun h => nomatch h) (fun _ H6 e6 => ?_)
        have e16 := e15.trans e6
        refine q_when (b := false) (et_is (et_test (ev_op (ev_len_t (ev_var rfl) (st_of (e16 _ _ hp))) (ev_len_t (ev_var rfl) (st_of (e16 _ _ hq))) (rv_ne rfl))) (by simp [hl])) (fun h => nomatch h) (fun _ H7 e7 => ?_)
        have e17 := e16.trans e7
        refine s_ret (rng e17 (fun {H2} e2 i a b {σ} {u1} {u2} h1 h2 h3 => ev_op h1 h2 fun H8 e8 Q8 k8 => .inr (.inl ⟨p, xs, _, _, rfl, rfl, st_of (e8 _ _ (e2 _ _ (e17 _ _ hp))), atI_nat h3, k8 H8 (Ex.refl H8)⟩))
          (fun {H2} e2 i a b {σ} {u1} {u2} h1 h2 h3 => ev_op h1 h2 fun H8 e8 Q8 k8 => .inr (.inl ⟨q, ys, _, _, rfl, rfl, st_of (e8 _ _ (e2 _ _ (e17 _ _ hq))), atI_nat h3, k8 H8 (Ex.refl H8)⟩)) (ev_len_t (ev_var rfl) (st_of (e17 _ _ hq)))) fun H8 e8 => kq H8 (e17.trans e8)
theorem fn_false (T : Tx K mg) (k : Nat) : FnOk P w K mg base CX0 k T.d__law_equal.f T.d__law_equal.fd ["_law_actual", "_law_due_here"] (fun _ _ _ _ => False) :=
  ⟨fun _ _ _ _ h => h.elim, fun _ _ _ _ _ _ _ _ _ _ _ _ _ h => h.elim⟩
theorem ok_equal (T : Tx K mg) : ∀ n, FnOk P w K mg base CX0 (n + 2) T.d__law_equal.f T.d__law_equal.fd ["_law_actual", "_law_due_here"] (spEQ n)
  | 0 => (equal_step T (k := 1) (Nat.le_refl _) (fn_false T 1)).imp fun vs H Q E ⟨x, y, h1, h2, h3⟩ => ⟨x, y, h1, .inl h2, h3⟩
  | n + 1 => (equal_step T (k := n + 2) (by omega) (ok_equal T n)).imp fun vs H Q E ⟨x, y, h1, h2, h3⟩ => ⟨x, y, h1, h2.imp_right fun h => ⟨Eqd n, fun a b H1 Q1 E1 hr hk => ⟨a, b, rfl, hr, hk⟩, h⟩, h3⟩
theorem ok__law_equal (T : Tx K mg) : FnOk P w K mg base CX0 4 T.d__law_equal.f T.d__law_equal.fd ["_law_actual", "_law_due_here"] (spEQ 2) := ok_equal T 2
end
end WC

/-! ## Kf4 -/
/-! the law's texts are laid -/
namespace WC
open PySem PySem.Spec PyProof.Rows L2 Evl
def wS (x : List Nat) : Str := ⟨x.toArray⟩
theorem wS_len (x : List Nat) : (wS x).length = x.length := by simp [wS, Str.length]
theorem wS_cs (x : List Nat) : (wS x).cps.toList = x := by simp [wS]
theorem wS_app (x y : List Nat) : wS x ++ wS y = wS (x ++ y) := str_eq (by
  show ((wS x).cps ++ (wS y).cps).toList = _
  simp [wS])
theorem cut_head {c : Nat} {r : List Nat} : cutS (wS (c :: r)) none (some 1) = ⟨#[c]⟩ := by
  unfold cutS
  have e : HT.sIx (wS (c :: r)).length (wS (c :: r)).length (some 1) = 1 := by
    rw [show (1 : Int) = ((1 : Nat) : Int) from rfl, HT.sIx_nat, wS_len]
    simp
  rw [e, HT.sIx_none, wS_cs]
  simp
theorem cut_last {x : List Nat} (h : x ≠ []) : cutS (wS x) (some (-1)) none = ⟨#[x.getLast h]⟩ := by
  unfold cutS
  have hl : 0 < x.length := List.length_pos_iff.mpr h
  have e : HT.sIx (wS x).length 0 (some (-1)) = x.length - 1 := by
    show (if (-1 : Int) < 0 then ((-1 : Int) + ((wS x).length : Int)).toNat else min (-1 : Int).toNat (wS x).length) = x.length - 1
    rw [if_pos (by decide), wS_len]
    omega
  rw [e, HT.sIx_none, wS_cs, wS_len]
  have e3 : ∀ y : List Nat, y = x.dropLast ++ [x.getLast h] → y.drop (x.length - 1) = [x.getLast h] := fun y hy => by
    have el : x.length - 1 = x.dropLast.length := by simp
    rw [hy, el, List.drop_left]
  have e2 : x.drop (x.length - 1) = [x.getLast h] := e3 x (List.dropLast_concat_getLast h).symm
  rw [e2]
  simp
  have : x.length - (x.length - 1) = 1 := by omega
  rw [this]
  rfl
theorem blanks4 : ∀ b, b < 4 → [V.str (Str.ofString ""), V.str (Str.ofString " "), V.str (Str.ofString "  "), V.str (Str.ofString "   ")][b]? = some (V.str (wS (List.replicate b 32))) := by decide +kernel
theorem blanks3 : ∀ b, b < 3 → [V.str (Str.ofString ""), V.str (Str.ofString " "), V.str (Str.ofString "  ")][b]? = some (V.str (wS (List.replicate b 32))) := by decide +kernel
theorem lastD_eq : ∀ (p : Bool) (l : Ly), lastD p l = match l.getLast? with | none => p | some q => dig? q.2.getLast?
  | p, [] => rfl
  | p, (b, w) :: r => by
    show lastD (dig? w.getLast?) r = _
    rw [lastD_eq]
    cases r with
    | nil => rfl
    | cons q r => rw [List.getLast?_cons_cons]; cases h : (q :: r).getLast? with
      | none => simp at h
      | some y => rfl
theorem textC_len : ∀ (l : Ly), (∀ q ∈ l, q.1 ≤ 3 ∧ q.2.length ≤ 7) → (textC l).length ≤ 10 * l.length
  | [], _ => by simp [textC]
  | (b, w) :: r, h => by
    have h1 := h _ List.mem_cons_self
    have h2 := textC_len r fun q hq => h q (List.mem_cons_of_mem _ hq)
    simp only [textC, List.length_append, List.length_replicate, List.length_cons]
    have h3 : b ≤ 3 := h1.1
    have h4 : w.length ≤ 7 := h1.2
    omega
theorem dig_get {x : List Nat} (h : x ≠ []) : dig? x.getLast? = isDig (x.getLast h) := by
  rw [List.getLast?_eq_some_getLast h]
  rfl
theorem e_nx {t : L2.St → Hp → Prop} {r : VK} {b c : L2.St → Hp → Prop} {σ : L2.St} {H : Hp} (h : t σ H) : Ends.nx ⟨t, r, b, c⟩ σ H := h
section
variable {P : Program} {w : World} {K : PySem.W.Frag} {mg : Str → Option Value} {base : Heap}
def spLD : Sp := fun vs H Q _ => ∃ (z L a : Addr) (ws : List (List Nat)), vs = [.ref z, .ref a] ∧ Strm H z L ∧ a ≠ z ∧ H a = some (.lst (ws.map fun x => V.str (wS x))) ∧ ws.length ≤ 30 ∧ (∀ x ∈ ws, x ≠ [] ∧ x.length ≤ 7) ∧
  ∀ (l : Ly) (e : Nat) (p pl : Addr) H', l.map (·.2) = ws → Near false l → (textC l).length ≤ 10 * ws.length → e ≤ 2 → XB z H H' → Strm H' z L → H p = none → H pl = none → H' p = some (.tup [.str (wS (textC l ++ List.replicate e 32)), .ref pl]) →
    H' pl = some (.lst ((colsC 0 l ++ [(((textC l).length + e + 1 : Nat) : Int)]).map V.int)) → Q (.ref p) H'
theorem ok__law_laid (T : Tx K mg) : FnOk P w K mg base CX0 2 T.d__law_laid.f T.d__law_laid.fd ["_law_stream_here", "_law_words"] spLD := by
  refine T.d__law_laid.F.ok sc__law_laid (fun vs H Q E h => ?_) (fun cdv A outer s H vs Q E hr h => ?_)
  · obtain ⟨z, L, a, ws, rfl, _⟩ := h
    rfl
  · obtain ⟨z, L, a, ws, rfl, hz, naz, ha, hwl, hws, k⟩ := h
    refine ⟨_, (pss_cons (ps_set (i := 2) sc__law_laid.nd rfl (Or.inl rfl) pe_str)
  (pss_cons (ps_set (i := 3) sc__law_laid.nd rfl (Or.inl rfl) (pe_lst pa_nil))
  (pss_cons (ps_for PassesOwn.never rfl (pi_enum (by rfl) T.z_enumerate (pa_cons (pv 1) pa_nil)) (pg_tup (by rfl) (pgs_cons (pg_name (i := 4) sc__law_laid.nd rfl (Or.inl rfl)) (pgs_cons (pg_name (i := 5) sc__law_laid.nd rfl (Or.inl rfl)) pgs_nil)))
  (pss_cons (ps_set (i := 6) sc__law_laid.nd rfl (Or.inl rfl) (pe_callTy call_int1 (by rfl) T.z_int (by decide +kernel) (pa_cons (pe_and (pe_cmpR op_gt (pv 4) pe_int (nomark _)) (pe_and (pe_cmpR op_in_sign (pe_slice sl_str (pe_ix ix_list (pv 1) (pe_op op_sub (pv 4) pe_int) (fun _ _ => rfl)) (po_some (pe_un un_neg pe_int)) po_none) pe_str (by rfl)) (pe_one (pe_cmpR op_in_sign (pe_slice sl_str (pv 5) po_none (po_some pe_int)) pe_str (by rfl))))) pa_nil)))
  (pss_cons (ps_set (i := 2) sc__law_laid.nd rfl (Or.inl rfl) (pe_op op_add_str (pv 2) (pe_ix ix_list (pe_lst (pa_cons pe_str (pa_cons pe_str (pa_cons pe_str (pa_cons pe_str pa_nil))))) (pe_callB (call_max2 rfl) (by rfl) T.z_max (by decide +kernel) (pa_cons (pv 6) (pa_cons (pe_call (ok__law_next T) (hr.mono (by decide)) rfl T.d__law_next.g T.d__law_next.F.kp T.d__law_next.b .nil pass0 (pa_cons (pv 0) (pa_cons pe_int pa_nil))) pa_nil))) (fun _ _ => rfl))))
  (pss_cons (ps_expr (pe_bm PySem.F.plainAttrs_list PySem.F.slot_list_append PySem.F.type_list_append mt_append (pv 3) (pa_cons (pe_op op_add (pe_callB call_len (by rfl) T.z_len PySem.boot_len (pa_cons (pv 2) pa_nil)) pe_int) pa_nil)))
  (pss_one (ps_set (i := 2) sc__law_laid.nd rfl (Or.inl rfl) (pe_op op_add_str (pv 2) (pv 5))))))))
  (pss_cons (ps_set (i := 2) sc__law_laid.nd rfl (Or.inl rfl) (pe_op op_add_str (pv 2) (pe_ix ix_list (pe_lst (pa_cons pe_str (pa_cons pe_str (pa_cons pe_str pa_nil)))) (pe_call (ok__law_next T) (hr.mono (by decide)) rfl T.d__law_next.g T.d__law_next.F.kp T.d__law_next.b .nil pass0 (pa_cons (pv 0) (pa_cons pe_int pa_nil))) (fun _ _ => rfl))))
  (pss_one (ps_ret (pe_tup (pa_cons (pv 2) (pa_cons (pe_op op_cat (pv 3) (pe_lst (pa_cons (pe_op op_add (pe_callB call_len (by rfl) T.z_len PySem.boot_len (pa_cons (pv 2) pa_nil)) pe_int) pa_nil))) pa_nil))))))))), ?_⟩
    have hzn : H z ≠ none := by
      obtain ⟨c, kk, ns, h1, _⟩ := hz
      rw [h1]
      exact fun z => nomatch z
    refine q_asg (ev_str (y := wS []) no_sign) fun H1 e1 => ?_
    refine q_asgL (el_lst ea_nil (by decide)) fun pl H2 hpl e2 h2 => ?_
    have e12 := e1.trans e2
    have hpl0 : H pl = none := fresh_back e1 hpl
    have plz : pl ≠ z := fun e => hzn (by rw [← e]; exact hpl0)
    refine ⟨_, rfl, a, ws.map (fun x => V.str (wS x)), rfl, sq_of (e12 _ _ ha), for_it walk_enum (fun i σ' H' => ∃ (l : Ly) (rk rw' rn : Option V), σ' = [some (.ref z), some (.ref a), some (.str (wS (textC l))), some (.ref pl), rk, rw', rn] ∧ l.map (·.2) = ws.take i ∧ Near false l ∧ (∀ q ∈ l, q.1 ≤ 3 ∧ q.2.length ≤ 7) ∧
      XB z H H' ∧ Strm H' z L ∧ H' pl = some (.lst ((colsC 0 l).map V.int))) ⟨[], none, none, none, rfl, rfl, trivial, (fun _ h => nomatch h), xb_of e12, hz.ex e12, h2⟩ (fun i σ' H' _ ⟨_, _, _, _, _, _, _, _, x, _⟩ => sq_of (x _ _ naz ha)) ?_ ?_⟩
    · rintro i x σ' Ha Hb hi ⟨l, rk, rw', rn, rfl, hlw, hn, hb3, x3, hs3, h3⟩ ⟨Tn, v1, v2, rfl, hTn, rfl, hv1, hv2⟩
      cases hv1
      have hi' : i < ws.length := by simpa using hi
      have hv2' : v2 = V.str (wS ws[i]) := by
        simp [hi'] at hv2
        exact hv2.symm
      subst hv2'
      have eT : Ex Ha (upd Ha Tn (.tup [.int (i : Int), V.str (wS ws[i])])) := Ex.new hTn
      refine ⟨Tn, _, rfl, st_of upd_same, rfl, _, _, rfl, _, _, rfl, rfl, ?_⟩
      generalize hHc : upd Ha Tn (.tup [.int (i : Int), V.str (wS ws[i])]) = Hc at eT
      have x4 : XB z H Hc := x3.trans (xb_of eT)
      have hs4 := hs3.ex eT
      have h4 := eT _ _ h3
      have ha4 : Hc a = some (.lst (ws.map fun x => V.str (wS x))) := x4 _ _ naz ha
      obtain ⟨wne, wl⟩ := hws ws[i] (List.getElem_mem hi')
      obtain ⟨hc, hr', hwi⟩ : ∃ c r, ws[i] = c :: r := by
        cases hwi : ws[i] with
        | nil => exact absurd hwi wne
        | cons c r => exact ⟨c, r, rfl⟩
      have hll : l.length = i := by
        have := congrArg List.length hlw
        simp at this
        omega
      have htl := textC_len l hb3
      -- near
      obtain ⟨nb, hnb, hnb2⟩ : ∃ nb : Bool, Ev (tAndV (tOp (rI0 fun i j => .bl (decide (j < i))) (tVar 4) (tC (.int 0))) (tAndV (tOp (fun x y H Q => ∃ (c : Nat) (z : Str), x = V.str ⟨#[c]⟩ ∧ y = V.str z ∧ Q (.bl (decide (c ∈ z.cps.toList))) H) (tSl rSlS (tOp (rIxL K) (tVar 1) (tOp (rI0 fun i j => .int (i - j)) (tVar 4) (tC (.int 1)))) (tPart (tUn (rU fun i => .int (-i)) (tC (.int 1)))) tNoPart) (tC (.str (Str.ofString "0123456789"))))
          (tOp (fun x y H Q => ∃ (c : Nat) (z : Str), x = V.str ⟨#[c]⟩ ∧ y = V.str z ∧ Q (.bl (decide (c ∈ z.cps.toList))) H) (tSl rSlS (tVar 5) tNoPart (tPart (tC (.int 1)))) (tC (.str (Str.ofString "0123456789"))))))
          [some (.ref z), some (.ref a), some (.str (wS (textC l))), some (.ref pl), some (.int (i : Int)), some (V.str (wS ws[i])), rn] Hc (.bl nb) ∧ (lastD false l = true → dig? ws[i].head? = true → nb = true) := by
        by_cases hi0 : 0 < i
        · obtain ⟨j, rfl⟩ : ∃ j, i = j + 1 := ⟨i - 1, by omega⟩
          have hj : j < ws.length := by omega
          obtain ⟨pne, pl'⟩ := hws ws[j] (List.getElem_mem hj)
          have hat : atI (ws.map fun x => V.str (wS x)) (((j + 1 : Nat) : Int) - 1) = some (V.str (wS ws[j])) := by
            have ej : (((j + 1 : Nat) : Int) - 1) = (j : Int) := by omega
            rw [ej]
            exact atI_nat (by simp [hj])
          refine ⟨true && (isDig (ws[j].getLast pne) && isDig hc), ev_is (ev_andV (ev_op (ev_var rfl) ev_c rv_I0) fun _ => ev_andV (ev_op (ev_is (ev_sl_s (ev_ixl (ev_var rfl) (ev_op (ev_var rfl) ev_c rv_I0) (sq_of ha4) hat) (eo_some (ev_neg ev_c)) eo_none (by rw [wS_len]; omega)) (congrArg V.str (cut_last pne))) ev_c rv_insign) fun _ => ev_op (ev_is (ev_sl_s (ev_var rfl) eo_none (eo_some ev_c) (by rw [wS_len]; omega)) (congrArg V.str (by rw [hwi]; exact cut_head))) ev_c rv_insign) ?_, fun hl1 hd1 => ?_⟩
          · rw [in_digits, in_digits]
            have : decide ((0 : Int) < ((j + 1 : Nat) : Int)) = true := decide_eq_true (by omega)
            rw [this]
          · have hlast : lastD false l = isDig (ws[j].getLast pne) := by
              rw [lastD_eq]
              have hgl : (l.map (·.2)).getLast? = some ws[j] := by
                rw [hlw, List.take_succ, List.getLast?_append]
                simp [hj]
              rw [List.getLast?_map] at hgl
              cases hg : l.getLast? with
              | none => rw [hg] at hgl; cases hgl
              | some q =>
                rw [hg] at hgl
                have : q.2 = ws[j] := Option.some.inj hgl
                show dig? q.2.getLast? = _
                rw [this]
                exact dig_get pne
            rw [hlast] at hl1
            rw [hwi] at hd1
            have hd2 : isDig hc = true := hd1
            rw [hl1, hd2]
            rfl
        · have hi00 : i = 0 := by omega
          subst hi00
          have hl0 : l = [] := List.length_eq_zero_iff.mp hll
          subst hl0
          refine ⟨false, ev_is (ev_andV (a := false) (b := false) (ev_is (ev_op (ev_var rfl) ev_c rv_I0) (by simp)) (fun h => nomatch h)) rfl, fun h => nomatch h⟩
      refine q_asg (ev_intb hnb) fun H5 e5 => ?_
      have x5 : XB z H H5 := x4.trans (xb_of e5)
      have hs5 := hs4.ex e5
      refine q_set ⟨_, rfl, ?_⟩
      refine (el_lst (ea_cons ev_c (ea_three ev_c ev_c ev_c)) (by simp)) H5 (Ex.refl H5) _ fun p1 H6 hp1 e6 h6 => ?_
      have hs6 := hs5.ex e6
      refine a_in ⟨_, rfl, a_in (c_in (a_in ⟨_, rfl, a_in ?_⟩))⟩
      refine ⟨z, L, 4, rfl, hs6, by decide, by decide, fun d H7 hd0 hd4 x7 hs7 => ?_⟩
      have p1z : p1 ≠ z := hs5.ne hp1
      obtain ⟨m, hm, hm4, hmn⟩ : ∃ m : Nat, (if d > (if nb = true then 1 else 0) then d else (if nb = true then 1 else 0)) = (m : Int) ∧ m < 4 ∧ (nb = true → 1 ≤ m) := by
        refine ⟨(if d > (if nb = true then 1 else 0) then d else (if nb = true then 1 else 0)).toNat, ?_, ?_, fun h => ?_⟩
        · cases nb <;> simp <;> split <;> omega
        · cases nb <;> simp <;> split <;> omega
        · subst h
          simp
          split <;> omega
      refine ⟨_, d, rfl, ?_⟩
      rw [hm]
      refine ⟨p1, _, _, _, rfl, rfl, sq_of (x7 _ _ p1z h6), atI_nat (blanks4 m hm4), wS (textC l), wS (List.replicate m 32), rfl, rfl, sz_of (by rw [wS_len, wS_len]; simp; omega), ?_⟩
      rw [wS_app]
      have x07 : XB z H H7 := (x5.trans (xb_of e6)).trans x7
      have hpl7 : H7 pl = some (.lst ((colsC 0 l).map V.int)) := x7 _ _ plz (e6 _ _ (e5 _ _ h4))
      refine q_app hpl7 (ev_var rfl) (ev_op (ev_len_s (ev_var rfl) (by rw [wS_len]; simp; omega)) ev_c rv_I0) (by simp [colsC_len]; omega) fun H8 e8 => ?_
      refine s_asg (ev_op (ev_var rfl) (ev_var rfl) (rv_adds (by rw [wS_len, wS_len]; simp; omega))) fun H9 e9 => ?_
      refine ⟨l ++ [(m, ws[i])], some (.int (i : Int)), some (V.str (wS ws[i])), some (.int (if nb = true then 1 else 0)), ?_, ?_, ?_, ?_, ?_, ?_, ?_⟩
      · rw [wS_app, textC_app]
        simp [textC]
      · rw [List.map_append, hlw, List.take_succ]
        simp [hi']
      · refine (near_app _ _ _).mpr ⟨hn, fun h1 h2 => hmn (hnb2 h1 h2), trivial⟩
      · intro q hq
        rcases List.mem_append.mp hq with hq | hq
        · exact hb3 q hq
        · rw [List.mem_singleton.mp hq]
          exact ⟨by omega, wl⟩
      · intro b o nbz hbo
        refine e9 _ _ ?_
        by_cases hbp : b = pl
        · rw [hbp, hpl0] at hbo; cases hbo
        · rw [upd_ne hbp]
          exact e8 _ _ (x07 b o nbz hbo)
      · obtain ⟨c, kk, ns, g1, g2, g3⟩ := hs7.ex e8
        have hLp : L ≠ pl := fun e => by
          obtain ⟨ns0, f2⟩ := hz.sc
          rw [e, hpl0] at f2
          cases f2
        refine Strm.ex ?_ e9
        exact ⟨c, kk, ns, by rw [upd_ne plz.symm]; exact g1, by rw [upd_ne hLp]; exact g2, g3⟩
      · refine e9 _ _ ?_
        rw [upd_same, colsC_app, List.map_append]
        simp [colsC, wS_len]
    · rintro σ' Ha ⟨l, rk, rw', rn, rfl, hlw, hn, hb3, x3, hs3, h3⟩
      have hlw' : l.map (·.2) = ws := by
        rw [hlw, List.length_map, List.take_length]
      have hll : l.length = ws.length := by
        have := congrArg List.length hlw'
        simpa using this
      have htl := textC_len l hb3
      refine e_nx ?_
      refine q_set ⟨_, rfl, ?_⟩
      refine (el_lst (ea_three ev_c ev_c ev_c) (by simp)) Ha (Ex.refl Ha) _ fun p1 H6 hp1 e6 h6 => ?_
      have hs6 := hs3.ex e6
      have p1z : p1 ≠ z := hs3.ne hp1
      refine c_in (a_in ⟨_, rfl, a_in ?_⟩)
      refine ⟨z, L, 3, rfl, hs6, by decide, by decide, fun d H7 hd0 hd4 x7 hs7 => ?_⟩
      obtain ⟨m, rfl⟩ : ∃ m : Nat, d = (m : Int) := ⟨d.toNat, by omega⟩
      refine ⟨p1, _, _, _, rfl, rfl, sq_of (x7 _ _ p1z h6), atI_nat (blanks3 m (by omega)), wS (textC l), wS (List.replicate m 32), rfl, rfl, sz_of (by rw [wS_len, wS_len]; simp; omega), ?_⟩
      rw [wS_app]
      have x07 : XB z H H7 := (x3.trans (xb_of e6)).trans x7
      have hpl7 : H7 pl = some (.lst ((colsC 0 l).map V.int)) := x7 _ _ plz (e6 _ _ h3)
      refine r_in (t_in (a_in ⟨_, rfl, a_in ?_⟩))
      refine (el_cat1 (xs := (colsC 0 l).map V.int) (ev_var (i := 3) rfl) hpl7 (el_lst (ea_one (ev_op (ev_len_s (ev_var (i := 2) rfl) (by rw [wS_len]; simp; omega)) ev_c rv_I0)) (by simp)) (by simp [colsC_len]; omega)) H7 (Ex.refl H7) _ fun pl2 H8 hpl2 e8 h8 => ?_
      refine ⟨by simp; decide, fun p hp => ?_⟩
      have e9 : Ex H8 (upd H8 p (.tup [.str (wS (textC l ++ List.replicate m 32)), .ref pl2])) := Ex.new hp
      have hp0 : H p = none := by
        have h1 : H7 p = none := fresh_back e8 hp
        have nz : p ≠ z := hs7.ne h1
        exact x07.back h1 nz
      have hpl20 : H pl2 = none := x07.back hpl2 (hs7.ne hpl2)
      refine k l m p pl2 _ hlw' hn (by omega) (by omega) (x07.trans (xb_of (e8.trans e9))) ((hs7.ex e8).ex e9) hp0 hpl20 upd_same ?_
      refine (e9 _ _ h8).trans ?_
      rw [List.map_append]
      simp [wS_len]
end
end WC

/-! ## Kf5 -/
/-! what the law is told -/
namespace WC
open PySem PySem.Spec PyProof.Rows L2 Evl
section
variable {K : PySem.W.Frag} {σ : L2.St} {H H' : Hp} {te tb : TE}
/-- it hands back something new of which P is known -/
def EvN (te : TE) (σ : L2.St) (H : Hp) (P : Addr → Hp → Prop) : Prop := ∀ H1, Ex H H1 → ∀ Q : VK, (∀ p H2, Ex H1 H2 → P p H2 → Q (.ref p) H2) → te σ H1 Q
theorem en_ints {ta : TA} {ns : List Int} (h : EvA ta σ H (ns.map V.int)) (hl : ns.length ≤ 10) (hc : ∀ c ∈ ns, 0 ≤ c ∧ c ≤ 3) : EvN (tTup ta) σ H (fun p H => CostT H p ns.length) := fun H1 e Q q =>
  t_in (h H1 e _ fun H2 e2 => ⟨by have : sizeLine = 16777216 := rfl; simp; omega, fun p hp => q p _ (e2.trans (Ex.new hp)) ⟨ns, upd_same, rfl, hl, hc⟩⟩)
theorem en_pair {i j : Int} (hi : 0 ≤ i ∧ i ≤ 3) (hj : 0 ≤ j ∧ j ≤ 3) : EvN (tTup (tCons (tC (.int i)) (tCons (tC (.int j)) tNil))) σ H (fun p H => CostT H p 2) :=
  en_ints (ns := [i, j]) (ea_two ev_c ev_c) (by simp) (fun c hc => by
    rcases List.mem_cons.mp hc with rfl | hc
    · exact hi
    · rw [List.mem_singleton.mp hc]; exact hj)
/-- two pairs -/
def Two (p : Addr) (H : Hp) : Prop := ∃ a b, H p = some (.tup [.ref a, .ref b]) ∧ CostT H a 2 ∧ CostT H b 2
theorem Two.ex {p : Addr} {H H' : Hp} (e : Ex H H') (h : Two p H) : Two p H' := by
  obtain ⟨a, b, h1, h2, h3⟩ := h
  exact ⟨a, b, e _ _ h1, h2.ex e, h3.ex e⟩
theorem en_two {ta tb : TE} (h1 : EvN ta σ H (fun p H => CostT H p 2)) (h2 : EvN tb σ H (fun p H => CostT H p 2)) : EvN (tTup (tCons ta (tCons tb tNil))) σ H Two := fun H1 e Q q =>
  t_in (a_in (h1 H1 e _ fun p H2 e2 g2 => a_in (h2 H2 (e.trans e2) _ fun p' H3 e3 g3 => ⟨by simp; decide, fun x hx => q x _ ((e2.trans e3).trans (Ex.new hx)) ⟨p, p', upd_same, (g2.ex e3).ex (Ex.new hx), g3.ex (Ex.new hx)⟩⟩)))
theorem en_mdl : EvN (tTup (tCons (tTup (tCons (tC (.int 0)) (tCons (tC (.int 1)) tNil))) (tCons (tTup (tCons (tTup (tCons (tC (.int 0)) (tCons (tC (.int 0)) tNil))) (tCons (tTup (tCons (tC (.int 1)) (tCons (tC (.int 1)) tNil))) tNil))) (tCons (tTup (tCons (tTup (tCons (tC (.int 0)) (tCons (tC (.int 1)) tNil))) (tCons (tTup (tCons (tC (.int 1)) (tCons (tC (.int 0)) tNil))) tNil))) tNil)))) σ H (fun p H => MdAt H p) := fun H1 e Q q => by
  have b0 : (0 : Int) ≤ 0 ∧ (0 : Int) ≤ 3 := by decide
  have b1 : (0 : Int) ≤ 1 ∧ (1 : Int) ≤ 3 := by decide
  refine t_in (a_in (en_pair b0 b1 H1 (Ex.refl H1) _ fun p H2 e2 g2 => a_in (en_two (en_pair b0 b0) (en_pair b1 b1) H2 (Ex.refl H2) _ fun p' H3 e3 g3 => a_in (en_two (en_pair b0 b1) (en_pair b1 b0) H3 (Ex.refl H3) _ fun p'' H4 e4 g4 => ⟨by simp; decide, fun x hx => q x _ (((e2.trans e3).trans e4).trans (Ex.new hx)) ?_⟩))))
  have e5 : Ex H4 (upd H4 x (.tup [.ref p, .ref p', .ref p''])) := Ex.new hx
  obtain ⟨a, b, h1, h2, h3⟩ := (g3.ex e4).ex e5
  obtain ⟨c, d, h4, h5, h6⟩ := g4.ex e5
  refine ⟨p, p', p'', c, d, upd_same, ((g2.ex e3).ex e4).ex e5, ⟨[a, b], h1, rfl, by decide, fun r hr => ?_⟩, h4, h5, h6⟩
  rcases List.mem_cons.mp hr with rfl | hr
  · exact h2
  · rw [List.mem_singleton.mp hr]; exact h3
end
def GTup (H : Hp) (Q : VK) (c : Int) (x : Str) : Prop := ∀ p H', H p = none → Ex H H' → H' p = some (.tup [.int c, .str x]) → Q (.ref p) H'
def GTold (wh : Nat) (H : Hp) (Q : VK) (s : S) (l : List Tk) : Prop :=
  if wh = 0 then match run true s l with
    | .ahead o => ∀ p H', H p = none → Ex H H' → H' p = some (.lst (o.map V.str)) → Q (.ref p) H'
    | .bad c x => GTup H Q c x
    | .ok => True
  else match run false s l with
    | .ahead _ => True
    | .bad c x => GTup H Q c x
    | .ok => (∀ p H', H p = none → Ex H H' → H' p = some (.lst []) → Q (.ref p) H') ∧ ∀ c x, NotExp x → GTup H Q c x
theorem lk_col {a b : V} : List.lookup (Str.ofString "column") [(Str.ofString "words", a), (Str.ofString "column", b)] = some b := by
  have h : (Str.ofString "column" == Str.ofString "words") = false := by decide +kernel
  simp [List.lookup, h]
theorem set4 {σ : L2.St} (h : σ.length = 5) (v : Option V) : (σ.set 4 v)[4]? = some v := by
  rw [List.getElem?_set_self (by omega)]
section
variable {P : Program} {w : World} {K : PySem.W.Frag} {mg : Str → Option Value} {base : Heap}
def spTO : Sp := fun vs H Q _ => ∃ (z : Str) (m : Bool) (wh : Nat) (R : Sc), vs = [.str z, .str (kindS m), .int (wh : Int)] ∧ wh ≤ 2 ∧ Fit z ∧ Scans z.cps.toList 0 R ∧ (∀ c x, R = .error (c, x) → GTup H Q c x) ∧ (∀ l, R = .ok l → GTold wh H Q (startS m) l)
theorem ok__law_told (T : Tx K mg) : FnOk P w K mg base CX0 8 T.d__law_told.f T.d__law_told.fd ["_law_text", "_law_kind", "_law_which"] spTO := by
  refine T.d__law_told.F.ok sc__law_told (fun vs H Q E h => ?_) (fun cdv A outer s H vs Q E hr h => ?_)
  · obtain ⟨z, m, wh, R, rfl, _⟩ := h
    rfl
  · obtain ⟨z, m, wh, R, rfl, hwh, hz, hR, he, k⟩ := h
    refine ⟨_, (pss_cons (ps_set (i := 3) sc__law_told.nd rfl (Or.inl rfl) (pe_tup (pa_cons (pe_tup (pa_cons pe_int (pa_cons pe_int pa_nil))) (pa_cons (pe_tup (pa_cons (pe_tup (pa_cons pe_int (pa_cons pe_int pa_nil))) (pa_cons (pe_tup (pa_cons pe_int (pa_cons pe_int pa_nil))) pa_nil))) (pa_cons (pe_tup (pa_cons (pe_tup (pa_cons pe_int (pa_cons pe_int pa_nil))) (pa_cons (pe_tup (pa_cons pe_int (pa_cons pe_int pa_nil))) pa_nil))) pa_nil)))))
  (pss_cons (ps_try_as (i := 4) rfl rfl sc__law_told.nd rfl rfl ⟨rfl, by decide, Or.inl T.g_TextError⟩ takes0
  (fun W pn xe tk pn_own => (pss_cons (ps_if (pt_cmpR op_eq (pv 2) pe_int (nomark _))
  (pss_one (ps_ret (pe_call (ok_next_tokens T) (hr.mono (by decide)) rfl T.d_next_tokens.g T.d_next_tokens.F.kp T.d_next_tokens.b .nil (passA tk rfl) (pa_cons (pv 0) (pa_cons (pv 1) pa_nil)))))
  pss_nil)
  (pss_one (ps_if (pt_cmpR op_eq (pv 1) pe_str (nomark _))
  (pss_one (ps_expr (pe_call (ok_read_model T) (hr.mono (by decide)) rfl T.d_read_model.g T.d_read_model.F.kp T.d_read_model.b .nil (passA tk rfl) (pa_cons (pv 0) pa_nil))))
  (pss_one (ps_if (pt_cmpR op_eq (pv 2) pe_int (nomark _))
  (pss_one (ps_expr (pe_call (ok_read_signs T) (hr.mono (by decide)) rfl T.d_read_signs.g T.d_read_signs.F.kp T.d_read_signs.b .nil (passA tk rfl) (pa_cons (pv 3) (pa_cons (pv 0) pa_nil)))))
  (pss_one (ps_expr (pe_call (ok_read_row T) (hr.mono (by decide)) rfl T.d_read_row.g T.d_read_row.F.kp T.d_read_row.b .nil (passA tk rfl) (pa_cons (pv 3) (pa_cons (pv 0) pa_nil)))))))))))
  (fun a oe cls d pn hz hf => (pss_one (ps_ret (pe_tup (pa_cons (pe_xf T.xf_TextError T.no_TextError_column hz hf (pv 4)) (pa_cons (pe_xf T.xf_TextError T.no_TextError_words hz hf (pv 4)) pa_nil)))))))
  (pss_one (ps_ret (pe_lst pa_nil))))), ?_⟩
    refine q_set ?_
    refine en_mdl H (Ex.refl H) _ fun pm H1 e1 hmd => ?_
    have err : ∀ {H2 : Hp} (c : Int) (x : Str), Ex H H2 → GTup H Q c x → Rz T.C_TextError c x H2 (EA 5 (wAs K (.ref T.C_TextError) 4 (fun a cls d => tRet (tTup (tCons (tXf a cls d T.C_TextError "column" (tVar 4)) (tCons (tXf a cls d T.C_TextError "words" (tVar 4)) tNil)))) (fun _ _ _ _ => False) { nx := (tRet (tLst tNil)) { nx := fun _ H' => Q .non H', rt := Q }, rt := Q })) := by
      intro H2 c x e2 g H3 d e3 hd h3 σ hσ
      refine ⟨true, T.ex_TT, fun _ a ha => r_in (t_in (a_in ⟨_, set4 hσ _, rfl, rfl, d, _, .int c, rfl, h3, lk_col, a_in ⟨_, set4 hσ _, rfl, rfl, d, _, .str x, rfl, h3, by simp [List.lookup], ⟨by simp; decide, fun p hp => g p _ (fresh_back (e2.trans e3) hp) ((e2.trans e3).trans (Ex.new hp)) upd_same⟩⟩⟩)), (fun z => nomatch z)⟩
    have done : ∀ {H2 : Hp} {σ : L2.St}, Ex H H2 → (∀ p H', H p = none → Ex H H' → H' p = some (.lst []) → Q (.ref p) H') → (tRet (tLst tNil)) { nx := fun _ H' => Q .non H', rt := Q } σ H2 := fun e2 g =>
      s_retL (el_lst ea_nil (by simp)) fun p H3 hp e3 h3 => g p H3 (fresh_back e2 hp) (e2.trans e3) h3
    refine q_when (b := decide (wh = 0)) (et_is (et_test (ev_op (ev_var rfl) ev_c (rv_eq rfl))) ?_) (fun h0 H2 e2 => ?_) (fun h0 H2 e2 => ?_)
    · simp
    · have e12 := e1.trans e2
      have hw0 : wh = 0 := of_decide_eq_true h0
      refine r_in (c_in ((ea_two (ev_var rfl) (ev_var rfl)) H2 (Ex.refl H2) _ fun H3 e3 => ?_))
      have e13 := e12.trans e3
      refine ⟨z, m, R, rfl, hz, hR, fun c x h => err c x e13 (he c x h), fun l hl => ?_⟩
      have g := k l hl
      unfold GTold at g
      rw [if_pos hw0] at g
      cases hrun : run true (startS m) l with
      | ahead o =>
        rw [hrun] at g
        exact fun p H' hp e' h' => g p H' (fresh_back e13 hp) (e13.trans e') h'
      | bad c x =>
        rw [hrun] at g
        exact err c x e13 g
      | ok => trivial
    · have e12 := e1.trans e2
      have hw0 : wh ≠ 0 := of_decide_eq_false h0
      have gR : ∀ {H3 : Hp} {σ1 : L2.St} (l : List Tk), Ex H H3 → R = .ok l → GiveR T.C_TextError H3 (fun _ H' => (tRet (tLst tNil)) { nx := fun _ H' => Q .non H', rt := Q } σ1 H') (EA 5 (wAs K (.ref T.C_TextError) 4 (fun a cls d => tRet (tTup (tCons (tXf a cls d T.C_TextError "column" (tVar 4)) (tCons (tXf a cls d T.C_TextError "words" (tVar 4)) tNil)))) (fun _ _ _ _ => False) { nx := (tRet (tLst tNil)) { nx := fun _ H' => Q .non H', rt := Q }, rt := Q })) (run false (startS m) l) := by
        intro H3 σ1 l e3 hl
        have g := k l hl
        unfold GTold at g
        rw [if_neg hw0] at g
        cases hrun : run false (startS m) l with
        | ahead o => trivial
        | bad c x =>
          rw [hrun] at g
          exact err c x e3 g
        | ok =>
          rw [hrun] at g
          exact ⟨fun v H' e' => done (e3.trans e') g.1, fun c x hx => err c x e3 (g.2 c x hx)⟩
      refine s_if (b := m) (et_is (et_test (ev_op (ev_var rfl) ev_c (rv_eq rfl))) ?_) (fun hm H3 e3 => ?_) (fun hm H3 e3 => ?_)
      · cases m <;> decide +kernel
      · subst hm
        refine c_in ((ea_one (ev_var rfl)) H3 (Ex.refl H3) _ fun H4 e4 => ?_)
        have e14 := (e12.trans e3).trans e4
        exact ⟨z, R, rfl, hz, hR, fun c x h => err c x e14 (he c x h), fun l hl => gR (σ1 := []) l e14 hl⟩
      · subst hm
        refine s_if (b := decide (wh = 1)) (et_is (et_test (ev_op (ev_var rfl) ev_c (rv_eq rfl))) ?_) (fun _ H4 e4 => ?_) (fun _ H4 e4 => ?_)
        · simp
          omega
        · refine c_in ((ea_two (ev_var rfl) (ev_var rfl)) H4 (Ex.refl H4) _ fun H5 e5 => ?_)
          have e15 := ((e12.trans e3).trans e4).trans e5
          exact ⟨pm, z, R, rfl, hmd.ex (((e2.trans e3).trans e4).trans e5), hz, hR, fun c x h => err c x e15 (he c x h), fun l hl => gR (σ1 := []) l e15 hl⟩
        · refine c_in ((ea_two (ev_var rfl) (ev_var rfl)) H4 (Ex.refl H4) _ fun H5 e5 => ?_)
          have e15 := ((e12.trans e3).trans e4).trans e5
          exact ⟨pm, z, R, rfl, hmd.ex (((e2.trans e3).trans e4).trans e5), hz, hR, fun c x h => err c x e15 (he c x h), fun l hl => gR (σ1 := []) l e15 hl⟩
end
end WC

/-! ## Kf6 -/
/-! in front of a token and at the end -/
namespace WC
open PySem PySem.Spec PyProof.Rows L2 Evl
/-! ### a laid walk -/
theorem split_words : ∀ (ws : List Wd) (l : Ly), l.map (·.2) = ws.map Wd.cs → ∃ l' : Lw, ly l' = l ∧ l'.map (·.2) = ws
  | [], [], _ => ⟨[], rfl, rfl⟩
  | [], q :: l, h => by simp at h
  | w :: ws, [], h => by simp at h
  | w :: ws, (b, x) :: l, h => by
    simp only [List.map_cons, List.cons.injEq] at h
    obtain ⟨l', h1, h2⟩ := split_words ws l h.2
    refine ⟨(b, w) :: l', ?_, by simp [h2]⟩
    show (b, w.cs) :: ly l' = _
    rw [h1, h.1]
theorem blank_head (e : Nat) : ∀ c, (List.replicate e 32).head? = some c → isDig c = false := by
  intro c hc
  cases e with
  | zero => cases hc
  | succ e => rw [List.replicate_succ, List.head?_cons] at hc; cases hc; decide
theorem scans_end (n e : Nat) : Scans (List.replicate e 32) n (.ok [.fin ((n + e + 1 : Nat) : Int)]) := by
  have := scans_blanks e (y := []) (n := n) (R := .ok [.fin ((n + e + 1 : Nat) : Int)]) (.nil _)
  rw [List.append_nil] at this
  exact this
theorem scans_laid (l : Lw) (e : Nat) (hn : Near false (ly l)) : Scans (textC (ly l) ++ List.replicate e 32) 0 (.ok (toks 0 l ++ [.fin (((textC (ly l)).length + e + 1 : Nat) : Int)])) := by
  have h := scans_walk l false 0 (List.replicate e 32) (.ok [.fin (((textC (ly l)).length + e + 1 : Nat) : Int)]) hn (fun _ => blank_head e) (by
    rw [Nat.zero_add]
    exact scans_end _ e)
  exact h
theorem no10 : ∀ (l : Ly), (∀ q ∈ l, 10 ∉ q.2) → 10 ∉ textC l
  | [], _ => by simp [textC]
  | (b, x) :: l, h => by
    have h1 := h (b, x) List.mem_cons_self
    have h2 := no10 l fun q hq => h q (List.mem_cons_of_mem _ hq)
    simp only [textC, List.mem_append, List.mem_replicate]
    rintro (⟨_, h⟩ | h | h)
    · exact absurd h (by decide)
    · exact h1 h
    · exact h2 h
theorem fit_laid {l : Ly} {e n : Nat} (h : ∀ q ∈ l, 10 ∉ q.2) (hl : (textC l).length ≤ 10 * n) (hn : n ≤ 30) (he : e ≤ 2) : Fit (wS (textC l ++ List.replicate e 32)) := by
  refine ⟨by rw [wS_len]; simp; omega, ?_⟩
  rw [wS_cs]
  simp only [List.mem_append, List.mem_replicate]
  rintro (h' | ⟨_, h'⟩)
  · exact no10 l h h'
  · exact absurd h' (by decide)
theorem wd_no10 (w : Wd) : 10 ∉ w.cs := by
  cases w with
  | num k => revert k; decide
  | bar => decide
  | com => decide
theorem ly_no10 (l : Lw) : ∀ q ∈ ly l, 10 ∉ q.2 := by
  intro q hq
  obtain ⟨p, _, rfl⟩ := List.mem_map.mp hq
  exact wd_no10 _
theorem wd_le (w : Wd) : w.cs ≠ [] ∧ w.cs.length ≤ 7 := by
  have := cs_len w
  exact ⟨fun h => by rw [h] at this; exact absurd this.1 (by decide), by omega⟩
theorem start_walk {s s' : S} {l : Lw} {ws : List Wd} (hl : l.map (·.2) = ws) (h : stepsW s ws = some s') (st : Bool) (T : List Tk) : run st s (toks 0 l ++ T) = run st s' T := run_walk st T l 0 s s' (by rw [hl]; exact h)
def S.ends (s : S) : Bool := (s.step (.fin 0)).isSome
theorem ends_in (s : S) : inV (.str "the end") ((inOrder s.opts).map V.str) = s.ends := by cases s <;> decide +kernel
theorem opts_flat (s : S) : ((inOrder s.opts).map V.str).all flatV = true := by cases s <;> decide +kernel
theorem opts_len (s : S) : ((inOrder s.opts).map V.str).length ≤ 1000 := by cases s <;> decide +kernel
theorem exp_len2 (s : S) : (Str.ofString "expected ").length + (joinedS (inOrder s.opts)).length ≤ 100000 := by cases s <;> decide +kernel
theorem Strm.neS {H : Hp} {z L a : Addr} {α : Type} {f : α → Str} {ws : List α} (h : Strm H z L) (ha : H a = some (.lst (ws.map fun x => V.str (f x)))) : a ≠ z := by
  obtain ⟨c, k, ns, h1, _⟩ := h
  intro e
  rw [e, h1] at ha
  have := Option.some.inj ha
  injection this with this
  cases ws <;> simp at this
theorem TblAt.xb {H H' : Hp} {z L t : Addr} {m : Bool} (h : TblAt H t m) (hz : Strm H z L) (x : XB z H H') : TblAt H' t m := by
  obtain ⟨c, k, ns, hz, _⟩ := hz
  have ne : ∀ {b : Addr} {d : List (Key × V)}, H b = some (.dK d) → b ≠ z := fun hb e => by rw [e, hz] at hb; cases hb
  obtain ⟨kvs, h1, h2⟩ := h
  refine ⟨kvs, x _ _ (ne h1) h1, fun s hs => ?_⟩
  obtain ⟨r, h3, h4⟩ := h2 s hs
  exact ⟨r, h3, x _ _ (ne h4) h4⟩
/-! ### values of which something is known -/
section
variable {K : PySem.W.Frag} {σ : L2.St} {H H' : Hp} {te ta tb tk tw : TE}
def EvW (te : TE) (σ : L2.St) (H : Hp) (P : V → Hp → Prop) : Prop := ∀ H1, Ex H H1 → ∀ Q : VK, (∀ v H2, Ex H1 H2 → P v H2 → Q v H2) → te σ H1 Q
def EvAW (ta : TA) (σ : L2.St) (H : Hp) (n : Nat) (P : V → Hp → Prop) : Prop := ∀ H1, Ex H H1 → ∀ Q : List V → Hp → Prop, (∀ vs H2, Ex H1 H2 → vs.length = n → (∀ v ∈ vs, P v H2) → Q vs H2) → ta σ H1 Q
def Keeps (P : V → Hp → Prop) : Prop := ∀ v H H', Ex H H' → P v H → P v H'
theorem EvW.mono {P : V → Hp → Prop} (h : EvW te σ H P) (e : Ex H H') : EvW te σ H' P := fun H1 e1 Q q => h H1 (e.trans e1) Q q
theorem ew_nil {P : V → Hp → Prop} : EvAW tNil σ H 0 P := fun H1 _ Q q => q [] H1 (Ex.refl H1) rfl (fun _ h => nomatch h)
theorem ew_cons {P : V → Hp → Prop} {tr : TA} {n : Nat} (kp : Keeps P) (h : EvW te σ H P) (r : EvAW tr σ H n P) : EvAW (tCons te tr) σ H (n + 1) P := fun H1 e Q q =>
  a_in (h H1 e _ fun v H2 e2 h2 => r H2 (e.trans e2) _ fun vs H3 e3 hn h3 => q (v :: vs) H3 (e2.trans e3) (congrArg (· + 1) hn) (fun x hx => by
    rcases List.mem_cons.mp hx with rfl | hx
    · exact kp _ _ _ e3 h2
    · exact h3 x hx))
def IsLst (n : Nat) (P : V → Hp → Prop) (v : V) (H : Hp) : Prop := ∃ p vs, v = .ref p ∧ H p = some (.lst vs) ∧ vs.length = n ∧ ∀ v ∈ vs, P v H
theorem ew_lst {P : V → Hp → Prop} {ta : TA} {n : Nat} (kp : Keeps P) (hn : n ≤ 1000) (h : EvAW ta σ H n P) : EvW (tLst ta) σ H (IsLst n P) := fun H1 e Q q => h H1 e _ fun vs H2 e2 hl h2 => by
  have : sizeLine = 16777216 := rfl
  exact ⟨by omega, fun p hp => q _ _ (e2.trans (Ex.new hp)) ⟨p, vs, rfl, upd_same, hl, fun v hv => kp _ _ _ (Ex.new hp) (h2 v hv)⟩⟩
theorem ew_var {P : V → Hp → Prop} {i : Nat} {v : V} (kp : Keeps P) (h : σ[i]? = some (some v)) (hv : P v H) : EvW (tVar i) σ H P := fun H1 e Q q => ⟨v, h, q v H1 (Ex.refl H1) (kp _ _ _ e hv)⟩
/-- what the law is told: a list of words, or a column and words -/
inductive Tld where
  | lst (o : List Str) | tup (c : Int) (x : Str)
def Tld.at : Tld → V → Hp → Prop
  | .lst o, v, H => ∃ p, v = .ref p ∧ H p = some (.lst (o.map V.str))
  | .tup c x, v, H => ∃ p, v = .ref p ∧ H p = some (.tup [.int c, .str x])
theorem Tld.keeps (t : Tld) : Keeps t.at := by
  intro v H H' e h
  cases t <;> exact ⟨_, h.choose_spec.1, e _ _ h.choose_spec.2⟩
/-- no words that tell of what is expected -/
def Free (v : V) (H : Hp) : Prop := (∃ p, v = .ref p ∧ H p = some (.lst [])) ∨ ∃ p c x, v = .ref p ∧ H p = some (.tup [.int c, .str x]) ∧ NotExp x
theorem Free.keeps : Keeps Free := by
  rintro v H H' e (⟨p, h1, h2⟩ | ⟨p, c, x, h1, h2, h3⟩)
  · exact .inl ⟨p, h1, e _ _ h2⟩
  · exact .inr ⟨p, c, x, h1, e _ _ h2, h3⟩
def GTP (wh : Nat) (P : V → Hp → Prop) (s : S) (l : List Tk) : Prop :=
  if wh = 0 then match run true s l with
    | .ahead o => ∀ v H, (Tld.lst o).at v H → P v H
    | .bad c x => ∀ v H, (Tld.tup c x).at v H → P v H
    | .ok => True
  else match run false s l with
    | .ahead _ => True
    | .bad c x => ∀ v H, (Tld.tup c x).at v H → P v H
    | .ok => ∀ v H, Free v H → P v H
theorem ew_told {z : Str} {m : Bool} {wh : Nat} {R : Sc} {P : V → Hp → Prop} {E : XK} (h1 : Ev ta σ H (.str z)) (h2 : Ev tb σ H (.str (kindS m))) (h3 : Ev tk σ H (.int (wh : Int))) (hw : wh ≤ 2) (hz : Fit z) (hR : Scans z.cps.toList 0 R)
    (he : ∀ c x, R = .error (c, x) → ∀ v H, (Tld.tup c x).at v H → P v H) (hk : ∀ l, R = .ok l → GTP wh P (startS m) l) : EvW (tCall spTO [] E (tCons ta (tCons tb (tCons tk tNil)))) σ H P := fun H1 e Q q => by
  refine c_in ((ea_three h1 h2 h3) H1 e _ fun H2 e2 => ?_)
  have gt : ∀ {c x}, (∀ v H, (Tld.tup c x).at v H → P v H) → GTup H2 Q c x := fun g p H' _ e' h' => q _ _ (e2.trans e') (g _ _ ⟨p, rfl, h'⟩)
  refine ⟨z, m, wh, R, rfl, hw, hz, hR, fun c x hc => gt (he c x hc), fun l hl => ?_⟩
  have g := hk l hl
  unfold GTP at g
  unfold GTold
  by_cases h0 : wh = 0
  · rw [if_pos h0] at g ⊢
    cases hrun : run true (startS m) l with
    | ahead o =>
      rw [hrun] at g
      exact fun p H' _ e' h' => q _ _ (e2.trans e') (g _ _ ⟨p, rfl, h'⟩)
    | bad c x => rw [hrun] at g; exact gt g
    | ok => trivial
  · rw [if_neg h0] at g ⊢
    cases hrun : run false (startS m) l with
    | ahead o => trivial
    | bad c x => rw [hrun] at g; exact gt g
    | ok =>
      rw [hrun] at g
      exact ⟨fun p H' _ e' h' => q _ _ (e2.trans e') (g _ _ (.inl ⟨p, rfl, h'⟩)), fun c x hx => gt fun v H hv => by
        obtain ⟨p, hp, h'⟩ := hv
        exact g _ _ (.inr ⟨p, c, x, hp, h', hx⟩)⟩
theorem ev_equal {P1 P2 : V → Hp → Prop} {E : XK} (h1 : EvW ta σ H P1) (k1 : Keeps P1) (h2 : EvW tb σ H P2) (h : ∀ x y H, P1 x H → P2 y H → Eqd 2 H x y) : Ev (tCall (spEQ 2) [] E (tCons ta (tCons tb tNil))) σ H (.bl true) := fun H1 e Q q =>
  c_in (a_in (h1 H1 e _ fun x H2 e2 g1 => a_in (h2 H2 (e.trans e2) _ fun y H3 e3 g2 => ⟨x, y, rfl, h x y H3 (k1 _ _ _ e3 g1) g2, fun H4 e4 => q H4 ((e2.trans e3).trans e4)⟩)))
theorem ew_ev {v : V} (h : Ev te σ H v) : EvW te σ H (fun x _ => x = v) := fun H1 e Q q => h H1 e Q fun H2 e2 => q v H2 e2 rfl
theorem ew_evU {xs : List V} (h : EvU te σ H xs) : EvW te σ H (fun x H => ∃ p, x = .ref p ∧ H p = some (.tup xs)) := fun H1 e Q q => h H1 e Q fun p H2 _ e2 h2 => q _ H2 e2 ⟨p, rfl, h2⟩
theorem base_refl_str (z : Str) : Base (.str z) (.str z) := .inr ⟨z, rfl, rfl⟩
theorem base_refl_int (i : Int) : Base (.int i) (.int i) := .inl ⟨i, rfl, rfl⟩
theorem eqd_mono0 {n : Nat} {H : Hp} {x y : V} (h : Base x y) : Eqd n H x y := by
  cases n with
  | zero => exact h
  | succ n => exact .inl h
theorem eqd_tup {n : Nat} {H : Hp} {x y : V} {c : Int} {w : Str} (h1 : (Tld.tup c w).at x H) (h2 : (Tld.tup c w).at y H) : Eqd (n + 1) H x y := by
  obtain ⟨p, rfl, g1⟩ := h1
  obtain ⟨q, rfl, g2⟩ := h2
  refine .inr ⟨p, q, _, _, rfl, rfl, .inr ⟨g1, g2⟩, rfl, by simp, fun i a b ha hb H1 e1 => ?_⟩
  rw [ha] at hb
  cases hb
  match i, ha with
  | 0, ha => cases ha; exact eqd_mono0 (base_refl_int _)
  | 1, ha => cases ha; exact eqd_mono0 (base_refl_str _)
theorem eqd_lst {n : Nat} {H : Hp} {x y : V} {o : List Str} (hl : o.length ≤ 1000) (h1 : (Tld.lst o).at x H) (h2 : (Tld.lst o).at y H) : Eqd (n + 1) H x y := by
  obtain ⟨p, rfl, g1⟩ := h1
  obtain ⟨q, rfl, g2⟩ := h2
  refine .inr ⟨p, q, _, _, rfl, rfl, .inl ⟨g1, g2⟩, rfl, by simpa using hl, fun i a b ha hb H1 e1 => ?_⟩
  rw [ha] at hb
  cases hb
  rw [List.getElem?_map] at ha
  cases ho : o[i]? with
  | none => rw [ho] at ha; cases ha
  | some z => rw [ho] at ha; cases ha; exact eqd_mono0 (base_refl_str z)
end
section
variable {P : Program} {w : World} {K : PySem.W.Frag} {mg : Str → Option Value} {base : Heap}
def spRI : Sp := fun vs H Q _ => ∃ (z L t a : Addr) (m : Bool) (s : S) (ws : List Wd), vs = [.ref z, .ref t, .str (kindS m), .ref a, .str s.name] ∧ Strm H z L ∧ TblAt H t m ∧ InM m s ∧
  H a = some (.lst (ws.map fun x => V.str x.txt)) ∧ stepsW (startS m) ws = some s ∧ ws.length ≤ 20 ∧ ∀ H', XB z H H' → Strm H' z L → Q (.bl true) H'
theorem ok__law_is_right (T : Tx K mg) : FnOk P w K mg base CX0 9 T.d__law_is_right.f T.d__law_is_right.fd ["_law_stream_here", "_law_table_here", "_law_kind", "_law_words", "_law_state"] spRI := by
  refine T.d__law_is_right.F.ok sc__law_is_right (fun vs H Q E h => ?_) (fun cdv A outer s H vs Q E hr h => ?_)
  · obtain ⟨z, L, t, a, m, s, ws, rfl, _⟩ := h
    rfl
  · obtain ⟨z, L, t, a, m, st, ws, rfl, hz, ht, hm, ha, hst, hws, k⟩ := h
    refine ⟨_, (pss_cons (ps_asg (pe_call (ok__law_laid T) (hr.mono (by decide)) rfl T.d__law_laid.g T.d__law_laid.F.kp T.d__law_laid.b .nil pass0 (pa_cons (pv 0) (pa_cons (pv 3) pa_nil))) (pg_tup (by rfl) (pgs_cons (pg_name (i := 5) sc__law_is_right.nd rfl (Or.inl rfl)) (pgs_cons (pg_name (i := 6) sc__law_is_right.nd rfl (Or.inl rfl)) pgs_nil))))
  (pss_cons (ps_set (i := 7) sc__law_is_right.nd rfl (Or.inl rfl) (pe_call (ok__law_due T) (hr.mono (by decide)) rfl T.d__law_due.g T.d__law_due.F.kp T.d__law_due.b .nil pass0 (pa_cons (pv 1) (pa_cons (pv 4) pa_nil))))
  (pss_cons (ps_if (pt_not (pt_val (pe_call (ok__law_equal T) (hr.mono (by decide)) rfl T.d__law_equal.g T.d__law_equal.F.kp T.d__law_equal.b .nil pass0 (pa_cons (pe_call (ok__law_told T) (hr.mono (by decide)) rfl T.d__law_told.g T.d__law_told.F.kp T.d__law_told.b .nil pass0 (pa_cons (pv 5) (pa_cons (pv 2) (pa_cons pe_int pa_nil)))) (pa_cons (pv 7) pa_nil)))))
  (pss_one (ps_ret pe_bl))
  pss_nil)
  (pss_cons (ps_for PassesOwn.never rfl (pi_list (pe_lst (pa_cons pe_int (pa_cons pe_int pa_nil)))) (pg_name (i := 8) sc__law_is_right.nd rfl (Or.inl rfl))
  (pss_cons (ps_set (i := 9) sc__law_is_right.nd rfl (Or.inl rfl) (pe_call (ok__law_told T) (hr.mono (by decide)) rfl T.d__law_told.g T.d__law_told.F.kp T.d__law_told.b .nil pass0 (pa_cons (pv 5) (pa_cons (pv 2) (pa_cons (pv 8) pa_nil)))))
  (pss_one (ps_if (pt_cmpR op_in_seq pe_str (pv 7) (by rfl))
  (pss_one (ps_if (PW.pt (pw_and (pt_not (pt_val (pe_callB call_isi (by rfl) T.z_isinstance (by decide +kernel) (pa_cons (pv 9) (pa_cons (pe_bltn (v := .ty "list") (by rfl) T.z_list (by decide +kernel) rfl) pa_nil))))) (pw_and1 (pt_cmpR op_eq (pe_slice sl_str (pe_ix ix_tup (pv 9) pe_int (fun _ _ => rfl)) po_none (po_some pe_int)) pe_str (nomark _)))))
  (pss_one (ps_ret pe_bl))
  pss_nil))
  (pss_one (ps_if (pt_not (pt_val (pe_call (ok__law_equal T) (hr.mono (by decide)) rfl T.d__law_equal.g T.d__law_equal.F.kp T.d__law_equal.b .nil pass0 (pa_cons (pv 9) (pa_cons (pe_tup (pa_cons (pe_ix ix_list (pv 6) (pe_un un_neg pe_int) (fun _ _ => rfl)) (pa_cons (pe_op op_add_str pe_str (pe_call (ok__law_listed T) (hr.mono (by decide)) rfl T.d__law_listed.g T.d__law_listed.F.kp T.d__law_listed.b .nil pass0 (pa_cons (pv 7) pa_nil))) pa_nil))) pa_nil)))))
  (pss_one (ps_ret pe_bl))
  pss_nil))))))
  (pss_one (ps_ret pe_bl)))))), ?_⟩
    refine q_asgG (c_in ((ea_two (ev_var (σ := [some (.ref z), some (.ref t), some (.str (kindS m)), some (.ref a), some (.str st.name), none, none, none, none, none]) (i := 0) rfl) (ev_var (i := 3) rfl)) H (Ex.refl H) _ fun H0 e0 => ?_))
    refine ⟨z, L, a, ws.map Wd.cs, rfl, hz.ex e0, hz.neS ha, by rw [e0 _ _ ha, List.map_map]; rfl, by simp; omega, fun x hx => ?_, fun l e p pl H1 hl hn htl he x1 hs1 hp hpl h1 h2 => ?_⟩
    · obtain ⟨w', _, rfl⟩ := List.mem_map.mp hx
      exact wd_le w'
    obtain ⟨lw, rfl, hlw⟩ := split_words ws l hl
    have x1 : XB z H H1 := (xb_of e0).trans x1
    have ht1 : TblAt H1 t m := ht.xb hz x1
    generalize hzz : wS (textC (ly lw) ++ List.replicate e 32) = zz at h1
    generalize hcol : (((textC (ly lw)).length + e + 1 : Nat) : Int) = col at h2
    have fit : Fit zz := by rw [← hzz]; exact fit_laid (ly_no10 lw) htl (by simp; omega) he
    have scan : Scans zz.cps.toList 0 (.ok (toks 0 lw ++ [.fin col])) := by rw [← hzz, ← hcol, wS_cs]; exact scans_laid lw e hn
    have runs : ∀ b, run b (startS m) (toks 0 lw ++ [.fin col]) = run b st [.fin col] := fun b => start_walk hlw hst b _
    refine ⟨p, _, rfl, st_of h1, rfl, _, _, rfl, _, _, rfl, rfl, ?_⟩
    refine q_asgL (el_call (ea_two (ev_var rfl) (ev_var rfl)) fun H2 e2 Q2 k2 E2 => ⟨t, m, st, rfl, ht1.ex e2, hm, fun p H' hp e' h' => k2 p H' hp e' h'⟩) fun du H2 hdu e2 h3 => ?_
    have errN : ∀ {Pv : V → Hp → Prop} (c : Int) (x : Str), (Except.ok (toks 0 lw ++ [Tk.fin col]) : Sc) = .error (c, x) → ∀ v H, (Tld.tup c x).at v H → Pv v H := fun c x h => nomatch h
    refine q_when (b := false) (et_not (et_B (ev_equal (P2 := (Tld.lst (inOrder st.opts)).at) (P1 := (Tld.lst (inOrder st.opts)).at) (ew_told (ev_var rfl) (ev_var rfl) (ev_is ev_c (show V.int 0 = V.int ((0 : Nat) : Int) from rfl)) (by decide) fit scan errN fun l hl => ?_) (Tld.keeps _) (ew_var (Tld.keeps _) rfl ⟨du, rfl, h3⟩) fun x y H4 g1 g2 => eqd_lst (by have := opts_len st; simpa using this) g1 g2))) (fun h => nomatch h) fun _ H3 e3 => ?_
    · cases hl
      unfold GTP
      rw [if_pos rfl, runs]
      exact fun v H h => h
    have e13 := e2.trans e3
    refine q_forNLn (xs := [.int 1, .int 2]) (el_lst (ea_two ev_c ev_c) (by simp)) (fun pd i σ' H' => ∃ r8 r9, σ' = [some (.ref z), some (.ref t), some (.str (kindS m)), some (.ref a), some (.str st.name), some (.str zz), some (.ref pl), some (.ref du), r8, r9] ∧ Ex H3 H' ∧ H' pd = some (.lst [.int 1, .int 2]))
      (fun pd H4 hpd e4 h4 => ⟨none, none, rfl, e4, h4⟩) (fun pd i σ' H' _ ⟨_, _, _, _, h⟩ => sq_of h) ?_ ?_
    · rintro pd i x σ' H4 hx ⟨r8, r9, rfl, e4, h4⟩
      obtain ⟨wh, rfl, hw0, hw2⟩ : ∃ wh : Nat, x = .int (wh : Int) ∧ wh ≠ 0 ∧ wh ≤ 2 := by
        match i, hx with
        | 0, hx => cases hx; exact ⟨1, rfl, by decide, by decide⟩
        | 1, hx => cases hx; exact ⟨2, rfl, by decide, by decide⟩
      have du4 : H4 du = some (.lst ((inOrder st.opts).map V.str)) := e4 _ _ (e3 _ _ h3)
      have pl4 := e4 _ _ (e13 _ _ h2)
      have told : ∀ {Pv : V → Hp → Prop} {E : XK}, (∀ v H, (if st.ends = true then Free v H else (Tld.tup col (expS st)).at v H) → Pv v H) → EvW (tCall spTO [] E (tCons (tVar 5) (tCons (tVar 2) (tCons (tVar 8) tNil)))) [some (.ref z), some (.ref t), some (.str (kindS m)), some (.ref a), some (.str st.name), some (.str zz), some (.ref pl), some (.ref du), some (.int (wh : Int)), r9] H4 Pv := by
        intro Pv E hp
        refine ew_told (ev_var rfl) (ev_var rfl) (ev_var rfl) hw2 fit scan errN fun l hl => ?_
        cases hl
        unfold GTP
        rw [if_neg hw0, runs, run_fin0]
        by_cases hs : st.ends = true
        · rw [if_pos (show (st.step (.fin 0)).isSome = true from hs)]
          exact fun v H h => hp v H (by rw [if_pos hs]; exact h)
        · rw [if_neg (show ¬ (st.step (.fin 0)).isSome = true from hs)]
          exact fun v H h => hp v H (by rw [if_neg hs]; exact h)
      refine q_set (told (Pv := fun v H => if st.ends = true then Free v H else (Tld.tup col (expS st)).at v H) (fun v H h => h) H4 (Ex.refl H4) _ fun tv H5 e5 htv => ?_)
      replace htv : if st.ends = true then Free tv H5 else (Tld.tup col (expS st)).at tv H5 := htv
      refine s_if (b := st.ends) (et_is (et_test (ev_op ev_c (ev_var rfl) (rv_isL (sq_of (e5 _ _ du4)) rfl (opts_flat st)))) (ends_in st)) (fun hs H6 e6 => ?_) (fun hs H6 e6 => ?_)
      · rw [if_pos hs] at htv
        have hfr := Free.keeps _ _ _ e6 htv
        refine s_when (b := false) ?_ (fun h => nomatch h) fun _ H7 e7 => ⟨_, _, rfl, ((e4.trans e5).trans e6).trans e7, e7 _ _ (e6 _ _ (e5 _ _ h4))⟩
        rcases hfr with ⟨p', rfl, h6⟩ | ⟨p', c', x', rfl, h6, hx6, hx7⟩
        · exact et_and (a := false) (b := false) (et_not (et_B (ev_isi (ev_var rfl) (tx_l h6) ev_c (b := true) (by decide +kernel)))) (fun h => nomatch h)
        · refine et_is (et_and (et_not (et_B (ev_isi (ev_var rfl) (tx_t h6) ev_c (b := false) (by decide +kernel)))) (fun _ => et_test (ev_op (ev_sl_s (ev_ixt (ev_var rfl) ev_c (st_of h6) (show atI [V.int c', V.str x'] 1 = some (.str x') from rfl)) eo_none (eo_some ev_c) (by omega)) ev_c (rv_eq rfl)))) ?_
          simp
          exact hx6
      · have hs' : ¬ st.ends = true := by simp [hs]
        rw [if_neg hs'] at htv
        have hfr := Tld.keeps _ _ _ _ e6 htv
        refine s_when (b := false) (et_not (et_B (ev_equal (P1 := (Tld.tup col (expS st)).at) (P2 := (Tld.tup col (expS st)).at) (ew_var (Tld.keeps _) rfl hfr) (Tld.keeps _) (ew_evU (eu_tup (ea_two (ev_ixl (ev_var rfl) (ev_neg ev_c) (sq_of (e6 _ _ (e5 _ _ pl4))) (by rw [List.map_append]; exact atI_last _ _)) (ev_op ev_c (ev_call (ea_one (ev_var rfl)) fun H7 e7 Q7 k7 E7 => ⟨du, st, rfl, sq_of (e7 _ _ (e6 _ _ (e5 _ _ du4))), k7⟩) (rv_adds ?_))) (by simp))) fun x y H8 g1 g2 => eqd_tup g1 g2))) (fun h => nomatch h) fun _ H7 e7 => ⟨_, _, rfl, ((e4.trans e5).trans e6).trans e7, e7 _ _ (e6 _ _ (e5 _ _ h4))⟩
        · have := exp_len st
          omega
    · rintro pd σ' H4 ⟨r8, r9, rfl, e4, _⟩
      refine s_ret ev_c fun H5 e5 => ?_
      have e15 := (e13.trans e4).trans e5
      exact k H5 (x1.trans (xb_of e15)) (hs1.ex e15)
end
end WC

/-! ## Kf7 -/
/-! with one token more behind the walk -/
namespace WC
open PySem PySem.Spec PyProof.Rows L2 Evl
theorem step_num (s : S) (k : Fin 5) : s.stepW (.num k) = s.stepW (.num 0) := by cases s <;> rfl
theorem row_step (s : S) (w : Wd) : valV (rowKV s) (.inr w.kd) = (s.stepW w).map fun s' => V.str s'.name := by
  cases w with
  | num k =>
    rw [step_num]
    show valV (rowKV s) (.inr "number") = _
    cases s <;> decide +kernel
  | bar => cases s <;> decide +kernel
  | com => cases s <;> decide +kernel
theorem step_inM {m : Bool} {s s' : S} {w : Wd} (h : InM m s) (hs : s.stepW w = some s') : InM m s' := by
  have e : (s' ≠ .nums) ↔ (s ≠ .nums) := by
    cases w <;> cases s <;> first | (cases hs; simp) | cases hs
  exact e.trans h
theorem step_kd (s : S) {w w' : Wd} (h : w.kd = w'.kd) : s.stepW w = s.stepW w' := by
  cases w with
  | num k =>
    cases w' with
    | num k' => rw [step_num, step_num s k']
    | bar => exact absurd h (by show ¬ (("number" : Str) = "|"); decide +kernel)
    | com => exact absurd h (by show ¬ (("number" : Str) = ","); decide +kernel)
  | bar =>
    cases w' with
    | num k' => exact absurd h (by show ¬ (("|" : Str) = "number"); decide +kernel)
    | bar => rfl
    | com => exact absurd h (by decide +kernel)
  | com =>
    cases w' with
    | num k' => exact absurd h (by show ¬ (("," : Str) = "number"); decide +kernel)
    | bar => exact absurd h (by decide +kernel)
    | com => rfl
theorem toks_app : ∀ (n : Nat) (l m : Lw), toks n (l ++ m) = toks n l ++ toks (n + (textC (ly l)).length) m
  | n, [], m => by simp [toks, ly, textC]
  | n, (b, w) :: r, m => by
    show _ :: toks (n + b + w.cs.length) (r ++ m) = _ :: (toks (n + b + w.cs.length) r ++ _)
    rw [toks_app]
    have : n + b + w.cs.length + (textC (ly r)).length = n + (textC (ly ((b, w) :: r))).length := by simp [textC, ly]; omega
    rw [this]
theorem ly_app (l m : Lw) : ly (l ++ m) = ly l ++ ly m := List.map_append ..
theorem split_lw {ws r : List Wd} {l : Lw} (h : l.map (·.2) = ws ++ r) : ∃ la lb, l = la ++ lb ∧ la.map (·.2) = ws ∧ lb.map (·.2) = r := by
  obtain ⟨la, lb, h1, h2, h3⟩ := List.map_eq_append_iff.mp h
  exact ⟨la, lb, h1, h2, h3⟩
def colAt (l : Ly) (b : Nat) : Int := (((textC l).length + b + 1 : Nat) : Int)
theorem run_at {s0 s : S} {la : Lw} {ws : List Wd} (hla : la.map (·.2) = ws) (hst : stepsW s0 ws = some s) (b : Nat) (w1 : Wd) (r : Lw) (st : Bool) (T : List Tk) :
    run st s0 (toks 0 (la ++ (b, w1) :: r) ++ T) = run st s (w1.tk (colAt (ly la) b) :: (toks ((textC (ly la)).length + b + w1.cs.length) r ++ T)) := by
  rw [toks_app, List.append_assoc, start_walk hla hst, Nat.zero_add]
  rfl
theorem place_at {l r : Ly} {b n : Nat} {x : List Nat} {T : List Int} (hn : l.length = n) : atI ((colsC 0 (l ++ (b, x) :: r) ++ T).map V.int) (n : Int) = some (.int (colAt l b)) := by
  refine atI_nat ?_
  rw [colsC_app, List.append_assoc, List.map_append, List.getElem?_append_right (by rw [List.length_map, colsC_len]; omega), List.length_map, colsC_len, hn, Nat.sub_self, Nat.zero_add]
  rfl
theorem stepsW_snoc' {s0 s s1 : S} {ws : List Wd} {w : Wd} (h : stepsW s0 ws = some s) (h1 : s.stepW w = some s1) : stepsW s0 (ws ++ [w]) = some s1 := by
  rw [stepsW_snoc, h]
  exact h1
section
variable {K : PySem.W.Frag} {σ : L2.St} {H H' : Hp} {te ta tb tk tw : TE} {z L : Addr}
def GivesV (te : TE) (σ : L2.St) (H : Hp) (z L : Addr) (P : V → Hp → Prop) : Prop := ∀ Q : VK, (∀ v H1, XB z H H1 → Strm H1 z L → P v H1 → Q v H1) → te σ H Q
theorem gv_kind {E1 E2 : XK} (h0 : σ[0]? = some (some (.ref z))) (hs : Strm H z L) : GivesV (tOp (rIxL K) (tCall spKD [] E1 tNil) (tCall spNX [] E2 (tCons (tVar 0) (tCons (tC (.int 3)) tNil)))) σ H z L (fun v _ => ∃ w0 : Wd, v = .str w0.kd) := fun Q q => by
  refine c_in ⟨rfl, fun p H1 hp e1 h1 => ?_⟩
  refine c_in (a_in ⟨_, h0, a_in ?_⟩)
  refine ⟨z, L, 3, rfl, hs.ex e1, by decide, by decide, fun d H2 d0 d3 x2 hs2 => ?_⟩
  obtain ⟨w0, hw0⟩ : ∃ w0 : Wd, atI (kindsL.map V.str) d = some (.str w0.kd) := by
    rcases (by omega : d = 0 ∨ d = 1 ∨ d = 2) with rfl | rfl | rfl
    · exact ⟨.num 0, rfl⟩
    · exact ⟨.bar, rfl⟩
    · exact ⟨.com, rfl⟩
  exact ⟨p, kindsL.map V.str, d, _, rfl, rfl, sq_of (x2 _ _ (hs.ne hp) h1), hw0, q _ H2 ((xb_of e1).trans x2) hs2 ⟨w0, rfl⟩⟩
theorem gv_token {E : XK} (h0 : σ[0]? = some (some (.ref z))) (h : GivesV te σ H z L (fun v _ => ∃ w0 : Wd, v = .str w0.kd)) : GivesV (tCall spTN [] E (tCons (tVar 0) (tCons te tNil))) σ H z L (fun v _ => ∃ w0 : Wd, v = .str w0.txt) := fun Q q => by
  refine c_in (a_in ⟨_, h0, a_in (h _ fun v H1 x1 hs1 hv => ?_)⟩)
  obtain ⟨w0, rfl⟩ := hv
  exact ⟨z, L, w0, rfl, hs1, fun w1 H2 _ _ x2 hs2 => q _ H2 (x1.trans x2) hs2 ⟨w1, rfl⟩⟩
theorem gv_ev {v : V} (hs : Strm H z L) (h : Ev te σ H v) : GivesV te σ H z L (fun x _ => x = v) := fun Q q => h H (Ex.refl H) Q fun H1 e1 => q v H1 (xb_of e1) (hs.ex e1) rfl
def IsL (xs : List (List Nat)) (v : V) (H : Hp) : Prop := ∃ p, v = .ref p ∧ H p = some (.lst (xs.map fun x => V.str (wS x)))
theorem gv_evL {xs : List (List Nat)} (hs : Strm H z L) (h : EvL te σ H (xs.map fun x => V.str (wS x))) : GivesV te σ H z L (IsL xs) := fun Q q => h H (Ex.refl H) Q fun p H1 _ e1 h1 => q _ H1 (xb_of e1) (hs.ex e1) ⟨p, rfl, h1⟩
/-- a text is laid from a list that is given -/
theorem q_laid {i j : Nat} {tz : TS} {D : Ends} {E : XK} (C : List (List Nat) → Prop) (h0 : σ[0]? = some (some (.ref z))) (hg : GivesV te σ H z L (fun v H => ∃ xs, C xs ∧ IsL xs v H)) (hl : ∀ xs, C xs → xs.length ≤ 30) (hx : ∀ xs, C xs → ∀ x ∈ xs, x ≠ [] ∧ x.length ≤ 7)
    (k : ∀ (xs : List (List Nat)) (l : Ly) (e : Nat) (pl : Addr) H', C xs → l.map (·.2) = xs → Near false l → (textC l).length ≤ 10 * xs.length → e ≤ 2 → XB z H H' → Strm H' z L →
      H' pl = some (.lst ((colsC 0 l ++ [(((textC l).length + e + 1 : Nat) : Int)]).map V.int)) → tz D ((σ.set i (some (.str (wS (textC l ++ List.replicate e 32))))).set j (some (.ref pl))) H') :
    tSeq (tAsg (tCall spLD [] E (tCons (tVar 0) (tCons te tNil))) (gTup K 2 (gCons (gName i) (gCons (gName j) gNil)))) tz D σ H := by
  refine q_asgG (c_in (a_in ⟨_, h0, a_in (hg _ fun v H1 x1 hs1 hv => ?_)⟩))
  obtain ⟨xs, hc, a, rfl, ha⟩ := hv
  refine ⟨z, L, a, xs, rfl, hs1, hs1.neS ha, ha, hl xs hc, hx xs hc, fun l e p pl H2 h1 hn h2 he x2 hs2 _ _ h3 h4 => ?_⟩
  exact ⟨p, _, rfl, st_of h3, rfl, _, _, rfl, _, _, rfl, rfl, k xs l e pl H2 hc h1 hn h2 he (x1.trans x2) hs2 h4⟩
theorem gv_one {C : List (List Nat) → Prop} {xs : List (List Nat)} (hc : C xs) (h : GivesV te σ H z L (IsL xs)) : GivesV te σ H z L (fun v H => ∃ xs, C xs ∧ IsL xs v H) := fun Q q => h Q fun v H1 x1 h1 hv => q v H1 x1 h1 ⟨xs, hc, hv⟩
/-- two tokens more -/
theorem gv_two {a : Addr} {ys : List (List Nat)} {x1 : List Nat} (hs : Strm H z L) (ha : H a = some (.lst (ys.map fun x => V.str (wS x)))) (h3 : σ[3]? = some (some (.ref a))) (h6 : σ[6]? = some (some (.str (wS x1)))) (hl : ys.length ≤ 1000)
    (h : GivesV te σ H z L (fun v _ => ∃ w0 : Wd, v = .str w0.txt)) : GivesV (tOp rCat (tVar 3) (tLst (tCons (tVar 6) (tCons te tNil)))) σ H z L (fun v H => ∃ xs, (∃ w2 : Wd, xs = ys ++ [x1, w2.cs]) ∧ IsL xs v H) := fun Q q => by
  refine ⟨_, h3, a_in (tr := tCons te tNil) ⟨_, h6, a_in (h _ fun v H1 x1' hs1 hv => ⟨by simp; decide, fun p hp => ?_⟩)⟩⟩
  obtain ⟨w2, rfl⟩ := hv
  have e1 : Ex H1 (upd H1 p (.lst [.str (wS x1), .str w2.txt])) := Ex.new hp
  refine ⟨a, p, _, _, rfl, rfl, e1 _ _ (x1' _ _ (hs.neS ha) ha), upd_same, by have : sizeLine = 16777216 := rfl; simp; omega, fun r hr => ?_⟩
  exact q _ _ (x1'.trans (xb_of (e1.trans (Ex.new hr)))) (hs1.ex (e1.trans (Ex.new hr))) ⟨_, ⟨w2, rfl⟩, r, rfl, by rw [upd_same, List.map_append]; rfl⟩
theorem ew_lst2 {P1 P2 : V → Hp → Prop} (k1 : Keeps P1) (k2 : Keeps P2) (h1 : EvW ta σ H P1) (h2 : EvW tb σ H P2) : EvW (tLst (tCons ta (tCons tb tNil))) σ H (fun v H => ∃ p x y, v = .ref p ∧ H p = some (.lst [x, y]) ∧ P1 x H ∧ P2 y H) := fun H1 e Q q => by
  show ta σ H1 (fun x H1 => tb σ H1 fun y H2 => [x, y].length ≤ sizeLine ∧ ∀ p, H2 p = none → Q (.ref p) (upd H2 p (.lst [x, y])))
  exact h1 H1 e _ fun x H2 e2 g1 => h2 H2 (e.trans e2) _ fun y H3 e3 g2 => ⟨by simp; decide, fun p hp => q _ _ ((e2.trans e3).trans (Ex.new hp)) ⟨p, x, y, rfl, upd_same, k1 _ _ _ (e3.trans (Ex.new hp)) g1, k2 _ _ _ (Ex.new hp) g2⟩⟩
theorem ew_prob {pl a du : Addr} {xs ys : List V} {n : Nat} {c : Int} {st : S} {E : XK} (h8 : σ[8]? = some (some (.ref pl))) (h3 : σ[3]? = some (some (.ref a))) (h9 : σ[9]? = some (some (.ref du))) (hpl : H pl = some (.lst xs)) (ha : H a = some (.lst ys)) (hy : ys.length = n)
    (hdu : H du = some (.lst ((inOrder st.opts).map V.str))) (hat : atI xs (n : Int) = some (.int c)) :
    EvW (tTup (tCons (tOp (rIxL K) (tVar 8) (tCB (fun xs H Q => ∃ x n, xs = [x] ∧ LenV K x H n ∧ Q (.int n) H) (tCons (tVar 3) tNil))) (tCons (tOp (fun x y H Q => ∃ i j, x = V.str i ∧ y = V.str j ∧ i.length + j.length ≤ sizeLine ∧ Q (.str (i ++ j)) H) (tC (.str (Str.ofString "expected "))) (tCall (spJO K) [] E (tCons (tVar 9) tNil))) tNil))) σ H (Tld.tup c (expS st)).at :=
  fun H1 e Q q => (eu_tup (ea_two (ev_ixl (ev_var h8) (ev_len_l (ev_var h3) (sq_of ha)) (sq_of hpl) (by rw [hy]; exact hat)) (ev_op ev_c (ev_call (ea_one (ev_var h9)) fun H2 e2 Q2 k2 E2 => ⟨du, st, rfl, sq_of (e2 _ _ hdu), k2⟩) (rv_adds (by have := exp_len st; omega)))) (by simp)) H1 e Q fun p H2 _ e2 h2 => q _ H2 e2 ⟨p, rfl, h2⟩
theorem ew_lstL {o : List Str} (h : EvL te σ H (o.map V.str)) : EvW te σ H (Tld.lst o).at := fun H1 e Q q => h H1 e Q fun p H2 _ e2 h2 => q _ H2 e2 ⟨p, rfl, h2⟩
/-- two lists of the same tuple -/
theorem ew_rep {n : Nat} {P : V → Hp → Prop} (kp : Keeps P) (hn : n ≤ 10) (h : EvW te σ H P) : EvW (tOp rRep (tLst (tCons te tNil)) (tC (.int (n : Int)))) σ H (IsLst n P) := fun H1 e Q q => by
  show te σ H1 (fun v H2 => [v].length ≤ sizeLine ∧ ∀ p, H2 p = none → rRep (.ref p) (.int (n : Int)) (upd H2 p (.lst [v])) Q)
  refine h H1 e _ fun v H2 e2 h2 => ⟨by simp; decide, fun p hp => ?_⟩
  refine ⟨p, (n : Int), [v], rfl, rfl, upd_same, by omega, by omega, by have : sizeLine = 16777216 := rfl; simp; omega, fun r hr => ?_⟩
  refine q _ _ ((e2.trans (Ex.new hp)).trans (Ex.new hr)) ⟨r, _, rfl, upd_same, by simp, fun x hx => ?_⟩
  have : x = v := by
    simp at hx
    exact hx.2
  subst this
  exact kp _ _ _ (Ex.new hr) (kp _ _ _ (Ex.new hp) h2)
theorem IsLst.keeps {n : Nat} {P : V → Hp → Prop} (kp : Keeps P) : Keeps (IsLst n P) := by
  rintro v H H' e ⟨p, vs, h1, h2, h3, h4⟩
  exact ⟨p, vs, h1, e _ _ h2, h3, fun v hv => kp _ _ _ e (h4 v hv)⟩
theorem eqd_lists {n : Nat} {H : Hp} {x y : V} {c : Int} {w : Str} (hn : n ≤ 10) (h1 : IsLst n (Tld.tup c w).at x H) (h2 : IsLst n (Tld.tup c w).at y H) : Eqd 2 H x y := by
  obtain ⟨p, vs, rfl, g1, g2, g3⟩ := h1
  obtain ⟨q, us, rfl, k1, k2, k3⟩ := h2
  refine .inr ⟨p, q, _, _, rfl, rfl, .inl ⟨g1, k1⟩, by omega, by omega, fun i a b ha hb H1 e1 => ?_⟩
  exact eqd_tup (n := 0) ((Tld.keeps _) _ _ _ e1 (g3 a (List.mem_of_getElem? ha))) ((Tld.keeps _) _ _ _ e1 (k3 b (List.mem_of_getElem? hb)))
theorem ew_tup {c : Int} {x : Str} (h : EvU te σ H [.int c, .str x]) : EvW te σ H (Tld.tup c x).at := fun H1 e Q q => h H1 e Q fun p H2 _ e2 h2 => q _ H2 e2 ⟨p, rfl, h2⟩
end
theorem Strm.ne2 {H : Hp} {z L a : Addr} {x y : V} (h : Strm H z L) (ha : H a = some (.lst [x, y])) : a ≠ z := by
  obtain ⟨c, k, ns, h1, _⟩ := h
  intro e
  rw [e, h1] at ha
  have := Option.some.inj ha
  injection this with this
  simp at this
theorem Strm.neT {H : Hp} {z L a : Addr} {xs : List V} (h : Strm H z L) (ha : H a = some (.tup xs)) : a ≠ z := by
  obtain ⟨c, k, ns, h1, _⟩ := h
  intro e
  rw [e, h1] at ha
  have := Option.some.inj ha
  cases this
theorem gtp_bad {m : Bool} {st : S} {la r : Lw} {ws : List Wd} (hla : la.map (·.2) = ws) (hst : stepsW (startS m) ws = some st) {b : Nat} {w1 : Wd} (hn : st.stepW w1 = none) (T : List Tk) (wh : Nat) :
    GTP wh (Tld.tup (colAt (ly la) b) (expS st)).at (startS m) (toks 0 (la ++ (b, w1) :: r) ++ T) := by
  unfold GTP
  by_cases h0 : wh = 0
  · rw [if_pos h0, run_at hla hst, run_bad _ _ _ _ _ hn]
    exact fun v H h => h
  · rw [if_neg h0, run_at hla hst, run_bad _ _ _ _ _ hn]
    exact fun v H h => h
/-- a token with a problem -/
def Odd (x : List Nat) (msg : Str) : Prop := x ≠ [] ∧ x.length ≤ 7 ∧ 10 ∉ x ∧ ∀ (n : Nat) (r : List Nat), (∀ c, r.head? = some c → isDig c = false) → Tok1E (x ++ r) n ((n + 1 : Nat) : Int) msg
theorem odd_A : Odd [65] "no token begins here" := ⟨by decide, by decide, by decide, fun n r _ => .strange n r (by decide) (by decide) (by decide) (by decide)⟩
theorem odd_7 : Odd [49, 50, 51, 52, 53, 54, 55] "a number has at most 6 digits" := ⟨by decide, by decide, by decide, fun n r hr => .long n r (by decide) (by decide) hr⟩
theorem scans_odd {l : Lw} {b e : Nat} {x : List Nat} {msg : Str} (hx : Odd x msg) (hn : Near false (ly l ++ [(b, x)])) : Scans (textC (ly l ++ [(b, x)]) ++ List.replicate e 32) 0 (.error (colAt (ly l) b, msg)) := by
  obtain ⟨h1, _, _, h2⟩ := hx
  obtain ⟨n1, n2, _⟩ := (near_app _ _ _).mp hn
  have := scans_walk l false 0 (List.replicate b 32 ++ (x ++ List.replicate e 32)) (.error (colAt (ly l) b, msg)) n1 (fun hl c hc => ?_) (by
    rw [Nat.zero_add]
    exact scans_blanks b (.bad (h2 _ _ (blank_head e))))
  · rw [textC_app, List.append_assoc]
    show Scans (textC (ly l) ++ ((List.replicate b 32 ++ (x ++ [])) ++ List.replicate e 32)) 0 _
    rw [List.append_nil, List.append_assoc]
    exact this
  · by_cases hb : 1 ≤ b
    · exact head_blank hb _ c hc
    · have hb0 : b = 0 := by omega
      subst hb0
      cases x with
      | nil => exact absurd rfl h1
      | cons d x =>
        have hd : dig? ((d :: x).head?) ≠ true := fun h => hb (n2 hl h)
        have hcd : d = c := by
          have : some d = some c := hc
          exact Option.some.inj this
        rw [← hcd]
        cases h : isDig d with
        | false => rfl
        | true => exact absurd h hd
end WC

/-! ## Kf7b -/
/-! with one token more behind the walk: the code -/
namespace WC
open PySem PySem.Spec PyProof.Rows L2 Evl
theorem st_eq {t : TS} {D : Ends} {σ σ' : L2.St} {H : Hp} (e : σ = σ') (h : t D σ' H) : t D σ H := e ▸ h
section
variable {P : Program} {w : World} {K : PySem.W.Frag} {mg : Str → Option Value} {base : Heap}
theorem ok__law_goes_on (T : Tx K mg) : FnOk P w K mg base CX0 9 T.d__law_goes_on.f T.d__law_goes_on.fd ["_law_stream_here", "_law_table_here", "_law_kind", "_law_words", "_law_state"] spRI := by
  refine T.d__law_goes_on.F.ok sc__law_goes_on (fun vs H Q E h => ?_) (fun cdv A outer s H vs Q E hr h => ?_)
  · obtain ⟨z, L, t, a, m, s, ws, rfl, _⟩ := h
    rfl
  · obtain ⟨z, L, t, a, m, st, ws, rfl, hz, ht, hm, ha, hst, hws, k⟩ := h
    have hu := hu_of hr
    refine ⟨_, (pss_cons (ps_set (i := 5) sc__law_goes_on.nd rfl (Or.inl rfl) (pe_ix ix_list (pe_call0 (ok__law_kinds T) (hr.mono (by decide)) rfl T.d__law_kinds.g T.d__law_kinds.F.kp T.d__law_kinds.b .nil pass0) (pe_call (ok__law_next T) (hr.mono (by decide)) rfl T.d__law_next.g T.d__law_next.F.kp T.d__law_next.b .nil pass0 (pa_cons (pv 0) (pa_cons pe_int pa_nil))) (fun _ _ => rfl)))
  (pss_cons (ps_set (i := 6) sc__law_goes_on.nd rfl (Or.inl rfl) (pe_call (ok__law_token T) (hr.mono (by decide)) rfl T.d__law_token.g T.d__law_token.F.kp T.d__law_token.b .nil pass0 (pa_cons (pv 0) (pa_cons (pv 5) pa_nil))))
  (pss_cons (ps_asg (pe_call (ok__law_laid T) (hr.mono (by decide)) rfl T.d__law_laid.g T.d__law_laid.F.kp T.d__law_laid.b .nil pass0 (pa_cons (pv 0) (pa_cons (pe_op op_cat (pv 3) (pe_lst (pa_cons (pv 6) pa_nil))) pa_nil))) (pg_tup (by rfl) (pgs_cons (pg_name (i := 7) sc__law_goes_on.nd rfl (Or.inl rfl)) (pgs_cons (pg_name (i := 8) sc__law_goes_on.nd rfl (Or.inl rfl)) pgs_nil))))
  (pss_cons (ps_set (i := 9) sc__law_goes_on.nd rfl (Or.inl rfl) (pe_call (ok__law_due T) (hr.mono (by decide)) rfl T.d__law_due.g T.d__law_due.F.kp T.d__law_due.b .nil pass0 (pa_cons (pv 1) (pa_cons (pv 4) pa_nil))))
  (pss_cons (ps_set (i := 10) sc__law_goes_on.nd rfl (Or.inl rfl) (pe_call (ok__law_told T) (hr.mono (by decide)) rfl T.d__law_told.g T.d__law_told.F.kp T.d__law_told.b .nil pass0 (pa_cons (pv 7) (pa_cons (pv 2) (pa_cons pe_int pa_nil)))))
  (pss_cons (ps_if (pt_cmp (pc_din hu (pv 5) (pe_dget hu (pv 1) (pv 4) (fun _ _ => rfl))) (by rfl))
  (pss_one (ps_ret (pe_call (ok__law_equal T) (hr.mono (by decide)) rfl T.d__law_equal.g T.d__law_equal.F.kp T.d__law_equal.b .nil pass0 (pa_cons (pv 10) (pa_cons (pe_call (ok__law_due T) (hr.mono (by decide)) rfl T.d__law_due.g T.d__law_due.F.kp T.d__law_due.b .nil pass0 (pa_cons (pv 1) (pa_cons (pe_dget hu (pe_dget hu (pv 1) (pv 4) (fun _ _ => rfl)) (pv 5) (fun _ _ => rfl)) pa_nil))) pa_nil)))))
  pss_nil)
  (pss_cons (ps_set (i := 11) sc__law_goes_on.nd rfl (Or.inl rfl) (pe_tup (pa_cons (pe_ix ix_list (pv 8) (pe_callB call_len (by rfl) T.z_len PySem.boot_len (pa_cons (pv 3) pa_nil)) (fun _ _ => rfl)) (pa_cons (pe_op op_add_str pe_str (pe_call (ok__law_listed T) (hr.mono (by decide)) rfl T.d__law_listed.g T.d__law_listed.F.kp T.d__law_listed.b .nil pass0 (pa_cons (pv 9) pa_nil))) pa_nil))))
  (pss_cons (ps_if (pt_not (pt_val (pe_call (ok__law_equal T) (hr.mono (by decide)) rfl T.d__law_equal.g T.d__law_equal.F.kp T.d__law_equal.b .nil pass0 (pa_cons (pe_lst (pa_cons (pv 10) (pa_cons (pe_call (ok__law_told T) (hr.mono (by decide)) rfl T.d__law_told.g T.d__law_told.F.kp T.d__law_told.b .nil pass0 (pa_cons (pv 7) (pa_cons (pv 2) (pa_cons pe_int pa_nil)))) (pa_cons (pe_call (ok__law_told T) (hr.mono (by decide)) rfl T.d__law_told.g T.d__law_told.F.kp T.d__law_told.b .nil pass0 (pa_cons (pv 7) (pa_cons (pv 2) (pa_cons pe_int pa_nil)))) pa_nil)))) (pa_cons (pe_op op_rep (pe_lst (pa_cons (pv 11) pa_nil)) pe_int) pa_nil)))))
  (pss_one (ps_ret pe_bl))
  pss_nil)
  (pss_cons (ps_asg (pe_call (ok__law_laid T) (hr.mono (by decide)) rfl T.d__law_laid.g T.d__law_laid.F.kp T.d__law_laid.b .nil pass0 (pa_cons (pv 0) (pa_cons (pe_op op_cat (pv 3) (pe_lst (pa_cons (pv 6) (pa_cons (pe_call (ok__law_token T) (hr.mono (by decide)) rfl T.d__law_token.g T.d__law_token.F.kp T.d__law_token.b .nil pass0 (pa_cons (pv 0) (pa_cons (pe_ix ix_list (pe_call0 (ok__law_kinds T) (hr.mono (by decide)) rfl T.d__law_kinds.g T.d__law_kinds.F.kp T.d__law_kinds.b .nil pass0) (pe_call (ok__law_next T) (hr.mono (by decide)) rfl T.d__law_next.g T.d__law_next.F.kp T.d__law_next.b .nil pass0 (pa_cons (pv 0) (pa_cons pe_int pa_nil))) (fun _ _ => rfl)) pa_nil))) pa_nil)))) pa_nil))) (pg_tup (by rfl) (pgs_cons (pg_name (i := 7) sc__law_goes_on.nd rfl (Or.inl rfl)) (pgs_cons (pg_name (i := 8) sc__law_goes_on.nd rfl (Or.inl rfl)) pgs_nil))))
  (pss_cons (ps_set (i := 11) sc__law_goes_on.nd rfl (Or.inl rfl) (pe_tup (pa_cons (pe_ix ix_list (pv 8) (pe_callB call_len (by rfl) T.z_len PySem.boot_len (pa_cons (pv 3) pa_nil)) (fun _ _ => rfl)) (pa_cons (pe_op op_add_str pe_str (pe_call (ok__law_listed T) (hr.mono (by decide)) rfl T.d__law_listed.g T.d__law_listed.F.kp T.d__law_listed.b .nil pass0 (pa_cons (pv 9) pa_nil))) pa_nil))))
  (pss_cons (ps_if (pt_not (pt_val (pe_call (ok__law_equal T) (hr.mono (by decide)) rfl T.d__law_equal.g T.d__law_equal.F.kp T.d__law_equal.b .nil pass0 (pa_cons (pe_lst (pa_cons (pe_call (ok__law_told T) (hr.mono (by decide)) rfl T.d__law_told.g T.d__law_told.F.kp T.d__law_told.b .nil pass0 (pa_cons (pv 7) (pa_cons (pv 2) (pa_cons pe_int pa_nil)))) (pa_cons (pe_call (ok__law_told T) (hr.mono (by decide)) rfl T.d__law_told.g T.d__law_told.F.kp T.d__law_told.b .nil pass0 (pa_cons (pv 7) (pa_cons (pv 2) (pa_cons pe_int pa_nil)))) pa_nil))) (pa_cons (pe_op op_rep (pe_lst (pa_cons (pv 11) pa_nil)) pe_int) pa_nil)))))
  (pss_one (ps_ret pe_bl))
  pss_nil)
  (pss_cons (ps_asg (pe_call (ok__law_pick T) (hr.mono (by decide)) rfl T.d__law_pick.g T.d__law_pick.F.kp T.d__law_pick.b .nil pass0 (pa_cons (pv 0) (pa_cons (pe_lst (pa_cons (pe_tup (pa_cons pe_str (pa_cons pe_str pa_nil))) (pa_cons (pe_tup (pa_cons pe_str (pa_cons pe_str pa_nil))) pa_nil))) pa_nil))) (pg_tup (by rfl) (pgs_cons (pg_name (i := 12) sc__law_goes_on.nd rfl (Or.inl rfl)) (pgs_cons (pg_name (i := 10) sc__law_goes_on.nd rfl (Or.inl rfl)) pgs_nil))))
  (pss_cons (ps_asg (pe_call (ok__law_laid T) (hr.mono (by decide)) rfl T.d__law_laid.g T.d__law_laid.F.kp T.d__law_laid.b .nil pass0 (pa_cons (pv 0) (pa_cons (pe_op op_cat (pv 3) (pe_lst (pa_cons (pv 6) (pa_cons (pv 12) pa_nil)))) pa_nil))) (pg_tup (by rfl) (pgs_cons (pg_name (i := 7) sc__law_goes_on.nd rfl (Or.inl rfl)) (pgs_cons (pg_name (i := 8) sc__law_goes_on.nd rfl (Or.inl rfl)) pgs_nil))))
  (pss_one (ps_ret (pe_call (ok__law_equal T) (hr.mono (by decide)) rfl T.d__law_equal.g T.d__law_equal.F.kp T.d__law_equal.b .nil pass0 (pa_cons (pe_lst (pa_cons (pe_call (ok__law_told T) (hr.mono (by decide)) rfl T.d__law_told.g T.d__law_told.F.kp T.d__law_told.b .nil pass0 (pa_cons (pv 7) (pa_cons (pv 2) (pa_cons pe_int pa_nil)))) (pa_cons (pe_call (ok__law_told T) (hr.mono (by decide)) rfl T.d__law_told.g T.d__law_told.F.kp T.d__law_told.b .nil pass0 (pa_cons (pv 7) (pa_cons (pv 2) (pa_cons pe_int pa_nil)))) pa_nil))) (pa_cons (pe_op op_rep (pe_lst (pa_cons (pe_tup (pa_cons (pe_ix ix_list (pv 8) (pe_op op_add (pe_callB call_len (by rfl) T.z_len PySem.boot_len (pa_cons (pv 3) pa_nil)) pe_int) (fun _ _ => rfl)) (pa_cons (pv 10) pa_nil))) pa_nil)) pe_int) pa_nil)))))))))))))))))), ?_⟩
    have awn : ∀ {H1 : Hp}, XB z H H1 → H1 a = some (.lst (ws.map fun x => V.str x.txt)) := fun x => x _ _ (hz.neS ha) ha
    have wl : ∀ (r : List (List Nat)) , (∀ x ∈ r, x ≠ [] ∧ x.length ≤ 7) → ∀ x ∈ ws.map Wd.cs ++ r, x ≠ [] ∧ x.length ≤ 7 := fun r hr x hx => by
      rcases List.mem_append.mp hx with hx | hx
      · obtain ⟨w', _, rfl⟩ := List.mem_map.mp hx
        exact wd_le w'
      · exact hr x hx
    have mapE : ∀ (r : List (List Nat)), ((ws.map Wd.cs ++ r).map fun x => V.str (wS x)) = (ws.map fun x => V.str x.txt) ++ r.map fun x => V.str (wS x) := fun r => by
      rw [List.map_append, List.map_map]
      rfl
    -- the word's kind
    refine q_set (gv_kind rfl hz _ fun v5 H1 x1 hz1 hv => ?_)
    obtain ⟨w0, rfl⟩ := hv
    -- the token
    refine q_set (c_in (a_in ⟨_, rfl, a_in ⟨_, rfl, ?_⟩⟩))
    refine ⟨z, L, w0, rfl, hz1, fun w1 H2 hkd hnm x2 hz2 => ?_⟩
    have x02 := x1.trans x2
    -- the text
    refine q_laid (L := L) (fun xs => xs = ws.map Wd.cs ++ [w1.cs]) rfl (gv_one rfl (gv_evL hz2 (by rw [mapE]; exact el_cat1 (ev_var rfl) (awn x02) (el_lst (ea_one (ev_var rfl)) (by simp)) (by simp; omega)))) (fun xs hc => by rw [hc]; simp; omega) (fun xs hc => by rw [hc]; exact wl _ fun x hx => by rw [List.mem_singleton.mp hx]; exact wd_le w1) fun xs l e pl H3 hc hl hn htl he x3 hz3 hpl => ?_
    subst hc
    have x03 := x02.trans x3
    obtain ⟨lw, rfl, hlw⟩ := split_words (ws ++ [w1]) l (by rw [hl, List.map_append]; rfl)
    obtain ⟨la, lb, rfl, hla, hlb⟩ := split_lw hlw
    obtain ⟨b, rfl⟩ : ∃ b, lb = [(b, w1)] := by
      match lb, hlb with
      | [(b, w')], h => simp at h; exact ⟨b, by rw [h]⟩
    generalize hzz : wS (textC (ly (la ++ [(b, w1)])) ++ List.replicate e 32) = zz
    generalize hcol : (((textC (ly (la ++ [(b, w1)]))).length + e + 1 : Nat) : Int) = col at hpl
    refine st_eq (σ' := [some (.ref z), some (.ref t), some (.str (kindS m)), some (.ref a), some (.str st.name), some (.str w0.kd), some (.str w1.txt), some (.str zz), some (.ref pl), none, none, none, none]) rfl ?_
    have fit : Fit zz := by rw [← hzz]; exact fit_laid (ly_no10 _) htl (by simp; omega) he
    have scan : Scans zz.cps.toList 0 (.ok (toks 0 (la ++ [(b, w1)]) ++ [.fin col])) := by rw [← hzz, ← hcol, wS_cs]; exact scans_laid _ e hn
    have hlal : (ly la).length = ws.length := by rw [← hla]; simp [ly]
    have errN : ∀ {Pv : V → Hp → Prop} (c : Int) (x : Str), (Except.ok (toks 0 (la ++ [(b, w1)]) ++ [Tk.fin col]) : Sc) = .error (c, x) → ∀ v H, (Tld.tup c x).at v H → Pv v H := fun c x h => nomatch h
    have ht3 : TblAt H3 t m := ht.xb hz x03
    -- what is due
    refine q_asgL (el_call (ea_two (ev_var rfl) (ev_var rfl)) fun H4 e4 Q4 k4 E4 => ⟨t, m, st, rfl, ht3.ex e4, hm, fun p H' hp e' h' => k4 p H' hp e' h'⟩) fun du H4 hdu e4 hdul => ?_
    have ht4 := ht3.ex e4
    have hrow : valV (rowKV st) (.inr w0.kd) = (st.stepW w1).map fun s' => V.str s'.name := by rw [← hkd]; exact row_step st w1
    cases hstep : st.stepW w1 with
    | some s1 =>
      rw [hstep] at hrow
      refine q_set (ew_told (P := (Tld.lst (inOrder s1.opts)).at) (ev_var rfl) (ev_var rfl) (ev_is ev_c (show V.int 0 = V.int ((0 : Nat) : Int) from rfl)) (by decide) fit scan errN (fun l hl => ?_) H4 (Ex.refl H4) _ fun v10 H5 e5 h10 => ?_)
      · cases hl
        unfold GTP
        rw [if_pos rfl, start_walk hlw (stepsW_snoc' hst hstep)]
        exact fun v H h => h
      · obtain ⟨kvs, g1, g2⟩ := ht4.ex e5
        obtain ⟨r, g3, g4⟩ := g2 st hm
        have inner : ∀ {H' : Hp}, Ex H5 H' → Ev (tDGet (tVar 1) (tVar 4)) (([some (.ref z), some (.ref t), some (.str (kindS m)), some (.ref a), some (.str st.name), some (.str w0.kd), some (.str w1.txt), some (.str zz), some (.ref pl), some (.ref du), some v10, none, none] : L2.St)) H' (.ref r) := fun e' => ev_dget (k := .inr st.name) (ev_var rfl) (ev_var rfl) (e' _ _ g1) g3
        refine q_when (b := true) (et_B (ev_din (k := .inr w0.kd) (ev_var rfl) (inner (Ex.refl _)) g4 (by rw [hrow]; rfl))) (fun _ H6 e6 => ?_) (fun h => nomatch h)
        refine s_ret (ev_equal (P1 := (Tld.lst (inOrder s1.opts)).at) (P2 := (Tld.lst (inOrder s1.opts)).at) (ew_var (Tld.keeps _) rfl (Tld.keeps _ _ _ _ e6 h10)) (Tld.keeps _) (ew_lstL (el_call (ea_two (ev_var rfl) (ev_dget (k := .inr w0.kd) (inner e6) (ev_var rfl) (e6 _ _ g4) hrow)) fun H7 e7 Q7 k7 E7 => ⟨t, m, s1, rfl, ((ht4.ex e5).ex e6).ex e7, step_inM hm hstep, fun p H' hp e' h' => k7 p H' hp e' h'⟩)) fun x y H8 q1 q2 => eqd_lst (by have := opts_len s1; simpa using this) q1 q2) fun H7 e7 => ?_
        have e37 := ((e4.trans e5).trans e6).trans e7
        exact k H7 (x03.trans (xb_of e37)) (hz3.ex e37)
    | none =>
      rw [hstep] at hrow
      have told : ∀ {σ : L2.St} {H : Hp} {E : XK} {tw : TE} {wh : Nat}, σ[7]? = some (some (.str zz)) → σ[2]? = some (some (.str (kindS m))) → Ev tw σ H (.int (wh : Int)) → wh ≤ 2 → EvW (tCall spTO [] E (tCons (tVar 7) (tCons (tVar 2) (tCons tw tNil)))) σ H (Tld.tup (colAt (ly la) b) (expS st)).at := by
        intro σ H E tw wh h7 h2 hw hw2
        refine ew_told (ev_var h7) (ev_var h2) hw hw2 fit scan errN (fun l hl => ?_)
        cases hl
        exact gtp_bad hla hst hstep _ _
      refine q_set (told rfl rfl (ev_is ev_c (show V.int 0 = V.int ((0 : Nat) : Int) from rfl)) (by decide) H4 (Ex.refl H4) _ fun v10 H5 e5 h10 => ?_)
      obtain ⟨kvs, g1, g2⟩ := ht4.ex e5
      obtain ⟨r, g3, g4⟩ := g2 st hm
      refine q_when (b := false) (et_B (ev_din (k := .inr w0.kd) (ev_var rfl) (ev_dget (k := .inr st.name) (ev_var rfl) (ev_var rfl) g1 g3) g4 (by rw [hrow]; rfl))) (fun h => nomatch h) fun _ H6 e6 => ?_
      have e36 := (e4.trans e5).trans e6
      refine st_eq (σ' := [some (.ref z), some (.ref t), some (.str (kindS m)), some (.ref a), some (.str st.name), some (.str w0.kd), some (.str w1.txt), some (.str zz), some (.ref pl), some (.ref du), some v10, none, none]) rfl ?_
      have ysE : (ws.map fun x => V.str x.txt) = (ws.map Wd.cs).map fun x => V.str (wS x) := by
        rw [List.map_map]
        rfl
      have ysL : (ws.map fun x => V.str x.txt).length = ws.length := List.length_map ..
      have x06 : XB z H H6 := x03.trans (xb_of e36)
      have hz6 := hz3.ex e36
      have e46 := e5.trans e6
      have du6 := e46 _ _ hdul
      refine q_set (ew_prob (n := ws.length) rfl rfl rfl (e36 _ _ hpl) (awn x06) ysL du6 (by rw [ly_app]; exact place_at hlal) H6 (Ex.refl H6) _ fun v11 H7 e7 h11 => ?_)
      have c0 : ∀ {σ : L2.St} {H : Hp}, Ev (tC (.int 0)) σ H (.int ((0 : Nat) : Int)) := ev_is ev_c rfl
      have c1 : ∀ {σ : L2.St} {H : Hp}, Ev (tC (.int 1)) σ H (.int ((1 : Nat) : Int)) := ev_is ev_c rfl
      have c2 : ∀ {σ : L2.St} {H : Hp}, Ev (tC (.int 2)) σ H (.int ((2 : Nat) : Int)) := ev_is ev_c rfl
      refine q_when (b := false) (et_not (et_B (ev_equal (P1 := IsLst 3 (Tld.tup (colAt (ly la) b) (expS st)).at) (P2 := IsLst 3 (Tld.tup (colAt (ly la) b) (expS st)).at) ?_ (IsLst.keeps (Tld.keeps _)) ?_ fun x y H8 q1 q2 => eqd_lists (by decide) q1 q2))) (fun h => nomatch h) fun _ H8 e8 => ?_
      · refine ew_lst (Tld.keeps _) (by decide) (ew_cons (Tld.keeps _) (ew_var (Tld.keeps _) rfl ((Tld.keeps _) _ _ _ (e6.trans e7) h10)) (ew_cons (Tld.keeps _) ?_ (ew_cons (Tld.keeps _) ?_ ew_nil)))
        · exact told rfl rfl c1 (by decide)
        · exact told rfl rfl c2 (by decide)
      · exact ew_rep (n := 3) (Tld.keeps _) (by decide) (ew_var (Tld.keeps _) rfl h11)
      have e38 := (e36.trans e7).trans e8
      have x08 : XB z H H8 := x03.trans (xb_of e38)
      have hz8 := hz3.ex e38
      clear told errN scan fit hpl hcol hzz
      -- two tokens more
      refine q_laid (L := L) (fun xs => ∃ w2 : Wd, xs = ws.map Wd.cs ++ [w1.cs, w2.cs]) rfl (gv_two hz8 (by rw [← ysE]; exact awn x08) rfl rfl (by simp; omega) (gv_token rfl (gv_kind rfl hz8))) (fun xs hc => by obtain ⟨w2, rfl⟩ := hc; simp; omega) (fun xs hc => by
        obtain ⟨w2, rfl⟩ := hc
        refine wl _ fun x hx => ?_
        rcases List.mem_cons.mp hx with rfl | hx
        · exact wd_le w1
        · rw [List.mem_singleton.mp hx]; exact wd_le w2) fun xs l e2 pl2 H9 hc hl2 hn2 htl2 he2 x9 hz9 hpl2 => ?_
      obtain ⟨w2, rfl⟩ := hc
      have x09 := x08.trans x9
      obtain ⟨lw2, rfl, hlw2⟩ := split_words (ws ++ [w1, w2]) l (by rw [hl2, List.map_append]; rfl)
      obtain ⟨la2, lb2, rfl, hla2, hlb2⟩ := split_lw hlw2
      obtain ⟨b2, b3, rfl⟩ : ∃ b2 b3, lb2 = [(b2, w1), (b3, w2)] := by
        match lb2, hlb2 with
        | [(b2, w'), (b3, w'')], h => simp at h; exact ⟨b2, b3, by rw [h.1, h.2]⟩
      generalize hzz : wS (textC (ly (la2 ++ [(b2, w1), (b3, w2)])) ++ List.replicate e2 32) = zz2
      generalize hcol : (((textC (ly (la2 ++ [(b2, w1), (b3, w2)]))).length + e2 + 1 : Nat) : Int) = col2 at hpl2
      refine st_eq (σ' := [some (.ref z), some (.ref t), some (.str (kindS m)), some (.ref a), some (.str st.name), some (.str w0.kd), some (.str w1.txt), some (.str zz2), some (.ref pl2), some (.ref du), some v10, some v11, none]) rfl ?_
      have fit : Fit zz2 := by rw [← hzz]; exact fit_laid (ly_no10 _) htl2 (by simp; omega) he2
      have scan : Scans zz2.cps.toList 0 (.ok (toks 0 (la2 ++ [(b2, w1), (b3, w2)]) ++ [.fin col2])) := by rw [← hzz, ← hcol, wS_cs]; exact scans_laid _ e2 hn2
      have hlal2 : (ly la2).length = ws.length := by rw [← hla2]; simp [ly]
      have errN : ∀ {Pv : V → Hp → Prop} (c : Int) (x : Str), (Except.ok (toks 0 (la2 ++ [(b2, w1), (b3, w2)]) ++ [Tk.fin col2]) : Sc) = .error (c, x) → ∀ v H, (Tld.tup c x).at v H → Pv v H := fun c x h => nomatch h
      have told : ∀ {σ : L2.St} {H : Hp} {E : XK} {tw : TE} {wh : Nat}, σ[7]? = some (some (.str zz2)) → σ[2]? = some (some (.str (kindS m))) → Ev tw σ H (.int (wh : Int)) → wh ≤ 2 → EvW (tCall spTO [] E (tCons (tVar 7) (tCons (tVar 2) (tCons tw tNil)))) σ H (Tld.tup (colAt (ly la2) b2) (expS st)).at := by
        intro σ H E tw wh h7 h2 hw hw2
        refine ew_told (ev_var h7) (ev_var h2) hw hw2 fit scan errN (fun l hl => ?_)
        cases hl
        exact gtp_bad hla2 hst hstep _ _
      have nduz : du ≠ z := hz3.ne hdu
      have du9 := x9 _ _ nduz (e8 _ _ (e7 _ _ du6))
      refine q_set (ew_prob (n := ws.length) rfl rfl rfl hpl2 (awn x09) ysL du9 (by rw [ly_app]; exact place_at hlal2) H9 (Ex.refl H9) _ fun v12 H10 e10 h12 => ?_)
      refine q_when (b := false) (et_not (et_B (ev_equal (P1 := IsLst 2 (Tld.tup (colAt (ly la2) b2) (expS st)).at) (P2 := IsLst 2 (Tld.tup (colAt (ly la2) b2) (expS st)).at) ?_ (IsLst.keeps (Tld.keeps _)) ?_ fun x y H8 q1 q2 => eqd_lists (by decide) q1 q2))) (fun h => nomatch h) fun _ H11 e11 => ?_
      · refine ew_lst (Tld.keeps _) (by decide) (ew_cons (Tld.keeps _) ?_ (ew_cons (Tld.keeps _) ?_ ew_nil))
        · exact told rfl rfl c0 (by decide)
        · exact told rfl rfl c1 (by decide)
      · exact ew_rep (n := 2) (Tld.keeps _) (by decide) (ew_var (Tld.keeps _) rfl h12)
      have e911 := e10.trans e11
      have x011 : XB z H H11 := x09.trans (xb_of e911)
      have hz11 := hz9.ex e911
      clear told errN scan fit hpl2 hcol hzz
      -- a token with a problem
      refine q_asgG (c_in (a_in ⟨_, rfl, a_in (ew_lst2 (P1 := fun v H => ∃ p, v = .ref p ∧ H p = some (.tup [.str (Str.ofString "A"), .str (Str.ofString "no token begins here")])) (P2 := fun v H => ∃ p, v = .ref p ∧ H p = some (.tup [.str (Str.ofString "1234567"), .str (Str.ofString "a number has at most 6 digits")]))
        (fun v H H' e ⟨p, h1, h2⟩ => ⟨p, h1, e _ _ h2⟩) (fun v H H' e ⟨p, h1, h2⟩ => ⟨p, h1, e _ _ h2⟩) (ew_evU (eu_tup (ea_two ev_c ev_c) (by simp))) (ew_evU (eu_tup (ea_two ev_c ev_c) (by simp))) H11 (Ex.refl H11) _ fun vr H12 e12 hvr => ?_)⟩))
      obtain ⟨rows, y1, y2, rfl, hrows, ⟨p1, rfl, hp1⟩, ⟨p2, rfl, hp2⟩⟩ := hvr
      have hz12 := hz11.ex e12
      refine ⟨z, L, rows, _, rfl, hz12, hrows, hz12.ne2 hrows, by simp, by simp, fun i v H13 hi x13 hz13 => ?_⟩
      obtain ⟨pv, x, msg, rfl, hpv, hodd⟩ : ∃ pv x msg, v = .ref pv ∧ H13 pv = some (.tup [.str (wS x), .str msg]) ∧ Odd x msg := by
        match i, hi with
        | 0, hi =>
          cases hi
          exact ⟨p1, _, _, rfl, x13 _ _ (hz12.neT hp1) hp1, odd_A⟩
        | 1, hi =>
          cases hi
          exact ⟨p2, _, _, rfl, x13 _ _ (hz12.neT hp2) hp2, odd_7⟩
      have x013 : XB z H H13 := (x011.trans (xb_of e12)).trans x13
      refine ⟨pv, _, rfl, st_of hpv, rfl, _, _, rfl, _, _, rfl, rfl, ?_⟩
      refine st_eq (σ' := [some (.ref z), some (.ref t), some (.str (kindS m)), some (.ref a), some (.str st.name), some (.str w0.kd), some (.str w1.txt), some (.str zz2), some (.ref pl2), some (.ref du), some (.str msg), some v12, some (.str (wS x))]) rfl ?_
      refine q_laid (L := L) (fun xs => xs = ws.map Wd.cs ++ [w1.cs, x]) rfl (gv_one rfl (gv_evL hz13 (by rw [mapE]; exact el_cat1 (ev_var rfl) (awn x013) (el_lst (ea_two (ev_var rfl) (ev_var rfl)) (by simp)) (by simp; omega)))) (fun xs hc => by rw [hc]; simp; omega) (fun xs hc => by
        rw [hc]
        refine wl _ fun y hy => ?_
        rcases List.mem_cons.mp hy with rfl | hy
        · exact wd_le w1
        · rw [List.mem_singleton.mp hy]; exact ⟨hodd.1, hodd.2.1⟩) fun xs l e3 pl3 H14 hc hl3 hn3 htl3 he3 x14 hz14 hpl3 => ?_
      have x014 := x013.trans x14
      have h10q : ∀ q ∈ l, 10 ∉ q.2 := fun q hq => by
        have hq2 : q.2 ∈ l.map (·.2) := List.mem_map_of_mem hq
        rw [hl3, hc] at hq2
        rcases List.mem_append.mp hq2 with hq2 | hq2
        · obtain ⟨w', _, hw'⟩ := List.mem_map.mp hq2
          rw [← hw']
          exact wd_no10 w'
        · rcases List.mem_cons.mp hq2 with hq2 | hq2
          · rw [hq2]; exact wd_no10 w1
          · rw [List.mem_singleton.mp hq2]; exact hodd.2.2.1
      have hl4 : l.map (·.2) = (ws ++ [w1]).map Wd.cs ++ [x] := by
        rw [hl3, hc, List.map_append, List.append_assoc]
        rfl
      obtain ⟨l1, l2, rfl, hl1, hl2'⟩ := List.map_eq_append_iff.mp hl4
      obtain ⟨b4, rfl⟩ : ∃ b4, l2 = [(b4, x)] := by
        match l2, hl2' with
        | [(b4, x')], h => simp at h; exact ⟨b4, by rw [h]⟩
      obtain ⟨lw1, rfl, hlw1⟩ := split_words (ws ++ [w1]) l1 hl1
      have fit : Fit (wS (textC (ly lw1 ++ [(b4, x)]) ++ List.replicate e3 32)) := fit_laid h10q htl3 (by rw [hc]; simp; omega) he3
      have scan : Scans (wS (textC (ly lw1 ++ [(b4, x)]) ++ List.replicate e3 32)).cps.toList 0 (.error (colAt (ly lw1) b4, msg)) := by rw [wS_cs]; exact scans_odd hodd hn3
      have told : ∀ {σ : L2.St} {H : Hp} {E : XK} {tw : TE} {wh : Nat}, σ[7]? = some (some (.str (wS (textC (ly lw1 ++ [(b4, x)]) ++ List.replicate e3 32)))) → σ[2]? = some (some (.str (kindS m))) → Ev tw σ H (.int (wh : Int)) → wh ≤ 2 → EvW (tCall spTO [] E (tCons (tVar 7) (tCons (tVar 2) (tCons tw tNil)))) σ H (Tld.tup (colAt (ly lw1) b4) msg).at := by
        intro σ H E tw wh h7 h2 hw hw2
        refine ew_told (ev_var h7) (ev_var h2) hw hw2 fit scan (fun c x hc => ?_) (fun l hl => nomatch hl)
        cases hc
        exact fun v H h => h
      have hll : (ly lw1).length = ws.length + 1 := by
        have : lw1.length = (ws ++ [w1]).length := by rw [← hlw1]; simp
        show (lw1.map _).length = _
        rw [List.length_map, this]
        simp
      have i1 : V.int (((ws.map fun x => V.str x.txt).length : Int) + 1) = V.int ((ws.length + 1 : Nat) : Int) := by
        rw [ysL]
        congr 1
      have pa : atI ((colsC 0 (ly lw1 ++ [(b4, x)]) ++ [(((textC (ly lw1 ++ [(b4, x)])).length + e3 + 1 : Nat) : Int)]).map V.int) ((ws.length + 1 : Nat) : Int) = some (.int (colAt (ly lw1) b4)) := place_at hll
      generalize hcc : colAt (ly lw1) b4 = cc at pa told
      generalize hnn : ((ws.length + 1 : Nat) : Int) = nn at pa i1
      generalize hll3 : (colsC 0 (ly lw1 ++ [(b4, x)]) ++ [(((textC (ly lw1 ++ [(b4, x)])).length + e3 + 1 : Nat) : Int)]).map V.int = ls3 at pa hpl3
      generalize hzz3 : wS (textC (ly lw1 ++ [(b4, x)]) ++ List.replicate e3 32) = zz3 at told ⊢
      refine st_eq (σ' := [some (.ref z), some (.ref t), some (.str (kindS m)), some (.ref a), some (.str st.name), some (.str w0.kd), some (.str w1.txt), some (.str zz3), some (.ref pl3), some (.ref du), some (.str msg), some v12, some (.str (wS x))]) rfl ?_
      refine s_ret (ev_equal (P1 := IsLst 2 (Tld.tup cc msg).at) (P2 := IsLst 2 (Tld.tup cc msg).at) ?_ (IsLst.keeps (Tld.keeps _)) ?_ fun x y H8 q1 q2 => eqd_lists (by decide) q1 q2) fun H15 e15 => ?_
      · refine ew_lst (Tld.keeps _) (by decide) (ew_cons (Tld.keeps _) ?_ (ew_cons (Tld.keeps _) ?_ ew_nil))
        · exact told rfl rfl c0 (by decide)
        · exact told rfl rfl c1 (by decide)
      · refine ew_rep (n := 2) (Tld.keeps _) (by decide) (ew_tup (eu_tup (ea_two (ev_ixl (ev_var rfl) (ev_is (ev_op (ev_len_l (ev_var rfl) (sq_of (awn x014))) ev_c rv_I0) i1) (sq_of hpl3) pa) (ev_var rfl)) (by simp)))
      · exact k H15 (x014.trans (xb_of e15)) (hz14.ex e15)
end
end WC

/-! ## Kf8 -/
/-! the law -/
namespace WC
open PySem PySem.Spec PyProof.Rows L2 Evl
/-- the words that can come, without the end -/
def wordsL : S → List Wd
  | .s0 => [.num 0]
  | .begin => [.num 0, .bar]
  | .change => [.num 0]
  | .row => [.num 0, .bar, .com]
  | .shw => [.num 0]
  | .last => [.num 0, .com]
  | .nums => [.num 0]
def pickK (s : S) (i : Nat) : Bool := hasK s i && !decide (V.str (kindsL.getD i "") = V.str (Str.ofString "end"))
theorem pick_eq (s : S) : given 4 (pickK s) (fun i => V.str (kindsL.getD i "")) = (wordsL s).map fun w => V.str w.kd := by
  cases s <;> decide +kernel
theorem words_all (s : S) : ((wordsL s).all fun w => (s.stepW w).isSome) = true := by cases s <;> rfl
theorem words_ok (s : S) : ∀ w ∈ wordsL s, (s.stepW w).isSome = true := List.all_eq_true.mp (words_all s)
theorem eqv_start (m : Bool) : PyData.eqv (.list ((inOrder (startS m).opts).map PyData.str)) (.list ((inOrder (startS m).opts).map PyData.str)) = true := by cases m <;> decide +kernel
theorem shaped_start (m : Bool) : SeqAt.shaped (.list ((inOrder (startS m).opts).map PyData.str)) = true := by cases m <;> decide +kernel
theorem fit_empty : Fit "" := ⟨by decide +kernel, by decide +kernel⟩
theorem scans_empty : Scans (Str.cps "").toList 0 (.ok [.fin ((0 + 1 : Nat) : Int)]) := by
  have e : (Str.cps "").toList = [] := by decide +kernel
  rw [e]
  exact .nil 0
theorem words_ne (s : S) : wordsL s ≠ [] := by cases s <;> simp [wordsL]
theorem words_len (s : S) : (wordsL s).length ≤ 3 := by cases s <;> decide
theorem start_name (m : Bool) : (startS m).name = "" := by cases m <;> rfl
theorem start_in (m : Bool) : InM m (startS m) := by cases m <;> simp [InM, startS]
theorem TblAt.updL {H : Hp} {t b : Addr} {m : Bool} {xs ys : List V} (h : TblAt H t m) (hb : H b = some (.lst xs)) : TblAt (upd H b (.lst ys)) t m := by
  have ne : ∀ {c : Addr} {d : List (Key × V)}, H c = some (.dK d) → c ≠ b := fun hc e => by rw [e, hb] at hc; cases hc
  obtain ⟨kvs, h1, h2⟩ := h
  refine ⟨kvs, by rw [upd_ne (ne h1)]; exact h1, fun s hs => ?_⟩
  obtain ⟨r, h3, h4⟩ := h2 s hs
  exact ⟨r, h3, by rw [upd_ne (ne h4)]; exact h4⟩
theorem Strm.updL {H : Hp} {z L b : Addr} {o : HO} (h : Strm H z L) (h1 : b ≠ z) (h2 : b ≠ L) : Strm (upd H b o) z L := by
  obtain ⟨c, k, ns, g1, g2, g3⟩ := h
  exact ⟨c, k, ns, by rw [upd_ne h1.symm]; exact g1, by rw [upd_ne h2.symm]; exact g2, g3⟩
section
variable {K : PySem.W.Frag} {σ : L2.St} {H H' : Hp} {te ta tb tk tw : TE} {z L : Addr}
theorem q_unless {Pr : Hp → Prop} {tu tz : TS} {D : Ends} (h : ∀ Q : VK, (∀ H1, Pr H1 → Q (.bl true) H1) → te σ H Q) (k : ∀ H1, Pr H1 → tz D σ H1) : tSeq (tIfS (tNot (tB te)) tu tNext) tz D σ H :=
  h _ fun H1 p => ⟨true, rfl, by
    show (if (!true) = true then _ else tz D σ H1)
    rw [if_neg (by decide)]
    exact k H1 p⟩
theorem q_for1 {Pr : Nat → Hp → Prop} {tu tz : TS} {D : Ends} {j : Nat} (h : ∀ Q : VK, (∀ (n : Nat) H1, Pr n H1 → Q (.int (n : Int)) H1) → te σ H Q) (hn : ∀ n H1, Pr n H1 → n ≤ 100000) (Pv : Nat → L2.St → Hp → Prop) (h0 : ∀ n H1, Pr n H1 → Pv 0 σ H1)
    (hs : ∀ n H1, Pr n H1 → ∀ i σ' H', i < n → Pv i σ' H' → tu { D with nx := Pv (i + 1), ct := Pv (i + 1), bk := tz D } (σ'.set j (some (.int (i : Int)))) H') (hd : ∀ n H1, Pr n H1 → ∀ σ' H', Pv n σ' H' → tz D σ' H') :
    tSeq (tFor (iRng1 (tCons te tNil)) (gName j) tu) tz D σ H :=
  h _ fun n H1 p => ⟨(n : Int), rfl, by have := hn n H1 p; omega, by have := hn n H1 p; omega, for_range (lo := 0) (n := n) Pv (h0 n H1 p) (fun i σ' H' hi q => by
    have e0 : (0 : Int) + (i : Int) = (i : Int) := Int.zero_add _
    show tu { D with nx := Pv (i + 1), ct := Pv (i + 1), bk := tz D } (σ'.set j (some (.int ((0 : Int) + (i : Int))))) H'
    rw [e0]
    exact hs n H1 p i σ' H' (by simpa using hi) q) (fun σ' H' q => hd n H1 p σ' H' q)⟩
theorem el_at {xs : List V} (h : EvL te σ H xs) {Q : VK} (k : ∀ p H1, H p = none → Ex H H1 → H1 p = some (.lst xs) → Q (.ref p) H1) : te σ H Q := h H (Ex.refl H) Q k
theorem dp_strs {p : Addr} {o : List Str} (h : H p = some (.lst (o.map V.str))) : Dp K H (.ref p) (.list (o.map PyData.str)) := by
  refine .lst (sq_of h) ?_
  clear h
  induction o with
  | nil => exact .nil
  | cons x o ih => exact .cons (.str x) ih
end
section
variable {P : Program} {w : World} {K : PySem.W.Frag} {mg : Str → Option Value} {base : Heap}
def spLaw (K : PySem.W.Frag) : Sp := fun vs H Q _ => ∃ (a : Addr) (ns : List Int), vs = [.ref a] ∧ SqL K H a (ns.map V.int) ∧ ∀ H', Q (.bl true) H'
theorem ok_law (T : Tx K mg) : FnOk P w K mg base CX0 10 T.d_law.f T.d_law.fd ["_law_script"] (spLaw K) := by
  refine T.d_law.F.ok sc_law (fun vs H Q E h => ?_) (fun cdv A outer s H vs Q E hr h => ?_)
  · obtain ⟨a, ns, rfl, _⟩ := h
    rfl
  · obtain ⟨a, ns, rfl, hS, k⟩ := h
    have hu := hu_of hr
    refine ⟨_, (pss_cons (ps_set (i := 1) sc_law.nd rfl (Or.inl rfl) (pe_call (ok__law_stream T) (hr.mono (by decide)) rfl T.d__law_stream.g T.d__law_stream.F.kp T.d__law_stream.b .nil pass0 (pa_cons (pv 0) pa_nil)))
  (pss_cons (ps_set (i := 2) sc_law.nd rfl (Or.inl rfl) (pe_call (ok__law_pick T) (hr.mono (by decide)) rfl T.d__law_pick.g T.d__law_pick.F.kp T.d__law_pick.b .nil pass0 (pa_cons (pv 1) (pa_cons (pe_lst (pa_cons pe_str (pa_cons pe_str (pa_cons pe_str pa_nil)))) pa_nil))))
  (pss_cons (ps_set (i := 3) sc_law.nd rfl (Or.inr rfl) (pe_call (ok__law_table T) (hr.mono (by decide)) rfl T.d__law_table.g T.d__law_table.F.kp T.d__law_table.b .nil pass0 (pa_cons (pv 2) pa_nil)))
  (pss_cons (ps_set (i := 4) sc_law.nd rfl (Or.inr rfl) pe_str)
  (pss_cons (ps_set (i := 5) sc_law.nd rfl (Or.inl rfl) (pe_lst pa_nil))
  (pss_cons (ps_for PassesOwn.never rfl (pi_range1 (by rfl) T.z_range (pa_cons (pe_call (ok__law_next T) (hr.mono (by decide)) rfl T.d__law_next.g T.d__law_next.F.kp T.d__law_next.b .nil pass0 (pa_cons (pv 1) (pa_cons pe_int pa_nil))) pa_nil)) (pg_name (i := 6) sc_law.nd rfl (Or.inl rfl))
  (pss_cons (ps_if (pt_not (pt_val (pe_call (ok__law_is_right T) (hr.mono (by decide)) rfl T.d__law_is_right.g T.d__law_is_right.F.kp T.d__law_is_right.b .nil pass0 (pa_cons (pv 1) (pa_cons (pv 3) (pa_cons (pv 2) (pa_cons (pv 5) (pa_cons (pv 4) pa_nil))))))))
  (pss_one (ps_ret pe_bl))
  pss_nil)
  (pss_cons (ps_set (i := 7) sc_law.nd rfl (Or.inl rfl) (pe_call (ok__law_pick T) (hr.mono (by decide)) rfl T.d__law_pick.g T.d__law_pick.F.kp T.d__law_pick.b .nil pass0 (pa_cons (pv 1) (pa_cons (pe_lc (own := [("_law_one", 10)]) (g := gName 10) (by rfl) sc_law.nd (pi_list (pe_call0 (ok__law_kinds T) (hr.mono (by decide)) rfl T.d__law_kinds.g T.d__law_kinds.F.kp T.d__law_kinds.b .nil pass0)) (blkOk_by (own := [("_law_one", 10)]) (N := N_law) (sc := defScope s_law) (by decide +kernel)) (fun _ _ _ _ _ => pg_name (i := 10) sc_law.nd rfl (Or.inl rfl)) (fun _ _ _ _ _ => (pts_one (PW.pt (pw_and (pt_cmp (pc_din hu (pv 10) (pe_dget hu (pv 3) (pv 4) (fun _ _ => rfl))) (by rfl)) (pw_and1 (pt_cmpR op_ne (pv 10) pe_str (nomark _))))))) (fun _ _ _ _ _ => (pv 10))) pa_nil))))
  (pss_cons (ps_expr (pe_bm PySem.F.plainAttrs_list PySem.F.slot_list_append PySem.F.type_list_append mt_append (pv 5) (pa_cons (pe_call (ok__law_token T) (hr.mono (by decide)) rfl T.d__law_token.g T.d__law_token.F.kp T.d__law_token.b .nil pass0 (pa_cons (pv 1) (pa_cons (pv 7) pa_nil))) pa_nil)))
  (pss_one (ps_set (i := 4) sc_law.nd rfl (Or.inr rfl) (pe_dget hu (pe_dget hu (pv 3) (pv 4) (fun _ _ => rfl)) (pv 7) (fun _ _ => rfl))))))))
  (pss_cons (ps_set (i := 8) sc_law.nd rfl (Or.inl rfl) (pe_call (ok_next_tokens T) (hr.mono (by decide)) rfl T.d_next_tokens.g T.d_next_tokens.F.kp T.d_next_tokens.b .nil passL (pa_cons pe_str (pa_cons (pv 2) pa_nil))))
  (pss_cons (ps_set (i := 9) sc_law.nd rfl (Or.inl rfl) (pe_call (ok_next_tokens T) (hr.mono (by decide)) rfl T.d_next_tokens.g T.d_next_tokens.F.kp T.d_next_tokens.b .nil passL (pa_cons pe_str (pa_cons (pv 2) pa_nil))))
  (pss_cons (ps_expr (pe_bm PySem.F.plainAttrs_list PySem.F.slot_list_append PySem.F.type_list_append mt_append (pv 9) (pa_cons pe_str pa_nil)))
  (pss_cons (ps_if (pt_cmpR (op_neD hr.units) (pe_call (ok_next_tokens T) (hr.mono (by decide)) rfl T.d_next_tokens.g T.d_next_tokens.F.kp T.d_next_tokens.b .nil passL (pa_cons pe_str (pa_cons (pv 2) pa_nil))) (pv 8) (nomark _))
  (pss_one (ps_ret pe_bl))
  pss_nil)
  (pss_one (ps_ret (pe_and (pe_call (ok__law_is_right T) (hr.mono (by decide)) rfl T.d__law_is_right.g T.d__law_is_right.F.kp T.d__law_is_right.b .nil pass0 (pa_cons (pv 1) (pa_cons (pv 3) (pa_cons (pv 2) (pa_cons (pv 5) (pa_cons (pv 4) pa_nil)))))) (pe_one (pe_call (ok__law_goes_on T) (hr.mono (by decide)) rfl T.d__law_goes_on.g T.d__law_goes_on.F.kp T.d__law_goes_on.b .nil pass0 (pa_cons (pv 1) (pa_cons (pv 3) (pa_cons (pv 2) (pa_cons (pv 5) (pa_cons (pv 4) pa_nil)))))))))))))))))))), ?_⟩
    refine q_set (c_in (a_in ⟨_, rfl, a, ns, rfl, hS, fun z L H1 hz0 e1 hz1 => ?_⟩))
    -- the kind
    refine q_set (c_in (a_in ⟨_, rfl, a_in ((el_lst (ea_three ev_c ev_c ev_c) (by simp)) H1 (Ex.refl H1) _ fun p H2 hp e2 h2 => ?_)⟩))
    refine ⟨z, L, p, _, rfl, hz1.ex e2, h2, hz1.ne hp, by simp, by simp, fun i v H3 hi x3 hz3 => ?_⟩
    obtain ⟨m, rfl⟩ : ∃ m, v = .str (kindS m) := by
      match i, hi with
      | 0, hi => cases hi; exact ⟨true, rfl⟩
      | 1, hi => cases hi; exact ⟨true, rfl⟩
      | 2, hi => cases hi; exact ⟨false, rfl⟩
    -- the table, the state, the words
    refine q_set (c_in (a_in ⟨_, rfl, m, rfl, fun t H4 ht e4 htb => ?_⟩))
    have hz4 := hz3.ex e4
    refine q_asg (ev_str (y := (startS m).name) (start_name m).symm) fun H5 e5 => ?_
    refine q_asgL (el_lst ea_nil (by simp)) fun wl H6 hwl e6 h6 => ?_
    have hz6 := (hz4.ex e5).ex e6
    have ht6 := (htb.ex e5).ex e6
    have wz : wl ≠ z := (hz4.ex e5).ne hwl
    have wL : wl ≠ L := fun e => by
      obtain ⟨ns', f2⟩ := (hz4.ex e5).sc
      rw [← e, hwl] at f2
      cases f2
    refine q_for1 (Pr := fun n H' => n ≤ 20 ∧ XB z H6 H' ∧ Strm H' z L) (fun Q q => c_in (a_in ⟨_, rfl, a_in ⟨z, L, 21, rfl, hz6, by decide, by decide, fun d H7 d0 d21 x7 hz7 => ?_⟩⟩)) (fun n H' p => by omega)
      (fun i σ' H' => ∃ (s : S) (ws : List Wd) (r6 r7 : Option V), σ' = [some (.ref a), some (.ref z), some (.str (kindS m)), some (.ref t), some (.str s.name), some (.ref wl), r6, r7, none, none, none] ∧ Strm H' z L ∧ TblAt H' t m ∧ InM m s ∧ stepsW (startS m) ws = some s ∧ ws.length = i ∧
        H' wl = some (.lst (ws.map fun x => V.str x.txt))) (fun n H' ⟨_, x, hz'⟩ => ⟨startS m, [], none, none, rfl, hz', ht6.xb hz6 x, start_in m, rfl, rfl, x _ _ wz h6⟩) ?_ ?_
    · obtain ⟨n, rfl⟩ : ∃ n : Nat, d = (n : Int) := ⟨d.toNat, by omega⟩
      exact q n H7 ⟨by omega, x7, hz7⟩
    · rintro n H7 ⟨hn, _, _⟩ i σ' Ha hi ⟨st, ws, r6, r7, rfl, hza, hta, hm, hst, hwi, hwa⟩
      refine q_unless (Pr := fun H2 => XB z Ha H2 ∧ Strm H2 z L) (fun Q q => c_in (a_in ⟨_, rfl, a_in ⟨_, rfl, a_in ⟨_, rfl, a_in ⟨_, rfl, a_in ⟨_, rfl, z, L, t, wl, m, st, ws, rfl, hza, hta, hm, hwa, hst, by omega, fun H2 x2 hz2 => q H2 ⟨x2, hz2⟩⟩⟩⟩⟩⟩)) fun Hb ⟨xb, hzb⟩ => ?_
      have htb := hta.xb hza xb
      have hwb := xb _ _ wz hwa
      obtain ⟨kvs, g1, g2⟩ := id htb
      obtain ⟨r, g3, g4⟩ := g2 st hm
      -- the word's kind
      refine st_eq (σ' := [some (.ref a), some (.ref z), some (.str (kindS m)), some (.ref t), some (.str st.name), some (.ref wl), some (.int (i : Int)), r7, none, none, none]) rfl ?_
      refine q_set (c_in (a_in ⟨_, rfl, a_in (el_at (xs := (wordsL st).map fun w => V.str w.kd) ?_ fun p H3 hp e3 h3 => ?_)⟩))
      · rw [← pick_eq]
        refine el_lcNL (xs := kindsL.map V.str) (pickK st) (fun i => V.str (kindsL.getD i "")) (fun H1 e1 Q1 q1 => ⟨rfl, q1⟩) (by decide) (fun _ => rfl) (fun i x H2 e2 hx => ?_) (fun i x H2 e2 hx _ => ?_)
        · have hx' : x = V.str (kindsL.getD i "") := by
            rw [List.getElem?_map] at hx
            cases ho : kindsL[i]? with
            | none => rw [ho] at hx; cases hx
            | some y =>
              rw [ho] at hx
              cases hx
              simp [ho]
          subst hx'
          exact et_and (et_B (ev_din (k := Sum.inr (kindsL.getD i "")) (ev_var rfl) (ev_dget (k := Sum.inr st.name) (ev_var rfl) (ev_var rfl) (e2 _ _ g1) g3) (e2 _ _ g4) rfl)) fun _ => et_test (ev_op (ev_var rfl) ev_c (rv_ne rfl))
        · have hx' : x = V.str (kindsL.getD i "") := by
            rw [List.getElem?_map] at hx
            cases ho : kindsL[i]? with
            | none => rw [ho] at hx; cases hx
            | some y =>
              rw [ho] at hx
              cases hx
              simp [ho]
          subst hx'
          exact ev_var rfl
      refine ⟨z, L, p, _, rfl, hzb.ex e3, h3, hzb.ne hp, by simpa using words_ne st, by have := words_len st; simp; omega, fun j v H4 hj x4 hz4 => ?_⟩
      obtain ⟨w0, hw0, rfl⟩ : ∃ w0 ∈ wordsL st, v = .str w0.kd := by
        have := List.mem_of_getElem? hj
        obtain ⟨w0, h1, h2⟩ := List.mem_map.mp this
        exact ⟨w0, h1, h2.symm⟩
      obtain ⟨s1, hs1⟩ := Option.isSome_iff_exists.mp (words_ok st w0 hw0)
      have hw4 := x4 _ _ wz (e3 _ _ hwb)
      have ht4 := (htb.ex e3).xb (hzb.ex e3) x4
      -- the token behind the words
      refine ⟨_, rfl, .inl ⟨rfl, _, sq_of hw4⟩, a_in (c_in (a_in ⟨_, rfl, a_in ⟨_, rfl, z, L, w0, rfl, hz4, fun w1 H5 hkd hnm x5 hz5 => ⟨wl, _, .str w1.txt, rfl, rfl, x5 _ _ wz hw4, by have : sizeLine = 16777216 := rfl; simp; omega, ?_⟩⟩⟩))⟩
      have ht5 := (ht4.xb hz4 x5).updL (ys := (ws.map fun x => V.str x.txt) ++ [V.str w1.txt]) (x5 _ _ wz hw4)
      have hz6' := hz5.updL (o := .lst ((ws.map fun x => V.str x.txt) ++ [V.str w1.txt])) wz wL
      obtain ⟨kvs', f1, f2⟩ := id ht5
      obtain ⟨r', f3, f4⟩ := f2 st hm
      have hrow : valV (rowKV st) (.inr w0.kd) = some (.str s1.name) := by rw [row_step, hs1]; rfl
      refine s_asg (ev_dget (k := .inr w0.kd) (ev_dget (k := .inr st.name) (ev_var rfl) (ev_var rfl) f1 f3) (ev_var rfl) f4 hrow) fun H6 e6 => ?_
      refine ⟨s1, ws ++ [w1], _, _, rfl, hz6'.ex e6, ht5.ex e6, step_inM hm hs1, stepsW_snoc' hst (by rw [step_kd st hkd]; exact hs1), by simp [hwi], e6 _ _ ?_⟩
      rw [upd_same, List.map_append]
      rfl
    · rintro n H7 ⟨hn, _, _⟩ σ' Ha ⟨st, ws, r6, r7, rfl, hza, hta, hm, hst, hwi, hwa⟩
      have nt : ∀ {sp : Sp} {σ : L2.St} {H : Hp} {E : XK}, σ[2]? = some (some (.str (kindS m))) → EvL (tCall (spNT T.C_TextError) [] E (tCons (tC (.str (Str.ofString ""))) (tCons (tVar 2) tNil))) σ H ((inOrder (startS m).opts).map V.str) := fun h2 =>
        el_call (ea_two ev_c (ev_var h2)) fun H2 e2 Q2 k2 E2 => ⟨"", m, _, rfl, fit_empty, scans_empty, fun c x h => (nomatch h), fun l hl => by
          cases hl
          exact fun p H' hp e' h' => k2 p H' hp e' h'⟩
      refine q_asgL (nt (sp := spNX) rfl) fun kp H8 hkp e8 h8 => ?_
      refine q_asgL (nt (sp := spNX) rfl) fun td H9 htd e9 h9 => ?_
      have e79 := e8.trans e9
      have hz9 := hza.ex e79
      have htd0 : Ha td = none := fresh_back e8 htd
      have tdz : td ≠ z := hza.ne htd0
      have tdL : td ≠ L := fun e => by
        obtain ⟨ns', f2⟩ := hza.sc
        rw [← e, htd0] at f2
        cases f2
      have ktd : kp ≠ td := ne_of_none h8 htd
      have wtd : wl ≠ td := ne_of_none hwa htd0
      refine q_app h9 (ev_var rfl) ev_c (by have := opts_len (startS m); omega) fun H10 e10 => ?_
      have hz10 := (hz9.ex e10).updL (o := .lst ((inOrder (startS m).opts).map V.str ++ [V.str (Str.ofString "a number")])) tdz tdL
      have ht10 := ((hta.ex e79).ex e10).updL (ys := (inOrder (startS m).opts).map V.str ++ [V.str (Str.ofString "a number")]) (e10 _ _ h9)
      have kp10 : (upd H10 td (.lst ((inOrder (startS m).opts).map V.str ++ [V.str (Str.ofString "a number")]))) kp = some (.lst ((inOrder (startS m).opts).map V.str)) := by rw [upd_ne ktd]; exact e10 _ _ (e9 _ _ h8)
      have wl10 : (upd H10 td (.lst ((inOrder (startS m).opts).map V.str ++ [V.str (Str.ofString "a number")]))) wl = some (.lst (ws.map fun x => V.str x.txt)) := by rw [upd_ne wtd]; exact e10 _ _ (e79 _ _ hwa)
      generalize (upd H10 td (.lst ((inOrder (startS m).opts).map V.str ++ [V.str (Str.ofString "a number")]))) = H11 at hz10 ht10 kp10 wl10
      refine q_when (b := false) (et_test (ev_opL1 (nt (sp := spNX) rfl) (fun H1 e1 => ev_var rfl) (fun p H1 h1 e1 H2 e2 Q2 k2 => ⟨_, _, dp_strs (e2 _ _ h1), dp_strs (e2 _ _ (e1 _ _ kp10)), shaped_start m, shaped_start m, ?_⟩))) (fun h => nomatch h) fun _ H12 e12 => ?_
      · rw [eqv_start m]
        exact k2 H2 (Ex.refl H2)
      have hz12 := hz10.ex e12
      have ht12 := ht10.ex e12
      have wl12 := e12 _ _ wl10
      refine r_in (c_in (a_in ⟨_, rfl, a_in ⟨_, rfl, a_in ⟨_, rfl, a_in ⟨_, rfl, a_in ⟨_, rfl, z, L, t, wl, m, st, ws, rfl, hz12, ht12, hm, wl12, hst, by omega, fun H13 x13 hz13 => ⟨true, rfl, ?_⟩⟩⟩⟩⟩⟩))
      rw [if_pos rfl]
      refine c_in (a_in ⟨_, rfl, a_in ⟨_, rfl, a_in ⟨_, rfl, a_in ⟨_, rfl, a_in ⟨_, rfl, z, L, t, wl, m, st, ws, rfl, hz13, ht12.xb hz12 x13, hm, x13 _ _ wz wl12, hst, by omega, fun H14 x14 hz14 => k H14⟩⟩⟩⟩⟩)
end
end WC

/-! ## Kg -/
/-! what the top has written -/
namespace WC
open PySem PySem.Spec PyProof.Rows L2 Evl
/-- how the arguments of a def bind -/
def BB (x qual : Str) (st : Stmt) (ps : List Str) : Prop := ∀ (kV doc pm : Value) (an : Option Addr) (cdv ct : Value) (us : List Value), us.length = ps.length → bindArgs (PySem.W.fnOf x qual (defArgs st) (defBody st) (defScope st) .none kV doc pm an cdv ct) ⟨us, []⟩ = pure (ps.zip us)
theorem bb_TextError_init : BB "__init__" "TextError.__init__" s_TextError_init ["self", "column", "words"] := fun _ _ _ _ _ _ us hl => match us, hl with | [_, _, _], _ => rfl
theorem bb_is_whole : BB "is_whole" "is_whole" s_is_whole ["value", "low", "high"] := fun _ _ _ _ _ _ us hl => match us, hl with | [_, _, _], _ => rfl
theorem bb_are_costs : BB "are_costs" "are_costs" s_are_costs ["value", "many"] := fun _ _ _ _ _ _ us hl => match us, hl with | [_, _], _ => rfl
theorem bb_are_rows : BB "are_rows" "are_rows" s_are_rows ["value", "many", "wide"] := fun _ _ _ _ _ _ us hl => match us, hl with | [_, _, _], _ => rfl
theorem bb_is_model : BB "is_model" "is_model" s_is_model ["value"] := fun _ _ _ _ _ _ us hl => match us, hl with | [_], _ => rfl
theorem bb_states_of : BB "states_of" "states_of" s_states_of ["model"] := fun _ _ _ _ _ _ us hl => match us, hl with | [_], _ => rfl
theorem bb_signs_of : BB "signs_of" "signs_of" s_signs_of ["model"] := fun _ _ _ _ _ _ us hl => match us, hl with | [_], _ => rfl
theorem bb_check_model : BB "check_model" "check_model" s_check_model ["model"] := fun _ _ _ _ _ _ us hl => match us, hl with | [_], _ => rfl
theorem bb_check_text : BB "check_text" "check_text" s_check_text ["text"] := fun _ _ _ _ _ _ us hl => match us, hl with | [_], _ => rfl
theorem bb_digits_at : BB "digits_at" "digits_at" s_digits_at ["text", "at"] := fun _ _ _ _ _ _ us hl => match us, hl with | [_, _], _ => rfl
theorem bb_token_at : BB "token_at" "token_at" s_token_at ["text", "at"] := fun _ _ _ _ _ _ us hl => match us, hl with | [_, _], _ => rfl
theorem bb_scan : BB "scan" "scan" s_scan ["text"] := fun _ _ _ _ _ _ us hl => match us, hl with | [_], _ => rfl
theorem bb_shown : BB "shown" "shown" s_shown ["token"] := fun _ _ _ _ _ _ us hl => match us, hl with | [_], _ => rfl
theorem bb_in_order : BB "in_order" "in_order" s_in_order ["options"] := fun _ _ _ _ _ _ us hl => match us, hl with | [_], _ => rfl
theorem bb_joined : BB "joined" "joined" s_joined ["options"] := fun _ _ _ _ _ _ us hl => match us, hl with | [_], _ => rfl
theorem bb_Ahead_init : BB "__init__" "Ahead.__init__" s_Ahead_init ["self", "options"] := fun _ _ _ _ _ _ us hl => match us, hl with | [_, _], _ => rfl
theorem bb_Parser_init : BB "__init__" "Parser.__init__" s_Parser_init ["self", "tokens", "stops"] := fun _ _ _ _ _ _ us hl => match us, hl with | [_, _, _], _ => rfl
theorem bb_Parser_take : BB "take" "Parser.take" s_Parser_take ["self", "options"] := fun _ _ _ _ _ _ us hl => match us, hl with | [_, _], _ => rfl
theorem bb_Parser_costs : BB "costs" "Parser.costs" s_Parser_costs ["self", "closing"] := fun _ _ _ _ _ _ us hl => match us, hl with | [_, _], _ => rfl
theorem bb_Parser_table : BB "table" "Parser.table" s_Parser_table ["self", "closing"] := fun _ _ _ _ _ _ us hl => match us, hl with | [_, _], _ => rfl
theorem bb_Parser_model : BB "model" "Parser.model" s_Parser_model ["self"] := fun _ _ _ _ _ _ us hl => match us, hl with | [_], _ => rfl
theorem bb_Parser_numbers : BB "numbers" "Parser.numbers" s_Parser_numbers ["self"] := fun _ _ _ _ _ _ us hl => match us, hl with | [_], _ => rfl
theorem bb_next_tokens : BB "next_tokens" "next_tokens" s_next_tokens ["text", "kind"] := fun _ _ _ _ _ _ us hl => match us, hl with | [_, _], _ => rfl
theorem bb_costs_of : BB "costs_of" "costs_of" s_costs_of ["tokens", "most", "words"] := fun _ _ _ _ _ _ us hl => match us, hl with | [_, _, _], _ => rfl
theorem bb_change_of : BB "change_of" "change_of" s_change_of ["rows", "many"] := fun _ _ _ _ _ _ us hl => match us, hl with | [_, _], _ => rfl
theorem bb_show_of : BB "show_of" "show_of" s_show_of ["rows", "many"] := fun _ _ _ _ _ _ us hl => match us, hl with | [_, _], _ => rfl
theorem bb_read_model : BB "read_model" "read_model" s_read_model ["text"] := fun _ _ _ _ _ _ us hl => match us, hl with | [_], _ => rfl
theorem bb_numbers_of : BB "numbers_of" "numbers_of" s_numbers_of ["tokens", "many", "words", "none"] := fun _ _ _ _ _ _ us hl => match us, hl with | [_, _, _, _], _ => rfl
theorem bb_read_signs : BB "read_signs" "read_signs" s_read_signs ["model", "text"] := fun _ _ _ _ _ _ us hl => match us, hl with | [_, _], _ => rfl
theorem bb_read_row : BB "read_row" "read_row" s_read_row ["model", "text"] := fun _ _ _ _ _ _ us hl => match us, hl with | [_, _], _ => rfl
theorem bb__law_stream : BB "_law_stream" "_law_stream" s__law_stream ["_law_script"] := fun _ _ _ _ _ _ us hl => match us, hl with | [_], _ => rfl
theorem bb__law_next : BB "_law_next" "_law_next" s__law_next ["_law_stream_here", "_law_many"] := fun _ _ _ _ _ _ us hl => match us, hl with | [_, _], _ => rfl
theorem bb__law_is_integer : BB "_law_is_integer" "_law_is_integer" s__law_is_integer ["_law_actual"] := fun _ _ _ _ _ _ us hl => match us, hl with | [_], _ => rfl
theorem bb__law_equal : BB "_law_equal" "_law_equal" s__law_equal ["_law_actual", "_law_due_here"] := fun _ _ _ _ _ _ us hl => match us, hl with | [_, _], _ => rfl
theorem bb__law_pick : BB "_law_pick" "_law_pick" s__law_pick ["_law_stream_here", "_law_rows"] := fun _ _ _ _ _ _ us hl => match us, hl with | [_, _], _ => rfl
theorem bb__law_laid : BB "_law_laid" "_law_laid" s__law_laid ["_law_stream_here", "_law_words"] := fun _ _ _ _ _ _ us hl => match us, hl with | [_, _], _ => rfl
theorem bb__law_shown : BB "_law_shown" "_law_shown" s__law_shown ["_law_kind"] := fun _ _ _ _ _ _ us hl => match us, hl with | [_], _ => rfl
theorem bb__law_kinds : BB "_law_kinds" "_law_kinds" s__law_kinds [] := fun _ _ _ _ _ _ us hl => match us, hl with | [], _ => rfl
theorem bb__law_listed : BB "_law_listed" "_law_listed" s__law_listed ["_law_words"] := fun _ _ _ _ _ _ us hl => match us, hl with | [_], _ => rfl
theorem bb__law_table : BB "_law_table" "_law_table" s__law_table ["_law_kind"] := fun _ _ _ _ _ _ us hl => match us, hl with | [_], _ => rfl
theorem bb__law_due : BB "_law_due" "_law_due" s__law_due ["_law_table_here", "_law_state"] := fun _ _ _ _ _ _ us hl => match us, hl with | [_, _], _ => rfl
theorem bb__law_told : BB "_law_told" "_law_told" s__law_told ["_law_text", "_law_kind", "_law_which"] := fun _ _ _ _ _ _ us hl => match us, hl with | [_, _, _], _ => rfl
theorem bb__law_token : BB "_law_token" "_law_token" s__law_token ["_law_stream_here", "_law_kind"] := fun _ _ _ _ _ _ us hl => match us, hl with | [_, _], _ => rfl
theorem bb__law_is_right : BB "_law_is_right" "_law_is_right" s__law_is_right ["_law_stream_here", "_law_table_here", "_law_kind", "_law_words", "_law_state"] := fun _ _ _ _ _ _ us hl => match us, hl with | [_, _, _, _, _], _ => rfl
theorem bb__law_goes_on : BB "_law_goes_on" "_law_goes_on" s__law_goes_on ["_law_stream_here", "_law_table_here", "_law_kind", "_law_words", "_law_state"] := fun _ _ _ _ _ _ us hl => match us, hl with | [_, _, _, _, _], _ => rfl
theorem bb_law : BB "law" "law" s_law ["_law_script"] := fun _ _ _ _ _ _ us hl => match us, hl with | [_], _ => rfl
section
variable {K : PySem.W.Frag} {h : Heap} {mg : Str → Option Value}
theorem dn_mk {x : Str} {st : Stmt} {ps : List Str} {f : Addr} {oc : Value} {od an : Option Addr} {sl : Array (Option Value)} {kV doc pm cd ct : Value} (X : K.In h) (G : h.Ns mainGlobals mg) (a : PySem.W.nsIn K mainGlobals x = some (some (.ref f))) (l : K.lookup f = some ⟨oc, od, .func (PySem.W.fnOf x x (defArgs st) (defBody st) (defScope st) .none kV doc pm an cd ct), sl⟩) (c : PySem.W.codeIn K cd x = true) (k : PySem.W.keepIn K (.ref f) = true) (b : BB x x st ps) : Nonempty (Dn K mg x st ps) :=
  ⟨⟨f, _, fun_mk l c k, PySem.W.mg_of X G a, (fun_mk l c k).binds b⟩⟩
theorem mn_mk {C : Addr} {x qual : Str} {st : Stmt} {ps : List Str} {f : Addr} {oc : Value} {od an : Option Addr} {sl : Array (Option Value)} {kV doc pm cd ct : Value} (a : PySem.W.findIn K (.ref C) x = some (some (.ref f))) (i : PySem.W.isFn K (.ref f) = true) (l : K.lookup f = some ⟨oc, od, .func (PySem.W.fnOf x qual (defArgs st) (defBody st) (defScope st) .none kV doc pm an cd ct), sl⟩) (c : PySem.W.codeIn K cd qual = true) (k : PySem.W.keepIn K (.ref f) = true) (b : BB x qual st ps) : Nonempty (Mn K C x qual st ps) :=
  ⟨⟨f, _, fun_mk l c k, ⟨a, i, k⟩, (fun_mk l c k).binds b⟩⟩
theorem in_mk {C : Addr} {qual : Str} {st : Stmt} {ps : List Str} {f : Addr} {oc : Value} {od an : Option Addr} {sl : Array (Option Value)} {kV doc pm cd ct : Value} (a : PySem.W.findIn K (.ref C) "__init__" = some (some (.ref f))) (t : PySem.W.typeIn K (.ref f) = some (.type "function")) (l : K.lookup f = some ⟨oc, od, .func (PySem.W.fnOf "__init__" qual (defArgs st) (defBody st) (defScope st) .none kV doc pm an cd ct), sl⟩) (c : PySem.W.codeIn K cd qual = true) (k : PySem.W.keepIn K (.ref f) = true) (b : BB "__init__" qual st ps) : Nonempty (Ini K C qual st ps) :=
  ⟨⟨f, _, fun_mk l c k, a, t, (fun_mk l c k).binds b⟩⟩
theorem im_mk {C : Addr} {qual : Str} {st : Stmt} {ps : List Str} {f : Addr} {oc : Value} {od an : Option Addr} {sl : Array (Option Value)} {kV doc pm cd ct : Value} (a : PySem.W.findIn K (.ref C) "__init__" = some (some (.ref f))) (t : PySem.W.typeIn K (.ref f) = some (.type "function")) (l : K.lookup f = some ⟨oc, od, .func (PySem.W.fnOf "__init__" qual (defArgs st) (defBody st) (defScope st) .none kV doc pm an cd ct), sl⟩) (c : PySem.W.codeIn K cd qual = true) (k : PySem.W.keepIn K (.ref f) = true)
    (i : PySem.W.isFn K (.ref f) = true) (mk : PySem.W.makesIn K C = true) (kc : PySem.W.keepIn K (.ref C) = true) (b : BB "__init__" qual st ps) : ∃ j : Ini K C qual st ps, Mk K C j.f :=
  ⟨⟨f, _, fun_mk l c k, a, t, (fun_mk l c k).binds b⟩, ⟨mk, a, i, kc⟩⟩
theorem kinds_mk {a : Addr} {od : Option Addr} {its : Array Value} {n : Nat} {sl : Array (Option Value)} (X : K.In h) (G : h.Ns mainGlobals mg) (g : PySem.W.nsIn K mainGlobals "KINDS" = some (some (.ref a))) (l : K.lookup a = some ⟨.type "tuple", od, .seq its n, sl⟩)
    (e : ∃ t1 t2, its.toList = [.str "model" t1, .str "numbers" t2]) : ∃ a, mg "KINDS" = some (.ref a) ∧ ∀ H : Hp, SqT K H a [.str "model", .str "numbers"] := by
  obtain ⟨t1, t2, e⟩ := e
  refine ⟨a, PySem.W.mg_of X G g, fun H => .inr ⟨_, its, n, l, rfl, rfl, ?_, ?_⟩⟩
  · have h2 : its.size = 2 := by rw [← Array.length_toList, e]; rfl
    rw [h2]
    decide
  · rw [e]
    exact .cons ⟨t1, rfl⟩ (.cons ⟨t2, rfl⟩ .nil)
theorem str_mk {x z : Str} {t : Tok} (X : K.In h) (G : h.Ns mainGlobals mg) (a : PySem.W.nsIn K mainGlobals x = some (some (.str z t))) : ∃ t, mg x = some (.str z t) := ⟨t, PySem.W.mg_of X G a⟩
theorem int_mk {x : Str} {i : Int} {t : Tok} (X : K.In h) (G : h.Ns mainGlobals mg) (a : PySem.W.nsIn K mainGlobals x = some (some (.int i t))) : ∃ t, mg x = some (.int i t) := ⟨t, PySem.W.mg_of X G a⟩
theorem ox_mk {C N : Addr} {nm q : Str} {bs bm : List Value} {sn : List Str} {sub : List Value} {ab : Bool} {col : Option Bool} {dd : Option Addr} {k0 k1 k2 k3 k5 : Option Value}
    (l : K.lookup C = some (excClassObj nm q C N bs bm true sn sub ab col dd k0 k1 k2 k3 k5 "ValueError.__new__")) (e : PySem.HandSPX.refsVE bm = true) (sa : PySem.W.findIn K (.ref C) "__setattr__" = some (some (.builtin "object.__setattr__")))
    (ec : PySem.W.subIn K (.ref C) (.type "BaseException") = some true) (ty : PySem.W.typeIn K (.ref C) = some (.type "type")) (kc : PySem.W.keepIn K (.ref C) = true) : OexC K C := ⟨⟨nm, q, N, bs, bm, sn, sub, ab, col, dd, k0, k1, k2, k3, k5, l, e⟩, sa, ec, ty, kc⟩
/-- the two classes of errors -/
theorem err_mk {C1 C2 : Addr} (X : K.In h) (G : h.Ns mainGlobals mg) (g1 : PySem.W.nsIn K mainGlobals "TextError" = some (some (.ref C1))) (g2 : PySem.W.nsIn K mainGlobals "Ahead" = some (some (.ref C2)))
    (i1 : Nonempty (Ini K C1 "TextError.__init__" s_TextError_init ["self", "column", "words"])) (i2 : Nonempty (Ini K C2 "Ahead.__init__" s_Ahead_init ["self", "options"]))
    (o1 : OexC K C1) (o2 : OexC K C2) (x1 : XfC K C1) (x2 : XfC K C2) (n1 : PySem.W.findIn K (.ref C1) "column" = some none) (n2 : PySem.W.findIn K (.ref C1) "words" = some none) (n3 : PySem.W.findIn K (.ref C2) "options" = some none)
    (s11 : PySem.W.subIn K (.ref C1) (.ref C1) = some true) (s22 : PySem.W.subIn K (.ref C2) (.ref C2) = some true) (s12 : PySem.W.subIn K (.ref C1) (.ref C2) = some false) :
    ∃ C1 C2 : Addr, mg "TextError" = some (.ref C1) ∧ mg "Ahead" = some (.ref C2) ∧ Nonempty (Ini K C1 "TextError.__init__" s_TextError_init ["self", "column", "words"]) ∧ Nonempty (Ini K C2 "Ahead.__init__" s_Ahead_init ["self", "options"]) ∧
      OexC K C1 ∧ OexC K C2 ∧ XfC K C1 ∧ XfC K C2 ∧ PySem.W.findIn K (.ref C1) "column" = some none ∧ PySem.W.findIn K (.ref C1) "words" = some none ∧ PySem.W.findIn K (.ref C2) "options" = some none ∧
      PySem.W.exmOne K (.ref C1) (.ref C1) = some true ∧ PySem.W.exmOne K (.ref C2) (.ref C2) = some true ∧ PySem.W.exmOne K (.ref C1) (.ref C2) = some false :=
  ⟨C1, C2, PySem.W.mg_of X G g1, PySem.W.mg_of X G g2, i1, i2, o1, o2, x1, x2, n1, n2, n3, PySem.W.exm_ref o1.exC x1.hdC o1.tyC s11, PySem.W.exm_ref o2.exC x2.hdC o2.tyC s22, PySem.W.exm_ref o2.exC x2.hdC o2.tyC s12⟩
/-- the parser -/
theorem par_mk {C : Addr} (X : K.In h) (G : h.Ns mainGlobals mg) (g : PySem.W.nsIn K mainGlobals "Parser" = some (some (.ref C))) (i : ∃ j : Ini K C "Parser.__init__" s_Parser_init ["self", "tokens", "stops"], Mk K C j.f) (pg : PySem.W.plainGet K C Str.empty = true) (hd : PySem.W.hasDictIn K C = true) (po : PySem.W.plainOver K C = true) (sa : PySem.W.findIn K (.ref C) "__setattr__" = some (some (.builtin "object.__setattr__")))
    (n0 : PySem.W.findIn K (.ref C) "tokens" = some none) (n1 : PySem.W.findIn K (.ref C) "stops" = some none) (n2 : PySem.W.findIn K (.ref C) "at" = some none) (m0 : Nonempty (Mn K C "take" "Parser.take" s_Parser_take ["self", "options"])) (m1 : Nonempty (Mn K C "costs" "Parser.costs" s_Parser_costs ["self", "closing"])) (m2 : Nonempty (Mn K C "table" "Parser.table" s_Parser_table ["self", "closing"])) (m3 : Nonempty (Mn K C "model" "Parser.model" s_Parser_model ["self"])) (m4 : Nonempty (Mn K C "numbers" "Parser.numbers" s_Parser_numbers ["self"])) :
    ∃ C : Addr, mg "Parser" = some (.ref C) ∧ (∃ j : Ini K C "Parser.__init__" s_Parser_init ["self", "tokens", "stops"], Mk K C j.f) ∧ Cls K C ∧ (PySem.W.findIn K (.ref C) "tokens" = some none) ∧ (PySem.W.findIn K (.ref C) "stops" = some none) ∧ (PySem.W.findIn K (.ref C) "at" = some none) ∧ (Nonempty (Mn K C "take" "Parser.take" s_Parser_take ["self", "options"])) ∧ (Nonempty (Mn K C "costs" "Parser.costs" s_Parser_costs ["self", "closing"])) ∧ (Nonempty (Mn K C "table" "Parser.table" s_Parser_table ["self", "closing"])) ∧ (Nonempty (Mn K C "model" "Parser.model" s_Parser_model ["self"])) ∧ (Nonempty (Mn K C "numbers" "Parser.numbers" s_Parser_numbers ["self"])) :=
  ⟨C, PySem.W.mg_of X G g, i, ⟨pg, hd, po, sa⟩, n0, n1, n2, m0, m1, m2, m3, m4⟩
/-- all of it -/
theorem tx_of (X : K.In h) (G : h.Ns mainGlobals mg)
    (z_isinstance : PySem.W.nsIn K mainGlobals "isinstance" = some none)
    (z_int : PySem.W.nsIn K mainGlobals "int" = some none)
    (z_bool : PySem.W.nsIn K mainGlobals "bool" = some none)
    (z_str : PySem.W.nsIn K mainGlobals "str" = some none)
    (z_list : PySem.W.nsIn K mainGlobals "list" = some none)
    (z_tuple : PySem.W.nsIn K mainGlobals "tuple" = some none)
    (z_len : PySem.W.nsIn K mainGlobals "len" = some none)
    (z_all : PySem.W.nsIn K mainGlobals "all" = some none)
    (z_abs : PySem.W.nsIn K mainGlobals "abs" = some none)
    (z_max : PySem.W.nsIn K mainGlobals "max" = some none)
    (z_range : PySem.W.nsIn K mainGlobals "range" = some none)
    (z_enumerate : PySem.W.nsIn K mainGlobals "enumerate" = some none)
    (c_DIGITS : ∃ t, mg "DIGITS" = some (.str "0123456789" t))
    (c_SIGNS : ∃ t, mg "SIGNS" = some (.str "|," t))
    (c_MOST_COST : ∃ t, mg "MOST_COST" = some (.int 3 t))
    (c_MOST_STATES : ∃ t, mg "MOST_STATES" = some (.int 3 t))
    (c_MOST_SHOWN : ∃ t, mg "MOST_SHOWN" = some (.int 3 t))
    (c_LONGEST : ∃ t, mg "LONGEST" = some (.int 20 t))
    (c_LONGEST_TEXT : ∃ t, mg "LONGEST_TEXT" = some (.int 400 t))
    (c_MOST_DIGITS : ∃ t, mg "MOST_DIGITS" = some (.int 6 t))
    (c_KINDS : ∃ a, mg "KINDS" = some (.ref a) ∧ ∀ H : Hp, SqT K H a [.str "model", .str "numbers"])
    (d_is_whole : Nonempty (Dn K mg "is_whole" s_is_whole ["value", "low", "high"]))
    (d_are_costs : Nonempty (Dn K mg "are_costs" s_are_costs ["value", "many"]))
    (d_are_rows : Nonempty (Dn K mg "are_rows" s_are_rows ["value", "many", "wide"]))
    (d_is_model : Nonempty (Dn K mg "is_model" s_is_model ["value"]))
    (d_states_of : Nonempty (Dn K mg "states_of" s_states_of ["model"]))
    (d_signs_of : Nonempty (Dn K mg "signs_of" s_signs_of ["model"]))
    (d_check_model : Nonempty (Dn K mg "check_model" s_check_model ["model"]))
    (d_check_text : Nonempty (Dn K mg "check_text" s_check_text ["text"]))
    (d_digits_at : Nonempty (Dn K mg "digits_at" s_digits_at ["text", "at"]))
    (d_token_at : Nonempty (Dn K mg "token_at" s_token_at ["text", "at"]))
    (d_scan : Nonempty (Dn K mg "scan" s_scan ["text"]))
    (d_shown : Nonempty (Dn K mg "shown" s_shown ["token"]))
    (d_in_order : Nonempty (Dn K mg "in_order" s_in_order ["options"]))
    (d_joined : Nonempty (Dn K mg "joined" s_joined ["options"]))
    (d_next_tokens : Nonempty (Dn K mg "next_tokens" s_next_tokens ["text", "kind"]))
    (d_costs_of : Nonempty (Dn K mg "costs_of" s_costs_of ["tokens", "most", "words"]))
    (d_change_of : Nonempty (Dn K mg "change_of" s_change_of ["rows", "many"]))
    (d_show_of : Nonempty (Dn K mg "show_of" s_show_of ["rows", "many"]))
    (d_read_model : Nonempty (Dn K mg "read_model" s_read_model ["text"]))
    (d_numbers_of : Nonempty (Dn K mg "numbers_of" s_numbers_of ["tokens", "many", "words", "none"]))
    (d_read_signs : Nonempty (Dn K mg "read_signs" s_read_signs ["model", "text"]))
    (d_read_row : Nonempty (Dn K mg "read_row" s_read_row ["model", "text"]))
    (d__law_stream : Nonempty (Dn K mg "_law_stream" s__law_stream ["_law_script"]))
    (d__law_next : Nonempty (Dn K mg "_law_next" s__law_next ["_law_stream_here", "_law_many"]))
    (d__law_is_integer : Nonempty (Dn K mg "_law_is_integer" s__law_is_integer ["_law_actual"]))
    (d__law_equal : Nonempty (Dn K mg "_law_equal" s__law_equal ["_law_actual", "_law_due_here"]))
    (d__law_pick : Nonempty (Dn K mg "_law_pick" s__law_pick ["_law_stream_here", "_law_rows"]))
    (d__law_laid : Nonempty (Dn K mg "_law_laid" s__law_laid ["_law_stream_here", "_law_words"]))
    (d__law_shown : Nonempty (Dn K mg "_law_shown" s__law_shown ["_law_kind"]))
    (d__law_kinds : Nonempty (Dn K mg "_law_kinds" s__law_kinds []))
    (d__law_listed : Nonempty (Dn K mg "_law_listed" s__law_listed ["_law_words"]))
    (d__law_table : Nonempty (Dn K mg "_law_table" s__law_table ["_law_kind"]))
    (d__law_due : Nonempty (Dn K mg "_law_due" s__law_due ["_law_table_here", "_law_state"]))
    (d__law_told : Nonempty (Dn K mg "_law_told" s__law_told ["_law_text", "_law_kind", "_law_which"]))
    (d__law_token : Nonempty (Dn K mg "_law_token" s__law_token ["_law_stream_here", "_law_kind"]))
    (d__law_is_right : Nonempty (Dn K mg "_law_is_right" s__law_is_right ["_law_stream_here", "_law_table_here", "_law_kind", "_law_words", "_law_state"]))
    (d__law_goes_on : Nonempty (Dn K mg "_law_goes_on" s__law_goes_on ["_law_stream_here", "_law_table_here", "_law_kind", "_law_words", "_law_state"]))
    (d_law : Nonempty (Dn K mg "law" s_law ["_law_script"]))
    (err : ∃ C1 C2 : Addr, mg "TextError" = some (.ref C1) ∧ mg "Ahead" = some (.ref C2) ∧ Nonempty (Ini K C1 "TextError.__init__" s_TextError_init ["self", "column", "words"]) ∧ Nonempty (Ini K C2 "Ahead.__init__" s_Ahead_init ["self", "options"]) ∧
      OexC K C1 ∧ OexC K C2 ∧ XfC K C1 ∧ XfC K C2 ∧ PySem.W.findIn K (.ref C1) "column" = some none ∧ PySem.W.findIn K (.ref C1) "words" = some none ∧ PySem.W.findIn K (.ref C2) "options" = some none ∧
      PySem.W.exmOne K (.ref C1) (.ref C1) = some true ∧ PySem.W.exmOne K (.ref C2) (.ref C2) = some true ∧ PySem.W.exmOne K (.ref C1) (.ref C2) = some false)
    (par : ∃ C : Addr, mg "Parser" = some (.ref C) ∧ (∃ j : Ini K C "Parser.__init__" s_Parser_init ["self", "tokens", "stops"], Mk K C j.f) ∧ Cls K C ∧ (PySem.W.findIn K (.ref C) "tokens" = some none) ∧ (PySem.W.findIn K (.ref C) "stops" = some none) ∧ (PySem.W.findIn K (.ref C) "at" = some none) ∧ (Nonempty (Mn K C "take" "Parser.take" s_Parser_take ["self", "options"])) ∧ (Nonempty (Mn K C "costs" "Parser.costs" s_Parser_costs ["self", "closing"])) ∧ (Nonempty (Mn K C "table" "Parser.table" s_Parser_table ["self", "closing"])) ∧ (Nonempty (Mn K C "model" "Parser.model" s_Parser_model ["self"])) ∧ (Nonempty (Mn K C "numbers" "Parser.numbers" s_Parser_numbers ["self"]))) : Nonempty (Tx K mg) := by
  obtain ⟨t_DIGITS, c_DIGITS⟩ := c_DIGITS
  obtain ⟨t_SIGNS, c_SIGNS⟩ := c_SIGNS
  obtain ⟨t_MOST_COST, c_MOST_COST⟩ := c_MOST_COST
  obtain ⟨t_MOST_STATES, c_MOST_STATES⟩ := c_MOST_STATES
  obtain ⟨t_MOST_SHOWN, c_MOST_SHOWN⟩ := c_MOST_SHOWN
  obtain ⟨t_LONGEST, c_LONGEST⟩ := c_LONGEST
  obtain ⟨t_LONGEST_TEXT, c_LONGEST_TEXT⟩ := c_LONGEST_TEXT
  obtain ⟨t_MOST_DIGITS, c_MOST_DIGITS⟩ := c_MOST_DIGITS
  obtain ⟨a_KINDS, g_KINDS, q_KINDS⟩ := c_KINDS
  obtain ⟨d_is_whole⟩ := d_is_whole
  obtain ⟨d_are_costs⟩ := d_are_costs
  obtain ⟨d_are_rows⟩ := d_are_rows
  obtain ⟨d_is_model⟩ := d_is_model
  obtain ⟨d_states_of⟩ := d_states_of
  obtain ⟨d_signs_of⟩ := d_signs_of
  obtain ⟨d_check_model⟩ := d_check_model
  obtain ⟨d_check_text⟩ := d_check_text
  obtain ⟨d_digits_at⟩ := d_digits_at
  obtain ⟨d_token_at⟩ := d_token_at
  obtain ⟨d_scan⟩ := d_scan
  obtain ⟨d_shown⟩ := d_shown
  obtain ⟨d_in_order⟩ := d_in_order
  obtain ⟨d_joined⟩ := d_joined
  obtain ⟨d_next_tokens⟩ := d_next_tokens
  obtain ⟨d_costs_of⟩ := d_costs_of
  obtain ⟨d_change_of⟩ := d_change_of
  obtain ⟨d_show_of⟩ := d_show_of
  obtain ⟨d_read_model⟩ := d_read_model
  obtain ⟨d_numbers_of⟩ := d_numbers_of
  obtain ⟨d_read_signs⟩ := d_read_signs
  obtain ⟨d_read_row⟩ := d_read_row
  obtain ⟨d__law_stream⟩ := d__law_stream
  obtain ⟨d__law_next⟩ := d__law_next
  obtain ⟨d__law_is_integer⟩ := d__law_is_integer
  obtain ⟨d__law_equal⟩ := d__law_equal
  obtain ⟨d__law_pick⟩ := d__law_pick
  obtain ⟨d__law_laid⟩ := d__law_laid
  obtain ⟨d__law_shown⟩ := d__law_shown
  obtain ⟨d__law_kinds⟩ := d__law_kinds
  obtain ⟨d__law_listed⟩ := d__law_listed
  obtain ⟨d__law_table⟩ := d__law_table
  obtain ⟨d__law_due⟩ := d__law_due
  obtain ⟨d__law_told⟩ := d__law_told
  obtain ⟨d__law_token⟩ := d__law_token
  obtain ⟨d__law_is_right⟩ := d__law_is_right
  obtain ⟨d__law_goes_on⟩ := d__law_goes_on
  obtain ⟨d_law⟩ := d_law
  obtain ⟨C1, C2, g1, g2, ⟨i1⟩, ⟨i2⟩, o1, o2, x1, x2, n1, n2, n3, e1, e2, e3⟩ := err
  obtain ⟨C, g, ⟨j, mk⟩, cl, nn0, nn1, nn2, ⟨mm0⟩, ⟨mm1⟩, ⟨mm2⟩, ⟨mm3⟩, ⟨mm4⟩⟩ := par
  exact ⟨{
    z_isinstance := PySem.W.mg_none_of X G z_isinstance
    z_int := PySem.W.mg_none_of X G z_int
    z_bool := PySem.W.mg_none_of X G z_bool
    z_str := PySem.W.mg_none_of X G z_str
    z_list := PySem.W.mg_none_of X G z_list
    z_tuple := PySem.W.mg_none_of X G z_tuple
    z_len := PySem.W.mg_none_of X G z_len
    z_all := PySem.W.mg_none_of X G z_all
    z_abs := PySem.W.mg_none_of X G z_abs
    z_max := PySem.W.mg_none_of X G z_max
    z_range := PySem.W.mg_none_of X G z_range
    z_enumerate := PySem.W.mg_none_of X G z_enumerate
    t_DIGITS := t_DIGITS
    g_DIGITS := c_DIGITS
    t_SIGNS := t_SIGNS
    g_SIGNS := c_SIGNS
    t_MOST_COST := t_MOST_COST
    g_MOST_COST := c_MOST_COST
    t_MOST_STATES := t_MOST_STATES
    g_MOST_STATES := c_MOST_STATES
    t_MOST_SHOWN := t_MOST_SHOWN
    g_MOST_SHOWN := c_MOST_SHOWN
    t_LONGEST := t_LONGEST
    g_LONGEST := c_LONGEST
    t_LONGEST_TEXT := t_LONGEST_TEXT
    g_LONGEST_TEXT := c_LONGEST_TEXT
    t_MOST_DIGITS := t_MOST_DIGITS
    g_MOST_DIGITS := c_MOST_DIGITS
    a_KINDS := a_KINDS
    g_KINDS := g_KINDS
    q_KINDS := q_KINDS
    C_TextError := C1
    g_TextError := g1
    C_Ahead := C2
    g_Ahead := g2
    C_Parser := C
    g_Parser := g
    i_TextError := i1
    i_Ahead := i2
    i_Parser := j
    d_is_whole := d_is_whole
    d_are_costs := d_are_costs
    d_are_rows := d_are_rows
    d_is_model := d_is_model
    d_states_of := d_states_of
    d_signs_of := d_signs_of
    d_check_model := d_check_model
    d_check_text := d_check_text
    d_digits_at := d_digits_at
    d_token_at := d_token_at
    d_scan := d_scan
    d_shown := d_shown
    d_in_order := d_in_order
    d_joined := d_joined
    d_next_tokens := d_next_tokens
    d_costs_of := d_costs_of
    d_change_of := d_change_of
    d_show_of := d_show_of
    d_read_model := d_read_model
    d_numbers_of := d_numbers_of
    d_read_signs := d_read_signs
    d_read_row := d_read_row
    d__law_stream := d__law_stream
    d__law_next := d__law_next
    d__law_is_integer := d__law_is_integer
    d__law_equal := d__law_equal
    d__law_pick := d__law_pick
    d__law_laid := d__law_laid
    d__law_shown := d__law_shown
    d__law_kinds := d__law_kinds
    d__law_listed := d__law_listed
    d__law_table := d__law_table
    d__law_due := d__law_due
    d__law_told := d__law_told
    d__law_token := d__law_token
    d__law_is_right := d__law_is_right
    d__law_goes_on := d__law_goes_on
    d_law := d_law
    m_take := mm0
    m_costs := mm1
    m_table := mm2
    m_model := mm3
    m_numbers := mm4
    cl_Parser := cl
    mk_Parser := mk
    na_tokens := nn0
    na_stops := nn1
    na_at := nn2
    ox_TextError := o1
    xf_TextError := x1
    no_TextError_column := n1
    no_TextError_words := n2
    ox_Ahead := o2
    xf_Ahead := x2
    no_Ahead_options := n3
    ex_TT := e1
    ex_AA := e2
    ex_TA := e3 }⟩
end
theorem all_of {l : PySem.W.OpenLaw} {w : World} {K : PySem.W.Frag} {mg : Str → Option Value} {fa : Addr} (hfa : mg "law" = some (.ref fa)) (T : Tx K mg) :
    ∃ fd : FuncData, (∀ (s : Shared) (u : Value), BindsTo s fd ⟨[u], []⟩ [("_law_script", u)]) ∧ ∀ base : Heap, K.In base → base.Ns mainGlobals mg → FnOk l.prog w K mg base CX0 10 fa fd ["_law_script"] (spLaw K) := by
  have e := hfa.symm.trans T.d_law.g
  have e2 : fa = T.d_law.f := by
    injection e with e
    injection e
  subst e2
  refine ⟨T.d_law.fd, fun s u => ?_, fun base _ _ => ok_law T⟩
  obtain ⟨oc, od, kV, doc, pm, an, cdv, ct, osl, e, lk, hcd⟩ := T.d_law.F.ex
  rw [e]
  exact .of_eq (bb_law kV doc pm an cdv ct [u] rfl)
theorem walk {l : PySem.W.OpenLaw} {q : Program} {loose : List Str} {XP : (Str → Option Value) → Heap → Prop} {YP : World → Heap → Prop} {d : DefRec} {K : Params → PySem.W.Frag} (hn : l.most = some 63) (hdf : d.params.defaults = []) (hdn : d.name = "law")
    (hY : ∀ (w : World) (h : Heap), YP w h → (K w.params).In h)
    (F : ∀ (w : World) (mg : Str → Option Value) (h : Heap), (K w.params).In h → h.Ns mainGlobals mg → Nonempty (Tx (K w.params) mg)) :
    PySem.W.WalkO q loose XP YP l.row.toRowW d [] (fun f vs => PySem.call f vs) :=
  L2.walk_of (n := 63) (k := 10) (x := "_law_script") (CX := fun _ => CX0) (sp := fun w => spLaw (K w.params)) hn (by decide) hdf ⟨rfl, by decide, by decide⟩ hY (fun w mg fa h KX G hmg => by
    obtain ⟨T⟩ := F w mg h KX G
    rw [hdn] at hmg
    exact all_of hmg T) (fun _ _ a ns hl _ hS => ⟨a, ns, rfl, hS, fun _ => rfl⟩) fun _ _ _ _ _ z => z
end WC

/-! ## Kz -/
open PySem PySem.W PyProof.Rows
set_option maxRecDepth 100000 in
set_option maxHeartbeats 0 in
theorem PySem.Challenge.cw_surepast_k75_whole_what_can_come_holds : PySem.Challenge.rw_surepast_k75_whole_what_can_come.Holds := by
  w_on; o_law; k_head; (case hw => w_witness2)
  k_fill
  refine WC.walk (l := PySem.Challenge.rw_surepast_k75_whole_what_can_come) rfl rfl rfl (fun w h Y => PySem.W.kIn_of Y) ?F
  case F =>
    intro w mg h KX G
    refine' WC.tx_of KX G ?z_isinstance ?z_int ?z_bool ?z_str ?z_list ?z_tuple ?z_len ?z_all ?z_abs ?z_max ?z_range ?z_enumerate ?c_DIGITS ?c_SIGNS ?c_MOST_COST ?c_MOST_STATES ?c_MOST_SHOWN ?c_LONGEST ?c_LONGEST_TEXT ?c_MOST_DIGITS ?c_KINDS ?d_is_whole ?d_are_costs ?d_are_rows ?d_is_model ?d_states_of ?d_signs_of ?d_check_model ?d_check_text ?d_digits_at ?d_token_at ?d_scan ?d_shown ?d_in_order ?d_joined ?d_next_tokens ?d_costs_of ?d_change_of ?d_show_of ?d_read_model ?d_numbers_of ?d_read_signs ?d_read_row ?d__law_stream ?d__law_next ?d__law_is_integer ?d__law_equal ?d__law_pick ?d__law_laid ?d__law_shown ?d__law_kinds ?d__law_listed ?d__law_table ?d__law_due ?d__law_told ?d__law_token ?d__law_is_right ?d__law_goes_on ?d_law ?err ?par
    (case z_isinstance => k_is); (case z_int => k_is); (case z_bool => k_is); (case z_str => k_is); (case z_list => k_is); (case z_tuple => k_is); (case z_len => k_is); (case z_all => k_is); (case z_abs => k_is); (case z_max => k_is); (case z_range => k_is); (case z_enumerate => k_is)
    case c_DIGITS => refine' WC.str_mk KX G ?a_1; (case a_1 => k_is)
    case c_SIGNS => refine' WC.str_mk KX G ?a_2; (case a_2 => k_is)
    case c_MOST_COST => refine' WC.int_mk KX G ?a_3; (case a_3 => k_is)
    case c_MOST_STATES => refine' WC.int_mk KX G ?a_4; (case a_4 => k_is)
    case c_MOST_SHOWN => refine' WC.int_mk KX G ?a_5; (case a_5 => k_is)
    case c_LONGEST => refine' WC.int_mk KX G ?a_6; (case a_6 => k_is)
    case c_LONGEST_TEXT => refine' WC.int_mk KX G ?a_7; (case a_7 => k_is)
    case c_MOST_DIGITS => refine' WC.int_mk KX G ?a_8; (case a_8 => k_is)
    case c_KINDS => refine' WC.kinds_mk KX G ?a_9 ?l_9 ?e_9; (case a_9 => k_is); (case l_9 => k_is); (case e_9 => exact ⟨_, _, rfl⟩)
    case d_is_whole => refine' WC.dn_mk KX G ?a_10 ?l_10 ?c_10 ?k_10 WC.bb_is_whole; (case a_10 => k_is); (case l_10 => k_is); (case c_10 => k_is); (case k_10 => k_is)
    case d_are_costs => refine' WC.dn_mk KX G ?a_11 ?l_11 ?c_11 ?k_11 WC.bb_are_costs; (case a_11 => k_is); (case l_11 => k_is); (case c_11 => k_is); (case k_11 => k_is)
    case d_are_rows => refine' WC.dn_mk KX G ?a_12 ?l_12 ?c_12 ?k_12 WC.bb_are_rows; (case a_12 => k_is); (case l_12 => k_is); (case c_12 => k_is); (case k_12 => k_is)
    case d_is_model => refine' WC.dn_mk KX G ?a_13 ?l_13 ?c_13 ?k_13 WC.bb_is_model; (case a_13 => k_is); (case l_13 => k_is); (case c_13 => k_is); (case k_13 => k_is)
    case d_states_of => refine' WC.dn_mk KX G ?a_14 ?l_14 ?c_14 ?k_14 WC.bb_states_of; (case a_14 => k_is); (case l_14 => k_is); (case c_14 => k_is); (case k_14 => k_is)
    case d_signs_of => refine' WC.dn_mk KX G ?a_15 ?l_15 ?c_15 ?k_15 WC.bb_signs_of; (case a_15 => k_is); (case l_15 => k_is); (case c_15 => k_is); (case k_15 => k_is)
    case d_check_model => refine' WC.dn_mk KX G ?a_16 ?l_16 ?c_16 ?k_16 WC.bb_check_model; (case a_16 => k_is); (case l_16 => k_is); (case c_16 => k_is); (case k_16 => k_is)
    case d_check_text => refine' WC.dn_mk KX G ?a_17 ?l_17 ?c_17 ?k_17 WC.bb_check_text; (case a_17 => k_is); (case l_17 => k_is); (case c_17 => k_is); (case k_17 => k_is)
    case d_digits_at => refine' WC.dn_mk KX G ?a_18 ?l_18 ?c_18 ?k_18 WC.bb_digits_at; (case a_18 => k_is); (case l_18 => k_is); (case c_18 => k_is); (case k_18 => k_is)
    case d_token_at => refine' WC.dn_mk KX G ?a_19 ?l_19 ?c_19 ?k_19 WC.bb_token_at; (case a_19 => k_is); (case l_19 => k_is); (case c_19 => k_is); (case k_19 => k_is)
    case d_scan => refine' WC.dn_mk KX G ?a_20 ?l_20 ?c_20 ?k_20 WC.bb_scan; (case a_20 => k_is); (case l_20 => k_is); (case c_20 => k_is); (case k_20 => k_is)
    case d_shown => refine' WC.dn_mk KX G ?a_21 ?l_21 ?c_21 ?k_21 WC.bb_shown; (case a_21 => k_is); (case l_21 => k_is); (case c_21 => k_is); (case k_21 => k_is)
    case d_in_order => refine' WC.dn_mk KX G ?a_22 ?l_22 ?c_22 ?k_22 WC.bb_in_order; (case a_22 => k_is); (case l_22 => k_is); (case c_22 => k_is); (case k_22 => k_is)
    case d_joined => refine' WC.dn_mk KX G ?a_23 ?l_23 ?c_23 ?k_23 WC.bb_joined; (case a_23 => k_is); (case l_23 => k_is); (case c_23 => k_is); (case k_23 => k_is)
    case d_next_tokens => refine' WC.dn_mk KX G ?a_24 ?l_24 ?c_24 ?k_24 WC.bb_next_tokens; (case a_24 => k_is); (case l_24 => k_is); (case c_24 => k_is); (case k_24 => k_is)
    case d_costs_of => refine' WC.dn_mk KX G ?a_25 ?l_25 ?c_25 ?k_25 WC.bb_costs_of; (case a_25 => k_is); (case l_25 => k_is); (case c_25 => k_is); (case k_25 => k_is)
    case d_change_of => refine' WC.dn_mk KX G ?a_26 ?l_26 ?c_26 ?k_26 WC.bb_change_of; (case a_26 => k_is); (case l_26 => k_is); (case c_26 => k_is); (case k_26 => k_is)
    case d_show_of => refine' WC.dn_mk KX G ?a_27 ?l_27 ?c_27 ?k_27 WC.bb_show_of; (case a_27 => k_is); (case l_27 => k_is); (case c_27 => k_is); (case k_27 => k_is)
    case d_read_model => refine' WC.dn_mk KX G ?a_28 ?l_28 ?c_28 ?k_28 WC.bb_read_model; (case a_28 => k_is); (case l_28 => k_is); (case c_28 => k_is); (case k_28 => k_is)
    case d_numbers_of => refine' WC.dn_mk KX G ?a_29 ?l_29 ?c_29 ?k_29 WC.bb_numbers_of; (case a_29 => k_is); (case l_29 => k_is); (case c_29 => k_is); (case k_29 => k_is)
    case d_read_signs => refine' WC.dn_mk KX G ?a_30 ?l_30 ?c_30 ?k_30 WC.bb_read_signs; (case a_30 => k_is); (case l_30 => k_is); (case c_30 => k_is); (case k_30 => k_is)
    case d_read_row => refine' WC.dn_mk KX G ?a_31 ?l_31 ?c_31 ?k_31 WC.bb_read_row; (case a_31 => k_is); (case l_31 => k_is); (case c_31 => k_is); (case k_31 => k_is)
    case d__law_stream => refine' WC.dn_mk KX G ?a_32 ?l_32 ?c_32 ?k_32 WC.bb__law_stream; (case a_32 => k_is); (case l_32 => k_is); (case c_32 => k_is); (case k_32 => k_is)
    case d__law_next => refine' WC.dn_mk KX G ?a_33 ?l_33 ?c_33 ?k_33 WC.bb__law_next; (case a_33 => k_is); (case l_33 => k_is); (case c_33 => k_is); (case k_33 => k_is)
    case d__law_is_integer => refine' WC.dn_mk KX G ?a_34 ?l_34 ?c_34 ?k_34 WC.bb__law_is_integer; (case a_34 => k_is); (case l_34 => k_is); (case c_34 => k_is); (case k_34 => k_is)
    case d__law_equal => refine' WC.dn_mk KX G ?a_35 ?l_35 ?c_35 ?k_35 WC.bb__law_equal; (case a_35 => k_is); (case l_35 => k_is); (case c_35 => k_is); (case k_35 => k_is)
    case d__law_pick => refine' WC.dn_mk KX G ?a_36 ?l_36 ?c_36 ?k_36 WC.bb__law_pick; (case a_36 => k_is); (case l_36 => k_is); (case c_36 => k_is); (case k_36 => k_is)
    case d__law_laid => refine' WC.dn_mk KX G ?a_37 ?l_37 ?c_37 ?k_37 WC.bb__law_laid; (case a_37 => k_is); (case l_37 => k_is); (case c_37 => k_is); (case k_37 => k_is)
    case d__law_shown => refine' WC.dn_mk KX G ?a_38 ?l_38 ?c_38 ?k_38 WC.bb__law_shown; (case a_38 => k_is); (case l_38 => k_is); (case c_38 => k_is); (case k_38 => k_is)
    case d__law_kinds => refine' WC.dn_mk KX G ?a_39 ?l_39 ?c_39 ?k_39 WC.bb__law_kinds; (case a_39 => k_is); (case l_39 => k_is); (case c_39 => k_is); (case k_39 => k_is)
    case d__law_listed => refine' WC.dn_mk KX G ?a_40 ?l_40 ?c_40 ?k_40 WC.bb__law_listed; (case a_40 => k_is); (case l_40 => k_is); (case c_40 => k_is); (case k_40 => k_is)
    case d__law_table => refine' WC.dn_mk KX G ?a_41 ?l_41 ?c_41 ?k_41 WC.bb__law_table; (case a_41 => k_is); (case l_41 => k_is); (case c_41 => k_is); (case k_41 => k_is)
    case d__law_due => refine' WC.dn_mk KX G ?a_42 ?l_42 ?c_42 ?k_42 WC.bb__law_due; (case a_42 => k_is); (case l_42 => k_is); (case c_42 => k_is); (case k_42 => k_is)
    case d__law_told => refine' WC.dn_mk KX G ?a_43 ?l_43 ?c_43 ?k_43 WC.bb__law_told; (case a_43 => k_is); (case l_43 => k_is); (case c_43 => k_is); (case k_43 => k_is)
    case d__law_token => refine' WC.dn_mk KX G ?a_44 ?l_44 ?c_44 ?k_44 WC.bb__law_token; (case a_44 => k_is); (case l_44 => k_is); (case c_44 => k_is); (case k_44 => k_is)
    case d__law_is_right => refine' WC.dn_mk KX G ?a_45 ?l_45 ?c_45 ?k_45 WC.bb__law_is_right; (case a_45 => k_is); (case l_45 => k_is); (case c_45 => k_is); (case k_45 => k_is)
    case d__law_goes_on => refine' WC.dn_mk KX G ?a_46 ?l_46 ?c_46 ?k_46 WC.bb__law_goes_on; (case a_46 => k_is); (case l_46 => k_is); (case c_46 => k_is); (case k_46 => k_is)
    case d_law => refine' WC.dn_mk KX G ?a_47 ?l_47 ?c_47 ?k_47 WC.bb_law; (case a_47 => k_is); (case l_47 => k_is); (case c_47 => k_is); (case k_47 => k_is)
    case err =>
      refine' WC.err_mk KX G ?g1 ?g2 ?i1 ?i2 ?o1 ?o2 ?x1 ?x2 ?n1 ?n2 ?n3 ?s11 ?s22 ?s12
      (case g1 => k_is); (case g2 => k_is)
      case i1 => refine' WC.in_mk ?a_48 ?t_48 ?l_48 ?c_48 ?k_48 WC.bb_TextError_init; (case a_48 => k_is); (case t_48 => k_is); (case l_48 => k_is); (case c_48 => k_is); (case k_48 => k_is)
      case i2 => refine' WC.in_mk ?a_49 ?t_49 ?l_49 ?c_49 ?k_49 WC.bb_Ahead_init; (case a_49 => k_is); (case t_49 => k_is); (case l_49 => k_is); (case c_49 => k_is); (case k_49 => k_is)
      case o1 => refine' WC.ox_mk ?l_50 ?e_50 ?sa_50 ?ec_50 ?ty_50 ?kc_50; (case l_50 => k_is); (case e_50 => rfl); (case sa_50 => k_is); (case ec_50 => k_is); (case ty_50 => k_is); (case kc_50 => k_is)
      case o2 => refine' WC.ox_mk ?l_51 ?e_51 ?sa_51 ?ec_51 ?ty_51 ?kc_51; (case l_51 => k_is); (case e_51 => rfl); (case sa_51 => k_is); (case ec_51 => k_is); (case ty_51 => k_is); (case kc_51 => k_is)
      case x1 => refine' ⟨?x1_52, ?x2_52, ?x3_52, ?x4_52⟩; (case x1_52 => k_is); (case x2_52 => k_is); (case x3_52 => k_is); (case x4_52 => k_is)
      case x2 => refine' ⟨?x1_53, ?x2_53, ?x3_53, ?x4_53⟩; (case x1_53 => k_is); (case x2_53 => k_is); (case x3_53 => k_is); (case x4_53 => k_is)
      (case n1 => k_is); (case n2 => k_is); (case n3 => k_is); (case s11 => k_is); (case s22 => k_is); (case s12 => k_is)
    case par =>
      refine' WC.par_mk KX G ?g ?i ?pg ?hd ?po ?sa ?pn0 ?pn1 ?pn2 ?m0 ?m1 ?m2 ?m3 ?m4
      case g => k_is
      case i => refine' WC.im_mk ?a_54 ?t_54 ?l_54 ?c_54 ?k_54 ?i_54 ?mk_54 ?kc_54 WC.bb_Parser_init; (case a_54 => k_is); (case t_54 => k_is); (case l_54 => k_is); (case c_54 => k_is); (case k_54 => k_is); (case i_54 => k_is); (case mk_54 => k_is); (case kc_54 => k_is)
      (case pg => k_is); (case hd => k_is); (case po => k_is); (case sa => k_is); (case pn0 => k_is); (case pn1 => k_is); (case pn2 => k_is)
      case m0 => refine' WC.mn_mk ?a_55 ?i_55 ?l_55 ?c_55 ?k_55 WC.bb_Parser_take; (case a_55 => k_is); (case i_55 => k_is); (case l_55 => k_is); (case c_55 => k_is); (case k_55 => k_is)
      case m1 => refine' WC.mn_mk ?a_56 ?i_56 ?l_56 ?c_56 ?k_56 WC.bb_Parser_costs; (case a_56 => k_is); (case i_56 => k_is); (case l_56 => k_is); (case c_56 => k_is); (case k_56 => k_is)
      case m2 => refine' WC.mn_mk ?a_57 ?i_57 ?l_57 ?c_57 ?k_57 WC.bb_Parser_table; (case a_57 => k_is); (case i_57 => k_is); (case l_57 => k_is); (case c_57 => k_is); (case k_57 => k_is)
      case m3 => refine' WC.mn_mk ?a_58 ?i_58 ?l_58 ?c_58 ?k_58 WC.bb_Parser_model; (case a_58 => k_is); (case i_58 => k_is); (case l_58 => k_is); (case c_58 => k_is); (case k_58 => k_is)
      case m4 => refine' WC.mn_mk ?a_59 ?i_59 ?l_59 ?c_59 ?k_59 WC.bb_Parser_numbers; (case a_59 => k_is); (case i_59 => k_is); (case l_59 => k_is); (case c_59 => k_is); (case k_59 => k_is)
#print axioms PySem.Challenge.cw_surepast_k75_whole_what_can_come_holds
