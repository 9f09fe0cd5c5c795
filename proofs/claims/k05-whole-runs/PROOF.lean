import PyProof.Rows.All
import Wide.All
import OpenK.AllK
import Wide.FinOn
import HandS.ForMost
import HandS.Evl
import HandS.Steps
import HandS.IsInst
import PySem.Challenge.RW_unweave_k05_whole_runs_of_the_machine
import HandS.Rev
import KE.KDictList
import HandS.More
import HandS.SortInts
import HandS.AnyAll
import HandS.Defaults
import HandS.Head0
import HandS.Head1
import HandS.Head2
import HandS.HeadEnd
import HandS.HeadHook1
import HandS.HeadHook2
import HandS.HeadHook3
import HandS.HeadHook4
import HandS.HeadWalk
set_option Elab.async false
set_option linter.all false
set_option maxRecDepth 100000
set_option maxHeartbeats 0
namespace UW
open PySem PySem.Spec PyProof.Rows L2 Evl
def top (i : Nat) : Stmt := PySem.Challenge.pw_unweave_k05_whole_runs_of_the_machine.main.body.getD i (.Pass ⟨0, 0, 0, 0⟩)
/-- the tables of the text -/
def tab_OPERATIONS : List Str := ["add", "sub", "and", "or", "xor", "mul", "shl", "shr", "less", "below", "same"]
def tab_NAMES : List Str := ["", "set", "copy", "add", "sub", "and", "or", "xor", "mul", "shl", "shr", "less", "below", "same",
  "load", "store", "take", "put", "frame", "down", "up", "jump", "zero", "nonzero", "table", "call",
  "calls", "back", "input", "output", "halt", "trap"]
/-- a def of the module, as it stands behind the top; a class's method -/
structure DefG (K : PySem.W.Frag) (mg : Str → Option Value) (x : Str) (st : Stmt) : Prop where
  ex : ∃ (f : Addr) (fd : FuncData), mg x = some (.ref f) ∧ Fun K x x st f fd
structure DefM (K : PySem.W.Frag) (C : Addr) (m q : Str) (st : Stmt) : Prop where
  ex : ∃ (f : Addr) (fd : FuncData), Meth K C m f ∧ Fun K m q st f fd
abbrev s_signed : Stmt := top 7
abbrev nm_signed : List Str := ["word"]
theorem sc_signed : FnScope nm_signed ["word"] (defScope s_signed) := ⟨rfl, rfl, rfl, by decide +kernel, rfl, by decide +kernel, by decide +kernel⟩
abbrev s_bitwise : Stmt := top 8
abbrev nm_bitwise : List Str := ["op", "left", "right", "result", "weight", "_", "one", "two", "bit"]
theorem sc_bitwise : FnScope nm_bitwise ["op", "left", "right"] (defScope s_bitwise) := ⟨rfl, rfl, rfl, by decide +kernel, rfl, by decide +kernel, by decide +kernel⟩
abbrev s_shifted : Stmt := top 9
abbrev nm_shifted : List Str := ["op", "left", "places", "weight", "_"]
theorem sc_shifted : FnScope nm_shifted ["op", "left", "places"] (defScope s_shifted) := ⟨rfl, rfl, rfl, by decide +kernel, rfl, by decide +kernel, by decide +kernel⟩
abbrev s_combine : Stmt := top 10
abbrev nm_combine : List Str := ["op", "left", "right"]
theorem sc_combine : FnScope nm_combine ["op", "left", "right"] (defScope s_combine) := ⟨rfl, rfl, rfl, by decide +kernel, rfl, by decide +kernel, by decide +kernel⟩
abbrev s_I_init__ : Stmt := inClass (top 15) 0
abbrev nm_I_init__ : List Str := ["self", "data", "entry"]
theorem sc_I_init__ : FnScope nm_I_init__ ["self", "data", "entry"] (defScope s_I_init__) := ⟨rfl, rfl, rfl, by decide +kernel, rfl, by decide +kernel, by decide +kernel⟩
abbrev s_I_part : Stmt := inClass (top 15) 3
abbrev nm_I_part : List Str := ["self", "start", "size"]
theorem sc_I_part : FnScope nm_I_part ["self", "start", "size"] (defScope s_I_part) := ⟨rfl, rfl, rfl, by decide +kernel, rfl, by decide +kernel, by decide +kernel⟩
abbrev s_word_of : Stmt := top 16
abbrev nm_word_of : List Str := ["high", "low"]
theorem sc_word_of : FnScope nm_word_of ["high", "low"] (defScope s_word_of) := ⟨rfl, rfl, rfl, by decide +kernel, rfl, by decide +kernel, by decide +kernel⟩
abbrev s_pair_of : Stmt := top 17
abbrev nm_pair_of : List Str := ["byte"]
theorem sc_pair_of : FnScope nm_pair_of ["byte"] (defScope s_pair_of) := ⟨rfl, rfl, rfl, by decide +kernel, rfl, by decide +kernel, by decide +kernel⟩
abbrev s_table_in : Stmt := top 18
abbrev nm_table_in : List Str := ["name", "rest", "k", "words"]
theorem sc_table_in : FnScope nm_table_in ["name", "rest"] (defScope s_table_in) := ⟨rfl, rfl, rfl, by decide +kernel, rfl, by decide +kernel, by decide +kernel⟩
abbrev s_paired_in : Stmt := top 19
abbrev nm_paired_in : List Str := ["name", "rest", "pair", "word"]
theorem sc_paired_in : FnScope nm_paired_in ["name", "rest"] (defScope s_paired_in) := ⟨rfl, rfl, rfl, by decide +kernel, rfl, by decide +kernel, by decide +kernel⟩
abbrev s_single_in : Stmt := top 20
abbrev nm_single_in : List Str := ["name", "rest"]
theorem sc_single_in : FnScope nm_single_in ["name", "rest"] (defScope s_single_in) := ⟨rfl, rfl, rfl, by decide +kernel, rfl, by decide +kernel, by decide +kernel⟩
abbrev s_plain_in : Stmt := top 21
abbrev nm_plain_in : List Str := ["name", "rest"]
theorem sc_plain_in : FnScope nm_plain_in ["name", "rest"] (defScope s_plain_in) := ⟨rfl, rfl, rfl, by decide +kernel, rfl, by decide +kernel, by decide +kernel⟩
abbrev s_decode : Stmt := top 22
abbrev nm_decode : List Str := ["data", "name", "rest"]
theorem sc_decode : FnScope nm_decode ["data"] (defScope s_decode) := ⟨rfl, rfl, rfl, by decide +kernel, rfl, by decide +kernel, by decide +kernel⟩
abbrev s_found_at : Stmt := top 23
abbrev nm_found_at : List Str := ["image", "address"]
theorem sc_found_at : FnScope nm_found_at ["image", "address"] (defScope s_found_at) := ⟨rfl, rfl, rfl, by decide +kernel, rfl, by decide +kernel, by decide +kernel⟩
abbrev s_instruction_at : Stmt := top 24
abbrev nm_instruction_at : List Str := ["image", "address", "found"]
theorem sc_instruction_at : FnScope nm_instruction_at ["image", "address"] (defScope s_instruction_at) := ⟨rfl, rfl, rfl, by decide +kernel, rfl, by decide +kernel, by decide +kernel⟩
abbrev s_next_address : Stmt := top 25
abbrev nm_next_address : List Str := ["image", "address", "found"]
theorem sc_next_address : FnScope nm_next_address ["image", "address"] (defScope s_next_address) := ⟨rfl, rfl, rfl, by decide +kernel, rfl, by decide +kernel, by decide +kernel⟩
abbrev s_M_init__ : Stmt := inClass (top 29) 0
abbrev nm_M_init__ : List Str := ["self", "image", "registers", "memory", "inputs", "address", "word"]
theorem sc_M_init__ : FnScope nm_M_init__ ["self", "image", "registers", "memory", "inputs"] (defScope s_M_init__) := ⟨rfl, rfl, rfl, by decide +kernel, rfl, by decide +kernel, by decide +kernel⟩
abbrev s_M_status : Stmt := inClass (top 29) 1
abbrev nm_M_status : List Str := ["self"]
theorem sc_M_status : FnScope nm_M_status ["self"] (defScope s_M_status) := ⟨rfl, rfl, rfl, by decide +kernel, rfl, by decide +kernel, by decide +kernel⟩
abbrev s_M_registers : Stmt := inClass (top 29) 2
abbrev nm_M_registers : List Str := ["self"]
theorem sc_M_registers : FnScope nm_M_registers ["self"] (defScope s_M_registers) := ⟨rfl, rfl, rfl, by decide +kernel, rfl, by decide +kernel, by decide +kernel⟩
abbrev s_M_waiting : Stmt := inClass (top 29) 3
abbrev nm_M_waiting : List Str := ["self"]
theorem sc_M_waiting : FnScope nm_M_waiting ["self"] (defScope s_M_waiting) := ⟨rfl, rfl, rfl, by decide +kernel, rfl, by decide +kernel, by decide +kernel⟩
abbrev s_M_outputs : Stmt := inClass (top 29) 4
abbrev nm_M_outputs : List Str := ["self"]
theorem sc_M_outputs : FnScope nm_M_outputs ["self"] (defScope s_M_outputs) := ⟨rfl, rfl, rfl, by decide +kernel, rfl, by decide +kernel, by decide +kernel⟩
abbrev s_M_inputs_left : Stmt := inClass (top 29) 5
abbrev nm_M_inputs_left : List Str := ["self"]
theorem sc_M_inputs_left : FnScope nm_M_inputs_left ["self"] (defScope s_M_inputs_left) := ⟨rfl, rfl, rfl, by decide +kernel, rfl, by decide +kernel, by decide +kernel⟩
abbrev s_M_read : Stmt := inClass (top 29) 6
abbrev nm_M_read : List Str := ["self", "address"]
theorem sc_M_read : FnScope nm_M_read ["self", "address"] (defScope s_M_read) := ⟨rfl, rfl, rfl, by decide +kernel, rfl, by decide +kernel, by decide +kernel⟩
abbrev s_M_written : Stmt := inClass (top 29) 7
abbrev nm_M_written : List Str := ["self", "address"]
theorem sc_M_written : FnScope nm_M_written ["self"] (defScope s_M_written) := ⟨rfl, rfl, rfl, by decide +kernel, rfl, by decide +kernel, by decide +kernel⟩
abbrev s_M_run : Stmt := inClass (top 29) 8
abbrev nm_M_run : List Str := ["self", "steps", "made"]
theorem sc_M_run : FnScope nm_M_run ["self", "steps"] (defScope s_M_run) := ⟨rfl, rfl, rfl, by decide +kernel, rfl, by decide +kernel, by decide +kernel⟩
abbrev s_M_step : Stmt := inClass (top 29) 9
abbrev nm_M_step : List Str := ["self", "instruction", "behind"]
theorem sc_M_step : FnScope nm_M_step ["self"] (defScope s_M_step) := ⟨rfl, rfl, rfl, by decide +kernel, rfl, by decide +kernel, by decide +kernel⟩
abbrev s_M_trap : Stmt := inClass (top 29) 10
abbrev nm_M_trap : List Str := ["self", "reason"]
theorem sc_M_trap : FnScope nm_M_trap ["self", "reason"] (defScope s_M_trap) := ⟨rfl, rfl, rfl, by decide +kernel, rfl, by decide +kernel, by decide +kernel⟩
abbrev s_M_compute : Stmt := inClass (top 29) 11
abbrev nm_M_compute : List Str := ["self", "instruction", "name", "target"]
theorem sc_M_compute : FnScope nm_M_compute ["self", "instruction"] (defScope s_M_compute) := ⟨rfl, rfl, rfl, by decide +kernel, rfl, by decide +kernel, by decide +kernel⟩
abbrev s_M_taken : Stmt := inClass (top 29) 12
abbrev nm_M_taken : List Str := ["self"]
theorem sc_M_taken : FnScope nm_M_taken ["self"] (defScope s_M_taken) := ⟨rfl, rfl, rfl, by decide +kernel, rfl, by decide +kernel, by decide +kernel⟩
abbrev s_M_access : Stmt := inClass (top 29) 13
abbrev nm_M_access : List Str := ["self", "instruction", "name", "place"]
theorem sc_M_access : FnScope nm_M_access ["self", "instruction"] (defScope s_M_access) := ⟨rfl, rfl, rfl, by decide +kernel, rfl, by decide +kernel, by decide +kernel⟩
abbrev s_M_shift : Stmt := inClass (top 29) 14
abbrev nm_M_shift : List Str := ["self", "instruction", "behind", "moved"]
theorem sc_M_shift : FnScope nm_M_shift ["self", "instruction", "behind"] (defScope s_M_shift) := ⟨rfl, rfl, rfl, by decide +kernel, rfl, by decide +kernel, by decide +kernel⟩
abbrev s_M_go : Stmt := inClass (top 29) 15
abbrev nm_M_go : List Str := ["self", "instruction", "behind", "name"]
theorem sc_M_go : FnScope nm_M_go ["self", "instruction", "behind"] (defScope s_M_go) := ⟨rfl, rfl, rfl, by decide +kernel, rfl, by decide +kernel, by decide +kernel⟩
abbrev s_M_enter : Stmt := inClass (top 29) 16
abbrev nm_M_enter : List Str := ["self", "instruction", "behind", "goal", "position"]
theorem sc_M_enter : FnScope nm_M_enter ["self", "instruction", "behind"] (defScope s_M_enter) := ⟨rfl, rfl, rfl, by decide +kernel, rfl, by decide +kernel, by decide +kernel⟩
abbrev s_law_is_integer : Stmt := top 31
abbrev nm_law_is_integer : List Str := ["_law_actual"]
theorem sc_law_is_integer : FnScope nm_law_is_integer ["_law_actual"] (defScope s_law_is_integer) := ⟨rfl, rfl, rfl, by decide +kernel, rfl, by decide +kernel, by decide +kernel⟩
abbrev s_law_draws : Stmt := top 32
abbrev nm_law_draws : List Str := ["_law_cell", "_law_modulus", "_law_count", "_law_number", "_law_row", "_law_k", "_law_mixed"]
theorem sc_law_draws : FnScope nm_law_draws ["_law_cell", "_law_modulus", "_law_count"] (defScope s_law_draws) := ⟨rfl, rfl, rfl, by decide +kernel, rfl, by decide +kernel, by decide +kernel⟩
abbrev s_law_decode : Stmt := top 33
abbrev nm_law_decode : List Str := ["_law_data", "_law_at", "_law_rest", "_law_name", "_law_kind", "_law_values", "_law_place", "_law_letter", "_law_size_here", "_law_start_here", "_law_j", "_law_table"]
theorem sc_law_decode : FnScope nm_law_decode ["_law_data", "_law_at"] (defScope s_law_decode) := ⟨rfl, rfl, rfl, by decide +kernel, rfl, by decide +kernel, by decide +kernel⟩
abbrev s_law_names : Stmt := top 34
abbrev nm_law_names : List Str := ["_law_names_here"]
theorem sc_law_names : FnScope nm_law_names [] (defScope s_law_names) := ⟨rfl, rfl, rfl, by decide +kernel, rfl, by decide +kernel, by decide +kernel⟩
abbrev s_law_kinds : Stmt := top 35
abbrev nm_law_kinds : List Str := ["_law_kinds_here"]
theorem sc_law_kinds : FnScope nm_law_kinds [] (defScope s_law_kinds) := ⟨rfl, rfl, rfl, by decide +kernel, rfl, by decide +kernel, by decide +kernel⟩
abbrev s_law_signed : Stmt := top 36
abbrev nm_law_signed : List Str := ["_law_word"]
theorem sc_law_signed : FnScope nm_law_signed ["_law_word"] (defScope s_law_signed) := ⟨rfl, rfl, rfl, by decide +kernel, rfl, by decide +kernel, by decide +kernel⟩
abbrev s_law_bitwise : Stmt := top 37
abbrev nm_law_bitwise : List Str := ["_law_op", "_law_left", "_law_right", "_law_total", "_law_weight", "_law_k", "_law_one", "_law_two"]
theorem sc_law_bitwise : FnScope nm_law_bitwise ["_law_op", "_law_left", "_law_right"] (defScope s_law_bitwise) := ⟨rfl, rfl, rfl, by decide +kernel, rfl, by decide +kernel, by decide +kernel⟩
abbrev s_law_combine : Stmt := top 38
abbrev nm_law_combine : List Str := ["_law_op", "_law_left", "_law_right", "_law_weight", "_law_k"]
theorem sc_law_combine : FnScope nm_law_combine ["_law_op", "_law_left", "_law_right"] (defScope s_law_combine) := ⟨rfl, rfl, rfl, by decide +kernel, rfl, by decide +kernel, by decide +kernel⟩
abbrev s_law_start : Stmt := top 39
abbrev nm_law_start : List Str := ["_law_data", "_law_entry", "_law_registers", "_law_memory", "_law_inputs", "_law_words_here", "_law_pair", "_law_box"]
theorem sc_law_start : FnScope nm_law_start ["_law_data", "_law_entry", "_law_registers", "_law_memory", "_law_inputs"] (defScope s_law_start) := ⟨rfl, rfl, rfl, by decide +kernel, rfl, by decide +kernel, by decide +kernel⟩
abbrev s_law_step : Stmt := top 40
abbrev nm_law_step : List Str := ["_law_box", "_law_found", "_law_name", "_law_values"]
theorem sc_law_step : FnScope nm_law_step ["_law_box"] (defScope s_law_step) := ⟨rfl, rfl, rfl, by decide +kernel, rfl, by decide +kernel, by decide +kernel⟩
abbrev s_law_work : Stmt := top 41
abbrev nm_law_work : List Str := ["_law_box", "_law_name", "_law_values", "_law_regs", "_law_words_here"]
theorem sc_law_work : FnScope nm_law_work ["_law_box", "_law_name", "_law_values"] (defScope s_law_work) := ⟨rfl, rfl, rfl, by decide +kernel, rfl, by decide +kernel, by decide +kernel⟩
abbrev s_law_go : Stmt := top 42
abbrev nm_law_go : List Str := ["_law_box", "_law_name", "_law_values", "_law_behind", "_law_regs", "_law_moved"]
theorem sc_law_go : FnScope nm_law_go ["_law_box", "_law_name", "_law_values", "_law_behind"] (defScope s_law_go) := ⟨rfl, rfl, rfl, by decide +kernel, rfl, by decide +kernel, by decide +kernel⟩
abbrev s_law_goal : Stmt := top 43
abbrev nm_law_goal : List Str := ["_law_box", "_law_name", "_law_values", "_law_behind", "_law_goal_here", "_law_number"]
theorem sc_law_goal : FnScope nm_law_goal ["_law_box", "_law_name", "_law_values", "_law_behind"] (defScope s_law_goal) := ⟨rfl, rfl, rfl, by decide +kernel, rfl, by decide +kernel, by decide +kernel⟩
abbrev s_law_run : Stmt := top 44
abbrev nm_law_run : List Str := ["_law_box", "_law_steps", "_law_made", "_law_k"]
theorem sc_law_run : FnScope nm_law_run ["_law_box", "_law_steps"] (defScope s_law_run) := ⟨rfl, rfl, rfl, by decide +kernel, rfl, by decide +kernel, by decide +kernel⟩
abbrev s_law_lines : Stmt := top 45
abbrev nm_law_lines : List Str := ["_law_script", "_law_most", "_law_lines_here", "_law_k", "_law_draws_here"]
theorem sc_law_lines : FnScope nm_law_lines ["_law_script", "_law_most"] (defScope s_law_lines) := ⟨rfl, rfl, rfl, by decide +kernel, rfl, by decide +kernel, by decide +kernel⟩
abbrev s_law_size : Stmt := top 46
abbrev nm_law_size : List Str := ["_law_line", "_law_code_here"]
theorem sc_law_size : FnScope nm_law_size ["_law_line"] (defScope s_law_size) := ⟨rfl, rfl, rfl, by decide +kernel, rfl, by decide +kernel, by decide +kernel⟩
abbrev s_law_image : Stmt := top 47
abbrev nm_law_image : List Str := ["_law_lines_here", "_law_places", "_law_total", "_law_line", "_law_data"]
theorem sc_law_image : FnScope nm_law_image ["_law_lines_here"] (defScope s_law_image) := ⟨rfl, rfl, rfl, by decide +kernel, rfl, by decide +kernel, by decide +kernel⟩
abbrev s_law_code : Stmt := top 48
abbrev nm_law_code : List Str := ["_law_code_here", "_law_draws_here", "_law_places", "_law_r", "_law_s", "_law_small", "_law_word", "_law_goal_here", "_law_row", "_law_k", "_law_place"]
theorem sc_law_code : FnScope nm_law_code ["_law_code_here", "_law_draws_here", "_law_places"] (defScope s_law_code) := ⟨rfl, rfl, rfl, by decide +kernel, rfl, by decide +kernel, by decide +kernel⟩
abbrev s_law_words : Stmt := top 49
abbrev nm_law_words : List Str := ["_law_cell", "_law_count", "_law_row", "_law_number"]
theorem sc_law_words : FnScope nm_law_words ["_law_cell", "_law_count"] (defScope s_law_words) := ⟨rfl, rfl, rfl, by decide +kernel, rfl, by decide +kernel, by decide +kernel⟩
abbrev s_law_alike : Stmt := top 50
abbrev nm_law_alike : List Str := ["_law_machine", "_law_box", "_law_address", "_law_due", "_law_k", "_law_shown"]
theorem sc_law_alike : FnScope nm_law_alike ["_law_machine", "_law_box"] (defScope s_law_alike) := ⟨rfl, rfl, rfl, by decide +kernel, rfl, by decide +kernel, by decide +kernel⟩
abbrev s_law : Stmt := top 51
abbrev nm_law : List Str := ["_law_script", "_law_cells", "_law_lines_here", "_law_data", "_law_draws_here", "_law_cell", "_law_entry", "_law_number", "_law_memory", "_law_registers", "_law_inputs", "_law_machine", "_law_box", "_law_total", "_law_length", "_law_made", "_law_due"]
theorem sc_law : FnScope nm_law ["_law_script"] (defScope s_law) := ⟨rfl, rfl, rfl, by decide +kernel, rfl, by decide +kernel, by decide +kernel⟩
/-- what the top has left of the text -/
structure Txt (K : PySem.W.Frag) (mg : Str → Option Value) (CI CM : Addr) : Prop where
  d_signed : DefG K mg "signed" s_signed
  d_bitwise : DefG K mg "bitwise" s_bitwise
  d_shifted : DefG K mg "shifted" s_shifted
  d_combine : DefG K mg "combine" s_combine
  d_I_init__ : DefM K CI "__init__" "Image.__init__" s_I_init__
  d_I_part : DefM K CI "part" "Image.part" s_I_part
  d_word_of : DefG K mg "word_of" s_word_of
  d_pair_of : DefG K mg "pair_of" s_pair_of
  d_table_in : DefG K mg "table_in" s_table_in
  d_paired_in : DefG K mg "paired_in" s_paired_in
  d_single_in : DefG K mg "single_in" s_single_in
  d_plain_in : DefG K mg "plain_in" s_plain_in
  d_decode : DefG K mg "decode" s_decode
  d_found_at : DefG K mg "found_at" s_found_at
  d_instruction_at : DefG K mg "instruction_at" s_instruction_at
  d_next_address : DefG K mg "next_address" s_next_address
  d_M_init__ : DefM K CM "__init__" "Machine.__init__" s_M_init__
  d_M_status : DefM K CM "status" "Machine.status" s_M_status
  d_M_registers : DefM K CM "registers" "Machine.registers" s_M_registers
  d_M_waiting : DefM K CM "waiting" "Machine.waiting" s_M_waiting
  d_M_outputs : DefM K CM "outputs" "Machine.outputs" s_M_outputs
  d_M_inputs_left : DefM K CM "inputs_left" "Machine.inputs_left" s_M_inputs_left
  d_M_read : DefM K CM "read" "Machine.read" s_M_read
  d_M_written : DefM K CM "written" "Machine.written" s_M_written
  d_M_run : DefM K CM "run" "Machine.run" s_M_run
  d_M_step : DefM K CM "step" "Machine.step" s_M_step
  d_M_trap : DefM K CM "trap" "Machine.trap" s_M_trap
  d_M_compute : DefM K CM "compute" "Machine.compute" s_M_compute
  d_M_taken : DefM K CM "taken" "Machine.taken" s_M_taken
  d_M_access : DefM K CM "access" "Machine.access" s_M_access
  d_M_shift : DefM K CM "shift" "Machine.shift" s_M_shift
  d_M_go : DefM K CM "go" "Machine.go" s_M_go
  d_M_enter : DefM K CM "enter" "Machine.enter" s_M_enter
  d_law_is_integer : DefG K mg "_law_is_integer" s_law_is_integer
  d_law_draws : DefG K mg "_law_draws" s_law_draws
  d_law_decode : DefG K mg "_law_decode" s_law_decode
  d_law_names : DefG K mg "_law_names" s_law_names
  d_law_kinds : DefG K mg "_law_kinds" s_law_kinds
  d_law_signed : DefG K mg "_law_signed" s_law_signed
  d_law_bitwise : DefG K mg "_law_bitwise" s_law_bitwise
  d_law_combine : DefG K mg "_law_combine" s_law_combine
  d_law_start : DefG K mg "_law_start" s_law_start
  d_law_step : DefG K mg "_law_step" s_law_step
  d_law_work : DefG K mg "_law_work" s_law_work
  d_law_go : DefG K mg "_law_go" s_law_go
  d_law_goal : DefG K mg "_law_goal" s_law_goal
  d_law_run : DefG K mg "_law_run" s_law_run
  d_law_lines : DefG K mg "_law_lines" s_law_lines
  d_law_size : DefG K mg "_law_size" s_law_size
  d_law_image : DefG K mg "_law_image" s_law_image
  d_law_code : DefG K mg "_law_code" s_law_code
  d_law_words : DefG K mg "_law_words" s_law_words
  d_law_alike : DefG K mg "_law_alike" s_law_alike
  d_law : DefG K mg "law" s_law
  g_WORDS : ∃ t, mg "WORDS" = some (.int 65536 t)
  g_MOST_BYTES : ∃ t, mg "MOST_BYTES" = some (.int 4096 t)
  g_MOST_TABLE : ∃ t, mg "MOST_TABLE" = some (.int 16 t)
  g_FRAME_LOW : ∃ t, mg "FRAME_LOW" = some (.int 64512 t)
  g_MOST_WAITING : ∃ t, mg "MOST_WAITING" = some (.int 64 t)
  g_OPERATIONS : ∃ a, mg "OPERATIONS" = some (.ref a) ∧ ∀ H, SqT K H a (tab_OPERATIONS.map V.str)
  g_NAMES : ∃ a, mg "NAMES" = some (.ref a) ∧ ∀ H, SqT K H a (tab_NAMES.map V.str)
  n_all : mg "all" = none
  n_bool : mg "bool" = none
  n_int : mg "int" = none
  n_isinstance : mg "isinstance" = none
  n_len : mg "len" = none
  n_list : mg "list" = none
  n_max : mg "max" = none
  n_min : mg "min" = none
  n_range : mg "range" = none
  n_reversed : mg "reversed" = none
  n_sorted : mg "sorted" = none
  n_tuple : mg "tuple" = none
  mgI : mg "Image" = some (.ref CI)
  mgM : mg "Machine" = some (.ref CM)
  clI : Cls K CI
  clM : Cls K CM
  mkI : ∃ f, Mk K CI f
  mkM : ∃ f, Mk K CM f
  aI_data : NoAttr K CI "_data"
  aI_entry : NoAttr K CI "entry"
  aM_image : NoAttr K CM "_image"
  aM_registers : NoAttr K CM "_registers"
  aM_memory : NoAttr K CM "_memory"
  aM_inputs : NoAttr K CM "_inputs"
  aM_taken : NoAttr K CM "_taken"
  aM_outputs : NoAttr K CM "_outputs"
  aM_waiting : NoAttr K CM "_waiting"
  aM_status : NoAttr K CM "_status"
  aM_address : NoAttr K CM "address"
  aM_sp : NoAttr K CM "sp"
  aM_steps : NoAttr K CM "steps"
structure FnG (P : Program) (w : World) (K : PySem.W.Frag) (mg : Str → Option Value) (base : Heap) (x : Str) (k : Nat) (ps : List Str) (sp : Sp) : Prop where
  ex : ∃ (f : Addr) (fd : FuncData), mg x = some (.ref f) ∧ PySem.W.keepIn K (.ref f) = true ∧ Binds K fd ps [] ∧ FnOk P w K mg base CX0 k f fd ps sp
structure FnM (P : Program) (w : World) (K : PySem.W.Frag) (mg : Str → Option Value) (base : Heap) (C : Addr) (m : Str) (k : Nat) (ps : List Str) (sp : Sp) : Prop where
  ex : ∃ (f : Addr) (fd : FuncData), Meth K C m f ∧ Binds K fd ps [] ∧ FnOk P w K mg base CX0 k f fd ps sp
section
variable {P : Program} {w : World} {K : PySem.W.Frag} {mg : Str → Option Value} {base : Heap}
theorem fnG_of {x : Str} {st : Stmt} {N ps : List Str} {k : Nat} {sp : Sp} (D : DefG K mg x st) (S : FnScope N ps (defScope st))
    (hb : ∀ (kV doc pm : Value) (an : Option Addr) (cdv ct : Value) (us : List Value), us.length = ps.length → bindArgs (PySem.W.fnOf x x (defArgs st) (defBody st) (defScope st) .none kV doc pm an cdv ct) ⟨us, []⟩ = pure (ps.zip us))
    (len : ∀ vs H Q E, sp vs H Q E → vs.length = ps.length)
    (body : ∀ (f : Addr) (cdv : Value) (A : Around) (outer : List Env) (s : Shared) (H : Hp) (vs : List V) (Q : VK) (E : XK), Room k (A.deeper (envOfC x (defScope st) s.heap.objs.size f cdv)) → sp vs H Q E →
      ∃ t, PSs (cxOf CX0 P w K mg base N x (defScope st) f cdv A outer s H E).nox (defBody st) t ∧ t { nx := fun _ H' => Q .non H', rt := Q } (start N vs) H) :
    FnG P w K mg base x (k + 1) ps sp := by
  obtain ⟨f, fd, g, F⟩ := D.ex
  exact ⟨f, fd, g, F.kp, F.binds hb, F.ok S len fun cdv A outer s H vs Q E hr h => body f cdv A outer s H vs Q E hr h⟩
theorem fnM_of {C : Addr} {m q : Str} {st : Stmt} {N ps : List Str} {k : Nat} {sp : Sp} (D : DefM K C m q st) (S : FnScope N ps (defScope st))
    (hb : ∀ (kV doc pm : Value) (an : Option Addr) (cdv ct : Value) (us : List Value), us.length = ps.length → bindArgs (PySem.W.fnOf m q (defArgs st) (defBody st) (defScope st) .none kV doc pm an cdv ct) ⟨us, []⟩ = pure (ps.zip us))
    (len : ∀ vs H Q E, sp vs H Q E → vs.length = ps.length)
    (body : ∀ (f : Addr) (cdv : Value) (A : Around) (outer : List Env) (s : Shared) (H : Hp) (vs : List V) (Q : VK) (E : XK), Room k (A.deeper (envOfC q (defScope st) s.heap.objs.size f cdv)) → sp vs H Q E →
      ∃ t, PSs (cxOf CX0 P w K mg base N q (defScope st) f cdv A outer s H E).nox (defBody st) t ∧ t { nx := fun _ H' => Q .non H', rt := Q } (start N vs) H) :
    FnM P w K mg base C m (k + 1) ps sp := by
  obtain ⟨f, fd, g, F⟩ := D.ex
  exact ⟨f, fd, g, F.binds hb, F.ok S len fun cdv A outer s H vs Q E hr h => body f cdv A outer s H vs Q E hr h⟩
end
section
variable {X : Cx} {x m : Str} {k : Nat} {ps : List Str} {sp : Sp} {p pos apos : Pos} {e o : Expr} {es : List Expr} {t : TA} {ta : TE} {C : Addr}
theorem pe_gi {i : Int} (hg : Gl X x) (h : ∃ t, X.mg x = some (.int i t)) (hd : (x == ("__debug__" : Str)) = false := by decide) : PE X (.Name x pos) (tC (.int i)) := by
  obtain ⟨t, h⟩ := h
  exact pe_glob hg h ⟨t, rfl⟩ hd
/-- a module's tuple of texts -/
def tGr (K : PySem.W.Frag) (l : List Str) : TE := fun _ H Q => ∀ a, (∀ H', SqT K H' a (l.map V.str)) → Q (.ref a) H
theorem pe_gr {l : List Str} (hg : Gl X x) (h : ∃ a, X.mg x = some (.ref a) ∧ ∀ H, SqT X.K H a (l.map V.str)) (hd : (x == ("__debug__" : Str)) = false := by decide) : PE X (.Name x pos) (tGr X.K l) := by
  obtain ⟨a, h, hs⟩ := h
  exact ⟨fun pins s σ H Q I hq => (pe_glob hg h (v := .ref a) rfl hd).run pins s σ H Q I (hq a hs)⟩
theorem pe_fn (G : FnG X.prog X.w X.K X.mg X.base x k ps sp) (hr : Room k X.A) (hg : Gl X x) (ha : PA X (e :: es) t) (hdb : (x == ("__debug__" : Str)) = false := by decide)
    (he : starEach (e :: es) X.env = (false, eval e X.env) :: starEach es X.env := by rfl) (hpl : (backTo pos (starEach es X.env)).any (·.1) = false := by rfl) : PE X (.Call (.Name x p) (e :: es) [] pos) (tCall sp [] E0 t) := by
  obtain ⟨f, fd, g, kp, b, F⟩ := G.ex
  exact pe_call F hr hg g kp b .nil pass0 ha hdb he hpl
theorem pe_fn0 (G : FnG X.prog X.w X.K X.mg X.base x k ps sp) (hr : Room k X.A) (hg : Gl X x) (hdb : (x == ("__debug__" : Str)) = false := by decide) : PE X (.Call (.Name x p) [] [] pos) (tCall sp [] E0 tNil) := by
  obtain ⟨f, fd, g, kp, b, F⟩ := G.ex
  exact pe_call0 F hr hg g kp b .nil pass0 hdb
theorem pe_mt {pl : Sem Bool} (he : PE X o ta) (c : Cls X.K C) (G : FnM X.prog X.w X.K X.mg X.base C m k ps sp) (hr : Room k X.A) (ha : PA X (e :: es) t)
    (hst : starEach (e :: es) X.env = (false, eval e X.env) :: starEach es X.env := by rfl) (hpl : (backTo pos (starEach es X.env)).any (·.1) = false := by rfl)
    (ht : eval (.Call (.Attribute o m apos) (e :: es) [] pos) X.env = (do
      let ov ← eval o X.env
      standAt apos.atName
      let (f, first) ← holding [ov] (getMethod ov m pl)
      callWith pos f first (backTo pos (starEach (e :: es) X.env)) (backToKw pos (keywordEach [] X.env))) := by rfl) :
    PE X (.Call (.Attribute o m apos) (e :: es) [] pos) (tMeth C m sp [] E0 ta t) := by
  obtain ⟨f, fd, g, b, F⟩ := G.ex
  exact pe_meth he c g F hr b .nil pass0 ha hst hpl ht
theorem pe_mt0 {pl : Sem Bool} (he : PE X o ta) (c : Cls X.K C) (G : FnM X.prog X.w X.K X.mg X.base C m k ps sp) (hr : Room k X.A)
    (ht : eval (.Call (.Attribute o m apos) [] [] pos) X.env = (do
      let ov ← eval o X.env
      standAt apos.atName
      let (f, first) ← holding [ov] (getMethod ov m pl)
      callWith pos f first (backTo pos (starEach [] X.env)) (backToKw pos (keywordEach [] X.env))) := by rfl) :
    PE X (.Call (.Attribute o m apos) [] [] pos) (tMeth C m sp [] E0 ta tNil) := by
  obtain ⟨f, fd, g, b, F⟩ := G.ex
  exact pe_meth0 he c g F hr b .nil pass0 ht
theorem cr_len (K : PySem.W.Frag) (h : X.K = K := by rfl) : CallR X (.builtin "len") (rLenS K) := h ▸ call_len_seq
def rLenD : List V → Hp → VK → Prop := fun xs H Q => ∃ a kvs, xs = [V.ref a] ∧ H a = some (.dK kvs) ∧ Q (.int kvs.length) H
theorem cr_lenD : CallR X (.builtin "len") rLenD := call_lenD
theorem cr_list (K : PySem.W.Frag) (h : X.K = K := by rfl) : CallR X (.type "list") (rListS K) := h ▸ call_list_of
theorem cr_max2 (hc : X.calm = true) : CallR X (.builtin "max") rMax2 := call_max2 hc
def rMin2 : List V → Hp → VK → Prop := fun xs H Q => ∃ i j, xs = [.int i, .int j] ∧ Q (.int (if j < i then j else i)) H
theorem cr_min2 (hc : X.calm = true) : CallR X (.builtin "min") rMin2 := call_min2 hc
def rInt1 : List V → Hp → VK → Prop := fun xs H Q => (∃ i, xs = [.int i] ∧ Q (.int i) H) ∨ ∃ k, xs = [.bl k] ∧ Q (.int (if k then 1 else 0)) H
theorem cr_int : CallR X (.type "int") rInt1 := call_int1
def rTupS (K : PySem.W.Frag) : List V → Hp → VK → Prop := fun xs H Q => ∃ p ys, xs = [.ref p] ∧ ((SqL K H p ys ∧ ∀ l, H l = none → Q (.ref l) (upd H l (.tup ys))) ∨ (SqT K H p ys ∧ Q (.ref p) H))
theorem cr_tuple (K : PySem.W.Frag) (h : X.K = K := by rfl) : CallR X (.type "tuple") (rTupS K) := h ▸ call_tuple_of
theorem pt_tru (K : PySem.W.Frag) (ha : PE X e ta) (he : ∀ whole, isTrue e X.env whole = (do let v ← whole; standAt e.pos; holding [v] (truthy v))) (h : X.K = K := by rfl) : PT X e (tTru K ta) := h ▸ pt_truth ha he
theorem ixl (K : PySem.W.Frag) (h : X.K = K := by rfl) : IxR X (rIxL K) := h ▸ ix_list
theorem ixt (K : PySem.W.Frag) (h : X.K = K := by rfl) : IxR X (rIxT K) := h ▸ ix_tup
theorem o_in (K : PySem.W.Frag) (h : X.K = K := by rfl) : OpR X (compareOp .In) (rIn K false) := h ▸ op_in_seq
theorem o_ni (K : PySem.W.Frag) (h : X.K = K := by rfl) : OpR X (compareOp .NotIn) (rIn K true) := h ▸ op_notIn_seq
theorem o_eqD (K : PySem.W.Frag) (hu : X.A.units + 64 < cLine) (h : X.K = K := by rfl) : OpR X (compareOp .Eq) (rEqD K) := h ▸ op_eqD hu
theorem o_neD (K : PySem.W.Frag) (hu : X.A.units + 64 < cLine) (h : X.K = K := by rfl) : OpR X (compareOp .NotEq) (rNeD K) := h ▸ op_neD hu
theorem p_fld (K : PySem.W.Frag) {f : Str} (he : PE X e ta) (hb : attributeBase e f X.env (eval e X.env) = eval e X.env) (h : X.K = K := by rfl) : PE X (.Attribute e f pos) (tFld K ta f) := h ▸ pe_fld he hb
theorem s_fld_ (K : PySem.W.Frag) {f : Str} {value : Expr} {tv : TE} {pos' : Pos} (ha : PE X o ta) (hv : PE X value tv) (hs : swapsWith value (some (.Attribute o f pos')) pos.line X.env = pure false) (h : X.K = K := by rfl) : PS X (.Assign [.Attribute o f pos'] value pos) (sFld K ta tv f) := h ▸ ps_fld ha hv hs
theorem s_fldaug_ (K : PySem.W.Frag) {f : Str} {value : Expr} {tv : TE} {tpos : Pos} {op : Operator} {rd : V → V → Hp → VK → Prop} (ha : PE X o ta) (hv : PE X value tv) (hop : InOp X op rd) (h : X.K = K := by rfl) : PS X (.AugAssign (.Attribute o f tpos) op value pos) (sFldAug K ta tv rd f) := h ▸ ps_fldaug ha hv hop
theorem p_gr (K : PySem.W.Frag) {l : List Str} (hg : Gl X x) (hm : ∃ a, X.mg x = some (.ref a) ∧ ∀ H, SqT K H a (l.map V.str)) (hd : (x == ("__debug__" : Str)) = false := by decide) (h : X.K = K := by rfl) : PE X (.Name x pos) (tGr K l) := by
  subst h
  exact pe_gr hg hm hd
theorem sll (K : PySem.W.Frag) (h : X.K = K := by rfl) : SlR X (rSlL K) := h ▸ sl_list
theorem p_list (K : PySem.W.Frag) {tg : Expr} (hl : PE X e ta) (h : X.K = K := by rfl) : PI X tg e (iList K ta) := h ▸ pi_list hl
theorem cr_isi (K : PySem.W.Frag) (h : X.K = K := by rfl) : CallR X (.builtin "isinstance") (rIsi K) := h ▸ call_isi
theorem pg_tup_ (K : PySem.W.Frag) {es : List Expr} {k : Nat} {t : TGs} {n : Nat} (hc : X.calm = true) (hh : PGs X es t)
    (hn : (assignEach es X.env).length = n := by rfl) (hst : (assignEach es X.env).findIdx? (·.1) = none := by rfl) (h : X.K = K := by rfl) : PG X (.Tuple es k pos) (gTup K n t) := h ▸ pg_tup hc hh hn hst
theorem p_bm (K : PySem.W.Frag) {T : String} {name : Str} {id : String} {r : V → List V → Hp → VK → Prop} {apos cpos : Pos} (a : PE X (.Call (.Attribute o name apos) (e :: es) [] cpos) (tBM X.K T r ta t)) (h : X.K = K := by rfl) : PE X (.Call (.Attribute o name apos) (e :: es) [] cpos) (tBM K T r ta t) := h ▸ a
theorem p_bm0 (K : PySem.W.Frag) {T : String} {name : Str} {r : V → List V → Hp → VK → Prop} {apos cpos : Pos} (a : PE X (.Call (.Attribute o name apos) [] [] cpos) (tBM0 X.K T r ta)) (h : X.K = K := by rfl) : PE X (.Call (.Attribute o name apos) [] [] cpos) (tBM0 K T r ta) := h ▸ a
end

def Wd (x : Int) : Prop := 0 ≤ x ∧ x < 65536
def By (x : Int) : Prop := 0 ≤ x ∧ x < 256
def Rg (x : Int) : Prop := 0 ≤ x ∧ x < 8
def sgn (x : Int) : Int := if 32768 ≤ x then x - 65536 else x
/-- the bits' function f, over the lowest n bits -/
def bw (f : Int → Int → Int) (l r : Int) : Nat → Int
  | 0 => 0
  | n + 1 => bw f l r n + f (l / 2 ^ n % 2) (r / 2 ^ n % 2) * 2 ^ n
def fAnd (a b : Int) : Int := a * b
def fOr (a b : Int) : Int := a + b - a * b
def fXor (a b : Int) : Int := a + b - 2 * a * b
def bitF (c : Nat) : Int → Int → Int := if c = 5 then fAnd else if c = 6 then fOr else fXor
def comb (c : Nat) (l r : Int) : Int :=
  if c = 3 then (l + r) % 65536
  else if c = 4 then (l - r) % 65536
  else if c = 8 then l * r % 65536
  else if c = 5 ∨ c = 6 ∨ c = 7 then bw (bitF c) l r 16
  else if c = 9 then l * 2 ^ (r % 16).toNat % 65536
  else if c = 10 then l / 2 ^ (r % 16).toNat
  else if c = 11 then (if l < r then 1 else 0)
  else if c = 12 then (if sgn l < sgn r then 1 else 0)
  else (if l = r then 1 else 0)
theorem pw_pos (n : Nat) : (0 : Int) < 2 ^ n := by
  induction n with
  | zero => decide
  | succ n ih => rw [Int.pow_succ]; omega
theorem pw_le {n m : Nat} (h : n ≤ m) : (2 : Int) ^ n ≤ 2 ^ m := by
  induction m with
  | zero => have : n = 0 := by omega
            subst this; exact Int.le_refl _
  | succ m ih =>
    rw [Int.pow_succ]
    have := pw_pos m
    by_cases h1 : n ≤ m
    · have := ih h1; omega
    · have : n = m + 1 := by omega
      subst this; rw [Int.pow_succ]; exact Int.le_refl _
theorem pw16 {n : Nat} (h : n ≤ 16) : (0 : Int) < 2 ^ n ∧ (2 : Int) ^ n ≤ 65536 := ⟨pw_pos n, by have := pw_le h; simpa using this⟩
theorem bit01 (x : Int) : x % 2 = 0 ∨ x % 2 = 1 := by omega
theorem bitF01 {c : Nat} {a b : Int} (ha : a = 0 ∨ a = 1) (hb : b = 0 ∨ b = 1) : bitF c a b = 0 ∨ bitF c a b = 1 := by
  unfold bitF fAnd fOr fXor
  rcases ha with rfl | rfl <;> rcases hb with rfl | rfl <;> (split <;> try split) <;> simp
theorem bw_range (c : Nat) (l r : Int) : ∀ n, 0 ≤ bw (bitF c) l r n ∧ bw (bitF c) l r n < 2 ^ n
  | 0 => by simp [bw]
  | n + 1 => by
    obtain ⟨h1, h2⟩ := bw_range c l r n
    have hp := pw_pos n
    rw [bw, Int.pow_succ]
    rcases bitF01 (c := c) (bit01 (l / 2 ^ n)) (bit01 (r / 2 ^ n)) with e | e <;> rw [e] <;> omega
theorem div_word {l p : Int} (hl : Wd l) (hp : 0 < p) : Wd (l / p) := by
  have h1 : 0 ≤ l / p := Int.ediv_nonneg hl.1 (Int.le_of_lt hp)
  have h2 : l / p ≤ l := Int.ediv_le_self p hl.1
  exact ⟨h1, Int.lt_of_le_of_lt h2 hl.2⟩
theorem mod_word (x : Int) : Wd (x % 65536) := ⟨Int.emod_nonneg _ (by decide), Int.emod_lt_of_pos _ (by decide)⟩
theorem comb_word {c : Nat} {l r : Int} (hl : Wd l) (hr : Wd r) : Wd (comb c l r) := by
  unfold comb
  split; · exact mod_word _
  split; · exact mod_word _
  split; · exact mod_word _
  split
  · have := bw_range c l r 16
    exact ⟨this.1, by simpa using this.2⟩
  split; · exact mod_word _
  split; · exact div_word hl (pw_pos _)
  have w0 : Wd 0 := ⟨by decide, by decide⟩
  have w1 : Wd 1 := ⟨by decide, by decide⟩
  split; · split <;> assumption
  split; · split <;> assumption
  split <;> assumption
theorem sub_mod (l r : Int) : (l + 65536 - r) % 65536 = (l - r) % 65536 := by omega

inductive Ins where
  | set (r w : Int) | copy (r s : Int) | op (c : Nat) (r s : Int) | load (r s w : Int) | store (r s w : Int)
  | take (r k : Int) | put (r k : Int) | frame (r k : Int) | down (k : Int) | up (k : Int)
  | jump (a : Int) | zero (r a : Int) | nonzero (r a : Int) | table (r : Int) (t : List Int) | call (a : Int) | calls (r : Int) (t : List Int)
  | back | input (r : Int) | output (r : Int) | halt | trap (k : Int)
def Ins.code : Ins → Nat
  | .set _ _ => 1 | .copy _ _ => 2 | .op c _ _ => c | .load _ _ _ => 14 | .store _ _ _ => 15 | .take _ _ => 16 | .put _ _ => 17 | .frame _ _ => 18 | .down _ => 19 | .up _ => 20
  | .jump _ => 21 | .zero _ _ => 22 | .nonzero _ _ => 23 | .table _ _ => 24 | .call _ => 25 | .calls _ _ => 26 | .back => 27 | .input _ => 28 | .output _ => 29 | .halt => 30 | .trap _ => 31
def Ins.Ok : Ins → Prop
  | .set r w => Rg r ∧ Wd w | .copy r s => Rg r ∧ Rg s | .op c r s => (3 ≤ c ∧ c ≤ 13) ∧ Rg r ∧ Rg s | .load r s w => Rg r ∧ Rg s ∧ Wd w | .store r s w => Rg r ∧ Rg s ∧ Wd w
  | .take r k => Rg r ∧ By k | .put r k => Rg r ∧ By k | .frame r k => Rg r ∧ By k | .down k => By k | .up k => By k
  | .jump a => Wd a | .zero r a => Rg r ∧ Wd a | .nonzero r a => Rg r ∧ Wd a | .table r t => Rg r ∧ t.length ≤ 16 ∧ ∀ x ∈ t, Wd x | .call a => Wd a | .calls r t => Rg r ∧ t.length ≤ 16 ∧ ∀ x ∈ t, Wd x
  | .back => True | .input r => Rg r | .output r => Rg r | .halt => True | .trap k => By k
theorem Ins.code_lt {i : Ins} (h : i.Ok) : 1 ≤ i.code ∧ i.code < 32 := by
  cases i <;> simp only [Ins.code] <;> first | decide | (simp only [Ins.Ok] at h; omega)

def gI (l : List Int) (i : Nat) : Int := l.getD i 0
def wd (l : List Int) (i : Nat) : Int := 256 * gI l i + gI l (i + 1)
def tWords (l : List Int) (n : Int) : List Int := (List.range n.toNat).map fun k => wd l (2 + 2 * k)
def tI (c : Nat) (l : List Int) : Option (Ins × Int) :=
  if l.length < 2 then none
  else if 8 ≤ gI l 0 then none
  else if ¬ (1 ≤ gI l 1 ∧ gI l 1 ≤ 16) then none
  else if (l.length : Int) < 2 + 2 * gI l 1 then none
  else some (if c = 24 then .table (gI l 0) (tWords l (gI l 1)) else .calls (gI l 0) (tWords l (gI l 1)), 3 + 2 * gI l 1)
def pI (c : Nat) (l : List Int) : Option (Ins × Int) :=
  if l.length < 1 then none
  else if ¬ (gI l 0 / 16 < 8 ∧ gI l 0 % 16 < 8) then none
  else if ¬ (c = 14 ∨ c = 15) then some (if c = 2 then .copy (gI l 0 / 16) (gI l 0 % 16) else .op c (gI l 0 / 16) (gI l 0 % 16), 2)
  else if l.length < 3 then none
  else some (if c = 14 then .load (gI l 0 / 16) (gI l 0 % 16) (wd l 1) else .store (gI l 0 / 16) (gI l 0 % 16) (wd l 1), 4)
def sI (c : Nat) (l : List Int) : Option (Ins × Int) :=
  if l.length < 1 then none
  else if 8 ≤ gI l 0 then none
  else if c = 28 ∨ c = 29 then some (if c = 28 then .input (gI l 0) else .output (gI l 0), 2)
  else if l.length < 2 then none
  else if c = 17 then some (.put (gI l 0) (gI l 1), 3)
  else if c = 16 ∨ c = 18 then some (if c = 16 then .take (gI l 0) (gI l 1) else .frame (gI l 0) (gI l 1), 3)
  else if l.length < 3 then none
  else some (if c = 1 then .set (gI l 0) (wd l 1) else if c = 22 then .zero (gI l 0) (wd l 1) else .nonzero (gI l 0) (wd l 1), 4)
def nI (c : Nat) (l : List Int) : Option (Ins × Int) :=
  if c = 27 ∨ c = 30 then some (if c = 27 then .back else .halt, 1)
  else if l.length < 1 then none
  else if c = 19 ∨ c = 20 ∨ c = 31 then some (if c = 19 then .down (gI l 0) else if c = 20 then .up (gI l 0) else .trap (gI l 0), 2)
  else if l.length < 2 then none
  else some (if c = 21 then .jump (wd l 0) else .call (wd l 0), 3)
def isT (c : Nat) : Prop := c = 24 ∨ c = 26
def isP (c : Nat) : Prop := 2 ≤ c ∧ c ≤ 15
def isS (c : Nat) : Prop := c = 1 ∨ c = 16 ∨ c = 17 ∨ c = 18 ∨ c = 22 ∨ c = 23 ∨ c = 28 ∨ c = 29
instance (c : Nat) : Decidable (isT c) := by unfold isT; exact inferInstance
instance (c : Nat) : Decidable (isP c) := by unfold isP; exact inferInstance
instance (c : Nat) : Decidable (isS c) := by unfold isS; exact inferInstance
def decC (c : Nat) (l : List Int) : Option (Ins × Int) :=
  if isT c then tI c l else if isP c then pI c l else if isS c then sI c l else nI c l
def dec (d : List Int) : Option (Ins × Int) :=
  if d.length < 1 then none
  else if ¬ (1 ≤ gI d 0 ∧ gI d 0 ≤ 31) then none
  else decC (gI d 0).toNat (d.drop 1)
def Bytes (l : List Int) : Prop := ∀ x ∈ l, By x
theorem gI_by {l : List Int} (h : Bytes l) (i : Nat) : By (gI l i) := by
  unfold gI
  rw [List.getD_eq_getElem?_getD]
  cases e : l[i]? with
  | none => exact ⟨by decide, by decide⟩
  | some x => exact h x (List.mem_of_getElem? e)
theorem wd_word {l : List Int} (h : Bytes l) (i : Nat) : Wd (wd l i) := by
  have h1 := gI_by h i
  have h2 := gI_by h (i + 1)
  unfold By at h1 h2
  unfold wd Wd
  omega
theorem gI_take {l : List Int} {i n : Nat} (h : i < n) : gI (l.take n) i = gI l i := by
  unfold gI
  rw [List.getD_eq_getElem?_getD, List.getD_eq_getElem?_getD, List.getElem?_take_of_lt h]
theorem wd_take {l : List Int} {i n : Nat} (h : i + 1 < n) : wd (l.take n) i = wd l i := by
  unfold wd
  rw [gI_take (by omega), gI_take h]
theorem tWords_take {l : List Int} {m : Int} (h : m ≤ 16) : tWords (l.take 34) m = tWords l m := by
  unfold tWords
  refine List.map_congr_left fun k hk => ?_
  have := List.mem_range.mp hk
  exact wd_take (by omega)
theorem tI_take (c : Nat) (l : List Int) (h1 : By (gI l 1)) : tI c (l.take 34) = tI c l := by
  unfold tI
  rw [List.length_take, gI_take (by decide), gI_take (by decide)]
  by_cases h : l.length < 2
  · rw [if_pos h, if_pos (by omega)]
  rw [if_neg h, if_neg (by omega)]
  split; · rfl
  split; · rfl
  rename_i h3
  have h4 : 1 ≤ gI l 1 ∧ gI l 1 ≤ 16 := Classical.not_not.mp h3
  by_cases h5 : (l.length : Int) < 2 + 2 * gI l 1
  · rw [if_pos h5, if_pos (by omega)]
  rw [if_neg h5, if_neg (by omega), tWords_take h4.2]
theorem pI_take (c : Nat) (l : List Int) : pI c (l.take 34) = pI c l := by
  unfold pI
  rw [List.length_take, gI_take (by decide), wd_take (by decide)]
  have e1 : (min 34 l.length < 1) = (l.length < 1) := by apply propext; omega
  have e3 : (min 34 l.length < 3) = (l.length < 3) := by apply propext; omega
  simp only [e1, e3]
theorem sI_take (c : Nat) (l : List Int) : sI c (l.take 34) = sI c l := by
  unfold sI
  rw [List.length_take, gI_take (by decide), gI_take (by decide), wd_take (by decide)]
  have e1 : (min 34 l.length < 1) = (l.length < 1) := by apply propext; omega
  have e2 : (min 34 l.length < 2) = (l.length < 2) := by apply propext; omega
  have e3 : (min 34 l.length < 3) = (l.length < 3) := by apply propext; omega
  simp only [e1, e2, e3]
theorem nI_take (c : Nat) (l : List Int) : nI c (l.take 34) = nI c l := by
  unfold nI
  rw [List.length_take, gI_take (by decide), wd_take (by decide)]
  have e1 : (min 34 l.length < 1) = (l.length < 1) := by apply propext; omega
  have e2 : (min 34 l.length < 2) = (l.length < 2) := by apply propext; omega
  simp only [e1, e2]
theorem bytes_drop {l : List Int} (h : Bytes l) (n : Nat) : Bytes (l.drop n) := fun x hx => h x (List.mem_of_mem_drop hx)
theorem bytes_take {l : List Int} (h : Bytes l) (n : Nat) : Bytes (l.take n) := fun x hx => h x (List.mem_of_mem_take hx)
/-- 35 bytes are enough -/
theorem dec_take {d : List Int} (h : Bytes d) : dec (d.take 35) = dec d := by
  unfold dec
  rw [List.length_take, gI_take (by decide)]
  have e1 : (min 35 d.length < 1) = (d.length < 1) := by apply propext; omega
  have e2 : (d.take 35).drop 1 = (d.drop 1).take 34 := by rw [List.drop_take]
  simp only [e1]
  rw [e2]
  split; · rfl
  split; · rfl
  unfold decC
  rw [tI_take _ _ (gI_by (bytes_drop h 1) 1), pI_take, sI_take, nI_take]
theorem dec_ok {d : List Int} (h : Bytes d) {i : Ins} {n : Int} (e : dec d = some (i, n)) : i.Ok ∧ 1 ≤ n ∧ n ≤ 35 := by
  have hl : Bytes (d.drop 1) := bytes_drop h 1
  have g0 := gI_by hl 0
  have g1 := gI_by hl 1
  have w0 := wd_word hl 0
  have w1 := wd_word hl 1
  unfold By at g0 g1
  unfold dec at e
  split at e; · cases e
  split at e; · cases e
  rename_i h1 h2
  have h3 : 1 ≤ gI d 0 ∧ gI d 0 ≤ 31 := Classical.not_not.mp h2
  unfold decC at e
  generalize hc : (gI d 0).toNat = c at e
  have hc1 : 1 ≤ c ∧ c ≤ 31 := by omega
  generalize d.drop 1 = l at *
  split at e
  · unfold tI at e
    split at e; · cases e
    split at e; · cases e
    split at e; · cases e
    split at e; · cases e
    rename_i h4 h5 h6 h7
    have h6 := Classical.not_not.mp h6
    simp only [Option.some.injEq, Prod.mk.injEq] at e
    obtain ⟨e1, e2⟩ := e
    have q : Rg (gI l 0) ∧ (tWords l (gI l 1)).length ≤ 16 ∧ ∀ x ∈ tWords l (gI l 1), Wd x := by
      refine ⟨⟨by omega, by omega⟩, ?_, fun x hx => ?_⟩
      · unfold tWords
        rw [List.length_map, List.length_range]
        omega
      · unfold tWords at hx
        obtain ⟨k, _, e⟩ := List.mem_map.mp hx
        rw [← e]
        exact wd_word hl _
    refine ⟨?_, by omega, by omega⟩
    rw [← e1]
    split <;> exact q
  split at e
  · rename_i hT hP
    unfold isP at hP
    unfold pI at e
    split at e; · cases e
    split at e; · cases e
    rename_i h4 h5
    have h5 := Classical.not_not.mp h5
    have r0 : Rg (gI l 0 / 16) := ⟨by omega, h5.1⟩
    have r1 : Rg (gI l 0 % 16) := ⟨by omega, h5.2⟩
    split at e
    · rename_i h6
      simp only [Option.some.injEq, Prod.mk.injEq] at e
      obtain ⟨e1, e2⟩ := e
      refine ⟨?_, by omega, by omega⟩
      rw [← e1]
      split
      · exact ⟨r0, r1⟩
      · exact ⟨by omega, r0, r1⟩
    split at e; · cases e
    simp only [Option.some.injEq, Prod.mk.injEq] at e
    obtain ⟨e1, e2⟩ := e
    refine ⟨?_, by omega, by omega⟩
    rw [← e1]
    split <;> exact ⟨r0, r1, w1⟩
  split at e
  · unfold sI at e
    split at e; · cases e
    split at e; · cases e
    have r0 : Rg (gI l 0) := ⟨by omega, by omega⟩
    have k1 : By (gI l 1) := ⟨by omega, by omega⟩
    split at e
    · simp only [Option.some.injEq, Prod.mk.injEq] at e
      obtain ⟨e1, e2⟩ := e
      refine ⟨?_, by omega, by omega⟩
      rw [← e1]
      split <;> exact r0
    split at e; · cases e
    split at e
    · simp only [Option.some.injEq, Prod.mk.injEq] at e
      obtain ⟨e1, e2⟩ := e
      refine ⟨?_, by omega, by omega⟩
      rw [← e1]
      exact ⟨r0, k1⟩
    split at e
    · simp only [Option.some.injEq, Prod.mk.injEq] at e
      obtain ⟨e1, e2⟩ := e
      refine ⟨?_, by omega, by omega⟩
      rw [← e1]
      split <;> exact ⟨r0, k1⟩
    split at e; · cases e
    simp only [Option.some.injEq, Prod.mk.injEq] at e
    obtain ⟨e1, e2⟩ := e
    refine ⟨?_, by omega, by omega⟩
    rw [← e1]
    split
    · exact ⟨r0, w1⟩
    split <;> exact ⟨r0, w1⟩
  · unfold nI at e
    split at e
    · simp only [Option.some.injEq, Prod.mk.injEq] at e
      obtain ⟨e1, e2⟩ := e
      refine ⟨?_, by omega, by omega⟩
      rw [← e1]
      split <;> trivial
    split at e; · cases e
    have k0 : By (gI l 0) := ⟨by omega, by omega⟩
    split at e
    · simp only [Option.some.injEq, Prod.mk.injEq] at e
      obtain ⟨e1, e2⟩ := e
      refine ⟨?_, by omega, by omega⟩
      rw [← e1]
      split
      · exact k0
      split <;> exact k0
    split at e; · cases e
    simp only [Option.some.injEq, Prod.mk.injEq] at e
    obtain ⟨e1, e2⟩ := e
    refine ⟨?_, by omega, by omega⟩
    rw [← e1]
    split <;> exact w0

inductive Sta where
  | run | ended | halted | code | stack | index | calls | num (k : Int)
  deriving DecidableEq
structure M where
  regs : List Int
  mem : List (Int × Int)
  inp : List Int
  tk : Nat
  out : List Int
  wait : List Int
  st : Sta
  at_ : Int
  sp : Int
  n : Int
def M.rg (m : M) (r : Int) : Int := m.regs.getD r.toNat 0
def M.setR (m : M) (r v : Int) : M := { m with regs := m.regs.set r.toNat v }
def look (l : List (Int × Int)) (a : Int) : Int := ((l.find? fun p => decide (p.1 = a)).map (·.2)).getD 0
def putM (l : List (Int × Int)) (a v : Int) : List (Int × Int) := if (l.any fun p => decide (p.1 = a)) then l.map fun p => if p.1 = a then (p.1, v) else p else l ++ [(a, v)]
/-- grouped as the step does -/
def isGo (c : Nat) : Bool := decide (c ∈ [21, 22, 23, 24, 25, 26, 27, 30, 31])
def isSh (c : Nat) : Bool := decide (c ∈ [19, 20])
def isAc (c : Nat) : Bool := decide (c ∈ [14, 15, 16, 17])
def enterM (goal beh : Int) (m : M) : M := if m.wait.length = 64 then { m with st := .calls } else { m with wait := m.wait ++ [beh], at_ := goal }
def goM (i : Ins) (beh : Int) (m : M) : M := match i with
  | .jump a => { m with at_ := a }
  | .zero r a => { m with at_ := if m.rg r = 0 then a else beh }
  | .nonzero r a => { m with at_ := if m.rg r = 0 then beh else a }
  | .table r t => if (t.length : Int) ≤ m.rg r then { m with st := .index } else { m with at_ := gI t (m.rg r).toNat }
  | .call a => enterM a beh m
  | .calls r t => if (t.length : Int) ≤ m.rg r then { m with st := .index } else enterM (gI t (m.rg r).toNat) beh m
  | .back => if m.wait = [] then { m with st := .ended } else { m with at_ := m.wait.getLastD 0, wait := m.wait.dropLast }
  | .halt => { m with st := .halted }
  | .trap k => { m with st := .num k }
  | _ => m
def movI (i : Ins) (m : M) : Int := match i with
  | .down k => m.sp - k
  | .up k => m.sp + k
  | _ => m.sp
def shM (i : Ins) (beh : Int) (m : M) : M := if movI i m < 64512 ∨ 65536 < movI i m then { m with st := .stack } else { m with sp := movI i m, at_ := beh }
def acM (i : Ins) (m : M) : M := match i with
  | .load r s w => m.setR r (look m.mem ((m.rg s + w) % 65536))
  | .store r s w => { m with mem := putM m.mem ((m.rg s + w) % 65536) (m.rg r) }
  | .take r k => m.setR r (look m.mem ((m.sp + k) % 65536))
  | .put r k => { m with mem := putM m.mem ((m.sp + k) % 65536) (m.rg r) }
  | _ => m
def inM (m : M) : Int := if m.tk = m.inp.length then 0 else gI m.inp m.tk
def coM (i : Ins) (m : M) : M := match i with
  | .set r w => m.setR r w
  | .copy r s => m.setR r (m.rg s)
  | .op c r s => m.setR r (comb c (m.rg r) (m.rg s))
  | .frame r k => m.setR r ((m.sp + k) % 65536)
  | .input r => { m.setR r (inM m) with tk := if m.tk = m.inp.length then m.tk else m.tk + 1 }
  | .output r => { m with out := m.out ++ [m.rg r] }
  | _ => m
def exM (i : Ins) (beh : Int) (m : M) : M :=
  if isGo i.code then goM i beh m else if isSh i.code then shM i beh m else if isAc i.code then { acM i m with at_ := beh } else { coM i m with at_ := beh }
def stepM (d : List Int) (m : M) : M := match dec (d.drop m.at_.toNat) with
  | none => { m with st := .code, n := m.n + 1 }
  | some (i, z) => exM i (m.at_ + z) { m with n := m.n + 1 }
/-- what stays -/
structure M.Wf (m : M) (b : Nat) : Prop where
  len : m.regs.length = 8
  regs : ∀ x ∈ m.regs, Wd x
  mem : ∀ p ∈ m.mem, Wd p.2
  msz : m.mem.length ≤ b
  inp : ∀ x ∈ m.inp, Wd x
  isz : m.inp.length ≤ 10
  tk : m.tk ≤ m.inp.length
  osz : m.out.length ≤ b
  wsz : m.wait.length ≤ 64
  wat : ∀ x ∈ m.wait, 0 ≤ x
  sp : 64512 ≤ m.sp ∧ m.sp ≤ 65536
  at_ : 0 ≤ m.at_
theorem rg_word {m : M} {b : Nat} (h : m.Wf b) (r : Int) : Wd (m.rg r) := by
  unfold M.rg
  rw [List.getD_eq_getElem?_getD]
  cases e : m.regs[r.toNat]? with
  | none => exact ⟨by decide, by decide⟩
  | some x => exact h.regs x (List.mem_of_getElem? e)
theorem look_word {l : List (Int × Int)} (h : ∀ p ∈ l, Wd p.2) (a : Int) : Wd (look l a) := by
  unfold look
  cases e : l.find? fun p => decide (p.1 = a) with
  | none => exact ⟨by decide, by decide⟩
  | some p => exact h p (List.mem_of_find?_eq_some e)
theorem gI_word {l : List Int} (h : ∀ x ∈ l, Wd x) (i : Nat) : Wd (gI l i) := by
  unfold gI
  rw [List.getD_eq_getElem?_getD]
  cases e : l[i]? with
  | none => exact ⟨by decide, by decide⟩
  | some x => exact h x (List.mem_of_getElem? e)
theorem Wf_setR {m : M} {b : Nat} (h : m.Wf b) {r v : Int} (hv : Wd v) : (m.setR r v).Wf b :=
  ⟨by show (m.regs.set _ _).length = 8; rw [List.length_set]; exact h.len, fun x hx => by
    rcases List.mem_or_eq_of_mem_set hx with e | e
    · exact h.regs x e
    · rw [e]; exact hv, h.mem, h.msz, h.inp, h.isz, h.tk, h.osz, h.wsz, h.wat, h.sp, h.at_⟩
theorem putM_mem {l : List (Int × Int)} {a v : Int} (h : ∀ p ∈ l, Wd p.2) (hv : Wd v) : ∀ p ∈ putM l a v, Wd p.2 := by
  unfold putM
  split
  · intro p hp
    obtain ⟨q, hq, e⟩ := List.mem_map.mp hp
    split at e
    · rw [← e]; exact hv
    · rw [← e]; exact h q hq
  · intro p hp
    rcases List.mem_append.mp hp with e | e
    · exact h p e
    · rw [List.mem_singleton.mp e]; exact hv
theorem putM_len (l : List (Int × Int)) (a v : Int) : (putM l a v).length ≤ l.length + 1 := by
  unfold putM
  split
  · rw [List.length_map]; omega
  · rw [List.length_append, List.length_singleton]
    exact Nat.le_refl _
theorem M.Wf.mono {m : M} {a b : Nat} (h : m.Wf a) (l : a ≤ b) : m.Wf b := ⟨h.len, h.regs, h.mem, Nat.le_trans h.msz l, h.inp, h.isz, h.tk, Nat.le_trans h.osz l, h.wsz, h.wat, h.sp, h.at_⟩
theorem M.Wf.at' {m : M} {b : Nat} (h : m.Wf b) {a : Int} (ha : 0 ≤ a) : ({ m with at_ := a } : M).Wf b := ⟨h.len, h.regs, h.mem, h.msz, h.inp, h.isz, h.tk, h.osz, h.wsz, h.wat, h.sp, ha⟩
theorem M.Wf.st' {m : M} {b : Nat} (h : m.Wf b) {a : Sta} : ({ m with st := a } : M).Wf b := ⟨h.len, h.regs, h.mem, h.msz, h.inp, h.isz, h.tk, h.osz, h.wsz, h.wat, h.sp, h.at_⟩
theorem M.Wf.n' {m : M} {b : Nat} (h : m.Wf b) {a : Int} : ({ m with n := a } : M).Wf b := ⟨h.len, h.regs, h.mem, h.msz, h.inp, h.isz, h.tk, h.osz, h.wsz, h.wat, h.sp, h.at_⟩
theorem getLastD_mem {l : List Int} (h : l ≠ []) : l.getLastD 0 ∈ l := by
  cases l with
  | nil => exact absurd rfl h
  | cons a r =>
    have : (a :: r).getLastD 0 = (a :: r).getLast (by simp) := by simp [List.getLastD]
    rw [this]
    exact List.getLast_mem _
theorem enterM_wf {m : M} {b : Nat} (h : m.Wf b) {g beh : Int} (hg : 0 ≤ g) (hb : 0 ≤ beh) : (enterM g beh m).Wf b := by
  unfold enterM
  have := h.wsz
  split
  · exact h.st'
  · rename_i hn
    refine ⟨h.len, h.regs, h.mem, h.msz, h.inp, h.isz, h.tk, h.osz, ?_, fun x hx => ?_, h.sp, hg⟩
    · show (m.wait ++ [beh]).length ≤ 64
      rw [List.length_append, List.length_singleton]
      omega
    · rcases List.mem_append.mp hx with e | e
      · exact h.wat x e
      · rw [List.mem_singleton.mp e]; exact hb
theorem goM_wf {i : Ins} {m : M} {b : Nat} {beh : Int} (ok : i.Ok) (h : m.Wf b) (hb : 0 ≤ beh) : (goM i beh m).Wf b := by
  cases i with
  | jump a => exact h.at' ok.1
  | zero r a => exact h.at' (by split; exact ok.2.1; exact hb)
  | nonzero r a => exact h.at' (by split; exact hb; exact ok.2.1)
  | table r t =>
    show (if _ then _ else _ : M).Wf b
    split
    · exact h.st'
    · exact h.at' (gI_word ok.2.2 _).1
  | call a => exact enterM_wf h ok.1 hb
  | calls r t =>
    show (if _ then _ else _ : M).Wf b
    split
    · exact h.st'
    · exact enterM_wf h (gI_word ok.2.2 _).1 hb
  | back =>
    show (if _ then _ else _ : M).Wf b
    split
    · exact h.st'
    · rename_i hn
      refine ⟨h.len, h.regs, h.mem, h.msz, h.inp, h.isz, h.tk, h.osz, ?_, fun x hx => h.wat x (by rw [List.dropLast_eq_take] at hx; exact List.mem_of_mem_take hx), h.sp, h.wat _ (getLastD_mem hn)⟩
      have := h.wsz
      show m.wait.dropLast.length ≤ 64
      rw [List.length_dropLast]
      omega
  | halt => exact h.st'
  | trap k => exact h.st'
  | _ => exact h
theorem shM_wf {i : Ins} {m : M} {b : Nat} {beh : Int} (h : m.Wf b) (hb : 0 ≤ beh) : (shM i beh m).Wf b := by
  unfold shM
  split
  · exact h.st'
  · rename_i hn
    exact ⟨h.len, h.regs, h.mem, h.msz, h.inp, h.isz, h.tk, h.osz, h.wsz, h.wat, (show 64512 ≤ movI i m ∧ movI i m ≤ 65536 from ⟨by omega, by omega⟩), hb⟩
theorem acM_wf {i : Ins} {m : M} {b : Nat} (h : m.Wf b) : (acM i m).Wf (b + 1) := by
  have hs := h.mono (Nat.le_succ b)
  cases i with
  | load r s w => exact Wf_setR hs (look_word h.mem _)
  | store r s w => exact ⟨h.len, h.regs, putM_mem h.mem (rg_word h _), Nat.le_trans (putM_len _ _ _) (Nat.succ_le_succ h.msz), h.inp, h.isz, h.tk, hs.osz, h.wsz, h.wat, h.sp, h.at_⟩
  | take r k => exact Wf_setR hs (look_word h.mem _)
  | put r k => exact ⟨h.len, h.regs, putM_mem h.mem (rg_word h _), Nat.le_trans (putM_len _ _ _) (Nat.succ_le_succ h.msz), h.inp, h.isz, h.tk, hs.osz, h.wsz, h.wat, h.sp, h.at_⟩
  | _ => exact hs
theorem inM_word {m : M} {b : Nat} (h : m.Wf b) : Wd (inM m) := by
  unfold inM
  split
  · exact ⟨by decide, by decide⟩
  · exact gI_word h.inp _
theorem coM_wf {i : Ins} {m : M} {b : Nat} (ok : i.Ok) (h : m.Wf b) : (coM i m).Wf (b + 1) := by
  have hs := h.mono (Nat.le_succ b)
  cases i with
  | set r w => exact Wf_setR hs ok.2
  | copy r s => exact Wf_setR hs (rg_word h _)
  | op c r s => exact Wf_setR hs (comb_word (rg_word h _) (rg_word h _))
  | frame r k => exact Wf_setR hs (mod_word _)
  | input r =>
    have q := Wf_setR (r := r) hs (inM_word h)
    refine ⟨q.len, q.regs, q.mem, q.msz, q.inp, q.isz, ?_, q.osz, q.wsz, q.wat, q.sp, q.at_⟩
    show (if m.tk = m.inp.length then m.tk else m.tk + 1) ≤ m.inp.length
    have := h.tk
    split <;> omega
  | output r =>
    refine ⟨h.len, h.regs, h.mem, hs.msz, h.inp, h.isz, h.tk, ?_, h.wsz, h.wat, h.sp, h.at_⟩
    show (m.out ++ [m.rg r]).length ≤ b + 1
    have := h.osz
    rw [List.length_append, List.length_singleton]
    omega
  | _ => exact hs
theorem exM_wf {i : Ins} {m : M} {b : Nat} {beh : Int} (ok : i.Ok) (h : m.Wf b) (hb : 0 ≤ beh) : (exM i beh m).Wf (b + 1) := by
  unfold exM
  split; · exact (goM_wf ok h hb).mono (Nat.le_succ b)
  split; · exact (shM_wf h hb).mono (Nat.le_succ b)
  split; · exact (acM_wf h).at' hb
  exact (coM_wf ok h).at' hb
theorem stepM_wf {d : List Int} {m : M} {b : Nat} (hd : Bytes d) (h : m.Wf b) : (stepM d m).Wf (b + 1) := by
  unfold stepM
  split
  · exact ((h.mono (Nat.le_succ b)).n' (a := m.n + 1)).st'
  · rename_i i z e
    obtain ⟨ok, z1, _⟩ := dec_ok (bytes_drop hd _) e
    have := h.at_
    exact exM_wf ok h.n' (by omega)
/-- so many steps, and how many were made -/
def runM (d : List Int) : Nat → M → M
  | 0, m => m
  | k + 1, m => if m.st = .run then runM d k (stepM d m) else m
def madeM (d : List Int) : Nat → M → Nat
  | 0, _ => 0
  | k + 1, m => if m.st = .run then madeM d k (stepM d m) + 1 else 0
theorem runM_wf {d : List Int} (hd : Bytes d) : ∀ (k : Nat) {m : M} {b : Nat}, m.Wf b → (runM d k m).Wf (b + k)
  | 0, m, b, h => h
  | k + 1, m, b, h => by
    unfold runM
    split
    · have := runM_wf hd k (stepM_wf hd h)
      rw [show b + 1 + k = b + (k + 1) by omega] at this
      exact this
    · exact h.mono (by omega)
theorem madeM_le (d : List Int) : ∀ (k : Nat) (m : M), madeM d k m ≤ k
  | 0, _ => Nat.le_refl _
  | k + 1, m => by
    unfold madeM
    split
    · have := madeM_le d k (stepM d m); omega
    · omega

/-- the name of a code -/
def nm (c : Nat) : Str := tab_NAMES.getD c ""
theorem nm_eq {c d : Nat} (hc : c < 32) (hd : d < 32) : decide (V.str (nm c) = V.str (nm d)) = decide (c = d) := by
  have h : ∀ c, c < 32 → ∀ d, d < 32 → decide (nm c = nm d) = decide (c = d) := by decide +kernel
  have q := h c hc d hd
  rw [← q]
  by_cases e : nm c = nm d
  · simp [e]
  · simp [e]
theorem in_nm {c : Nat} {l : List Nat} (hc : c < 32) (hl : ∀ d ∈ l, d < 32) : inV (V.str (nm c)) (l.map fun d => V.str (nm d)) = decide (c ∈ l) := by
  unfold inV
  induction l with
  | nil => simp
  | cons d l ih =>
    rw [List.map_cons, List.any_cons, ih fun x hx => hl x (List.mem_cons_of_mem _ hx)]
    have q := nm_eq hc (hl d List.mem_cons_self)
    have e : eqV (V.str (nm d)) (V.str (nm c)) = decide (c = d) := by
      rw [← q]
      show (nm d == nm c) = _
      rw [dec_str]
      by_cases z : nm c = nm d
      · simp [z]
      · rw [beq_eq_false_iff_ne.mpr z, beq_eq_false_iff_ne.mpr (fun y => z y.symm)]
    rw [e]
    by_cases z : c = d
    · simp [z]
    · simp [z]
theorem flat_nm (l : List Nat) : (l.map fun d => V.str (nm d)).all flatV = true := by
  rw [List.all_eq_true]
  intro x hx
  obtain ⟨d, _, e⟩ := List.mem_map.mp hx
  rw [← e] <;> rfl

section
variable {K : PySem.W.Frag} {σ : L2.St} {H H' : Hp} {ta tb tc td ty tx te : TE} {t u : TT} {x y z v : V} {r r' : R2}
def EvP (te : TE) (σ : L2.St) (H : Hp) (P : V → Hp → Prop) : Prop := ∀ H1, Ex H H1 → ∀ Q : VK, (∀ v H2, Ex H1 H2 → P v H2 → Q v H2) → te σ H1 Q
def SpP (sp : Sp) (vs : List V) (H : Hp) (P : V → Hp → Prop) : Prop := ∀ H1, Ex H H1 → ∀ Q : VK, (∀ v H2, Ex H1 H2 → P v H2 → Q v H2) → ∀ E : XK, sp vs H1 Q E
def RetP (P : V → Hp → Prop) (H : Hp) (Q : VK) : Prop := ∀ v H2, Ex H H2 → P v H2 → Q v H2
theorem RetP.go {P : V → Hp → Prop} {Q : VK} (k : RetP P H Q) (e : Ex H H') (p : P v H') : Q v H' := k v H' e p
theorem EvP.of (h : Ev te σ H v) : EvP te σ H (fun w _ => w = v) := fun H1 e Q q => h H1 e Q fun H2 e2 => q v H2 e2 rfl
theorem evp_call {sp : Sp} {dvs vs : List V} {E : XK} {ta : TA} {P : V → Hp → Prop} (h : EvA ta σ H vs) (hs : SpP sp (vs ++ dvs) H P) : EvP (tCall sp dvs E ta) σ H P := fun H1 e Q q =>
  h H1 e _ fun H2 e2 => hs H2 (e.trans e2) Q (fun v H3 e3 p => q v H3 (e2.trans e3) p) E
/-- the first operand something that is so -/
theorem ev_opP {P : V → Hp → Prop} (ha : EvP ta σ H P) (hb : ∀ H1, Ex H H1 → Ev tb σ H1 y) (hr : ∀ x H1, Ex H H1 → P x H1 → RV r x y H1 z) : Ev (tOp r ta tb) σ H z := fun H1 e Q q =>
  ha H1 e _ fun x H2 e2 hp => hb H2 (e.trans e2) H2 (Ex.refl H2) _ fun H3 e3 => by
    exact hr x H2 (e.trans e2) hp H3 e3 Q fun H4 e4 => q H4 ((e2.trans e3).trans e4)
theorem q_asgP {i : Nat} {P : V → Hp → Prop} {D : Ends} {tz : TS} (h : EvP te σ H P) (k : ∀ v H1, Ex H H1 → P v H1 → tz D (σ.set i (some v)) H1) : tSeq (tAsg te (gName i)) tz D σ H := h H (Ex.refl H) _ fun v H1 e p => k v H1 e p
theorem s_asgP {i : Nat} {P : V → Hp → Prop} {D : Ends} (h : EvP te σ H P) (k : ∀ v H1, Ex H H1 → P v H1 → D.nx (σ.set i (some v)) H1) : tAsg te (gName i) D σ H := h H (Ex.refl H) _ fun v H1 e p => k v H1 e p
theorem s_retP {P : V → Hp → Prop} {D : Ends} (h : EvP te σ H P) (k : ∀ v H1, Ex H H1 → P v H1 → D.rt v H1) : tRet te D σ H := h H (Ex.refl H) _ fun v H1 e p => k v H1 e p
theorem ev_gr {l : List Str} : EvP (tGr K l) σ H (fun w _ => ∃ a, w = .ref a ∧ ∀ H', SqT K H' a (l.map V.str)) := fun H1 _ Q q a hs => q (.ref a) H1 (Ex.refl H1) ⟨a, rfl, hs⟩
theorem ev_fld {a C dx : Addr} {fs : List (Str × V)} {f : Str} (h : Ev te σ H (.ref a)) (ho : H a = some (.ins C dx fs)) (hc : Cls K C) (hn : NoAttr K C f) (hl : fs.lookup f = some v) : Ev (tFld K te f) σ H v := fun H1 e Q q =>
  h H1 e _ fun H2 e2 => ⟨a, C, dx, fs, v, rfl, e2 _ _ (e _ _ ho), hc, hn, hl, q H2 e2⟩
theorem ev_chain {b1 b2 : Bool} (ha : Ev ta σ H x) (hb : Ev tb σ H y) (h1 : RV r x y H (.bl b1)) (hc : Ev tc σ H z) (h2 : RV r' y z H (.bl b2)) : Ev (tChain r r' ta tb tc) σ H (.bl (b1 && b2)) := fun H1 e Q q =>
  ha H1 e _ fun H2 e2 => hb H2 (e.trans e2) _ fun H3 e3 => h1 H3 ((e.trans e2).trans e3) _ fun H4 e4 => ⟨b1, rfl, by
    cases b1 with
    | true =>
      show tc σ H4 _
      exact hc H4 (((e.trans e2).trans e3).trans e4) _ fun H5 e5 => h2 H5 ((((e.trans e2).trans e3).trans e4).trans e5) Q fun H6 e6 => q H6 ((((e2.trans e3).trans e4).trans e5).trans e6)
    | false =>
      show Q (.bl false) H4
      exact q H4 ((e2.trans e3).trans e4)⟩
theorem ex_dk {a : Addr} {kvs : List (Key × V)} (e : Ex H H') (h : H a = some (.dK kvs)) : H' a = some (.dK kvs) := e a _ h
theorem ev_dget {a : Addr} {kvs : List (Key × V)} {k : Key} (hd : Ev td σ H (.ref a)) (hk : Ev ty σ H (kV k)) (ho : H a = some (.dK kvs)) (hv : valV kvs k = some v) : Ev (tDGet td ty) σ H v := fun H1 e Q q =>
  hd H1 e _ fun H2 e2 => hk H2 (e.trans e2) _ fun H3 e3 => ⟨a, v, rfl, by rw [← hv]; exact DGet.k (((e.trans e2).trans e3) a _ ho), q H3 (e2.trans e3)⟩
theorem ev_dget2 {a : Addr} {kvs : List (Key × V)} {k : Key} (hd : Ev td σ H (.ref a)) (hk : Ev ty σ H (kV k)) (hx : Ev tx σ H x) (ho : H a = some (.dK kvs)) (hv : (valV kvs k).getD x = v) : Ev (tDGet2 td ty tx) σ H v := fun H1 e Q q =>
  hd H1 e _ fun H2 e2 => ⟨a, rfl, .inl ⟨kvs, .inl ((e.trans e2) a _ ho)⟩, hk H2 (e.trans e2) _ fun H3 e3 => hx H3 ((e.trans e2).trans e3) _ fun H4 e4 =>
    ⟨_, DGet.k ((((e.trans e2).trans e3).trans e4) a _ ho), by rw [hv]; exact q H4 ((e2.trans e3).trans e4)⟩⟩
theorem ev_int {i : Int} {ta : TA} (h : EvA ta σ H [.int i]) : Ev (tCB rInt1 ta) σ H (.int i) := fun H1 e Q q => h H1 e _ fun H2 e2 => .inl ⟨i, rfl, q H2 e2⟩
theorem ev_intb {b : Bool} {ta : TA} (h : EvA ta σ H [.bl b]) : Ev (tCB rInt1 ta) σ H (.int (if b then 1 else 0)) := fun H1 e Q q => h H1 e _ fun H2 e2 => .inr ⟨b, rfl, q H2 e2⟩
theorem ev_min2 {i j : Int} {ta : TA} (h : EvA ta σ H [.int i, .int j]) : Ev (tCB rMin2 ta) σ H (.int (if j < i then j else i)) := fun H1 e Q q => h H1 e _ fun H2 e2 => ⟨i, j, rfl, q H2 e2⟩
theorem ev_max2' {i j : Int} {ta : TA} (h : EvA ta σ H [.int i, .int j]) : Ev (tCB rMax2 ta) σ H (.int (if j > i then j else i)) := fun H1 e Q q => h H1 e _ fun H2 e2 => ⟨i, j, rfl, q H2 e2⟩
theorem ev_lenT {p : Addr} {xs : List V} (ha : Ev ta σ H (.ref p)) (h : SqT K H p xs) : Ev (tCB (rLenS K) (tCons ta tNil)) σ H (.int (xs.length : Int)) := fun H1 e Q q =>
  ha H1 e _ fun H2 e2 => ⟨p, xs, rfl, Or.inr (ex_t (e.trans e2) h), q H2 e2⟩
theorem ev_unN {i : Int} (h : Ev te σ H (.int i)) : Ev (tUn (rU fun i => .int (-i)) te) σ H (.int (-i)) := ev_un h ru_neg
theorem rv_eqb {b : Bool} (h : scal x y = true) (e : decide (x = y) = b) : RV rEq x y H (.bl b) := by rw [← e]; exact rv_eq h
theorem rv_neb {b : Bool} (h : scal x y = true) (e : (!decide (x = y)) = b) : RV rNe x y H (.bl b) := by rw [← e]; exact rv_ne h
theorem rv_isN : RV rIsN x .non H (.bl (decide (x = .non))) := fun H1 _ _ q => ⟨rfl, q H1 (Ex.refl H1)⟩
theorem rv_ntN : RV rNotN x .non H (.bl (!decide (x = .non))) := fun H1 _ _ q => ⟨rfl, q H1 (Ex.refl H1)⟩
theorem rv_isNb {b : Bool} (e : decide (x = .non) = b) : RV rIsN x .non H (.bl b) := by rw [← e]; exact rv_isN
theorem rv_ntNb {b : Bool} (e : (!decide (x = .non)) = b) : RV rNotN x .non H (.bl b) := by rw [← e]; exact rv_ntN
theorem et_tru {b : Bool} (h : Ev te σ H x) (ht : ∀ H1, Ex H H1 → TruV K x H1 b) : EvT (tTru K te) σ H b := fun H1 e _ q => h H1 e _ fun H2 e2 => ⟨b, ht H2 (e.trans e2), q H2 e2⟩
theorem et_truL {p : Addr} {xs : List V} (h : Ev te σ H (.ref p)) (hs : SqL K H p xs) : EvT (tTru K te) σ H (!xs.isEmpty) := et_tru h fun H1 e => .inl ⟨xs, ex_l e hs, rfl⟩
theorem ev_inGr {l : List Str} (ha : Ev ta σ H x) (hx : flatV x = true) (hl : (l.map V.str).all flatV = true) : Ev (tOp (rIn K false) ta (tGr K l)) σ H (.bl (inV x (l.map V.str))) := fun H1 e Q q =>
  ha H1 e _ fun H2 e2 => fun a hs => rv_isT (hs H2) hx hl H2 (Ex.refl H2) Q fun H3 e3 => q H3 (e2.trans e3)
theorem ev_ixGr {l : List Str} {i : Int} (hb : Ev tb σ H (.int i)) (h : atI (l.map V.str) i = some v) : Ev (tOp (rIxT K) (tGr K l) tb) σ H v := fun H1 e Q q a hs =>
  hb H1 e _ fun H2 e2 => rv_ixT (hs H2) h H2 (Ex.refl H2) Q fun H3 e3 => q H3 (e2.trans e3)
theorem ev_inL {xs : List V} (ha : Ev ta σ H x) (hb : EvL tb σ H xs) (hx : flatV x = true) (hf : xs.all flatV = true) : Ev (tOp (rIn K false) ta tb) σ H (.bl (inV x xs)) := ev_opL ha hb fun _ _ h _ => rv_isL (sq_of h) hx hf
theorem ev_inUb {xs : List V} {b : Bool} (ha : Ev ta σ H x) (hb : EvU tb σ H xs) (hx : flatV x = true) (hf : xs.all flatV = true) (e : inV x xs = b) : Ev (tOp (rIn K false) ta tb) σ H (.bl b) := by rw [← e]; exact ev_inU ha hb hx hf
theorem ev_niUb {xs : List V} {b : Bool} (ha : Ev ta σ H x) (hb : EvU tb σ H xs) (hx : flatV x = true) (hf : xs.all flatV = true) (e : (!inV x xs) = b) : Ev (tOp (rIn K true) ta tb) σ H (.bl b) := by rw [← e]; exact ev_niU ha hb hx hf
theorem ev_inLb {xs : List V} {b : Bool} (ha : Ev ta σ H x) (hb : EvL tb σ H xs) (hx : flatV x = true) (hf : xs.all flatV = true) (e : inV x xs = b) : Ev (tOp (rIn K false) ta tb) σ H (.bl b) := by rw [← e]; exact ev_inL ha hb hx hf
variable {D : Ends} {tu tw tz : TS}
theorem s_fld {a C dx : Addr} {fs : List (Str × V)} {f : Str} {tv : TE} (hv : Ev tv σ H y) (ha : Ev ta σ H (.ref a)) (ho : H a = some (.ins C dx fs)) (hc : Cls K C) (hn : NoAttr K C f) (hl : fs.length < 1000)
    (k : ∀ H1, Ex H H1 → D.nx σ (upd H1 a (.ins C dx (putF f y fs)))) : sFld K ta tv f D σ H := hv H (Ex.refl H) _ fun H1 e1 => ha H1 e1 _ fun H2 e2 => ⟨a, C, dx, fs, rfl, (e1.trans e2) a _ ho, hc, hn, hl, k H2 (e1.trans e2)⟩
/-- the value something new -/
theorem s_fldP {a C dx : Addr} {fs : List (Str × V)} {f : Str} {tv : TE} {P : V → Hp → Prop} (hv : EvP tv σ H P) (ha : ∀ H1, Ex H H1 → Ev ta σ H1 (.ref a)) (ho : H a = some (.ins C dx fs)) (hc : Cls K C) (hn : NoAttr K C f) (hl : fs.length < 1000)
    (k : ∀ v H1 H2, Ex H H1 → P v H1 → Ex H1 H2 → D.nx σ (upd H2 a (.ins C dx (putF f v fs)))) : sFld K ta tv f D σ H := hv H (Ex.refl H) _ fun v H1 e1 hp => ha H1 e1 H1 (Ex.refl H1) _ fun H2 e2 => ⟨a, C, dx, fs, rfl, (e1.trans e2) a _ ho, hc, hn, hl, k v H1 H2 e1 hp e2⟩
theorem s_fldaug {a C dx : Addr} {fs : List (Str × V)} {f : Str} {tv : TE} {i j : Int} (ha : Ev ta σ H (.ref a)) (ho : H a = some (.ins C dx fs)) (hc : Cls K C) (hn : NoAttr K C f) (hl : fs.lookup f = some (.int i)) (hv : Ev tv σ H (.int j)) (hz : fs.length < 1000)
    (k : ∀ H1, Ex H H1 → D.nx σ (upd H1 a (.ins C dx (putF f (.int (i + j)) fs)))) : sFldAug K ta tv rAdd f D σ H := ha H (Ex.refl H) _ fun H1 e1 => ⟨a, C, dx, fs, .int i, rfl, e1 a _ ho, hc, hn, hl, hv H1 e1 _ fun H2 e2 =>
      ⟨i, j, rfl, rfl, dx, fs, (e1.trans e2) a _ ho, hz, k H2 (e1.trans e2)⟩⟩
theorem s_dput {a : Addr} {kvs : List (Key × V)} {kk : Key} {tv : TE} (hv : Ev tv σ H v) (hd : Ev td σ H (.ref a)) (hk : Ev ty σ H (kV kk)) (ho : H a = some (.dK kvs)) (hz : kvs.length < 100000)
    (k : ∀ H1, Ex H H1 → D.nx σ (upd H1 a (.dK (putK kvs kk v)))) : sDPut td ty tv D σ H := hv H (Ex.refl H) _ fun H1 e1 => hd H1 e1 _ fun H2 e2 => hk H2 (e1.trans e2) _ fun H3 e3 =>
  ⟨a, _, rfl, DPut.k (((e1.trans e2).trans e3) a _ ho) (sz_lt hz), k H3 ((e1.trans e2).trans e3)⟩
theorem s_dputP {a : Addr} {kvs : List (Key × V)} {kk : Key} {tv : TE} {P : V → Hp → Prop} (hv : EvP tv σ H P) (hd : ∀ H1, Ex H H1 → Ev td σ H1 (.ref a)) (hk : ∀ H1, Ex H H1 → Ev ty σ H1 (kV kk)) (ho : H a = some (.dK kvs)) (hz : kvs.length < 100000)
    (k : ∀ v H1 H2, Ex H H1 → P v H1 → Ex H1 H2 → D.nx σ (upd H2 a (.dK (putK kvs kk v)))) : sDPut td ty tv D σ H := hv H (Ex.refl H) _ fun v H1 e1 hp => hd H1 e1 H1 (Ex.refl H1) _ fun H2 e2 => hk H2 (e1.trans e2) H2 (Ex.refl H2) _ fun H3 e3 =>
  ⟨a, _, rfl, DPut.k (((e1.trans e2).trans e3) a _ ho) (sz_lt hz), k v H1 H3 e1 hp (e2.trans e3)⟩
theorem q_st {t1 : TS} (h : t1 { D with nx := tz D } σ H) : tSeq t1 tz D σ H := h
theorem el_p {xs : List V} (h : EvL te σ H xs) : EvP te σ H (fun w H2 => ∃ p, w = .ref p ∧ H p = none ∧ H2 p = some (.lst xs)) := fun H1 e Q q => h H1 e Q fun p H2 hp e2 h2 => q _ H2 e2 ⟨p, rfl, fresh_back e hp, h2⟩
theorem eu_p {xs : List V} (h : EvU te σ H xs) : EvP te σ H (fun w H2 => ∃ p, w = .ref p ∧ H p = none ∧ H2 p = some (.tup xs)) := fun H1 e Q q => h H1 e Q fun p H2 hp e2 h2 => q _ H2 e2 ⟨p, rfl, fresh_back e hp, h2⟩
/-- a tuple whose items are something that is so -/
theorem eu_dnew : EvP tDNewK σ H (fun w H2 => ∃ p, w = .ref p ∧ H p = none ∧ H2 p = some (.dK [])) := fun H1 e Q q p hp => q _ _ (Ex.new hp) ⟨p, rfl, fresh_back e hp, upd_same⟩
end
theorem ret_at {v v' : V} {H H' : Hp} {Q : VK} (k : RetV v H Q) (e : Ex H H') (h : v = v') : Q v' H' := by
  rw [← h]
  exact k.go e
theorem at_gI {l : List Int} {j : Int} (h0 : 0 ≤ j) (h : j < (l.length : Int)) : atI (l.map V.int) j = some (.int (gI l j.toNat)) := by
  have hj : j.toNat < l.length := by omega
  have e : (l.map V.int)[j.toNat]? = some (.int (gI l j.toNat)) := by
    rw [List.getElem?_map, List.getElem?_eq_getElem hj]
    unfold gI
    rw [List.getD_eq_getElem?_getD, List.getElem?_eq_getElem hj] <;> rfl
  have q := atI_nat e
  rw [Int.toNat_of_nonneg h0] at q
  exact q
theorem at_gI0 {l : List Int} (h : (0 : Int) < (l.length : Int)) : atI (l.map V.int) 0 = some (.int (gI l 0)) := at_gI (by decide) h
theorem at_gI1 {l : List Int} (h : (1 : Int) < (l.length : Int)) : atI (l.map V.int) 1 = some (.int (gI l 1)) := at_gI (by decide) h
theorem at_gI2 {l : List Int} (h : (2 : Int) < (l.length : Int)) : atI (l.map V.int) 2 = some (.int (gI l 2)) := at_gI (by decide) h
theorem ev_lenI {K : PySem.W.Frag} {σ : L2.St} {H : Hp} {ta : TE} {p : Addr} {l : List Int} (ha : Ev ta σ H (.ref p)) (h : SqL K H p (l.map V.int)) : Ev (tCB (rLenS K) (tCons ta tNil)) σ H (.int (l.length : Int)) := by
  have q := ev_len ha h
  rw [List.length_map] at q
  exact q
theorem ev_lenTI {K : PySem.W.Frag} {σ : L2.St} {H : Hp} {ta : TE} {p : Addr} {l : List Int} (ha : Ev ta σ H (.ref p)) (h : SqT K H p (l.map V.int)) : Ev (tCB (rLenS K) (tCons ta tNil)) σ H (.int (l.length : Int)) := by
  have q := ev_lenT ha h
  rw [List.length_map] at q
  exact q
theorem et_truI {K : PySem.W.Frag} {σ : L2.St} {H : Hp} {te : TE} {p : Addr} {l : List Int} (h : Ev te σ H (.ref p)) (hs : SqL K H p (l.map V.int)) : EvT (tTru K te) σ H (!decide (l.length < 1)) := by
  have q := et_truL h hs
  have e : (!(l.map V.int).isEmpty) = !decide (l.length < 1) := by cases l <;> simp
  rw [e] at q
  exact q
theorem cut_drop (l : List Int) (j : Int) (h : 0 ≤ j) : cutV (l.map V.int) (some j) none = (l.drop j.toNat).map V.int := by
  obtain ⟨n, rfl⟩ : ∃ n : Nat, j = n := ⟨j.toNat, by omega⟩
  unfold cutV
  rw [HT.sIx_nat, HT.sIx_none, List.length_map, ← List.map_drop, ← List.map_take]
  congr 1
  rw [show ((n : Int)).toNat = n from rfl]
  by_cases hn : n ≤ l.length
  · rw [Nat.min_eq_left hn, List.take_of_length_le (by rw [List.length_drop]; exact Nat.le_refl _)]
  · rw [Nat.min_eq_right (by omega), List.drop_length, List.drop_eq_nil_of_le (by omega)] <;> simp
theorem cut_take (xs : List V) (j : Int) (h : 0 ≤ j) : cutV xs none (some j) = xs.take j.toNat := by
  obtain ⟨n, rfl⟩ : ∃ n : Nat, j = n := ⟨j.toNat, by omega⟩
  unfold cutV
  rw [HT.sIx_nat, HT.sIx_none, List.drop_zero, Nat.sub_zero]
  rw [show ((n : Int)).toNat = n from rfl]
  by_cases hn : n ≤ xs.length
  · rw [Nat.min_eq_left hn]
  · rw [Nat.min_eq_right (by omega), List.take_of_length_le (Nat.le_refl _), List.take_of_length_le (by omega)]
theorem cut_part (l : List Int) (j : Int) (n : Nat) (h : 0 ≤ j) : cutV (l.map V.int) (some j) (some (j + (n : Int))) = ((l.drop j.toNat).take n).map V.int := by
  obtain ⟨m, rfl⟩ : ∃ m : Nat, j = m := ⟨j.toNat, by omega⟩
  unfold cutV
  rw [show ((m : Int) + (n : Int)) = ((m + n : Nat) : Int) by omega, HT.sIx_nat, HT.sIx_nat, List.length_map, ← List.map_drop, ← List.map_take]
  congr 1
  rw [show ((m : Int)).toNat = m from rfl]
  by_cases hm : m ≤ l.length
  · rw [Nat.min_eq_left hm]
    by_cases hn : m + n ≤ l.length
    · rw [Nat.min_eq_left hn, show m + n - m = n by omega]
    · rw [Nat.min_eq_right (by omega), List.take_of_length_le (by rw [List.length_drop]; exact Nat.le_refl _), List.take_of_length_le (by rw [List.length_drop]; omega)]
  · rw [Nat.min_eq_right (by omega), Nat.min_eq_right (by omega), List.drop_length, List.drop_eq_nil_of_le (by omega)] <;> simp
theorem eu_tupL {K : PySem.W.Frag} {σ : L2.St} {H : Hp} {ta : TE} {xs : List V} (ha : EvL ta σ H xs) : EvU (tCB (rTupS K) (tCons ta tNil)) σ H xs := fun H1 e Q q =>
  ha H1 e _ fun p H2 _ e2 hp => ⟨p, xs, rfl, .inl ⟨sq_of hp, fun l hl => q l _ (fresh_back e2 hl) (e2.trans (Ex.new hl)) upd_same⟩⟩
theorem et_yes {σ : L2.St} {H : Hp} : EvT tYes σ H true := fun H1 _ _ q => q H1 (Ex.refl H1)
theorem given_all (n : Nat) (v : Nat → V) : given n (fun _ => true) v = (List.range n).map v := by
  unfold given
  rw [List.filter_eq_self.mpr (by simp)]
/-- ((a, ..), v) -/
theorem evp_pair {σ : L2.St} {H : Hp} {ta : TA} {te : TE} {vs : List V} {v : V} (h : EvA ta σ H vs) (hl : vs.length ≤ 100000) (hv : Ev te σ H v) :
    EvP (tTup (tCons (tTup ta) (tCons te tNil))) σ H (fun w H2 => ∃ p q, w = .ref p ∧ H2 p = some (.tup [.ref q, v]) ∧ H2 q = some (.tup vs)) := fun H1 e Q k =>
  (eu_tup h hl H1 e (fun x H2 => tCons te tNil σ H2 fun xs H3 => (x :: xs).length ≤ sizeLine ∧ ∀ p, H3 p = none → Q (.ref p) (upd H3 p (.tup (x :: xs))))) fun q H2 hq e2 h2 => hv H2 (e.trans e2) _ fun H3 e3 => ⟨by show 2 ≤ sizeLine; decide, fun p hp => k _ _ ((e2.trans e3).trans (Ex.new hp)) ⟨p, q, rfl, upd_same, by
    rw [upd_ne (ne_of_none (e3 q _ h2) hp)]
    exact e3 q _ h2⟩⟩
theorem evp_if {σ : L2.St} {H : Hp} {t : TT} {ta tb : TE} {P : V → Hp → Prop} {b : Bool} (h : EvT t σ H b) (h1 : b = true → EvP ta σ H P) (h2 : b = false → EvP tb σ H P) : EvP (tIf t ta tb) σ H P := fun H1 e Q q => h H1 e _ fun H2 e2 => by
  cases b with
  | true =>
    show ta σ H2 Q
    exact h1 rfl H2 (e.trans e2) Q fun v H3 e3 => q v H3 (e2.trans e3)
  | false =>
    show tb σ H2 Q
    exact h2 rfl H2 (e.trans e2) Q fun v H3 e3 => q v H3 (e2.trans e3)
theorem EvP.imp {σ : L2.St} {H : Hp} {te : TE} {P P' : V → Hp → Prop} (h : EvP te σ H P) (i : ∀ v H1, Ex H H1 → P v H1 → P' v H1) : EvP te σ H P' := fun H1 e Q q => h H1 e Q fun v H2 e2 p => q v H2 e2 (i v H2 (e.trans e2) p)
section
variable {K : PySem.W.Frag} {σ : L2.St} {H : Hp} {ta te : TE} {t : TA} {sp : Sp} {E : XK} {vs xs dvs : List V} {z : V} {P : V → Hp → Prop} {C a dx : Addr} {fs : List (Str × V)} {m : Str}
theorem evp_call1 (h : EvL te σ H xs) (hs : ∀ p H1, Ex H H1 → H1 p = some (.lst xs) → SpP sp [.ref p] H1 P) : EvP (tCall sp [] E (tCons te tNil)) σ H P := fun H1 e Q q =>
  h H1 e _ fun p H2 _ e2 hp => hs p H2 (e.trans e2) hp H2 (Ex.refl H2) Q (fun v H3 e3 hv => q v H3 (e2.trans e3) hv) E
theorem evp_call1P {P' : V → Hp → Prop} (h : EvP te σ H P') (hs : ∀ v H1, Ex H H1 → P' v H1 → SpP sp [v] H1 P) : EvP (tCall sp [] E (tCons te tNil)) σ H P := fun H1 e Q q =>
  h H1 e _ fun v H2 e2 hp => hs v H2 (e.trans e2) hp H2 (Ex.refl H2) Q (fun v H3 e3 hv => q v H3 (e2.trans e3) hv) E
theorem el_meth (h : Ev ta σ H (.ref a)) (ho : H a = some (.ins C dx fs)) (hl : fs.lookup m = none) (ha : EvA t σ H vs) (hs : SpL sp (.ref a :: (vs ++ dvs)) H xs) : EvL (tMeth C m sp dvs E ta t) σ H xs := fun H1 e Q q =>
  h H1 e _ fun H2 e2 => ⟨a, dx, fs, rfl, (e.trans e2) a _ ho, hl, ha H2 (e.trans e2) _ fun H3 e3 => hs H3 ((e.trans e2).trans e3) Q (fun p H4 hp e4 h4 => q p H4 (fresh_back (e2.trans e3) hp) ((e2.trans e3).trans e4) h4) E⟩
theorem ev_meth (h : Ev ta σ H (.ref a)) (ho : H a = some (.ins C dx fs)) (hl : fs.lookup m = none) (ha : EvA t σ H vs) (hs : SpV sp (.ref a :: (vs ++ dvs)) H z) : Ev (tMeth C m sp dvs E ta t) σ H z := fun H1 e Q q =>
  h H1 e _ fun H2 e2 => ⟨a, dx, fs, rfl, (e.trans e2) a _ ho, hl, ha H2 (e.trans e2) _ fun H3 e3 => hs H3 ((e.trans e2).trans e3) Q (fun H4 e4 => q H4 ((e2.trans e3).trans e4)) E⟩
theorem evp_meth (h : Ev ta σ H (.ref a)) (ho : H a = some (.ins C dx fs)) (hl : fs.lookup m = none) (ha : EvA t σ H vs) (hs : SpP sp (.ref a :: (vs ++ dvs)) H P) : EvP (tMeth C m sp dvs E ta t) σ H P := fun H1 e Q q =>
  h H1 e _ fun H2 e2 => ⟨a, dx, fs, rfl, (e.trans e2) a _ ho, hl, ha H2 (e.trans e2) _ fun H3 e3 => hs H3 ((e.trans e2).trans e3) Q (fun v H4 e4 => q v H4 ((e2.trans e3).trans e4)) E⟩
theorem ev_inGrb {l : List Str} {x : V} {b : Bool} (ha : Ev ta σ H x) (hx : flatV x = true) (hl : (l.map V.str).all flatV = true) (e : inV x (l.map V.str) = b) : Ev (tOp (rIn K false) ta (tGr K l)) σ H (.bl b) := by rw [← e]; exact ev_inGr ha hx hl
theorem at_nm {i : Int} (h0 : 0 ≤ i) (h1 : i ≤ 31) : atI (tab_NAMES.map V.str) i = some (.str (nm i.toNat)) := by
  have h : ∀ c : Nat, c < 32 → atI (tab_NAMES.map V.str) (c : Int) = some (.str (nm c)) := by decide +kernel
  have q := h i.toNat (by omega)
  rw [Int.toNat_of_nonneg h0] at q
  exact q
end
theorem s_iff {K : PySem.W.Frag} {σ : L2.St} {H : Hp} {D : Ends} {t : TT} {tu tw : TS} {b : Bool} (h : EvT t σ H b) (k : ∀ H1, Ex H H1 → (b = true → tu D σ H1) ∧ (b = false → tw D σ H1)) : tIfS t tu tw D σ H :=
  s_if h (fun hb H1 e => (k H1 e).1 hb) fun hb H1 e => (k H1 e).2 hb

local macro_rules | `(tactic| walk_at "uw.at") => `(tactic| first
  | with_reducible assumption
  | with_reducible exact at_gI0 (by omega)
  | with_reducible exact at_gI1 (by omega)
  | with_reducible exact at_gI2 (by omega)
  | with_reducible exact at_gI (by omega) (by omega)
  | exact rfl)
local macro_rules | `(tactic| walk_at "uw.side") => `(tactic| first
  | assumption
  | (show CDiv _ _; exact ⟨by omega, by omega⟩)
  | (show CMul _ _; first | exact Or.inl ⟨by omega, by omega⟩ | exact Or.inr ⟨by omega, by omega⟩)
  | (show CPow _ _; exact ⟨by decide, by decide, by decide⟩)
  | (show (0 : Int) < _; omega)
  | rfl | decide | omega)
local macro_rules | `(tactic| walk_at "uw.sq") => `(tactic| first
  | with_reducible assumption
  | with_reducible exact sq_of (by with_reducible assumption)
  | with_reducible exact st_of (by with_reducible assumption)
  | assumption
  | exact sq_of (by assumption)
  | exact st_of (by assumption))
local macro_rules | `(tactic| walk_at "uw.rv") => `(tactic| first
  | with_reducible exact rv_I0
  | ((with_reducible refine' rv_I ?c); (case c => walk_at "uw.side"))
  | ((with_reducible refine' rv_eqb ?c ?d); (case c => rfl); (case d => exact rfl))
  | ((with_reducible refine' rv_neb ?c ?d); (case c => rfl); (case d => exact rfl))
  | ((with_reducible refine' rv_isNb ?c); (case c => exact rfl))
  | ((with_reducible refine' rv_ntNb ?c); (case c => exact rfl))
  | ((with_reducible refine' rv_ixL ?h ?a); (case h => walk_at "uw.sq"); (case a => walk_at "uw.at"))
  | ((with_reducible refine' rv_ixT ?h ?a); (case h => walk_at "uw.sq"); (case a => walk_at "uw.at"))
  | ((with_reducible refine' rv_isT ?h rfl rfl); (case h => walk_at "uw.sq"))
  | ((with_reducible refine' rv_isL ?h rfl rfl); (case h => walk_at "uw.sq")))
local macro_rules | `(tactic| walk_at "uw.ea") => `(tactic| first
  | with_reducible exact ea_nil
  | ((with_reducible refine' ea_cons ?a ?b); (case a => walk_at "uw.ev"); (case b => walk_at "uw.ea")))
local macro_rules | `(tactic| walk_at "uw.et") => `(tactic| first
  | ((with_reducible refine' et_test ?a); (case a => walk_at "uw.ev"))
  | ((with_reducible refine' et_B ?a); (case a => walk_at "uw.ev"))
  | ((with_reducible refine' et_not ?a); (case a => walk_at "uw.et"))
  | ((with_reducible refine' et_or ?a ?b); (case a => walk_at "uw.et"); (case b => intro _; walk_at "uw.et"))
  | ((with_reducible refine' et_and ?a ?b); (case a => walk_at "uw.et"); (case b => intro _; walk_at "uw.et"))
  | ((with_reducible refine' et_truI ?a ?b); (case a => walk_at "uw.ev"); (case b => walk_at "uw.sq"))
  | ((with_reducible refine' et_truL ?a ?b); (case a => walk_at "uw.ev"); (case b => walk_at "uw.sq")))
local macro_rules | `(tactic| walk_at "uw.el") => `(tactic| first
  | ((with_reducible refine' el_lst ?a ?b); (case a => walk_at "uw.ea"); (case b => exact Nat.le_of_ble_eq_true rfl))
  | ((with_reducible refine' el_sl ?a ?b ?c ?d); (case a => walk_at "uw.ev"); (case b => walk_at "uw.eo"); (case c => walk_at "uw.eo"); (case d => walk_at "uw.sq"))
  | ((with_reducible refine' el_list ?a ?d); (case a => walk_at "uw.ev"); (case d => walk_at "uw.sq")))
local macro_rules | `(tactic| walk_at "uw.eo") => `(tactic| first
  | with_reducible exact eo_none
  | ((with_reducible refine' eo_some ?a); (case a => walk_at "uw.ev")))
local macro_rules | `(tactic| walk_at "uw.eu") => `(tactic| ((with_reducible refine' eu_tup ?a ?b); (case a => walk_at "uw.ea"); (case b => exact Nat.le_of_ble_eq_true rfl)))
local macro_rules | `(tactic| walk_at "uw.ev") => `(tactic| first
  | with_reducible assumption
  | with_reducible exact ev_c
  | ((with_reducible refine' ev_var ?h); (case h => exact rfl))
  | ((with_reducible refine' ev_inUb ?a ?b ?c ?d ?e); (case a => walk_at "uw.ev"); (case b => walk_at "uw.eu"); (case c => rfl); (case d => rfl); (case e => exact rfl))
  | ((with_reducible refine' ev_niUb ?a ?b ?c ?d ?e); (case a => walk_at "uw.ev"); (case b => walk_at "uw.eu"); (case c => rfl); (case d => rfl); (case e => exact rfl))
  | ((with_reducible refine' ev_inLb ?a ?b ?c ?d ?e); (case a => walk_at "uw.ev"); (case b => walk_at "uw.el"); (case c => rfl); (case d => rfl); (case e => exact rfl))
  | ((with_reducible refine' ev_inGrb ?a ?c ?d ?e); (case a => walk_at "uw.ev"); (case c => rfl); (case d => rfl); (case e => exact rfl))
  | ((with_reducible refine' ev_op ?a ?b ?r); (case a => walk_at "uw.ev"); (case b => walk_at "uw.ev"); (case r => walk_at "uw.rv"))
  | ((with_reducible refine' ev_unN ?a); (case a => walk_at "uw.ev"))
  | ((with_reducible refine' ev_chain ?a ?b ?r ?c ?s); (case a => walk_at "uw.ev"); (case b => walk_at "uw.ev"); (case r => walk_at "uw.rv"); (case c => walk_at "uw.ev"); (case s => walk_at "uw.rv"))
  | ((with_reducible refine' ev_lenI ?a ?h); (case a => walk_at "uw.ev"); (case h => walk_at "uw.sq"))
  | ((with_reducible refine' ev_lenTI ?a ?h); (case a => walk_at "uw.ev"); (case h => walk_at "uw.sq"))
  | ((with_reducible refine' ev_len ?a ?h); (case a => walk_at "uw.ev"); (case h => walk_at "uw.sq"))
  | ((with_reducible refine' ev_lenT ?a ?h); (case a => walk_at "uw.ev"); (case h => walk_at "uw.sq"))
  | ((with_reducible refine' ev_int ?a); (case a => walk_at "uw.ea"))
  | ((with_reducible refine' ev_intb ?a); (case a => walk_at "uw.ea"))
  | ((with_reducible refine' ev_max2' ?a); (case a => walk_at "uw.ea"))
  | ((with_reducible refine' ev_min2 ?a); (case a => walk_at "uw.ea"))
  | ((with_reducible refine' ev_andV ?a ?b); (case a => walk_at "uw.ev"); (case b => intro _; walk_at "uw.ev"))
  | ((with_reducible refine' ev_notV ?a); (case a => walk_at "uw.ev"))
  | ((with_reducible refine' ev_call ?a ?b); (case a => walk_at "uw.ea"); (case b => walk_at "uw.sp")))
def spSigned : Sp := fun vs H Q _ => ∃ x : Int, vs = [.int x] ∧ RetV (.int (sgn x)) H Q
def spBit : Sp := fun vs H Q _ => ∃ (c : Nat) (l r : Int), vs = [.str (nm c), .int l, .int r] ∧ (c = 5 ∨ c = 6 ∨ c = 7) ∧ RetV (.int (bw (bitF c) l r 16)) H Q
def spShift : Sp := fun vs H Q _ => ∃ (c : Nat) (l : Int) (n : Nat), vs = [.str (nm c), .int l, .int (n : Int)] ∧ (c = 9 ∨ c = 10) ∧ n ≤ 16 ∧ Wd l ∧ RetV (.int (if c = 9 then l * 2 ^ n % 65536 else l / 2 ^ n)) H Q
def spComb : Sp := fun vs H Q _ => ∃ (c : Nat) (l r : Int), vs = [.str (nm c), .int l, .int r] ∧ (3 ≤ c ∧ c ≤ 13) ∧ Wd l ∧ Wd r ∧ RetV (.int (comb c l r)) H Q
theorem sp_signed {x : Int} {H : Hp} : SpV spSigned ([.int x] ++ []) H (.int (sgn x)) := fun H1 e Q q E => ⟨x, rfl, q⟩
theorem bitF_and {c : Nat} {a b : Int} (h : c = 5) : bitF c a b = a * b := by subst h; rfl
theorem bitF_or {c : Nat} {a b : Int} (h : c = 6) : bitF c a b = a + b - a * b := by subst h; rfl
theorem bitF_xor {c : Nat} {a b : Int} (h : c = 7) : bitF c a b = a + b - 2 * a * b := by subst h; rfl
section
variable {P : Program} {w : World} {K : PySem.W.Frag} {mg : Str → Option Value} {base : Heap} {CI CM : Addr}
theorem ok_signed (T : Txt K mg CI CM) : FnG P w K mg base "signed" 1 ["word"] spSigned := by
  refine fnG_of T.d_signed sc_signed (fun _ _ _ _ _ _ us hl => match us, hl with | [_], _ => rfl) (fun vs H Q E h => ?_) fun f cdv A outer s H vs Q E hr h => ?_
  · obtain ⟨x, rfl, _⟩ := h
    rfl
  · obtain ⟨x, rfl, k⟩ := h
    have nd := sc_signed.nd
    refine ⟨_, (pss_cons (ps_if (pt_cmpR op_ge (pv 0) pe_int (nomark _)) (pss_one (ps_ret (pe_op op_sub (pv 0) (pe_gi (by rfl) T.g_WORDS)))) pss_nil)
      (pss_one (ps_ret (pv 0)))), ?_⟩
    refine q_when (b := decide (32768 ≤ x)) (by walk_at "uw.et") (fun hb H1 e1 => ?_) (fun hb H1 e1 => ?_)
    · exact s_ret (v := .int (x - 65536)) (by walk_at "uw.ev") fun H2 e2 => ret_at k (e1.trans e2) (by rw [show sgn x = x - 65536 from if_pos (of_decide_eq_true hb)])
    · exact s_ret (v := .int x) (by walk_at "uw.ev") fun H2 e2 => ret_at k (e1.trans e2) (by rw [show sgn x = x from if_neg (of_decide_eq_false hb)])
theorem ok_law_signed (T : Txt K mg CI CM) : FnG P w K mg base "_law_signed" 1 ["_law_word"] spSigned := by
  refine fnG_of T.d_law_signed sc_law_signed (fun _ _ _ _ _ _ us hl => match us, hl with | [_], _ => rfl) (fun vs H Q E h => ?_) fun f cdv A outer s H vs Q E hr h => ?_
  · obtain ⟨x, rfl, _⟩ := h
    rfl
  · obtain ⟨x, rfl, k⟩ := h
    have nd := sc_law_signed.nd
    refine ⟨_, (pss_cons (ps_if (pt_cmpR op_gt (pv 0) pe_int (nomark _)) (pss_one (ps_ret (pe_op op_sub (pv 0) pe_int))) pss_nil)
      (pss_one (ps_ret (pv 0)))), ?_⟩
    refine q_when (b := decide (32767 < x)) (by walk_at "uw.et") (fun hb H1 e1 => ?_) (fun hb H1 e1 => ?_)
    · have hb := of_decide_eq_true hb
      exact s_ret (v := .int (x - 65536)) (by walk_at "uw.ev") fun H2 e2 => ret_at k (e1.trans e2) (by rw [show sgn x = x - 65536 from if_pos (by omega)])
    · have hb := of_decide_eq_false hb
      exact s_ret (v := .int x) (by walk_at "uw.ev") fun H2 e2 => ret_at k (e1.trans e2) (by rw [show sgn x = x from if_neg (by omega)])
theorem ok_bitwise (T : Txt K mg CI CM) : FnG P w K mg base "bitwise" 1 ["op", "left", "right"] spBit := by
  refine fnG_of T.d_bitwise sc_bitwise (fun _ _ _ _ _ _ us hl => match us, hl with | [_, _, _], _ => rfl) (fun vs H Q E h => ?_) fun f cdv A outer s H vs Q E hr h => ?_
  · obtain ⟨c, l, r, rfl, _⟩ := h
    rfl
  · obtain ⟨c, l, r, rfl, hc, k⟩ := h
    have hc32 : c < 32 := by omega
    have nd := sc_bitwise.nd
    refine ⟨_, (pss_cons (ps_set (i := 3) nd rfl (Or.inl rfl) pe_int)
      (pss_cons (ps_set (i := 4) nd rfl (Or.inl rfl) pe_int)
      (pss_cons (ps_for PassesOwn.never rfl (pi_range1 (by rfl) T.n_range (pa_cons pe_int pa_nil)) (pg_name (i := 5) nd rfl (Or.inl rfl)) (pss_cons (ps_set (i := 6) nd rfl (Or.inl rfl) (pe_op op_mod (pe_op op_fdiv (pv 1) (pv 4)) pe_int))
      (pss_cons (ps_set (i := 7) nd rfl (Or.inl rfl) (pe_op op_mod (pe_op op_fdiv (pv 2) (pv 4)) pe_int))
      (pss_cut (ps_if (pt_cmpR op_eq (pv 0) pe_str (nomark _)) (pss_one (ps_set (i := 8) nd rfl (Or.inl rfl) (pe_op op_mul (pv 6) (pv 7)))) (pss_one (ps_if (pt_cmpR op_eq (pv 0) pe_str (nomark _)) (pss_one (ps_set (i := 8) nd rfl (Or.inl rfl) (pe_callB (cr_max2 rfl) (by rfl) T.n_max (by decide +kernel) (pa_cons (pv 6) (pa_cons (pv 7) pa_nil))))) (pss_one (ps_set (i := 8) nd rfl (Or.inl rfl) (pe_op op_mod (pe_op op_add (pv 6) (pv 7)) pe_int))))))
      (pss_cons (ps_aug (i := 3) nd rfl (Or.inl rfl) (pe_op op_mul (pv 8) (pv 4)) ip_add)
      (pss_one (ps_aug (i := 4) nd rfl (Or.inl rfl) pe_int iop_mul)))))))
      (pss_one (ps_ret (pv 3)))))), ?_⟩
    refine q_asg (v := .int 0) (by walk_at "uw.ev") fun H1 e1 => q_asg (v := .int 1) (by walk_at "uw.ev") fun H2 e2 => ?_
    refine q_forR1 (n := 16) (by walk_at "uw.ea") (by decide) (fun i σ' H' => ∃ a b d e : Option V, σ' = [some (.str (nm c)), some (.int l), some (.int r), some (.int (bw (bitF c) l r i)), some (.int (2 ^ i)), a, b, d, e] ∧ Ex H H')
      (fun H3 e3 => ⟨none, none, none, none, rfl, (e1.trans e2).trans e3⟩) (fun i σ' H' hi hp => ?_) (fun σ' H' hp => ?_)
    · obtain ⟨a0, b0, d0, f0, rfl, ex⟩ := hp
      obtain ⟨p1, p2⟩ := pw16 (n := i) (by omega)
      show (tSeq _ _ : TS) _ _ _
      have pe : (2 : Int) ^ (i + 1) = 2 ^ i * 2 := Int.pow_succ 2 i
      have be : bw (bitF c) l r (i + 1) = bw (bitF c) l r i + bitF c (l / 2 ^ i % 2) (r / 2 ^ i % 2) * 2 ^ i := rfl
      generalize (2 : Int) ^ i = p at *
      generalize bw (bitF c) l r i = acc at *
      have h1 := bit01 (l / p)
      have h2 := bit01 (r / p)
      refine q_asg (v := .int (l / p % 2)) (by walk_at "uw.ev") fun H3 e3 => q_asg (v := .int (r / p % 2)) (by walk_at "uw.ev") fun H4 e4 => ?_
      generalize l / p % 2 = x at *
      generalize r / p % 2 = y at *
      refine q_cut (M := fun σ2 H2 => σ2 = [some (.str (nm c)), some (.int l), some (.int r), some (.int acc), some (.int p), some (.int (i : Int)), some (.int x), some (.int y), some (.int (bitF c x y))] ∧ Ex H H2) ?_ ?_
      · have e40 := (ex.trans e3).trans e4
        refine s_if (b := decide (c = 5)) (et_is (by walk_at "uw.et") (nm_eq (d := 5) hc32 (by decide))) (fun hb H5 e5 => ?_) (fun hb H5 e5 => ?_)
        · refine s_asg (v := .int (bitF c x y)) ?_ fun H6 e6 => ⟨rfl, (e40.trans e5).trans e6⟩
          rw [bitF_and (of_decide_eq_true hb)]
          walk_at "uw.ev"
        refine s_if (b := decide (c = 6)) (et_is (by walk_at "uw.et") (nm_eq (d := 6) hc32 (by decide))) (fun hb2 H6 e6 => ?_) (fun hb2 H6 e6 => ?_)
        · refine s_asg (v := .int (bitF c x y)) (ev_is (v := .int (if y > x then y else x)) (by walk_at "uw.ev") ?_) fun H7 e7 => ⟨rfl, ((e40.trans e5).trans e6).trans e7⟩
          rw [bitF_or (of_decide_eq_true hb2)]
          rcases h1 with rfl | rfl <;> rcases h2 with rfl | rfl <;> rfl
        · have hb := of_decide_eq_false hb
          have hb2 := of_decide_eq_false hb2
          refine s_asg (v := .int (bitF c x y)) (ev_is (by walk_at "uw.ev") ?_) fun H7 e7 => ⟨rfl, ((e40.trans e5).trans e6).trans e7⟩
          rw [bitF_xor (by omega)]
          rcases h1 with rfl | rfl <;> rcases h2 with rfl | rfl <;> rfl
      · rintro σ2 H5 ⟨rfl, e5⟩
        have hb := bitF01 (c := c) h1 h2
        generalize bitF c x y = z at *
        refine q_aug (a := acc) (b := z * p) rfl (by walk_at "uw.ev") fun H6 e6 => ?_
        refine ⟨.int p, rfl, ?_⟩
        refine ⟨p, 2, rfl, rfl, Or.inr ⟨by decide, by decide⟩, some (.int (i : Int)), some (.int x), some (.int y), some (.int z), ?_, e5.trans e6⟩
        rw [be, pe] <;> rfl
    · obtain ⟨a0, b0, d0, f0, rfl, ex⟩ := hp
      exact s_ret (v := .int (bw (bitF c) l r 16)) (by walk_at "uw.ev") fun H3 e3 => k.go (ex.trans e3)
end

local macro_rules | `(tactic| walk_at "uw.sp") => `(tactic| first | exact sp_signed | exact sp_bit (by omega) | exact sp_shift (by omega) (by omega) (by assumption))
theorem sp_bit {c : Nat} {l r : Int} {H : Hp} (hc : c = 5 ∨ c = 6 ∨ c = 7) : SpV spBit ([.str (nm c), .int l, .int r] ++ []) H (.int (bw (bitF c) l r 16)) := fun H1 e Q q E => ⟨c, l, r, rfl, hc, q⟩
theorem sp_shift {c : Nat} {l : Int} {n : Nat} {H : Hp} (hc : c = 9 ∨ c = 10) (hn : n ≤ 16) (hl : Wd l) : SpV spShift ([.str (nm c), .int l, .int (n : Int)] ++ []) H (.int (if c = 9 then l * 2 ^ n % 65536 else l / 2 ^ n)) := fun H1 e Q q E => ⟨c, l, n, rfl, hc, hn, hl, q⟩
section
variable {P : Program} {w : World} {K : PySem.W.Frag} {mg : Str → Option Value} {base : Heap} {CI CM : Addr}
theorem ok_law_bitwise (T : Txt K mg CI CM) : FnG P w K mg base "_law_bitwise" 1 ["_law_op", "_law_left", "_law_right"] spBit := by
  refine fnG_of T.d_law_bitwise sc_law_bitwise (fun _ _ _ _ _ _ us hl => match us, hl with | [_, _, _], _ => rfl) (fun vs H Q E h => ?_) fun f cdv A outer s H vs Q E hr h => ?_
  · obtain ⟨c, l, r, rfl, _⟩ := h
    rfl
  · obtain ⟨c, l, r, rfl, hc, k⟩ := h
    have nd := sc_law_bitwise.nd
    have hu := hu_of hr
    refine ⟨_, (pss_cons (ps_set (i := 3) nd rfl (Or.inl rfl) pe_int)
      (pss_cons (ps_set (i := 4) nd rfl (Or.inl rfl) pe_int)
      (pss_cons (ps_for PassesOwn.never rfl (pi_range1 (by rfl) T.n_range (pa_cons pe_int pa_nil)) (pg_name (i := 5) nd rfl (Or.inl rfl)) (pss_cons (ps_set (i := 6) nd rfl (Or.inl rfl) (pe_op op_mod (pe_op op_fdiv (pv 1) (pv 4)) pe_int))
      (pss_cons (ps_set (i := 7) nd rfl (Or.inl rfl) (pe_op op_mod (pe_op op_fdiv (pv 2) (pv 4)) pe_int))
      (pss_cut (ps_if (pt_cmpR op_eq (pv 0) pe_str (nomark _)) (pss_one (ps_set (i := 3) nd rfl (Or.inl rfl) (pe_op op_add (pv 3) (pe_op op_mul (pe_op op_mul (pv 4) (pv 6)) (pv 7))))) (pss_one (ps_if (pt_cmpR op_eq (pv 0) pe_str (nomark _)) (pss_one (ps_set (i := 3) nd rfl (Or.inl rfl) (pe_op op_add (pv 3) (pe_op op_mul (pv 4) (pe_op op_sub (pe_op op_add (pv 6) (pv 7)) (pe_op op_mul (pv 6) (pv 7))))))) (pss_one (ps_set (i := 3) nd rfl (Or.inl rfl) (pe_op op_add (pv 3) (pe_op op_mul (pv 4) (pe_op op_sub (pe_op op_add (pv 6) (pv 7)) (pe_op op_mul (pe_op op_mul pe_int (pv 6)) (pv 7))))))))))
      (pss_one (ps_set (i := 4) nd rfl (Or.inl rfl) (pe_op op_mul pe_int (pv 4))))))))
      (pss_one (ps_ret (pv 3)))))), ?_⟩
    have hc32 : c < 32 := by omega
    refine q_asg (v := .int 0) (by walk_at "uw.ev") fun H1 e1 => q_asg (v := .int 1) (by walk_at "uw.ev") fun H2 e2 => ?_
    refine q_forR1 (n := 16) (by walk_at "uw.ea") (by decide) (fun i σ' H' => ∃ a b d : Option V, σ' = [some (.str (nm c)), some (.int l), some (.int r), some (.int (bw (bitF c) l r i)), some (.int (2 ^ i)), a, b, d] ∧ Ex H H')
      (fun H3 e3 => ⟨none, none, none, rfl, (e1.trans e2).trans e3⟩) (fun i σ' H' hi hp => ?_) (fun σ' H' hp => ?_)
    · obtain ⟨a0, b0, d0, rfl, ex⟩ := hp
      obtain ⟨p1, p2⟩ := pw16 (n := i) (by omega)
      show (tSeq _ _ : TS) _ _ _
      have pe : (2 : Int) ^ (i + 1) = 2 ^ i * 2 := Int.pow_succ 2 i
      have be : bw (bitF c) l r (i + 1) = bw (bitF c) l r i + bitF c (l / 2 ^ i % 2) (r / 2 ^ i % 2) * 2 ^ i := rfl
      generalize (2 : Int) ^ i = p at *
      generalize bw (bitF c) l r i = acc at *
      have h1 := bit01 (l / p)
      have h2 := bit01 (r / p)
      refine q_asg (v := .int (l / p % 2)) (by walk_at "uw.ev") fun H3 e3 => q_asg (v := .int (r / p % 2)) (by walk_at "uw.ev") fun H4 e4 => ?_
      generalize l / p % 2 = x at *
      generalize r / p % 2 = y at *
      have hx : -(2 ^ 64) < x ∧ x < 2 ^ 64 := by omega
      have hy : -(2 ^ 64) < y ∧ y < 2 ^ 64 := by omega
      have hp' : -(2 ^ 64) < p ∧ p < 2 ^ 64 := by omega
      refine q_cut (M := fun σ2 H2 => σ2 = [some (.str (nm c)), some (.int l), some (.int r), some (.int (acc + bitF c x y * p)), some (.int p), some (.int (i : Int)), some (.int x), some (.int y)] ∧ Ex H H2) ?_ ?_
      · have e40 := (ex.trans e3).trans e4
        refine s_if (b := decide (c = 5)) (et_is (by walk_at "uw.et") (nm_eq (d := 5) hc32 (by decide))) (fun hb H5 e5 => ?_) (fun hb H5 e5 => ?_)
        · refine s_asg (v := .int (acc + bitF c x y * p)) (ev_is (v := .int (acc + p * x * y)) (ev_op (ev_var rfl) (ev_op (ev_op (ev_var rfl) (ev_var rfl) (rv_I (Or.inl hp'))) (ev_var rfl) (rv_I (Or.inr hy))) rv_I0) ?_) fun H6 e6 => ⟨rfl, (e40.trans e5).trans e6⟩
          rw [bitF_and (of_decide_eq_true hb)]
          rcases h1 with rfl | rfl <;> rcases h2 with rfl | rfl <;> simp
        refine s_if (b := decide (c = 6)) (et_is (by walk_at "uw.et") (nm_eq (d := 6) hc32 (by decide))) (fun hb2 H6 e6 => ?_) (fun hb2 H6 e6 => ?_)
        · refine s_asg (v := .int (acc + bitF c x y * p)) (ev_is (v := .int (acc + p * (x + y - x * y))) (ev_op (ev_var rfl) (ev_op (ev_var rfl) (ev_op (ev_op (ev_var rfl) (ev_var rfl) rv_I0) (ev_op (ev_var rfl) (ev_var rfl) (rv_I (Or.inl hx))) rv_I0) (rv_I (Or.inl hp'))) rv_I0) ?_) fun H7 e7 => ⟨rfl, ((e40.trans e5).trans e6).trans e7⟩
          rw [bitF_or (of_decide_eq_true hb2)]
          rcases h1 with rfl | rfl <;> rcases h2 with rfl | rfl <;> simp
        · have hb := of_decide_eq_false hb
          have hb2 := of_decide_eq_false hb2
          refine s_asg (v := .int (acc + bitF c x y * p)) (ev_is (v := .int (acc + p * (x + y - 2 * x * y))) (ev_op (ev_var rfl) (ev_op (ev_var rfl) (ev_op (ev_op (ev_var rfl) (ev_var rfl) rv_I0) (ev_op (ev_op ev_c (ev_var rfl) (rv_I (Or.inr hx))) (ev_var rfl) (rv_I (Or.inr hy))) rv_I0) (rv_I (Or.inl hp'))) rv_I0) ?_) fun H7 e7 => ⟨rfl, ((e40.trans e5).trans e6).trans e7⟩
          rw [bitF_xor (by omega)]
          rcases h1 with rfl | rfl <;> rcases h2 with rfl | rfl <;> simp
      · rintro σ2 H5 ⟨rfl, e5⟩
        refine s_asg (v := .int (2 * p)) (ev_op ev_c (ev_var rfl) (rv_I (Or.inl ⟨by decide, by decide⟩))) fun H6 e6 => ⟨some (.int (i : Int)), some (.int x), some (.int y), ?_, e5.trans e6⟩
        rw [be, pe, Int.mul_comm p 2] <;> rfl
    · obtain ⟨a0, b0, d0, rfl, ex⟩ := hp
      exact s_ret (v := .int (bw (bitF c) l r 16)) (by walk_at "uw.ev") fun H3 e3 => k.go (ex.trans e3)
theorem ok_shifted (T : Txt K mg CI CM) : FnG P w K mg base "shifted" 1 ["op", "left", "places"] spShift := by
  refine fnG_of T.d_shifted sc_shifted (fun _ _ _ _ _ _ us hl => match us, hl with | [_, _, _], _ => rfl) (fun vs H Q E h => ?_) fun f cdv A outer s H vs Q E hr h => ?_
  · obtain ⟨c, l, n, rfl, _⟩ := h
    rfl
  · obtain ⟨c, l, n, rfl, hc, hn, hl, k⟩ := h
    have nd := sc_shifted.nd
    have hu := hu_of hr
    refine ⟨_, (pss_cons (ps_set (i := 3) nd rfl (Or.inl rfl) pe_int)
      (pss_cons (ps_for PassesOwn.never rfl (pi_range1 (by rfl) T.n_range (pa_cons (pv 2) pa_nil)) (pg_name (i := 4) nd rfl (Or.inl rfl)) (pss_one (ps_aug (i := 3) nd rfl (Or.inl rfl) pe_int iop_mul)))
      (pss_cons (ps_if (pt_cmpR op_eq (pv 0) pe_str (nomark _)) (pss_one (ps_ret (pe_op op_mod (pe_op op_mul (pv 1) (pv 3)) (pe_gi (by rfl) T.g_WORDS)))) pss_nil)
      (pss_one (ps_ret (pe_op op_fdiv (pv 1) (pv 3))))))), ?_⟩
    have hc32 : c < 32 := by omega
    refine q_asg (v := .int 1) (by walk_at "uw.ev") fun H1 e1 => ?_
    refine q_forR1 (n := (n : Int)) (by walk_at "uw.ea") (by omega) (fun i σ' H' => ∃ a : Option V, σ' = [some (.str (nm c)), some (.int l), some (.int (n : Int)), some (.int (2 ^ i)), a] ∧ Ex H H')
      (fun H3 e3 => ⟨none, rfl, e1.trans e3⟩) (fun i σ' H' hi hp => ?_) (fun σ' H' hp => ?_)
    · obtain ⟨a0, rfl, ex⟩ := hp
      refine ⟨.int (2 ^ i), rfl, ⟨2 ^ i, 2, rfl, rfl, Or.inr ⟨by decide, by decide⟩, some (.int (i : Int)), ?_, ex⟩⟩
      rw [Int.pow_succ] <;> rfl
    · obtain ⟨a0, rfl, ex⟩ := hp
      rw [show (n : Int).toNat = n by omega]
      obtain ⟨p1, p2⟩ := pw16 (n := n) hn
      generalize (2 : Int) ^ n = p at *
      refine q_when (b := decide (c = 9)) (et_is (by walk_at "uw.et") (nm_eq (d := 9) hc32 (by decide))) (fun hb H5 e5 => ?_) (fun hb H5 e5 => ?_)
      · exact s_ret (v := .int (l * p % 65536)) (by walk_at "uw.ev") fun H3 e3 => ret_at k ((ex.trans e5).trans e3) (by rw [if_pos (of_decide_eq_true hb)])
      · exact s_ret (v := .int (l / p)) (by walk_at "uw.ev") fun H3 e3 => ret_at k ((ex.trans e5).trans e3) (by rw [if_neg (of_decide_eq_false hb)])
end

theorem sp_shiftI {c : Nat} {l m : Int} {H : Hp} (hc : c = 9 ∨ c = 10) (h0 : 0 ≤ m) (hn : m ≤ 16) (hl : Wd l) : SpV spShift ([.str (nm c), .int l, .int m] ++ []) H (.int (if c = 9 then l * 2 ^ m.toNat % 65536 else l / 2 ^ m.toNat)) := fun H1 e Q q E =>
  ⟨c, l, m.toNat, by rw [Int.toNat_of_nonneg h0] <;> rfl, hc, by omega, hl, q⟩
theorem sp_comb {c : Nat} {l r : Int} {H : Hp} (hc : 3 ≤ c ∧ c ≤ 13) (hl : Wd l) (hr : Wd r) : SpV spComb ([.str (nm c), .int l, .int r] ++ []) H (.int (comb c l r)) := fun H1 e Q q E => ⟨c, l, r, rfl, hc, hl, hr, q⟩
local macro_rules | `(tactic| walk_at "uw.sp") => `(tactic| first | exact sp_signed | exact sp_bit (by omega) | exact sp_shiftI (by omega) (by omega) (by omega) (by assumption))
theorem b2i_dec {p : Prop} [Decidable p] {a b : Int} : (if decide p = true then a else b) = if p then a else b := by
  by_cases h : p <;> simp [h]
section
variable {P : Program} {w : World} {K : PySem.W.Frag} {mg : Str → Option Value} {base : Heap} {CI CM : Addr}
theorem ok_combine (T : Txt K mg CI CM) : FnG P w K mg base "combine" 2 ["op", "left", "right"] spComb := by
  refine fnG_of T.d_combine sc_combine (fun _ _ _ _ _ _ us hl => match us, hl with | [_, _, _], _ => rfl) (fun vs H Q E h => ?_) fun f cdv A outer s H vs Q E hr h => ?_
  · obtain ⟨c, l, r, rfl, _⟩ := h
    rfl
  · obtain ⟨c, l, r, rfl, hc, hl, hr', k⟩ := h
    have nd := sc_combine.nd
    have hu := hu_of hr
    refine ⟨_, (pss_cons (ps_if (pt_cmpR op_eq (pv 0) pe_str (nomark _)) (pss_one (ps_ret (pe_op op_mod (pe_op op_add (pv 1) (pv 2)) (pe_gi (by rfl) T.g_WORDS)))) pss_nil)
      (pss_cons (ps_if (pt_cmpR op_eq (pv 0) pe_str (nomark _)) (pss_one (ps_ret (pe_op op_mod (pe_op op_sub (pv 1) (pv 2)) (pe_gi (by rfl) T.g_WORDS)))) pss_nil)
      (pss_cons (ps_if (pt_cmpR op_eq (pv 0) pe_str (nomark _)) (pss_one (ps_ret (pe_op op_mod (pe_op op_mul (pv 1) (pv 2)) (pe_gi (by rfl) T.g_WORDS)))) pss_nil)
      (pss_cons (ps_if (pt_cmpR (o_in K) (pv 0) (pe_tup (pa_cons pe_str (pa_cons pe_str (pa_cons pe_str pa_nil)))) (by rfl)) (pss_one (ps_ret (pe_fn (ok_bitwise T) (hr.mono (by decide)) (by rfl) (pa_cons (pv 0) (pa_cons (pv 1) (pa_cons (pv 2) pa_nil)))))) pss_nil)
      (pss_cons (ps_if (pt_cmpR (o_in K) (pv 0) (pe_tup (pa_cons pe_str (pa_cons pe_str pa_nil))) (by rfl)) (pss_one (ps_ret (pe_fn (ok_shifted T) (hr.mono (by decide)) (by rfl) (pa_cons (pv 0) (pa_cons (pv 1) (pa_cons (pe_op op_mod (pv 2) pe_int) pa_nil)))))) pss_nil)
      (pss_cons (ps_if (pt_cmpR op_eq (pv 0) pe_str (nomark _)) (pss_one (ps_ret (pe_callTy cr_int (by rfl) T.n_int (by decide +kernel) (pa_cons (pe_cmpR op_lt (pv 1) (pv 2) (nomark _)) pa_nil)))) pss_nil)
      (pss_cons (ps_if (pt_cmpR op_eq (pv 0) pe_str (nomark _)) (pss_one (ps_ret (pe_callTy cr_int (by rfl) T.n_int (by decide +kernel) (pa_cons (pe_cmpR op_lt (pe_fn (ok_signed T) (hr.mono (by decide)) (by rfl) (pa_cons (pv 1) pa_nil)) (pe_fn (ok_signed T) (hr.mono (by decide)) (by rfl) (pa_cons (pv 2) pa_nil)) (nomark _)) pa_nil)))) pss_nil)
      (pss_one (ps_ret (pe_callTy cr_int (by rfl) T.n_int (by decide +kernel) (pa_cons (pe_cmpR op_eq (pv 1) (pv 2) (nomark _)) pa_nil))))))))))), ?_⟩
    have hc32 : c < 32 := by omega
    have hm : -(2 ^ 64) < l ∧ l < 2 ^ 64 := ⟨Int.lt_of_lt_of_le (by decide) hl.1, Int.lt_trans hl.2 (by decide)⟩
    refine q_when (b := decide (c = 3)) (et_is (by walk_at "uw.et") (nm_eq (d := 3) hc32 (by decide))) (fun hb H1 e1 => ?_) (fun hb H1 e1 => ?_)
    · have hb := of_decide_eq_true hb
      exact s_ret (v := .int ((l + r) % 65536)) (by walk_at "uw.ev") fun H2 e2 => ret_at k (e1.trans e2) (by subst hb; rfl)
    refine q_when (b := decide (c = 4)) (et_is (by walk_at "uw.et") (nm_eq (d := 4) hc32 (by decide))) (fun hb2 H2 e2 => ?_) (fun hb2 H2 e2 => ?_)
    · have hb := of_decide_eq_true hb2
      exact s_ret (v := .int ((l - r) % 65536)) (by walk_at "uw.ev") fun H3 e3 => ret_at k ((e1.trans e2).trans e3) (by subst hb; rfl)
    refine q_when (b := decide (c = 8)) (et_is (by walk_at "uw.et") (nm_eq (d := 8) hc32 (by decide))) (fun hb3 H3 e3 => ?_) (fun hb3 H3 e3 => ?_)
    · have hb := of_decide_eq_true hb3
      exact s_ret (v := .int (l * r % 65536)) (ev_op (ev_op (ev_var rfl) (ev_var rfl) (rv_I (Or.inl hm))) ev_c (rv_I (show (0 : Int) < 65536 by decide))) fun H4 e4 => ret_at k (((e1.trans e2).trans e3).trans e4) (by subst hb; rfl)
    refine q_when (b := decide (c ∈ [5, 6, 7])) (et_is (by walk_at "uw.et") (in_nm (l := [5, 6, 7]) hc32 (by decide))) (fun hb4 H4 e4 => ?_) (fun hb4 H4 e4 => ?_)
    · have hb : c = 5 ∨ c = 6 ∨ c = 7 := by simpa using hb4
      exact s_ret (v := .int (bw (bitF c) l r 16)) (by walk_at "uw.ev") fun H5 e5 => ret_at k ((((e1.trans e2).trans e3).trans e4).trans e5) (by rcases hb with rfl | rfl | rfl <;> rfl)
    refine q_when (b := decide (c ∈ [9, 10])) (et_is (by walk_at "uw.et") (in_nm (l := [9, 10]) hc32 (by decide))) (fun hb5 H5 e5 => ?_) (fun hb5 H5 e5 => ?_)
    · have hb : c = 9 ∨ c = 10 := by simpa using hb5
      have h16 : 0 ≤ r % 16 ∧ r % 16 < 16 := ⟨Int.emod_nonneg _ (by decide), Int.emod_lt_of_pos _ (by decide)⟩
      generalize hm16 : r % 16 = m at *
      refine s_ret (v := .int (if c = 9 then l * 2 ^ m.toNat % 65536 else l / 2 ^ m.toNat)) (ev_call (vs := [.str (nm c), .int l, .int m]) (ea_cons (ev_var rfl) (ea_cons (ev_var rfl) (ea_cons (ev_is (by walk_at "uw.ev") (by rw [hm16])) ea_nil))) (sp_shiftI hb (by omega) (by omega) hl)) fun H6 e6 => ret_at k (((((e1.trans e2).trans e3).trans e4).trans e5).trans e6) ?_
      unfold comb
      rw [hm16]
      rcases hb with rfl | rfl <;> rfl
    refine q_when (b := decide (c = 11)) (et_is (by walk_at "uw.et") (nm_eq (d := 11) hc32 (by decide))) (fun hb6 H6 e6 => ?_) (fun hb6 H6 e6 => ?_)
    · have hb := of_decide_eq_true hb6
      exact s_ret (v := .int (if decide (l < r) = true then 1 else 0)) (by walk_at "uw.ev") fun H7 e7 => ret_at k ((((((e1.trans e2).trans e3).trans e4).trans e5).trans e6).trans e7) (by subst hb; rw [b2i_dec]; rfl)
    refine q_when (b := decide (c = 12)) (et_is (by walk_at "uw.et") (nm_eq (d := 12) hc32 (by decide))) (fun hb7 H7 e7 => ?_) (fun hb7 H7 e7 => ?_)
    · have hb := of_decide_eq_true hb7
      exact s_ret (v := .int (if decide (sgn l < sgn r) = true then 1 else 0)) (by walk_at "uw.ev") fun H8 e8 => ret_at k (((((((e1.trans e2).trans e3).trans e4).trans e5).trans e6).trans e7).trans e8) (by subst hb; rw [b2i_dec]; rfl)
    have hb : c = 13 := by simp at hb hb2 hb3 hb4 hb5 hb6 hb7; omega
    exact s_ret (v := .int (if decide (V.int l = V.int r) = true then 1 else 0)) (by walk_at "uw.ev") fun H8 e8 => ret_at k (((((((e1.trans e2).trans e3).trans e4).trans e5).trans e6).trans e7).trans e8) (by
      subst hb
      show V.int (if l = r then 1 else 0) = _
      by_cases z : l = r <;> simp [z])
theorem ok_law_combine (T : Txt K mg CI CM) : FnG P w K mg base "_law_combine" 2 ["_law_op", "_law_left", "_law_right"] spComb := by
  refine fnG_of T.d_law_combine sc_law_combine (fun _ _ _ _ _ _ us hl => match us, hl with | [_, _, _], _ => rfl) (fun vs H Q E h => ?_) fun f cdv A outer s H vs Q E hr h => ?_
  · obtain ⟨c, l, r, rfl, _⟩ := h
    rfl
  · obtain ⟨c, l, r, rfl, hc, hl, hr', k⟩ := h
    have nd := sc_law_combine.nd
    have hu := hu_of hr
    refine ⟨_, (pss_cons (ps_if (pt_cmpR op_eq (pv 0) pe_str (nomark _)) (pss_one (ps_ret (pe_op op_mod (pe_op op_add (pv 1) (pv 2)) pe_int))) pss_nil)
      (pss_cons (ps_if (pt_cmpR op_eq (pv 0) pe_str (nomark _)) (pss_one (ps_ret (pe_op op_mod (pe_op op_sub (pe_op op_add (pv 1) pe_int) (pv 2)) pe_int))) pss_nil)
      (pss_cons (ps_if (pt_cmpR op_eq (pv 0) pe_str (nomark _)) (pss_one (ps_ret (pe_op op_mod (pe_op op_mul (pv 1) (pv 2)) pe_int))) pss_nil)
      (pss_cons (ps_if (pt_cmpR op_eq (pv 0) pe_str (nomark _)) (pss_one (ps_ret (pe_callTy cr_int (by rfl) T.n_int (by decide +kernel) (pa_cons (pe_cmpR op_lt (pv 1) (pv 2) (nomark _)) pa_nil)))) pss_nil)
      (pss_cons (ps_if (pt_cmpR op_eq (pv 0) pe_str (nomark _)) (pss_one (ps_ret (pe_callTy cr_int (by rfl) T.n_int (by decide +kernel) (pa_cons (pe_cmpR op_lt (pe_fn (ok_law_signed T) (hr.mono (by decide)) (by rfl) (pa_cons (pv 1) pa_nil)) (pe_fn (ok_law_signed T) (hr.mono (by decide)) (by rfl) (pa_cons (pv 2) pa_nil)) (nomark _)) pa_nil)))) pss_nil)
      (pss_cons (ps_if (pt_cmpR op_eq (pv 0) pe_str (nomark _)) (pss_one (ps_ret (pe_callTy cr_int (by rfl) T.n_int (by decide +kernel) (pa_cons (pe_cmpR op_eq (pv 1) (pv 2) (nomark _)) pa_nil)))) pss_nil)
      (pss_cons (ps_if (PW.pt (pw_or (pt_cmpR op_eq (pv 0) pe_str (nomark _)) (pw_or1 (pt_cmpR op_eq (pv 0) pe_str (nomark _))))) (pss_cons (ps_set (i := 3) nd rfl (Or.inl rfl) pe_int)
      (pss_cons (ps_for PassesOwn.never rfl (pi_range1 (by rfl) T.n_range (pa_cons (pe_op op_mod (pv 2) pe_int) pa_nil)) (pg_name (i := 4) nd rfl (Or.inl rfl)) (pss_one (ps_set (i := 3) nd rfl (Or.inl rfl) (pe_op op_mul pe_int (pv 3)))))
      (pss_cons (ps_if (pt_cmpR op_eq (pv 0) pe_str (nomark _)) (pss_one (ps_ret (pe_op op_mod (pe_op op_mul (pv 1) (pv 3)) pe_int))) pss_nil)
      (pss_one (ps_ret (pe_op op_fdiv (pv 1) (pv 3))))))) pss_nil)
      (pss_one (ps_ret (pe_fn (ok_law_bitwise T) (hr.mono (by decide)) (by rfl) (pa_cons (pv 0) (pa_cons (pv 1) (pa_cons (pv 2) pa_nil))))))))))))), ?_⟩
    have hc32 : c < 32 := by omega
    have hm : -(2 ^ 64) < l ∧ l < 2 ^ 64 := ⟨Int.lt_of_lt_of_le (by decide) hl.1, Int.lt_trans hl.2 (by decide)⟩
    refine q_when (b := decide (c = 3)) (et_is (by walk_at "uw.et") (nm_eq (d := 3) hc32 (by decide))) (fun hb H1 e1 => ?_) (fun hb H1 e1 => ?_)
    · have hb := of_decide_eq_true hb
      exact s_ret (v := .int ((l + r) % 65536)) (by walk_at "uw.ev") fun H2 e2 => ret_at k (e1.trans e2) (by subst hb; rfl)
    refine q_when (b := decide (c = 4)) (et_is (by walk_at "uw.et") (nm_eq (d := 4) hc32 (by decide))) (fun hb2 H2 e2 => ?_) (fun hb2 H2 e2 => ?_)
    · have hb := of_decide_eq_true hb2
      exact s_ret (v := .int ((l + 65536 - r) % 65536)) (by walk_at "uw.ev") fun H3 e3 => ret_at k ((e1.trans e2).trans e3) (by subst hb; rw [sub_mod]; rfl)
    refine q_when (b := decide (c = 8)) (et_is (by walk_at "uw.et") (nm_eq (d := 8) hc32 (by decide))) (fun hb3 H3 e3 => ?_) (fun hb3 H3 e3 => ?_)
    · have hb := of_decide_eq_true hb3
      exact s_ret (v := .int (l * r % 65536)) (ev_op (ev_op (ev_var rfl) (ev_var rfl) (rv_I (Or.inl hm))) ev_c (rv_I (show (0 : Int) < 65536 by decide))) fun H4 e4 => ret_at k (((e1.trans e2).trans e3).trans e4) (by subst hb; rfl)
    refine q_when (b := decide (c = 11)) (et_is (by walk_at "uw.et") (nm_eq (d := 11) hc32 (by decide))) (fun hb4 H4 e4 => ?_) (fun hb4 H4 e4 => ?_)
    · have hb := of_decide_eq_true hb4
      exact s_ret (v := .int (if decide (l < r) = true then 1 else 0)) (by walk_at "uw.ev") fun H7 e7 => ret_at k ((((e1.trans e2).trans e3).trans e4).trans e7) (by subst hb; rw [b2i_dec]; rfl)
    refine q_when (b := decide (c = 12)) (et_is (by walk_at "uw.et") (nm_eq (d := 12) hc32 (by decide))) (fun hb5 H5 e5 => ?_) (fun hb5 H5 e5 => ?_)
    · have hb := of_decide_eq_true hb5
      exact s_ret (v := .int (if decide (sgn l < sgn r) = true then 1 else 0)) (by walk_at "uw.ev") fun H8 e8 => ret_at k (((((e1.trans e2).trans e3).trans e4).trans e5).trans e8) (by subst hb; rw [b2i_dec]; rfl)
    refine q_when (b := decide (c = 13)) (et_is (by walk_at "uw.et") (nm_eq (d := 13) hc32 (by decide))) (fun hb6 H6 e6 => ?_) (fun hb6 H6 e6 => ?_)
    · have hb := of_decide_eq_true hb6
      exact s_ret (v := .int (if decide (V.int l = V.int r) = true then 1 else 0)) (by walk_at "uw.ev") fun H8 e8 => ret_at k ((((((e1.trans e2).trans e3).trans e4).trans e5).trans e6).trans e8) (by
        subst hb
        show V.int (if l = r then 1 else 0) = _
        by_cases z : l = r <;> simp [z])
    have e60 := (((((e1.trans e2).trans e3).trans e4).trans e5).trans e6)
    refine q_when (b := decide (c = 9) || decide (c = 10)) (et_or (et_is (by walk_at "uw.et") (nm_eq (d := 9) hc32 (by decide))) fun _ => (et_is (by walk_at "uw.et") (nm_eq (d := 10) hc32 (by decide)))) (fun hb7 H7 e7 => ?_) (fun hb7 H7 e7 => ?_)
    · have hb' : c = 9 ∨ c = 10 := by simpa using hb7
      have h16 : 0 ≤ r % 16 ∧ r % 16 < 16 := ⟨Int.emod_nonneg _ (by decide), Int.emod_lt_of_pos _ (by decide)⟩
      refine q_asg (v := .int 1) (by walk_at "uw.ev") fun H8 e8 => ?_
      refine q_forR1 (n := r % 16) (by walk_at "uw.ea") (by omega) (fun i σ' H' => ∃ a : Option V, σ' = [some (.str (nm c)), some (.int l), some (.int r), some (.int (2 ^ i)), a] ∧ Ex H H')
        (fun H3 e3 => ⟨none, rfl, ((e60.trans e7).trans e8).trans e3⟩) (fun i σ' H' hi hp => ?_) (fun σ' H' hp => ?_)
      · obtain ⟨a0, rfl, ex⟩ := hp
        refine s_asg (v := .int (2 * 2 ^ i)) (ev_op ev_c (ev_var rfl) (rv_I (Or.inl ⟨by decide, by decide⟩))) fun H9 e9 => ⟨some (.int (i : Int)), ?_, ex.trans e9⟩
        rw [Int.pow_succ, Int.mul_comm] <;> rfl
      · obtain ⟨a0, rfl, ex⟩ := hp
        obtain ⟨p1, p2⟩ := pw16 (n := (r % 16).toNat) (by omega)
        have ec : comb c l r = if c = 9 then l * 2 ^ (r % 16).toNat % 65536 else l / 2 ^ (r % 16).toNat := by
          unfold comb
          rcases hb' with rfl | rfl <;> rfl
        generalize (2 : Int) ^ (r % 16).toNat = p at *
        refine q_when (b := decide (c = 9)) (et_is (by walk_at "uw.et") (nm_eq (d := 9) hc32 (by decide))) (fun hb8 H9 e9 => ?_) (fun hb8 H9 e9 => ?_)
        · exact s_ret (v := .int (l * p % 65536)) (by walk_at "uw.ev") fun H3 e3 => ret_at k ((ex.trans e9).trans e3) (by rw [ec, if_pos (of_decide_eq_true hb8)])
        · exact s_ret (v := .int (l / p)) (by walk_at "uw.ev") fun H3 e3 => ret_at k ((ex.trans e9).trans e3) (by rw [ec, if_neg (of_decide_eq_false hb8)])
    have hb' : c = 5 ∨ c = 6 ∨ c = 7 := by simp at hb hb2 hb3 hb4 hb5 hb6 hb7; omega
    exact s_ret (v := .int (bw (bitF c) l r 16)) (by walk_at "uw.ev") fun H9 e9 => ret_at k ((e60.trans e7).trans e9) (by rcases hb' with rfl | rfl | rfl <;> rfl)
end

/-- an instruction's items, as the program has them -/
def InsP (K : PySem.W.Frag) (H : Hp) (i : Ins) (xs : List V) : Prop := match i with
  | .set r w => xs = [.str (nm 1), .int r, .int w]
  | .copy r s => xs = [.str (nm 2), .int r, .int s]
  | .op c r s => xs = [.str (nm c), .int r, .int s]
  | .load r s w => xs = [.str (nm 14), .int r, .int s, .int w]
  | .store r s w => xs = [.str (nm 15), .int s, .int w, .int r]
  | .take r k => xs = [.str (nm 16), .int r, .int k]
  | .put r k => xs = [.str (nm 17), .int k, .int r]
  | .frame r k => xs = [.str (nm 18), .int r, .int k]
  | .down k => xs = [.str (nm 19), .int k]
  | .up k => xs = [.str (nm 20), .int k]
  | .jump a => xs = [.str (nm 21), .int a]
  | .zero r a => xs = [.str (nm 22), .int r, .int a]
  | .nonzero r a => xs = [.str (nm 23), .int r, .int a]
  | .table r t => ∃ q, xs = [.str (nm 24), .int r, .ref q] ∧ SqT K H q (t.map V.int)
  | .call a => xs = [.str (nm 25), .int a]
  | .calls r t => ∃ q, xs = [.str (nm 26), .int r, .ref q] ∧ SqT K H q (t.map V.int)
  | .back => xs = [.str (nm 27)]
  | .input r => xs = [.str (nm 28), .int r]
  | .output r => xs = [.str (nm 29), .int r]
  | .halt => xs = [.str (nm 30)]
  | .trap k => xs = [.str (nm 31), .int k]
theorem InsP.ex {K : PySem.W.Frag} {H H' : Hp} (e : Ex H H') {i : Ins} {xs : List V} (h : InsP K H i xs) : InsP K H' i xs := by
  cases i with
  | table r t => obtain ⟨q, a, b⟩ := h; exact ⟨q, a, ex_t e b⟩
  | calls r t => obtain ⟨q, a, b⟩ := h; exact ⟨q, a, ex_t e b⟩
  | _ => exact h
theorem InsP.head {K : PySem.W.Frag} {H : Hp} {i : Ins} {xs : List V} (h : InsP K H i xs) : atI xs 0 = some (.str (nm i.code)) := by
  cases i with
  | table r t => obtain ⟨q, rfl, _⟩ := h; rfl
  | calls r t => obtain ⟨q, rfl, _⟩ := h; rfl
  | _ => rw [show xs = _ from h] <;> rfl
def FndV (K : PySem.W.Frag) (H : Hp) (v : V) (o : Option (Ins × Int)) : Prop := match o with
  | none => v = .non
  | some (i, n) => ∃ p q xs, v = .ref p ∧ SqT K H p [.ref q, .int n] ∧ SqT K H q xs ∧ InsP K H i xs
theorem FndV.ex {K : PySem.W.Frag} {H H' : Hp} (e : Ex H H') {v : V} {o : Option (Ins × Int)} (h : FndV K H v o) : FndV K H' v o := by
  cases o with
  | none => exact h
  | some x =>
    obtain ⟨p, q, xs, h1, h2, h3, h4⟩ := h
    exact ⟨p, q, xs, h1, ex_t e h2, ex_t e h3, h4.ex e⟩
theorem FndV.mk {K : PySem.W.Frag} {H : Hp} {v : V} {i : Ins} {n : Int} {xs : List V} (h : ∃ p q, v = .ref p ∧ H p = some (.tup [.ref q, .int n]) ∧ H q = some (.tup xs)) (hi : InsP K H i xs) : FndV K H v (some (i, n)) := by
  obtain ⟨p, q, h1, h2, h3⟩ := h
  exact ⟨p, q, xs, h1, st_of h2, st_of h3, hi⟩
def spFnd (K : PySem.W.Frag) (C : Nat → Prop) (f : Nat → List Int → Option (Ins × Int)) : Sp := fun vs H Q _ => ∃ (c : Nat) (a : Addr) (l : List Int), vs = [.str (nm c), .ref a] ∧ C c ∧ (1 ≤ c ∧ c < 32) ∧ SqL K H a (l.map V.int) ∧ Bytes l ∧ RetP (fun v H2 => FndV K H2 v (f c l)) H Q
def spWord : Sp := fun vs H Q _ => ∃ a b : Int, vs = [.int a, .int b] ∧ RetV (.int (256 * a + b)) H Q
def spPair (K : PySem.W.Frag) : Sp := fun vs H Q _ => ∃ b : Int, vs = [.int b] ∧ RetP (fun v H2 => (if b / 16 < 8 ∧ b % 16 < 8 then ∃ p, v = .ref p ∧ SqT K H2 p [.int (b / 16), .int (b % 16)] else v = .non)) H Q
theorem sp_word {a b : Int} {H : Hp} : SpV spWord ([.int a, .int b] ++ []) H (.int (256 * a + b)) := fun H1 e Q q E => ⟨a, b, rfl, q⟩
theorem sp_pair {K : PySem.W.Frag} {b : Int} {H : Hp} : SpP (spPair K) ([.int b] ++ []) H (fun v H2 => (if b / 16 < 8 ∧ b % 16 < 8 then ∃ p, v = .ref p ∧ SqT K H2 p [.int (b / 16), .int (b % 16)] else v = .non)) := fun H1 e Q q E => ⟨b, rfl, q⟩
local macro_rules | `(tactic| walk_at "uw.sp") => `(tactic| first | exact sp_word)
section
variable {P : Program} {w : World} {K : PySem.W.Frag} {mg : Str → Option Value} {base : Heap} {CI CM : Addr}
theorem ok_word_of (T : Txt K mg CI CM) : FnG P w K mg base "word_of" 1 ["high", "low"] spWord := by
  refine fnG_of T.d_word_of sc_word_of (fun _ _ _ _ _ _ us hl => match us, hl with | [_, _], _ => rfl) (fun vs H Q E h => ?_) fun f cdv A outer s H vs Q E hr h => ?_
  · obtain ⟨a, b, rfl, _⟩ := h
    rfl
  · obtain ⟨a, b, rfl, k⟩ := h
    have nd := sc_word_of.nd
    have hu := hu_of hr
    refine ⟨_, (pss_one (ps_ret (pe_op op_add (pe_op op_mul pe_int (pv 0)) (pv 1)))), ?_⟩
    exact s_ret (v := .int (256 * a + b)) (by walk_at "uw.ev") fun H1 e1 => k.go e1
theorem ok_pair_of (T : Txt K mg CI CM) : FnG P w K mg base "pair_of" 1 ["byte"] (spPair K) := by
  refine fnG_of T.d_pair_of sc_pair_of (fun _ _ _ _ _ _ us hl => match us, hl with | [_], _ => rfl) (fun vs H Q E h => ?_) fun f cdv A outer s H vs Q E hr h => ?_
  · obtain ⟨b, rfl, _⟩ := h
    rfl
  · obtain ⟨b, rfl, k⟩ := h
    have nd := sc_pair_of.nd
    have hu := hu_of hr
    refine ⟨_, (pss_cons (ps_if (PW.pt (pw_and (pt_cmpR op_lt (pe_op op_fdiv (pv 0) pe_int) pe_int (nomark _)) (pw_and1 (pt_cmpR op_lt (pe_op op_mod (pv 0) pe_int) pe_int (nomark _))))) (pss_one (ps_ret (pe_tup (pa_cons (pe_op op_fdiv (pv 0) pe_int) (pa_cons (pe_op op_mod (pv 0) pe_int) pa_nil))))) pss_nil)
      (pss_one (ps_ret pe_non))), ?_⟩
    refine q_when (b := decide (b / 16 < 8) && decide (b % 16 < 8)) (by walk_at "uw.et") (fun hb H1 e1 => ?_) (fun hb H1 e1 => ?_)
    · have hb : b / 16 < 8 ∧ b % 16 < 8 := by simpa using hb
      refine s_retU (xs := [.int (b / 16), .int (b % 16)]) (by walk_at "uw.eu") fun p H2 hp e2 h2 => k.go (e1.trans e2) ?_
      rw [if_pos hb]
      exact ⟨p, rfl, st_of h2⟩
    · have hb : ¬ (b / 16 < 8 ∧ b % 16 < 8) := by simpa using hb
      refine s_ret (v := .non) (by walk_at "uw.ev") fun H2 e2 => k.go (e1.trans e2) ?_
      rw [if_neg hb]
theorem ok_plain_in (T : Txt K mg CI CM) : FnG P w K mg base "plain_in" 2 ["name", "rest"] (spFnd K (fun c => ¬ isT c ∧ ¬ isP c ∧ ¬ isS c) nI) := by
  refine fnG_of T.d_plain_in sc_plain_in (fun _ _ _ _ _ _ us hl => match us, hl with | [_, _], _ => rfl) (fun vs H Q E h => ?_) fun f cdv A outer s H vs Q E hr h => ?_
  · obtain ⟨c, a, l, rfl, _⟩ := h
    rfl
  · obtain ⟨c, a, l, rfl, hC, hc, hl, hB, k⟩ := h
    have nd := sc_plain_in.nd
    have hu := hu_of hr
    refine ⟨_, (pss_cons (ps_if (pt_cmpR (o_in K) (pv 0) (pe_tup (pa_cons pe_str (pa_cons pe_str pa_nil))) (by rfl)) (pss_one (ps_ret (pe_tup (pa_cons (pe_tup (pa_cons (pv 0) pa_nil)) (pa_cons pe_int pa_nil))))) pss_nil)
      (pss_cons (ps_if (pt_not (pt_tru K (pv 1) (by intro _; rfl))) (pss_one (ps_ret pe_non)) pss_nil)
      (pss_cons (ps_if (pt_cmpR (o_in K) (pv 0) (pe_tup (pa_cons pe_str (pa_cons pe_str (pa_cons pe_str pa_nil)))) (by rfl)) (pss_one (ps_ret (pe_tup (pa_cons (pe_tup (pa_cons (pv 0) (pa_cons (pe_ix (ixl K) (pv 1) pe_int (fun _ _ => rfl)) pa_nil))) (pa_cons pe_int pa_nil))))) pss_nil)
      (pss_cons (ps_if (pt_cmpR op_lt (pe_callB (cr_len K) (by rfl) T.n_len (by decide +kernel) (pa_cons (pv 1) pa_nil)) pe_int (nomark _)) (pss_one (ps_ret pe_non)) pss_nil)
      (pss_one (ps_ret (pe_tup (pa_cons (pe_tup (pa_cons (pv 0) (pa_cons (pe_fn (ok_word_of T) (hr.mono (by decide)) (by rfl) (pa_cons (pe_ix (ixl K) (pv 1) pe_int (fun _ _ => rfl)) (pa_cons (pe_ix (ixl K) (pv 1) pe_int (fun _ _ => rfl)) pa_nil))) pa_nil))) (pa_cons pe_int pa_nil))))))))), ?_⟩
    obtain ⟨h1, h2, h3⟩ := hC
    have hc32 := hc.2
    unfold nI at k
    refine q_when (b := decide (c ∈ [27, 30])) (et_is (by walk_at "uw.et") (in_nm (l := [27, 30]) hc32 (by decide))) (fun hb H1 e1 => ?_) (fun hb H1 e1 => ?_)
    · have hb : c = 27 ∨ c = 30 := by simpa using hb
      rw [if_pos hb] at k
      refine s_retP (evp_pair (vs := [.str (nm c)]) (v := .int 1) (by walk_at "uw.ea") (Nat.le_of_ble_eq_true rfl) (by walk_at "uw.ev")) fun v H2 e2 h2 => k.go (e1.trans e2) (FndV.mk h2 ?_)
      rcases hb with rfl | rfl <;> rfl
    have hb : ¬ (c = 27 ∨ c = 30) := by simpa using hb
    rw [if_neg hb] at k
    have hl1 := ex_l e1 hl
    refine q_when (b := !(!decide (l.length < 1))) (by walk_at "uw.et") (fun hb2 H2 e2 => ?_) (fun hb2 H2 e2 => ?_)
    · have hb2 : l.length < 1 := by simpa using hb2
      rw [if_pos hb2] at k
      exact s_ret (v := .non) (by walk_at "uw.ev") fun H3 e3 => k.go ((e1.trans e2).trans e3) rfl
    have hb2 : ¬ l.length < 1 := by simpa using hb2
    rw [if_neg hb2] at k
    have hl2 := ex_l e2 hl1
    refine q_when (b := decide (c ∈ [19, 20, 31])) (et_is (by walk_at "uw.et") (in_nm (l := [19, 20, 31]) hc32 (by decide))) (fun hb3 H3 e3 => ?_) (fun hb3 H3 e3 => ?_)
    · have hb3 : c = 19 ∨ c = 20 ∨ c = 31 := by simpa using hb3
      rw [if_pos hb3] at k
      have hl3 := ex_l e3 hl2
      refine s_retP (evp_pair (vs := [.str (nm c), .int (gI l 0)]) (v := .int 2) (by walk_at "uw.ea") (Nat.le_of_ble_eq_true rfl) (by walk_at "uw.ev")) fun v H4 e4 h2 => k.go (((e1.trans e2).trans e3).trans e4) (FndV.mk h2 ?_)
      rcases hb3 with rfl | rfl | rfl <;> rfl
    have hb3 : ¬ (c = 19 ∨ c = 20 ∨ c = 31) := by simpa using hb3
    rw [if_neg hb3] at k
    have hl3 := ex_l e3 hl2
    refine q_when (b := decide ((l.length : Int) < 2)) (by walk_at "uw.et") (fun hb4 H4 e4 => ?_) (fun hb4 H4 e4 => ?_)
    · have hb4 := of_decide_eq_true hb4
      rw [if_pos (by omega)] at k
      exact s_ret (v := .non) (by walk_at "uw.ev") fun H5 e5 => k.go ((((e1.trans e2).trans e3).trans e4).trans e5) rfl
    have hb4 := of_decide_eq_false hb4
    rw [if_neg (by omega)] at k
    have hl4 := ex_l e4 hl3
    refine s_retP (evp_pair (vs := [.str (nm c), .int (wd l 0)]) (v := .int 3) (by walk_at "uw.ea") (Nat.le_of_ble_eq_true rfl) (by walk_at "uw.ev")) fun v H5 e5 hq => k.go ((((e1.trans e2).trans e3).trans e4).trans e5) (FndV.mk hq ?_)
    have : c = 21 ∨ c = 25 := by
      unfold isT at h1
      unfold isP at h2
      unfold isS at h3
      omega
    rcases this with rfl | rfl <;> rfl
end

local macro_rules | `(tactic| walk_at "uw.sp") => `(tactic| first | exact sp_word)
section
variable {P : Program} {w : World} {K : PySem.W.Frag} {mg : Str → Option Value} {base : Heap} {CI CM : Addr}
theorem ok_single_in (T : Txt K mg CI CM) : FnG P w K mg base "single_in" 2 ["name", "rest"] (spFnd K isS sI) := by
  refine fnG_of T.d_single_in sc_single_in (fun _ _ _ _ _ _ us hl => match us, hl with | [_, _], _ => rfl) (fun vs H Q E h => ?_) fun f cdv A outer s H vs Q E hr h => ?_
  · obtain ⟨c, a, l, rfl, _⟩ := h
    rfl
  · obtain ⟨c, a, l, rfl, hC, hc, hl, hB, k⟩ := h
    have nd := sc_single_in.nd
    have hu := hu_of hr
    refine ⟨_, (pss_cons (ps_if (PW.pt (pw_or (pt_not (pt_tru K (pv 1) (by intro _; rfl))) (pw_or1 (pt_cmpR op_ge (pe_ix (ixl K) (pv 1) pe_int (fun _ _ => rfl)) pe_int (nomark _))))) (pss_one (ps_ret pe_non)) pss_nil)
      (pss_cons (ps_if (pt_cmpR (o_in K) (pv 0) (pe_tup (pa_cons pe_str (pa_cons pe_str pa_nil))) (by rfl)) (pss_one (ps_ret (pe_tup (pa_cons (pe_tup (pa_cons (pv 0) (pa_cons (pe_ix (ixl K) (pv 1) pe_int (fun _ _ => rfl)) pa_nil))) (pa_cons pe_int pa_nil))))) pss_nil)
      (pss_cons (ps_if (pt_cmpR op_lt (pe_callB (cr_len K) (by rfl) T.n_len (by decide +kernel) (pa_cons (pv 1) pa_nil)) pe_int (nomark _)) (pss_one (ps_ret pe_non)) pss_nil)
      (pss_cons (ps_if (pt_cmpR op_eq (pv 0) pe_str (nomark _)) (pss_one (ps_ret (pe_tup (pa_cons (pe_tup (pa_cons pe_str (pa_cons (pe_ix (ixl K) (pv 1) pe_int (fun _ _ => rfl)) (pa_cons (pe_ix (ixl K) (pv 1) pe_int (fun _ _ => rfl)) pa_nil)))) (pa_cons pe_int pa_nil))))) pss_nil)
      (pss_cons (ps_if (pt_cmpR (o_in K) (pv 0) (pe_tup (pa_cons pe_str (pa_cons pe_str pa_nil))) (by rfl)) (pss_one (ps_ret (pe_tup (pa_cons (pe_tup (pa_cons (pv 0) (pa_cons (pe_ix (ixl K) (pv 1) pe_int (fun _ _ => rfl)) (pa_cons (pe_ix (ixl K) (pv 1) pe_int (fun _ _ => rfl)) pa_nil)))) (pa_cons pe_int pa_nil))))) pss_nil)
      (pss_cons (ps_if (pt_cmpR op_lt (pe_callB (cr_len K) (by rfl) T.n_len (by decide +kernel) (pa_cons (pv 1) pa_nil)) pe_int (nomark _)) (pss_one (ps_ret pe_non)) pss_nil)
      (pss_one (ps_ret (pe_tup (pa_cons (pe_tup (pa_cons (pv 0) (pa_cons (pe_ix (ixl K) (pv 1) pe_int (fun _ _ => rfl)) (pa_cons (pe_fn (ok_word_of T) (hr.mono (by decide)) (by rfl) (pa_cons (pe_ix (ixl K) (pv 1) pe_int (fun _ _ => rfl)) (pa_cons (pe_ix (ixl K) (pv 1) pe_int (fun _ _ => rfl)) pa_nil))) pa_nil)))) (pa_cons pe_int pa_nil))))))))))), ?_⟩
    have hc32 := hc.2
    unfold isS at hC
    unfold sI at k
    refine q_when (b := decide (l.length < 1) || decide (8 ≤ gI l 0)) (et_or (et_is (by walk_at "uw.et") (by simp)) fun hz => ?tt) (fun hb H1 e1 => ?_) (fun hb H1 e1 => ?_)
    case tt =>
      have hz : ¬ l.length < 1 := by simpa using hz
      walk_at "uw.et"
    · refine s_ret (v := .non) (by walk_at "uw.ev") fun H2 e2 => k.go (e1.trans e2) ?_
      have hb : l.length < 1 ∨ 8 ≤ gI l 0 := by simpa using hb
      by_cases h1 : l.length < 1
      · rw [if_pos h1] <;> rfl
      · rw [if_neg h1, if_pos (hb.resolve_left h1)] <;> rfl
    have hb : ¬ l.length < 1 ∧ ¬ 8 ≤ gI l 0 := by simpa using hb
    rw [if_neg hb.1, if_neg hb.2] at k
    have h0 := hb.1
    have hl1 := ex_l e1 hl
    refine q_when (b := decide (c ∈ [28, 29])) (et_is (by walk_at "uw.et") (in_nm (l := [28, 29]) hc32 (by decide))) (fun hb H2 e2 => ?_) (fun hb H2 e2 => ?_)
    · have hb : c = 28 ∨ c = 29 := by simpa using hb
      rw [if_pos hb] at k
      have hl2 := ex_l e2 hl1
      refine s_retP (evp_pair (vs := [.str (nm c), .int (gI l 0)]) (v := .int 2) (by walk_at "uw.ea") (Nat.le_of_ble_eq_true rfl) (by walk_at "uw.ev")) fun v H3 e3 hq => k.go ((e1.trans e2).trans e3) (FndV.mk hq ?_)
      rcases hb with rfl | rfl <;> rfl
    have hb : ¬ (c = 28 ∨ c = 29) := by simpa using hb
    rw [if_neg hb] at k
    have hl2 := ex_l e2 hl1
    refine q_when (b := decide ((l.length : Int) < 2)) (by walk_at "uw.et") (fun hb4 H3 e3 => ?_) (fun hb4 H3 e3 => ?_)
    · have hb4 := of_decide_eq_true hb4
      rw [if_pos (by omega)] at k
      exact s_ret (v := .non) (by walk_at "uw.ev") fun H4 e4 => k.go (((e1.trans e2).trans e3).trans e4) rfl
    have hb4 := of_decide_eq_false hb4
    rw [if_neg (by omega)] at k
    have hl3 := ex_l e3 hl2
    refine q_when (b := decide (c = 17)) (et_is (by walk_at "uw.et") (nm_eq (d := 17) hc32 (by decide))) (fun hb5 H4 e4 => ?_) (fun hb5 H4 e4 => ?_)
    · have hb5 := of_decide_eq_true hb5
      rw [if_pos hb5] at k
      have hl4 := ex_l e4 hl3
      exact s_retP (evp_pair (vs := [.str (nm 17), .int (gI l 1), .int (gI l 0)]) (v := .int 3) (ea_cons ev_c (by walk_at "uw.ea")) (Nat.le_of_ble_eq_true rfl) (by walk_at "uw.ev")) fun v H5 e5 hq => k.go ((((e1.trans e2).trans e3).trans e4).trans e5) (FndV.mk hq rfl)
    have hb5 := of_decide_eq_false hb5
    rw [if_neg hb5] at k
    have hl4 := ex_l e4 hl3
    refine q_when (b := decide (c ∈ [16, 18])) (et_is (by walk_at "uw.et") (in_nm (l := [16, 18]) hc32 (by decide))) (fun hb6 H5 e5 => ?_) (fun hb6 H5 e5 => ?_)
    · have hb6 : c = 16 ∨ c = 18 := by simpa using hb6
      rw [if_pos hb6] at k
      have hl5 := ex_l e5 hl4
      refine s_retP (evp_pair (vs := [.str (nm c), .int (gI l 0), .int (gI l 1)]) (v := .int 3) (by walk_at "uw.ea") (Nat.le_of_ble_eq_true rfl) (by walk_at "uw.ev")) fun v H6 e6 hq => k.go (((((e1.trans e2).trans e3).trans e4).trans e5).trans e6) (FndV.mk hq ?_)
      rcases hb6 with rfl | rfl <;> rfl
    have hb6 : ¬ (c = 16 ∨ c = 18) := by simpa using hb6
    rw [if_neg hb6] at k
    have hl5 := ex_l e5 hl4
    refine q_when (b := decide ((l.length : Int) < 3)) (by walk_at "uw.et") (fun hb7 H6 e6 => ?_) (fun hb7 H6 e6 => ?_)
    · have hb7 := of_decide_eq_true hb7
      rw [if_pos (by omega)] at k
      exact s_ret (v := .non) (by walk_at "uw.ev") fun H7 e7 => k.go ((((((e1.trans e2).trans e3).trans e4).trans e5).trans e6).trans e7) rfl
    have hb7 := of_decide_eq_false hb7
    rw [if_neg (by omega)] at k
    have hl6 := ex_l e6 hl5
    refine s_retP (evp_pair (vs := [.str (nm c), .int (gI l 0), .int (wd l 1)]) (v := .int 4) (by walk_at "uw.ea") (Nat.le_of_ble_eq_true rfl) (by walk_at "uw.ev")) fun v H7 e7 hq => k.go ((((((e1.trans e2).trans e3).trans e4).trans e5).trans e6).trans e7) (FndV.mk hq ?_)
    have : c = 1 ∨ c = 22 ∨ c = 23 := by omega
    rcases this with rfl | rfl | rfl <;> rfl
theorem ok_paired_in (T : Txt K mg CI CM) : FnG P w K mg base "paired_in" 2 ["name", "rest"] (spFnd K isP pI) := by
  refine fnG_of T.d_paired_in sc_paired_in (fun _ _ _ _ _ _ us hl => match us, hl with | [_, _], _ => rfl) (fun vs H Q E h => ?_) fun f cdv A outer s H vs Q E hr h => ?_
  · obtain ⟨c, a, l, rfl, _⟩ := h
    rfl
  · obtain ⟨c, a, l, rfl, hC, hc, hl, hB, k⟩ := h
    have nd := sc_paired_in.nd
    have hu := hu_of hr
    refine ⟨_, (pss_cons (ps_set (i := 2) nd rfl (Or.inl rfl) (pe_ifExp (pt_tru K (pv 1) (by intro _; rfl)) (pe_fn (ok_pair_of T) (hr.mono (by decide)) (by rfl) (pa_cons (pe_ix (ixl K) (pv 1) pe_int (fun _ _ => rfl)) pa_nil)) pe_non))
      (pss_cons (ps_if (pt_cmpR op_isN1 (pv 2) pe_non (nomark _)) (pss_one (ps_ret pe_non)) pss_nil)
      (pss_cons (ps_if (pt_cmpR (o_ni K) (pv 0) (pe_tup (pa_cons pe_str (pa_cons pe_str pa_nil))) (by rfl)) (pss_one (ps_ret (pe_tup (pa_cons (pe_tup (pa_cons (pv 0) (pa_cons (pe_ix (ixt K) (pv 2) pe_int (fun _ _ => rfl)) (pa_cons (pe_ix (ixt K) (pv 2) pe_int (fun _ _ => rfl)) pa_nil)))) (pa_cons pe_int pa_nil))))) pss_nil)
      (pss_cons (ps_if (pt_cmpR op_lt (pe_callB (cr_len K) (by rfl) T.n_len (by decide +kernel) (pa_cons (pv 1) pa_nil)) pe_int (nomark _)) (pss_one (ps_ret pe_non)) pss_nil)
      (pss_cons (ps_set (i := 3) nd rfl (Or.inl rfl) (pe_fn (ok_word_of T) (hr.mono (by decide)) (by rfl) (pa_cons (pe_ix (ixl K) (pv 1) pe_int (fun _ _ => rfl)) (pa_cons (pe_ix (ixl K) (pv 1) pe_int (fun _ _ => rfl)) pa_nil))))
      (pss_cons (ps_if (pt_cmpR op_eq (pv 0) pe_str (nomark _)) (pss_one (ps_ret (pe_tup (pa_cons (pe_tup (pa_cons pe_str (pa_cons (pe_ix (ixt K) (pv 2) pe_int (fun _ _ => rfl)) (pa_cons (pe_ix (ixt K) (pv 2) pe_int (fun _ _ => rfl)) (pa_cons (pv 3) pa_nil))))) (pa_cons pe_int pa_nil))))) pss_nil)
      (pss_one (ps_ret (pe_tup (pa_cons (pe_tup (pa_cons pe_str (pa_cons (pe_ix (ixt K) (pv 2) pe_int (fun _ _ => rfl)) (pa_cons (pv 3) (pa_cons (pe_ix (ixt K) (pv 2) pe_int (fun _ _ => rfl)) pa_nil))))) (pa_cons pe_int pa_nil))))))))))), ?_⟩
    have hc32 := hc.2
    unfold isP at hC
    unfold pI at k
    refine q_asgP (P := fun v H2 => if 1 ≤ l.length ∧ (gI l 0 / 16 < 8 ∧ gI l 0 % 16 < 8) then ∃ p, v = .ref p ∧ SqT K H2 p [.int (gI l 0 / 16), .int (gI l 0 % 16)] else v = .non)
      (evp_if (b := !decide (l.length < 1)) (by walk_at "uw.et") (fun hb => ?ta) (fun hb => ?tb)) fun v H1 e1 hv => ?_
    case ta =>
      have hb : 1 ≤ l.length := Nat.le_of_not_lt fun z => by rw [decide_eq_true (by omega)] at hb; cases hb
      refine (evp_call (vs := [.int (gI l 0)]) (by walk_at "uw.ea") sp_pair).imp fun v H1 _ h => ?_
      by_cases z : gI l 0 / 16 < 8 ∧ gI l 0 % 16 < 8
      · rw [if_pos z] at h
        rw [if_pos ⟨hb, z⟩]
        exact h
      · rw [if_neg z] at h
        rw [if_neg fun q => z q.2]
        exact h
    case tb =>
      have hb : l.length < 1 := by simpa using hb
      refine (EvP.of (v := .non) (by walk_at "uw.ev")).imp fun v H1 _ h => ?_
      rw [if_neg fun q => by omega]
      exact h
    have hl1 := ex_l e1 hl
    by_cases hp : 1 ≤ l.length ∧ (gI l 0 / 16 < 8 ∧ gI l 0 % 16 < 8)
    case neg =>
      rw [if_neg hp] at hv
      subst hv
      refine q_when (b := true) (by walk_at "uw.et") (fun hb H2 e2 => ?_) (fun hb H2 e2 => by cases hb)
      refine s_ret (v := .non) (by walk_at "uw.ev") fun H3 e3 => k.go ((e1.trans e2).trans e3) ?_
      by_cases z : l.length < 1
      · rw [if_pos z] <;> rfl
      · rw [if_neg z, if_pos fun q => hp ⟨by omega, q⟩] <;> rfl
    case pos =>
    rw [if_pos hp] at hv
    rw [if_neg (by omega), if_neg (fun q => q hp.2)] at k
    obtain ⟨p, rfl, hs⟩ := hv
    refine q_when (b := false) (by walk_at "uw.et") (fun hb H2 e2 => by cases hb) (fun hb H2 e2 => ?_)
    have hl2 := ex_l e2 hl1
    have hs2 := ex_t e2 hs
    refine q_when (b := !decide (c ∈ [14, 15])) (et_is (by walk_at "uw.et") (congrArg not (in_nm (l := [14, 15]) hc32 (by decide)))) (fun hb H3 e3 => ?_) (fun hb H3 e3 => ?_)
    · have hb : ¬ (c = 14 ∨ c = 15) := by simpa using hb
      rw [if_pos hb] at k
      have hs3 := ex_t e3 hs2
      refine s_retP (evp_pair (vs := [.str (nm c), .int (gI l 0 / 16), .int (gI l 0 % 16)]) (v := .int 2) (by walk_at "uw.ea") (Nat.le_of_ble_eq_true rfl) (by walk_at "uw.ev")) fun v H4 e4 hq => k.go (((e1.trans e2).trans e3).trans e4) (FndV.mk hq ?_)
      by_cases z : c = 2
      · subst z; rfl
      · rw [if_neg z] <;> rfl
    have hb : c = 14 ∨ c = 15 := by simp at hb; omega
    rw [if_neg (fun q => q hb)] at k
    have hl3 := ex_l e3 hl2
    have hs3 := ex_t e3 hs2
    refine q_when (b := decide ((l.length : Int) < 3)) (by walk_at "uw.et") (fun hb7 H4 e4 => ?_) (fun hb7 H4 e4 => ?_)
    · have hb7 := of_decide_eq_true hb7
      rw [if_pos (by omega)] at k
      exact s_ret (v := .non) (by walk_at "uw.ev") fun H5 e5 => k.go ((((e1.trans e2).trans e3).trans e4).trans e5) rfl
    have hb7 := of_decide_eq_false hb7
    rw [if_neg (by omega)] at k
    have hl4 := ex_l e4 hl3
    have hs4 := ex_t e4 hs3
    refine q_asg (v := .int (wd l 1)) (by walk_at "uw.ev") fun H5 e5 => ?_
    have hs5 := ex_t e5 hs4
    refine q_when (b := decide (c = 14)) (et_is (by walk_at "uw.et") (nm_eq (d := 14) hc32 (by decide))) (fun hb8 H6 e6 => ?_) (fun hb8 H6 e6 => ?_)
    · have hb8 := of_decide_eq_true hb8
      rw [if_pos hb8] at k
      have hs6 := ex_t e6 hs5
      exact s_retP (evp_pair (vs := [.str (nm 14), .int (gI l 0 / 16), .int (gI l 0 % 16), .int (wd l 1)]) (v := .int 4) (ea_cons ev_c (by walk_at "uw.ea")) (Nat.le_of_ble_eq_true rfl) (by walk_at "uw.ev")) fun v H7 e7 hq => k.go ((((((e1.trans e2).trans e3).trans e4).trans e5).trans e6).trans e7) (FndV.mk hq rfl)
    · have hb8 := of_decide_eq_false hb8
      rw [if_neg hb8] at k
      have hs6 := ex_t e6 hs5
      exact s_retP (evp_pair (vs := [.str (nm 15), .int (gI l 0 % 16), .int (wd l 1), .int (gI l 0 / 16)]) (v := .int 4) (ea_cons ev_c (by walk_at "uw.ea")) (Nat.le_of_ble_eq_true rfl) (by walk_at "uw.ev")) fun v H7 e7 hq => k.go ((((((e1.trans e2).trans e3).trans e4).trans e5).trans e6).trans e7) (FndV.mk hq rfl)
end

local macro_rules | `(tactic| walk_at "uw.sp") => `(tactic| first | exact sp_word)
/-- an image -/
def ifl (da : Addr) (e : Int) : List (Str × V) := [("_data", .ref da), ("entry", .int e)]
structure ImgOk (CI : Addr) (H : Hp) (im dx da : Addr) (d : List Int) (e : Int) : Prop where
  ob : H im = some (.ins CI dx (ifl da e))
  da : H da = some (.lst (d.map V.int))
  by_ : Bytes d
theorem ImgOk.ex {CI : Addr} {H H' : Hp} {im dx da : Addr} {d : List Int} {e : Int} (h : ImgOk CI H im dx da d e) (x : Ex H H') : ImgOk CI H' im dx da d e := ⟨x _ _ h.ob, x _ _ h.da, h.by_⟩
theorem ifl_data (da : Addr) (e : Int) : (ifl da e).lookup ("_data" : Str) = some (V.ref da) := by kernel_rfl
theorem ifl_entry (da : Addr) (e : Int) : (ifl da e).lookup ("entry" : Str) = some (V.int e) := by kernel_rfl
theorem ifl_part (da : Addr) (e : Int) : (ifl da e).lookup ("part" : Str) = none := by kernel_rfl
def spDec (K : PySem.W.Frag) : Sp := fun vs H Q _ => ∃ (a : Addr) (l : List Int), vs = [.ref a] ∧ SqL K H a (l.map V.int) ∧ Bytes l ∧ RetP (fun v H2 => FndV K H2 v (dec l)) H Q
def spPart (CI : Addr) : Sp := fun vs H Q _ => ∃ (im dx da : Addr) (d : List Int) (e a : Int) (n : Nat), vs = [.ref im, .int a, .int (n : Int)] ∧ ImgOk CI H im dx da d e ∧ 0 ≤ a ∧ RetL (((d.drop a.toNat).take n).map V.int) H Q
def spFound (K : PySem.W.Frag) (CI : Addr) : Sp := fun vs H Q _ => ∃ (im dx da : Addr) (d : List Int) (e a : Int), vs = [.ref im, .int a] ∧ ImgOk CI H im dx da d e ∧ 0 ≤ a ∧ RetP (fun v H2 => FndV K H2 v (dec (d.drop a.toNat))) H Q
/-- the instruction alone -/
def InsV (K : PySem.W.Frag) (H : Hp) (v : V) (o : Option (Ins × Int)) : Prop := match o with
  | none => v = .non
  | some (i, _) => ∃ q xs, v = .ref q ∧ SqT K H q xs ∧ InsP K H i xs
theorem InsV.ex {K : PySem.W.Frag} {H H' : Hp} (e : Ex H H') {v : V} {o : Option (Ins × Int)} (h : InsV K H v o) : InsV K H' v o := by
  cases o with
  | none => exact h
  | some x =>
    obtain ⟨q, xs, h1, h3, h4⟩ := h
    exact ⟨q, xs, h1, ex_t e h3, h4.ex e⟩
def nextA (a : Int) (o : Option (Ins × Int)) : Int := match o with
  | none => a + 1
  | some (_, n) => a + n
def spInsAt (K : PySem.W.Frag) (CI : Addr) : Sp := fun vs H Q _ => ∃ (im dx da : Addr) (d : List Int) (e a : Int), vs = [.ref im, .int a] ∧ ImgOk CI H im dx da d e ∧ 0 ≤ a ∧ RetP (fun v H2 => InsV K H2 v (dec (d.drop a.toNat))) H Q
def spNext (CI : Addr) : Sp := fun vs H Q _ => ∃ (im dx da : Addr) (d : List Int) (e a : Int), vs = [.ref im, .int a] ∧ ImgOk CI H im dx da d e ∧ 0 ≤ a ∧ RetV (.int (nextA a (dec (d.drop a.toNat)))) H Q
theorem sp_fnd {K : PySem.W.Frag} {C : Nat → Prop} {f : Nat → List Int → Option (Ins × Int)} {c : Nat} {a : Addr} {l : List Int} {H : Hp} (h1 : C c) (h2 : 1 ≤ c ∧ c < 32) (h3 : SqL K H a (l.map V.int)) (h4 : Bytes l) :
    SpP (spFnd K C f) ([.str (nm c), .ref a] ++ []) H (fun v H2 => FndV K H2 v (f c l)) := fun H1 e Q q E => ⟨c, a, l, rfl, h1, h2, ex_l e h3, h4, q⟩
theorem sp_dec {K : PySem.W.Frag} {a : Addr} {l : List Int} {H : Hp} (h3 : SqL K H a (l.map V.int)) (h4 : Bytes l) : SpP (spDec K) [.ref a] H (fun v H2 => FndV K H2 v (dec l)) := fun H1 e Q q E => ⟨a, l, rfl, ex_l e h3, h4, q⟩
theorem sp_part {CI : Addr} {im dx da : Addr} {d : List Int} {e a : Int} {n : Nat} {H : Hp} (h : ImgOk CI H im dx da d e) (h0 : 0 ≤ a) : SpL (spPart CI) (.ref im :: ([.int a, .int (n : Int)] ++ [])) H (((d.drop a.toNat).take n).map V.int) := fun H1 x Q q E =>
  ⟨im, dx, da, d, e, a, n, rfl, h.ex x, h0, q⟩
theorem sp_found {K : PySem.W.Frag} {CI : Addr} {im dx da : Addr} {d : List Int} {e a : Int} {H : Hp} (h : ImgOk CI H im dx da d e) (h0 : 0 ≤ a) : SpP (spFound K CI) ([.ref im, .int a] ++ []) H (fun v H2 => FndV K H2 v (dec (d.drop a.toNat))) := fun H1 x Q q E =>
  ⟨im, dx, da, d, e, a, rfl, h.ex x, h0, q⟩
section
variable {P : Program} {w : World} {K : PySem.W.Frag} {mg : Str → Option Value} {base : Heap} {CI CM : Addr}
theorem ok_table_in (T : Txt K mg CI CM) : FnG P w K mg base "table_in" 2 ["name", "rest"] (spFnd K isT tI) := by
  refine fnG_of T.d_table_in sc_table_in (fun _ _ _ _ _ _ us hl => match us, hl with | [_, _], _ => rfl) (fun vs H Q E h => ?_) fun f cdv A outer s H vs Q E hr h => ?_
  · obtain ⟨c, a, l, rfl, _⟩ := h
    rfl
  · obtain ⟨c, a, l, rfl, hC, hc, hl, hB, k⟩ := h
    have nd := sc_table_in.nd
    have hu := hu_of hr
    refine ⟨_, (pss_cons (ps_if (PW.pt (pw_or (pt_cmpR op_lt (pe_callB (cr_len K) (by rfl) T.n_len (by decide +kernel) (pa_cons (pv 1) pa_nil)) pe_int (nomark _)) (pw_or (pt_cmpR op_ge (pe_ix (ixl K) (pv 1) pe_int (fun _ _ => rfl)) pe_int (nomark _)) (pw_or (pt_not (pt_chain op_le op_le pe_int (pe_ix (ixl K) (pv 1) pe_int (fun _ _ => rfl)) (pe_gi (by rfl) T.g_MOST_TABLE))) (pw_or1 (pt_cmpR op_lt (pe_callB (cr_len K) (by rfl) T.n_len (by decide +kernel) (pa_cons (pv 1) pa_nil)) (pe_op op_add pe_int (pe_op op_mul pe_int (pe_ix (ixl K) (pv 1) pe_int (fun _ _ => rfl)))) (nomark _))))))) (pss_one (ps_ret pe_non)) pss_nil)
      (pss_cons (ps_set (i := 3) nd rfl (Or.inl rfl) (pe_callTy (cr_tuple K) (by rfl) T.n_tuple (by decide +kernel) (pa_cons (pe_lc (own := [("k", 2)]) (g := gName 2) (by rfl) nd (pi_range1 (by rfl) T.n_range (pa_cons (pe_ix (ixl K) (pv 1) pe_int (fun _ _ => rfl)) pa_nil)) (blkOk_by (N := nm_table_in) (sc := defScope s_table_in) (by decide +kernel)) (fun _ _ _ _ _ => pg_name (i := 2) nd rfl (Or.inl rfl)) (fun _ _ _ _ _ => pts_nil) (fun _ _ _ _ _ => (pe_fn (ok_word_of T) (hr.mono (by decide)) (by rfl) (pa_cons (pe_ix (ixl K) (pv 1) (pe_op op_add pe_int (pe_op op_mul pe_int (pv 2))) (fun _ _ => rfl)) (pa_cons (pe_ix (ixl K) (pv 1) (pe_op op_add pe_int (pe_op op_mul pe_int (pv 2))) (fun _ _ => rfl)) pa_nil))))) pa_nil)))
      (pss_one (ps_ret (pe_tup (pa_cons (pe_tup (pa_cons (pv 0) (pa_cons (pe_ix (ixl K) (pv 1) pe_int (fun _ _ => rfl)) (pa_cons (pv 3) pa_nil)))) (pa_cons (pe_op op_add pe_int (pe_op op_mul pe_int (pe_ix (ixl K) (pv 1) pe_int (fun _ _ => rfl)))) pa_nil))))))), ?_⟩
    have hc32 := hc.2
    unfold isT at hC
    unfold tI at k
    have b1 := gI_by hB 1
    unfold By at b1
    have e0 : (if l.length < 2 then none else if 8 ≤ gI l 0 then none else if ¬ (1 ≤ gI l 1 ∧ gI l 1 ≤ 16) then none else if (l.length : Int) < 2 + 2 * gI l 1 then none else some (if c = 24 then Ins.table (gI l 0) (tWords l (gI l 1)) else .calls (gI l 0) (tWords l (gI l 1)), 3 + 2 * gI l 1)) =
        (if (decide ((l.length : Int) < 2) || (decide (8 ≤ gI l 0) || (!(decide (1 ≤ gI l 1) && decide (gI l 1 ≤ 16)) || decide ((l.length : Int) < 2 + 2 * gI l 1)))) = true then none else some (if c = 24 then Ins.table (gI l 0) (tWords l (gI l 1)) else .calls (gI l 0) (tWords l (gI l 1)), 3 + 2 * gI l 1)) := by
      by_cases z1 : l.length < 2
      · rw [if_pos z1, decide_eq_true (by omega)] <;> rfl
      rw [if_neg z1, decide_eq_false (by omega), Bool.false_or]
      by_cases z2 : 8 ≤ gI l 0
      · rw [if_pos z2, decide_eq_true z2] <;> rfl
      rw [if_neg z2, decide_eq_false z2, Bool.false_or]
      by_cases z3 : 1 ≤ gI l 1 ∧ gI l 1 ≤ 16
      · rw [if_neg (fun q => q z3), decide_eq_true z3.1, decide_eq_true z3.2]
        by_cases z4 : (l.length : Int) < 2 + 2 * gI l 1
        · rw [if_pos z4, decide_eq_true z4] <;> rfl
        · rw [if_neg z4, decide_eq_false z4] <;> rfl
      · rw [if_pos z3, if_pos]
        simp only [Bool.or_eq_true, Bool.not_eq_true', Bool.and_eq_false_iff, decide_eq_false_iff_not]
        exact Or.inl (by omega)
    rw [e0] at k
    refine q_when (b := (decide ((l.length : Int) < 2) || (decide (8 ≤ gI l 0) || (!(decide (1 ≤ gI l 1) && decide (gI l 1 ≤ 16)) || decide ((l.length : Int) < 2 + 2 * gI l 1))))) (et_or (by walk_at "uw.et") fun hz => ?tt) (fun hb H1 e1 => ?_) (fun hb H1 e1 => ?_)
    case tt =>
      have hz := of_decide_eq_false hz
      walk_at "uw.et"
    · rw [if_pos hb] at k
      exact s_ret (v := .non) (by walk_at "uw.ev") fun H2 e2 => k.go (e1.trans e2) rfl
    rw [if_neg (by rw [hb]; exact Bool.false_ne_true)] at k
    simp only [Bool.or_eq_false_iff, Bool.not_eq_false', Bool.and_eq_true, decide_eq_false_iff_not, decide_eq_true_eq] at hb
    obtain ⟨z1, z2, z3, z4⟩ := hb
    have hl1 := ex_l e1 hl
    refine q_asgU (xs := (tWords l (gI l 1)).map V.int) ?tup fun t H2 ht e2 h2 => ?_
    case tup =>
      have e : (tWords l (gI l 1)).map V.int = given (gI l 1).toNat (fun _ => true) (fun k => V.int (wd l (2 + 2 * k))) := by
        rw [given_all]
        unfold tWords
        rw [List.map_map] <;> rfl
      rw [e]
      refine eu_tupL (el_lcR1 (n := gI l 1) (fun _ => true) (fun k => V.int (wd l (2 + 2 * k))) (by walk_at "uw.ea") (by omega) (fun x => rfl) (fun i H3 e3 hi => et_yes) (fun i H3 e3 hi _ => ?_))
      have hl3 := ex_l e3 hl1
      have g1 : atI (l.map V.int) (2 + 2 * (i : Int)) = some (.int (gI l (2 + 2 * i))) := by
        have := at_gI (l := l) (j := 2 + 2 * (i : Int)) (by omega) (by omega)
        rw [this, show (2 + 2 * (i : Int)).toNat = 2 + 2 * i by omega]
      have g2 : atI (l.map V.int) (3 + 2 * (i : Int)) = some (.int (gI l (2 + 2 * i + 1))) := by
        have := at_gI (l := l) (j := 3 + 2 * (i : Int)) (by omega) (by omega)
        rw [this, show (3 + 2 * (i : Int)).toNat = 2 + 2 * i + 1 by omega]
      exact ev_call (vs := [.int (gI l (2 + 2 * i)), .int (gI l (2 + 2 * i + 1))]) (by walk_at "uw.ea") sp_word
    have hl2 := ex_l e2 hl1
    refine s_retP (evp_pair (vs := [.str (nm c), .int (gI l 0), .ref t]) (v := .int (3 + 2 * gI l 1)) (by walk_at "uw.ea") (Nat.le_of_ble_eq_true rfl) (by walk_at "uw.ev")) fun v H3 e3 hq => k.go ((e1.trans e2).trans e3) (FndV.mk hq ?_)
    rcases hC with rfl | rfl
    · exact ⟨t, rfl, st_of (e3 t _ h2)⟩
    · exact ⟨t, rfl, st_of (e3 t _ h2)⟩
theorem ok_decode (T : Txt K mg CI CM) : FnG P w K mg base "decode" 3 ["data"] (spDec K) := by
  refine fnG_of T.d_decode sc_decode (fun _ _ _ _ _ _ us hl => match us, hl with | [_], _ => rfl) (fun vs H Q E h => ?_) fun f cdv A outer s H vs Q E hr h => ?_
  · obtain ⟨a, l, rfl, _⟩ := h
    rfl
  · obtain ⟨a, l, rfl, hl, hB, k⟩ := h
    have nd := sc_decode.nd
    have hu := hu_of hr
    refine ⟨_, (pss_cons (ps_if (PW.pt (pw_or (pt_not (pt_tru K (pv 0) (by intro _; rfl))) (pw_or1 (pt_not (pt_chain op_le op_le pe_int (pe_ix (ixl K) (pv 0) pe_int (fun _ _ => rfl)) pe_int))))) (pss_one (ps_ret pe_non)) pss_nil)
      (pss_cons (ps_set (i := 1) nd rfl (Or.inl rfl) (pe_ix (ixt K) (p_gr K (by rfl) T.g_NAMES) (pe_ix (ixl K) (pv 0) pe_int (fun _ _ => rfl)) (fun _ _ => rfl)))
      (pss_cons (ps_set (i := 2) nd rfl (Or.inl rfl) (pe_slice (sll K) (pv 0) (po_some pe_int) po_none))
      (pss_cons (ps_if (pt_cmpR (o_in K) (pv 1) (pe_tup (pa_cons pe_str (pa_cons pe_str pa_nil))) (by rfl)) (pss_one (ps_ret (pe_fn (ok_table_in T) (hr.mono (by decide)) (by rfl) (pa_cons (pv 1) (pa_cons (pv 2) pa_nil))))) pss_nil)
      (pss_cons (ps_if (PW.pt (pw_or (pt_cmpR (o_in K) (pv 1) (pe_tup (pa_cons pe_str (pa_cons pe_str (pa_cons pe_str pa_nil)))) (by rfl)) (pw_or1 (pt_cmpR (o_in K) (pv 1) (p_gr K (by rfl) T.g_OPERATIONS) (by rfl))))) (pss_one (ps_ret (pe_fn (ok_paired_in T) (hr.mono (by decide)) (by rfl) (pa_cons (pv 1) (pa_cons (pv 2) pa_nil))))) pss_nil)
      (pss_cons (ps_if (pt_cmpR (o_in K) (pv 1) (pe_tup (pa_cons pe_str (pa_cons pe_str (pa_cons pe_str (pa_cons pe_str (pa_cons pe_str (pa_cons pe_str (pa_cons pe_str (pa_cons pe_str pa_nil))))))))) (by rfl)) (pss_one (ps_ret (pe_fn (ok_single_in T) (hr.mono (by decide)) (by rfl) (pa_cons (pv 1) (pa_cons (pv 2) pa_nil))))) pss_nil)
      (pss_one (ps_ret (pe_fn (ok_plain_in T) (hr.mono (by decide)) (by rfl) (pa_cons (pv 1) (pa_cons (pv 2) pa_nil))))))))))), ?_⟩
    unfold dec at k
    have b0 := gI_by hB 0
    unfold By at b0
    refine q_when (b := (!(!decide (l.length < 1))) || !(decide (1 ≤ gI l 0) && decide (gI l 0 ≤ 31))) (et_or (by walk_at "uw.et") fun hz => ?tt) (fun hb H1 e1 => ?_) (fun hb H1 e1 => ?_)
    case tt =>
      have hz : ¬ l.length < 1 := by simpa using hz
      walk_at "uw.et"
    · refine s_ret (v := .non) (by walk_at "uw.ev") fun H2 e2 => k.go (e1.trans e2) ?_
      by_cases z : l.length < 1
      · rw [if_pos z] <;> rfl
      · rw [decide_eq_false z] at hb
        rw [if_neg z, if_pos] <;> first | rfl | (simp at hb; omega)
    have z1 : ¬ l.length < 1 := fun z => by rw [decide_eq_true z] at hb; cases hb
    rw [decide_eq_false z1] at hb
    have z2 : 1 ≤ gI l 0 ∧ gI l 0 ≤ 31 := by simpa using hb
    rw [if_neg z1, if_neg (fun q => q z2)] at k
    have hl1 := ex_l e1 hl
    refine q_asg (v := .str (nm (gI l 0).toNat)) (ev_ixGr (i := gI l 0) (by walk_at "uw.ev") (at_nm (by omega) (by omega))) fun H2 e2 => ?_
    have hl2 := ex_l e2 hl1
    refine q_asgL (xs := (l.drop 1).map V.int) ?sl fun r H3 hr3 e3 h3 => ?_
    case sl =>
      have := cut_drop l 1 (by decide)
      rw [show (1 : Int).toNat = 1 from rfl] at this
      rw [← this]
      walk_at "uw.el"
    have hB1 := bytes_drop hB 1
    generalize hc : (gI l 0).toNat = c at *
    generalize l.drop 1 = m at *
    have hc32 : c < 32 := by omega
    have hc1 : 1 ≤ c ∧ c < 32 := by omega
    unfold decC at k
    have hs3 : SqL K H3 r (m.map V.int) := sq_of h3
    refine q_when (b := decide (c ∈ [24, 26])) (et_is (by walk_at "uw.et") (in_nm (l := [24, 26]) hc32 (by decide))) (fun hb4 H4 e4 => ?_) (fun hb4 H4 e4 => ?_)
    · have hb4 : isT c := by simp at hb4; unfold isT; omega
      rw [if_pos hb4] at k
      exact s_retP (evp_call (vs := [.str (nm c), .ref r]) (by walk_at "uw.ea") (sp_fnd hb4 hc1 (ex_l e4 hs3) hB1)) fun v H5 e5 hv => k.go ((((e1.trans e2).trans e3).trans e4).trans e5) hv
    have hb4 : ¬ isT c := by simp at hb4; unfold isT; omega
    rw [if_neg hb4] at k
    have hs4 := ex_l e4 hs3
    refine q_when (b := decide (c ∈ [2, 14, 15]) || decide (c ∈ [3, 4, 5, 6, 7, 8, 9, 10, 11, 12, 13])) (et_or (et_is (by walk_at "uw.et") (in_nm (l := [2, 14, 15]) hc32 (by decide))) fun _ => (et_is (by walk_at "uw.et") ?in2)) (fun hb5 H5 e5 => ?_) (fun hb5 H5 e5 => ?_)
    case in2 =>
      have := in_nm (c := c) (l := [3, 4, 5, 6, 7, 8, 9, 10, 11, 12, 13]) hc32 (by decide)
      rw [← this]
      have h : ∀ c, c < 32 → inV (V.str (nm c)) (tab_OPERATIONS.map V.str) = inV (V.str (nm c)) ([3, 4, 5, 6, 7, 8, 9, 10, 11, 12, 13].map fun d => V.str (nm d)) := by decide +kernel
      exact h c hc32
    · have hb5 : isP c := by simp at hb5; unfold isP; omega
      rw [if_pos hb5] at k
      exact s_retP (evp_call (vs := [.str (nm c), .ref r]) (by walk_at "uw.ea") (sp_fnd hb5 hc1 (ex_l e5 hs4) hB1)) fun v H6 e6 hv => k.go (((((e1.trans e2).trans e3).trans e4).trans e5).trans e6) hv
    have hb5 : ¬ isP c := by simp at hb5; unfold isP; omega
    rw [if_neg hb5] at k
    have hs5 := ex_l e5 hs4
    refine q_when (b := decide (c ∈ [1, 16, 17, 18, 22, 23, 28, 29])) (et_is (by walk_at "uw.et") (in_nm (l := [1, 16, 17, 18, 22, 23, 28, 29]) hc32 (by decide))) (fun hb6 H6 e6 => ?_) (fun hb6 H6 e6 => ?_)
    · have hb6 : isS c := by simp at hb6; unfold isS; omega
      rw [if_pos hb6] at k
      exact s_retP (evp_call (vs := [.str (nm c), .ref r]) (by walk_at "uw.ea") (sp_fnd hb6 hc1 (ex_l e6 hs5) hB1)) fun v H7 e7 hv => k.go ((((((e1.trans e2).trans e3).trans e4).trans e5).trans e6).trans e7) hv
    have hb6 : ¬ isS c := by simp at hb6; unfold isS; omega
    rw [if_neg hb6] at k
    exact s_retP (evp_call (vs := [.str (nm c), .ref r]) (by walk_at "uw.ea") (sp_fnd ⟨hb4, hb5, hb6⟩ hc1 (ex_l e6 hs5) hB1)) fun v H7 e7 hv => k.go ((((((e1.trans e2).trans e3).trans e4).trans e5).trans e6).trans e7) hv
theorem ok_I_part (T : Txt K mg CI CM) : FnM P w K mg base CI "part" 1 ["self", "start", "size"] (spPart CI) := by
  refine fnM_of T.d_I_part sc_I_part (fun _ _ _ _ _ _ us hl => match us, hl with | [_, _, _], _ => rfl) (fun vs H Q E h => ?_) fun f cdv A outer s H vs Q E hr h => ?_
  · obtain ⟨im, dx, da, d, e, a, n, rfl, _⟩ := h
    rfl
  · obtain ⟨im, dx, da, d, e, a, n, rfl, I, h0, k⟩ := h
    have nd := sc_I_part.nd
    have hu := hu_of hr
    refine ⟨_, (pss_one (ps_ret (pe_slice (sll K) (p_fld K (pv 0) rfl) (po_some (pv 1)) (po_some (pe_op op_add (pv 1) (pv 2)))))), ?_⟩
    have hf : Ev (tFld K (tVar 0) "_data") (start nm_I_part [.ref im, .int a, .int (n : Int)]) H (.ref da) := ev_fld (ev_var rfl) I.ob T.clI T.aI_data (ifl_data da e)
    rw [← cut_part d a n h0] at k
    exact s_retL (el_sl (a := da) hf (eo_some (ev_var rfl)) (eo_some (ev_op (ev_var rfl) (ev_var rfl) rv_I0)) (sq_of I.da)) fun p H1 hp e1 h1 => k p H1 hp e1 h1
theorem ok_found_at (T : Txt K mg CI CM) : FnG P w K mg base "found_at" 4 ["image", "address"] (spFound K CI) := by
  refine fnG_of T.d_found_at sc_found_at (fun _ _ _ _ _ _ us hl => match us, hl with | [_, _], _ => rfl) (fun vs H Q E h => ?_) fun f cdv A outer s H vs Q E hr h => ?_
  · obtain ⟨im, dx, da, d, e, a, rfl, _⟩ := h
    rfl
  · obtain ⟨im, dx, da, d, e, a, rfl, I, h0, k⟩ := h
    have nd := sc_found_at.nd
    have hu := hu_of hr
    refine ⟨_, (pss_one (ps_ret (pe_fn (ok_decode T) (hr.mono (by decide)) (by rfl) (pa_cons (pe_mt (pv 0) T.clI (ok_I_part T) (hr.mono (by decide)) (pa_cons (pv 1) (pa_cons (pe_op op_add pe_int (pe_op op_mul pe_int (pe_gi (by rfl) T.g_MOST_TABLE))) pa_nil))) pa_nil)))), ?_⟩
    refine s_retP (evp_call1 (xs := ((d.drop a.toNat).take 35).map V.int) (el_meth (a := im) (ev_var rfl) I.ob (ifl_part da e) (vs := [.int a, .int ((35 : Nat) : Int)]) (ea_cons (ev_var rfl) (ea_cons (ev_is (v := .int (3 + 2 * 16)) (by walk_at "uw.ev") rfl) ea_nil)) (sp_part I h0)) fun p H1 e1 h1 => sp_dec (sq_of h1) (bytes_take (bytes_drop I.by_ _) _)) fun v H1 e1 hv => k.go e1 ?_
    rw [← dec_take (bytes_drop I.by_ _)]
    exact hv
theorem ok_instruction_at (T : Txt K mg CI CM) : FnG P w K mg base "instruction_at" 5 ["image", "address"] (spInsAt K CI) := by
  refine fnG_of T.d_instruction_at sc_instruction_at (fun _ _ _ _ _ _ us hl => match us, hl with | [_, _], _ => rfl) (fun vs H Q E h => ?_) fun f cdv A outer s H vs Q E hr h => ?_
  · obtain ⟨im, dx, da, d, e, a, rfl, _⟩ := h
    rfl
  · obtain ⟨im, dx, da, d, e, a, rfl, I, h0, k⟩ := h
    have nd := sc_instruction_at.nd
    have hu := hu_of hr
    refine ⟨_, (pss_cons (ps_set (i := 2) nd rfl (Or.inl rfl) (pe_fn (ok_found_at T) (hr.mono (by decide)) (by rfl) (pa_cons (pv 0) (pa_cons (pv 1) pa_nil))))
      (pss_cons (ps_if (pt_cmpR op_isN1 (pv 2) pe_non (nomark _)) (pss_one (ps_ret pe_non)) pss_nil)
      (pss_one (ps_ret (pe_ix (ixt K) (pv 2) pe_int (fun _ _ => rfl)))))), ?_⟩
    refine q_asgP (evp_call (vs := [.ref im, .int a]) (by walk_at "uw.ea") (sp_found (K := K) I h0)) fun v H1 e1 hv => ?_
    cases o : dec (d.drop a.toNat) with
    | none =>
      rw [o] at hv k
      obtain rfl : v = .non := hv
      refine q_when (b := true) (by walk_at "uw.et") (fun hb H2 e2 => ?_) (fun hb H2 e2 => by cases hb)
      exact s_ret (v := .non) (by walk_at "uw.ev") fun H3 e3 => k.go ((e1.trans e2).trans e3) rfl
    | some x =>
      obtain ⟨i, n⟩ := x
      rw [o] at hv k
      obtain ⟨p, q, xs, rfl, h1, h2, h3⟩ := hv
      refine q_when (b := false) (by walk_at "uw.et") (fun hb H2 e2 => by cases hb) (fun hb H2 e2 => ?_)
      have g1 := ex_t e2 h1
      exact s_ret (v := .ref q) (by walk_at "uw.ev") fun H3 e3 => k.go ((e1.trans e2).trans e3) ⟨q, xs, rfl, ex_t (e2.trans e3) h2, h3.ex (e2.trans e3)⟩
theorem ok_next_address (T : Txt K mg CI CM) : FnG P w K mg base "next_address" 5 ["image", "address"] (spNext CI) := by
  refine fnG_of T.d_next_address sc_next_address (fun _ _ _ _ _ _ us hl => match us, hl with | [_, _], _ => rfl) (fun vs H Q E h => ?_) fun f cdv A outer s H vs Q E hr h => ?_
  · obtain ⟨im, dx, da, d, e, a, rfl, _⟩ := h
    rfl
  · obtain ⟨im, dx, da, d, e, a, rfl, I, h0, k⟩ := h
    have nd := sc_next_address.nd
    have hu := hu_of hr
    refine ⟨_, (pss_cons (ps_set (i := 2) nd rfl (Or.inl rfl) (pe_fn (ok_found_at T) (hr.mono (by decide)) (by rfl) (pa_cons (pv 0) (pa_cons (pv 1) pa_nil))))
      (pss_cons (ps_if (pt_cmpR op_isN1 (pv 2) pe_non (nomark _)) (pss_one (ps_ret (pe_op op_add (pv 1) pe_int))) pss_nil)
      (pss_one (ps_ret (pe_op op_add (pv 1) (pe_ix (ixt K) (pv 2) pe_int (fun _ _ => rfl))))))), ?_⟩
    refine q_asgP (evp_call (vs := [.ref im, .int a]) (by walk_at "uw.ea") (sp_found (K := K) I h0)) fun v H1 e1 hv => ?_
    cases o : dec (d.drop a.toNat) with
    | none =>
      rw [o] at hv k
      obtain rfl : v = .non := hv
      refine q_when (b := true) (by walk_at "uw.et") (fun hb H2 e2 => ?_) (fun hb H2 e2 => by cases hb)
      exact s_ret (v := .int (a + 1)) (by walk_at "uw.ev") fun H3 e3 => k.go ((e1.trans e2).trans e3)
    | some x =>
      obtain ⟨i, n⟩ := x
      rw [o] at hv k
      obtain ⟨p, q, xs, rfl, h1, h2, h3⟩ := hv
      refine q_when (b := false) (by walk_at "uw.et") (fun hb H2 e2 => by cases hb) (fun hb H2 e2 => ?_)
      have g1 := ex_t e2 h1
      exact s_ret (v := .int (a + n)) (by walk_at "uw.ev") fun H3 e3 => k.go ((e1.trans e2).trans e3)
end

structure Chg (S : List Addr) (H H' : Hp) : Prop where
  keep : ∀ b o, H b = some o → b ∉ S → H' b = some o
  tups : ∀ b xs, H b = some (.tup xs) → H' b = some (.tup xs)
theorem Chg.of {S : List Addr} {H H' : Hp} (e : Ex H H') : Chg S H H' := ⟨fun b o h _ => e b o h, fun b xs h => e b _ h⟩
theorem Chg.trans {S : List Addr} {H H1 H2 : Hp} (a : Chg S H H1) (b : Chg S H1 H2) : Chg S H H2 := ⟨fun c o h n => b.keep c o (a.keep c o h n) n, fun c xs h => b.tups c xs (a.tups c xs h)⟩
theorem Chg.mono {S S' : List Addr} {H H1 : Hp} (a : Chg S H H1) (h : ∀ b ∈ S, b ∈ S') : Chg S' H H1 := ⟨fun c o e n => a.keep c o e fun z => n (h c z), a.tups⟩
theorem Chg.upd {S : List Addr} {H : Hp} {a : Addr} {o u : HO} (hm : a ∈ S) (ho : H a = some u) (hu : ∀ xs, u ≠ .tup xs) : Chg S H (upd H a o) := ⟨fun b v e n => by
    rw [upd_ne fun z => n (by rw [z]; exact hm)]
    exact e, fun b xs e => by
    rw [upd_ne fun z => hu xs (by rw [z, ho] at e; exact Option.some.inj e)]
    exact e⟩
def staV : Sta → List V
  | .run => [.str "running"] | .ended => [.str "ended"] | .halted => [.str "halted"]
  | .code => [.str "trapped", .str "code"] | .stack => [.str "trapped", .str "stack"] | .index => [.str "trapped", .str "index"] | .calls => [.str "trapped", .str "calls"] | .num k => [.str "trapped", .int k]
def staD : Sta → PyData
  | .run => .tuple [.str "running"] | .ended => .tuple [.str "ended"] | .halted => .tuple [.str "halted"]
  | .code => .tuple [.str "trapped", .str "code"] | .stack => .tuple [.str "trapped", .str "stack"] | .index => .tuple [.str "trapped", .str "index"] | .calls => .tuple [.str "trapped", .str "calls"] | .num k => .tuple [.str "trapped", .int k]
theorem staD_ok {K : PySem.W.Frag} {H : Hp} {p : Addr} (s : Sta) (h : SqT K H p (staV s)) : Dp K H (.ref p) (staD s) := by
  cases s with
  | num k => exact .tup h (.cons (.str _) (.cons (.int _) .nil))
  | code => exact .tup h (.cons (.str _) (.cons (.str _) .nil))
  | stack => exact .tup h (.cons (.str _) (.cons (.str _) .nil))
  | index => exact .tup h (.cons (.str _) (.cons (.str _) .nil))
  | calls => exact .tup h (.cons (.str _) (.cons (.str _) .nil))
  | _ => exact .tup h (.cons (.str _) .nil)
theorem staD_shaped (s : Sta) : SeqAt.shaped (staD s) = true := by
  cases s with
  | num k => kernel_rfl
  | _ => decide +kernel
theorem staD_run (s : Sta) : PyData.eqv (staD s) (staD .run) = decide (s = .run) := by
  cases s with
  | num k => rw [decide_eq_false (by intro z; cases z)]; kernel_rfl
  | _ => decide +kernel
theorem staD_refl (s : Sta) : PyData.eqv (staD s) (staD s) = true := SeqAt.eqv_refl _ (SeqAt.canLay_of_shaped (staD_shaped s))
def memV (l : List (Int × Int)) : List (Key × V) := l.map fun p => (Sum.inl p.1, V.int p.2)
theorem find_memV (l : List (Int × Int)) (a : Int) : ((memV l).find? fun kv => decide (kv.1 = (Sum.inl a : Key))) = (l.find? fun p => decide (p.1 = a)).map fun p => (Sum.inl p.1, V.int p.2) := by
  unfold memV
  induction l with
  | nil => rfl
  | cons p l ih =>
    rw [List.map_cons, List.find?_cons, List.find?_cons, ih]
    by_cases z : p.1 = a
    · have z' : (Sum.inl p.1 : Key) = Sum.inl a := by rw [z]
      rw [decide_eq_true z, decide_eq_true z'] <;> rfl
    · have z' : ¬ (Sum.inl p.1 : Key) = Sum.inl a := fun q => z (Sum.inl.inj q)
      rw [decide_eq_false z, decide_eq_false z']
theorem look_memV (l : List (Int × Int)) (a : Int) : (valV (memV l) (Sum.inl a : Key)).getD (.int 0) = .int (look l a) := by
  unfold valV look
  rw [find_memV]
  cases l.find? fun p => decide (p.1 = a) <;> rfl
theorem any_memV (l : List (Int × Int)) (a : Int) : ((memV l).any fun kv => decide (kv.1 = (Sum.inl a : Key))) = l.any fun p => decide (p.1 = a) := by
  unfold memV
  rw [List.any_map]
  congr 1
  funext p
  show decide ((Sum.inl p.1 : Key) = Sum.inl a) = decide (p.1 = a)
  by_cases z : p.1 = a
  · rw [z] <;> simp
  · rw [decide_eq_false z, decide_eq_false fun q => z (Sum.inl.inj q)]
theorem put_memV (l : List (Int × Int)) (a v : Int) : putK (memV l) (Sum.inl a : Key) (.int v) = memV (putM l a v) := by
  unfold putK putM
  rw [any_memV]
  split
  · unfold memV
    rw [List.map_map, List.map_map]
    refine List.map_congr_left fun p _ => ?_
    show (if (Sum.inl p.1 : Key) = Sum.inl a then ((Sum.inl p.1 : Key), V.int v) else (Sum.inl p.1, V.int p.2)) = (Sum.inl (if p.1 = a then (p.1, v) else p).1, V.int (if p.1 = a then (p.1, v) else p).2)
    by_cases z : p.1 = a
    · rw [if_pos (by rw [z]), if_pos z]
    · rw [if_neg fun q => z (Sum.inl.inj q), if_neg z]
  · unfold memV
    rw [List.map_append] <;> rfl
def mfl (im rg me ip : Addr) (tk : Int) (ou wa stt : Addr) (at_ sp n : Int) : List (Str × V) :=
  [("_image", .ref im), ("_registers", .ref rg), ("_memory", .ref me), ("_inputs", .ref ip), ("_taken", .int tk), ("_outputs", .ref ou), ("_waiting", .ref wa), ("_status", .ref stt), ("address", .int at_), ("sp", .int sp), ("steps", .int n)]
section
variable (im rg me ip : Addr) (tk : Int) (ou wa stt : Addr) (at_ sp n : Int)
theorem mfl_image : (mfl im rg me ip tk ou wa stt at_ sp n).lookup ("_image" : Str) = some (V.ref im) := by kernel_rfl
theorem mfl_registers : (mfl im rg me ip tk ou wa stt at_ sp n).lookup ("_registers" : Str) = some (V.ref rg) := by kernel_rfl
theorem mfl_memory : (mfl im rg me ip tk ou wa stt at_ sp n).lookup ("_memory" : Str) = some (V.ref me) := by kernel_rfl
theorem mfl_inputs : (mfl im rg me ip tk ou wa stt at_ sp n).lookup ("_inputs" : Str) = some (V.ref ip) := by kernel_rfl
theorem mfl_taken : (mfl im rg me ip tk ou wa stt at_ sp n).lookup ("_taken" : Str) = some (V.int tk) := by kernel_rfl
theorem mfl_outputs : (mfl im rg me ip tk ou wa stt at_ sp n).lookup ("_outputs" : Str) = some (V.ref ou) := by kernel_rfl
theorem mfl_waiting : (mfl im rg me ip tk ou wa stt at_ sp n).lookup ("_waiting" : Str) = some (V.ref wa) := by kernel_rfl
theorem mfl_status : (mfl im rg me ip tk ou wa stt at_ sp n).lookup ("_status" : Str) = some (V.ref stt) := by kernel_rfl
theorem mfl_address : (mfl im rg me ip tk ou wa stt at_ sp n).lookup ("address" : Str) = some (V.int at_) := by kernel_rfl
theorem mfl_sp : (mfl im rg me ip tk ou wa stt at_ sp n).lookup ("sp" : Str) = some (V.int sp) := by kernel_rfl
theorem mfl_steps : (mfl im rg me ip tk ou wa stt at_ sp n).lookup ("steps" : Str) = some (V.int n) := by kernel_rfl
theorem put_taken (x : Int) : putF "_taken" (.int x) (mfl im rg me ip tk ou wa stt at_ sp n) = mfl im rg me ip x ou wa stt at_ sp n := by kernel_rfl
theorem put_status (x : Addr) : putF "_status" (.ref x) (mfl im rg me ip tk ou wa stt at_ sp n) = mfl im rg me ip tk ou wa x at_ sp n := by kernel_rfl
theorem put_address (x : Int) : putF "address" (.int x) (mfl im rg me ip tk ou wa stt at_ sp n) = mfl im rg me ip tk ou wa stt x sp n := by kernel_rfl
theorem put_sp (x : Int) : putF "sp" (.int x) (mfl im rg me ip tk ou wa stt at_ sp n) = mfl im rg me ip tk ou wa stt at_ x n := by kernel_rfl
theorem put_steps (x : Int) : putF "steps" (.int x) (mfl im rg me ip tk ou wa stt at_ sp n) = mfl im rg me ip tk ou wa stt at_ sp x := by kernel_rfl
end
/-- the addresses, the bytes -/
structure MA where
  p : Addr
  dx : Addr
  im : Addr
  dxi : Addr
  da : Addr
  rg : Addr
  me : Addr
  ip : Addr
  ou : Addr
  wa : Addr
  d : List Int
  ent : Int
def MA.all (a : MA) : List Addr := [a.p, a.im, a.da, a.rg, a.me, a.ip, a.ou, a.wa]
def MA.mut (a : MA) : List Addr := [a.p, a.rg, a.me, a.ou, a.wa]
structure MOk (CI CM : Addr) (a : MA) (H : Hp) (m : M) : Prop where
  img : ImgOk CI H a.im a.dxi a.da a.d a.ent
  st : ∃ stt, H a.p = some (.ins CM a.dx (mfl a.im a.rg a.me a.ip (m.tk : Int) a.ou a.wa stt m.at_ m.sp m.n)) ∧ H stt = some (.tup (staV m.st))
  rg : H a.rg = some (.lst (m.regs.map V.int))
  me : H a.me = some (.dK (memV m.mem))
  ip : H a.ip = some (.lst (m.inp.map V.int))
  ou : H a.ou = some (.lst (m.out.map V.int))
  wa : H a.wa = some (.lst (m.wait.map V.int))
  nd : a.all.Nodup
section
variable {CI CM : Addr} {a : MA} {H H' : Hp} {m : M}
theorem MOk.ex (h : MOk CI CM a H m) (e : Ex H H') : MOk CI CM a H' m :=
  ⟨h.img.ex e, let ⟨s, h1, h2⟩ := h.st; ⟨s, e _ _ h1, e _ _ h2⟩, e _ _ h.rg, e _ _ h.me, e _ _ h.ip, e _ _ h.ou, e _ _ h.wa, h.nd⟩
theorem MOk.chg {S : List Addr} (h : MOk CI CM a H m) (e : Chg S H H') (n : ∀ b ∈ a.all, b ∉ S) : MOk CI CM a H' m := by
  obtain ⟨s, h1, h2⟩ := h.st
  have k : ∀ b o, b ∈ a.all → H b = some o → H' b = some o := fun b o hb ho => e.keep b o ho (n b hb)
  exact ⟨⟨k _ _ (by simp [MA.all]) h.img.ob, k _ _ (by simp [MA.all]) h.img.da, h.img.by_⟩, ⟨s, k _ _ (by simp [MA.all]) h1, e.tups _ _ h2⟩, k _ _ (by simp [MA.all]) h.rg, k _ _ (by simp [MA.all]) h.me, k _ _ (by simp [MA.all]) h.ip, k _ _ (by simp [MA.all]) h.ou, k _ _ (by simp [MA.all]) h.wa, h.nd⟩
/-- the object itself is written -/
theorem MOk.updP (h : MOk CI CM a H m) {m' : M} {s' : Addr} (h1 : m'.regs = m.regs) (h2 : m'.mem = m.mem) (h3 : m'.inp = m.inp) (h4 : m'.out = m.out) (h5 : m'.wait = m.wait) (hs : H s' = some (.tup (staV m'.st))) :
    MOk CI CM a (upd H a.p (.ins CM a.dx (mfl a.im a.rg a.me a.ip (m'.tk : Int) a.ou a.wa s' m'.at_ m'.sp m'.n))) m' ∧ Chg a.mut H (upd H a.p (.ins CM a.dx (mfl a.im a.rg a.me a.ip (m'.tk : Int) a.ou a.wa s' m'.at_ m'.sp m'.n))) := by
  obtain ⟨s, g1, g2⟩ := h.st
  have nd := h.nd
  simp only [MA.all, List.nodup_cons, List.mem_cons, not_or, List.not_mem_nil, not_false_eq_true, and_true, true_and, List.nodup_nil] at nd
  obtain ⟨⟨n1, n2, n3, n4, n5, n6, n7⟩, _⟩ := nd
  refine ⟨⟨⟨by rw [upd_ne (Ne.symm n1)]; exact h.img.ob, by rw [upd_ne (Ne.symm n2)]; exact h.img.da, h.img.by_⟩, ⟨s', upd_same, ?_⟩, by rw [h1, upd_ne (Ne.symm n3)]; exact h.rg, by rw [h2, upd_ne (Ne.symm n4)]; exact h.me, by rw [h3, upd_ne (Ne.symm n5)]; exact h.ip, by rw [h4, upd_ne (Ne.symm n6)]; exact h.ou, by rw [h5, upd_ne (Ne.symm n7)]; exact h.wa, h.nd⟩,
    Chg.upd (by simp [MA.mut]) g1 (by intro xs z; cases z)⟩
  rw [upd_ne (ne_of hs g1 (by intro z; cases z))]
  exact hs
/-- a list or the dict is written -/
theorem MOk.updR (h : MOk CI CM a H m) (r : List Int) : MOk CI CM a (upd H a.rg (.lst (r.map V.int))) { m with regs := r } ∧ Chg a.mut H (upd H a.rg (.lst (r.map V.int))) := by
  obtain ⟨s, g1, g2⟩ := h.st
  have nd := h.nd
  simp only [MA.all, List.nodup_cons, List.mem_cons, not_or, List.not_mem_nil, not_false_eq_true, and_true, true_and, List.nodup_nil] at nd
  obtain ⟨⟨n1, n2, n3, n4, n5, n6, n7⟩, ⟨m1, m2, m3, m4, m5, m6⟩, ⟨k1, k2, k3, k4, k5⟩, ⟨l1, l2, l3, l4⟩, _⟩ := nd
  refine ⟨⟨⟨by rw [upd_ne m2]; exact h.img.ob, by rw [upd_ne k1]; exact h.img.da, h.img.by_⟩, ⟨s, by rw [upd_ne n3]; exact g1, by rw [upd_ne (ne_of g2 h.rg (by intro z; cases z))]; exact g2⟩, upd_same, by rw [upd_ne (Ne.symm l1)]; exact h.me, by rw [upd_ne (Ne.symm l2)]; exact h.ip, by rw [upd_ne (Ne.symm l3)]; exact h.ou, by rw [upd_ne (Ne.symm l4)]; exact h.wa, h.nd⟩,
    Chg.upd (by simp [MA.mut]) h.rg (by intro xs z; cases z)⟩
theorem MOk.updM (h : MOk CI CM a H m) (r : List (Int × Int)) : MOk CI CM a (upd H a.me (.dK (memV r))) { m with mem := r } ∧ Chg a.mut H (upd H a.me (.dK (memV r))) := by
  obtain ⟨s, g1, g2⟩ := h.st
  have nd := h.nd
  simp only [MA.all, List.nodup_cons, List.mem_cons, not_or, List.not_mem_nil, not_false_eq_true, and_true, true_and, List.nodup_nil] at nd
  obtain ⟨⟨n1, n2, n3, n4, n5, n6, n7⟩, ⟨m1, m2, m3, m4, m5, m6⟩, ⟨k1, k2, k3, k4, k5⟩, ⟨l1, l2, l3, l4⟩, ⟨j1, j2, j3⟩, _⟩ := nd
  refine ⟨⟨⟨by rw [upd_ne m3]; exact h.img.ob, by rw [upd_ne k2]; exact h.img.da, h.img.by_⟩, ⟨s, by rw [upd_ne n4]; exact g1, by rw [upd_ne (ne_of g2 h.me (by intro z; cases z))]; exact g2⟩, by rw [upd_ne l1]; exact h.rg, upd_same, by rw [upd_ne (Ne.symm j1)]; exact h.ip, by rw [upd_ne (Ne.symm j2)]; exact h.ou, by rw [upd_ne (Ne.symm j3)]; exact h.wa, h.nd⟩,
    Chg.upd (by simp [MA.mut]) h.me (by intro xs z; cases z)⟩
theorem MOk.updO (h : MOk CI CM a H m) (r : List Int) : MOk CI CM a (upd H a.ou (.lst (r.map V.int))) { m with out := r } ∧ Chg a.mut H (upd H a.ou (.lst (r.map V.int))) := by
  obtain ⟨s, g1, g2⟩ := h.st
  have nd := h.nd
  simp only [MA.all, List.nodup_cons, List.mem_cons, not_or, List.not_mem_nil, not_false_eq_true, and_true, true_and, List.nodup_nil] at nd
  obtain ⟨⟨n1, n2, n3, n4, n5, n6, n7⟩, ⟨m1, m2, m3, m4, m5, m6⟩, ⟨k1, k2, k3, k4, k5⟩, ⟨l1, l2, l3, l4⟩, ⟨j1, j2, j3⟩, ⟨i1, i2⟩, o1⟩ := nd
  refine ⟨⟨⟨by rw [upd_ne m5]; exact h.img.ob, by rw [upd_ne k4]; exact h.img.da, h.img.by_⟩, ⟨s, by rw [upd_ne n6]; exact g1, by rw [upd_ne (ne_of g2 h.ou (by intro z; cases z))]; exact g2⟩, by rw [upd_ne l3]; exact h.rg, by rw [upd_ne j2]; exact h.me, by rw [upd_ne i1]; exact h.ip, upd_same, by rw [upd_ne (Ne.symm o1)]; exact h.wa, h.nd⟩,
    Chg.upd (by simp [MA.mut]) h.ou (by intro xs z; cases z)⟩
theorem MOk.updW (h : MOk CI CM a H m) (r : List Int) : MOk CI CM a (upd H a.wa (.lst (r.map V.int))) { m with wait := r } ∧ Chg a.mut H (upd H a.wa (.lst (r.map V.int))) := by
  obtain ⟨s, g1, g2⟩ := h.st
  have nd := h.nd
  simp only [MA.all, List.nodup_cons, List.mem_cons, not_or, List.not_mem_nil, not_false_eq_true, and_true, true_and, List.nodup_nil] at nd
  obtain ⟨⟨n1, n2, n3, n4, n5, n6, n7⟩, ⟨m1, m2, m3, m4, m5, m6⟩, ⟨k1, k2, k3, k4, k5⟩, ⟨l1, l2, l3, l4⟩, ⟨j1, j2, j3⟩, ⟨i1, i2⟩, o1⟩ := nd
  refine ⟨⟨⟨by rw [upd_ne m6]; exact h.img.ob, by rw [upd_ne k5]; exact h.img.da, h.img.by_⟩, ⟨s, by rw [upd_ne n7]; exact g1, by rw [upd_ne (ne_of g2 h.wa (by intro z; cases z))]; exact g2⟩, by rw [upd_ne l4]; exact h.rg, by rw [upd_ne j3]; exact h.me, by rw [upd_ne i2]; exact h.ip, by rw [upd_ne o1]; exact h.ou, upd_same, h.nd⟩,
    Chg.upd (by simp [MA.mut]) h.wa (by intro xs z; cases z)⟩
variable {K : PySem.W.Frag} {mg : Str → Option Value} {σ : L2.St} {te ta tv : TE} {D : Ends}
theorem evM_image (h : Ev te σ H (.ref a.p)) (M : MOk CI CM a H m) (T : Txt K mg CI CM) : Ev (tFld K te "_image") σ H (.ref a.im) := let ⟨_, g, _⟩ := M.st; ev_fld h g T.clM T.aM_image (mfl_image ..)
theorem evM_registers (h : Ev te σ H (.ref a.p)) (M : MOk CI CM a H m) (T : Txt K mg CI CM) : Ev (tFld K te "_registers") σ H (.ref a.rg) := let ⟨_, g, _⟩ := M.st; ev_fld h g T.clM T.aM_registers (mfl_registers ..)
theorem evM_memory (h : Ev te σ H (.ref a.p)) (M : MOk CI CM a H m) (T : Txt K mg CI CM) : Ev (tFld K te "_memory") σ H (.ref a.me) := let ⟨_, g, _⟩ := M.st; ev_fld h g T.clM T.aM_memory (mfl_memory ..)
theorem evM_inputs (h : Ev te σ H (.ref a.p)) (M : MOk CI CM a H m) (T : Txt K mg CI CM) : Ev (tFld K te "_inputs") σ H (.ref a.ip) := let ⟨_, g, _⟩ := M.st; ev_fld h g T.clM T.aM_inputs (mfl_inputs ..)
theorem evM_taken (h : Ev te σ H (.ref a.p)) (M : MOk CI CM a H m) (T : Txt K mg CI CM) : Ev (tFld K te "_taken") σ H (.int (m.tk : Int)) := let ⟨_, g, _⟩ := M.st; ev_fld h g T.clM T.aM_taken (mfl_taken ..)
theorem evM_outputs (h : Ev te σ H (.ref a.p)) (M : MOk CI CM a H m) (T : Txt K mg CI CM) : Ev (tFld K te "_outputs") σ H (.ref a.ou) := let ⟨_, g, _⟩ := M.st; ev_fld h g T.clM T.aM_outputs (mfl_outputs ..)
theorem evM_waiting (h : Ev te σ H (.ref a.p)) (M : MOk CI CM a H m) (T : Txt K mg CI CM) : Ev (tFld K te "_waiting") σ H (.ref a.wa) := let ⟨_, g, _⟩ := M.st; ev_fld h g T.clM T.aM_waiting (mfl_waiting ..)
theorem evM_status (h : Ev te σ H (.ref a.p)) (M : MOk CI CM a H m) (T : Txt K mg CI CM) : ∃ s, Ev (tFld K te "_status") σ H (.ref s) ∧ H s = some (.tup (staV m.st)) := let ⟨s, g, g2⟩ := M.st; ⟨s, ev_fld h g T.clM T.aM_status (mfl_status ..), g2⟩
theorem evM_address (h : Ev te σ H (.ref a.p)) (M : MOk CI CM a H m) (T : Txt K mg CI CM) : Ev (tFld K te "address") σ H (.int m.at_) := let ⟨_, g, _⟩ := M.st; ev_fld h g T.clM T.aM_address (mfl_address ..)
theorem evM_sp (h : Ev te σ H (.ref a.p)) (M : MOk CI CM a H m) (T : Txt K mg CI CM) : Ev (tFld K te "sp") σ H (.int m.sp) := let ⟨_, g, _⟩ := M.st; ev_fld h g T.clM T.aM_sp (mfl_sp ..)
theorem evM_steps (h : Ev te σ H (.ref a.p)) (M : MOk CI CM a H m) (T : Txt K mg CI CM) : Ev (tFld K te "steps") σ H (.int m.n) := let ⟨_, g, _⟩ := M.st; ev_fld h g T.clM T.aM_steps (mfl_steps ..)
theorem sM_address {v : Int} (hv : Ev tv σ H (.int v)) (ha : Ev ta σ H (.ref a.p)) (M : MOk CI CM a H m) (T : Txt K mg CI CM) (k : ∀ H', MOk CI CM a H' { m with at_ := v } → Chg a.mut H H' → D.nx σ H') : sFld K ta tv "address" D σ H := by
  obtain ⟨s, g, g2⟩ := M.st
  refine s_fld hv ha g T.clM T.aM_address (by show 11 < 1000; decide) fun H1 e1 => ?_
  rw [put_address]
  obtain ⟨q1, q2⟩ := (M.ex e1).updP (m' := { m with at_ := v }) rfl rfl rfl rfl rfl (e1 _ _ g2)
  exact k _ q1 ((Chg.of e1).trans q2)
theorem sM_sp {v : Int} (hv : Ev tv σ H (.int v)) (ha : Ev ta σ H (.ref a.p)) (M : MOk CI CM a H m) (T : Txt K mg CI CM) (k : ∀ H', MOk CI CM a H' { m with sp := v } → Chg a.mut H H' → D.nx σ H') : sFld K ta tv "sp" D σ H := by
  obtain ⟨s, g, g2⟩ := M.st
  refine s_fld hv ha g T.clM T.aM_sp (by show 11 < 1000; decide) fun H1 e1 => ?_
  rw [put_sp]
  obtain ⟨q1, q2⟩ := (M.ex e1).updP (m' := { m with sp := v }) rfl rfl rfl rfl rfl (e1 _ _ g2)
  exact k _ q1 ((Chg.of e1).trans q2)
theorem sM_status {s' : Sta} (hv : EvU tv σ H (staV s')) (ha : ∀ H1, Ex H H1 → Ev ta σ H1 (.ref a.p)) (M : MOk CI CM a H m) (T : Txt K mg CI CM) (k : ∀ H', MOk CI CM a H' { m with st := s' } → Chg a.mut H H' → D.nx σ H') : sFld K ta tv "_status" D σ H := by
  obtain ⟨s, g, g2⟩ := M.st
  refine s_fldP (eu_p hv) ha g T.clM T.aM_status (by show 11 < 1000; decide) fun v H1 H2 e1 hp e2 => ?_
  obtain ⟨p, rfl, hp, h1⟩ := hp
  rw [put_status]
  obtain ⟨q1, q2⟩ := (M.ex (e1.trans e2)).updP (m' := { m with st := s' }) (s' := p) rfl rfl rfl rfl rfl (e2 _ _ h1)
  exact k _ q1 ((Chg.of (e1.trans e2)).trans q2)
theorem sM_taken (ha : Ev ta σ H (.ref a.p)) (hv : Ev tv σ H (.int 1)) (M : MOk CI CM a H m) (T : Txt K mg CI CM) (k : ∀ H', MOk CI CM a H' { m with tk := m.tk + 1 } → Chg a.mut H H' → D.nx σ H') : sFldAug K ta tv rAdd "_taken" D σ H := by
  obtain ⟨s, g, g2⟩ := M.st
  refine s_fldaug ha g T.clM T.aM_taken (mfl_taken ..) hv (by show 11 < 1000; decide) fun H1 e1 => ?_
  rw [put_taken]
  obtain ⟨q1, q2⟩ := (M.ex e1).updP (m' := { m with tk := m.tk + 1 }) rfl rfl rfl rfl rfl (e1 _ _ g2)
  exact k _ q1 ((Chg.of e1).trans q2)
theorem sM_steps (ha : Ev ta σ H (.ref a.p)) (hv : Ev tv σ H (.int 1)) (M : MOk CI CM a H m) (T : Txt K mg CI CM) (k : ∀ H', MOk CI CM a H' { m with n := m.n + 1 } → Chg a.mut H H' → D.nx σ H') : sFldAug K ta tv rAdd "steps" D σ H := by
  obtain ⟨s, g, g2⟩ := M.st
  refine s_fldaug ha g T.clM T.aM_steps (mfl_steps ..) hv (by show 11 < 1000; decide) fun H1 e1 => ?_
  rw [put_steps]
  obtain ⟨q1, q2⟩ := (M.ex e1).updP (m' := { m with n := m.n + 1 }) rfl rfl rfl rfl rfl (e1 _ _ g2)
  exact k _ q1 ((Chg.of e1).trans q2)
/-- a register -/
theorem at_rg {r : Int} (hl : m.regs.length = 8) (hr : Rg r) : atI (m.regs.map V.int) r = some (.int (m.rg r)) := at_gI hr.1 (by rw [hl]; exact hr.2)
theorem s_setLI {tb : TE} {l : Addr} {xs : List Int} {j v : Int} (hl : H l = some (.lst (xs.map V.int))) (h : Ev te σ H (.int v)) (ho : Ev ta σ H (.ref l)) (hi : Ev tb σ H (.int j)) (h0 : 0 ≤ j) (hj : j < (xs.length : Int)) (k : ∀ H1, Ex H H1 → D.nx σ (upd H1 l (.lst ((xs.set j.toNat v).map V.int)))) :
    tAsg te (gSub ta tb rSetL) D σ H := by
  refine s_setL (j := j.toNat) hl h ho (by rw [Int.toNat_of_nonneg h0]; exact hi) (by rw [List.length_map]; omega) fun H1 e1 => ?_
  rw [← List.map_set]
  exact k H1 e1
theorem sM_reg {tb : TE} {r v : Int} (M : MOk CI CM a H m) (hl : m.regs.length = 8) (hr : Rg r) (h : Ev te σ H (.int v)) (ho : Ev ta σ H (.ref a.rg)) (hi : Ev tb σ H (.int r)) (k : ∀ H', MOk CI CM a H' (m.setR r v) → Chg a.mut H H' → D.nx σ H') : tAsg te (gSub ta tb rSetL) D σ H := by
  refine s_setLI M.rg h ho hi hr.1 (by rw [hl]; exact hr.2) fun H1 e1 => ?_
  obtain ⟨q1, q2⟩ := (M.ex e1).updR (m.regs.set r.toNat v)
  exact k _ q1 ((Chg.of e1).trans q2)
end
theorem et_nm {σ : L2.St} {H : Hp} {t : TT} {c d : Nat} {b : Bool} (h : EvT t σ H (decide (V.str (nm c) = V.str (nm d)))) (hc : c < 32) (hd : d < 32) (e : decide (c = d) = b) : EvT t σ H b := by
  rw [← e, ← nm_eq hc hd]
  exact h
theorem et_nmI {σ : L2.St} {H : Hp} {t : TT} {c : Nat} (l : List Nat) {b : Bool} (h : EvT t σ H (inV (V.str (nm c)) (l.map fun d => V.str (nm d)))) (hc : c < 32) (hl : ∀ d ∈ l, d < 32) (e : decide (c ∈ l) = b) : EvT t σ H b := by
  rw [← e, ← in_nm hc hl]
  exact h
section
variable {σ : L2.St} {H : Hp} {t : TT} {tu tw tz : TS} {D : Ends}
theorem q_no (h : EvT t σ H false) (k : ∀ H1, Ex H H1 → tz D σ H1) : tSeq (tIfS t tu tNext) tz D σ H := q_when h (fun z => by cases z) fun _ => k
theorem s_no (h : EvT t σ H false) (k : ∀ H1, Ex H H1 → tw D σ H1) : tIfS t tu tw D σ H := s_if h (fun z => by cases z) fun _ => k
theorem s_yes (h : EvT t σ H true) (k : ∀ H1, Ex H H1 → tu D σ H1) : tIfS t tu tw D σ H := s_if h (fun _ => k) (fun z => by cases z)
end

local macro_rules | `(tactic| walk_at "uw.sq") => `(tactic| first
  | with_reducible exact sq_of (MOk.rg (by with_reducible assumption))
  | with_reducible exact sq_of (MOk.ip (by with_reducible assumption))
  | with_reducible exact sq_of (MOk.ou (by with_reducible assumption))
  | with_reducible exact sq_of (MOk.wa (by with_reducible assumption)))
local macro_rules | `(tactic| walk_at "uw.at") => `(tactic| first
  | with_reducible exact at_rg (by with_reducible assumption) (by with_reducible assumption))
local macro_rules | `(tactic| walk_at "uw.ev") => `(tactic| first
  | ((with_reducible refine' evM_registers ?a ?b ?c); (case b => with_reducible assumption); (case c => with_reducible assumption); (case a => walk_at "uw.ev"))
  | ((with_reducible refine' evM_image ?a ?b ?c); (case b => with_reducible assumption); (case c => with_reducible assumption); (case a => walk_at "uw.ev"))
  | ((with_reducible refine' evM_memory ?a ?b ?c); (case b => with_reducible assumption); (case c => with_reducible assumption); (case a => walk_at "uw.ev"))
  | ((with_reducible refine' evM_inputs ?a ?b ?c); (case b => with_reducible assumption); (case c => with_reducible assumption); (case a => walk_at "uw.ev"))
  | ((with_reducible refine' evM_taken ?a ?b ?c); (case b => with_reducible assumption); (case c => with_reducible assumption); (case a => walk_at "uw.ev"))
  | ((with_reducible refine' evM_outputs ?a ?b ?c); (case b => with_reducible assumption); (case c => with_reducible assumption); (case a => walk_at "uw.ev"))
  | ((with_reducible refine' evM_waiting ?a ?b ?c); (case b => with_reducible assumption); (case c => with_reducible assumption); (case a => walk_at "uw.ev"))
  | ((with_reducible refine' evM_address ?a ?b ?c); (case b => with_reducible assumption); (case c => with_reducible assumption); (case a => walk_at "uw.ev"))
  | ((with_reducible refine' evM_sp ?a ?b ?c); (case b => with_reducible assumption); (case c => with_reducible assumption); (case a => walk_at "uw.ev"))
  | ((with_reducible refine' evM_steps ?a ?b ?c); (case b => with_reducible assumption); (case c => with_reducible assumption); (case a => walk_at "uw.ev")))
def RetM (CI CM : Addr) (a : MA) (m' : M) (H : Hp) (Q : VK) (v : V) : Prop := ∀ H', MOk CI CM a H' m' → Chg a.mut H H' → Q v H'
def spTrap (CI CM : Addr) : Sp := fun vs H Q _ => ∃ (a : MA) (m : M) (s : Sta) (v : V), vs = [.ref a.p, v] ∧ staV s = [.str "trapped", v] ∧ MOk CI CM a H m ∧ RetM CI CM a { m with st := s } H Q .non
def spRead (CI CM : Addr) : Sp := fun vs H Q _ => ∃ (a : MA) (m : M) (x : Int), vs = [.ref a.p, .int x] ∧ MOk CI CM a H m ∧ RetV (.int (look m.mem x)) H Q
def spTaken (CI CM : Addr) : Sp := fun vs H Q _ => ∃ (a : MA) (m : M), vs = [.ref a.p] ∧ MOk CI CM a H m ∧ m.tk ≤ m.inp.length ∧ RetM CI CM a { m with tk := if m.tk = m.inp.length then m.tk else m.tk + 1 } H Q (.int (inM m))
def spAc (K : PySem.W.Frag) (CI CM : Addr) : Sp := fun vs H Q _ => ∃ (a : MA) (m : M) (b : Nat) (q : Addr) (xs : List V) (i : Ins), vs = [.ref a.p, .ref q] ∧ SqT K H q xs ∧ InsP K H i xs ∧ i.Ok ∧ isAc i.code = true ∧ MOk CI CM a H m ∧ m.Wf b ∧ b ≤ 5000 ∧ RetM CI CM a (acM i m) H Q .non
def spSh (K : PySem.W.Frag) (CI CM : Addr) : Sp := fun vs H Q _ => ∃ (a : MA) (m : M) (q : Addr) (xs : List V) (i : Ins) (beh : Int), vs = [.ref a.p, .ref q, .int beh] ∧ SqT K H q xs ∧ InsP K H i xs ∧ i.Ok ∧ isSh i.code = true ∧ MOk CI CM a H m ∧ RetM CI CM a (shM i beh m) H Q .non
def spGo (K : PySem.W.Frag) (CI CM : Addr) (C : Nat → Bool) : Sp := fun vs H Q _ => ∃ (a : MA) (m : M) (b : Nat) (q : Addr) (xs : List V) (i : Ins) (beh : Int), vs = [.ref a.p, .ref q, .int beh] ∧ SqT K H q xs ∧ InsP K H i xs ∧ i.Ok ∧ C i.code = true ∧ MOk CI CM a H m ∧ m.Wf b ∧ RetM CI CM a (goM i beh m) H Q .non
def isEn (c : Nat) : Bool := decide (c ∈ [24, 25, 26])
section
variable {CI CM : Addr} {a : MA} {H H' : Hp} {m : M} {K : PySem.W.Frag} {mg : Str → Option Value} {σ : L2.St} {te ta tv td ty : TE} {D : Ends}
theorem mfl_meth {im rg me ip : Addr} {tk : Int} {ou wa stt : Addr} {at_ sp n : Int} (f : Str) (h : ("_image" : Str) ≠ f ∧ ("_registers" : Str) ≠ f ∧ ("_memory" : Str) ≠ f ∧ ("_inputs" : Str) ≠ f ∧ ("_taken" : Str) ≠ f ∧ ("_outputs" : Str) ≠ f ∧ ("_waiting" : Str) ≠ f ∧ ("_status" : Str) ≠ f ∧ ("address" : Str) ≠ f ∧ ("sp" : Str) ≠ f ∧ ("steps" : Str) ≠ f) : (mfl im rg me ip tk ou wa stt at_ sp n).lookup f = none := by
  obtain ⟨h1, h2, h3, h4, h5, h6, h7, h8, h9, h10, h11⟩ := h
  have e : ∀ {g : Str}, g ≠ f → (f == g) = false := fun q => beq_eq_false_iff_ne.mpr (Ne.symm q)
  simp only [mfl, List.lookup, e h1, e h2, e h3, e h4, e h5, e h6, e h7, e h8, e h9, e h10, e h11]
theorem sp_read {x : Int} (M : MOk CI CM a H m) : SpV (spRead CI CM) (.ref a.p :: ([.int x] ++ [])) H (.int (look m.mem x)) := fun H1 e Q q E => ⟨a, m, x, rfl, M.ex e, q⟩
theorem sM_mem {kk v : Int} (M : MOk CI CM a H m) (hz : m.mem.length < 100000) (hv : Ev tv σ H (.int v)) (hd : Ev td σ H (.ref a.me)) (hk : Ev ty σ H (.int kk)) (k : ∀ H', MOk CI CM a H' { m with mem := putM m.mem kk v } → Chg a.mut H H' → D.nx σ H') : sDPut td ty tv D σ H := by
  refine s_dput (kk := Sum.inl kk) hv hd hk M.me (by unfold memV; rw [List.length_map]; exact hz) fun H1 e1 => ?_
  rw [put_memV]
  obtain ⟨q1, q2⟩ := (M.ex e1).updM (putM m.mem kk v)
  exact k _ q1 ((Chg.of e1).trans q2)
/-- a call for its effect -/
theorem s_call {C a' dx : Addr} {fs : List (Str × V)} {f : Str} {sp : Sp} {dvs vs : List V} {E : XK} {t : TA} (h : Ev ta σ H (.ref a')) (ho : H a' = some (.ins C dx fs)) (hl : fs.lookup f = none) (ha : EvA t σ H vs)
    (k : ∀ H1, Ex H H1 → sp (.ref a' :: (vs ++ dvs)) H1 (fun _ H2 => D.nx σ H2) E) : tDrop (tMeth C f sp dvs E ta t) D σ H := h H (Ex.refl H) _ fun H1 e1 => ⟨a', dx, fs, rfl, e1 _ _ ho, hl, ha H1 e1 _ fun H2 e2 => k H2 (e1.trans e2)⟩
end
theorem dec_nat (a b : Nat) : decide (V.int (a : Int) = V.int (b : Int)) = decide (a = b) := by
  rw [dec_int]
  by_cases z : a = b
  · rw [decide_eq_true z, z, beq_self_eq_true]
  · rw [decide_eq_false z]
    exact beq_eq_false_iff_ne.mpr fun h => z (Int.ofNat.inj h)
theorem nmeth_trap : ("_image" : Str) ≠ "trap" ∧ ("_registers" : Str) ≠ "trap" ∧ ("_memory" : Str) ≠ "trap" ∧ ("_inputs" : Str) ≠ "trap" ∧ ("_taken" : Str) ≠ "trap" ∧ ("_outputs" : Str) ≠ "trap" ∧ ("_waiting" : Str) ≠ "trap" ∧ ("_status" : Str) ≠ "trap" ∧ ("address" : Str) ≠ "trap" ∧ ("sp" : Str) ≠ "trap" ∧ ("steps" : Str) ≠ "trap" := by decide +kernel
theorem nmeth_read : ("_image" : Str) ≠ "read" ∧ ("_registers" : Str) ≠ "read" ∧ ("_memory" : Str) ≠ "read" ∧ ("_inputs" : Str) ≠ "read" ∧ ("_taken" : Str) ≠ "read" ∧ ("_outputs" : Str) ≠ "read" ∧ ("_waiting" : Str) ≠ "read" ∧ ("_status" : Str) ≠ "read" ∧ ("address" : Str) ≠ "read" ∧ ("sp" : Str) ≠ "read" ∧ ("steps" : Str) ≠ "read" := by decide +kernel
section
variable {P : Program} {w : World} {K : PySem.W.Frag} {mg : Str → Option Value} {base : Heap} {CI CM : Addr}
theorem ok_M_trap (T : Txt K mg CI CM) : FnM P w K mg base CM "trap" 1 ["self", "reason"] (spTrap CI CM) := by
  refine fnM_of T.d_M_trap sc_M_trap (fun _ _ _ _ _ _ us hl => match us, hl with | [_, _], _ => rfl) (fun vs H Q E h => ?_) fun f cdv A outer s H vs Q E hr h => ?_
  · obtain ⟨a, m, s0, v, rfl, _⟩ := h
    rfl
  · obtain ⟨a, m, s0, v, rfl, hs, M, k⟩ := h
    have nd := sc_M_trap.nd
    have hu := hu_of hr
    refine ⟨_, (pss_one (s_fld_ K (pv 0) (pe_tup (pa_cons pe_str (pa_cons (pv 1) pa_nil))) rfl)), ?_⟩
    refine sM_status (s' := s0) ?_ (fun H1 e1 => ev_var rfl) M T fun H' M' c => k H' M' c
    rw [hs]
    exact eu_tup (ea_cons ev_c (ea_cons (ev_var rfl) ea_nil)) (Nat.le_of_ble_eq_true rfl)
theorem ok_M_read (T : Txt K mg CI CM) : FnM P w K mg base CM "read" 1 ["self", "address"] (spRead CI CM) := by
  refine fnM_of T.d_M_read sc_M_read (fun _ _ _ _ _ _ us hl => match us, hl with | [_, _], _ => rfl) (fun vs H Q E h => ?_) fun f cdv A outer s H vs Q E hr h => ?_
  · obtain ⟨a, m, x, rfl, _⟩ := h
    rfl
  · obtain ⟨a, m, x, rfl, M, k⟩ := h
    have nd := sc_M_read.nd
    have hu := hu_of hr
    refine ⟨_, (pss_one (ps_ret (pe_dget2 hu (p_fld K (pv 0) rfl) (pv 1) pe_int ⟨rfl, rfl, rfl, rfl⟩))), ?_⟩
    exact s_ret (v := .int (look m.mem x)) (ev_dget2 (k := Sum.inl x) (by walk_at "uw.ev") (ev_var rfl) ev_c M.me (look_memV _ _)) fun H1 e1 => k.go e1
theorem ok_M_taken (T : Txt K mg CI CM) : FnM P w K mg base CM "taken" 1 ["self"] (spTaken CI CM) := by
  refine fnM_of T.d_M_taken sc_M_taken (fun _ _ _ _ _ _ us hl => match us, hl with | [_], _ => rfl) (fun vs H Q E h => ?_) fun f cdv A outer s H vs Q E hr h => ?_
  · obtain ⟨a, m, rfl, _⟩ := h
    rfl
  · obtain ⟨a, m, rfl, M, ht, k⟩ := h
    have nd := sc_M_taken.nd
    have hu := hu_of hr
    refine ⟨_, (pss_cons (ps_if (pt_cmpR op_eq (p_fld K (pv 0) rfl) (pe_callB (cr_len K) (by rfl) T.n_len (by decide +kernel) (pa_cons (p_fld K (pv 0) rfl) pa_nil)) (nomark _)) (pss_one (ps_ret pe_int)) pss_nil)
      (pss_cons (s_fldaug_ K (pv 0) pe_int in_add)
      (pss_one (ps_ret (pe_ix (ixl K) (p_fld K (pv 0) rfl) (pe_op op_sub (p_fld K (pv 0) rfl) pe_int) (fun _ _ => rfl)))))), ?_⟩
    unfold inM at k
    refine q_when (b := decide (m.tk = m.inp.length)) (et_is (by walk_at "uw.et") (dec_nat _ _)) (fun hb H1 e1 => ?_) (fun hb H1 e1 => ?_)
    · have hb := of_decide_eq_true hb
      rw [if_pos hb, if_pos hb] at k
      exact s_ret (v := .int 0) (by walk_at "uw.ev") fun H2 e2 => k H2 (M.ex (e1.trans e2)) (Chg.of (e1.trans e2))
    · have hb := of_decide_eq_false hb
      rw [if_neg hb, if_neg hb] at k
      have M1 := M.ex e1
      refine sM_taken (ev_var rfl) ev_c M1 T fun H2 M2 c2 => ?_
      have hip := M2.ip
      have g : atI (m.inp.map V.int) (((m.tk + 1 : Nat) : Int) - 1) = some (.int (gI m.inp m.tk)) := by
        have := at_gI (l := m.inp) (j := ((m.tk + 1 : Nat) : Int) - 1) (by omega) (by omega)
        rw [this, show (((m.tk + 1 : Nat) : Int) - 1).toNat = m.tk by omega]
      exact s_ret (v := .int (gI m.inp m.tk)) (ev_op (evM_inputs (ev_var rfl) M2 T) (ev_op (evM_taken (ev_var rfl) M2 T) ev_c rv_I0) (rv_ixL (sq_of M2.ip) g)) fun H3 e3 => k H3 (M2.ex e3) (((Chg.of e1).trans c2).trans (Chg.of e3))
end

local macro_rules | `(tactic| walk_at "uw.sq") => `(tactic| first
  | with_reducible exact sq_of (MOk.rg (by with_reducible assumption))
  | with_reducible exact sq_of (MOk.ip (by with_reducible assumption))
  | with_reducible exact sq_of (MOk.ou (by with_reducible assumption))
  | with_reducible exact sq_of (MOk.wa (by with_reducible assumption)))
local macro_rules | `(tactic| walk_at "uw.at") => `(tactic| first
  | with_reducible exact at_rg (by with_reducible assumption) (by with_reducible assumption))
local macro_rules | `(tactic| walk_at "uw.ev") => `(tactic| first
  | ((with_reducible refine' evM_registers ?a ?b ?c); (case b => with_reducible assumption); (case c => with_reducible assumption); (case a => walk_at "uw.ev"))
  | ((with_reducible refine' evM_image ?a ?b ?c); (case b => with_reducible assumption); (case c => with_reducible assumption); (case a => walk_at "uw.ev"))
  | ((with_reducible refine' evM_memory ?a ?b ?c); (case b => with_reducible assumption); (case c => with_reducible assumption); (case a => walk_at "uw.ev"))
  | ((with_reducible refine' evM_inputs ?a ?b ?c); (case b => with_reducible assumption); (case c => with_reducible assumption); (case a => walk_at "uw.ev"))
  | ((with_reducible refine' evM_taken ?a ?b ?c); (case b => with_reducible assumption); (case c => with_reducible assumption); (case a => walk_at "uw.ev"))
  | ((with_reducible refine' evM_outputs ?a ?b ?c); (case b => with_reducible assumption); (case c => with_reducible assumption); (case a => walk_at "uw.ev"))
  | ((with_reducible refine' evM_waiting ?a ?b ?c); (case b => with_reducible assumption); (case c => with_reducible assumption); (case a => walk_at "uw.ev"))
  | ((with_reducible refine' evM_address ?a ?b ?c); (case b => with_reducible assumption); (case c => with_reducible assumption); (case a => walk_at "uw.ev"))
  | ((with_reducible refine' evM_sp ?a ?b ?c); (case b => with_reducible assumption); (case c => with_reducible assumption); (case a => walk_at "uw.ev"))
  | ((with_reducible refine' evM_steps ?a ?b ?c); (case b => with_reducible assumption); (case c => with_reducible assumption); (case a => walk_at "uw.ev")))
section
variable {CI CM : Addr} {a : MA} {H : Hp} {m : M} {K : PySem.W.Frag} {mg : Str → Option Value} {σ : L2.St} {te tb : TE}
theorem evR {r : Int} (h : Ev te σ H (.ref a.p)) (M : MOk CI CM a H m) (T : Txt K mg CI CM) (hl : m.regs.length = 8) (hr : Rg r) (hi : Ev tb σ H (.int r)) : Ev (tOp (rIxL K) (tFld K te "_registers") tb) σ H (.int (m.rg r)) := ev_op (evM_registers h M T) hi (rv_ixL (sq_of M.rg) (at_rg hl hr))
theorem evI {q : Addr} {xs : List V} {j : Int} {v : V} (hq : SqT K H q xs) (h : Ev te σ H (.ref q)) (hj : atI xs j = some v) : Ev (tOp (rIxT K) te (tC (.int j))) σ H v := ev_op h ev_c (rv_ixT hq hj)
end
section
variable {P : Program} {w : World} {K : PySem.W.Frag} {mg : Str → Option Value} {base : Heap} {CI CM : Addr}
theorem ok_M_access (T : Txt K mg CI CM) : FnM P w K mg base CM "access" 2 ["self", "instruction"] (spAc K CI CM) := by
  refine fnM_of T.d_M_access sc_M_access (fun _ _ _ _ _ _ us hl => match us, hl with | [_, _], _ => rfl) (fun vs H Q E h => ?_) fun f cdv A outer s H vs Q E hr h => ?_
  · obtain ⟨a, m, b, q, xs, i, rfl, _⟩ := h
    rfl
  · obtain ⟨a, m, b, q, xs, i, rfl, hq, hi, ok, hc, M, W, hb, k⟩ := h
    have nd := sc_M_access.nd
    have hu := hu_of hr
    refine ⟨_, (pss_cons (ps_set (i := 2) nd rfl (Or.inl rfl) (pe_ix (ixt K) (pv 1) pe_int (fun _ _ => rfl)))
      (pss_one (ps_if (pt_cmpR op_eq (pv 2) pe_str (nomark _)) (pss_one (ps_asg (pe_mt (pv 0) T.clM (ok_M_read T) (hr.mono (by decide)) (pa_cons (pe_op op_mod (pe_op op_add (pe_ix (ixl K) (p_fld K (pv 0) rfl) (pe_ix (ixt K) (pv 1) pe_int (fun _ _ => rfl)) (fun _ _ => rfl)) (pe_ix (ixt K) (pv 1) pe_int (fun _ _ => rfl))) (pe_gi (by rfl) T.g_WORDS)) pa_nil)) (pg_sub (p_fld K (pv 0) rfl) (pe_ix (ixt K) (pv 1) pe_int (fun _ _ => rfl)) set_list))) (pss_one (ps_if (pt_cmpR op_eq (pv 2) pe_str (nomark _)) (pss_cons (ps_set (i := 3) nd rfl (Or.inl rfl) (pe_op op_mod (pe_op op_add (pe_ix (ixl K) (p_fld K (pv 0) rfl) (pe_ix (ixt K) (pv 1) pe_int (fun _ _ => rfl)) (fun _ _ => rfl)) (pe_ix (ixt K) (pv 1) pe_int (fun _ _ => rfl))) (pe_gi (by rfl) T.g_WORDS)))
      (pss_one (ps_dput hu (p_fld K (pv 0) rfl) (pv 3) (pe_ix (ixl K) (p_fld K (pv 0) rfl) (pe_ix (ixt K) (pv 1) pe_int (fun _ _ => rfl)) (fun _ _ => rfl)) rfl))) (pss_one (ps_if (pt_cmpR op_eq (pv 2) pe_str (nomark _)) (pss_one (ps_asg (pe_mt (pv 0) T.clM (ok_M_read T) (hr.mono (by decide)) (pa_cons (pe_op op_mod (pe_op op_add (p_fld K (pv 0) rfl) (pe_ix (ixt K) (pv 1) pe_int (fun _ _ => rfl))) (pe_gi (by rfl) T.g_WORDS)) pa_nil)) (pg_sub (p_fld K (pv 0) rfl) (pe_ix (ixt K) (pv 1) pe_int (fun _ _ => rfl)) set_list))) (pss_one (ps_dput hu (p_fld K (pv 0) rfl) (pe_op op_mod (pe_op op_add (p_fld K (pv 0) rfl) (pe_ix (ixt K) (pv 1) pe_int (fun _ _ => rfl))) (pe_gi (by rfl) T.g_WORDS)) (pe_ix (ixl K) (p_fld K (pv 0) rfl) (pe_ix (ixt K) (pv 1) pe_int (fun _ _ => rfl)) (fun _ _ => rfl)) rfl))))))))), ?_⟩
    have hl := W.len
    have hz : m.mem.length < 100000 := Nat.lt_of_le_of_lt W.msz (by omega)
    have hdx := M.st
    cases i with
    | load r s w =>
      obtain rfl : xs = [.str (nm 14), .int r, .int s, .int w] := hi
      obtain ⟨ok1, ok2, ok3⟩ := ok
      refine q_asg (v := .str (nm 14)) (by walk_at "uw.ev") fun H1 e1 => ?_
      have M1 := M.ex e1
      refine s_yes (et_nm (d := 14) (by walk_at "uw.et") (by decide) (by decide) rfl) fun H2 e2 => ?_
      have M2 := M1.ex e2
      have q2 := ex_t (e1.trans e2) hq
      obtain ⟨s', g, _⟩ := M2.st
      refine sM_reg (r := r) (v := look m.mem ((m.rg s + w) % 65536)) M2 hl ok1 ?_ (evM_registers (ev_var rfl) M2 T) (evI q2 (ev_var rfl) rfl) fun H3 M3 c3 => k H3 M3 ((Chg.of (e1.trans e2)).trans c3)
      exact ev_meth (a := a.p) (ev_var rfl) g (mfl_meth _ nmeth_read) (vs := [.int ((m.rg s + w) % 65536)]) (ea_cons (ev_op (ev_op (evR (ev_var rfl) M2 T hl ok2 (evI q2 (ev_var rfl) rfl)) (evI q2 (ev_var rfl) rfl) rv_I0) ev_c (rv_I (by show (0:Int) < 65536; decide))) ea_nil) (sp_read M2)
    | store r s w =>
      obtain rfl : xs = [.str (nm 15), .int s, .int w, .int r] := hi
      obtain ⟨ok1, ok2, ok3⟩ := ok
      refine q_asg (v := .str (nm 15)) (by walk_at "uw.ev") fun H1 e1 => ?_
      have M1 := M.ex e1
      refine s_no (et_nm (d := 14) (by walk_at "uw.et") (by decide) (by decide) rfl) fun H2 e2 => ?_
      refine s_yes (et_nm (d := 15) (by walk_at "uw.et") (by decide) (by decide) rfl) fun H3 e3 => ?_
      have M3 := M1.ex (e2.trans e3)
      have q3 := ex_t ((e1.trans e2).trans e3) hq
      refine q_asg (v := .int ((m.rg s + w) % 65536)) (ev_op (ev_op (evR (ev_var rfl) M3 T hl ok2 (evI q3 (ev_var rfl) rfl)) (evI q3 (ev_var rfl) rfl) rv_I0) ev_c (rv_I (by show (0:Int) < 65536; decide))) fun H4 e4 => ?_
      have M4 := M3.ex e4
      have q4 := ex_t e4 q3
      exact sM_mem (kk := (m.rg s + w) % 65536) (v := m.rg r) M4 hz (evR (ev_var rfl) M4 T hl ok1 (evI q4 (ev_var rfl) rfl)) (evM_memory (ev_var rfl) M4 T) (ev_var rfl) fun H5 M5 c5 => k H5 M5 ((Chg.of (((e1.trans e2).trans e3).trans e4)).trans c5)
    | take r kk =>
      obtain rfl : xs = [.str (nm 16), .int r, .int kk] := hi
      obtain ⟨ok1, ok2⟩ := ok
      refine q_asg (v := .str (nm 16)) (by walk_at "uw.ev") fun H1 e1 => ?_
      refine s_no (et_nm (d := 14) (by walk_at "uw.et") (by decide) (by decide) rfl) fun H2 e2 => ?_
      refine s_no (et_nm (d := 15) (by walk_at "uw.et") (by decide) (by decide) rfl) fun H3 e3 => ?_
      refine s_yes (et_nm (d := 16) (by walk_at "uw.et") (by decide) (by decide) rfl) fun H4 e4 => ?_
      have e40 := ((e1.trans e2).trans e3).trans e4
      have M4 := M.ex e40
      have q4 := ex_t e40 hq
      obtain ⟨s', g, _⟩ := M4.st
      refine sM_reg (r := r) (v := look m.mem ((m.sp + kk) % 65536)) M4 hl ok1 ?_ (evM_registers (ev_var rfl) M4 T) (evI q4 (ev_var rfl) rfl) fun H5 M5 c5 => k H5 M5 ((Chg.of e40).trans c5)
      exact ev_meth (a := a.p) (ev_var rfl) g (mfl_meth _ nmeth_read) (vs := [.int ((m.sp + kk) % 65536)]) (ea_cons (ev_op (ev_op (evM_sp (ev_var rfl) M4 T) (evI q4 (ev_var rfl) rfl) rv_I0) ev_c (rv_I (by show (0:Int) < 65536; decide))) ea_nil) (sp_read M4)
    | put r kk =>
      obtain rfl : xs = [.str (nm 17), .int kk, .int r] := hi
      obtain ⟨ok1, ok2⟩ := ok
      refine q_asg (v := .str (nm 17)) (by walk_at "uw.ev") fun H1 e1 => ?_
      refine s_no (et_nm (d := 14) (by walk_at "uw.et") (by decide) (by decide) rfl) fun H2 e2 => ?_
      refine s_no (et_nm (d := 15) (by walk_at "uw.et") (by decide) (by decide) rfl) fun H3 e3 => ?_
      refine s_no (et_nm (d := 16) (by walk_at "uw.et") (by decide) (by decide) rfl) fun H4 e4 => ?_
      have e40 := ((e1.trans e2).trans e3).trans e4
      have M4 := M.ex e40
      have q4 := ex_t e40 hq
      exact sM_mem (kk := (m.sp + kk) % 65536) (v := m.rg r) M4 hz (evR (ev_var rfl) M4 T hl ok1 (evI q4 (ev_var rfl) rfl)) (evM_memory (ev_var rfl) M4 T) (ev_op (ev_op (evM_sp (ev_var rfl) M4 T) (evI q4 (ev_var rfl) rfl) rv_I0) ev_c (rv_I (by show (0:Int) < 65536; decide))) fun H5 M5 c5 => k H5 M5 ((Chg.of e40).trans c5)
    | op c r s =>
      obtain ⟨ok1, _⟩ := ok
      exfalso
      have : c ∈ [14, 15, 16, 17] := of_decide_eq_true hc
      simp at this
      omega
    | _ => exact absurd hc (by intro z; cases z)
end

section
variable {σ : L2.St} {H : Hp} {te : TE} {c d : Nat} {x : Str} {b : Bool} {K : PySem.W.Frag}
theorem ev_nmQ (h : Ev te σ H (.str (nm c))) (hc : c < 32) (hd : d < 32) (hx : nm d = x) (e : decide (c = d) = b) : Ev (tOp rEq te (tC (.str x))) σ H (.bl b) := by
  subst hx
  refine ev_op h ev_c (rv_eqb rfl ?_)
  rw [nm_eq hc hd, e]
theorem et_nmQ (h : Ev te σ H (.str (nm c))) (hc : c < 32) (hd : d < 32) (hx : nm d = x) (e : decide (c = d) = b) : EvT (tTest (tOp rEq te (tC (.str x)))) σ H b := et_test (ev_nmQ h hc hd hx e)
theorem et_nmN (h : Ev te σ H (.str (nm c))) (hc : c < 32) (hd : d < 32) (hx : nm d = x) (e : decide (c = d) = !b) : EvT (tTest (tOp rNe te (tC (.str x)))) σ H b := by
  subst hx
  refine et_test (ev_op h ev_c (rv_neb rfl ?_))
  rw [nm_eq hc hd, e, Bool.not_not]
end
section
variable {CI CM : Addr} {a : MA} {H H' : Hp} {m : M} {K : PySem.W.Frag} {mg : Str → Option Value} {σ : L2.St} {te ta tv : TE} {D : Ends}
/-- a trap -/
theorem sM_trap {t : TA} {s : Sta} {v : V} {E : XK} (h : Ev ta σ H (.ref a.p)) (M : MOk CI CM a H m) (hs : staV s = [.str "trapped", v]) (ha : EvA t σ H [v]) (k : ∀ H', MOk CI CM a H' { m with st := s } → Chg a.mut H H' → D.nx σ H') : tDrop (tMeth CM "trap" (spTrap CI CM) [] E ta t) D σ H := by
  obtain ⟨s', g, _⟩ := M.st
  exact s_call h g (mfl_meth _ nmeth_trap) ha fun H1 e1 => ⟨a, m, s, v, rfl, hs, M.ex e1, fun H2 M2 c2 => k H2 M2 ((Chg.of e1).trans c2)⟩
/-- the waiting list's last -/
theorem pop_ev (M : MOk CI CM a H m) (hw : m.wait ≠ []) (h : Ev te σ H (.ref a.wa)) : ∀ Q : VK, (∀ H1, Ex H H1 → Q (.int (m.wait.getLastD 0)) (upd H1 a.wa (.lst (m.wait.dropLast.map V.int)))) → tBM0 K "list" rPop te σ H Q := fun Q q =>
  h H (Ex.refl H) _ fun H1 e1 => ⟨.inl ⟨rfl, _, sq_of (e1 _ _ M.wa)⟩, a.wa, m.wait.map V.int, .int (m.wait.getLastD 0), rfl, rfl, e1 _ _ M.wa, by
    have hl : m.wait.length ≠ 0 := fun z => hw (List.eq_nil_of_length_eq_zero z)
    rw [List.length_map, List.getElem?_map, List.getElem?_eq_getElem (by omega)]
    rw [List.getLastD_eq_getLast?, List.getLast?_eq_getElem?, List.getElem?_eq_getElem (by omega)] <;> rfl, by
    rw [← List.map_dropLast]
    exact q H1 e1⟩
theorem sM_back (M : MOk CI CM a H m) (hw : m.wait ≠ []) (T : Txt K mg CI CM) (hσ : σ[0]? = some (some (.ref a.p))) (k : ∀ H', MOk CI CM a H' { m with wait := m.wait.dropLast, at_ := m.wait.getLastD 0 } → Chg a.mut H H' → D.nx σ H') : sFld K (tVar 0) (tBM0 K "list" rPop (tFld K (tVar 0) "_waiting")) "address" D σ H := pop_ev M hw (evM_waiting (ev_var hσ) M T) _ fun H1 e1 => by
  obtain ⟨q1, q2⟩ := (M.ex e1).updW m.wait.dropLast
  exact sM_address (tv := tC (.int (m.wait.getLastD 0))) (ta := tVar 0) ev_c (ev_var hσ) q1 T fun H' M' c' => k H' M' (((Chg.of e1).trans q2).trans c')
theorem sM_wait {v : Int} (M : MOk CI CM a H m) (hz : m.wait.length < 100000) (ha : Ev ta σ H (.ref a.wa)) (hv : Ev te σ H (.int v)) (k : ∀ H', MOk CI CM a H' { m with wait := m.wait ++ [v] } → Chg a.mut H H' → D.nx σ H') : tDrop (tBM K "list" rAppend ta (tCons te tNil)) D σ H := by
  refine s_app M.wa ha hv (by rw [List.length_map]; exact hz) fun H1 e1 => ?_
  obtain ⟨q1, q2⟩ := (M.ex e1).updW (m.wait ++ [v])
  rw [List.map_append] at q1 q2
  exact k _ q1 ((Chg.of e1).trans q2)
theorem sM_out {v : Int} (M : MOk CI CM a H m) (hz : m.out.length < 100000) (ha : Ev ta σ H (.ref a.ou)) (hv : Ev te σ H (.int v)) (k : ∀ H', MOk CI CM a H' { m with out := m.out ++ [v] } → Chg a.mut H H' → D.nx σ H') : tDrop (tBM K "list" rAppend ta (tCons te tNil)) D σ H := by
  refine s_app M.ou ha hv (by rw [List.length_map]; exact hz) fun H1 e1 => ?_
  obtain ⟨q1, q2⟩ := (M.ex e1).updO (m.out ++ [v])
  rw [List.map_append] at q1 q2
  exact k _ q1 ((Chg.of e1).trans q2)
end
section
variable {P : Program} {w : World} {K : PySem.W.Frag} {mg : Str → Option Value} {base : Heap} {CI CM : Addr}
theorem ok_M_shift (T : Txt K mg CI CM) : FnM P w K mg base CM "shift" 2 ["self", "instruction", "behind"] (spSh K CI CM) := by
  refine fnM_of T.d_M_shift sc_M_shift (fun _ _ _ _ _ _ us hl => match us, hl with | [_, _, _], _ => rfl) (fun vs H Q E h => ?_) fun f cdv A outer s H vs Q E hr h => ?_
  · obtain ⟨a, m, q, xs, i, beh, rfl, _⟩ := h
    rfl
  · obtain ⟨a, m, q, xs, i, beh, rfl, hq, hi, ok, hc, M, k⟩ := h
    have nd := sc_M_shift.nd
    have hu := hu_of hr
    refine ⟨_, (pss_cut (ps_if (pt_cmpR op_eq (pe_ix (ixt K) (pv 1) pe_int (fun _ _ => rfl)) pe_str (nomark _)) (pss_one (ps_set (i := 3) nd rfl (Or.inl rfl) (pe_op op_sub (p_fld K (pv 0) rfl) (pe_ix (ixt K) (pv 1) pe_int (fun _ _ => rfl))))) (pss_one (ps_set (i := 3) nd rfl (Or.inl rfl) (pe_op op_add (p_fld K (pv 0) rfl) (pe_ix (ixt K) (pv 1) pe_int (fun _ _ => rfl))))))
      (pss_one (ps_if (PW.pt (pw_or (pt_cmpR op_lt (pv 3) (pe_gi (by rfl) T.g_FRAME_LOW) (nomark _)) (pw_or1 (pt_cmpR op_gt (pv 3) (pe_gi (by rfl) T.g_WORDS) (nomark _))))) (pss_one (ps_expr (pe_mt (pv 0) T.clM (ok_M_trap T) (hr.mono (by decide)) (pa_cons pe_str pa_nil)))) (pss_cons (s_fld_ K (pv 0) (pv 3) rfl)
      (pss_one (s_fld_ K (pv 0) (pv 2) rfl)))))), ?_⟩
    refine q_cut (M := fun σ' H' => σ' = (start nm_M_shift [.ref a.p, .ref q, .int beh]).set 3 (some (.int (movI i m))) ∧ Ex H H') ?_ fun σ' H' h => ?_
    · cases i with
      | down kk =>
        obtain rfl : xs = [.str (nm 19), .int kk] := hi
        refine s_yes (et_nmQ (d := 19) (evI hq (ev_var rfl) rfl) (by decide) (by decide) rfl rfl) fun H1 e1 => ?_
        exact s_asg (v := .int (m.sp - kk)) (ev_op (evM_sp (ev_var rfl) (M.ex e1) T) (evI (ex_t e1 hq) (ev_var rfl) rfl) rv_I0) fun H2 e2 => ⟨rfl, e1.trans e2⟩
      | up kk =>
        obtain rfl : xs = [.str (nm 20), .int kk] := hi
        refine s_no (et_nmQ (d := 19) (evI hq (ev_var rfl) rfl) (by decide) (by decide) rfl rfl) fun H1 e1 => ?_
        exact s_asg (v := .int (m.sp + kk)) (ev_op (evM_sp (ev_var rfl) (M.ex e1) T) (evI (ex_t e1 hq) (ev_var rfl) rfl) rv_I0) fun H2 e2 => ⟨rfl, e1.trans e2⟩
      | op c r s =>
        obtain ⟨ok1, _⟩ := ok
        exfalso
        have : c ∈ [19, 20] := of_decide_eq_true hc
        simp at this
        omega
      | _ => exact absurd hc (by intro z; cases z)
    · obtain ⟨rfl, e⟩ := h
      have M1 := M.ex e
      unfold shM at k
      refine s_if (b := decide (movI i m < 64512) || decide (65536 < movI i m)) (by walk_at "uw.et") (fun hb H1 e1 => ?_) (fun hb H1 e1 => ?_)
      · have hb : movI i m < 64512 ∨ 65536 < movI i m := by simpa using hb
        rw [if_pos hb] at k
        exact sM_trap (s := .stack) (ev_var rfl) (M1.ex e1) rfl (ea_cons ev_c ea_nil) fun H2 M2 c2 => k H2 M2 ((Chg.of (e.trans e1)).trans c2)
      · have hb : ¬ (movI i m < 64512 ∨ 65536 < movI i m) := by simpa using hb
        rw [if_neg hb] at k
        refine q_st (sM_sp (v := movI i m) (ev_var rfl) (ev_var rfl) (M1.ex e1) T fun H2 M2 c2 => ?_)
        exact sM_address (v := beh) (ev_var rfl) (ev_var rfl) M2 T fun H3 M3 c3 => k H3 M3 (((Chg.of (e.trans e1)).trans c2).trans c3)
/-- the last part of enter -/
theorem enter_tail {D : Ends} {σ : L2.St} {a : MA} {H : Hp} {m : M} {c : Nat} {g beh : Int} {b : Nat} {q : Addr} {xs : List V} {E : XK} (T : Txt K mg CI CM) (h0 : σ[0]? = some (some (.ref a.p))) (h1 : σ[1]? = some (some (.ref q))) (h2 : σ[2]? = some (some (.int beh))) (h3 : σ[3]? = some (some (.int g)))
    (hq : SqT K H q xs) (hc : c < 32) (hx : atI xs 0 = some (.str (nm c))) (M : MOk CI CM a H m) (W : m.Wf b)
    (k : ∀ H', MOk CI CM a H' (if c = 24 then { m with at_ := g } else enterM g beh m) → Chg a.mut H H' → D.nx σ H') :
    tIfS (tTest (tOp rEq (tOp (rIxT K) (tVar 1) (tC (.int 0))) (tC (.str "table")))) (sFld K (tVar 0) (tVar 3) "address")
      (tIfS (tTest (tOp rEq (tCB (rLenS K) (tCons (tFld K (tVar 0) "_waiting") tNil)) (tC (.int 64)))) (tDrop (tMeth CM "trap" (spTrap CI CM) [] E (tVar 0) (tCons (tC (.str "calls")) tNil)))
        (tSeq (tDrop (tBM K "list" rAppend (tFld K (tVar 0) "_waiting") (tCons (tVar 2) tNil))) (sFld K (tVar 0) (tVar 3) "address"))) D σ H := by
  refine s_if (b := decide (c = 24)) (et_nmQ (d := 24) (evI hq (ev_var h1) hx) hc (by decide) rfl rfl) (fun hb H1 e1 => ?_) (fun hb H1 e1 => ?_)
  · rw [if_pos (of_decide_eq_true hb)] at k
    exact sM_address (v := g) (ev_var h3) (ev_var h0) (M.ex e1) T fun H2 M2 c2 => k H2 M2 ((Chg.of e1).trans c2)
  · rw [if_neg (of_decide_eq_false hb)] at k
    have M1 := M.ex e1
    unfold enterM at k
    refine s_if (b := decide (m.wait.length = 64)) (et_is (et_test (ev_op (ev_lenI (evM_waiting (ev_var h0) M1 T) (sq_of M1.wa)) ev_c (rv_eqb rfl rfl))) (dec_nat _ 64)) (fun hb H2 e2 => ?_) (fun hb H2 e2 => ?_)
    · rw [if_pos (of_decide_eq_true hb)] at k
      exact sM_trap (s := .calls) (ev_var h0) (M1.ex e2) rfl (ea_cons ev_c ea_nil) fun H3 M3 c3 => k H3 M3 ((Chg.of (e1.trans e2)).trans c3)
    · rw [if_neg (of_decide_eq_false hb)] at k
      have M2 := M1.ex e2
      refine q_st (sM_wait (v := beh) M2 (by have := W.wsz; omega) (evM_waiting (ev_var h0) M2 T) (ev_var h2) fun H3 M3 c3 => ?_)
      exact sM_address (v := g) (ev_var h3) (ev_var h0) M3 T fun H4 M4 c4 => k H4 M4 (((Chg.of (e1.trans e2)).trans c3).trans c4)
theorem ok_M_enter (T : Txt K mg CI CM) : FnM P w K mg base CM "enter" 2 ["self", "instruction", "behind"] (spGo K CI CM isEn) := by
  refine fnM_of T.d_M_enter sc_M_enter (fun _ _ _ _ _ _ us hl => match us, hl with | [_, _, _], _ => rfl) (fun vs H Q E h => ?_) fun f cdv A outer s H vs Q E hr h => ?_
  · obtain ⟨a, m, b, q, xs, i, beh, rfl, _⟩ := h
    rfl
  · obtain ⟨a, m, b, q, xs, i, beh, rfl, hq, hi, ok, hc, M, W, k⟩ := h
    have nd := sc_M_enter.nd
    have hu := hu_of hr
    refine ⟨_, (pss_cons (ps_set (i := 3) nd rfl (Or.inl rfl) (pe_ix (ixt K) (pv 1) pe_int (fun _ _ => rfl)))
      (pss_cut (ps_if (pt_cmpR op_ne (pe_ix (ixt K) (pv 1) pe_int (fun _ _ => rfl)) pe_str (nomark _)) (pss_cons (ps_set (i := 4) nd rfl (Or.inl rfl) (pe_ix (ixl K) (p_fld K (pv 0) rfl) (pe_ix (ixt K) (pv 1) pe_int (fun _ _ => rfl)) (fun _ _ => rfl)))
      (pss_cons (ps_if (pt_cmpR op_ge (pv 4) (pe_callB (cr_len K) (by rfl) T.n_len (by decide +kernel) (pa_cons (pe_ix (ixt K) (pv 1) pe_int (fun _ _ => rfl)) pa_nil)) (nomark _)) (pss_cons (ps_expr (pe_mt (pv 0) T.clM (ok_M_trap T) (hr.mono (by decide)) (pa_cons pe_str pa_nil)))
      (pss_one ps_retN)) pss_nil)
      (pss_one (ps_set (i := 3) nd rfl (Or.inl rfl) (pe_ix (ixt K) (pe_ix (ixt K) (pv 1) pe_int (fun _ _ => rfl)) (pv 4) (fun _ _ => rfl)))))) pss_nil)
      (pss_one (ps_if (pt_cmpR op_eq (pe_ix (ixt K) (pv 1) pe_int (fun _ _ => rfl)) pe_str (nomark _)) (pss_one (s_fld_ K (pv 0) (pv 3) rfl)) (pss_one (ps_if (pt_cmpR op_eq (pe_callB (cr_len K) (by rfl) T.n_len (by decide +kernel) (pa_cons (p_fld K (pv 0) rfl) pa_nil)) (pe_gi (by rfl) T.g_MOST_WAITING) (nomark _)) (pss_one (ps_expr (pe_mt (pv 0) T.clM (ok_M_trap T) (hr.mono (by decide)) (pa_cons pe_str pa_nil)))) (pss_cons (ps_expr (p_bm K (id := "list.append") (pe_bm PySem.F.plainAttrs_list PySem.F.slot_list_append PySem.F.type_list_append mt_append (p_fld K (pv 0) rfl) (pa_cons (pv 2) pa_nil))))
      (pss_one (s_fld_ K (pv 0) (pv 3) rfl))))))))), ?_⟩
    have hl := W.len
    have tab : (∃ g, i = .call g) ∨ ∃ (c : Nat) (r : Int) (t : List Int) (p : Addr), (c = 24 ∨ c = 26) ∧ xs = [.str (nm c), .int r, .ref p] ∧ SqT K H p (t.map V.int) ∧ Rg r ∧
        (goM i beh m = if (t.length : Int) ≤ m.rg r then { m with st := .index } else if c = 24 then { m with at_ := gI t (m.rg r).toNat } else enterM (gI t (m.rg r).toNat) beh m) := by
      cases i with
      | call g => exact .inl ⟨g, rfl⟩
      | table r t =>
        obtain ⟨p, rfl, h⟩ := hi
        exact .inr ⟨24, r, t, p, .inl rfl, rfl, h, ok.1, rfl⟩
      | calls r t =>
        obtain ⟨p, rfl, h⟩ := hi
        exact .inr ⟨26, r, t, p, .inr rfl, rfl, h, ok.1, rfl⟩
      | op c r s =>
        obtain ⟨ok1, _⟩ := ok
        exfalso
        have : c ∈ [24, 25, 26] := of_decide_eq_true hc
        simp at this
        omega
      | _ => exact absurd hc (by intro z; cases z)
    rcases tab with ⟨g, rfl⟩ | ⟨c, r, t, p, hc2, rfl, ht, hr2, hg⟩
    · obtain rfl : xs = [.str (nm 25), .int g] := hi
      refine q_asg (v := .int g) (evI hq (ev_var rfl) rfl) fun H1 e1 => ?_
      refine q_cut (M := fun σ' H' => σ' = (start nm_M_enter [.ref a.p, .ref q, .int beh]).set 3 (some (.int g)) ∧ Ex H H') ?_ fun σ' H' h => ?_
      · refine s_when (b := false) (et_nmN (d := 25) (evI (ex_t e1 hq) (ev_var rfl) rfl) (by decide) (by decide) rfl rfl) (fun z => by cases z) fun _ H2 e2 => ⟨rfl, e1.trans e2⟩
      obtain ⟨rfl, e⟩ := h
      exact enter_tail (c := 25) T rfl rfl rfl rfl (ex_t e hq) (by decide) rfl (M.ex e) W fun H2 M2 c2 => k H2 M2 ((Chg.of e).trans c2)
    · have hc3 : c < 32 := by omega
      rw [hg] at k
      have hv := rg_word W r
      refine q_asg (v := .int r) (evI hq (ev_var rfl) rfl) fun H1 e1 => ?_
      refine q_cut (M := fun σ' H' => σ' = ((start nm_M_enter [.ref a.p, .ref q, .int beh]).set 4 (some (.int (m.rg r)))).set 3 (some (.int (gI t (m.rg r).toNat))) ∧ Ex H H' ∧ m.rg r < (t.length : Int)) ?_ fun σ' H' h => ?_
      · refine s_when (b := true) (et_nmN (d := 25) (evI (ex_t e1 hq) (ev_var rfl) rfl) hc3 (by decide) rfl (by rw [decide_eq_false (by omega)] <;> rfl)) (fun _ H2 e2 => ?_) (fun z => by cases z)
        have M2 := M.ex (e1.trans e2)
        have q2 := ex_t (e1.trans e2) hq
        refine q_asg (v := .int (m.rg r)) (evR (ev_var rfl) M2 T hl hr2 (evI q2 (ev_var rfl) rfl)) fun H3 e3 => ?_
        have q3 := ex_t e3 q2
        have ht3 := ex_t ((e1.trans e2).trans e3) ht
        refine q_when (b := decide ((t.length : Int) ≤ m.rg r)) (et_test (ev_op (ev_var rfl) (ev_lenTI (evI q3 (ev_var rfl) rfl) ht3) rv_I0)) (fun hb H4 e4 => ?_) (fun hb H4 e4 => ?_)
        · rw [if_pos (of_decide_eq_true hb)] at k
          refine q_st (sM_trap (s := .index) (ev_var rfl) (M2.ex (e3.trans e4)) rfl (ea_cons ev_c ea_nil) fun H5 M5 c5 => ?_)
          exact k H5 M5 ((Chg.of (((e1.trans e2).trans e3).trans e4)).trans c5)
        · have hb := of_decide_eq_false hb
          exact s_asg (v := .int (gI t (m.rg r).toNat)) (ev_op (evI (ex_t e4 q3) (ev_var rfl) rfl) (ev_var rfl) (rv_ixT (ex_t e4 ht3) (at_gI hv.1 (by omega)))) fun H5 e5 => ⟨rfl, (((e1.trans e2).trans e3).trans e4).trans e5, by omega⟩
      obtain ⟨rfl, e, hlt⟩ := h
      rw [if_neg (by omega)] at k
      exact enter_tail (c := c) T rfl rfl rfl rfl (ex_t e hq) hc3 rfl (M.ex e) W fun H2 M2 c2 => k H2 M2 ((Chg.of e).trans c2)
end

theorem nmeth_enter : ("_image" : Str) ≠ "enter" ∧ ("_registers" : Str) ≠ "enter" ∧ ("_memory" : Str) ≠ "enter" ∧ ("_inputs" : Str) ≠ "enter" ∧ ("_taken" : Str) ≠ "enter" ∧ ("_outputs" : Str) ≠ "enter" ∧ ("_waiting" : Str) ≠ "enter" ∧ ("_status" : Str) ≠ "enter" ∧ ("address" : Str) ≠ "enter" ∧ ("sp" : Str) ≠ "enter" ∧ ("steps" : Str) ≠ "enter" := by decide +kernel
theorem goM_zero (r g beh : Int) (m : M) : goM (.zero r g) beh m = { m with at_ := if m.rg r = 0 then g else beh } := rfl
theorem goM_nonzero (r g beh : Int) (m : M) : goM (.nonzero r g) beh m = { m with at_ := if m.rg r = 0 then beh else g } := rfl
theorem goM_back (beh : Int) (m : M) : goM .back beh m = if m.wait = [] then { m with st := .ended } else { m with at_ := m.wait.getLastD 0, wait := m.wait.dropLast } := rfl
theorem dec_int0 (x : Int) : decide (V.int x = V.int 0) = decide (x = 0) := by
  rw [dec_int]
  by_cases z : x = 0
  · rw [z] <;> rfl
  · rw [decide_eq_false z]
    exact beq_eq_false_iff_ne.mpr z
section
variable {P : Program} {w : World} {K : PySem.W.Frag} {mg : Str → Option Value} {base : Heap} {CI CM : Addr}
theorem go_tail {D : Ends} {a : MA} {H : Hp} {m : M} {b : Nat} {q : Addr} {xs : List V} {i : Ins} {beh : Int} {E : XK} {σ : L2.St} (h0 : σ[0]? = some (some (.ref a.p))) (h1 : σ[1]? = some (some (.ref q))) (h2 : σ[2]? = some (some (.int beh)))
    (hq : SqT K H q xs) (hi : InsP K H i xs) (ok : i.Ok) (hc : isEn i.code = true) (M : MOk CI CM a H m) (W : m.Wf b) (k : ∀ H', MOk CI CM a H' (goM i beh m) → Chg a.mut H H' → D.nx σ H') :
    tDrop (tMeth CM "enter" (spGo K CI CM isEn) [] E (tVar 0) (tCons (tVar 1) (tCons (tVar 2) tNil))) D σ H := by
  obtain ⟨s', g, _⟩ := M.st
  exact s_call (ev_var h0) g (mfl_meth _ nmeth_enter) (ea_cons (ev_var h1) (ea_cons (ev_var h2) ea_nil)) fun H1 e1 => ⟨a, m, b, q, xs, i, beh, rfl, ex_t e1 hq, hi.ex e1, ok, hc, M.ex e1, W, fun H2 M2 c2 => k H2 M2 ((Chg.of e1).trans c2)⟩
theorem ok_M_go (T : Txt K mg CI CM) : FnM P w K mg base CM "go" 3 ["self", "instruction", "behind"] (spGo K CI CM isGo) := by
  refine fnM_of T.d_M_go sc_M_go (fun _ _ _ _ _ _ us hl => match us, hl with | [_, _, _], _ => rfl) (fun vs H Q E h => ?_) fun f cdv A outer s H vs Q E hr h => ?_
  · obtain ⟨a, m, b, q, xs, i, beh, rfl, _⟩ := h
    rfl
  · obtain ⟨a, m, b, q, xs, i, beh, rfl, hq, hi, ok, hc, M, W, k⟩ := h
    have nd := sc_M_go.nd
    have hu := hu_of hr
    refine ⟨_, (pss_cons (ps_set (i := 3) nd rfl (Or.inl rfl) (pe_ix (ixt K) (pv 1) pe_int (fun _ _ => rfl)))
      (pss_one (ps_if (pt_cmpR op_eq (pv 3) pe_str (nomark _)) (pss_one (s_fld_ K (pv 0) (pe_ix (ixt K) (pv 1) pe_int (fun _ _ => rfl)) rfl)) (pss_one (ps_if (pt_cmpR (o_in K) (pv 3) (pe_tup (pa_cons pe_str (pa_cons pe_str pa_nil))) (by rfl)) (pss_one (ps_if (pt_cmpR op_eq (pe_cmpR op_eq (pe_ix (ixl K) (p_fld K (pv 0) rfl) (pe_ix (ixt K) (pv 1) pe_int (fun _ _ => rfl)) (fun _ _ => rfl)) pe_int (nomark _)) (pe_cmpR op_eq (pv 3) pe_str (nomark _)) (nomark _)) (pss_one (s_fld_ K (pv 0) (pe_ix (ixt K) (pv 1) pe_int (fun _ _ => rfl)) rfl)) (pss_one (s_fld_ K (pv 0) (pv 2) rfl)))) (pss_one (ps_if (pt_cmpR op_eq (pv 3) pe_str (nomark _)) (pss_one (ps_if (pt_tru K (p_fld K (pv 0) rfl) (by intro _; rfl)) (pss_one (s_fld_ K (pv 0) (p_bm0 K (pe_bm0 PySem.F.plainAttrs_list PySem.F.slot_list_pop PySem.F.type_list_pop mt_pop (p_fld K (pv 0) rfl))) rfl)) (pss_one (s_fld_ K (pv 0) (pe_tup (pa_cons pe_str pa_nil)) rfl)))) (pss_one (ps_if (pt_cmpR op_eq (pv 3) pe_str (nomark _)) (pss_one (s_fld_ K (pv 0) (pe_tup (pa_cons pe_str pa_nil)) rfl)) (pss_one (ps_if (pt_cmpR op_eq (pv 3) pe_str (nomark _)) (pss_one (ps_expr (pe_mt (pv 0) T.clM (ok_M_trap T) (hr.mono (by decide)) (pa_cons (pe_ix (ixt K) (pv 1) pe_int (fun _ _ => rfl)) pa_nil)))) (pss_one (ps_expr (pe_mt (pv 0) T.clM (ok_M_enter T) (hr.mono (by decide)) (pa_cons (pv 1) (pa_cons (pv 2) pa_nil)))))))))))))))), ?_⟩
    have hl := W.len
    have hc3 := (Ins.code_lt ok).2
    refine q_asg (v := .str (nm i.code)) (evI hq (ev_var rfl) hi.head) fun H1 e1 => ?_
    have q1 := ex_t e1 hq
    have M1 := M.ex e1
    generalize hcd : i.code = c at hc hc3
    refine s_if (b := decide (c = 21)) (et_nmQ (d := 21) (ev_var rfl) hc3 (by decide) rfl rfl) (fun hb H2 e2 => ?_) (fun hb H2 e2 => ?_)
    · have hb := of_decide_eq_true hb
      cases i with
      | jump g =>
        obtain rfl : xs = [.str (nm 21), .int g] := hi
        exact sM_address (v := g) (evI (ex_t e2 q1) (ev_var rfl) rfl) (ev_var rfl) (M1.ex e2) T fun H3 M3 c3 => k H3 M3 ((Chg.of (e1.trans e2)).trans c3)
      | op c' r s => exact absurd ok.1 (by simp only [Ins.code] at hcd; omega)
      | _ => exact absurd hb (by rw [← hcd]; intro z; cases z)
    have hb := of_decide_eq_false hb
    have q2 := ex_t e2 q1
    have M2 := M1.ex e2
    refine s_if (b := decide (c ∈ [22, 23])) (et_nmI [22, 23] (et_test (ev_inU (ev_var rfl) (eu_tup (ea_cons ev_c (ea_cons ev_c ea_nil)) (Nat.le_of_ble_eq_true rfl)) rfl rfl)) hc3 (by decide) rfl) (fun hb3 H3 e3 => ?_) (fun hb3 H3 e3 => ?_)
    · have hb3 := of_decide_eq_true hb3
      have q3 := ex_t e3 q2
      have M3 := M2.ex e3
      have e13 := (e1.trans e2).trans e3
      cases i with
      | zero r g =>
        obtain rfl : xs = [.str (nm 22), .int r, .int g] := hi
        have hcd : 22 = c := hcd
        subst hcd
        refine s_if (b := decide (m.rg r = 0)) (et_test (ev_op (ev_op (evR (ev_var rfl) M3 T hl ok.1 (evI q3 (ev_var rfl) rfl)) ev_c (rv_eqb rfl (dec_int0 _))) (ev_nmQ (d := 22) (ev_var rfl) hc3 (by decide) rfl rfl) (rv_eqb rfl (by cases decide (m.rg r = 0) <;> rfl)))) (fun hb4 H4 e4 => ?_) (fun hb4 H4 e4 => ?_)
        · have hb4 := of_decide_eq_true hb4
          refine sM_address (v := g) (evI (ex_t e4 q3) (ev_var rfl) rfl) (ev_var rfl) (M3.ex e4) T fun H5 M5 c5 => k H5 ?_ ((Chg.of (e13.trans e4)).trans c5)
          rw [goM_zero, if_pos hb4]
          exact M5
        · have hb4 := of_decide_eq_false hb4
          refine sM_address (v := beh) (ev_var rfl) (ev_var rfl) (M3.ex e4) T fun H5 M5 c5 => k H5 ?_ ((Chg.of (e13.trans e4)).trans c5)
          rw [goM_zero, if_neg hb4]
          exact M5
      | nonzero r g =>
        obtain rfl : xs = [.str (nm 23), .int r, .int g] := hi
        have hcd : 23 = c := hcd
        subst hcd
        refine s_if (b := !decide (m.rg r = 0)) (et_test (ev_op (ev_op (evR (ev_var rfl) M3 T hl ok.1 (evI q3 (ev_var rfl) rfl)) ev_c (rv_eqb rfl (dec_int0 _))) (ev_nmQ (d := 22) (ev_var rfl) hc3 (by decide) rfl rfl) (rv_eqb rfl (by cases decide (m.rg r = 0) <;> rfl)))) (fun hb4 H4 e4 => ?_) (fun hb4 H4 e4 => ?_)
        · have hb4 : ¬ m.rg r = 0 := by simpa using hb4
          refine sM_address (v := g) (evI (ex_t e4 q3) (ev_var rfl) rfl) (ev_var rfl) (M3.ex e4) T fun H5 M5 c5 => k H5 ?_ ((Chg.of (e13.trans e4)).trans c5)
          rw [goM_nonzero, if_neg hb4]
          exact M5
        · have hb4 : m.rg r = 0 := by simpa using hb4
          refine sM_address (v := beh) (ev_var rfl) (ev_var rfl) (M3.ex e4) T fun H5 M5 c5 => k H5 ?_ ((Chg.of (e13.trans e4)).trans c5)
          rw [goM_nonzero, if_pos hb4]
          exact M5
      | op c' r s => exact absurd ok.1 (by simp only [Ins.code] at hcd; simp at hb3; omega)
      | _ => exact absurd hb3 (by rw [← hcd]; simp [Ins.code])
    have hb3 := of_decide_eq_false hb3
    have q3 := ex_t e3 q2
    have M3 := M2.ex e3
    have e13 := (e1.trans e2).trans e3
    refine s_if (b := decide (c = 27)) (et_nmQ (d := 27) (ev_var rfl) hc3 (by decide) rfl rfl) (fun hb4 H4 e4 => ?_) (fun hb4 H4 e4 => ?_)
    · have hb4 := of_decide_eq_true hb4
      have M4 := M3.ex e4
      cases i with
      | back =>
        refine s_if (b := !decide (m.wait.length < 1)) (et_truI (evM_waiting (ev_var rfl) M4 T) (sq_of M4.wa)) (fun hb5 H5 e5 => ?_) (fun hb5 H5 e5 => ?_)
        · have hb5 : ¬ m.wait = [] := by intro z; rw [z] at hb5; cases hb5
          refine sM_back (M4.ex e5) hb5 T rfl fun H6 M6 c6 => k H6 ?_ ((Chg.of ((e13.trans e4).trans e5)).trans c6)
          rw [goM_back, if_neg hb5]
          exact M6
        · have hb5 : m.wait = [] := List.eq_nil_of_length_eq_zero (by have : m.wait.length < 1 := by simpa using hb5
                                                                      omega)
          refine sM_status (s' := .ended) (eu_tup (ea_cons ev_c ea_nil) (Nat.le_of_ble_eq_true rfl)) (fun H6 e6 => ev_var rfl) (M4.ex e5) T fun H6 M6 c6 => k H6 ?_ ((Chg.of ((e13.trans e4).trans e5)).trans c6)
          rw [goM_back, if_pos hb5]
          exact M6
      | op c' r s => exact absurd ok.1 (by simp only [Ins.code] at hcd; omega)
      | _ => exact absurd hb4 (by rw [← hcd]; intro z; cases z)
    have hb4 := of_decide_eq_false hb4
    refine s_if (b := decide (c = 30)) (et_nmQ (d := 30) (ev_var rfl) hc3 (by decide) rfl rfl) (fun hb5 H5 e5 => ?_) (fun hb5 H5 e5 => ?_)
    · have hb5 := of_decide_eq_true hb5
      cases i with
      | halt => exact sM_status (s' := .halted) (eu_tup (ea_cons ev_c ea_nil) (Nat.le_of_ble_eq_true rfl)) (fun H6 e6 => ev_var rfl) (M3.ex (e4.trans e5)) T fun H6 M6 c6 => k H6 M6 ((Chg.of ((e13.trans e4).trans e5)).trans c6)
      | op c' r s => exact absurd ok.1 (by simp only [Ins.code] at hcd; omega)
      | _ => exact absurd hb5 (by rw [← hcd]; intro z; cases z)
    have hb5 := of_decide_eq_false hb5
    refine s_if (b := decide (c = 31)) (et_nmQ (d := 31) (ev_var rfl) hc3 (by decide) rfl rfl) (fun hb6 H6 e6 => ?_) (fun hb6 H6 e6 => ?_)
    · have hb6 := of_decide_eq_true hb6
      have e36 := (e4.trans e5).trans e6
      cases i with
      | trap kk =>
        obtain rfl : xs = [.str (nm 31), .int kk] := hi
        exact sM_trap (s := .num kk) (ev_var rfl) (M3.ex e36) rfl (ea_cons (evI (ex_t e36 q3) (ev_var rfl) rfl) ea_nil) fun H7 M7 c7 => k H7 M7 ((Chg.of (e13.trans e36)).trans c7)
      | op c' r s => exact absurd ok.1 (by simp only [Ins.code] at hcd; omega)
      | _ => exact absurd hb6 (by rw [← hcd]; intro z; cases z)
    have hb6 := of_decide_eq_false hb6
    have e36 := (e4.trans e5).trans e6
    refine go_tail (b := b) (i := i) rfl rfl rfl (ex_t e36 q3) (hi.ex (e13.trans e36)) ok ?_ (M3.ex e36) W fun H7 M7 c7 => k H7 M7 ((Chg.of (e13.trans e36)).trans c7)
    rw [hcd]
    have hc : c ∈ [21, 22, 23, 24, 25, 26, 27, 30, 31] := of_decide_eq_true hc
    simp at hc hb3
    have : c = 24 ∨ c = 25 ∨ c = 26 := by omega
    rcases this with rfl | rfl | rfl <;> rfl
end

def nmOf (f : Str) : Prop := ("_image" : Str) ≠ f ∧ ("_registers" : Str) ≠ f ∧ ("_memory" : Str) ≠ f ∧ ("_inputs" : Str) ≠ f ∧ ("_taken" : Str) ≠ f ∧ ("_outputs" : Str) ≠ f ∧ ("_waiting" : Str) ≠ f ∧ ("_status" : Str) ≠ f ∧ ("address" : Str) ≠ f ∧ ("sp" : Str) ≠ f ∧ ("steps" : Str) ≠ f
instance (f : Str) : Decidable (nmOf f) := by unfold nmOf; exact inferInstance
theorem nmeth_taken : nmOf "taken" := by decide +kernel
theorem nmeth_go : nmOf "go" := by decide +kernel
theorem nmeth_shift : nmOf "shift" := by decide +kernel
theorem nmeth_access : nmOf "access" := by decide +kernel
theorem nmeth_compute : nmOf "compute" := by decide +kernel
theorem nmeth_step : nmOf "step" := by decide +kernel
def isCo (c : Nat) : Bool := decide (c ∈ [1, 2, 3, 4, 5, 6, 7, 8, 9, 10, 11, 12, 13, 18, 28, 29])
def spCo (K : PySem.W.Frag) (CI CM : Addr) : Sp := fun vs H Q _ => ∃ (a : MA) (m : M) (b : Nat) (q : Addr) (xs : List V) (i : Ins), vs = [.ref a.p, .ref q] ∧ SqT K H q xs ∧ InsP K H i xs ∧ i.Ok ∧ isCo i.code = true ∧ MOk CI CM a H m ∧ m.Wf b ∧ b ≤ 5000 ∧ RetM CI CM a (coM i m) H Q .non
def spStep (CI CM : Addr) : Sp := fun vs H Q _ => ∃ (a : MA) (m : M) (b : Nat), vs = [.ref a.p] ∧ MOk CI CM a H m ∧ m.Wf b ∧ b ≤ 5000 ∧ RetM CI CM a (stepM a.d m) H Q .non
section
variable {P : Program} {w : World} {K : PySem.W.Frag} {mg : Str → Option Value} {base : Heap} {CI CM : Addr}
theorem meth_raw0 {C a dx : Addr} {fs : List (Str × V)} {f : Str} {sp : Sp} {dvs : List V} {E : XK} {σ : L2.St} {H : Hp} {ta : TE} {Q : VK} (h : Ev ta σ H (.ref a)) (ho : H a = some (.ins C dx fs)) (hl : fs.lookup f = none)
    (k : ∀ H1, Ex H H1 → sp (.ref a :: dvs) H1 Q E) : tMeth C f sp dvs E ta tNil σ H Q := h H (Ex.refl H) _ fun H1 e1 => ⟨a, dx, fs, rfl, e1 _ _ ho, hl, k H1 e1⟩
theorem et_ops {σ : L2.St} {H : Hp} {te : TE} {c : Nat} (h : Ev te σ H (.str (nm c))) (hc : c < 32) : EvT (tTest (tOp (rIn K false) te (tGr K tab_OPERATIONS))) σ H (decide (3 ≤ c ∧ c ≤ 13)) := by
  refine et_test (ev_inGrb h rfl rfl ?_)
  have g : ∀ c, c < 32 → inV (V.str (nm c)) (tab_OPERATIONS.map V.str) = decide (3 ≤ c ∧ c ≤ 13) := by decide +kernel
  exact g c hc
theorem ok_M_compute (T : Txt K mg CI CM) : FnM P w K mg base CM "compute" 3 ["self", "instruction"] (spCo K CI CM) := by
  refine fnM_of T.d_M_compute sc_M_compute (fun _ _ _ _ _ _ us hl => match us, hl with | [_, _], _ => rfl) (fun vs H Q E h => ?_) fun f cdv A outer s H vs Q E hr h => ?_
  · obtain ⟨a, m, b, q, xs, i, rfl, _⟩ := h
    rfl
  · obtain ⟨a, m, b, q, xs, i, rfl, hq, hi, ok, hc, M, W, hb, k⟩ := h
    have nd := sc_M_compute.nd
    have hu := hu_of hr
    refine ⟨_, (pss_cons (ps_set (i := 2) nd rfl (Or.inl rfl) (pe_ix (ixt K) (pv 1) pe_int (fun _ _ => rfl)))
      (pss_cons (ps_set (i := 3) nd rfl (Or.inl rfl) (pe_ix (ixt K) (pv 1) pe_int (fun _ _ => rfl)))
      (pss_one (ps_if (pt_cmpR op_eq (pv 2) pe_str (nomark _)) (pss_one (ps_asg (pe_ix (ixt K) (pv 1) pe_int (fun _ _ => rfl)) (pg_sub (p_fld K (pv 0) rfl) (pv 3) set_list))) (pss_one (ps_if (pt_cmpR op_eq (pv 2) pe_str (nomark _)) (pss_one (ps_asg (pe_ix (ixl K) (p_fld K (pv 0) rfl) (pe_ix (ixt K) (pv 1) pe_int (fun _ _ => rfl)) (fun _ _ => rfl)) (pg_sub (p_fld K (pv 0) rfl) (pv 3) set_list))) (pss_one (ps_if (pt_cmpR (o_in K) (pv 2) (p_gr K (by rfl) T.g_OPERATIONS) (by rfl)) (pss_one (ps_asg (pe_fn (ok_combine T) (hr.mono (by decide)) (by rfl) (pa_cons (pv 2) (pa_cons (pe_ix (ixl K) (p_fld K (pv 0) rfl) (pv 3) (fun _ _ => rfl)) (pa_cons (pe_ix (ixl K) (p_fld K (pv 0) rfl) (pe_ix (ixt K) (pv 1) pe_int (fun _ _ => rfl)) (fun _ _ => rfl)) pa_nil)))) (pg_sub (p_fld K (pv 0) rfl) (pv 3) set_list))) (pss_one (ps_if (pt_cmpR op_eq (pv 2) pe_str (nomark _)) (pss_one (ps_asg (pe_op op_mod (pe_op op_add (p_fld K (pv 0) rfl) (pe_ix (ixt K) (pv 1) pe_int (fun _ _ => rfl))) (pe_gi (by rfl) T.g_WORDS)) (pg_sub (p_fld K (pv 0) rfl) (pv 3) set_list))) (pss_one (ps_if (pt_cmpR op_eq (pv 2) pe_str (nomark _)) (pss_one (ps_asg (pe_mt0 (pv 0) T.clM (ok_M_taken T) (hr.mono (by decide))) (pg_sub (p_fld K (pv 0) rfl) (pv 3) set_list))) (pss_one (ps_expr (p_bm K (id := "list.append") (pe_bm PySem.F.plainAttrs_list PySem.F.slot_list_append PySem.F.type_list_append mt_append (p_fld K (pv 0) rfl) (pa_cons (pe_ix (ixl K) (p_fld K (pv 0) rfl) (pv 3) (fun _ _ => rfl)) pa_nil))))))))))))))))), ?_⟩
    have hl := W.len
    have hc3 := (Ins.code_lt ok).2
    have hrr : ∃ r, atI xs 1 = some (.int r) ∧ Rg r := by
      cases i with
      | set r w => exact ⟨r, by rw [show xs = _ from hi] <;> rfl, ok.1⟩
      | copy r s => exact ⟨r, by rw [show xs = _ from hi] <;> rfl, ok.1⟩
      | op c r s => exact ⟨r, by rw [show xs = _ from hi] <;> rfl, ok.2.1⟩
      | frame r s => exact ⟨r, by rw [show xs = _ from hi] <;> rfl, ok.1⟩
      | input r => exact ⟨r, by rw [show xs = _ from hi] <;> rfl, ok⟩
      | output r => exact ⟨r, by rw [show xs = _ from hi] <;> rfl, ok⟩
      | _ => exact absurd hc (by intro z; cases z)
    obtain ⟨r, hr1, hr2⟩ := hrr
    refine q_asg (v := .str (nm i.code)) (evI hq (ev_var rfl) hi.head) fun H1 e1 => ?_
    have q1 := ex_t e1 hq
    have M1 := M.ex e1
    refine q_asg (v := .int r) (evI q1 (ev_var rfl) hr1) fun H2 e2 => ?_
    have q2 := ex_t e2 q1
    have M2 := M1.ex e2
    have e12 := e1.trans e2
    generalize hcd : i.code = c at hc hc3
    refine s_if (b := decide (c = 1)) (et_nmQ (d := 1) (ev_var rfl) hc3 (by decide) rfl rfl) (fun hb H3 e3 => ?_) (fun hb H3 e3 => ?_)
    · have hb := of_decide_eq_true hb
      cases i with
      | set r' x =>
        obtain rfl : xs = [.str (nm 1), .int r', .int x] := hi
        obtain rfl : r' = r := V.int.inj (Option.some.inj (show some (V.int r') = some (V.int r) from hr1))
        exact sM_reg (M2.ex e3) hl hr2 (evI (ex_t e3 q2) (ev_var rfl) rfl) (evM_registers (ev_var rfl) (M2.ex e3) T) (ev_var rfl) fun H4 M4 c4 => k H4 M4 ((Chg.of (e12.trans e3)).trans c4)
      | op c' r s => exact absurd ok.1 (by simp only [Ins.code] at hcd; omega)
      | _ => exact absurd hb (by rw [← hcd]; intro z; cases z)
    have hb1 := of_decide_eq_false hb
    refine s_if (b := decide (c = 2)) (et_nmQ (d := 2) (ev_var rfl) hc3 (by decide) rfl rfl) (fun hb H4 e4 => ?_) (fun hb H4 e4 => ?_)
    · have hb := of_decide_eq_true hb
      have e34 := e3.trans e4
      cases i with
      | copy r' s' =>
        obtain rfl : xs = [.str (nm 2), .int r', .int s'] := hi
        obtain rfl : r' = r := V.int.inj (Option.some.inj (show some (V.int r') = some (V.int r) from hr1))
        exact sM_reg (M2.ex e34) hl hr2 (evR (ev_var rfl) (M2.ex e34) T hl ok.2 (evI (ex_t e34 q2) (ev_var rfl) rfl)) (evM_registers (ev_var rfl) (M2.ex e34) T) (ev_var rfl) fun H5 M5 c5 => k H5 M5 ((Chg.of (e12.trans e34)).trans c5)
      | op c' r s => exact absurd ok.1 (by simp only [Ins.code] at hcd; omega)
      | _ => exact absurd hb (by rw [← hcd]; intro z; cases z)
    have hb2 := of_decide_eq_false hb
    have e34 := e3.trans e4
    refine s_if (b := decide (3 ≤ c ∧ c ≤ 13)) (et_ops (ev_var rfl) hc3) (fun hb H5 e5 => ?_) (fun hb H5 e5 => ?_)
    · have hb := of_decide_eq_true hb
      have e35 := e34.trans e5
      cases i with
      | op c' r' s' =>
        obtain rfl : xs = [.str (nm c'), .int r', .int s'] := hi
        obtain rfl : c' = c := hcd
        obtain rfl : r' = r := V.int.inj (Option.some.inj (show some (V.int r') = some (V.int r) from hr1))
        exact sM_reg (M2.ex e35) hl hr2 (ev_call (vs := [.str (nm c'), .int (m.rg r'), .int (m.rg s')]) (ea_cons (ev_var rfl) (ea_cons (evR (ev_var rfl) (M2.ex e35) T hl ok.2.1 (ev_var rfl)) (ea_cons (evR (ev_var rfl) (M2.ex e35) T hl ok.2.2 (evI (ex_t e35 q2) (ev_var rfl) rfl)) ea_nil))) (sp_comb ok.1 (rg_word W _) (rg_word W _))) (evM_registers (ev_var rfl) (M2.ex e35) T) (ev_var rfl) fun H6 M6 c6 => k H6 M6 ((Chg.of (e12.trans e35)).trans c6)
      | _ => exact absurd hb (by rw [← hcd]; simp [Ins.code])
    have hb3 := of_decide_eq_false hb
    have e35 := e34.trans e5
    refine s_if (b := decide (c = 18)) (et_nmQ (d := 18) (ev_var rfl) hc3 (by decide) rfl rfl) (fun hb H6 e6 => ?_) (fun hb H6 e6 => ?_)
    · have hb := of_decide_eq_true hb
      have e36 := e35.trans e6
      cases i with
      | frame r' x =>
        obtain rfl : xs = [.str (nm 18), .int r', .int x] := hi
        obtain rfl : r' = r := V.int.inj (Option.some.inj (show some (V.int r') = some (V.int r) from hr1))
        exact sM_reg (M2.ex e36) hl hr2 (ev_op (ev_op (evM_sp (ev_var rfl) (M2.ex e36) T) (evI (ex_t e36 q2) (ev_var rfl) rfl) rv_I0) ev_c (rv_I (by show (0:Int) < 65536; decide))) (evM_registers (ev_var rfl) (M2.ex e36) T) (ev_var rfl) fun H7 M7 c7 => k H7 M7 ((Chg.of (e12.trans e36)).trans c7)
      | op c' r s => exact absurd ok.1 (by simp only [Ins.code] at hcd; omega)
      | _ => exact absurd hb (by rw [← hcd]; intro z; cases z)
    have hb4 := of_decide_eq_false hb
    have e36 := e35.trans e6
    refine s_if (b := decide (c = 28)) (et_nmQ (d := 28) (ev_var rfl) hc3 (by decide) rfl rfl) (fun hb H7 e7 => ?_) (fun hb H7 e7 => ?_)
    · have hb := of_decide_eq_true hb
      have e37 := e36.trans e7
      cases i with
      | input r' =>
        obtain rfl : xs = [.str (nm 28), .int r'] := hi
        obtain rfl : r' = r := V.int.inj (Option.some.inj (show some (V.int r') = some (V.int r) from hr1))
        have M7 := M2.ex e37
        obtain ⟨s', g, _⟩ := M7.st
        refine meth_raw0 (ev_var rfl) g (mfl_meth _ nmeth_taken) fun H8 e8 => ⟨a, m, rfl, M7.ex e8, W.tk, fun H9 M9 c9 => ?_⟩
        exact sM_reg (te := tC (.int (inM m))) (ta := tFld K (tVar 0) "_registers") (tb := tVar 3) M9 hl hr2 ev_c (evM_registers (ev_var rfl) M9 T) (ev_var rfl) fun H10 M10 c10 => k H10 M10 (((Chg.of ((e12.trans e37).trans e8)).trans c9).trans c10)
      | op c' r s => exact absurd ok.1 (by simp only [Ins.code] at hcd; omega)
      | _ => exact absurd hb (by rw [← hcd]; intro z; cases z)
    have hb5 := of_decide_eq_false hb
    have e37 := e36.trans e7
    cases i with
    | output r' =>
      obtain rfl : xs = [.str (nm 29), .int r'] := hi
      obtain rfl : r' = r := V.int.inj (Option.some.inj (show some (V.int r') = some (V.int r) from hr1))
      exact sM_out (v := m.rg r') (M2.ex e37) (by have := W.osz; omega) (evM_outputs (ev_var rfl) (M2.ex e37) T) (evR (ev_var rfl) (M2.ex e37) T hl hr2 (ev_var rfl)) fun H8 M8 c8 => k H8 M8 ((Chg.of (e12.trans e37)).trans c8)
    | op c' r s => exact absurd ok.1 (by simp only [Ins.code] at hcd; omega)
    | _ => simp only [Ins.code] at hcd; subst hcd; first | exact absurd hc (by decide) | exact absurd rfl hb1 | exact absurd rfl hb2 | exact absurd rfl hb4 | exact absurd rfl hb5
end

def spRun (CI CM : Addr) : Sp := fun vs H Q _ => ∃ (a : MA) (m : M) (b n : Nat), vs = [.ref a.p, .int (n : Int)] ∧ MOk CI CM a H m ∧ m.Wf b ∧ b + n ≤ 5000 ∧ RetM CI CM a (runM a.d n m) H Q (.int (madeM a.d n m))
def spSta (CI CM : Addr) : Sp := fun vs H Q _ => ∃ (a : MA) (m : M), vs = [.ref a.p] ∧ MOk CI CM a H m ∧ RetP (fun v H2 => ∃ p, v = .ref p ∧ H2 p = some (.tup (staV m.st))) H Q
def spRgs (CI CM : Addr) : Sp := fun vs H Q _ => ∃ (a : MA) (m : M), vs = [.ref a.p] ∧ MOk CI CM a H m ∧ RetL (m.regs.map V.int) H Q
def spOut (CI CM : Addr) : Sp := fun vs H Q _ => ∃ (a : MA) (m : M), vs = [.ref a.p] ∧ MOk CI CM a H m ∧ RetL (m.out.map V.int) H Q
def spLeft (CI CM : Addr) : Sp := fun vs H Q _ => ∃ (a : MA) (m : M), vs = [.ref a.p] ∧ MOk CI CM a H m ∧ RetV (.int ((m.inp.length : Int) - (m.tk : Int))) H Q
theorem sp_insAt {K : PySem.W.Frag} {CI : Addr} {im dx da : Addr} {d : List Int} {e a : Int} {H : Hp} (h : ImgOk CI H im dx da d e) (h0 : 0 ≤ a) : SpP (spInsAt K CI) ([.ref im, .int a] ++ []) H (fun v H2 => InsV K H2 v (dec (d.drop a.toNat))) := fun H1 x Q q E => ⟨im, dx, da, d, e, a, rfl, h.ex x, h0, q⟩
theorem sp_next {CI : Addr} {im dx da : Addr} {d : List Int} {e a : Int} {H : Hp} (h : ImgOk CI H im dx da d e) (h0 : 0 ≤ a) : SpV (spNext CI) ([.ref im, .int a] ++ []) H (.int (nextA a (dec (d.drop a.toNat)))) := fun H1 x Q q E => ⟨im, dx, da, d, e, a, rfl, h.ex x, h0, q⟩
section
variable {P : Program} {w : World} {K : PySem.W.Frag} {mg : Str → Option Value} {base : Heap} {CI CM : Addr}
theorem ok_M_step (T : Txt K mg CI CM) : FnM P w K mg base CM "step" 6 ["self"] (spStep CI CM) := by
  refine fnM_of T.d_M_step sc_M_step (fun _ _ _ _ _ _ us hl => match us, hl with | [_], _ => rfl) (fun vs H Q E h => ?_) fun f cdv A outer s H vs Q E hr h => ?_
  · obtain ⟨a, m, b, rfl, _⟩ := h
    rfl
  · obtain ⟨a, m, b, rfl, M, W, hb, k⟩ := h
    have nd := sc_M_step.nd
    have hu := hu_of hr
    refine ⟨_, (pss_cons (s_fldaug_ K (pv 0) pe_int in_add)
      (pss_cons (ps_set (i := 1) nd rfl (Or.inl rfl) (pe_fn (ok_instruction_at T) (hr.mono (by decide)) (by rfl) (pa_cons (p_fld K (pv 0) rfl) (pa_cons (p_fld K (pv 0) rfl) pa_nil))))
      (pss_cons (ps_set (i := 2) nd rfl (Or.inl rfl) (pe_fn (ok_next_address T) (hr.mono (by decide)) (by rfl) (pa_cons (p_fld K (pv 0) rfl) (pa_cons (p_fld K (pv 0) rfl) pa_nil))))
      (pss_one (ps_if (pt_cmpR op_isN1 (pv 1) pe_non (nomark _)) (pss_one (ps_expr (pe_mt (pv 0) T.clM (ok_M_trap T) (hr.mono (by decide)) (pa_cons pe_str pa_nil)))) (pss_one (ps_if (pt_cmpR (o_in K) (pe_ix (ixt K) (pv 1) pe_int (fun _ _ => rfl)) (pe_tup (pa_cons pe_str (pa_cons pe_str (pa_cons pe_str (pa_cons pe_str (pa_cons pe_str (pa_cons pe_str (pa_cons pe_str (pa_cons pe_str (pa_cons pe_str pa_nil)))))))))) (by rfl)) (pss_one (ps_expr (pe_mt (pv 0) T.clM (ok_M_go T) (hr.mono (by decide)) (pa_cons (pv 1) (pa_cons (pv 2) pa_nil))))) (pss_one (ps_if (pt_cmpR (o_in K) (pe_ix (ixt K) (pv 1) pe_int (fun _ _ => rfl)) (pe_tup (pa_cons pe_str (pa_cons pe_str pa_nil))) (by rfl)) (pss_one (ps_expr (pe_mt (pv 0) T.clM (ok_M_shift T) (hr.mono (by decide)) (pa_cons (pv 1) (pa_cons (pv 2) pa_nil))))) (pss_one (ps_if (pt_cmpR (o_in K) (pe_ix (ixt K) (pv 1) pe_int (fun _ _ => rfl)) (pe_tup (pa_cons pe_str (pa_cons pe_str (pa_cons pe_str (pa_cons pe_str pa_nil))))) (by rfl)) (pss_cons (ps_expr (pe_mt (pv 0) T.clM (ok_M_access T) (hr.mono (by decide)) (pa_cons (pv 1) pa_nil)))
      (pss_one (s_fld_ K (pv 0) (pv 2) rfl))) (pss_cons (ps_expr (pe_mt (pv 0) T.clM (ok_M_compute T) (hr.mono (by decide)) (pa_cons (pv 1) pa_nil)))
      (pss_one (s_fld_ K (pv 0) (pv 2) rfl)))))))))))))), ?_⟩
    have W1 : ({ m with n := m.n + 1 } : UW.M).Wf b := W.n'
    refine q_st (sM_steps (ev_var rfl) ev_c M T fun H1 M1 c1 => ?_)
    have hs : ∃ m1 : UW.M, ({ m with n := m.n + 1 } : UW.M) = m1 ∧ stepM a.d m = (match dec (a.d.drop m1.at_.toNat) with
      | none => { m1 with st := .code }
      | some (i, z) => exM i (m1.at_ + z) m1) := ⟨_, rfl, rfl⟩
    obtain ⟨m1, hm, hs⟩ := hs
    rw [hm] at M1 W1
    have h0 : 0 ≤ m1.at_ := W1.at_
    rw [hs] at k
    refine q_asgP (evp_call (vs := [.ref a.im, .int m1.at_]) (ea_cons (evM_image (ev_var rfl) M1 T) (ea_cons (evM_address (ev_var rfl) M1 T) ea_nil)) (sp_insAt (K := K) M1.img h0)) fun v H2 e2 hv => ?_
    have M2 := M1.ex e2
    refine q_asg (ev_call (vs := [.ref a.im, .int m1.at_]) (ea_cons (evM_image (ev_var rfl) M2 T) (ea_cons (evM_address (ev_var rfl) M2 T) ea_nil)) (sp_next M2.img h0)) fun H3 e3 => ?_
    have M3 := M2.ex e3
    cases o : dec (a.d.drop m1.at_.toNat) with
    | none =>
      rw [o] at hv k
      obtain rfl : v = .non := hv
      refine s_yes (et_test (ev_op (ev_var rfl) ev_c (rv_isNb rfl))) fun H4 e4 => ?_
      exact sM_trap (s := .code) (ev_var rfl) (M3.ex e4) rfl (ea_cons ev_c ea_nil) fun H5 M5 c5 => k H5 M5 ((c1.trans (Chg.of ((e2.trans e3).trans e4))).trans c5)
    | some x =>
      obtain ⟨i, z⟩ := x
      obtain ⟨ok, _, _⟩ := dec_ok (bytes_drop M.img.by_ _) o
      rw [o] at hv k
      obtain ⟨q, xs, rfl, hq, hi⟩ := hv
      have hc3 := (Ins.code_lt ok).2
      refine s_no (et_test (ev_op (ev_var rfl) ev_c (rv_isNb rfl))) fun H4 e4 => ?_
      have q4 := ex_t (e3.trans e4) hq
      have i4 := hi.ex (e3.trans e4)
      have M4 := M3.ex e4
      have c4 := c1.trans (Chg.of ((e2.trans e3).trans e4))
      simp only [exM] at k
      refine s_if (b := isGo i.code) (et_nmI [21, 22, 23, 24, 25, 26, 27, 30, 31] (et_test (ev_inU (evI q4 (ev_var rfl) i4.head) (eu_tup (ea_cons ev_c (ea_cons ev_c (ea_cons ev_c (ea_cons ev_c (ea_cons ev_c (ea_cons ev_c (ea_cons ev_c (ea_cons ev_c (ea_cons ev_c ea_nil))))))))) (Nat.le_of_ble_eq_true rfl)) rfl rfl)) hc3 (by decide) rfl) (fun hb1 H5 e5 => ?_) (fun hb1 H5 e5 => ?_)
      · rw [if_pos hb1] at k
        have M5 := M4.ex e5
        obtain ⟨s', g, _⟩ := M5.st
        exact s_call (ev_var rfl) g (mfl_meth _ nmeth_go) (ea_cons (ev_var rfl) (ea_cons (ev_var rfl) ea_nil)) fun H6 e6 => ⟨a, _, b, q, xs, i, _, rfl, ex_t (e5.trans e6) q4, i4.ex (e5.trans e6), ok, hb1, M5.ex e6, W1, fun H7 M7 c7 => k H7 M7 ((c4.trans (Chg.of (e5.trans e6))).trans c7)⟩
      rw [if_neg (by rw [hb1]; intro z; cases z)] at k
      refine s_if (b := isSh i.code) (et_nmI [19, 20] (et_test (ev_inU (evI (ex_t e5 q4) (ev_var rfl) i4.head) (eu_tup (ea_cons ev_c (ea_cons ev_c ea_nil)) (Nat.le_of_ble_eq_true rfl)) rfl rfl)) hc3 (by decide) rfl) (fun hb2 H6 e6 => ?_) (fun hb2 H6 e6 => ?_)
      · rw [if_pos hb2] at k
        have e56 := e5.trans e6
        have M5 := M4.ex e56
        obtain ⟨s', g, _⟩ := M5.st
        exact s_call (ev_var rfl) g (mfl_meth _ nmeth_shift) (ea_cons (ev_var rfl) (ea_cons (ev_var rfl) ea_nil)) fun H7 e7 => ⟨a, _, q, xs, i, _, rfl, ex_t (e56.trans e7) q4, i4.ex (e56.trans e7), ok, hb2, M5.ex e7, fun H8 M8 c8 => k H8 M8 ((c4.trans (Chg.of (e56.trans e7))).trans c8)⟩
      rw [if_neg (by rw [hb2]; intro z; cases z)] at k
      have e56 := e5.trans e6
      refine s_if (b := isAc i.code) (et_nmI [14, 15, 16, 17] (et_test (ev_inU (evI (ex_t e56 q4) (ev_var rfl) i4.head) (eu_tup (ea_cons ev_c (ea_cons ev_c (ea_cons ev_c (ea_cons ev_c ea_nil)))) (Nat.le_of_ble_eq_true rfl)) rfl rfl)) hc3 (by decide) rfl) (fun hb3 H7 e7 => ?_) (fun hb3 H7 e7 => ?_)
      · rw [if_pos hb3] at k
        have e57 := e56.trans e7
        have M5 := M4.ex e57
        obtain ⟨s', g, _⟩ := M5.st
        refine q_st (s_call (ev_var rfl) g (mfl_meth _ nmeth_access) (ea_cons (ev_var rfl) ea_nil) fun H8 e8 => ⟨a, _, b, q, xs, i, rfl, ex_t (e57.trans e8) q4, i4.ex (e57.trans e8), ok, hb3, M5.ex e8, W1, hb, fun H9 M9 c9 => ?_⟩)
        exact sM_address (v := m1.at_ + z) (ev_var rfl) (ev_var rfl) M9 T fun H10 M10 c10 => k H10 M10 (((c4.trans (Chg.of (e57.trans e8))).trans c9).trans c10)
      rw [if_neg (by rw [hb3]; intro z; cases z)] at k
      have e57 := e56.trans e7
      have M5 := M4.ex e57
      obtain ⟨s', g, _⟩ := M5.st
      have hco : isCo i.code = true := by
        have h1 := (Ins.code_lt ok).1
        have : ∀ c, 1 ≤ c → c < 32 → isGo c = false → isSh c = false → isAc c = false → isCo c = true := by
          intro c h1 h2
          have : ∀ c, c < 32 → 1 ≤ c → isGo c = false → isSh c = false → isAc c = false → isCo c = true := by decide +kernel
          exact this c h2 h1
        exact this _ h1 hc3 hb1 hb2 hb3
      refine q_st (s_call (ev_var rfl) g (mfl_meth _ nmeth_compute) (ea_cons (ev_var rfl) ea_nil) fun H8 e8 => ⟨a, _, b, q, xs, i, rfl, ex_t (e57.trans e8) q4, i4.ex (e57.trans e8), ok, hco, M5.ex e8, W1, hb, fun H9 M9 c9 => ?_⟩)
      exact sM_address (v := m1.at_ + z) (ev_var rfl) (ev_var rfl) M9 T fun H10 M10 c10 => k H10 M10 (((c4.trans (Chg.of (e57.trans e8))).trans c9).trans c10)
theorem ok_M_status (T : Txt K mg CI CM) : FnM P w K mg base CM "status" 1 ["self"] (spSta CI CM) := by
  refine fnM_of T.d_M_status sc_M_status (fun _ _ _ _ _ _ us hl => match us, hl with | [_], _ => rfl) (fun vs H Q E h => ?_) fun f cdv A outer s H vs Q E hr h => ?_
  · obtain ⟨a, m, rfl, _⟩ := h
    rfl
  · obtain ⟨a, m, rfl, M, k⟩ := h
    have nd := sc_M_status.nd
    have hu := hu_of hr
    refine ⟨_, (pss_one (ps_ret (p_fld K (pv 0) rfl))), ?_⟩
    obtain ⟨s', hev, hs⟩ := evM_status (te := tVar 0) (σ := start nm_M_status [.ref a.p]) (ev_var rfl) M T
    exact s_ret hev fun H1 e1 => k _ _ e1 ⟨s', rfl, e1 _ _ hs⟩
theorem ok_M_registers (T : Txt K mg CI CM) : FnM P w K mg base CM "registers" 1 ["self"] (spRgs CI CM) := by
  refine fnM_of T.d_M_registers sc_M_registers (fun _ _ _ _ _ _ us hl => match us, hl with | [_], _ => rfl) (fun vs H Q E h => ?_) fun f cdv A outer s H vs Q E hr h => ?_
  · obtain ⟨a, m, rfl, _⟩ := h
    rfl
  · obtain ⟨a, m, rfl, M, k⟩ := h
    have nd := sc_M_registers.nd
    have hu := hu_of hr
    refine ⟨_, (pss_one (ps_ret (pe_callTy (cr_list K) (by rfl) T.n_list (by decide +kernel) (pa_cons (p_fld K (pv 0) rfl) pa_nil)))), ?_⟩
    exact s_retL (el_list (evM_registers (ev_var rfl) M T) (sq_of M.rg)) fun p H1 hp e1 h1 => k p H1 hp e1 h1
theorem ok_M_outputs (T : Txt K mg CI CM) : FnM P w K mg base CM "outputs" 1 ["self"] (spOut CI CM) := by
  refine fnM_of T.d_M_outputs sc_M_outputs (fun _ _ _ _ _ _ us hl => match us, hl with | [_], _ => rfl) (fun vs H Q E h => ?_) fun f cdv A outer s H vs Q E hr h => ?_
  · obtain ⟨a, m, rfl, _⟩ := h
    rfl
  · obtain ⟨a, m, rfl, M, k⟩ := h
    have nd := sc_M_outputs.nd
    have hu := hu_of hr
    refine ⟨_, (pss_one (ps_ret (pe_callTy (cr_list K) (by rfl) T.n_list (by decide +kernel) (pa_cons (p_fld K (pv 0) rfl) pa_nil)))), ?_⟩
    exact s_retL (el_list (evM_outputs (ev_var rfl) M T) (sq_of M.ou)) fun p H1 hp e1 h1 => k p H1 hp e1 h1
theorem ok_M_inputs_left (T : Txt K mg CI CM) : FnM P w K mg base CM "inputs_left" 1 ["self"] (spLeft CI CM) := by
  refine fnM_of T.d_M_inputs_left sc_M_inputs_left (fun _ _ _ _ _ _ us hl => match us, hl with | [_], _ => rfl) (fun vs H Q E h => ?_) fun f cdv A outer s H vs Q E hr h => ?_
  · obtain ⟨a, m, rfl, _⟩ := h
    rfl
  · obtain ⟨a, m, rfl, M, k⟩ := h
    have nd := sc_M_inputs_left.nd
    have hu := hu_of hr
    refine ⟨_, (pss_one (ps_ret (pe_op op_sub (pe_callB (cr_len K) (by rfl) T.n_len (by decide +kernel) (pa_cons (p_fld K (pv 0) rfl) pa_nil)) (p_fld K (pv 0) rfl)))), ?_⟩
    exact s_ret (ev_op (ev_lenI (evM_inputs (ev_var rfl) M T) (sq_of M.ip)) (evM_taken (ev_var rfl) M T) rv_I0) fun H1 e1 => k.go e1
end

theorem runM_stop (d : List Int) (k : Nat) (m : M) (h : ¬ m.st = .run) : runM d k m = m := by
  cases k with
  | zero => rfl
  | succ k => rw [runM, if_neg h]
theorem madeM_stop (d : List Int) (k : Nat) (m : M) (h : ¬ m.st = .run) : madeM d k m = 0 := by
  cases k with
  | zero => rfl
  | succ k => rw [madeM, if_neg h]
theorem ev_sta {K : PySem.W.Frag} {σ : L2.St} {H : Hp} {ta : TE} {p : Addr} {s : Sta} (h : Ev ta σ H (.ref p)) (hp : H p = some (.tup (staV s))) : Ev (tOp (rEqD K) ta (tTup (tCons (tC (.str "running")) tNil))) σ H (.bl (decide (s = .run))) :=
  ev_opU h (eu_tup (ea_cons ev_c ea_nil) (Nat.le_of_ble_eq_true rfl)) fun q H1 hq e1 H2 e2 Q k => ⟨staD s, staD .run, staD_ok s (st_of (e2 _ _ (e1 _ _ hp))), staD_ok .run (st_of (e2 _ _ hq)), staD_shaped _, staD_shaped _, by rw [staD_run]; exact k H2 (Ex.refl H2)⟩
section
variable {P : Program} {w : World} {K : PySem.W.Frag} {mg : Str → Option Value} {base : Heap} {CI CM : Addr}
theorem ok_M_run (T : Txt K mg CI CM) : FnM P w K mg base CM "run" 7 ["self", "steps"] (spRun CI CM) := by
  refine fnM_of T.d_M_run sc_M_run (fun _ _ _ _ _ _ us hl => match us, hl with | [_, _], _ => rfl) (fun vs H Q E h => ?_) fun f cdv A outer s H vs Q E hr h => ?_
  · obtain ⟨a, m, b, n, rfl, _⟩ := h
    rfl
  · obtain ⟨a, m, b, n, rfl, M, W, hb, k⟩ := h
    have nd := sc_M_run.nd
    have hu := hu_of hr
    refine ⟨_, (pss_cons (ps_set (i := 2) nd rfl (Or.inl rfl) pe_int)
      (pss_cons (ps_while PassesOwn.never (PW.pt (pw_and (pt_cmpR op_lt (pv 2) (pv 1) (nomark _)) (pw_and1 (pt_cmpR (o_eqD K hr.units) (p_fld K (pv 0) rfl) (pe_tup (pa_cons pe_str pa_nil)) (nomark _))))) (pss_cons (ps_expr (pe_mt0 (pv 0) T.clM (ok_M_step T) (hr.mono (by decide))))
      (pss_one (ps_aug (i := 2) nd rfl (Or.inl rfl) pe_int ip_add))))
      (pss_one (ps_ret (pv 2))))), ?_⟩
    refine q_asg (v := .int 0) ev_c fun H1 e1 => ?_
    refine q_while (fun mm σ' H' => ∃ (j : Nat) (m' : UW.M), j ≤ n ∧ mm = n - j ∧ σ' = (start nm_M_run [.ref a.p, .int (n : Int)]).set 2 (some (.int (j : Int))) ∧ MOk CI CM a H' m' ∧ Chg a.mut H H' ∧ m'.Wf (b + j) ∧ runM a.d n m = runM a.d (n - j) m' ∧ madeM a.d n m = j + madeM a.d (n - j) m')
      n ⟨0, m, Nat.zero_le _, rfl, rfl, M.ex e1, Chg.of e1, W, rfl, by rw [Nat.sub_zero, Nat.zero_add]⟩ fun mm σ' H' h => ?_
    obtain ⟨j, m', hj, rfl, rfl, M', c', W', h1, h2⟩ := h
    obtain ⟨s', hev, hs⟩ := evM_status (te := tVar 0) (σ := (start nm_M_run [.ref a.p, .int (n : Int)]).set 2 (some (.int (j : Int)))) (ev_var rfl) M' T
    refine ⟨decide ((j : Int) < (n : Int)) && decide (m'.st = .run), et_and (et_test (ev_op (ev_var rfl) (ev_var rfl) rv_I0)) (fun _ => et_test (ev_sta hev hs)), fun hb2 H2 e2 => ?_, fun hb2 H2 e2 => ?_⟩
    · have hb3 : (j : Int) < (n : Int) ∧ m'.st = .run := by simpa using hb2
      obtain ⟨hjn, hr'⟩ := hb3
      have hjn : j < n := by omega
      refine ⟨fun σ2 H3 => ∃ m', m' < n - j ∧ ∃ (j1 : Nat) (m2 : UW.M), j1 ≤ n ∧ m' = n - j1 ∧ σ2 = (start nm_M_run [.ref a.p, .int (n : Int)]).set 2 (some (.int (j1 : Int))) ∧ MOk CI CM a H3 m2 ∧ Chg a.mut H H3 ∧ m2.Wf (b + j1) ∧ runM a.d n m = runM a.d (n - j1) m2 ∧ madeM a.d n m = j1 + madeM a.d (n - j1) m2, fun σ2 H3 h => h, ?_⟩
      have M2 := M'.ex e2
      obtain ⟨s2, g, _⟩ := M2.st
      refine q_st (s_call (ev_var rfl) g (mfl_meth _ nmeth_step) ea_nil fun H3 e3 => ⟨a, m', b + j, rfl, M2.ex e3, W', by omega, fun H4 M4 c4 => ?_⟩)
      refine s_aug (f := fun x y => x + y) (a := (j : Int)) (b := 1) rfl ev_c fun H5 e5 => ?_
      refine ⟨n - (j + 1), by omega, j + 1, stepM a.d m', by omega, rfl, rfl, M4.ex e5, ((c'.trans (Chg.of (e2.trans e3))).trans c4).trans (Chg.of e5), stepM_wf M'.img.by_ W', ?_, ?_⟩
      · rw [h1, show n - j = (n - (j + 1)) + 1 by omega, runM, if_pos hr']
      · rw [h2, show n - j = (n - (j + 1)) + 1 by omega, madeM, if_pos hr']
        omega
    · have hb3 : ¬ ((j : Int) < (n : Int) ∧ m'.st = .run) := by simpa using hb2
      have e : runM a.d n m = m' ∧ madeM a.d n m = j := by
        rw [h1, h2]
        by_cases z : m'.st = .run
        · have : n - j = 0 := by
            have : ¬ (j : Int) < (n : Int) := fun q => hb3 ⟨q, z⟩
            omega
          rw [this]
          exact ⟨rfl, rfl⟩
        · rw [runM_stop _ _ _ z, madeM_stop _ _ _ z]
          exact ⟨rfl, rfl⟩
      rw [e.1, e.2] at k
      exact s_ret (v := .int (j : Int)) (ev_var rfl) fun H3 e3 => k H3 (M'.ex (e2.trans e3)) (c'.trans (Chg.of (e2.trans e3)))
end

section
variable {prog : Program} {w : World} {A : Around} {E : Value → Shared → Prop} {s : Shared} {it l : Addr} {items : Array Value}
theorem rv_extend {R : Result → Shared → Prop} (hh : A.handled = none) (ri : s.heap.IsRevIter it l ((items.size : Int) - 1)) (rl : s.heap.IsList l items) (hne : l ≠ it) (hn : items.size ≤ sizeLine) (D : Addr) (hDi : D ≠ it) (hDl : D ≠ l) (res : Value) (c0 : Nat)
    (hD : s.heap.get? D = some { cls := .type "list", data := .seq #[] c0 })
    (hR : ∀ h2 tk acc c2, (∀ b o, b ≠ D → b ≠ it → s.heap.get? b = some o → h2.get? b = some o) → h2.get? D = some { cls := .type "list", dict := none, data := .seq acc c2, slots := #[] } → ItemsOf (fun i v => items[items.size - 1 - i]? = some v) acc items.size → R (.ok (.ret res)) { s with heap := h2, toks := tk }) :
    wpAny (model prog w) A.in1 (Builtin.List.listExtendWith (.ref D) (.ref it) res)
      (fun fin t => match fin with | .done f => R (.ok f) t | .again c => c.quiet = true ∧ codeAny (model prog w) A c R t) (fun e t => R (.error e) t) s := by
  have Wk := (Walks.listRev (prog := prog) (w := w) (A := A.in1) hh it l hne items).toS
  have hDf : D ∉ [it, l] := by simp only [List.mem_cons, List.not_mem_nil, or_false, not_or]; exact ⟨hDi, hDl⟩
  have ty : s.TypeIs (.ref it) "list_reverseiterator" := Heap.IsRevIter.typeIs (s := s) ri
  have ns : Builtin.List.listSameRef (.ref D) (.ref it) = false := by simp [Builtin.List.listSameRef, hDi]
  unfold Builtin.List.listExtendWith
  refine wpAny_bind (wpAny_typeOf ty ?_)
  rw [if_neg (by rw [ns]; decide)]
  refine wpAny_bind (wpAny_pyIter_revIter ri (wpAny_bind (wpAny_holding ?_)))
  unfold Builtin.List.listLengthHint
  refine wpAny_bind (wpAny_specialOf ty RT.nolen_lri ?_)
  show wpAny _ A.in1 (specialOf (.ref it) (Str.ofString "__length_hint__") >>= _) _ _ s
  refine wpAny_bind (wpAny_specialOf ty RT.hint_lri ?_)
  generalize hw : ("list_reverseiterator.__length_hint__" : String) = wid
  wp_delta
  rw [show splitId wid = some ("list_reverseiterator", "__length_hint__") from by rw [← hw]; decide +kernel]
  subst hw
  refine wpAny_bind (wpAny_isInstance (b := true) ty (by rw [isSubtype_type]; kernel_rfl) (wpAny_pure ?_))
  rw [if_neg (by decide)]
  have z0 : ((items.size : Nat) : Int) - 1 = ((items.size : Nat) : Int) - 1 - ((0 : Nat) : Int) := by omega
  refine wpAny_pure ⟨plainId_quiet F.plain_extend_loop _, codeAny_extend_loopS Wk hn D hDf res items.size 0 _ #[] c0 rfl (Nat.zero_le _) ⟨Nat.zero_le _, by rw [← z0]; exact ri, rl⟩ hD (ItemsOf.nil _) fun t acc c2 hm hD2 hacc => ?_⟩
  rw [Moved.eq_with hm]
  refine hR t.heap t.toks acc c2 (fun b o h1 h2 e => hm.heap b o (fun z => ?_) e) hD2 hacc
  rcases List.mem_cons.mp z with q | q
  · exact h1 q
  · exact h2 (List.mem_singleton.mp q)
theorem rv_init {R : Result → Shared → Prop} (hh : A.handled = none) (ri : s.heap.IsRevIter it l ((items.size : Int) - 1)) (rl : s.heap.IsList l items) (hne : l ≠ it) (hn : items.size ≤ sizeLine) (D : Addr) (hDi : D ≠ it) (hDl : D ≠ l) (hD : s.heap.get? D = some { cls := .type "list", data := .seq #[] })
    (hR : ∀ h2 tk acc c2, (∀ b o, b ≠ D → b ≠ it → s.heap.get? b = some o → h2.get? b = some o) → h2.get? D = some { cls := .type "list", dict := none, data := .seq acc c2, slots := #[] } → ItemsOf (fun i v => items[items.size - 1 - i]? = some v) acc items.size → R (.ok (.ret .none)) { s with heap := h2, toks := tk }) :
    wpAny (model prog w) A.in1 (Builtin.«list.__init__» ⟨[.ref D, .ref it], []⟩)
      (fun fin t => match fin with | .done f => R (.ok f) t | .again c => c.quiet = true ∧ codeAny (model prog w) A c R t) (fun e t => R (.error e) t) s := by
  show wpAny _ _ (do let was ← Builtin.List.listItems (.ref D); Builtin.List.listUpdate (.ref D) (fun _ => #[]); letGo was.toList.reverse; Builtin.List.listExtendWith (.ref D) (.ref it) .none) _ _ s
  unfold Builtin.List.listItems
  refine wpAny_bind (wpAny_bind (wpAny_seqItems hD rfl (wpAny_pure ?_)))
  show wpAny _ _ (updateSeq D (fun _ => #[]) >>= fun _ => letGo (#[] : Array Value).toList.reverse >>= fun _ => Builtin.List.listExtendWith (.ref D) (.ref it) .none) _ _ s
  have hD2 := Heap.get?_update_self (Obj.mapSeq (fun _ => (#[] : Array Value))) hD rfl
  have far : ∀ b o, b ≠ D → s.heap.get? b = some o → (s.heap.update D (Obj.mapSeq (fun _ => (#[] : Array Value)))).get? b = some o := fun b o hb e => (Heap.get?_update_other _ _ (Ne.symm hb)).trans e
  refine wpAny_bind (wpAny_updateSeq hD rfl (wpAny_bind (wpAny_letGo ?_)))
  exact rv_extend (s := { s with heap := s.heap.update D (Obj.mapSeq (fun _ => (#[] : Array Value))) }) hh (ri.at fun o e => far it o (Ne.symm hDi) e) (rl.at fun o e => far l o (Ne.symm hDl) e) hne hn D hDi hDl .none _ hD2 fun h2 tk acc c2 hk h3 hacc => hR h2 tk acc c2 (fun b o h1 h4 e => hk b o h1 h4 (far b o h1 e)) h3 hacc
theorem rv_call {Q : Value → Shared → Prop} (hh : A.handled = none) (ri : s.heap.IsRevIter it l ((items.size : Int) - 1)) (rl : s.heap.IsList l items) (hne : l ≠ it) (hn : items.size ≤ sizeLine)
    (hQ : ∀ h2 tk acc c2, (∀ b o, b ≠ it → s.heap.get? b = some o → h2.get? b = some o) → h2.get? s.heap.objs.size = some { cls := .type "list", dict := none, data := .seq acc c2, slots := #[] } → ItemsOf (fun i v => items[items.size - 1 - i]? = some v) acc items.size → Q (.ref s.heap.objs.size) { s with heap := h2, toks := tk }) :
    wpAny (model prog w) A (call (.type "list") [.ref it]) Q E s := by
  refine callType_codes (Q₁ := fun v t => v = .ref s.heap.objs.size ∧ t = { s with heap := s.heap.push { cls := .type "list", data := .seq #[] } }) F.called_list (F.typeCall_list_1 _) F.entry_list_init (code_list_new _ ⟨rfl, rfl⟩) fun v t h => ?_
  obtain ⟨rfl, rfl⟩ := h
  have hD : (s.heap.push { cls := .type "list", data := .seq #[] }).get? s.heap.objs.size = some { cls := .type "list", data := .seq #[] } := Heap.get?_push_size _ rfl
  have ni : s.heap.objs.size ≠ it := by
    obtain ⟨o, ho, _⟩ := id ri
    exact Nat.ne_of_gt (Heap.lt_size ho)
  have nl : s.heap.objs.size ≠ l := by
    obtain ⟨o, ho, _⟩ := id rl
    exact Nat.ne_of_gt (Heap.lt_size ho)
  refine ⟨⟨_, hD, rfl⟩, F.args_list_init_2 _ _, rv_init (A := A.in1) (s := { s with heap := s.heap.push { cls := .type "list", data := .seq #[] } }) hh (ri.at fun o e => Heap.get?_push_of_some _ e) (rl.push _) hne hn _ ni nl hD fun h2 tk acc c2 hk h3 hacc => ?_⟩
  exact ⟨rfl, hQ h2 tk acc c2 (fun b o hb e => hk b o (Nat.ne_of_lt (Heap.lt_size e)) hb (Heap.get?_push_of_some _ e)) h3 hacc⟩
end
/-- list(reversed(x)), x a list: a new list -/
def tListRev (K : PySem.W.Frag) (te : TE) : TE := fun σ H Q => te σ H fun v H1 => ∃ (a : Addr) (xs : List V), v = .ref a ∧ SqL K H1 a xs ∧ ∀ q, H1 q = none → Q (.ref q) (upd H1 q (.lst xs.reverse))
theorem pe_listRev {X : Cx} (K : PySem.W.Frag) {e : Expr} {te : TE} {p p2 pos pos2 : Pos} (hc : X.calm = true) (hg : Gl X "list") (hm : X.mg "list" = none) (hg2 : Gl X "reversed") (hm2 : X.mg "reversed" = none) (he : PE X e te)
    (hs : starEach [e] X.env = (false, eval e X.env) :: starEach [] X.env := by rfl)
    (hs2 : starEach [.Call (.Name "reversed" p2) [e] [] pos2] X.env = (false, eval (.Call (.Name "reversed" p2) [e] [] pos2) X.env) :: starEach [] X.env := by rfl) (h : X.K = K := by rfl) :
    PE X (.Call (.Name "list" p) [.Call (.Name "reversed" p2) [e] [] pos2] [] pos) (tListRev K te) := by
  subst h
  refine ⟨fun pins s σ H Q I h => ?_⟩
  refine Call_ (ld_blt I hg hm boot_list (PyProof.Rows.callWith_type1 (args_cons (Call_ (ld_blt I hg2 hm2 PyProof.Rows.boot_reversed (PyProof.Rows.callWith_type1 (args_cons (thn (he.run pins s σ H _ I h) fun u s1 ⟨v, H1, I1, r1, q1⟩ => args_nil ?_) hs) hs rfl))) hs2) hs2 rfl))
  obtain ⟨a, xs, rfl, hq, q⟩ := q1
  obtain rfl : u = Value.ref a := r1
  obtain ⟨its, rv, pl, hz⟩ := I1.list hq
  refine call_reversed_list pl.isList (args_nil ?_)
  obtain ⟨ol, hol, _⟩ := id pl.isList
  have hn : its.toArray.size ≤ sizeLine := by rw [List.size_toArray, ← rv.length]; exact hz
  refine rv_call (s := { s1 with heap := s1.heap.push (revObj a ((its.toArray.size : Int) - 1)) }) (I1.ok.hd hc) ⟨_, Heap.get?_push_size _ rfl, rfl, rfl⟩ (pl.isList.push _) (Nat.ne_of_lt (Heap.lt_size hol)) hn fun h2 tk acc c2 hk hD hi => ?_
  have kp : ∀ b o, s1.heap.get? b = some o → h2.get? b = some o := fun b o e => hk b o (Nat.ne_of_lt (Heap.lt_size e)) (Heap.get?_push_of_some _ e)
  have le : s1.heap.objs.size ≤ (s1.heap.push (revObj a ((its.toArray.size : Int) - 1))).objs.size := by simp [Heap.push]
  refine ⟨.ref (s1.heap.push (revObj a ((its.toArray.size : Int) - 1))).objs.size, upd H1 _ (.lst xs.reverse), I1.laid (t' := tk) kp le (show ObjOk X.prog X.w _ h2 _ (.lst xs.reverse) from ⟨by rw [List.length_reverse]; exact hz, acc.toList, c2, RT.vals_rev rv hi, by rw [Array.toArray_toList]; exact hD⟩), rfl, q _ (I1.hok.fresh le)⟩
theorem el_listRev {K : PySem.W.Frag} {te : TE} {σ : L2.St} {H : Hp} {a : Addr} {xs : List V} (h : Ev te σ H (.ref a)) (hx : SqL K H a xs) : EvL (tListRev K te) σ H xs.reverse := fun H1 e Q q =>
  h H1 e _ fun H2 e2 => ⟨a, xs, rfl, ex_l (e.trans e2) hx, fun p hp => q p _ (fresh_back e2 hp) (e2.trans (Ex.new hp)) upd_same⟩

def rSortedDK : List V → Hp → VK → Prop := fun xs H Q => ∃ (a : Addr) (kvs : List (Key × V)) (ks : List Int), xs = [.ref a] ∧ H a = some (.dK kvs) ∧ kvs.map (·.1) = ks.map Sum.inl ∧
  ∀ (ys : List Int) (p : Addr), ys.Perm ks → ys.Pairwise (· ≤ ·) → H p = none → Q (.ref p) (upd H p (.lst (ys.map V.int)))
theorem cr_sortedD {X : Cx} (K : PySem.W.Frag) (hcalm : X.calm = true) : CallR X (.builtin "sorted") rSortedDK := by
  intro pins s σ H xs us Q I r q
  obtain ⟨a, kvs, ks, rfl, hd, hks, q⟩ := q
  obtain ⟨u, rfl, rx⟩ := vals1 r
  cases rx
  obtain ⟨z, lo, vs, rel, dd⟩ := dk_rd I.hok (.inl hd)
  obtain ⟨ep, hat⟩ := dd.dictAt
  have hkeys : vs.map (·.1) = ks.map Sum.inl := rel.keys.symm.trans hks
  have hl : vs.length = ks.length := by simpa using congrArg List.length hkeys
  have hz : vs.length ≤ sizeLine := by rw [← rel.length]; exact z
  refine Calls.call_function_entry kind_sorted plain_sorted entry_sorted (args_sorted1 _) ?_
  unfold Builtin.«sorted»
  refine wpAny_bind (m := checkCount "sorted" 1 1 _) (wpAny_pure (wpAny_bind (PySem.W.kdu_collect (A := X.A.in1) (PySem.W.kdl_dict (knd := mixKind X.prog X.w) (kvs := vs) (ep := ep) lo) (I.ok.hd hcalm) hat hz fun g tk acc hk hacc => ?_)))
  have hal : acc.toList.length = ks.length := by rw [Array.length_toList, hacc.1, hl]
  have hS : IntsAre acc.toList ks := ints_each hal fun j v e => by
    obtain ⟨k, x, e1, e2⟩ := hacc.2 j v (by rw [← Array.getElem?_toList]; exact e)
    have e3 : (vs.map (·.1))[j]? = some k := by rw [List.getElem?_map, e1] <;> rfl
    rw [hkeys, List.getElem?_map] at e3
    cases e4 : ks[j]? with
    | none => rw [e4] at e3; exact nomatch e3
    | some y =>
      rw [e4] at e3
      obtain rfl : Sum.inl y = k := Option.some.inj e3
      rcases keyIs_shape (show keyIs (Sum.inl y) v = true from e2) with ⟨i, t, ek, ev⟩ | ⟨i, t, ek, ev⟩
      · cases ek
        exact ⟨y, t, rfl, ev⟩
      · cases ek
  have hz2 : acc.toList.length ≤ sizeLine := by rw [hal, ← hl]; exact hz
  have I1 : Inv X pins σ H { s with heap := g, toks := tk } := I.kept hk
  have hoL : (g.push (seqObj "list" acc.toList.toArray 0)).get? g.objs.size = some (seqObj "list" acc.toList.toArray 0) := Heap.get?_push_size _ rfl
  refine wpAny_bind (wpAny_newList ?_ (by simpa using hz2))
  show wpAny _ _ _ _ _ { s with heap := g.push (seqObj "list" acc.toList.toArray 0), toks := tk }
  refine wpAny_bind (wpAny_holding (wpAny_call_entry slot_list_sort ⟨_, hoL, rfl⟩ entry_list_sort
    (SrtO.list_sort_ord (s := { s with heap := g.push (seqObj "list" acc.toList.toArray 0), toks := tk }) SrtO.swo_int hoL hz2 (fun h2 => SrtO.ints_sortable hS h2) fun out h1 h2 => ⟨_, rfl, ?_⟩) (args_list_sort _)))
  obtain ⟨k1, k2, k3⟩ := SrtO.ints_out hS h1 h2
  obtain ⟨e', he'⟩ := sortedHeap_at (vs := acc.toList) (out := out.toArray) hoL
  have hlen : ((out.map SrtO.iv).map V.int).length ≤ sizeLine := by
    rw [List.length_map, k2.length_eq, ← hl]
    exact hz
  refine wpAny_pure ⟨_, rfl, .ref g.objs.size, upd H g.objs.size (.lst ((out.map SrtO.iv).map V.int)), I1.laid (t' := tk) (fun b u e => ?_) (Nat.le_refl _) ⟨hlen, out, e', vals_of_ints k1, he'⟩, rfl, q _ _ k2 k3 (I1.hok.fresh (Nat.le_refl _))⟩
  have hb : b < g.objs.size := Heap.lt_size e
  rw [sortedHeap_old (Nat.ne_of_lt hb) (by rw [size_push']; exact Nat.lt_succ_of_lt hb)]
  exact Heap.get?_push_of_some _ e
/-- sorted, one list -/
theorem sorted_one : ∀ {xs ys : List Int}, xs.Perm ys → xs.Pairwise (· ≤ ·) → ys.Pairwise (· ≤ ·) → xs = ys := fun {xs ys} h p q => h.eq_of_pairwise (le := fun a b => a ≤ b) (fun a b _ _ h1 h2 => Int.le_antisymm h1 h2) p q

/-- the element: a test of the int i -/
def EltI (prog : Program) (w : World) (scope : Scope) (x : Str) (elt : Expr) (pb : Int → Bool) : Prop :=
  ∀ (ge : Env) (A1 : Around) (E1 : Value → Shared → Prop) (i : Int) (t : Tok) (u : Shared) (mm : Str → Option Value), ge.scope = scope → u.heap.Ns ge.locals mm → mm x = some (.int i t) →
    wpAny (model prog w) A1 (eval elt ge) (fun y z => y = .bool (pb i) ∧ Keeps u z) E1 u
/-- lo <= x <= hi -/
theorem elt_between {prog : Program} {w : World} {scope : Scope} {x : Str} {lo hi : Int} {j1 j3 : Nat} {p1 p2 p3 p4 : Pos} (hk : scope.kind = .function) (hl : scope.names.lookup x = some .local) (hd : (x == ("__debug__" : Str)) = false := by decide)
    (hm : lastMarks [CmpOp.LtE, CmpOp.LtE] [Expr.Name x p2, Expr.Constant (.int hi) j3 p3] = false := by with_unfolding_all rfl) :
    EltI prog w scope x (.Compare (.Constant (.int lo) j1 p1) [.LtE, .LtE] [.Name x p2, .Constant (.int hi) j3 p3] p4) (fun i => decide (lo ≤ i) && decide (i ≤ hi)) := by
  intro ge A1 E1 i t u mm hs hn hx
  refine Compare_chain (wpAny_Constant_int (chain_link ?_)) hm
  refine wpAny_Name (wpAny_loadName_local (by rw [hs]; exact hk) (show ge.scope.names.lookup x = some .local by rw [hs]; exact hl) hn hx (le_int (wpAny_truthy_bool ?_))) hd
  cases hb : decide (lo ≤ i) with
  | false => exact ite_ff ⟨by show Value.bool false = Value.bool (decide (lo ≤ i) && decide (i ≤ hi)); rw [hb] <;> rfl, GxR.keeps_tok _ _⟩
  | true => exact ite_tt (chain_last (wpAny_Constant_int (le_int ⟨by show Value.bool (decide (i ≤ hi)) = Value.bool (decide (lo ≤ i) && decide (i ≤ hi)); rw [hb] <;> rfl, GxR.keeps_tok _ _⟩)))
section
variable {X : Cx} {pins : List (Addr × Obj)} {σ : L2.St} {H : Hp} {s : Shared}
/-- the test at place j -/
def tstI (pb : Int → Bool) (l : List Int) (j : Nat) : Bool := pb (l.getD j 0)
theorem all_tstI (l : List Int) (pb : Int → Bool) : (List.range l.length).all (tstI pb l) = l.all pb := by
  rw [Bool.eq_iff_iff, List.all_eq_true, List.all_eq_true]
  refine ⟨fun h b hb => ?_, fun h j hj => ?_⟩
  · obtain ⟨j, hj, e⟩ := List.getElem_of_mem hb
    have q := h j (List.mem_range.mpr hj)
    unfold tstI at q
    rw [List.getD_eq_getElem?_getD, List.getElem?_eq_getElem hj, Option.getD_some, e] at q
    exact q
  · have hj' := List.mem_range.mp hj
    unfold tstI
    rw [List.getD_eq_getElem?_getD, List.getElem?_eq_getElem hj', Option.getD_some]
    exact h _ (List.getElem_mem hj')
/-- the generator g over the ints ns, ready to be walked -/
def ReadyI (X : Cx) (pins : List (Addr × Obj)) (σ : L2.St) (H1 : Hp) (P : Addr) (ns : List Int) (pb : Int → Bool) (g : Addr) (u : Shared) : Prop :=
  ∃ (fp wr : List Addr) (G : Array GenState → Array GenState → Prop) (F : Nat → Value → Prop) (St : Nat → Shared → Prop),
    WalksS X.prog X.w X.A.in1 g fp wr G ns.length F St ∧ St 0 u ∧ TruthOf X.prog X.w X.A.in1 F (tstI pb ns) ∧ ∀ z, Moved wr G u z → ∃ H2, GxR.Tabbed P H1 H2 ∧ Inv X pins σ H2 z
theorem gen_ints {c P : Addr} {elt iter : Expr} {x : Str} {px gpos : Pos} {scope : Scope} {pb : Int → Bool} {te : TE} {k : Nat} {Q1 : Value → Shared → Prop} {R : List Int → Hp → Prop}
    (hr : Room k X.A) (TB : GxR.TabB X.base X.mg c P) (hcode : X.env.code = .ref c) (S : GxR.GenS X.env scope x) (hi : PE X iter te) (hel : EltI X.prog X.w scope x elt pb)
    (hs : ∀ v, genFold iter X.env v = pure v) (I : Inv X pins σ H s) (h : te σ H fun v H1 => ∃ (l : Addr) (ns : List Int), v = .ref l ∧ SqL X.K H1 l (ns.map V.int) ∧ GxR.TabG H1 P ∧ R ns H1)
    (hQ : ∀ ns H1 g u, R ns H1 → ReadyI X pins σ H1 P ns pb g u → Q1 (.ref g) u) :
    wpAny (model X.prog X.w) X.A (eval (.GeneratorExp elt [⟨.Name x px, iter, [], 0⟩] scope gpos) X.env) Q1 X.xe s := by
  refine wpAny_GeneratorExp_walksQ hr.hd S.co (closure_ok S.free) S.cell S.dot S.loc S.kind (by have := hr.dp; omega) (thn (hi.run pins s σ H _ I h) fun xv sa ⟨v, H1, I1, r1, q1⟩ => ?_) hs
  obtain ⟨l, ns, rfl, hsq, ⟨ps, hP, ht⟩, q1⟩ := q1
  obtain rfl : xv = Value.ref l := r1
  obtain ⟨its, rv, pl, hz⟩ := I1.list hsq
  have hlen : its.length = ns.length := by rw [← rv.length, List.length_map]
  have item : ∀ (i : Nat) (v : Value), its.toArray[i]? = some v → ∃ (a : Int) (t : Tok), ns[i]? = some a ∧ v = .int a t := fun i v hv => by
    have hv2 : its[i]? = some v := by simpa using hv
    have hi2 : i < ns.length := by rw [← hlen]; exact (List.getElem?_eq_some_iff.mp hv2).1
    have ha : ns[i]? = some ns[i] := List.getElem?_eq_getElem hi2
    obtain ⟨u, hu, ru⟩ := rv.get (show (ns.map V.int)[i]? = some (V.int ns[i]) by rw [List.getElem?_map, ha] <;> rfl)
    obtain rfl : u = v := Option.some.inj (hu.symm.trans hv2)
    obtain ⟨t, e⟩ := (show ∃ t, u = Value.int ns[i] t from ru)
    exact ⟨_, t, ha, e⟩
  refine wpAny_pyIter_list pl.isList ?_
  generalize hob : ({ cls := .type "list_iterator", data := .fields #[.ref l, .int 0 0] } : Obj) = ob
  have it0 : (sa.heap.push ob).IsListIter sa.heap.objs.size l 0 := ⟨_, Heap.get?_push_size _ (by rw [← hob] <;> rfl), by rw [← hob], by rw [← hob] <;> rfl⟩
  have llt : l < sa.heap.objs.size := let ⟨_, e, _⟩ := pl.isList; Heap.lt_size e
  have atP : sa.heap.get? P = some { cls := .none, data := .fields ps } := I1.hok P _ hP
  have atP2 : (sa.heap.push ob).get? P = some { cls := .none, data := .fields ps } := Heap.get?_push_of_some _ atP
  have cd : PySem.W.CodeHd (sa.heap.push ob) c P := TB.code.keeps fun b u e => Heap.get?_push_of_some _ (I1.bk b u e)
  have nol : (sa.heap.push ob).NoLimit := I1.nolimit.push ob
  have rest : ∀ (code : Value) (ha : Heap) (tk : Nat) (pq : Array Value), Heap.ExtBut P (sa.heap.push ob) ha → (sa.heap.push ob).objs.size ≤ ha.objs.size → ha.get? P = some { cls := .none, data := .fields pq } → (∃ more, pq = ps ++ more) → TriplesOk pq.toList →
      wpAny (model X.prog X.w) X.A (builtinsFor X.env.globals X.env.builtins) (fun bi z =>
        ∃ Ia fp wr n St0 Pf pz F, Value.ref sa.heap.objs.size = .ref Ia ∧ (∀ A1 : Around, A1.handled = none → Walks X.prog X.w A1 Ia fp wr n St0 Pf) ∧ Pf 0 z.heap ∧ (∀ b ∈ fp, b < z.heap.objs.size) ∧ z.heap.NoLimit ∧ cStatics ∉ wr ∧
          (∀ hf : Heap, (∀ b o, z.heap.get? b = some o → hf.get? b = some o) → QuietGen X.prog X.w (genEnv scope (cloFrom X.env.cells scope.names []) z.heap.objs.size code bi X.env) x [] elt (List.range z.heap.objs.size) wr St0 pz F hf) ∧
          (∀ a hb tb gs, gs.bare = true → z.heap.objs.size < a → hb.objs.size = a + 1 → (∀ b o, z.heap.get? b = some o → hb.get? b = some o) →
            WalksS X.prog X.w X.A.in4 a (a :: z.heap.objs.size :: List.range z.heap.objs.size) (z.heap.objs.size :: wr) (GenOnlyQ z.gens.size) (passing pz n 0).length (fun j y => ∃ i, (passing pz n 0)[j]? = some i ∧ F i y) (GenAt X.prog X.w X.A.in4 a z.gens.size z.heap.objs.size (List.range z.heap.objs.size) wr pz n F) →
            GenAt X.prog X.w X.A.in4 a z.gens.size z.heap.objs.size (List.range z.heap.objs.size) wr pz n F 0 { z with gens := z.gens.push gs, toks := tb, heap := hb } → Q1 (.ref a) { z with gens := z.gens.push gs, toks := tb, heap := hb })) X.xe { sa with heap := ha, toks := tk } := by
    intro code ha tk pq hx hsz hPa hmore hta
    obtain ⟨bm, bo, e1, e2, e3, e4, e5, e6, e7, e8⟩ := TB.bm
    have szo : (sa.heap.push ob).objs.size = sa.heap.objs.size + 1 := Heap.size_push ..
    have ncP : cStatics ≠ P := fun e => by
      obtain ⟨_, ⟨ox, es, ep, hox, hdx, _⟩, _⟩ := I1.nolimit
      rw [e, atP] at hox
      cases hox
      cases hdx
    have hcl : cStatics < sa.heap.objs.size := let ⟨_, hns, _⟩ := I1.nolimit; hns.lt
    have far : ∀ b u, b ≠ P → sa.heap.get? b = some u → ha.get? b = some u := fun b u hb e => hx b u hb (Heap.get?_push_of_some _ e)
    refine wpAny_builtinsFor (m := X.mg) (by rw [I1.ok.glob]; exact ((I1.mod.glob.keeps I1.bk).push ob).extBut hx TB.gP) e1 e2 (far _ _ e4 (I1.bk _ _ e5)) e6 e7 e8 ?_
    have lP : l ≠ P := fun z => by
      obtain ⟨_, e, _, _, hd1⟩ := pl.isList
      rw [z, atP] at e
      cases e
      cases hd1
    have hlA : ha.IsList l its.toArray := let ⟨o, e, r⟩ := pl.isList; ⟨o, far _ _ lP e, r⟩
    have itA : ha.IsListIter sa.heap.objs.size l 0 := it0.at fun u e => hx _ u (Nat.ne_of_gt (Heap.lt_size atP)) e
    refine ⟨sa.heap.objs.size, [sa.heap.objs.size, l], [sa.heap.objs.size], its.toArray.size, (fun i v => its.toArray[i]? = some v), (fun i h => h.IsListIter sa.heap.objs.size l i ∧ h.IsList l its.toArray), (fun _ => true),
      (fun i y => ∃ a : Int, ns[i]? = some a ∧ y = .bool (pb a)), rfl, (fun A1 hA => Walks.list hA _ _ (Nat.ne_of_lt llt) _), ⟨itA, hlA⟩, fun b hb => ?_, nol.extBut hx ncP, fun z => ?_, fun hf _ => ⟨fun A1 E1 i v u mm hA hPv hn hm hk => ?_, fun A1 E1 i v u mm hA hPv hp hn hm hk => ?_⟩, fun g h5 t5 gs hgb hag hs5 hk5 W5 gat => ?_⟩
    · have e9 : sa.heap.objs.size + 1 ≤ ha.objs.size := by rw [← szo]; exact hsz
      show b < ha.objs.size
      rcases List.mem_cons.mp hb with z | z
      · rw [z]; exact Nat.lt_of_lt_of_le (Nat.lt_succ_self _) e9
      · rw [List.mem_singleton.mp z]; exact Nat.lt_of_lt_of_le llt (Nat.le_of_succ_le e9)
    · exact Nat.ne_of_lt hcl (List.mem_singleton.mp z)
    · simp only [List.forIn_nil]
      exact wpAny_pure ⟨rfl, GxR.keeps_refl _⟩
    · obtain ⟨a, t, ha2, rfl⟩ := item i v hPv
      exact wpAny_mono (hel _ A1 E1 a t u mm rfl hn hm) (fun y z r => ⟨⟨a, ha2, r.1⟩, r.2⟩) fun _ _ e => e
    · simp only [GxR.passing_true, List.length_range] at W5
      rw [show its.toArray.size = ns.length by rw [List.size_toArray, hlen]] at W5 gat
      refine hQ ns H1 g _ q1 ⟨_, _, _, _, _, W5.in4_1, gat, fun j y sj Qj Ej hy hQj => ?_, fun z hm => ?_⟩
      · obtain ⟨i, hij, a, ea, rfl⟩ := hy
        obtain ⟨hj, ej⟩ := List.getElem?_eq_some_iff.mp hij
        rw [List.getElem_range] at ej
        subst ej
        have q : tstI pb ns j = pb a := by unfold tstI; rw [List.getD_eq_getElem?_getD, ea, Option.getD_some]
        have hQj : Qj (tstI pb ns j) sj := hQj
        rw [q] at hQj
        exact wpAny_truthy_bool hQj
      · obtain ⟨more, em⟩ := hmore
        have off : ∀ b u, sa.heap.get? b = some u → b ∉ ha.objs.size :: [sa.heap.objs.size] := fun b u e hb => by
          have h1 : b < sa.heap.objs.size := Heap.lt_size e
          have h2 : sa.heap.objs.size + 1 ≤ ha.objs.size := by rw [← szo]; exact hsz
          rcases List.mem_cons.mp hb with z | z
          · rw [z] at h1; exact Nat.lt_irrefl _ (Nat.lt_of_lt_of_le h1 (Nat.le_of_succ_le h2))
          · rw [List.mem_singleton.mp z] at h1; exact Nat.lt_irrefl _ h1
        have J := GxR.inv_tab (more := more) (h' := z.heap) (g' := z.gens) (d' := z.drawn) (t' := z.toks) I1 hP (fun b u hb e => hm.heap b u (off b u e) (hk5 b u (far b u hb e))) (by rw [← em]; exact hm.heap P _ (off P _ atP) (hk5 P _ hPa)) (AllBare.movedS (I1.bare.push hgb) hm)
        rw [GxR.sh_eta sa z hm.os] at J
        exact ⟨upd H1 P (.tbl (ps ++ more)), ⟨⟨ps ++ more, upd_same, by rw [← em]; exact hta⟩, fun b hb => upd_ne hb⟩, J⟩
  refine ⟨nol, ?_⟩
  cases hf : codeAmong gpos ps.toList with
  | none =>
    refine wpAny_genexprCodeX hcode (cd.code atP2 ht) (cd.tab atP2) hf fun c1 h1 tk hx hge hlt hco _ htab _ => ?_
    obtain ⟨_, _, _, _, _, _, _, _, _, _, _, _, _, _, _, _, _, _, _, htr, _⟩ := hco
    exact rest _ h1 tk _ hx (Nat.le_trans hge (Nat.le_of_lt hlt)) htab.2 ⟨_, rfl⟩ htr
  | some cv => exact wpAny_genexprCode_hit hcode (cd.code atP2 ht) hf (rest cv (sa.heap.push ob) sa.toks ps (Heap.ExtBut.refl _ _) (Nat.le_refl _) atP2 ⟨#[], by simp⟩ ht)
/-- all(test for x in e), e a list of ints; behind it the def's table may have grown -/
def tAllI (K : PySem.W.Frag) (P : Addr) (pb : Int → Bool) (te : TE) : TE := fun σ H Q => te σ H fun v H1 => ∃ (l : Addr) (ns : List Int), v = .ref l ∧ SqL K H1 l (ns.map V.int) ∧ GxR.TabG H1 P ∧ ∀ H2, GxR.Tabbed P H1 H2 → Q (.bl (ns.all pb)) H2
theorem pe_allL {c P : Addr} {elt iter : Expr} {x : Str} {px p pos gpos : Pos} {scope : Scope} {pb : Int → Bool} {te : TE} {k : Nat}
    (hr : Room k X.A) (hg : Gl X "all") (hm : X.mg "all" = none) (hb : bootBuiltins "all" = some (.builtin "all")) (TB : GxR.TabB X.base X.mg c P) (hcode : X.env.code = .ref c) (S : GxR.GenS X.env scope x) (hi : PE X iter te) (hel : EltI X.prog X.w scope x elt pb)
    (hs : ∀ v, genFold iter X.env v = pure v)
    (he : starEach [.GeneratorExp elt [⟨.Name x px, iter, [], 0⟩] scope gpos] X.env = (false, eval (.GeneratorExp elt [⟨.Name x px, iter, [], 0⟩] scope gpos) X.env) :: starEach [] X.env := by rfl) :
    PE X (.Call (.Name "all" p) [.GeneratorExp elt [⟨.Name x px, iter, [], 0⟩] scope gpos] [] pos) (tAllI X.K P pb te) := by
  refine ⟨fun pins s σ H Q I h => wpAny_Call_Name_kw (ld_blt I hg hm hb (PyProof.Rows.callWith_builtin1 ?_ he (by rfl)))⟩
  rw [he]
  show wpAny _ _ (spliced ((false, eval (.GeneratorExp elt [⟨.Name x px, iter, [], 0⟩] scope gpos) X.env) :: backTo pos (starEach [] X.env))) _ _ s
  refine Calls.spliced_cons (gen_ints (R := fun ns H1 => ∀ H2, GxR.Tabbed P H1 H2 → Q (.bl (ns.all pb)) H2) hr TB hcode S hi hel hs I h fun ns H1 g u hR hG => Calls.spliced_nil ?_)
  obtain ⟨fp, wr, G, F, St, W, hst, htr, hI⟩ := hG
  refine call_all_walkS (W.self 0 _ _ _ hst ⟨g, fp, wr, G, _, F, St, _, rfl, W, hst, htr, fun z hmv => ?_⟩)
  obtain ⟨H2, hT, J⟩ := hI z hmv
  refine ⟨.bl _, H2, J, rfl, ?_⟩
  rw [all_tstI ns pb]
  exact hR H2 hT
end

section
variable {X : Cx} {x : Str} {k : Nat} {ps : List Str} {sp : Sp} {p pos : Pos} {e : Expr} {es : List Expr} {t : TA} {C : Addr}
theorem pe_mkC (G : FnM X.prog X.w X.K X.mg X.base C "__init__" k ps sp) (M : ∃ f, Mk X.K C f) (hm : X.mg x = some (.ref C)) (hr : Room (k + 1) X.A) (hg : Gl X x) (ha : PA X (e :: es) t) (hdb : (x == ("__debug__" : Str)) = false := by decide)
    (he : starEach (e :: es) X.env = (false, eval e X.env) :: starEach es X.env := by rfl) (hpl : (backTo pos (starEach es X.env)).any (·.1) = false := by rfl) : PE X (.Call (.Name x p) (e :: es) [] pos) (tMake C sp [] E0 t) := by
  obtain ⟨f, fd, g, b, F⟩ := G.ex
  obtain ⟨f2, M⟩ := M
  have q : some (some (Value.ref f2)) = some (some (Value.ref f)) := M.init.symm.trans g.at_
  cases q
  exact pe_make M F hr hg hm b .nil pass0 ha hdb he hpl
theorem pe_allLK (K : PySem.W.Frag) {c Pt : Addr} {elt iter : Expr} {y : Str} {px gpos : Pos} {scope : Scope} {pb : Int → Bool} {te : TE}
    (hr : Room k X.A) (hg : Gl X "all") (hm : X.mg "all" = none) (hb : bootBuiltins "all" = some (.builtin "all")) (TB : GxR.TabB X.base X.mg c Pt) (hcode : X.env.code = .ref c) (S : GxR.GenS X.env scope y) (hi : PE X iter te) (hel : EltI X.prog X.w scope y elt pb)
    (hs : ∀ v, genFold iter X.env v = pure v) (h : X.K = K := by rfl)
    (he : starEach [.GeneratorExp elt [⟨.Name y px, iter, [], 0⟩] scope gpos] X.env = (false, eval (.GeneratorExp elt [⟨.Name y px, iter, [], 0⟩] scope gpos) X.env) :: starEach [] X.env := by rfl) :
    PE X (.Call (.Name "all" p) [.GeneratorExp elt [⟨.Name y px, iter, [], 0⟩] scope gpos] [] pos) (tAllI K Pt pb te) := h ▸ pe_allL hr hg hm hb TB hcode S hi hel hs he
end
theorem q_rangeAll {K : PySem.W.Frag} {Pt : Addr} {pb : Int → Bool} {te : TE} {σ : L2.St} {H : Hp} {l : Addr} {ns : List Int} {D : Ends} {tz u : TS} {t : TT} (ha : EvT t σ H false) (hl : Ev te σ H (.ref l)) (hs : SqL K H l (ns.map V.int)) (ht : GxR.TabG H Pt) (hall : ns.all pb = true)
    (k : ∀ H1 H2, Ex H H1 → GxR.Tabbed Pt H1 H2 → tz D σ H2) : tSeq (tIfS (tOr t (tNot (tB (tAllI K Pt pb te)))) u tNext) tz D σ H :=
  ha H (Ex.refl H) _ fun H1 e1 => hl H1 e1 _ fun H2 e2 => ⟨l, ns, rfl, ex_l (e1.trans e2) hs, (let ⟨ps, h, g⟩ := ht; ⟨ps, (e1.trans e2) _ _ h, g⟩), fun H3 hT => ⟨_, rfl, by
    rw [hall]
    exact k H2 H3 (e1.trans e2) hT⟩⟩
theorem Tabbed.chg {Pt : Addr} {H H' : Hp} (h : GxR.Tabbed Pt H H') (ht : GxR.TabG H Pt) {S : List Addr} (hS : Pt ∈ S) : Chg S H H' := by
  obtain ⟨ps, hp, _⟩ := ht
  refine ⟨fun b o e n => by rw [h.2 b fun z => n (by rw [z]; exact hS)]; exact e, fun b xs e => ?_⟩
  have n : b ≠ Pt := fun z => by
    rw [z, hp] at e
    cases e
  rw [h.2 b n]
  exact e
/-- the code object of Image's __init__ -/
def CodeI (K : PySem.W.Frag) (CI c : Addr) : Prop := ∀ (f : Addr) (oc : Value) (od : Option Addr) (fd : FuncData) (osl : Array (Option Value)), Meth K CI "__init__" f → K.lookup f = some ⟨oc, od, .func fd, osl⟩ → fd.code = .ref c
def spInitI (K : PySem.W.Frag) (CI Pt : Addr) : Sp := fun vs H Q _ => ∃ (x dx l : Addr) (d : List Int) (e : Int), vs = [.ref x, .ref l, .int e] ∧ H x = some (.ins CI dx []) ∧ SqL K H l (d.map V.int) ∧ Bytes d ∧ (1 ≤ d.length ∧ d.length ≤ 4096) ∧ (0 ≤ e ∧ e < (d.length : Int)) ∧ GxR.TabG H Pt ∧
  ∀ H' da, ImgOk CI H' x dx da d e → Chg [x, Pt] H H' → GxR.TabG H' Pt → Q .non H'
theorem ini_i1 (a : V) : putF "_data" a [] = [(("_data" : Str), a)] := by kernel_rfl
theorem ini_i2 (a b : V) : putF "entry" b [(("_data" : Str), a)] = [(("_data" : Str), a), ("entry", b)] := by kernel_rfl
section
variable {P : Program} {w : World} {K : PySem.W.Frag} {mg : Str → Option Value} {base : Heap} {CI CM c Pt : Addr}
theorem sqL_tab {H H' : Hp} {Pt l : Addr} {xs : List V} (h : SqL K H l xs) (hT : GxR.Tabbed Pt H H') (ht : GxR.TabG H Pt) : SqL K H' l xs := by
  obtain ⟨ps, hp, _⟩ := ht
  rcases h with (h | ⟨o, h⟩) | h
  · exact .inl (.inl (by rw [hT.2 l fun z => by rw [z, hp] at h; cases h]; exact h))
  · exact .inl (.inr ⟨o, by rw [hT.2 l fun z => by rw [z, hp] at h; cases h]; exact h⟩)
  · exact .inr h
/-- the generator expression's scope -/
def gscope : Scope := match (defBody s_I_init__).head? with
  | some (.If (.BoolOp _ (_ :: .UnaryOp _ (.Call _ (.GeneratorExp _ _ sc _ :: _) _ _) _ :: _) _) _ _ _) => sc
  | _ => default
theorem fnM_code {C : Addr} {m q : Str} {st : Stmt} {N ps : List Str} {k : Nat} {sp : Sp} (D : DefM K C m q st) (hc : ∀ (f : Addr) (oc : Value) (od : Option Addr) (fd : FuncData) (osl : Array (Option Value)), Meth K C m f → K.lookup f = some ⟨oc, od, .func fd, osl⟩ → fd.code = .ref c) (S : FnScope N ps (defScope st))
    (hb : ∀ (kV doc pm : Value) (an : Option Addr) (cdv ct : Value) (us : List Value), us.length = ps.length → bindArgs (PySem.W.fnOf m q (defArgs st) (defBody st) (defScope st) .none kV doc pm an cdv ct) ⟨us, []⟩ = pure (ps.zip us))
    (len : ∀ vs H Q E, sp vs H Q E → vs.length = ps.length)
    (body : ∀ (f : Addr) (A : Around) (outer : List Env) (s : Shared) (H : Hp) (vs : List V) (Q : VK) (E : XK), Room k (A.deeper (envOfC q (defScope st) s.heap.objs.size f (.ref c))) → sp vs H Q E →
      ∃ t, PSs (cxOf CX0 P w K mg base N q (defScope st) f (.ref c) A outer s H E).nox (defBody st) t ∧ t { nx := fun _ H' => Q .non H', rt := Q } (start N vs) H) :
    FnM P w K mg base C m (k + 1) ps sp := by
  obtain ⟨f, fd, g, F⟩ := D.ex
  refine ⟨f, fd, g, F.binds hb, ?_⟩
  obtain ⟨oc, od, kV, doc, pm, an, cdv, ct, osl, rfl, lk, hcd⟩ := F.ex
  obtain rfl : cdv = .ref c := hc f oc od _ osl g lk
  refine fn_of lk hcd S len fun A outer s H vs Q E hr h => ?_
  obtain ⟨t, h1, h2⟩ := body f A outer s H vs Q E hr h
  exact ⟨t, h1.nox, h2⟩
theorem ok_I_init__ (T : Txt K mg CI CM) (hcI : CodeI K CI c) (TB : GxR.TabB base mg c Pt) : FnM P w K mg base CI "__init__" 1 ["self", "data", "entry"] (spInitI K CI Pt) := by
  refine fnM_code T.d_I_init__ hcI sc_I_init__ (fun _ _ _ _ _ _ us hl => match us, hl with | [_, _, _], _ => rfl) (fun vs H Q E h => ?_) fun f A outer s H vs Q E hr h => ?_
  · obtain ⟨x, dx, l, d, e, rfl, _⟩ := h
    rfl
  · obtain ⟨x, dx, l, d, e, rfl, hx, hl, hB, hn, he, ht, k⟩ := h
    have nd := sc_I_init__.nd
    have hu := hu_of hr
    have gsI : ∀ (X : Cx) scope, scope = gscope → GxR.GenS X.env scope "byte" := fun X scope e => by
      subst e
      exact ⟨rfl, rfl, by decide +kernel, rfl, rfl, fun y hy h => by
        have g : ∀ y ∈ gscope.names, ¬ y.2 = NameKind.free := by decide +kernel
        exact absurd h (g y hy)⟩
    refine ⟨_, (pss_cons (ps_if (PW.pt (pw_or (pt_not (pt_chain op_le op_le pe_int (pe_callB (cr_len K) (by rfl) T.n_len (by decide +kernel) (pa_cons (pv 1) pa_nil)) (pe_gi (by rfl) T.g_MOST_BYTES))) (pw_or1 (pt_not (pt_val (pe_allLK K hr (by rfl) T.n_all (by decide +kernel) TB rfl (gsI _ _ (by rfl)) (pv 1) (elt_between (by rfl) (by rfl)) (fun _ => rfl))))))) (pss_one ps_never) pss_nil)
      (pss_cons (ps_if (pt_not (pt_chain op_le op_lt pe_int (pv 2) (pe_callB (cr_len K) (by rfl) T.n_len (by decide +kernel) (pa_cons (pv 1) pa_nil)))) (pss_one ps_never) pss_nil)
      (pss_cons (s_fld_ K (pv 0) (pe_callTy (cr_list K) (by rfl) T.n_list (by decide +kernel) (pa_cons (pv 1) pa_nil)) rfl)
      (pss_one (s_fld_ K (pv 0) (pv 2) rfl))))), ?_⟩
    have hall : d.all (fun i => decide (0 ≤ i) && decide (i ≤ 255)) = true := by
      rw [List.all_eq_true]
      intro i hi
      obtain ⟨a, b⟩ := hB i hi
      rw [decide_eq_true a, decide_eq_true (by omega)] <;> rfl
    have hx1 : x ≠ Pt := fun z => by
      obtain ⟨ps, hp, _⟩ := ht
      rw [z, hp] at hx
      cases hx
    have hl1 := hn.1
    refine q_rangeAll (et_is (b := false) (by walk_at "uw.et") (by rw [decide_eq_true (by omega), decide_eq_true (by omega)] <;> rfl)) (ev_var rfl) hl ht hall fun H1 H2 e1 hT => ?_
    have ht1 : GxR.TabG H1 Pt := let ⟨ps, h, g⟩ := ht; ⟨ps, e1 _ _ h, g⟩
    have c2 : Chg [x, Pt] H H2 := (Chg.of e1).trans (Tabbed.chg hT ht1 (by simp))
    have hx2 : H2 x = some (.ins CI dx []) := by rw [hT.2 x hx1]; exact e1 _ _ hx
    have hl2 : SqL K H2 l (d.map V.int) := sqL_tab (ex_l e1 hl) hT ht1
    refine q_when (b := false) (et_is (by walk_at "uw.et") (by rw [decide_eq_true he.1, decide_eq_true he.2] <;> rfl)) (fun z => by cases z) fun _ H3 e3 => ?_
    refine q_st (s_fldP (el_p (el_list (ev_var rfl) (ex_l e3 hl2))) (fun H4 e4 => ev_var rfl) (e3 _ _ hx2) T.clI T.aI_data (by decide) fun v H4 H5 e4 hv e5 => ?_)
    obtain ⟨da, rfl, hd0, hda⟩ := hv
    rw [ini_i1]
    have e35 := (e3.trans e4).trans e5
    have hx5 : H5 x = some (.ins CI dx []) := e35 _ _ hx2
    have hda5 := e5 _ _ hda
    have ndx : da ≠ x := ne_of hda5 hx5 (by intro z; cases z)
    have c6 : Chg [x, Pt] H (upd H5 x (.ins CI dx [(("_data" : Str), .ref da)])) := (c2.trans (Chg.of e35)).trans (Chg.upd (by simp) hx5 (by intro xs z; cases z))
    refine s_fld (ev_var rfl) (ev_var rfl) upd_same T.clI T.aI_entry (by show 1 < 1000; decide) fun H7 e7 => ?_
    rw [ini_i2]
    have hx7 : H7 x = some (.ins CI dx [(("_data" : Str), .ref da)]) := e7 _ _ upd_same
    refine k _ da ⟨upd_same, ?_, hB⟩ ((c6.trans (Chg.of e7)).trans (Chg.upd (by simp) hx7 (by intro xs z; cases z))) ?_
    · rw [upd_ne ndx]
      refine e7 _ _ ?_
      rw [upd_ne ndx]
      exact hda5
    · obtain ⟨ps, hp, g⟩ := hT.1
      refine ⟨ps, ?_, g⟩
      rw [upd_ne (Ne.symm hx1)]
      refine e7 _ _ ?_
      rw [upd_ne (Ne.symm hx1)]
      exact e35 _ _ hp
end

theorem ini_m0 (a0 : V) : putF "_image" a0 [] = [(("_image" : Str), a0)] := by kernel_rfl
theorem ini_m1 (a0 a1 : V) : putF "_registers" a1 [(("_image" : Str), a0)] = [(("_image" : Str), a0), (("_registers" : Str), a1)] := by kernel_rfl
theorem ini_m2 (a0 a1 a2 : V) : putF "_memory" a2 [(("_image" : Str), a0), (("_registers" : Str), a1)] = [(("_image" : Str), a0), (("_registers" : Str), a1), (("_memory" : Str), a2)] := by kernel_rfl
theorem ini_m3 (a0 a1 a2 a3 : V) : putF "_inputs" a3 [(("_image" : Str), a0), (("_registers" : Str), a1), (("_memory" : Str), a2)] = [(("_image" : Str), a0), (("_registers" : Str), a1), (("_memory" : Str), a2), (("_inputs" : Str), a3)] := by kernel_rfl
theorem ini_m4 (a0 a1 a2 a3 a4 : V) : putF "_taken" a4 [(("_image" : Str), a0), (("_registers" : Str), a1), (("_memory" : Str), a2), (("_inputs" : Str), a3)] = [(("_image" : Str), a0), (("_registers" : Str), a1), (("_memory" : Str), a2), (("_inputs" : Str), a3), (("_taken" : Str), a4)] := by kernel_rfl
theorem ini_m5 (a0 a1 a2 a3 a4 a5 : V) : putF "_outputs" a5 [(("_image" : Str), a0), (("_registers" : Str), a1), (("_memory" : Str), a2), (("_inputs" : Str), a3), (("_taken" : Str), a4)] = [(("_image" : Str), a0), (("_registers" : Str), a1), (("_memory" : Str), a2), (("_inputs" : Str), a3), (("_taken" : Str), a4), (("_outputs" : Str), a5)] := by kernel_rfl
theorem ini_m6 (a0 a1 a2 a3 a4 a5 a6 : V) : putF "_waiting" a6 [(("_image" : Str), a0), (("_registers" : Str), a1), (("_memory" : Str), a2), (("_inputs" : Str), a3), (("_taken" : Str), a4), (("_outputs" : Str), a5)] = [(("_image" : Str), a0), (("_registers" : Str), a1), (("_memory" : Str), a2), (("_inputs" : Str), a3), (("_taken" : Str), a4), (("_outputs" : Str), a5), (("_waiting" : Str), a6)] := by kernel_rfl
theorem ini_m7 (a0 a1 a2 a3 a4 a5 a6 a7 : V) : putF "_status" a7 [(("_image" : Str), a0), (("_registers" : Str), a1), (("_memory" : Str), a2), (("_inputs" : Str), a3), (("_taken" : Str), a4), (("_outputs" : Str), a5), (("_waiting" : Str), a6)] = [(("_image" : Str), a0), (("_registers" : Str), a1), (("_memory" : Str), a2), (("_inputs" : Str), a3), (("_taken" : Str), a4), (("_outputs" : Str), a5), (("_waiting" : Str), a6), (("_status" : Str), a7)] := by kernel_rfl
theorem ini_m8 (a0 a1 a2 a3 a4 a5 a6 a7 a8 : V) : putF "address" a8 [(("_image" : Str), a0), (("_registers" : Str), a1), (("_memory" : Str), a2), (("_inputs" : Str), a3), (("_taken" : Str), a4), (("_outputs" : Str), a5), (("_waiting" : Str), a6), (("_status" : Str), a7)] = [(("_image" : Str), a0), (("_registers" : Str), a1), (("_memory" : Str), a2), (("_inputs" : Str), a3), (("_taken" : Str), a4), (("_outputs" : Str), a5), (("_waiting" : Str), a6), (("_status" : Str), a7), (("address" : Str), a8)] := by kernel_rfl
theorem ini_m9 (a0 a1 a2 a3 a4 a5 a6 a7 a8 a9 : V) : putF "sp" a9 [(("_image" : Str), a0), (("_registers" : Str), a1), (("_memory" : Str), a2), (("_inputs" : Str), a3), (("_taken" : Str), a4), (("_outputs" : Str), a5), (("_waiting" : Str), a6), (("_status" : Str), a7), (("address" : Str), a8)] = [(("_image" : Str), a0), (("_registers" : Str), a1), (("_memory" : Str), a2), (("_inputs" : Str), a3), (("_taken" : Str), a4), (("_outputs" : Str), a5), (("_waiting" : Str), a6), (("_status" : Str), a7), (("address" : Str), a8), (("sp" : Str), a9)] := by kernel_rfl
theorem ini_m10 (a0 a1 a2 a3 a4 a5 a6 a7 a8 a9 a10 : V) : putF "steps" a10 [(("_image" : Str), a0), (("_registers" : Str), a1), (("_memory" : Str), a2), (("_inputs" : Str), a3), (("_taken" : Str), a4), (("_outputs" : Str), a5), (("_waiting" : Str), a6), (("_status" : Str), a7), (("address" : Str), a8), (("sp" : Str), a9)] = [(("_image" : Str), a0), (("_registers" : Str), a1), (("_memory" : Str), a2), (("_inputs" : Str), a3), (("_taken" : Str), a4), (("_outputs" : Str), a5), (("_waiting" : Str), a6), (("_status" : Str), a7), (("address" : Str), a8), (("sp" : Str), a9), (("steps" : Str), a10)] := by kernel_rfl
theorem ini_look (a0 a1 a2 : V) : List.lookup ("_memory" : Str) [(("_image" : Str), a0), (("_registers" : Str), a1), (("_memory" : Str), a2)] = some a2 := by kernel_rfl
def initM (ent : Int) (regs : List Int) (ps : List (Int × Int)) (inp : List Int) : M := { regs := regs, mem := ps.foldl (fun l p => putM l p.1 p.2) [], inp := inp, tk := 0, out := [], wait := [], st := .run, at_ := ent, sp := 65536, n := 0 }
def PrsAt (H : Hp) (as : List Addr) (ps : List (Int × Int)) : Prop := as.length = ps.length ∧ ∀ (i : Nat) (a : Addr), as[i]? = some a → ∃ p : Int × Int, ps[i]? = some p ∧ H a = some (.tup [.int p.1, .int p.2])
theorem PrsAt.chg {S : List Addr} {H H' : Hp} {as : List Addr} {ps : List (Int × Int)} (h : PrsAt H as ps) (c : Chg S H H') : PrsAt H' as ps := ⟨h.1, fun i a e => let ⟨p, h1, h2⟩ := h.2 i a e; ⟨p, h1, c.tups _ _ h2⟩⟩
def spInitM (CI CM : Addr) : Sp := fun vs H Q _ => ∃ (x dx im dxi da rg me ip : Addr) (d : List Int) (ent : Int) (regs : List Int) (as : List Addr) (ps : List (Int × Int)) (inp : List Int), vs = [.ref x, .ref im, .ref rg, .ref me, .ref ip] ∧
  H x = some (.ins CM dx []) ∧ ImgOk CI H im dxi da d ent ∧ im ≠ x ∧ H rg = some (.lst (regs.map V.int)) ∧ H me = some (.lst (as.map V.ref)) ∧ PrsAt H as ps ∧ ps.length ≤ 100 ∧ H ip = some (.lst (inp.map V.int)) ∧
  ∀ H' (a : MA), a.p = x → a.im = im → a.da = da → a.d = d → (∀ b ∈ [a.rg, a.me, a.ip, a.ou, a.wa], H b = none) → MOk CI CM a H' (initM ent regs ps inp) → Chg [x] H H' → Q .non H'
section
variable {K : PySem.W.Frag} {σ : L2.St} {H : Hp} {ta tv : TE} {D : Ends} {C x dx : Addr} {fs : List (Str × V)} {f : Str}
/-- a field gets something new -/
theorem ini_new {o : HO} {fs' : V → List (Str × V)} {tz : TS} (hv : EvP tv σ H (fun v H1 => ∃ p, v = .ref p ∧ H p = none ∧ H1 p = some o)) (ha : ∀ H1, Ex H H1 → Ev ta σ H1 (.ref x)) (hx : H x = some (.ins C dx fs)) (hc : Cls K C) (hn : NoAttr K C f) (hl : fs.length < 1000) (hf : ∀ v, putF f v fs = fs' v)
    (k : ∀ p H', H p = none → p ≠ x → H' p = some o → H' x = some (.ins C dx (fs' (.ref p))) → Chg [x] H H' → tz D σ H') : tSeq (sFld K ta tv f) tz D σ H := by
  refine q_st (s_fldP hv ha hx hc hn hl fun v H1 H2 e1 hp e2 => ?_)
  obtain ⟨p, rfl, h0, h1⟩ := hp
  have e := e1.trans e2
  have n : p ≠ x := fun z => by rw [z, hx] at h0; cases h0
  rw [hf]
  exact k p _ h0 n (by rw [upd_ne n]; exact e2 _ _ h1) upd_same ((Chg.of e).trans (Chg.upd (by simp) (e _ _ hx) (by intro xs z; cases z)))
/-- a field gets a value -/
theorem ini_val {v : V} {fs' : List (Str × V)} {tz : TS} (hv : Ev tv σ H v) (ha : Ev ta σ H (.ref x)) (hx : H x = some (.ins C dx fs)) (hc : Cls K C) (hn : NoAttr K C f) (hl : fs.length < 1000) (hf : putF f v fs = fs')
    (k : ∀ H', H' x = some (.ins C dx fs') → Chg [x] H H' → tz D σ H') : tSeq (sFld K ta tv f) tz D σ H := by
  refine q_st (s_fld hv ha hx hc hn hl fun H1 e1 => ?_)
  rw [hf]
  exact k _ upd_same ((Chg.of e1).trans (Chg.upd (by simp) (e1 _ _ hx) (by intro xs z; cases z)))
end
theorem ini_last {K : PySem.W.Frag} {σ : L2.St} {H : Hp} {ta tv : TE} {D : Ends} {C x dx : Addr} {fs : List (Str × V)} {f : Str} {v : V} {fs' : List (Str × V)} (hv : Ev tv σ H v) (ha : Ev ta σ H (.ref x)) (hx : H x = some (.ins C dx fs)) (hc : Cls K C) (hn : NoAttr K C f) (hl : fs.length < 1000) (hf : putF f v fs = fs')
    (k : ∀ H', H' x = some (.ins C dx fs') → Chg [x] H H' → D.nx σ H') : sFld K ta tv f D σ H := by
  refine s_fld hv ha hx hc hn hl fun H1 e1 => ?_
  rw [hf]
  exact k _ upd_same ((Chg.of e1).trans (Chg.upd (by simp) (e1 _ _ hx) (by intro xs z; cases z)))
theorem chg_fresh {S : List Addr} {H H1 : Hp} {a : Addr} {o : HO} (c : Chg S H H1) (h : H a = none) : Chg S H (upd H1 a o) := by
  have n : ∀ b u, H b = some u → b ≠ a := fun b u e z => by rw [z, h] at e; cases e
  exact ⟨fun b u e m => by rw [upd_ne (n b u e)]; exact c.keep b u e m, fun b xs e => by rw [upd_ne (n b _ e)]; exact c.tups b xs e⟩
theorem chg_at {H H1 : Hp} {x b : Addr} {o : HO} (c : Chg [x] H H1) (h : H b = some o) (n : b ≠ x) : H1 b = some o := c.keep b o h (by simpa using n)
theorem putM_foldl_len : ∀ (ps : List (Int × Int)) (l : List (Int × Int)), (ps.foldl (fun l p => putM l p.1 p.2) l).length ≤ l.length + ps.length
  | [], l => Nat.le_refl _
  | p :: ps, l => by
    have h1 := putM_foldl_len ps (putM l p.1 p.2)
    have h2 := putM_len l p.1 p.2
    rw [List.foldl_cons, List.length_cons]
    omega
section
variable {P : Program} {w : World} {K : PySem.W.Frag} {mg : Str → Option Value} {base : Heap} {CI CM : Addr}
theorem ok_M_init__ (T : Txt K mg CI CM) : FnM P w K mg base CM "__init__" 1 ["self", "image", "registers", "memory", "inputs"] (spInitM CI CM) := by
  refine fnM_of T.d_M_init__ sc_M_init__ (fun _ _ _ _ _ _ us hl => match us, hl with | [_, _, _, _, _], _ => rfl) (fun vs H Q E h => ?_) fun f cdv A outer s H vs Q E hr h => ?_
  · obtain ⟨x, dx, im, dxi, da, rg, me, ip, d, ent, regs, as, ps, inp, rfl, _⟩ := h
    rfl
  · obtain ⟨x, dx, im, dxi, da, rg, me, ip, d, ent, regs, as, ps, inp, rfl, hx, hi, hix, hrg, hme, hps, hz, hip, k⟩ := h
    have nd := sc_M_init__.nd
    have hu := hu_of hr
    refine ⟨_, (pss_cons (s_fld_ K (pv 0) (pv 1) rfl)
      (pss_cons (s_fld_ K (pv 0) (pe_callTy (cr_list K) (by rfl) T.n_list (by decide +kernel) (pa_cons (pv 2) pa_nil)) rfl)
      (pss_cons (s_fld_ K (pv 0) pe_dnewK rfl)
      (pss_cons (ps_for PassesOwn.never rfl (p_list K (pv 3)) (pg_tup_ K rfl (pgs_cons (pg_name (i := 5) nd rfl (Or.inl rfl)) (pgs_cons (pg_name (i := 6) nd rfl (Or.inl rfl)) pgs_nil))) (pss_one (ps_dput hu (p_fld K (pv 0) rfl) (pv 5) (pv 6) rfl)))
      (pss_cons (s_fld_ K (pv 0) (pe_callTy (cr_list K) (by rfl) T.n_list (by decide +kernel) (pa_cons (pv 4) pa_nil)) rfl)
      (pss_cons (s_fld_ K (pv 0) pe_int rfl)
      (pss_cons (s_fld_ K (pv 0) (pe_lst pa_nil) rfl)
      (pss_cons (s_fld_ K (pv 0) (pe_lst pa_nil) rfl)
      (pss_cons (s_fld_ K (pv 0) (pe_tup (pa_cons pe_str pa_nil)) rfl)
      (pss_cons (s_fld_ K (pv 0) (p_fld K (pv 1) rfl) rfl)
      (pss_cons (s_fld_ K (pv 0) (pe_gi (by rfl) T.g_WORDS) rfl)
      (pss_one (s_fld_ K (pv 0) pe_int rfl))))))))))))), ?_⟩
    refine ini_val (ev_var rfl) (ev_var rfl) hx T.clM T.aM_image (by decide) (ini_m0 _) fun H1 x1 c1 => ?_
    have rg1 := chg_at c1 hrg (ne_of hrg hx (by intro z; cases z))
    refine ini_new (el_p (el_list (ev_var rfl) (sq_of rg1))) (fun H2 e2 => ev_var rfl) x1 T.clM T.aM_registers (by show 1 < 1000; decide) (fun v => ini_m1 _ v) fun arg H2 frg nrg hrg2 x2 c2 => ?_
    refine ini_new eu_dnew (fun H3 e3 => ev_var rfl) x2 T.clM T.aM_memory (by show 2 < 1000; decide) (fun v => ini_m2 _ _ v) fun ame H3 fme nme hme3 x3 c3 => ?_
    have c13 := (c1.trans c2).trans c3
    have nmx : me ≠ x := ne_of hme hx (by intro z; cases z)
    have me3 := chg_at c13 hme nmx
    have nma : me ≠ ame := ne_of_none (chg_at (c1.trans c2) hme nmx) fme
    have hps3 := hps.chg c13
    have nxa : x ≠ ame := Ne.symm nme
    have fme0 : H ame = none := by
      cases z : H ame with
      | none => rfl
      | some o => rw [chg_at (c1.trans c2) z nme] at fme; cases fme
    refine q_forL (ev_var rfl) (sq_of me3) (fun i σ' H' => (∃ u v, σ' = ((start nm_M_init__ [.ref x, .ref im, .ref rg, .ref me, .ref ip]).set 5 u).set 6 v) ∧ H' x = H3 x ∧ H' ame = some (.dK (memV ((ps.take i).foldl (fun l p => putM l p.1 p.2) []))) ∧ Chg [ame] H3 H')
      (fun H4 e4 => ⟨⟨none, none, rfl⟩, (e4 _ _ x3).trans x3.symm, e4 _ _ hme3, Chg.of e4⟩) (fun i σ' H' _ p => sq_of (p.2.2.2.keep me _ me3 (by simpa using nma))) (fun i y σ' H' hy p => ?_) fun σ' H' p => ?_
    · obtain ⟨⟨u, v, rfl⟩, px, pm, pc⟩ := p
      rw [List.getElem?_map] at hy
      cases hb : as[i]? with
      | none => rw [hb] at hy; cases hy
      | some b =>
        rw [hb] at hy
        obtain rfl : V.ref b = y := Option.some.inj hy
        obtain ⟨q, hq1, hq2⟩ := hps3.2 i b hb
        have hq2 := pc.tups _ _ hq2
        refine ⟨b, _, rfl, st_of hq2, rfl, _, _, rfl, _, _, rfl, rfl, ?_⟩
        have px' := px.trans x3
        have hi : i < ps.length := (List.getElem?_eq_some_iff.mp hq1).1
        have hlen := putM_foldl_len (ps.take i) []
        rw [List.length_take] at hlen
        refine s_dput (kk := Sum.inl q.1) (v := .int q.2) (ev_var rfl) (ev_fld (ev_var rfl) px' T.clM T.aM_memory (ini_look _ _ _)) (ev_var rfl) pm (by unfold memV; rw [List.length_map]; simp at hlen; omega) fun H5 e5 => ?_
        rw [put_memV]
        refine ⟨⟨some (.int q.1), some (.int q.2), rfl⟩, ?_, ?_, (pc.trans (Chg.of e5)).trans (Chg.upd (by simp) (e5 _ _ pm) (by intro xs z; cases z))⟩
        · rw [upd_ne nxa]
          exact (e5 _ _ px').trans x3.symm
        · rw [upd_same, List.take_add_one, List.foldl_append, hq1] <;> rfl
    obtain ⟨⟨u, v, rfl⟩, px, pm, pc⟩ := p
    rw [List.length_map, hps.1, List.take_length] at pm
    have x4 := px.trans x3
    have c04 : Chg [x] H H' := ⟨fun b o e n => pc.keep b o (c13.keep b o e n) (by simpa using fun z => by rw [z, fme0] at e; cases e), fun b xs e => pc.tups _ _ (c13.tups _ _ e)⟩
    have rg4 : H' arg = some (.lst (regs.map V.int)) := pc.keep _ _ (chg_at c3 hrg2 nrg) (by simpa using fun z => by rw [z, fme] at hrg2; cases hrg2)
    have ip4 := chg_at c04 hip (ne_of hip hx (by intro z; cases z))
    refine ini_new (el_p (el_list (ev_var rfl) (sq_of ip4))) (fun H5 e5 => ev_var rfl) x4 T.clM T.aM_inputs (by show 3 < 1000; decide) (fun v => ini_m3 _ _ _ v) fun aip H5 fip nip hip5 x5 c5 => ?_
    refine ini_val (v := .int 0) ev_c (ev_var rfl) x5 T.clM T.aM_taken (by show 4 < 1000; decide) (ini_m4 _ _ _ _ _) fun H6 x6 c6 => ?_
    refine ini_new (el_p (el_lst ea_nil (Nat.le_of_ble_eq_true rfl))) (fun H7 e7 => ev_var rfl) x6 T.clM T.aM_outputs (by show 5 < 1000; decide) (fun v => ini_m5 _ _ _ _ _ v) fun aou H7 fou nou hou7 x7 c7 => ?_
    refine ini_new (el_p (el_lst ea_nil (Nat.le_of_ble_eq_true rfl))) (fun H8 e8 => ev_var rfl) x7 T.clM T.aM_waiting (by show 6 < 1000; decide) (fun v => ini_m6 _ _ _ _ _ _ v) fun awa H8 fwa nwa hwa8 x8 c8 => ?_
    refine ini_new (eu_p (eu_tup (ea_cons ev_c ea_nil) (Nat.le_of_ble_eq_true rfl))) (fun H9 e9 => ev_var rfl) x8 T.clM T.aM_status (by show 7 < 1000; decide) (fun v => ini_m7 _ _ _ _ _ _ _ v) fun ast H9 fst nst hst9 x9 c9 => ?_
    have c49 := (((c5.trans c6).trans c7).trans c8).trans c9
    have c09 := c04.trans c49
    have im9 := chg_at c09 hi.ob hix
    refine ini_val (v := .int ent) (ev_fld (ev_var rfl) im9 T.clI T.aI_entry (ifl_entry _ _)) (ev_var rfl) x9 T.clM T.aM_address (by show 8 < 1000; decide) (ini_m8 _ _ _ _ _ _ _ _ _) fun H10 x10 c10 => ?_
    refine ini_val (v := .int 65536) ev_c (ev_var rfl) x10 T.clM T.aM_sp (by show 9 < 1000; decide) (ini_m9 _ _ _ _ _ _ _ _ _ _) fun H11 x11 c11 => ?_
    refine ini_last (v := .int 0) ev_c (ev_var rfl) x11 T.clM T.aM_steps (by show 10 < 1000; decide) (ini_m10 _ _ _ _ _ _ _ _ _ _ _) fun H12 x12 c12 => ?_
    have cE := (c10.trans c11).trans c12
    have hdx : da ≠ x := ne_of hi.da hx (by intro z; cases z)
    have back : ∀ {b : Addr} {H1 : Hp}, Chg [x] H H1 → b ≠ x → H1 b = none → H b = none := fun {b H1} c n z => by
      cases q : H b with
      | none => rfl
      | some o => rw [chg_at c q n] at z; cases z
    have c05 := c04.trans c5
    have c06 := c05.trans c6
    have c07 := c06.trans c7
    have c08 := c07.trans c8
    have f1 : H arg = none := back c1 nrg frg
    have f3 : H aip = none := back c04 nip fip
    have f4 : H aou = none := back c06 nou fou
    have f5 : H awa = none := back c07 nwa fwa
    refine k _ { p := x, dx := dx, im := im, dxi := dxi, da := da, rg := arg, me := ame, ip := aip, ou := aou, wa := awa, d := d, ent := ent } rfl rfl rfl rfl ?_ ⟨⟨chg_at cE im9 hix, chg_at (c09.trans cE) hi.da hdx, hi.by_⟩, ⟨ast, x12, chg_at cE hst9 nst⟩, chg_at (c49.trans cE) rg4 nrg, chg_at (c49.trans cE) pm nme, chg_at ((((c6.trans c7).trans c8).trans c9).trans cE) hip5 nip, chg_at ((c8.trans c9).trans cE) hou7 nou, chg_at (c9.trans cE) hwa8 nwa, ?_⟩ (c09.trans cE)
    · intro b hb
      simp only [List.mem_cons, List.not_mem_nil, or_false] at hb
      rcases hb with rfl | rfl | rfl | rfl | rfl
      · exact f1
      · exact fme0
      · exact f3
      · exact f4
      · exact f5
    · have ne1 : ∀ {b c : Addr} {o : HO}, H b = some o → H c = none → b ≠ c := fun h1 h2 z => by rw [z, h2] at h1; cases h1
      have ne2 : ∀ {b c : Addr} {o : HO} {H1 : Hp}, H1 b = some o → H1 c = none → b ≠ c := fun h1 h2 z => by rw [z, h2] at h1; cases h1
      have rg6 := chg_at (c5.trans c6) rg4 nrg
      have me6 := chg_at (c5.trans c6) pm nme
      have ip6 := chg_at c6 hip5 nip
      have rg7 := chg_at c7 rg6 nrg
      have me7 := chg_at c7 me6 nme
      have ip7 := chg_at c7 ip6 nip
      simp only [MA.all, List.nodup_cons, List.mem_cons, not_or, List.not_mem_nil, not_false_eq_true, and_true, List.nodup_nil]
      exact ⟨⟨Ne.symm hix, Ne.symm hdx, Ne.symm nrg, Ne.symm nme, Ne.symm nip, Ne.symm nou, Ne.symm nwa⟩, ⟨ne_of hi.ob hi.da (by intro z; cases z), ne1 hi.ob f1, ne1 hi.ob fme0, ne1 hi.ob f3, ne1 hi.ob f4, ne1 hi.ob f5⟩, ⟨ne1 hi.da f1, ne1 hi.da fme0, ne1 hi.da f3, ne1 hi.da f4, ne1 hi.da f5⟩,
        ⟨ne2 hrg2 fme, ne2 rg4 fip, ne2 rg6 fou, ne2 rg7 fwa⟩, ⟨ne2 pm fip, ne2 me6 fou, ne2 me7 fwa⟩, ⟨ne2 ip6 fou, ne2 ip7 fwa⟩, ne2 hou7 fwa⟩
end

def srt (l : List Int) : List Int := l.mergeSort fun a b => decide (a ≤ b)
theorem srt_of {l ys : List Int} (h : ys.Perm l) (p : ys.Pairwise (· ≤ ·)) : ys = srt l := by
  have q : (srt l).Pairwise (· ≤ ·) := by
    have := List.pairwise_mergeSort (le := fun a b : Int => decide (a ≤ b)) (fun a b c h1 h2 => by simp at *; omega) (fun a b => by simp; omega) l
    exact this.imp fun h => of_decide_eq_true h
  exact sorted_one (h.trans (List.mergeSort_perm l _).symm) p q
theorem srt_mem {l : List Int} {x : Int} : x ∈ srt l ↔ x ∈ l := (List.mergeSort_perm l _).mem_iff
theorem srt_len (l : List Int) : (srt l).length = l.length := (List.mergeSort_perm l _).length_eq
/-- the words written that are not 0 -/
def wrM (mem : List (Int × Int)) : List (Int × Int) := ((srt (mem.map (·.1))).filter fun a => !decide (look mem a = 0)).map fun a => (a, look mem a)
theorem val_memV {mem : List (Int × Int)} {a : Int} (h : a ∈ mem.map (·.1)) : valV (memV mem) (Sum.inl a : Key) = some (.int (look mem a)) := by
  have q := look_memV mem a
  cases e : valV (memV mem) (Sum.inl a : Key) with
  | some v => rw [e] at q; exact congrArg some q
  | none =>
    exfalso
    unfold valV at e
    rw [find_memV] at e
    obtain ⟨p, hp, rfl⟩ := List.mem_map.mp h
    cases f : mem.find? fun q => decide (q.1 = p.1) with
    | none =>
      have := List.find?_eq_none.mp f p hp
      simp at this
    | some r => rw [f] at e; cases e
theorem memV_keys (mem : List (Int × Int)) : (memV mem).map (·.1) = (mem.map (·.1)).map Sum.inl := by
  unfold memV
  rw [List.map_map, List.map_map] <;> rfl
section
variable {K : PySem.W.Frag} {σ : L2.St} {H : Hp} {te ta : TE} {t : TT}
theorem el_sortedD {a : Addr} {mem : List (Int × Int)} (h : Ev ta σ H (.ref a)) (hm : H a = some (.dK (memV mem))) : EvL (tCB rSortedDK (tCons ta tNil)) σ H ((srt (mem.map (·.1))).map V.int) := fun H1 e Q q =>
  h H1 e _ fun H2 e2 => ⟨a, _, mem.map (·.1), rfl, e2 _ _ (e _ _ hm), memV_keys mem, fun ys p hp hs h0 => by
    rw [srt_of hp hs]
    exact q p _ (fresh_back e2 h0) (e2.trans (Ex.new h0)) upd_same⟩
/-- a comprehension of pairs over a new list of ints -/
theorem evp_lcPairs {tl : TE} {j : Nat} {vs : List Nat} {xs : List Int} (f : Int → Bool) (v : Int → Int) (h : EvL tl σ H (xs.map V.int)) (hz : xs.length ≤ 40000) (hw : ∀ x, wipe ((wipe σ vs).set j (some x)) vs = wipe σ vs)
    (ht : ∀ x H1, Ex H H1 → x ∈ xs → EvT t ((wipe σ vs).set j (some (.int x))) H1 (f x)) (he : ∀ x H1, Ex H H1 → x ∈ xs → f x = true → EvU te ((wipe σ vs).set j (some (.int x))) H1 [.int x, .int (v x)]) :
    EvP (tLc (iList K tl) (gName j) t te vs) σ H (fun w H2 => ∃ p as, w = .ref p ∧ H p = none ∧ H2 p = some (.lst (as.map V.ref)) ∧ PrsAt H2 as ((xs.filter f).map fun x => (x, v x))) := fun H0 e Q q => h H0 e _ fun a H1 ha e1 hx => ⟨a, rfl, ⟨_, sq_of hx⟩, fun Dl hD => by
  have e01 := e.trans e1
  refine lc_list (xs := xs.map V.int) (fun i H' => Ex H1 H' ∧ ∃ as, H' Dl = some (.lst (as.map V.ref)) ∧ PrsAt H' as (((xs.take i).filter f).map fun x => (x, v x)) ∧ as.length ≤ i) ⟨Ex.new hD, [], upd_same, ⟨rfl, fun i a z => by simp at z⟩, Nat.zero_le _⟩ (fun i H' _ p => sq_of (p.1 a _ hx)) (fun i y H' hi p => ⟨hw y, ?_⟩) fun H' p => ?_
  · obtain ⟨p1, as, p2, p3, p4⟩ := p
    rw [List.getElem?_map] at hi
    cases hb : xs[i]? with
    | none => rw [hb] at hi; cases hi
    | some x =>
      rw [hb] at hi
      obtain rfl : V.int x = y := Option.some.inj hi
      have hxm := List.mem_of_getElem? hb
      have hil := (List.getElem?_eq_some_iff.mp hb).1
      have ett : (xs.take (i + 1)).filter f = (xs.take i).filter f ++ if f x = true then [x] else [] := by
        rw [List.take_add_one, hb, List.filter_append]
        show _ ++ [x].filter f = _
        rw [List.filter_cons] <;> rfl
      refine ht x H' (e01.trans p1) hxm H' (Ex.refl H') _ fun H3 e3 => ?_
      cases hf : f x with
      | true =>
        show te _ H3 _
        refine he x H3 ((e01.trans p1).trans e3) hxm hf H3 (Ex.refl H3) _ fun c H4 hc e4 h4 => ?_
        have p2' := e4 _ _ (e3 _ _ p2)
        have ncD : c ≠ Dl := fun z => by rw [z, e3 _ _ p2] at hc; cases hc
        refine ⟨_, p2', sz_lt (by rw [List.length_map]; omega), ?_, as ++ [c], ?_, ⟨?_, fun i2 a2 z => ?_⟩, ?_⟩
        · exact Ex.mut ((p1.trans e3).trans e4) hD
        · rw [List.map_append, upd_same] <;> rfl
        · rw [ett, hf]
          simp [p3.1]
        · rw [ett, hf, if_pos rfl, List.map_append]
          have l1 : as.length = (((xs.take i).filter f).map fun x => (x, v x)).length := p3.1
          by_cases zz : i2 < as.length
          · rw [List.getElem?_append_left zz] at z
            rw [List.getElem?_append_left (by omega)]
            obtain ⟨pp, g1, g2⟩ := p3.2 i2 a2 z
            refine ⟨pp, g1, ?_⟩
            have g3 := e4 _ _ (e3 _ _ g2)
            rw [upd_ne (fun z2 => by rw [z2, p2'] at g3; cases g3)]
            exact g3
          · rw [List.getElem?_append_right (by omega)] at z
            rw [List.getElem?_append_right (by omega), ← l1]
            have z0 : i2 - as.length = 0 := by
              have := (List.getElem?_eq_some_iff.mp z).1
              simp at this
              omega
            rw [z0] at z ⊢
            have z1 : some c = some a2 := z
            obtain rfl := Option.some.inj z1
            refine ⟨(x, v x), rfl, ?_⟩
            rw [upd_ne ncD]
            exact h4
        · rw [List.length_append, List.length_singleton]
          omega
      | false =>
        refine ⟨p1.trans e3, as, e3 _ _ p2, ?_, by omega⟩
        rw [ett, hf, if_neg (by decide), List.append_nil]
        exact ⟨p3.1, fun i2 a2 z => let ⟨pp, g1, g2⟩ := p3.2 i2 a2 z; ⟨pp, g1, e3 _ _ g2⟩⟩
  · obtain ⟨p1, as, p2, p3, _⟩ := p
    rw [List.length_map, List.take_length] at p3
    exact q _ H' (e1.trans p1) ⟨Dl, as, rfl, fresh_back e01 hD, p2, p3⟩⟩
end
def spWait (CI CM : Addr) : Sp := fun vs H Q _ => ∃ (a : MA) (m : M), vs = [.ref a.p] ∧ MOk CI CM a H m ∧ RetL (m.wait.reverse.map V.int) H Q
def spWrit (CI CM : Addr) : Sp := fun vs H Q _ => ∃ (a : MA) (m : M), vs = [.ref a.p] ∧ MOk CI CM a H m ∧ m.mem.length ≤ 40000 ∧ RetP (fun v H2 => ∃ p as, v = .ref p ∧ H p = none ∧ H2 p = some (.lst (as.map V.ref)) ∧ PrsAt H2 as (wrM m.mem)) H Q
section
variable {P : Program} {w : World} {K : PySem.W.Frag} {mg : Str → Option Value} {base : Heap} {CI CM : Addr}
theorem ok_M_waiting (T : Txt K mg CI CM) : FnM P w K mg base CM "waiting" 1 ["self"] (spWait CI CM) := by
  refine fnM_of T.d_M_waiting sc_M_waiting (fun _ _ _ _ _ _ us hl => match us, hl with | [_], _ => rfl) (fun vs H Q E h => ?_) fun f cdv A outer s H vs Q E hr h => ?_
  · obtain ⟨a, m, rfl, _⟩ := h
    rfl
  · obtain ⟨a, m, rfl, M, k⟩ := h
    have nd := sc_M_waiting.nd
    have hu := hu_of hr
    refine ⟨_, (pss_one (ps_ret (pe_listRev K (by rfl) (by rfl) T.n_list (by rfl) T.n_reversed (p_fld K (pv 0) rfl)))), ?_⟩
    rw [List.map_reverse] at k
    exact s_retL (el_listRev (evM_waiting (ev_var rfl) M T) (sq_of M.wa)) fun p H1 hp e1 h1 => k p H1 hp e1 h1
theorem ok_M_written (T : Txt K mg CI CM) : FnM P w K mg base CM "written" 1 ["self"] (spWrit CI CM) := by
  refine fnM_of T.d_M_written sc_M_written (fun _ _ _ _ _ _ us hl => match us, hl with | [_], _ => rfl) (fun vs H Q E h => ?_) fun f cdv A outer s H vs Q E hr h => ?_
  · obtain ⟨a, m, rfl, _⟩ := h
    rfl
  · obtain ⟨a, m, rfl, M, hz, k⟩ := h
    have nd := sc_M_written.nd
    have hu := hu_of hr
    refine ⟨_, (pss_one (ps_ret (pe_lc (own := [("address", 1)]) (g := gName 1) (by rfl) nd (p_list K (pe_callB (cr_sortedD K rfl) (by rfl) T.n_sorted (by decide +kernel) (pa_cons (p_fld K (pv 0) rfl) pa_nil))) (blkOk_by (N := nm_M_written) (sc := defScope s_M_written) (by decide +kernel)) (fun _ _ _ _ _ => pg_name (i := 1) nd rfl (Or.inl rfl)) (fun _ _ _ _ _ => (pts_one (pt_cmpR op_ne (pe_dget hu (p_fld K (pv 0) rfl) (pv 1) (fun _ _ => rfl)) pe_int (nomark _)))) (fun _ _ _ _ _ => (pe_tup (pa_cons (pv 1) (pa_cons (pe_dget hu (p_fld K (pv 0) rfl) (pv 1) (fun _ _ => rfl)) pa_nil))))))), ?_⟩
    refine s_retP (evp_lcPairs (xs := srt (m.mem.map fun p : Int × Int => p.1)) (fun x => !decide (look m.mem x = 0)) (fun x => look m.mem x) (el_sortedD (evM_memory (ev_var rfl) M T) M.me) (by rw [srt_len, List.length_map]; exact hz) (fun x => rfl) (fun x H1 e1 hx => ?_) fun x H1 e1 hx hf => ?_) fun v H1 e1 hv => k v H1 e1 hv
    · exact et_test (ev_op (ev_dget (k := Sum.inl x) (evM_memory (ev_var rfl) (M.ex e1) T) (ev_var rfl) (M.ex e1).me (val_memV (srt_mem.mp hx))) ev_c (rv_neb rfl (by rw [dec_int0])))
    · exact eu_tup (ea_cons (ev_var rfl) (ea_cons (ev_dget (k := Sum.inl x) (evM_memory (ev_var rfl) (M.ex e1) T) (ev_var rfl) (M.ex e1).me (val_memV (srt_mem.mp hx))) ea_nil)) (Nat.le_of_ble_eq_true rfl)
end

def spIsInt : Sp := fun vs H Q _ => ∃ i : Int, vs = [.int i] ∧ RetV (.bl true) H Q
def spDraws : Sp := fun vs H Q _ => ∃ (cell m : Int) (n : Nat), vs = [.int cell, .int m, .int (n : Int)] ∧ (0 < m ∧ m < 1000000) ∧ n ≤ 1000 ∧ RetP (fun v H2 => ∃ (p : Addr) (ns : List Int), v = .ref p ∧ H p = none ∧ H2 p = some (.lst (ns.map V.int)) ∧ ns.length = n ∧ ∀ x ∈ ns, 0 ≤ x ∧ x < m) H Q
section
variable {P : Program} {w : World} {K : PySem.W.Frag} {mg : Str → Option Value} {base : Heap} {CI CM : Addr}
theorem ev_isi {σ : L2.St} {H : Hp} {te : TE} {i : Int} {n : String} {b : Bool} (h : Ev te σ H (.int i)) (hk : PySem.W.kitOne K (.type "int") (.type n) = some b) : Ev (tCB (rIsi K) (tCons te (tCons (tC (.ty n)) tNil))) σ H (.bl b) := fun H1 e Q q =>
  h H1 e _ fun H2 e2 => ⟨.int i, .ty n, .type "int", .type n, b, rfl, .ty n, .base (.int i), hk, q H2 e2⟩
theorem ok_law_is_integer (T : Txt K mg CI CM) : FnG P w K mg base "_law_is_integer" 1 ["_law_actual"] spIsInt := by
  refine fnG_of T.d_law_is_integer sc_law_is_integer (fun _ _ _ _ _ _ us hl => match us, hl with | [_], _ => rfl) (fun vs H Q E h => ?_) fun f cdv A outer s H vs Q E hr h => ?_
  · obtain ⟨i, rfl, _⟩ := h
    rfl
  · obtain ⟨i, rfl, k⟩ := h
    have nd := sc_law_is_integer.nd
    have hu := hu_of hr
    refine ⟨_, (pss_one (ps_ret (pe_and (pe_callB (cr_isi K) (by rfl) T.n_isinstance (by decide +kernel) (pa_cons (pv 0) (pa_cons (pe_bltn (v := .ty "int") (by rfl) T.n_int (by decide +kernel) rfl) pa_nil))) (pe_one (pe_not (pe_callB (cr_isi K) (by rfl) T.n_isinstance (by decide +kernel) (pa_cons (pv 0) (pa_cons (pe_bltn (v := .ty "bool") (by rfl) T.n_bool (by decide +kernel) rfl) pa_nil)))))))), ?_⟩
    exact s_ret (v := .bl true) (ev_andV (ev_isi (n := "int") (b := true) (ev_var rfl) (kit_ty (by decide +kernel))) fun _ => ev_notV (ev_isi (n := "bool") (b := false) (ev_var rfl) (kit_ty (by decide +kernel)))) fun H1 e1 => k.go e1
theorem ok_law_draws (T : Txt K mg CI CM) : FnG P w K mg base "_law_draws" 1 ["_law_cell", "_law_modulus", "_law_count"] spDraws := by
  refine fnG_of T.d_law_draws sc_law_draws (fun _ _ _ _ _ _ us hl => match us, hl with | [_, _, _], _ => rfl) (fun vs H Q E h => ?_) fun f cdv A outer s H vs Q E hr h => ?_
  · obtain ⟨cell, m, n, rfl, _⟩ := h
    rfl
  · obtain ⟨cell, m, n, rfl, hm, hn, k⟩ := h
    have nd := sc_law_draws.nd
    have hu := hu_of hr
    refine ⟨_, (pss_cons (ps_set (i := 3) nd rfl (Or.inl rfl) (pv 0))
      (pss_cut (ps_if (pt_cmpR op_lt (pv 3) pe_int (nomark _)) (pss_one (ps_set (i := 3) nd rfl (Or.inl rfl) (pe_op op_sub pe_int (pv 3)))) pss_nil)
      (pss_cons (ps_set (i := 4) nd rfl (Or.inl rfl) (pe_lst pa_nil))
      (pss_cons (ps_if (pt_cmpR op_ge (pv 3) (pe_op op_pow pe_int pe_int) (nomark _)) (pss_cons (ps_for PassesOwn.never rfl (pi_range1 (by rfl) T.n_range (pa_cons (pv 2) pa_nil)) (pg_name (i := 5) nd rfl (Or.inl rfl)) (pss_cons (ps_expr (p_bm K (id := "list.append") (pe_bm PySem.F.plainAttrs_list PySem.F.slot_list_append PySem.F.type_list_append mt_append (pv 4) (pa_cons (pe_op op_mod (pe_callTy cr_int (by rfl) T.n_int (by decide +kernel) (pa_cons (pv 3) pa_nil)) (pv 1)) pa_nil))))
      (pss_one (ps_set (i := 3) nd rfl (Or.inl rfl) (pe_op op_fdiv (pv 3) (pv 1))))))
      (pss_one (ps_ret (pv 4)))) pss_nil)
      (pss_cons (ps_for PassesOwn.never rfl (pi_range1 (by rfl) T.n_range (pa_cons (pv 2) pa_nil)) (pg_name (i := 5) nd rfl (Or.inl rfl)) (pss_cons (ps_set (i := 6) nd rfl (Or.inl rfl) (pe_op op_mod (pe_callTy cr_int (by rfl) T.n_int (by decide +kernel) (pa_cons (pe_op op_mul (pe_op op_add (pe_op op_add (pv 3) (pe_op op_mul pe_int (pv 5))) pe_int) pe_int) pa_nil)) pe_int))
      (pss_cons (ps_set (i := 6) nd rfl (Or.inl rfl) (pe_op op_mod (pe_callTy cr_int (by rfl) T.n_int (by decide +kernel) (pa_cons (pe_op op_add (pe_op op_mul (pv 6) pe_int) (pe_op op_mul pe_int (pv 5))) pa_nil)) pe_int))
      (pss_one (ps_expr (p_bm K (id := "list.append") (pe_bm PySem.F.plainAttrs_list PySem.F.slot_list_append PySem.F.type_list_append mt_append (pv 4) (pa_cons (pe_op op_mod (pe_callTy cr_int (by rfl) T.n_int (by decide +kernel) (pa_cons (pe_op op_fdiv (pv 6) pe_int) pa_nil)) (pv 1)) pa_nil))))))))
      (pss_one (ps_ret (pv 4)))))))), ?_⟩
    refine q_asg (v := .int cell) (ev_var rfl) fun H1 e1 => ?_
    refine q_cut (M := fun σ' H' => ∃ x : Int, 0 ≤ x ∧ σ' = [some (.int cell), some (.int m), some (.int (n : Int)), some (.int x), none, none, none] ∧ Ex H H') ?_ fun σ' H' h => ?_
    · refine s_when (b := decide (cell < 0)) (et_test (ev_op (ev_var rfl) ev_c rv_I0)) (fun hb H2 e2 => ?_) (fun hb H2 e2 => ⟨cell, by have := of_decide_eq_false hb; omega, rfl, e1.trans e2⟩)
      have hb := of_decide_eq_true hb
      exact s_asg (v := .int (0 - cell)) (ev_op ev_c (ev_var rfl) rv_I0) fun H3 e3 => ⟨0 - cell, by omega, rfl, (e1.trans e2).trans e3⟩
    obtain ⟨x, hx, rfl, ex⟩ := h
    refine q_asgL (el_lst ea_nil (Nat.le_of_ble_eq_true rfl)) fun p H1 hp e1 h1 => ?_
    have hp0 : H p = none := fresh_back ex hp
    have step : ∀ (σ2 : L2.St) (H' : Hp) (ns : List Int) (te : TE) (y : Int) (D : Ends), Ex H H' → H' p = some (.lst (ns.map V.int)) → ns.length < 1000 → σ2[4]? = some (some (.ref p)) → Ev te σ2 H' (.int y) → (∀ H2, Ex H H2 → H2 p = some (.lst ((ns ++ [y]).map V.int)) → D.nx σ2 H2) →
        tDrop (tBM K "list" rAppend (tVar 4) (tCons te tNil)) D σ2 H' := fun σ2 H' ns te y D eH hH hl hσ hy hk => by
      refine s_app hH (ev_var hσ) hy (by rw [List.length_map]; omega) fun H2 e2 => hk _ (Ex.mut (eH.trans e2) hp0) ?_
      rw [List.map_append, upd_same] <;> rfl
    refine q_when (b := decide (x ≥ 10 ^ 18)) (et_test (ev_op (ev_var rfl) (ev_op ev_c ev_c (rv_I ⟨by decide, by decide, by decide⟩)) rv_I0)) (fun hb H2 e2 => ?_) (fun hb H2 e2 => ?_)
    · refine q_forR1 (n := (n : Int)) (ea_cons (ev_var rfl) ea_nil) (by omega) (fun i σ' H' => ∃ (y : Int) (u : Option V) (ns : List Int), σ' = [some (.int cell), some (.int m), some (.int (n : Int)), some (.int y), some (.ref p), u, none] ∧ Ex H H' ∧ H' p = some (.lst (ns.map V.int)) ∧ ns.length = i ∧ ∀ z ∈ ns, 0 ≤ z ∧ z < m)
        (fun H3 e3 => ⟨x, none, [], rfl, (ex.trans e1).trans (e2.trans e3), (e2.trans e3) _ _ h1, rfl, by simp⟩) (fun i σ' H' hi hp => ?_) (fun σ' H' hp => ?_)
      · obtain ⟨y, u, ns, rfl, eH, hH, hl, hr⟩ := hp
        refine q_st (step _ H' ns _ (y % m) _ eH hH (by omega) rfl (ev_op (ev_int (ea_cons (ev_var rfl) ea_nil)) (ev_var rfl) (rv_I (show (0 : Int) < m from hm.1))) fun H4 e4 h4 => ?_)
        refine s_asg (v := .int (y / m)) (ev_op (ev_var rfl) (ev_var rfl) (rv_I (show CDiv _ _ from ⟨by omega, by omega⟩))) fun H5 e5 => ⟨y / m, _, ns ++ [y % m], rfl, e4.trans e5, e5 _ _ h4, by rw [List.length_append, hl] <;> rfl, fun z hz => ?_⟩
        rcases List.mem_append.mp hz with q | q
        · exact hr z q
        · rw [List.mem_singleton.mp q]
          exact ⟨Int.emod_nonneg _ (by omega), Int.emod_lt_of_pos _ hm.1⟩
      · obtain ⟨y, u, ns, rfl, eH, hH, hl, hr⟩ := hp
        exact s_ret (v := .ref p) (ev_var rfl) fun H3 e3 => k _ _ (eH.trans e3) ⟨p, ns, rfl, hp0, e3 _ _ hH, by simpa using hl, hr⟩
    · have hb := of_decide_eq_false hb
      have hxb : x < 10 ^ 18 := by omega
      refine q_forR1 (n := (n : Int)) (ea_cons (ev_var rfl) ea_nil) (by omega) (fun i σ' H' => ∃ (u v : Option V) (ns : List Int), σ' = [some (.int cell), some (.int m), some (.int (n : Int)), some (.int x), some (.ref p), u, v] ∧ Ex H H' ∧ H' p = some (.lst (ns.map V.int)) ∧ ns.length = i ∧ ∀ z ∈ ns, 0 ≤ z ∧ z < m)
        (fun H3 e3 => ⟨none, none, [], rfl, (ex.trans e1).trans (e2.trans e3), (e2.trans e3) _ _ h1, rfl, by simp⟩) (fun i σ' H' hi hp => ?_) (fun σ' H' hp => ?_)
      · obtain ⟨u, v, ns, rfl, eH, hH, hl, hr⟩ := hp
        have hi' : (i : Int) < 1000 := by omega
        have hi0 : (0 : Int) ≤ i := by omega
        have c7 : CMul 7 (i : Int) := Or.inl ⟨by omega, by omega⟩
        refine q_asg (v := .int ((x + 7 * (i : Int) + 1) * 48271 % 2147483647)) (ev_op (ev_int (ea_cons (ev_op (ev_op (ev_op (ev_var rfl) (ev_op ev_c (ev_var rfl) (rv_I c7)) rv_I0) ev_c rv_I0) ev_c (rv_I (show CMul _ _ from Or.inl ⟨by omega, by omega⟩))) ea_nil)) ev_c (rv_I (show (0 : Int) < 2147483647 by decide))) fun H3 e3 => ?_
        have b1 : 0 ≤ (x + 7 * (i : Int) + 1) * 48271 % 2147483647 ∧ (x + 7 * (i : Int) + 1) * 48271 % 2147483647 < 2147483647 := ⟨Int.emod_nonneg _ (by decide), Int.emod_lt_of_pos _ (by decide)⟩
        generalize (x + 7 * (i : Int) + 1) * 48271 % 2147483647 = a1 at *
        refine q_asg (v := .int ((a1 * 69621 + 31 * (i : Int)) % 2147483629)) (ev_op (ev_int (ea_cons (ev_op (ev_op (ev_var rfl) ev_c (rv_I (show CMul _ _ from Or.inl ⟨by omega, by omega⟩))) (ev_op ev_c (ev_var rfl) (rv_I (show CMul _ _ from Or.inl ⟨by omega, by omega⟩))) rv_I0) ea_nil)) ev_c (rv_I (show (0 : Int) < 2147483629 by decide))) fun H4 e4 => ?_
        have b2 : 0 ≤ (a1 * 69621 + 31 * (i : Int)) % 2147483629 := Int.emod_nonneg _ (by decide)
        generalize (a1 * 69621 + 31 * (i : Int)) % 2147483629 = a2 at *
        refine step _ H4 ns _ (a2 / 7 % m) _ ((eH.trans e3).trans e4) (e4 _ _ (e3 _ _ hH)) (by omega) rfl (ev_op (ev_int (ea_cons (ev_op (ev_var rfl) ev_c (rv_I (show CDiv _ _ from ⟨by omega, by omega⟩))) ea_nil)) (ev_var rfl) (rv_I (show (0 : Int) < m from hm.1))) fun H5 e5 h5 => ?_
        refine ⟨_, _, ns ++ [a2 / 7 % m], rfl, e5, h5, by rw [List.length_append, hl] <;> rfl, fun z hz => ?_⟩
        rcases List.mem_append.mp hz with q | q
        · exact hr z q
        · rw [List.mem_singleton.mp q]
          exact ⟨Int.emod_nonneg _ (by omega), Int.emod_lt_of_pos _ hm.1⟩
      · obtain ⟨u, v, ns, rfl, eH, hH, hl, hr⟩ := hp
        exact s_ret (v := .ref p) (ev_var rfl) fun H3 e3 => k _ _ (eH.trans e3) ⟨p, ns, rfl, hp0, e3 _ _ hH, by simpa using hl, hr⟩
end

inductive LV where
  | i (x : Int)
  | t (l : List Int)
/-- the words of a table from a place on -/
def tWordsAt (l : List Int) (p : Nat) (n : Int) : List Int := (List.range n.toNat).map fun k => wd l (p + 2 * k)
def lstep (l : List Int) (c : Nat) (p : Nat) : Option (List LV × Nat) :=
  if c = 116 then
    if l.length ≤ p + 1 ∨ 7 < gI l p ∨ ¬ (1 ≤ gI l (p + 1) ∧ gI l (p + 1) ≤ 16) then none
    else if (l.length : Int) < p + 2 + 2 * gI l (p + 1) then none
    else some ([.i (gI l p), .t (tWordsAt l (p + 2) (gI l (p + 1)))], p + 2 + 2 * (gI l (p + 1)).toNat)
  else if c = 112 then
    if l.length ≤ p ∨ 7 < gI l p / 16 ∨ 7 < gI l p % 16 then none else some ([.i (gI l p / 16), .i (gI l p % 16)], p + 1)
  else if c = 119 then
    if l.length ≤ p + 1 then none else some ([.i (wd l p)], p + 2)
  else if l.length ≤ p ∨ (c = 114 ∧ 7 < gI l p) then none else some ([.i (gI l p)], p + 1)
def lrun (l : List Int) : List Nat → List LV → Nat → Option (List LV × Nat)
  | [], vs, p => some (vs, p)
  | c :: cs, vs, p => match lstep l c p with
    | none => none
    | some (ws, q) => lrun l cs (vs ++ ws) q
def kd (c : Nat) : List Nat := match c with
  | 0 => [] | 1 => [114, 119] | 14 => [112, 119] | 15 => [112, 119] | 16 => [114, 107] | 17 => [114, 107] | 18 => [114, 107] | 19 => [107] | 20 => [107] | 21 => [119] | 22 => [114, 119] | 23 => [114, 119]
  | 24 => [116] | 25 => [119] | 26 => [116] | 27 => [] | 28 => [114] | 29 => [114] | 30 => [] | 31 => [107] | _ => [112]
def Ins.lv : Ins → List LV
  | .set r w => [.i r, .i w] | .copy r s => [.i r, .i s] | .op _ r s => [.i r, .i s] | .load r s w => [.i r, .i s, .i w] | .store r s w => [.i r, .i s, .i w]
  | .take r k => [.i r, .i k] | .put r k => [.i r, .i k] | .frame r k => [.i r, .i k] | .down k => [.i k] | .up k => [.i k] | .jump a => [.i a] | .zero r a => [.i r, .i a] | .nonzero r a => [.i r, .i a]
  | .table r t => [.i r, .t t] | .call a => [.i a] | .calls r t => [.i r, .t t] | .back => [] | .input r => [.i r] | .output r => [.i r] | .halt => [] | .trap k => [.i k]
/-- what the law's decoding finds -/
def ldec (d : List Int) : Option (List LV × Nat) := if d.length < 1 then none else if ¬ (1 ≤ gI d 0 ∧ gI d 0 ≤ 31) then none else lrun d (kd (gI d 0).toNat) [] 1
theorem gI_drop1 (d : List Int) (i : Nat) : gI (d.drop 1) i = gI d (i + 1) := by
  unfold gI
  rw [List.getD_eq_getElem?_getD, List.getD_eq_getElem?_getD, List.getElem?_drop, Nat.add_comm]
theorem wd_drop1 (d : List Int) (i : Nat) : wd (d.drop 1) i = wd d (i + 1) := by
  unfold wd
  rw [gI_drop1, gI_drop1]
theorem tW_drop1 (d : List Int) (n : Int) : tWords (d.drop 1) n = tWordsAt d 3 n := by
  unfold tWords tWordsAt
  refine List.map_congr_left fun k _ => ?_
  rw [wd_drop1]
  congr 1
  omega
/-- the code, the values, the bytes -/
def lvO (o : Option (Ins × Int)) : Option (List LV × Nat) := o.map fun p => (p.1.lv, p.2.toNat)
theorem lr_none {l : List Int} {c p : Nat} {cs : List Nat} {vs : List LV} (h : lstep l c p = none) : lrun l (c :: cs) vs p = none := by rw [lrun, h]
theorem lr_some {l : List Int} {c p q : Nat} {cs : List Nat} {vs ws : List LV} (h : lstep l c p = some (ws, q)) : lrun l (c :: cs) vs p = lrun l cs (vs ++ ws) q := by rw [lrun, h]
theorem ls_t0 {l : List Int} {p : Nat} (h : l.length ≤ p + 1 ∨ 7 < gI l p ∨ ¬ (1 ≤ gI l (p + 1) ∧ gI l (p + 1) ≤ 16) ∨ (l.length : Int) < p + 2 + 2 * gI l (p + 1)) : lstep l 116 p = none := by
  unfold lstep
  rw [if_pos rfl]
  by_cases q : l.length ≤ p + 1 ∨ 7 < gI l p ∨ ¬ (1 ≤ gI l (p + 1) ∧ gI l (p + 1) ≤ 16)
  · rw [if_pos q]
  · rw [if_neg q, if_pos (by omega)]
theorem ls_t1 {l : List Int} {p : Nat} (h : ¬ (l.length ≤ p + 1 ∨ 7 < gI l p ∨ ¬ (1 ≤ gI l (p + 1) ∧ gI l (p + 1) ≤ 16))) (h2 : ¬ (l.length : Int) < p + 2 + 2 * gI l (p + 1)) : lstep l 116 p = some ([.i (gI l p), .t (tWordsAt l (p + 2) (gI l (p + 1)))], p + 2 + 2 * (gI l (p + 1)).toNat) := by
  unfold lstep
  rw [if_pos rfl, if_neg h, if_neg h2]
theorem ls_p0 {l : List Int} {p : Nat} (h : l.length ≤ p ∨ 7 < gI l p / 16 ∨ 7 < gI l p % 16) : lstep l 112 p = none := by
  unfold lstep
  rw [if_neg (by decide), if_pos rfl, if_pos h]
theorem ls_p1 {l : List Int} {p : Nat} (h : ¬ (l.length ≤ p ∨ 7 < gI l p / 16 ∨ 7 < gI l p % 16)) : lstep l 112 p = some ([.i (gI l p / 16), .i (gI l p % 16)], p + 1) := by
  unfold lstep
  rw [if_neg (by decide), if_pos rfl, if_neg h]
theorem ls_w0 {l : List Int} {p : Nat} (h : l.length ≤ p + 1) : lstep l 119 p = none := by
  unfold lstep
  rw [if_neg (by decide), if_neg (by decide), if_pos rfl, if_pos h]
theorem ls_w1 {l : List Int} {p : Nat} (h : ¬ l.length ≤ p + 1) : lstep l 119 p = some ([.i (wd l p)], p + 2) := by
  unfold lstep
  rw [if_neg (by decide), if_neg (by decide), if_pos rfl, if_neg h]
theorem ls_r0 {l : List Int} {p : Nat} (h : l.length ≤ p ∨ 7 < gI l p) : lstep l 114 p = none := by
  unfold lstep
  rw [if_neg (by decide), if_neg (by decide), if_neg (by decide), if_pos (by omega)]
theorem ls_r1 {l : List Int} {p : Nat} (h : ¬ (l.length ≤ p ∨ 7 < gI l p)) : lstep l 114 p = some ([.i (gI l p)], p + 1) := by
  unfold lstep
  rw [if_neg (by decide), if_neg (by decide), if_neg (by decide), if_neg (by omega)]
theorem ls_k0 {l : List Int} {p : Nat} (h : l.length ≤ p) : lstep l 107 p = none := by
  unfold lstep
  rw [if_neg (by decide), if_neg (by decide), if_neg (by decide), if_pos (by omega)]
theorem ls_k1 {l : List Int} {p : Nat} (h : ¬ l.length ≤ p) : lstep l 107 p = some ([.i (gI l p)], p + 1) := by
  unfold lstep
  rw [if_neg (by decide), if_neg (by decide), if_neg (by decide), if_neg (by omega)]
theorem lvO_some {i : Ins} {n : Int} {vs : List LV} {m : Nat} (h1 : vs = i.lv) (h2 : n = (m : Int)) : some (vs, m) = lvO (some (i, n)) := by
  subst h1
  subst h2
  rfl
theorem dT {d : List Int} {c : Nat} (hT : isT c) (h1 : ¬ d.length < 1) (g : By (gI d 2)) : lrun d (kd c) [] 1 = lvO (tI c (d.drop 1)) := by
  have hk : kd c = [116] := by unfold isT at hT; rcases hT with rfl | rfl <;> rfl
  unfold By at g
  rw [hk]
  unfold tI
  rw [gI_drop1, gI_drop1, tW_drop1, List.length_drop]
  simp only [Nat.zero_add, Nat.reduceAdd]
  by_cases r1 : d.length - 1 < 2
  · rw [if_pos r1, lr_none (ls_t0 (by omega))] <;> rfl
  rw [if_neg r1]
  by_cases r2 : 8 ≤ gI d 1
  · rw [if_pos r2, lr_none (ls_t0 (by omega))] <;> rfl
  rw [if_neg r2]
  by_cases r3 : ¬ (1 ≤ gI d 2 ∧ gI d 2 ≤ 16)
  · rw [if_pos r3, lr_none (ls_t0 (.inr (.inr (.inl r3))))] <;> rfl
  rw [if_neg r3]
  by_cases r4 : ((d.length - 1 : Nat) : Int) < 2 + 2 * gI d 2
  · rw [if_pos r4, lr_none (ls_t0 (.inr (.inr (.inr (by simp only [Nat.reduceAdd]; omega)))))] <;> rfl
  rw [if_neg r4, lr_some (ls_t1 (by simp only [Nat.reduceAdd]; omega) (by simp only [Nat.reduceAdd]; omega))]
  refine lvO_some ?_ (by simp only [Nat.reduceAdd]; omega)
  unfold isT at hT
  rcases hT with rfl | rfl <;> rfl
theorem dP {d : List Int} {c : Nat} (hT : ¬ isT c) (hP : isP c) (h1 : ¬ d.length < 1) (g : By (gI d 1)) : lrun d (kd c) [] 1 = lvO (pI c (d.drop 1)) := by
  unfold By at g
  unfold isP at hP
  unfold pI
  rw [gI_drop1, wd_drop1, List.length_drop]
  simp only [Nat.zero_add, Nat.reduceAdd]
  have hk : kd c = if c = 14 ∨ c = 15 then [112, 119] else [112] := by
    have : ∀ c, 2 ≤ c → c ≤ 15 → kd c = if c = 14 ∨ c = 15 then [112, 119] else [112] := by
      intro c a b
      have : ∀ c, c ≤ 15 → 2 ≤ c → kd c = if c = 14 ∨ c = 15 then [112, 119] else [112] := by decide
      exact this c b a
    exact this c hP.1 hP.2
  rw [hk]
  by_cases r0 : d.length - 1 < 1 ∨ ¬ (gI d 1 / 16 < 8 ∧ gI d 1 % 16 < 8)
  · have q : lstep d 112 1 = none := ls_p0 (by omega)
    have e : ∀ b : List Nat, lrun d (112 :: b) [] 1 = none := fun b => lr_none q
    have e2 : lrun d (if c = 14 ∨ c = 15 then [112, 119] else [112]) [] 1 = none := by split <;> exact e _
    rw [e2]
    by_cases r1 : d.length - 1 < 1
    · rw [if_pos r1] <;> rfl
    · rw [if_neg r1, if_pos (r0.resolve_left r1)] <;> rfl
  have r1 : ¬ d.length - 1 < 1 := fun z => r0 (.inl z)
  have r2 : gI d 1 / 16 < 8 ∧ gI d 1 % 16 < 8 := Classical.not_not.mp fun z => r0 (.inr z)
  have q : lstep d 112 1 = some ([.i (gI d 1 / 16), .i (gI d 1 % 16)], 1 + 1) := ls_p1 (by omega)
  rw [if_neg r1, if_neg (show ¬ ¬ (gI d 1 / 16 < 8 ∧ gI d 1 % 16 < 8) from fun z => z r2)]
  by_cases r3 : c = 14 ∨ c = 15
  · rw [if_pos r3, if_neg (show ¬ ¬ (c = 14 ∨ c = 15) from fun z => z r3), lr_some q]
    by_cases r4 : d.length - 1 < 3
    · rw [if_pos r4, lr_none (ls_w0 (by omega))] <;> rfl
    · rw [if_neg r4, lr_some (ls_w1 (by omega))]
      refine lvO_some ?_ rfl
      rcases r3 with rfl | rfl <;> rfl
  · rw [if_neg r3, if_pos r3, lr_some q]
    refine lvO_some ?_ rfl
    by_cases z : c = 2
    · rw [if_pos z] <;> rfl
    · rw [if_neg z] <;> rfl
theorem dS {d : List Int} {c : Nat} (hS : isS c) (h1 : ¬ d.length < 1) : lrun d (kd c) [] 1 = lvO (sI c (d.drop 1)) := by
  unfold isS at hS
  unfold sI
  rw [gI_drop1, gI_drop1, wd_drop1, List.length_drop]
  simp only [Nat.zero_add, Nat.reduceAdd]
  by_cases r0 : d.length - 1 < 1 ∨ 8 ≤ gI d 1
  · have q : lstep d 114 1 = none := ls_r0 (by omega)
    have e : ∀ b : List Nat, lrun d (114 :: b) [] 1 = none := fun b => lr_none q
    have e2 : lrun d (kd c) [] 1 = none := by rcases hS with rfl | rfl | rfl | rfl | rfl | rfl | rfl | rfl <;> exact e _
    rw [e2]
    by_cases r1 : d.length - 1 < 1
    · rw [if_pos r1] <;> rfl
    · rw [if_neg r1, if_pos (r0.resolve_left r1)] <;> rfl
  have r1 : ¬ d.length - 1 < 1 := fun z => r0 (.inl z)
  have r2 : ¬ 8 ≤ gI d 1 := fun z => r0 (.inr z)
  have q : lstep d 114 1 = some ([.i (gI d 1)], 1 + 1) := ls_r1 (by omega)
  rw [if_neg r1, if_neg r2]
  by_cases r3 : c = 28 ∨ c = 29
  · rw [if_pos r3]
    rcases r3 with rfl | rfl
    · rw [show kd 28 = [114] from rfl, lr_some q] <;> rfl
    · rw [show kd 29 = [114] from rfl, lr_some q] <;> rfl
  rw [if_neg r3]
  by_cases r4 : c = 16 ∨ c = 17 ∨ c = 18
  · have hk : kd c = [114, 107] := by rcases r4 with rfl | rfl | rfl <;> rfl
    rw [hk, lr_some q]
    by_cases r5 : d.length - 1 < 2
    · rw [if_pos r5, lr_none (ls_k0 (by omega))] <;> rfl
    · rw [if_neg r5, lr_some (ls_k1 (by omega))]
      rcases r4 with rfl | rfl | rfl <;> rfl
  · have hk : kd c = [114, 119] := by rcases hS with rfl | rfl | rfl | rfl | rfl | rfl | rfl | rfl <;> first | rfl | omega
    rw [hk, lr_some q]
    by_cases r5 : d.length - 1 < 3
    · rw [lr_none (ls_w0 (by omega))]
      by_cases r6 : d.length - 1 < 2
      · rw [if_pos r6] <;> rfl
      · rw [if_neg r6, if_neg (by omega), if_neg (by omega), if_pos r5] <;> rfl
    · rw [if_neg (by omega), if_neg (by omega), if_neg (by omega), if_neg r5, lr_some (ls_w1 (by omega))]
      refine lvO_some ?_ rfl
      have : c = 1 ∨ c = 22 ∨ c = 23 := by omega
      rcases this with rfl | rfl | rfl <;> rfl
theorem dN {d : List Int} {c : Nat} (hT : ¬ isT c) (hP : ¬ isP c) (hS : ¬ isS c) (hc : 1 ≤ c ∧ c ≤ 31) (h1 : ¬ d.length < 1) : lrun d (kd c) [] 1 = lvO (nI c (d.drop 1)) := by
  have hc2 : c = 19 ∨ c = 20 ∨ c = 21 ∨ c = 25 ∨ c = 27 ∨ c = 30 ∨ c = 31 := by
    unfold isT at hT
    unfold isP at hP
    unfold isS at hS
    omega
  unfold nI
  rw [gI_drop1, wd_drop1, List.length_drop]
  simp only [Nat.zero_add, Nat.reduceAdd]
  by_cases r0 : c = 27 ∨ c = 30
  · rw [if_pos r0]
    rcases r0 with rfl | rfl <;> rfl
  rw [if_neg r0]
  by_cases r1 : c = 19 ∨ c = 20 ∨ c = 31
  · have hk : kd c = [107] := by rcases r1 with rfl | rfl | rfl <;> rfl
    rw [hk]
    by_cases r2 : d.length - 1 < 1
    · rw [if_pos r2, lr_none (ls_k0 (by omega))] <;> rfl
    · rw [if_neg r2, if_pos r1, lr_some (ls_k1 (by omega))]
      rcases r1 with rfl | rfl | rfl <;> rfl
  · have r3 : c = 21 ∨ c = 25 := by omega
    have hk : kd c = [119] := by rcases r3 with rfl | rfl <;> rfl
    rw [hk]
    by_cases r4 : d.length - 1 < 2
    · rw [lr_none (ls_w0 (by omega))]
      by_cases r2 : d.length - 1 < 1
      · rw [if_pos r2] <;> rfl
      · rw [if_neg r2, if_neg r1, if_pos r4] <;> rfl
    · rw [if_neg (by omega), if_neg r1, if_neg r4, lr_some (ls_w1 (by omega))]
      rcases r3 with rfl | rfl <;> rfl
theorem ldec_dec {d : List Int} (h : Bytes d) : ldec d = lvO (dec d) := by
  unfold ldec dec
  by_cases h1 : d.length < 1
  · rw [if_pos h1, if_pos h1] <;> rfl
  rw [if_neg h1, if_neg h1]
  by_cases h2 : ¬ (1 ≤ gI d 0 ∧ gI d 0 ≤ 31)
  · rw [if_pos h2, if_pos h2] <;> rfl
  rw [if_neg h2, if_neg h2]
  have h2 := Classical.not_not.mp h2
  unfold decC
  by_cases hT : isT (gI d 0).toNat
  · rw [if_pos hT]
    exact dT hT h1 (gI_by h 2)
  rw [if_neg hT]
  by_cases hP : isP (gI d 0).toNat
  · rw [if_pos hP]
    exact dP hT hP h1 (gI_by h 1)
  rw [if_neg hP]
  by_cases hS : isS (gI d 0).toNat
  · rw [if_pos hS]
    exact dS hS h1
  rw [if_neg hS]
  exact dN hT hP hS (by omega) h1
theorem tI_code {c : Nat} {l : List Int} {i : Ins} {n : Int} (hT : isT c) (e : tI c l = some (i, n)) : i.code = c := by
  unfold isT at hT
  unfold tI at e
  split at e; · cases e
  split at e; · cases e
  split at e; · cases e
  split at e; · cases e
  have e := (Prod.mk.inj (Option.some.inj e)).1
  rcases hT with rfl | rfl <;> rw [← e] <;> rfl
theorem pI_code {c : Nat} {l : List Int} {i : Ins} {n : Int} (e : pI c l = some (i, n)) : i.code = c := by
  unfold pI at e
  split at e; · cases e
  split at e; · cases e
  split at e
  · have e := (Prod.mk.inj (Option.some.inj e)).1
    by_cases z : c = 2
    · rw [if_pos z] at e
      rw [← e, z] <;> rfl
    · rw [if_neg z] at e
      rw [← e] <;> rfl
  · rename_i h
    have h := Classical.not_not.mp h
    split at e; · cases e
    have e := (Prod.mk.inj (Option.some.inj e)).1
    rcases h with rfl | rfl <;> rw [← e] <;> rfl
theorem sI_code {c : Nat} {l : List Int} {i : Ins} {n : Int} (hS : isS c) (e : sI c l = some (i, n)) : i.code = c := by
  unfold isS at hS
  unfold sI at e
  split at e; · cases e
  split at e; · cases e
  split at e
  · rename_i h
    have e := (Prod.mk.inj (Option.some.inj e)).1
    rcases h with rfl | rfl <;> rw [← e] <;> rfl
  split at e; · cases e
  split at e
  · rename_i h
    have e := (Prod.mk.inj (Option.some.inj e)).1
    rw [← e, h] <;> rfl
  split at e
  · rename_i h
    have e := (Prod.mk.inj (Option.some.inj e)).1
    rcases h with rfl | rfl <;> rw [← e] <;> rfl
  split at e; · cases e
  have e := (Prod.mk.inj (Option.some.inj e)).1
  have : c = 1 ∨ c = 22 ∨ c = 23 := by omega
  rcases this with rfl | rfl | rfl <;> rw [← e] <;> rfl
theorem nI_code {c : Nat} {l : List Int} {i : Ins} {n : Int} (h : c = 19 ∨ c = 20 ∨ c = 21 ∨ c = 25 ∨ c = 27 ∨ c = 30 ∨ c = 31) (e : nI c l = some (i, n)) : i.code = c := by
  unfold nI at e
  split at e
  · rename_i h
    have e := (Prod.mk.inj (Option.some.inj e)).1
    rcases h with rfl | rfl <;> rw [← e] <;> rfl
  split at e; · cases e
  split at e
  · rename_i h
    have e := (Prod.mk.inj (Option.some.inj e)).1
    rcases h with rfl | rfl | rfl <;> rw [← e] <;> rfl
  split at e; · cases e
  have e := (Prod.mk.inj (Option.some.inj e)).1
  have : c = 21 ∨ c = 25 := by omega
  rcases this with rfl | rfl <;> rw [← e] <;> rfl
theorem dec_code {d : List Int} {i : Ins} {n : Int} (e : dec d = some (i, n)) : i.code = (gI d 0).toNat ∧ 1 ≤ d.length ∧ 1 ≤ gI d 0 ∧ gI d 0 ≤ 31 := by
  unfold dec at e
  split at e; · cases e
  split at e; · cases e
  rename_i h1 h2
  have h2 := Classical.not_not.mp h2
  refine ⟨?_, by omega, h2⟩
  unfold decC at e
  split at e
  · rename_i hT; exact tI_code hT e
  split at e
  · exact pI_code e
  split at e
  · rename_i hS; exact sI_code hS e
  rename_i hT hP hS
  refine nI_code ?_ e
  unfold isT at hT
  unfold isP at hP
  unfold isS at hS
  omega

def tab_KINDS : List Str := ["", "rw", "p", "p", "p", "p", "p", "p", "p", "p", "p", "p", "p", "p", "pw", "pw", "rk", "rk", "rk",
  "k", "k", "w", "rw", "rw", "t", "w", "t", "", "r", "r", "", "k"]
def spTab (l : List Str) : Sp := fun vs H Q _ => vs = [] ∧ RetL (l.map V.str) H Q
section
variable {K : PySem.W.Frag} {σ : L2.St} {H : Hp} {ta tb : TE} {xs ys : List V}
theorem el_is {te : TE} (h : EvL te σ H xs) (e : xs = ys) : EvL te σ H ys := by
  rw [← e]
  exact h
/-- a list and a new one -/
theorem el_catV {l : Addr} (ha : Ev ta σ H (.ref l)) (hl : H l = some (.lst xs)) (hb : EvL tb σ H ys) (hz : xs.length + ys.length ≤ 100000) : EvL (tOp rCat ta tb) σ H (xs ++ ys) := fun H1 e Q q =>
  ha H1 e _ fun H2 e2 => hb H2 (e.trans e2) _ fun p H3 hp e3 h3 => ⟨l, p, xs, ys, rfl, rfl, e3 _ _ (e2 _ _ (e _ _ hl)), h3, sz_of hz, fun c hc => q c _ (fresh_back (e2.trans e3) hc) ((e2.trans e3).trans (Ex.new hc)) upd_same⟩
theorem el_catVV {l b : Addr} (ha : Ev ta σ H (.ref l)) (hl : H l = some (.lst xs)) (hb : Ev tb σ H (.ref b)) (hb2 : H b = some (.lst ys)) (hz : xs.length + ys.length ≤ 100000) : EvL (tOp rCat ta tb) σ H (xs ++ ys) := fun H1 e Q q =>
  ha H1 e _ fun H2 e2 => hb H2 (e.trans e2) _ fun H3 e3 => ⟨l, b, xs, ys, rfl, rfl, e3 _ _ (e2 _ _ (e _ _ hl)), e3 _ _ (e2 _ _ (e _ _ hb2)), sz_of hz, fun c hc => q c _ (fresh_back (e2.trans e3) hc) ((e2.trans e3).trans (Ex.new hc)) upd_same⟩
end
section
variable {P : Program} {w : World} {K : PySem.W.Frag} {mg : Str → Option Value} {base : Heap} {CI CM : Addr}
theorem ok_law_names (T : Txt K mg CI CM) : FnG P w K mg base "_law_names" 1 [] (spTab tab_NAMES) := by
  refine fnG_of T.d_law_names sc_law_names (fun _ _ _ _ _ _ us hl => match us, hl with | [], _ => rfl) (fun vs H Q E h => ?_) fun f cdv A outer s H vs Q E hr h => ?_
  · obtain ⟨rfl, _⟩ := h
    rfl
  · obtain ⟨rfl, k⟩ := h
    have nd := sc_law_names.nd
    have hu := hu_of hr
    refine ⟨_, (pss_cons (ps_set (i := 0) nd rfl (Or.inl rfl) (pe_lst (pa_cons pe_str (pa_cons pe_str (pa_cons pe_str (pa_cons pe_str (pa_cons pe_str (pa_cons pe_str (pa_cons pe_str (pa_cons pe_str (pa_cons pe_str (pa_cons pe_str (pa_cons pe_str (pa_cons pe_str (pa_cons pe_str (pa_cons pe_str pa_nil))))))))))))))))
      (pss_cons (ps_set (i := 0) nd rfl (Or.inl rfl) (pe_op op_cat (pv 0) (pe_lst (pa_cons pe_str (pa_cons pe_str (pa_cons pe_str (pa_cons pe_str (pa_cons pe_str (pa_cons pe_str (pa_cons pe_str (pa_cons pe_str (pa_cons pe_str (pa_cons pe_str (pa_cons pe_str pa_nil))))))))))))))
      (pss_one (ps_ret (pe_op op_cat (pv 0) (pe_lst (pa_cons pe_str (pa_cons pe_str (pa_cons pe_str (pa_cons pe_str (pa_cons pe_str (pa_cons pe_str (pa_cons pe_str pa_nil))))))))))))), ?_⟩
    refine q_asgL (el_lst (by walk_at "uw.ea") (Nat.le_of_ble_eq_true rfl)) fun p1 H1 hp1 e1 h1 => ?_
    refine q_asgL (el_catV (ev_var rfl) h1 (el_lst (by walk_at "uw.ea") (Nat.le_of_ble_eq_true rfl)) (Nat.le_of_ble_eq_true rfl)) fun p2 H2 hp2 e2 h2 => ?_
    refine s_retL (el_catV (ev_var rfl) h2 (el_lst (by walk_at "uw.ea") (Nat.le_of_ble_eq_true rfl)) (Nat.le_of_ble_eq_true rfl)) fun p H3 hp e3 h3 => ?_
    exact k p H3 (fresh_back (e1.trans e2) hp) ((e1.trans e2).trans e3) h3
theorem ok_law_kinds (T : Txt K mg CI CM) : FnG P w K mg base "_law_kinds" 1 [] (spTab tab_KINDS) := by
  refine fnG_of T.d_law_kinds sc_law_kinds (fun _ _ _ _ _ _ us hl => match us, hl with | [], _ => rfl) (fun vs H Q E h => ?_) fun f cdv A outer s H vs Q E hr h => ?_
  · obtain ⟨rfl, _⟩ := h
    rfl
  · obtain ⟨rfl, k⟩ := h
    have nd := sc_law_kinds.nd
    have hu := hu_of hr
    refine ⟨_, (pss_cons (ps_set (i := 0) nd rfl (Or.inl rfl) (pe_lst (pa_cons pe_str (pa_cons pe_str (pa_cons pe_str (pa_cons pe_str (pa_cons pe_str (pa_cons pe_str (pa_cons pe_str (pa_cons pe_str (pa_cons pe_str (pa_cons pe_str (pa_cons pe_str (pa_cons pe_str (pa_cons pe_str (pa_cons pe_str (pa_cons pe_str (pa_cons pe_str (pa_cons pe_str (pa_cons pe_str (pa_cons pe_str pa_nil)))))))))))))))))))))
      (pss_one (ps_ret (pe_op op_cat (pv 0) (pe_lst (pa_cons pe_str (pa_cons pe_str (pa_cons pe_str (pa_cons pe_str (pa_cons pe_str (pa_cons pe_str (pa_cons pe_str (pa_cons pe_str (pa_cons pe_str (pa_cons pe_str (pa_cons pe_str (pa_cons pe_str (pa_cons pe_str pa_nil)))))))))))))))))), ?_⟩
    refine q_asgL (el_lst (by walk_at "uw.ea") (Nat.le_of_ble_eq_true rfl)) fun p1 H1 hp1 e1 h1 => ?_
    refine s_retL (el_catV (ev_var rfl) h1 (el_lst (by walk_at "uw.ea") (Nat.le_of_ble_eq_true rfl)) (Nat.le_of_ble_eq_true rfl)) fun p H3 hp e3 h3 => ?_
    exact k p H3 (fresh_back e1 hp) (e1.trans e3) h3
end

section
variable {K : PySem.W.Frag} {σ : L2.St} {H H' : Hp} {te : TE} {D : Ends} {tu tz : TS}
theorem q_forS {x : Str} {j : Nat} (h : Ev te σ H (.str x)) (Pv : Nat → L2.St → Hp → Prop) (h0 : ∀ H1, Ex H H1 → Pv 0 σ H1)
    (hs : ∀ i c σ' H', x.cps.toList[i]? = some c → Pv i σ' H' → tu { D with nx := Pv (i + 1), ct := Pv (i + 1), bk := tz D } (σ'.set j (some (.str ⟨#[c]⟩))) H') (hd : ∀ σ' H', Pv x.cps.toList.length σ' H' → tz D σ' H') : tSeq (tFor (iStr te) (gName j) tu) tz D σ H :=
  h H (Ex.refl H) _ fun H1 e1 => ⟨x, rfl, fun i m σ' H' => m = x.cps.toList.length - i ∧ i ≤ x.cps.toList.length ∧ Pv i σ' H', ⟨_, rfl, Nat.zero_le _, h0 H1 e1⟩, fun i m σ' H' ⟨hm, hi, p⟩ => by
    have hsz : x.cps.size = x.cps.toList.length := by simp
    by_cases hlt : i < x.cps.toList.length
    · refine .inr ⟨by show i < x.cps.size; omega, Pv (i + 1), fun σ2 H2 p2 => ⟨x.cps.toList.length - (i + 1), by omega, rfl, hlt, p2⟩, fun v H2 y => ?_⟩
      obtain ⟨rfl, c, hc, rfl⟩ := y
      exact hs i c σ' _ (by rw [Array.getElem?_toList]; exact hc) p
    · obtain rfl : i = x.cps.toList.length := by omega
      exact .inl ⟨by show x.cps.size ≤ _; omega, hd σ' H' p⟩⟩
def LvAt (K : PySem.W.Frag) (H : Hp) (v : V) : LV → Prop
  | .i x => v = .int x
  | .t l => ∃ q, v = .ref q ∧ SqT K H q (l.map V.int)
def LvsAt (K : PySem.W.Frag) (H : Hp) (xs : List V) (vs : List LV) : Prop := xs.length = vs.length ∧ ∀ (i : Nat) (x : V), xs[i]? = some x → ∃ v, vs[i]? = some v ∧ LvAt K H x v
theorem LvAt.imp {x : V} {v : LV} (h : LvAt K H x v) (k : ∀ q ys, SqT K H q ys → SqT K H' q ys) : LvAt K H' x v := by
  cases v with
  | i y => exact h
  | t l => obtain ⟨q, e, s⟩ := h; exact ⟨q, e, k _ _ s⟩
theorem LvsAt.imp {xs : List V} {vs : List LV} (h : LvsAt K H xs vs) (k : ∀ q ys, SqT K H q ys → SqT K H' q ys) : LvsAt K H' xs vs := ⟨h.1, fun i x e => let ⟨v, h1, h2⟩ := h.2 i x e; ⟨v, h1, h2.imp k⟩⟩
theorem LvsAt.ex {xs : List V} {vs : List LV} (h : LvsAt K H xs vs) (e : Ex H H') : LvsAt K H' xs vs := h.imp fun _ _ s => ex_t e s
theorem LvsAt.app {xs ys : List V} {vs ws : List LV} (h : LvsAt K H xs vs) (g : LvsAt K H ys ws) : LvsAt K H (xs ++ ys) (vs ++ ws) := by
  refine ⟨by rw [List.length_append, List.length_append, h.1, g.1], fun i x e => ?_⟩
  by_cases z : i < xs.length
  · rw [List.getElem?_append_left z] at e
    rw [List.getElem?_append_left (by rw [← h.1]; exact z)]
    exact h.2 i x e
  · rw [List.getElem?_append_right (by omega)] at e
    rw [List.getElem?_append_right (by rw [← h.1]; omega), ← h.1]
    exact g.2 _ x e
theorem LvsAt.nil : LvsAt K H [] [] := ⟨rfl, fun i x e => by simp at e⟩
theorem LvsAt.one {x : V} {v : LV} (h : LvAt K H x v) : LvsAt K H [x] [v] := ⟨rfl, fun i y e => by
  cases i with
  | zero => cases e; exact ⟨v, rfl, h⟩
  | succ i => simp at e⟩
theorem LvsAt.at_i {xs : List V} {vs : List LV} (h : LvsAt K H xs vs) {j : Nat} {x : Int} (e : vs[j]? = some (.i x)) : atI xs (j : Int) = some (.int x) := by
  have hj := (List.getElem?_eq_some_iff.mp e).1
  have hx : xs[j]? = some (xs[j]'(by rw [h.1]; exact hj)) := List.getElem?_eq_getElem _
  obtain ⟨v, h1, h2⟩ := h.2 j _ hx
  rw [e] at h1
  cases h1
  rw [show xs[j]'(by rw [h.1]; exact hj) = V.int x from h2] at hx
  exact atI_nat hx
theorem LvsAt.at_t {xs : List V} {vs : List LV} (h : LvsAt K H xs vs) {j : Nat} {l : List Int} (e : vs[j]? = some (.t l)) : ∃ q, atI xs (j : Int) = some (.ref q) ∧ SqT K H q (l.map V.int) := by
  have hj := (List.getElem?_eq_some_iff.mp e).1
  have hx : xs[j]? = some (xs[j]'(by rw [h.1]; exact hj)) := List.getElem?_eq_getElem _
  obtain ⟨v, h1, h2⟩ := h.2 j _ hx
  rw [e] at h1
  cases h1
  obtain ⟨q, h3, h4⟩ := h2
  rw [h3] at hx
  exact ⟨q, atI_nat hx, h4⟩
theorem LvsAt.two {x y : V} {v u : LV} (h : LvAt K H x v) (g : LvAt K H y u) : LvsAt K H [x, y] [v, u] := (LvsAt.one h).app (LvsAt.one g)
theorem sqT_upd {a : Addr} {o u : HO} (ha : H a = some u) (hu : ∀ xs, u ≠ .tup xs) (hu2 : ∀ ob xs, u ≠ .frz ob (.tup xs)) {q : Addr} {ys : List V} (h : SqT K H q ys) : SqT K (L2.upd H a o) q ys := by
  rcases h with (h | ⟨ob, h⟩) | h
  · exact .inl (.inl (by rw [upd_ne fun z => hu ys (by rw [z, ha] at h; exact Option.some.inj h)]; exact h))
  · exact .inl (.inr ⟨ob, by rw [upd_ne fun z => hu2 ob ys (by rw [z, ha] at h; exact Option.some.inj h)]; exact h⟩)
  · exact .inr h
end
def LdV (K : PySem.W.Frag) (H0 H : Hp) (v : V) (at_ : Int) (o : Option (Ins × Int)) : Prop := match o with
  | none => v = .non
  | some (i, n) => ∃ p av xs, v = .ref p ∧ H0 p = none ∧ H0 av = none ∧ H p = some (.lst [.str (nm i.code), .ref av, .int (at_ + n)]) ∧ H av = some (.lst xs) ∧ LvsAt K H xs i.lv
def spLdec (K : PySem.W.Frag) : Sp := fun vs H Q _ => ∃ (da : Addr) (d : List Int) (a : Int), vs = [.ref da, .int a] ∧ SqL K H da (d.map V.int) ∧ Bytes d ∧ 0 ≤ a ∧ RetP (fun v H2 => LdV K H H2 v a (dec (d.drop a.toNat))) H Q
theorem at_gN {l : List Int} {p : Nat} {j : Int} (e : j = (p : Int)) (h : p < l.length) : atI (l.map V.int) j = some (.int (gI l p)) := by
  subst e
  exact at_gI (by omega) (by omega)
theorem dec_chr (c d : Nat) : decide (V.str ⟨#[c]⟩ = V.str ⟨#[d]⟩) = decide (c = d) := by
  by_cases z : c = d
  · rw [z] <;> simp
  · rw [decide_eq_false z, decide_eq_false]
    intro q
    have q2 := Str.mk.inj (V.str.inj q)
    simp at q2
    exact z q2
theorem chr_t : ("t" : Str) = ⟨#[116]⟩ := by kernel_rfl
theorem chr_p : ("p" : Str) = ⟨#[112]⟩ := by kernel_rfl
theorem chr_w : ("w" : Str) = ⟨#[119]⟩ := by kernel_rfl
theorem chr_r : ("r" : Str) = ⟨#[114]⟩ := by kernel_rfl
theorem ev_chr {σ : L2.St} {H : Hp} {te : TE} {c d : Nat} {x : Str} {b : Bool} (h : Ev te σ H (.str ⟨#[c]⟩)) (hx : x = ⟨#[d]⟩) (e : decide (c = d) = b) : Ev (tOp rEq te (tC (.str x))) σ H (.bl b) := by
  subst hx
  exact ev_op h ev_c (rv_eqb rfl (by rw [dec_chr, e]))
theorem kinds_kd {c : Nat} (h : c < 32) : ∃ x : Str, atI (tab_KINDS.map V.str) (c : Int) = some (.str x) ∧ x.cps.toList = kd c := by
  have g : ∀ c : Nat, c < 32 → (match atI (tab_KINDS.map V.str) (c : Int) with | some (.str x) => decide (x.cps.toList = kd c) | _ => false) = true := by decide +kernel
  have q := g c h
  cases e : atI (tab_KINDS.map V.str) (c : Int) with
  | none => rw [e] at q; cases q
  | some v =>
    rw [e] at q
    cases v with
    | str x => exact ⟨x, rfl, of_decide_eq_true q⟩
    | _ => cases q
theorem sp_tab {l : List Str} {H : Hp} : SpL (spTab l) ([] ++ []) H (l.map V.str) := fun H1 e Q q E => ⟨rfl, q⟩
section
variable {P : Program} {w : World} {K : PySem.W.Frag} {mg : Str → Option Value} {base : Heap} {CI CM : Addr}
theorem ok_law_decode (T : Txt K mg CI CM) : FnG P w K mg base "_law_decode" 2 ["_law_data", "_law_at"] (spLdec K) := by
  refine fnG_of T.d_law_decode sc_law_decode (fun _ _ _ _ _ _ us hl => match us, hl with | [_, _], _ => rfl) (fun vs H Q E h => ?_) fun f cdv A outer s H vs Q E hr h => ?_
  · obtain ⟨da, d, a, rfl, _⟩ := h
    rfl
  · obtain ⟨da, d, a, rfl, hd, hB, h0, k⟩ := h
    have nd := sc_law_decode.nd
    have hu := hu_of hr
    refine ⟨_, (pss_cons (ps_set (i := 2) nd rfl (Or.inr rfl) (pe_slice (sll K) (pv 0) (po_some (pv 1)) po_none))
      (pss_cons (ps_if (PW.pt (pw_or (pt_cmpR op_eq (pe_callB (cr_len K) (by rfl) T.n_len (by decide +kernel) (pa_cons (pv 2) pa_nil)) pe_int (nomark _)) (pw_or1 (pt_not (pt_chain op_le op_le pe_int (pe_ix (ixl K) (pv 2) pe_int (fun _ _ => rfl)) pe_int))))) (pss_one (ps_ret pe_non)) pss_nil)
      (pss_cons (ps_set (i := 3) nd rfl (Or.inl rfl) (pe_ix (ixl K) (pe_fn0 (ok_law_names T) (hr.mono (by decide)) (by rfl)) (pe_ix (ixl K) (pv 2) pe_int (fun _ _ => rfl)) (fun _ _ => rfl)))
      (pss_cons (ps_set (i := 4) nd rfl (Or.inl rfl) (pe_ix (ixl K) (pe_fn0 (ok_law_kinds T) (hr.mono (by decide)) (by rfl)) (pe_ix (ixl K) (pv 2) pe_int (fun _ _ => rfl)) (fun _ _ => rfl)))
      (pss_cons (ps_set (i := 5) nd rfl (Or.inl rfl) (pe_lst pa_nil))
      (pss_cons (ps_set (i := 6) nd rfl (Or.inl rfl) pe_int)
      (pss_cons (ps_for PassesOwn.never rfl (pi_str (pv 4)) (pg_name (i := 7) nd rfl (Or.inl rfl)) (pss_one (ps_if (pt_cmpR op_eq (pv 7) pe_str (nomark _)) (pss_cons (ps_if (PW.pt (pw_or (pt_cmpR op_ge (pe_op op_add (pv 6) pe_int) (pe_callB (cr_len K) (by rfl) T.n_len (by decide +kernel) (pa_cons (pv 2) pa_nil)) (nomark _)) (pw_or (pt_cmpR op_gt (pe_ix (ixl K) (pv 2) (pv 6) (fun _ _ => rfl)) pe_int (nomark _)) (pw_or1 (pt_not (pt_chain op_le op_le pe_int (pe_ix (ixl K) (pv 2) (pe_op op_add (pv 6) pe_int) (fun _ _ => rfl)) pe_int)))))) (pss_one (ps_ret pe_non)) pss_nil)
      (pss_cons (ps_set (i := 8) nd rfl (Or.inl rfl) (pe_ix (ixl K) (pv 2) (pe_op op_add (pv 6) pe_int) (fun _ _ => rfl)))
      (pss_cons (ps_if (pt_cmpR op_lt (pe_callB (cr_len K) (by rfl) T.n_len (by decide +kernel) (pa_cons (pv 2) pa_nil)) (pe_op op_add (pe_op op_add (pv 6) pe_int) (pe_op op_mul pe_int (pv 8))) (nomark _)) (pss_one (ps_ret pe_non)) pss_nil)
      (pss_cons (ps_set (i := 9) nd rfl (Or.inr rfl) (pe_op op_add (pv 6) pe_int))
      (pss_cons (ps_set (i := 11) nd rfl (Or.inl rfl) (pe_callTy (cr_tuple K) (by rfl) T.n_tuple (by decide +kernel) (pa_cons (pe_lc (own := [("_law_j", 10)]) (g := gName 10) (by rfl) nd (pi_range1 (by rfl) T.n_range (pa_cons (pv 8) pa_nil)) (blkOk_by (N := nm_law_decode) (sc := defScope s_law_decode) (by decide +kernel)) (fun _ _ _ _ _ => pg_name (i := 10) nd rfl (Or.inl rfl)) (fun _ _ _ _ _ => pts_nil) (fun _ _ _ _ _ => (pe_op op_add (pe_op op_mul pe_int (pe_ix (ixl K) (pv 2) (pe_op op_add (pv 9) (pe_op op_mul pe_int (pv 10))) (fun _ _ => rfl))) (pe_ix (ixl K) (pv 2) (pe_op op_add (pe_op op_add (pv 9) (pe_op op_mul pe_int (pv 10))) pe_int) (fun _ _ => rfl))))) pa_nil)))
      (pss_cons (ps_set (i := 5) nd rfl (Or.inl rfl) (pe_op op_cat (pv 5) (pe_lst (pa_cons (pe_ix (ixl K) (pv 2) (pv 6) (fun _ _ => rfl)) (pa_cons (pv 11) pa_nil)))))
      (pss_one (ps_set (i := 6) nd rfl (Or.inl rfl) (pe_op op_add (pe_op op_add (pv 6) pe_int) (pe_op op_mul pe_int (pv 8))))))))))) (pss_one (ps_if (pt_cmpR op_eq (pv 7) pe_str (nomark _)) (pss_cons (ps_if (PW.pt (pw_or (pt_cmpR op_ge (pv 6) (pe_callB (cr_len K) (by rfl) T.n_len (by decide +kernel) (pa_cons (pv 2) pa_nil)) (nomark _)) (pw_or (pt_cmpR op_gt (pe_op op_fdiv (pe_ix (ixl K) (pv 2) (pv 6) (fun _ _ => rfl)) pe_int) pe_int (nomark _)) (pw_or1 (pt_cmpR op_gt (pe_op op_mod (pe_ix (ixl K) (pv 2) (pv 6) (fun _ _ => rfl)) pe_int) pe_int (nomark _)))))) (pss_one (ps_ret pe_non)) pss_nil)
      (pss_cons (ps_set (i := 5) nd rfl (Or.inl rfl) (pe_op op_cat (pv 5) (pe_lst (pa_cons (pe_op op_fdiv (pe_ix (ixl K) (pv 2) (pv 6) (fun _ _ => rfl)) pe_int) (pa_cons (pe_op op_mod (pe_ix (ixl K) (pv 2) (pv 6) (fun _ _ => rfl)) pe_int) pa_nil)))))
      (pss_one (ps_set (i := 6) nd rfl (Or.inl rfl) (pe_op op_add (pv 6) pe_int))))) (pss_one (ps_if (pt_cmpR op_eq (pv 7) pe_str (nomark _)) (pss_cons (ps_if (pt_cmpR op_ge (pe_op op_add (pv 6) pe_int) (pe_callB (cr_len K) (by rfl) T.n_len (by decide +kernel) (pa_cons (pv 2) pa_nil)) (nomark _)) (pss_one (ps_ret pe_non)) pss_nil)
      (pss_cons (ps_expr (p_bm K (id := "list.append") (pe_bm PySem.F.plainAttrs_list PySem.F.slot_list_append PySem.F.type_list_append mt_append (pv 5) (pa_cons (pe_op op_add (pe_op op_mul pe_int (pe_ix (ixl K) (pv 2) (pv 6) (fun _ _ => rfl))) (pe_ix (ixl K) (pv 2) (pe_op op_add (pv 6) pe_int) (fun _ _ => rfl))) pa_nil))))
      (pss_one (ps_set (i := 6) nd rfl (Or.inl rfl) (pe_op op_add (pv 6) pe_int))))) (pss_cons (ps_if (PW.pt (pw_or (pt_cmpR op_ge (pv 6) (pe_callB (cr_len K) (by rfl) T.n_len (by decide +kernel) (pa_cons (pv 2) pa_nil)) (nomark _)) (pw_or1 (PW.pt (pw_and (pt_cmpR op_eq (pv 7) pe_str (nomark _)) (pw_and1 (pt_cmpR op_gt (pe_ix (ixl K) (pv 2) (pv 6) (fun _ _ => rfl)) pe_int (nomark _)))))))) (pss_one (ps_ret pe_non)) pss_nil)
      (pss_cons (ps_expr (p_bm K (id := "list.append") (pe_bm PySem.F.plainAttrs_list PySem.F.slot_list_append PySem.F.type_list_append mt_append (pv 5) (pa_cons (pe_ix (ixl K) (pv 2) (pv 6) (fun _ _ => rfl)) pa_nil))))
      (pss_one (ps_set (i := 6) nd rfl (Or.inl rfl) (pe_op op_add (pv 6) pe_int))))))))))))
      (pss_one (ps_ret (pe_lst (pa_cons (pv 3) (pa_cons (pv 5) (pa_cons (pe_op op_add (pv 1) (pv 6)) pa_nil))))))))))))), ?_⟩
    refine q_asgL (el_is (el_sl (ev_var rfl) (eo_some (ev_var rfl)) eo_none hd) (cut_drop d a h0)) fun rr H1 hrr e1 h1 => ?_
    generalize hle : d.drop a.toNat = l at *
    have hBl : Bytes l := by rw [← hle]; exact bytes_drop hB _
    have hld := ldec_dec hBl
    have r0 : ∀ (σ : L2.St) (H2 : Hp) (p : Nat) (j : Int) (tj : TE), Ex H1 H2 → σ[2]? = some (some (.ref rr)) → Ev tj σ H2 (.int j) → j = (p : Int) → p < l.length → Ev (tOp (rIxL K) (tVar 2) tj) σ H2 (.int (gI l p)) := fun σ H2 p j tj e hσ ht hj hp => ev_op (ev_var hσ) ht (rv_ixL (sq_of (e _ _ h1)) (at_gN hj hp))
    have rl : ∀ (σ : L2.St) (H2 : Hp), Ex H1 H2 → σ[2]? = some (some (.ref rr)) → Ev (tCB (rLenS K) (tCons (tVar 2) tNil)) σ H2 (.int (l.length : Int)) := fun σ H2 e hσ => ev_lenI (ev_var hσ) (sq_of (e _ _ h1))
    refine q_when (b := decide (l.length = 0) || !(decide (1 ≤ gI l 0) && decide (gI l 0 ≤ 31))) (et_or (et_test (ev_op (rl _ _ (Ex.refl _) rfl) ev_c (rv_eqb rfl (dec_nat _ 0)))) fun hz => et_not (et_test (ev_chain ev_c (r0 _ _ 0 0 _ (Ex.refl _) rfl ev_c rfl (by have := of_decide_eq_false hz; omega)) rv_I0 ev_c rv_I0))) (fun hb H2 e2 => ?_) (fun hb H2 e2 => ?_)
    · have hb : l.length = 0 ∨ ¬ (1 ≤ gI l 0 ∧ gI l 0 ≤ 31) := by
        by_cases z : l.length = 0
        · exact .inl z
        · refine .inr fun y => ?_
          rw [decide_eq_false z, decide_eq_true y.1, decide_eq_true y.2] at hb
          cases hb
      have hn : dec l = none := by
        unfold dec
        by_cases z : l.length < 1
        · rw [if_pos z]
        · rw [if_neg z, if_pos (hb.resolve_left (by omega))]
      rw [hn] at k
      exact s_ret (v := .non) ev_c fun H3 e3 => k.go ((e1.trans e2).trans e3) rfl
    have hb : ¬ (l.length = 0 ∨ ¬ (1 ≤ gI l 0 ∧ gI l 0 ≤ 31)) := by
      intro z
      rcases z with z | z
      · rw [decide_eq_true z] at hb
        cases hb
      · have q : (decide (1 ≤ gI l 0) && decide (gI l 0 ≤ 31)) = false := by
          by_cases y : 1 ≤ gI l 0
          · rw [decide_eq_true y, decide_eq_false fun w => z ⟨y, w⟩] <;> rfl
          · rw [decide_eq_false y] <;> rfl
        rw [q, Bool.not_false, Bool.or_true] at hb
        cases hb
    have hlen : 1 ≤ l.length := by omega
    have hc31 : 1 ≤ gI l 0 ∧ gI l 0 ≤ 31 := Classical.not_not.mp fun z => hb (.inr z)
    obtain ⟨c, hc⟩ : ∃ c, (gI l 0).toNat = c := ⟨_, rfl⟩
    have hcI : gI l 0 = (c : Int) := by omega
    have hc32 : c < 32 := by omega
    have hR : lrun l (kd c) [] 1 = lvO (dec l) := by
      rw [← hld]
      unfold ldec
      rw [if_neg (by omega), if_neg (fun z => z hc31), hc]
    obtain ⟨kz, hk1, hk2⟩ := kinds_kd hc32
    refine q_asg (v := .str (nm c)) (ev_opL1 (el_call (vs := []) ea_nil sp_tab) (fun H3 e3 => r0 _ _ 0 0 _ (e2.trans e3) rfl ev_c rfl hlen) fun p H3 hp e3 => rv_ixL (sq_of hp) (by rw [at_nm (by omega) hc31.2, hc])) fun H3 e3 => ?_
    refine q_asg (v := .str kz) (ev_opL1 (el_call (vs := []) ea_nil sp_tab) (fun H4 e4 => r0 _ _ 0 0 _ ((e2.trans e3).trans e4) rfl ev_c rfl hlen) fun p H4 hp e4 => rv_ixL (sq_of hp) (by rw [hcI]; exact hk1)) fun H4 e4 => ?_
    refine q_asgL (el_lst ea_nil (Nat.le_of_ble_eq_true rfl)) fun av0 H5 hav e5 h5 => ?_
    refine q_asg (v := .int 1) ev_c fun H6 e6 => ?_
    have e16 := (((e2.trans e3).trans e4).trans e5).trans e6
    have hav0 : H1 av0 = none := fresh_back ((e2.trans e3).trans e4) hav
    refine q_forS (x := kz) (ev_var rfl) (fun i σ' H' => ∃ (av : Addr) (xs : List V) (vs : List LV) (p : Nat) (u7 u8 u9 u10 u11 : Option V), σ' = [some (.ref da), some (.int a), some (.ref rr), some (.str (nm c)), some (.str kz), some (.ref av), some (.int (p : Int)), u7, u8, u9, u10, u11] ∧
        Ex H1 H' ∧ H1 av = none ∧ H' av = some (.lst xs) ∧ LvsAt K H' xs vs ∧ xs.length ≤ 2 * i ∧ i ≤ 2 ∧ lrun l ((kd c).drop i) vs p = lvO (dec l))
      (fun H7 e7 => ⟨av0, [], [], 1, none, none, none, none, none, rfl, e16.trans e7, hav0, e7 _ _ (e6 _ _ h5), LvsAt.nil, Nat.le_refl _, by omega, hR⟩) (fun i ch σ' H' hi hp => ?_) (fun σ' H' hp => ?_)
    · rw [hk2] at hi
      have hi2 : i < 2 := by
        have g : ∀ c, c < 32 → (kd c).length ≤ 2 := by decide
        have := (List.getElem?_eq_some_iff.mp hi).1
        have := g c hc32
        omega
      obtain ⟨av, xs, vs, p, u7, u8, u9, u10, u11, rfl, eH, hv0, hv, hL, hxl, _, hrun⟩ := hp
      have hdr : (kd c).drop i = ch :: (kd c).drop (i + 1) := by
        have hlt := (List.getElem?_eq_some_iff.mp hi).1
        rw [List.drop_eq_getElem_cons hlt, (List.getElem?_eq_some_iff.mp hi).2]
      rw [hdr] at hrun
      have e0 := e1.trans eH
      have fail : lstep l ch p = none → ∀ (H2 : Hp), Ex H' H2 → Q .non H2 := fun z H2 e => by
        rw [lr_none z] at hrun
        cases q : dec l with
        | some x => rw [q] at hrun; cases hrun
        | none => rw [q] at k; exact k.go (e0.trans e) rfl
      have hcc : ch = 116 ∨ ch = 112 ∨ ch = 119 ∨ ch = 114 ∨ ch = 107 := by
        have g : ∀ c, c < 32 → ∀ x ∈ kd c, x = 116 ∨ x = 112 ∨ x = 119 ∨ x = 114 ∨ x = 107 := by decide
        exact g c hc32 ch (List.mem_of_getElem? hi)
      have rp : ∀ (σ : L2.St) (H2 : Hp) (q : Nat) (j : Int) (tj : TE), Ex H' H2 → σ[2]? = some (some (.ref rr)) → Ev tj σ H2 (.int j) → j = (q : Int) → q < l.length → Ev (tOp (rIxL K) (tVar 2) tj) σ H2 (.int (gI l q)) := fun σ H2 q j tj e => r0 σ H2 q j tj (eH.trans e)
      have rm : ∀ (σ : L2.St) (H2 : Hp), Ex H' H2 → σ[2]? = some (some (.ref rr)) → Ev (tCB (rLenS K) (tCons (tVar 2) tNil)) σ H2 (.int (l.length : Int)) := fun σ H2 e => rl σ H2 (eH.trans e)
      have gp := gI_by hBl p
      have gp1 := gI_by hBl (p + 1)
      unfold By at gp gp1
      have app : ∀ (H2 : Hp) (y : V) (lv : LV) (p2 : Nat) (te : TE) (tz : TS) (σ2 : L2.St) (D : Ends), Ex H' H2 → lstep l ch p = some ([lv], p2) → LvAt K H2 y lv → Ev te σ2 H2 y → σ2[5]? = some (some (.ref av)) →
          (∀ H3, Ex H1 H3 → H3 av = some (.lst (xs ++ [y])) → LvsAt K H3 (xs ++ [y]) (vs ++ [lv]) → lrun l ((kd c).drop (i + 1)) (vs ++ [lv]) p2 = lvO (dec l) → tz D σ2 H3) → tSeq (tDrop (tBM K "list" rAppend (tVar 5) (tCons te tNil))) tz D σ2 H2 := fun H2 y lv p2 te tz σ2 D e hs hy hv2 hσ hk => by
        refine q_app (e _ _ hv) (ev_var hσ) hv2 (by omega) fun H3 e3 => hk _ (Ex.mut ((eH.trans e).trans e3) hv0) upd_same ?_ ?_
        · exact ((hL.ex (e.trans e3)).app (LvsAt.one (hy.imp fun q ys s => ex_t e3 s))).imp fun q ys s => sqT_upd (e3 _ _ (e _ _ hv)) (fun _ z => by cases z) (fun _ _ z => by cases z) s
        · rw [lr_some hs] at hrun
          exact hrun
      have c2 : ∀ x : Int, 0 ≤ x ∧ x < 256 → CMul 2 x := fun x h => Or.inr ⟨by omega, by omega⟩
      have pl : ∀ (n : Nat), ((p : Int) + (n : Int)) = ((p + n : Nat) : Int) := fun n => by omega
      rcases hcc with rfl | rfl | rfl | rfl | rfl
      · -- t
        refine s_yes (et_test (ev_chr (ev_var rfl) chr_t rfl)) fun H2 e2 => ?_
        refine q_when (b := decide ((p : Int) + 1 ≥ (l.length : Int)) || (decide (gI l p > 7) || !(decide (1 ≤ gI l (p + 1)) && decide (gI l (p + 1) ≤ 16)))) (et_or (et_test (ev_op (ev_op (ev_var rfl) ev_c rv_I0) (rm _ _ e2 rfl) rv_I0)) fun hz => ?t1) (fun hb H3 e3 => ?_) (fun hb H3 e3 => ?_)
        case t1 =>
          have hz := of_decide_eq_false hz
          exact et_or (et_test (ev_op (rp _ _ p _ _ e2 rfl (ev_var rfl) rfl (by omega)) ev_c rv_I0)) fun _ => et_not (et_test (ev_chain ev_c (rp _ _ (p + 1) _ _ e2 rfl (ev_op (ev_var rfl) ev_c rv_I0) rfl (by omega)) rv_I0 ev_c rv_I0))
        · simp only [Bool.or_eq_true, Bool.not_eq_true', Bool.and_eq_false_iff, decide_eq_true_eq, decide_eq_false_iff_not] at hb
          exact s_ret (v := .non) ev_c fun H4 e4 => fail (ls_t0 (by omega)) H4 ((e2.trans e3).trans e4)
        simp only [Bool.or_eq_false_iff, Bool.not_eq_false', Bool.and_eq_true, decide_eq_false_iff_not, decide_eq_true_eq] at hb
        obtain ⟨z1, z2, z3, z4⟩ := hb
        have e23 := e2.trans e3
        refine q_asg (v := .int (gI l (p + 1))) (rp _ _ (p + 1) _ _ e23 rfl (ev_op (ev_var rfl) ev_c rv_I0) rfl (by omega)) fun H4 e4 => ?_
        have e24 := e23.trans e4
        refine q_when (b := decide ((l.length : Int) < (p : Int) + 2 + 2 * gI l (p + 1))) (et_test (ev_op (rm _ _ e24 rfl) (ev_op (ev_op (ev_var rfl) ev_c rv_I0) (ev_op ev_c (ev_var rfl) (rv_I (c2 _ (by omega)))) rv_I0) rv_I0)) (fun hb H5 e5 => ?_) (fun hb H5 e5 => ?_)
        · exact s_ret (v := .non) ev_c fun H6 e6 => fail (ls_t0 (.inr (.inr (.inr (of_decide_eq_true hb))))) H6 ((e24.trans e5).trans e6)
        have z5 := of_decide_eq_false hb
        have e25 := e24.trans e5
        refine q_asg (v := .int ((p : Int) + 2)) (ev_op (ev_var rfl) ev_c rv_I0) fun H6 e6 => ?_
        have e26 := e25.trans e6
        have hs := ls_t1 (l := l) (p := p) (by omega) z5
        generalize hn : gI l (p + 1) = n at *
        refine q_asgU (xs := (tWordsAt l (p + 2) n).map V.int) ?tup fun tb H7 htb e7 h7 => ?_
        case tup =>
          have e : (tWordsAt l (p + 2) n).map V.int = given n.toNat (fun _ => true) (fun k => V.int (wd l (p + 2 + 2 * k))) := by
            rw [given_all]
            unfold tWordsAt
            rw [List.map_map] <;> rfl
          rw [e]
          refine eu_tupL (el_lcR1 (n := n) (fun _ => true) (fun k => V.int (wd l (p + 2 + 2 * k))) (ea_cons (ev_var rfl) ea_nil) (by omega) (fun x => rfl) (fun j H8 e8 hj => et_yes) (fun j H8 e8 hj _ => ?_))
          have e28 := e26.trans e8
          have cj : CMul 2 (j : Int) := Or.inr ⟨by omega, by omega⟩
          have gj := gI_by hBl (p + 2 + 2 * j)
          unfold By at gj
          unfold wd
          exact ev_op (ev_op ev_c (rp _ _ (p + 2 + 2 * j) _ _ e28 rfl (ev_op (ev_var rfl) (ev_op ev_c (ev_var rfl) (rv_I cj)) rv_I0) (by omega) (by omega)) (rv_I (Or.inr ⟨by omega, by omega⟩))) (rp _ _ (p + 2 + 2 * j + 1) _ _ e28 rfl (ev_op (ev_op (ev_var rfl) (ev_op ev_c (ev_var rfl) (rv_I cj)) rv_I0) ev_c rv_I0) (by omega) (by omega)) rv_I0
        have e27 := e26.trans e7
        refine q_asgL (el_catV (ys := [.int (gI l p), .ref tb]) (ev_var rfl) (e27 _ _ hv) (el_lst (ea_cons (rp _ _ p _ _ e27 rfl (ev_var rfl) rfl (by omega)) (ea_cons (ev_var rfl) ea_nil)) (Nat.le_of_ble_eq_true rfl)) (by simp; omega)) fun av2 H8 hav2 e8 h8 => ?_
        refine s_asg (v := .int ((p + 2 + 2 * n.toNat : Nat) : Int)) (ev_is (ev_op (ev_op (ev_var rfl) ev_c rv_I0) (ev_op ev_c (ev_var rfl) (rv_I (c2 _ (by omega)))) rv_I0) (by congr 1; omega)) fun H9 e9 => ?_
        refine ⟨av2, _, vs ++ [.i (gI l p), .t (tWordsAt l (p + 2) n)], p + 2 + 2 * n.toNat, _, _, _, _, _, rfl, ((eH.trans e27).trans e8).trans e9, fresh_back (eH.trans e27) hav2, e9 _ _ h8, ?_, by simp; omega, by omega, ?_⟩
        · exact (hL.ex ((e27.trans e8).trans e9)).app (LvsAt.two rfl ⟨tb, rfl, st_of (e9 _ _ (e8 _ _ h7))⟩)
        · rw [lr_some hs] at hrun
          exact hrun
      · -- p
        refine s_no (et_test (ev_chr (ev_var rfl) chr_t rfl)) fun H2 e2 => s_yes (et_test (ev_chr (ev_var rfl) chr_p rfl)) fun H3 e3 => ?_
        have e23 := e2.trans e3
        have d16 : CDiv (gI l p) 16 := ⟨by omega, by omega⟩
        have m16 : (0 : Int) < 16 := by decide
        refine q_when (b := decide ((p : Int) ≥ (l.length : Int)) || (decide (gI l p / 16 > 7) || decide (gI l p % 16 > 7))) (et_or (et_test (ev_op (ev_var rfl) (rm _ _ e23 rfl) rv_I0)) fun hz => ?p1) (fun hb H4 e4 => ?_) (fun hb H4 e4 => ?_)
        case p1 =>
          have hz := of_decide_eq_false hz
          have g := rp (([some (.ref da), some (.int a), some (.ref rr), some (.str (nm c)), some (.str kz), some (.ref av), some (.int (p : Int)), u7, u8, u9, u10, u11] : L2.St).set 7 (some (.str ⟨#[112]⟩))) H3 p _ (tVar 6) e23 rfl (ev_var rfl) rfl (by omega)
          exact et_or (et_test (ev_op (ev_op g ev_c (rv_I d16)) ev_c rv_I0)) fun _ => et_test (ev_op (ev_op g ev_c (rv_I m16)) ev_c rv_I0)
        · simp only [Bool.or_eq_true, decide_eq_true_eq] at hb
          exact s_ret (v := .non) ev_c fun H5 e5 => fail (ls_p0 (by omega)) H5 ((e23.trans e4).trans e5)
        simp only [Bool.or_eq_false_iff, decide_eq_false_iff_not] at hb
        obtain ⟨z1, z2, z3⟩ := hb
        have e24 := e23.trans e4
        have hs := ls_p1 (l := l) (p := p) (by omega)
        refine q_asgL (el_catV (ys := [.int (gI l p / 16), .int (gI l p % 16)]) (ev_var rfl) (e24 _ _ hv) (el_lst (ea_cons (ev_op (rp _ _ p _ _ e24 rfl (ev_var rfl) rfl (by omega)) ev_c (rv_I d16)) (ea_cons (ev_op (rp _ _ p _ _ e24 rfl (ev_var rfl) rfl (by omega)) ev_c (rv_I m16)) ea_nil)) (Nat.le_of_ble_eq_true rfl)) (by simp; omega)) fun av2 H5 hav2 e5 h5 => ?_
        refine s_asg (v := .int ((p + 1 : Nat) : Int)) (ev_op (ev_var rfl) ev_c rv_I0) fun H6 e6 => ?_
        refine ⟨av2, _, vs ++ [.i (gI l p / 16), .i (gI l p % 16)], p + 1, _, _, _, _, _, rfl, ((eH.trans e24).trans e5).trans e6, fresh_back (eH.trans e24) hav2, e6 _ _ h5, ?_, by simp; omega, by omega, ?_⟩
        · exact (hL.ex ((e24.trans e5).trans e6)).app (LvsAt.two rfl rfl)
        · rw [lr_some hs] at hrun
          exact hrun
      · -- w
        refine s_no (et_test (ev_chr (ev_var rfl) chr_t rfl)) fun H2 e2 => s_no (et_test (ev_chr (ev_var rfl) chr_p rfl)) fun H3 e3 => s_yes (et_test (ev_chr (ev_var rfl) chr_w rfl)) fun H4 e4 => ?_
        have e24 := (e2.trans e3).trans e4
        refine q_when (b := decide ((p : Int) + 1 ≥ (l.length : Int))) (et_test (ev_op (ev_op (ev_var rfl) ev_c rv_I0) (rm _ _ e24 rfl) rv_I0)) (fun hb H5 e5 => ?_) (fun hb H5 e5 => ?_)
        · have hb := of_decide_eq_true hb
          exact s_ret (v := .non) ev_c fun H6 e6 => fail (ls_w0 (by omega)) H6 ((e24.trans e5).trans e6)
        have hb := of_decide_eq_false hb
        have e25 := e24.trans e5
        refine app H5 (.int (wd l p)) (.i (wd l p)) (p + 2) _ _ _ _ e25 (ls_w1 (by omega)) rfl ?_ rfl fun H6 e6 h6 g6 r6 => ?_
        · unfold wd
          exact ev_op (ev_op ev_c (rp _ _ p _ _ e25 rfl (ev_var rfl) rfl (by omega)) (rv_I (Or.inr ⟨by omega, by omega⟩))) (rp _ _ (p + 1) _ _ e25 rfl (ev_op (ev_var rfl) ev_c rv_I0) rfl (by omega)) rv_I0
        · exact s_asg (v := .int ((p + 2 : Nat) : Int)) (ev_op (ev_var rfl) ev_c rv_I0) fun H7 e7 => ⟨av, _, _, p + 2, _, _, _, _, _, rfl, e6.trans e7, hv0, e7 _ _ h6, g6.ex e7, by simp; omega, by omega, r6⟩
      · -- r
        refine s_no (et_test (ev_chr (ev_var rfl) chr_t rfl)) fun H2 e2 => s_no (et_test (ev_chr (ev_var rfl) chr_p rfl)) fun H3 e3 => s_no (et_test (ev_chr (ev_var rfl) chr_w rfl)) fun H4 e4 => ?_
        have e24 := (e2.trans e3).trans e4
        refine q_when (b := decide ((p : Int) ≥ (l.length : Int)) || (true && decide (gI l p > 7))) (et_or (et_test (ev_op (ev_var rfl) (rm _ _ e24 rfl) rv_I0)) fun hz => et_and (et_test (ev_chr (ev_var rfl) chr_r rfl)) fun _ => ?r1) (fun hb H5 e5 => ?_) (fun hb H5 e5 => ?_)
        case r1 =>
          have hz := of_decide_eq_false hz
          exact et_test (ev_op (rp _ _ p _ _ e24 rfl (ev_var rfl) rfl (by omega)) ev_c rv_I0)
        · simp only [Bool.or_eq_true, Bool.true_and, decide_eq_true_eq] at hb
          exact s_ret (v := .non) ev_c fun H6 e6 => fail (ls_r0 (by omega)) H6 ((e24.trans e5).trans e6)
        simp only [Bool.or_eq_false_iff, Bool.true_and, decide_eq_false_iff_not] at hb
        have e25 := e24.trans e5
        refine app H5 (.int (gI l p)) (.i (gI l p)) (p + 1) _ _ _ _ e25 (ls_r1 (by omega)) rfl (rp _ _ p _ _ e25 rfl (ev_var rfl) rfl (by omega)) rfl fun H6 e6 h6 g6 r6 => ?_
        exact s_asg (v := .int ((p + 1 : Nat) : Int)) (ev_op (ev_var rfl) ev_c rv_I0) fun H7 e7 => ⟨av, _, _, p + 1, _, _, _, _, _, rfl, e6.trans e7, hv0, e7 _ _ h6, g6.ex e7, by simp; omega, by omega, r6⟩
      · -- k
        refine s_no (et_test (ev_chr (ev_var rfl) chr_t rfl)) fun H2 e2 => s_no (et_test (ev_chr (ev_var rfl) chr_p rfl)) fun H3 e3 => s_no (et_test (ev_chr (ev_var rfl) chr_w rfl)) fun H4 e4 => ?_
        have e24 := (e2.trans e3).trans e4
        refine q_when (b := decide ((p : Int) ≥ (l.length : Int)) || (false && false)) (et_or (et_test (ev_op (ev_var rfl) (rm _ _ e24 rfl) rv_I0)) fun hz => et_and (et_test (ev_chr (ev_var rfl) chr_r rfl)) fun z => by cases z) (fun hb H5 e5 => ?_) (fun hb H5 e5 => ?_)
        · simp only [Bool.or_eq_true, Bool.false_and, decide_eq_true_eq] at hb
          exact s_ret (v := .non) ev_c fun H6 e6 => fail (ls_k0 (by rcases hb with z | z; omega; cases z)) H6 ((e24.trans e5).trans e6)
        simp only [Bool.or_eq_false_iff, Bool.false_and, decide_eq_false_iff_not] at hb
        have hb := hb.1
        have e25 := e24.trans e5
        refine app H5 (.int (gI l p)) (.i (gI l p)) (p + 1) _ _ _ _ e25 (ls_k1 (by omega)) rfl (rp _ _ p _ _ e25 rfl (ev_var rfl) rfl (by omega)) rfl fun H6 e6 h6 g6 r6 => ?_
        exact s_asg (v := .int ((p + 1 : Nat) : Int)) (ev_op (ev_var rfl) ev_c rv_I0) fun H7 e7 => ⟨av, _, _, p + 1, _, _, _, _, _, rfl, e6.trans e7, hv0, e7 _ _ h6, g6.ex e7, by simp; omega, by omega, r6⟩
    · obtain ⟨av, xs, vs, p, u7, u8, u9, u10, u11, rfl, eH, hv0, hv, hL, hxl, _, hrun⟩ := hp
      rw [hk2, List.drop_length] at hrun
      refine s_retL (el_lst (vs := [.str (nm c), .ref av, .int (a + (p : Int))]) (ea_cons (ev_var rfl) (ea_cons (ev_var rfl) (ea_cons (ev_op (ev_var rfl) (ev_var rfl) rv_I0) ea_nil))) (Nat.le_of_ble_eq_true rfl)) fun q H7 hq e7 h7 => ?_
      cases z : dec l with
      | none => rw [z] at hrun; cases hrun
      | some x =>
        obtain ⟨ins, n⟩ := x
        rw [z] at hrun k
        have hrun : some (vs, p) = some (ins.lv, n.toNat) := hrun
        have h8 := Prod.mk.inj (Option.some.inj hrun)
        obtain ⟨_, n1, _⟩ := dec_ok hBl z
        refine k.go ((e1.trans eH).trans e7) ⟨q, av, xs, rfl, fresh_back (e1.trans eH) hq, fresh_back e1 hv0, ?_, e7 _ _ hv, ?_⟩
        · rw [h7, (dec_code z).1, hc, h8.2, Int.toNat_of_nonneg (by omega)]
        · rw [← h8.1]
          exact hL.ex e7
end

def bx (da : Addr) (at_ sp : Int) (rg wo ip wa ou st : Addr) : List (Key × V) := [(Sum.inr "data", (.ref da)), (Sum.inr "at", (.int at_)), (Sum.inr "sp", (.int sp)), (Sum.inr "regs", (.ref rg)), (Sum.inr "words", (.ref wo)), (Sum.inr "inputs", (.ref ip)), (Sum.inr "waiting", (.ref wa)), (Sum.inr "out", (.ref ou)), (Sum.inr "status", (.ref st))]
section
variable (da : Addr) (at_ sp : Int) (rg wo ip wa ou st : Addr)
theorem bx_data : valV (bx da at_ sp rg wo ip wa ou st) (Sum.inr "data" : Key) = some (V.ref da) := by kernel_rfl
theorem bx_at : valV (bx da at_ sp rg wo ip wa ou st) (Sum.inr "at" : Key) = some (V.int at_) := by kernel_rfl
theorem bx_sp : valV (bx da at_ sp rg wo ip wa ou st) (Sum.inr "sp" : Key) = some (V.int sp) := by kernel_rfl
theorem bx_regs : valV (bx da at_ sp rg wo ip wa ou st) (Sum.inr "regs" : Key) = some (V.ref rg) := by kernel_rfl
theorem bx_words : valV (bx da at_ sp rg wo ip wa ou st) (Sum.inr "words" : Key) = some (V.ref wo) := by kernel_rfl
theorem bx_inputs : valV (bx da at_ sp rg wo ip wa ou st) (Sum.inr "inputs" : Key) = some (V.ref ip) := by kernel_rfl
theorem bx_waiting : valV (bx da at_ sp rg wo ip wa ou st) (Sum.inr "waiting" : Key) = some (V.ref wa) := by kernel_rfl
theorem bx_out : valV (bx da at_ sp rg wo ip wa ou st) (Sum.inr "out" : Key) = some (V.ref ou) := by kernel_rfl
theorem bx_status : valV (bx da at_ sp rg wo ip wa ou st) (Sum.inr "status" : Key) = some (V.ref st) := by kernel_rfl
theorem bxp_at (x : Int) : putK (bx da at_ sp rg wo ip wa ou st) (Sum.inr "at" : Key) (.int x) = bx da x sp rg wo ip wa ou st := by kernel_rfl
theorem bxp_sp (x : Int) : putK (bx da at_ sp rg wo ip wa ou st) (Sum.inr "sp" : Key) (.int x) = bx da at_ x rg wo ip wa ou st := by kernel_rfl
theorem bxp_inputs (x : Addr) : putK (bx da at_ sp rg wo ip wa ou st) (Sum.inr "inputs" : Key) (.ref x) = bx da at_ sp rg wo x wa ou st := by kernel_rfl
theorem bxp_waiting (x : Addr) : putK (bx da at_ sp rg wo ip wa ou st) (Sum.inr "waiting" : Key) (.ref x) = bx da at_ sp rg wo ip x ou st := by kernel_rfl
theorem bxp_out (x : Addr) : putK (bx da at_ sp rg wo ip wa ou st) (Sum.inr "out" : Key) (.ref x) = bx da at_ sp rg wo ip wa x st := by kernel_rfl
theorem bxp_status (x : Addr) : putK (bx da at_ sp rg wo ip wa ou st) (Sum.inr "status" : Key) (.ref x) = bx da at_ sp rg wo ip wa ou x := by kernel_rfl
end
/-- the box's addresses, its bytes, what it stays away from -/
structure BA where
  b : Addr
  da : Addr
  rg : Addr
  wo : Addr
  d : List Int
  av : List Addr
def BA.mut (b : BA) : List Addr := [b.b, b.rg, b.wo]
structure BOk (b : BA) (H : Hp) (m : M) : Prop where
  ob : ∃ ip wa ou st, H b.b = some (.dK (bx b.da m.at_ m.sp b.rg b.wo ip wa ou st)) ∧ H ip = some (.lst ((m.inp.drop m.tk).map V.int)) ∧ H wa = some (.lst (m.wait.map V.int)) ∧ H ou = some (.lst (m.out.map V.int)) ∧ H st = some (.tup (staV m.st)) ∧
    ip ∉ b.rg :: b.av ∧ wa ∉ b.rg :: b.av ∧ ou ∉ b.rg :: b.av
  da : H b.da = some (.lst (b.d.map V.int))
  by_ : Bytes b.d
  rg : H b.rg = some (.lst (m.regs.map V.int))
  wo : H b.wo = some (.dK (memV m.mem))
  dr : b.da ≠ b.rg
  bw : b.b ≠ b.wo
  nav : ∀ x ∈ [b.b, b.da, b.rg, b.wo], x ∉ b.av
  al : ∀ x ∈ b.av, H x ≠ none
section
variable {b : BA} {H H' : Hp} {m : M} {K : PySem.W.Frag} {σ : L2.St} {td te ta : TE} {D : Ends}
theorem BOk.ex (h : BOk b H m) (e : Ex H H') : BOk b H' m :=
  ⟨let ⟨ip, wa, ou, st, h1, h2, h3, h4, h5, h6⟩ := h.ob; ⟨ip, wa, ou, st, e _ _ h1, e _ _ h2, e _ _ h3, e _ _ h4, e _ _ h5, h6⟩, e _ _ h.da, h.by_, e _ _ h.rg, e _ _ h.wo, h.dr, h.bw, h.nav, fun x hx z => by
    cases q : H x with
    | none => exact h.al x hx q
    | some o => rw [e _ _ q] at z; cases z⟩
/-- what is elsewhere has changed -/
theorem BOk.chg (h : BOk b H m) (c : Chg b.av H H') (al : ∀ x ∈ b.av, H' x ≠ none) : BOk b H' m := by
  obtain ⟨ip, wa, ou, st, h1, h2, h3, h4, h5, h6, h7, h8⟩ := h.ob
  have n := h.nav
  have t : ∀ {x : Addr}, x ∉ b.rg :: b.av → x ∉ b.av := fun h z => h (List.mem_cons_of_mem _ z)
  exact ⟨⟨ip, wa, ou, st, c.keep _ _ h1 (n _ (by simp)), c.keep _ _ h2 (t h6), c.keep _ _ h3 (t h7), c.keep _ _ h4 (t h8), c.tups _ _ h5, h6, h7, h8⟩, c.keep _ _ h.da (n _ (by simp)), h.by_, c.keep _ _ h.rg (n _ (by simp)), c.keep _ _ h.wo (n _ (by simp)), h.dr, h.bw, h.nav, al⟩
/-- the dict itself is written -/
theorem BOk.updB (h : BOk b H m) {m' : M} {ip wa ou st : Addr} (r : m'.regs = m.regs) (w : m'.mem = m.mem) (h2 : H ip = some (.lst ((m'.inp.drop m'.tk).map V.int))) (h3 : H wa = some (.lst (m'.wait.map V.int))) (h4 : H ou = some (.lst (m'.out.map V.int))) (h5 : H st = some (.tup (staV m'.st)))
    (h6 : ip ∉ b.rg :: b.av) (h7 : wa ∉ b.rg :: b.av) (h8 : ou ∉ b.rg :: b.av) :
    BOk b (L2.upd H b.b (.dK (bx b.da m'.at_ m'.sp b.rg b.wo ip wa ou st))) m' ∧ Chg b.mut H (L2.upd H b.b (.dK (bx b.da m'.at_ m'.sp b.rg b.wo ip wa ou st))) := by
  obtain ⟨_, _, _, _, h1, _⟩ := h.ob
  have ne : ∀ {c : Addr} {o : HO}, H c = some o → (∀ kvs, o ≠ .dK kvs) → c ≠ b.b := fun hc ho z => by rw [z, h1] at hc; exact ho _ (Option.some.inj hc).symm
  have nl : ∀ {xs : List V} (kvs : List (Key × V)), HO.lst xs ≠ .dK kvs := fun kvs z => by cases z
  have nt : ∀ {xs : List V} (kvs : List (Key × V)), HO.tup xs ≠ .dK kvs := fun kvs z => by cases z
  refine ⟨⟨⟨ip, wa, ou, st, upd_same, by rw [upd_ne (ne h2 nl)]; exact h2, by rw [upd_ne (ne h3 nl)]; exact h3, by rw [upd_ne (ne h4 nl)]; exact h4, by rw [upd_ne (ne h5 nt)]; exact h5, h6, h7, h8⟩, by rw [upd_ne (ne h.da nl)]; exact h.da, h.by_, by rw [r, upd_ne (ne h.rg nl)]; exact h.rg, by rw [w, upd_ne (Ne.symm h.bw)]; exact h.wo, h.dr, h.bw, h.nav, fun x hx z => ?_⟩,
    Chg.upd (by simp [BA.mut]) h1 (by intro xs z; cases z)⟩
  have n : x ≠ b.b := fun q => h.nav b.b (by simp) (q ▸ hx)
  rw [upd_ne n] at z
  exact h.al x hx z
theorem BOk.updR (h : BOk b H m) (r : List Int) : BOk b (L2.upd H b.rg (.lst (r.map V.int))) { m with regs := r } ∧ Chg b.mut H (L2.upd H b.rg (.lst (r.map V.int))) := by
  obtain ⟨ip, wa, ou, st, h1, h2, h3, h4, h5, h6, h7, h8⟩ := h.ob
  have t : ∀ {x : Addr}, x ∉ b.rg :: b.av → x ≠ b.rg := fun h z => h (by rw [z]; exact List.mem_cons_self)
  refine ⟨⟨⟨ip, wa, ou, st, by rw [upd_ne (ne_of h1 h.rg (by intro z; cases z))]; exact h1, by rw [upd_ne (t h6)]; exact h2, by rw [upd_ne (t h7)]; exact h3, by rw [upd_ne (t h8)]; exact h4, by rw [upd_ne (ne_of h5 h.rg (by intro z; cases z))]; exact h5, h6, h7, h8⟩, by rw [upd_ne h.dr]; exact h.da, h.by_, upd_same, by rw [upd_ne (ne_of h.wo h.rg (by intro z; cases z))]; exact h.wo, h.dr, h.bw, h.nav, fun x hx z => ?_⟩,
    Chg.upd (by simp [BA.mut]) h.rg (by intro xs z; cases z)⟩
  have n : x ≠ b.rg := fun q => h.nav b.rg (by simp) (q ▸ hx)
  rw [upd_ne n] at z
  exact h.al x hx z
theorem BOk.updW (h : BOk b H m) (r : List (Int × Int)) : BOk b (L2.upd H b.wo (.dK (memV r))) { m with mem := r } ∧ Chg b.mut H (L2.upd H b.wo (.dK (memV r))) := by
  obtain ⟨ip, wa, ou, st, h1, h2, h3, h4, h5, h6⟩ := h.ob
  have ne : ∀ {c : Addr} {o : HO}, H c = some o → (∀ kvs, o ≠ .dK kvs) → c ≠ b.wo := fun hc ho z => by rw [z, h.wo] at hc; exact ho _ (Option.some.inj hc).symm
  have nl : ∀ {xs : List V} (kvs : List (Key × V)), HO.lst xs ≠ .dK kvs := fun kvs z => by cases z
  have nt : ∀ {xs : List V} (kvs : List (Key × V)), HO.tup xs ≠ .dK kvs := fun kvs z => by cases z
  refine ⟨⟨⟨ip, wa, ou, st, by rw [upd_ne h.bw]; exact h1, by rw [upd_ne (ne h2 nl)]; exact h2, by rw [upd_ne (ne h3 nl)]; exact h3, by rw [upd_ne (ne h4 nl)]; exact h4, by rw [upd_ne (ne h5 nt)]; exact h5, h6⟩, by rw [upd_ne (ne h.da nl)]; exact h.da, h.by_, by rw [upd_ne (ne h.rg nl)]; exact h.rg, upd_same, h.dr, h.bw, h.nav, fun x hx z => ?_⟩,
    Chg.upd (by simp [BA.mut]) h.wo (by intro xs z; cases z)⟩
  have n : x ≠ b.wo := fun q => h.nav b.wo (by simp) (q ▸ hx)
  rw [upd_ne n] at z
  exact h.al x hx z
/-- a new object is apart -/
theorem BOk.new (h : BOk b H m) {p : Addr} (hp : H p = none) : p ∉ b.rg :: b.av := fun z => by
  rcases List.mem_cons.mp z with z | z
  · rw [z, h.rg] at hp; cases hp
  · exact h.al p z hp
theorem evB_at (h : Ev td σ H (.ref b.b)) (B : BOk b H m) : Ev (tDGet td (tC (.str "at"))) σ H (.int m.at_) := let ⟨_, _, _, _, g, _⟩ := B.ob; ev_dget (k := Sum.inr "at") h ev_c g (bx_at ..)
theorem evB_sp (h : Ev td σ H (.ref b.b)) (B : BOk b H m) : Ev (tDGet td (tC (.str "sp"))) σ H (.int m.sp) := let ⟨_, _, _, _, g, _⟩ := B.ob; ev_dget (k := Sum.inr "sp") h ev_c g (bx_sp ..)
theorem evB_data (h : Ev td σ H (.ref b.b)) (B : BOk b H m) : Ev (tDGet td (tC (.str "data"))) σ H (.ref b.da) := let ⟨_, _, _, _, g, _⟩ := B.ob; ev_dget (k := Sum.inr "data") h ev_c g (bx_data ..)
theorem evB_regs (h : Ev td σ H (.ref b.b)) (B : BOk b H m) : Ev (tDGet td (tC (.str "regs"))) σ H (.ref b.rg) := let ⟨_, _, _, _, g, _⟩ := B.ob; ev_dget (k := Sum.inr "regs") h ev_c g (bx_regs ..)
theorem evB_words (h : Ev td σ H (.ref b.b)) (B : BOk b H m) : Ev (tDGet td (tC (.str "words"))) σ H (.ref b.wo) := let ⟨_, _, _, _, g, _⟩ := B.ob; ev_dget (k := Sum.inr "words") h ev_c g (bx_words ..)
theorem evB_inputs (h : Ev td σ H (.ref b.b)) (B : BOk b H m) : ∃ p, Ev (tDGet td (tC (.str "inputs"))) σ H (.ref p) ∧ H p = some (.lst ((m.inp.drop m.tk).map V.int)) := let ⟨ip, _, _, _, g, g1, _⟩ := B.ob; ⟨ip, ev_dget (k := Sum.inr "inputs") h ev_c g (bx_inputs ..), g1⟩
theorem evB_waiting (h : Ev td σ H (.ref b.b)) (B : BOk b H m) : ∃ p, Ev (tDGet td (tC (.str "waiting"))) σ H (.ref p) ∧ H p = some (.lst (m.wait.map V.int)) := let ⟨_, wa, _, _, g, _, g1, _⟩ := B.ob; ⟨wa, ev_dget (k := Sum.inr "waiting") h ev_c g (bx_waiting ..), g1⟩
theorem evB_out (h : Ev td σ H (.ref b.b)) (B : BOk b H m) : ∃ p, Ev (tDGet td (tC (.str "out"))) σ H (.ref p) ∧ H p = some (.lst (m.out.map V.int)) := let ⟨_, _, ou, _, g, _, _, g1, _⟩ := B.ob; ⟨ou, ev_dget (k := Sum.inr "out") h ev_c g (bx_out ..), g1⟩
theorem evB_status (h : Ev td σ H (.ref b.b)) (B : BOk b H m) : ∃ p, Ev (tDGet td (tC (.str "status"))) σ H (.ref p) ∧ H p = some (.tup (staV m.st)) := let ⟨_, _, _, st, g, _, _, _, g1, _⟩ := B.ob; ⟨st, ev_dget (k := Sum.inr "status") h ev_c g (bx_status ..), g1⟩
theorem sB_at {v : Int} (B : BOk b H m) (h : ∀ H1, Ex H H1 → Ev td σ H1 (.ref b.b)) (hv : Ev te σ H (.int v)) (k : ∀ H', BOk b H' { m with at_ := v } → Chg b.mut H H' → D.nx σ H') : sDPut td (tC (.str "at")) te D σ H := by
  obtain ⟨ip, wa, ou, st, g, h2, h3, h4, h5, h6, h7, h8⟩ := B.ob
  refine s_dput (kk := Sum.inr "at") hv (h H (Ex.refl H)) ev_c g (by show 9 < 100000; decide) fun H1 e1 => ?_
  rw [bxp_at]
  obtain ⟨q1, q2⟩ := (B.ex e1).updB (m' := { m with at_ := v }) rfl rfl (e1 _ _ h2) (e1 _ _ h3) (e1 _ _ h4) (e1 _ _ h5) h6 h7 h8
  exact k _ q1 ((Chg.of e1).trans q2)
theorem sB_sp {v : Int} (B : BOk b H m) (h : ∀ H1, Ex H H1 → Ev td σ H1 (.ref b.b)) (hv : Ev te σ H (.int v)) (k : ∀ H', BOk b H' { m with sp := v } → Chg b.mut H H' → D.nx σ H') : sDPut td (tC (.str "sp")) te D σ H := by
  obtain ⟨ip, wa, ou, st, g, h2, h3, h4, h5, h6, h7, h8⟩ := B.ob
  refine s_dput (kk := Sum.inr "sp") hv (h H (Ex.refl H)) ev_c g (by show 9 < 100000; decide) fun H1 e1 => ?_
  rw [bxp_sp]
  obtain ⟨q1, q2⟩ := (B.ex e1).updB (m' := { m with sp := v }) rfl rfl (e1 _ _ h2) (e1 _ _ h3) (e1 _ _ h4) (e1 _ _ h5) h6 h7 h8
  exact k _ q1 ((Chg.of e1).trans q2)
theorem sB_status {s : Sta} (B : BOk b H m) (h : ∀ H1, Ex H H1 → Ev td σ H1 (.ref b.b)) (hv : EvU te σ H (staV s)) (k : ∀ H', BOk b H' { m with st := s } → Chg b.mut H H' → D.nx σ H') : sDPut td (tC (.str "status")) te D σ H := by
  obtain ⟨ip, wa, ou, st, g, h2, h3, h4, h5, h6, h7, h8⟩ := B.ob
  refine s_dputP (kk := Sum.inr "status") (eu_p hv) h (fun H1 e1 => ev_c) g (by show 9 < 100000; decide) fun v H1 H2 e1 hp e2 => ?_
  obtain ⟨p, rfl, hp0, hp⟩ := hp
  have e := e1.trans e2
  rw [bxp_status]
  obtain ⟨q1, q2⟩ := (B.ex e).updB (m' := { m with st := s }) rfl rfl (e _ _ h2) (e _ _ h3) (e _ _ h4) (e2 _ _ hp) h6 h7 h8
  exact k _ q1 ((Chg.of e).trans q2)
theorem sB_inputs {t : Nat} (B : BOk b H m) (h : ∀ H1, Ex H H1 → Ev td σ H1 (.ref b.b)) (hv : EvL te σ H ((m.inp.drop t).map V.int)) (k : ∀ H', BOk b H' { m with tk := t } → Chg b.mut H H' → D.nx σ H') : sDPut td (tC (.str "inputs")) te D σ H := by
  obtain ⟨ip, wa, ou, st, g, h2, h3, h4, h5, h6, h7, h8⟩ := B.ob
  refine s_dputP (kk := Sum.inr "inputs") (el_p hv) h (fun H1 e1 => ev_c) g (by show 9 < 100000; decide) fun v H1 H2 e1 hp e2 => ?_
  obtain ⟨p, rfl, hp0, hp⟩ := hp
  have e := e1.trans e2
  rw [bxp_inputs]
  obtain ⟨q1, q2⟩ := (B.ex e).updB (m' := { m with tk := t }) rfl rfl (e2 _ _ hp) (e _ _ h3) (e _ _ h4) (e _ _ h5) (B.new hp0) h7 h8
  exact k _ q1 ((Chg.of e).trans q2)
theorem sB_waiting {l : List Int} (B : BOk b H m) (h : ∀ H1, Ex H H1 → Ev td σ H1 (.ref b.b)) (hv : EvL te σ H (l.map V.int)) (k : ∀ H', BOk b H' { m with wait := l } → Chg b.mut H H' → D.nx σ H') : sDPut td (tC (.str "waiting")) te D σ H := by
  obtain ⟨ip, wa, ou, st, g, h2, h3, h4, h5, h6, h7, h8⟩ := B.ob
  refine s_dputP (kk := Sum.inr "waiting") (el_p hv) h (fun H1 e1 => ev_c) g (by show 9 < 100000; decide) fun v H1 H2 e1 hp e2 => ?_
  obtain ⟨p, rfl, hp0, hp⟩ := hp
  have e := e1.trans e2
  rw [bxp_waiting]
  obtain ⟨q1, q2⟩ := (B.ex e).updB (m' := { m with wait := l }) rfl rfl (e _ _ h2) (e2 _ _ hp) (e _ _ h4) (e _ _ h5) h6 (B.new hp0) h8
  exact k _ q1 ((Chg.of e).trans q2)
theorem sB_out {l : List Int} (B : BOk b H m) (h : ∀ H1, Ex H H1 → Ev td σ H1 (.ref b.b)) (hv : EvL te σ H (l.map V.int)) (k : ∀ H', BOk b H' { m with out := l } → Chg b.mut H H' → D.nx σ H') : sDPut td (tC (.str "out")) te D σ H := by
  obtain ⟨ip, wa, ou, st, g, h2, h3, h4, h5, h6, h7, h8⟩ := B.ob
  refine s_dputP (kk := Sum.inr "out") (el_p hv) h (fun H1 e1 => ev_c) g (by show 9 < 100000; decide) fun v H1 H2 e1 hp e2 => ?_
  obtain ⟨p, rfl, hp0, hp⟩ := hp
  have e := e1.trans e2
  rw [bxp_out]
  obtain ⟨q1, q2⟩ := (B.ex e).updB (m' := { m with out := l }) rfl rfl (e _ _ h2) (e _ _ h3) (e2 _ _ hp) (e _ _ h5) h6 h7 (B.new hp0)
  exact k _ q1 ((Chg.of e).trans q2)
theorem sB_reg {tb : TE} {r v : Int} (B : BOk b H m) (hl : m.regs.length = 8) (hr : Rg r) (h : Ev te σ H (.int v)) (ho : Ev ta σ H (.ref b.rg)) (hi : Ev tb σ H (.int r)) (k : ∀ H', BOk b H' (m.setR r v) → Chg b.mut H H' → D.nx σ H') : tAsg te (gSub ta tb rSetL) D σ H := by
  refine s_setLI B.rg h ho hi hr.1 (by rw [hl]; exact hr.2) fun H1 e1 => ?_
  obtain ⟨q1, q2⟩ := (B.ex e1).updR (m.regs.set r.toNat v)
  exact k _ q1 ((Chg.of e1).trans q2)
theorem sB_mem {ty : TE} {kk v : Int} (B : BOk b H m) (hz : m.mem.length < 100000) (hv : Ev te σ H (.int v)) (hd : Ev td σ H (.ref b.wo)) (hk : Ev ty σ H (.int kk)) (k : ∀ H', BOk b H' { m with mem := putM m.mem kk v } → Chg b.mut H H' → D.nx σ H') : sDPut td ty te D σ H := by
  refine s_dput (kk := Sum.inl kk) hv hd hk B.wo (by unfold memV; rw [List.length_map]; exact hz) fun H1 e1 => ?_
  rw [put_memV]
  obtain ⟨q1, q2⟩ := (B.ex e1).updW (putM m.mem kk v)
  exact k _ q1 ((Chg.of e1).trans q2)
/-- a register read -/
theorem evBR {tb : TE} {r : Int} (h : Ev te σ H (.ref b.rg)) (B : BOk b H m) (hl : m.regs.length = 8) (hr : Rg r) (hi : Ev tb σ H (.int r)) : Ev (tOp (rIxL K) te tb) σ H (.int (m.rg r)) := ev_op h hi (rv_ixL (sq_of B.rg) (at_rg hl hr))
end
def RetB (b : BA) (m' : M) (H : Hp) (Q : VK) : Prop := ∀ v H', BOk b H' m' → Chg b.mut H H' → Q v H'
theorem s_callf {σ : L2.St} {H : Hp} {D : Ends} {t : TA} {sp : Sp} {dvs vs : List V} {E : XK} (ha : EvA t σ H vs) (k : ∀ H1, Ex H H1 → sp (vs ++ dvs) H1 (fun _ H2 => D.nx σ H2) E) : tDrop (tCall sp dvs E t) D σ H := ha H (Ex.refl H) _ fun H1 e1 => k H1 e1

def spWork (K : PySem.W.Frag) : Sp := fun vs H Q _ => ∃ (b : BA) (m : M) (n : Nat) (i : Ins) (va : Addr) (xs : List V), vs = [.ref b.b, .str (nm i.code), .ref va] ∧ H va = some (.lst xs) ∧ va ∉ b.mut ∧ LvsAt K H xs i.lv ∧ i.Ok ∧ (isAc i.code = true ∨ isCo i.code = true) ∧ BOk b H m ∧ m.Wf n ∧ n ≤ 5000 ∧
  RetB b (if isAc i.code then acM i m else coM i m) H Q
theorem drop_len (l : List Int) (t : Nat) (h : t ≤ l.length) : (l.drop t).length = l.length - t := List.length_drop
theorem gI_dropT (l : List Int) (t i : Nat) : gI (l.drop t) i = gI l (t + i) := by
  unfold gI
  rw [List.getD_eq_getElem?_getD, List.getD_eq_getElem?_getD, List.getElem?_drop]
section
variable {P : Program} {w : World} {K : PySem.W.Frag} {mg : Str → Option Value} {base : Heap} {CI CM : Addr}
theorem ok_law_work (T : Txt K mg CI CM) : FnG P w K mg base "_law_work" 3 ["_law_box", "_law_name", "_law_values"] (spWork K) := by
  refine fnG_of T.d_law_work sc_law_work (fun _ _ _ _ _ _ us hl => match us, hl with | [_, _, _], _ => rfl) (fun vs H Q E h => ?_) fun f cdv A outer s H vs Q E hr h => ?_
  · obtain ⟨b, m, n, i, va, xs, rfl, _⟩ := h
    rfl
  · obtain ⟨b, m, n, i, va, xs, rfl, hva, hvm, hL, ok, hc, B, W, hn, k⟩ := h
    have nd := sc_law_work.nd
    have hu := hu_of hr
    refine ⟨_, (pss_cons (ps_set (i := 3) nd rfl (Or.inl rfl) (pe_dget hu (pv 0) pe_str (fun _ _ => rfl)))
      (pss_cons (ps_set (i := 4) nd rfl (Or.inl rfl) (pe_dget hu (pv 0) pe_str (fun _ _ => rfl)))
      (pss_one (ps_if (pt_cmpR op_eq (pv 1) pe_str (nomark _)) (pss_one (ps_asg (pe_ix (ixl K) (pv 2) pe_int (fun _ _ => rfl)) (pg_sub (pv 3) (pe_ix (ixl K) (pv 2) pe_int (fun _ _ => rfl)) set_list))) (pss_one (ps_if (pt_cmpR op_eq (pv 1) pe_str (nomark _)) (pss_one (ps_asg (pe_ix (ixl K) (pv 3) (pe_ix (ixl K) (pv 2) pe_int (fun _ _ => rfl)) (fun _ _ => rfl)) (pg_sub (pv 3) (pe_ix (ixl K) (pv 2) pe_int (fun _ _ => rfl)) set_list))) (pss_one (ps_if (pt_cmpR op_eq (pv 1) pe_str (nomark _)) (pss_one (ps_asg (pe_dget2 hu (pv 4) (pe_op op_mod (pe_op op_add (pe_ix (ixl K) (pv 3) (pe_ix (ixl K) (pv 2) pe_int (fun _ _ => rfl)) (fun _ _ => rfl)) (pe_ix (ixl K) (pv 2) pe_int (fun _ _ => rfl))) pe_int) pe_int ⟨rfl, rfl, rfl, rfl⟩) (pg_sub (pv 3) (pe_ix (ixl K) (pv 2) pe_int (fun _ _ => rfl)) set_list))) (pss_one (ps_if (pt_cmpR op_eq (pv 1) pe_str (nomark _)) (pss_one (ps_dput hu (pv 4) (pe_op op_mod (pe_op op_add (pe_ix (ixl K) (pv 3) (pe_ix (ixl K) (pv 2) pe_int (fun _ _ => rfl)) (fun _ _ => rfl)) (pe_ix (ixl K) (pv 2) pe_int (fun _ _ => rfl))) pe_int) (pe_ix (ixl K) (pv 3) (pe_ix (ixl K) (pv 2) pe_int (fun _ _ => rfl)) (fun _ _ => rfl)) rfl)) (pss_one (ps_if (pt_cmpR op_eq (pv 1) pe_str (nomark _)) (pss_one (ps_asg (pe_dget2 hu (pv 4) (pe_op op_mod (pe_op op_add (pe_dget hu (pv 0) pe_str (fun _ _ => rfl)) (pe_ix (ixl K) (pv 2) pe_int (fun _ _ => rfl))) pe_int) pe_int ⟨rfl, rfl, rfl, rfl⟩) (pg_sub (pv 3) (pe_ix (ixl K) (pv 2) pe_int (fun _ _ => rfl)) set_list))) (pss_one (ps_if (pt_cmpR op_eq (pv 1) pe_str (nomark _)) (pss_one (ps_dput hu (pv 4) (pe_op op_mod (pe_op op_add (pe_dget hu (pv 0) pe_str (fun _ _ => rfl)) (pe_ix (ixl K) (pv 2) pe_int (fun _ _ => rfl))) pe_int) (pe_ix (ixl K) (pv 3) (pe_ix (ixl K) (pv 2) pe_int (fun _ _ => rfl)) (fun _ _ => rfl)) rfl)) (pss_one (ps_if (pt_cmpR op_eq (pv 1) pe_str (nomark _)) (pss_one (ps_asg (pe_op op_mod (pe_op op_add (pe_dget hu (pv 0) pe_str (fun _ _ => rfl)) (pe_ix (ixl K) (pv 2) pe_int (fun _ _ => rfl))) pe_int) (pg_sub (pv 3) (pe_ix (ixl K) (pv 2) pe_int (fun _ _ => rfl)) set_list))) (pss_one (ps_if (pt_cmpR op_eq (pv 1) pe_str (nomark _)) (pss_cons (ps_asg pe_int (pg_sub (pv 3) (pe_ix (ixl K) (pv 2) pe_int (fun _ _ => rfl)) set_list))
      (pss_one (ps_if (pt_cmpR op_gt (pe_callB (cr_len K) (by rfl) T.n_len (by decide +kernel) (pa_cons (pe_dget hu (pv 0) pe_str (fun _ _ => rfl)) pa_nil)) pe_int (nomark _)) (pss_cons (ps_asg (pe_ix (ixl K) (pe_dget hu (pv 0) pe_str (fun _ _ => rfl)) pe_int (fun _ _ => rfl)) (pg_sub (pv 3) (pe_ix (ixl K) (pv 2) pe_int (fun _ _ => rfl)) set_list))
      (pss_one (ps_dput hu (pv 0) pe_str (pe_slice (sll K) (pe_dget hu (pv 0) pe_str (fun _ _ => rfl)) (po_some pe_int) po_none) rfl))) pss_nil))) (pss_one (ps_if (pt_cmpR op_eq (pv 1) pe_str (nomark _)) (pss_one (ps_dput hu (pv 0) pe_str (pe_op op_cat (pe_dget hu (pv 0) pe_str (fun _ _ => rfl)) (pe_lst (pa_cons (pe_ix (ixl K) (pv 3) (pe_ix (ixl K) (pv 2) pe_int (fun _ _ => rfl)) (fun _ _ => rfl)) pa_nil))) rfl)) (pss_one (ps_asg (pe_fn (ok_law_combine T) (hr.mono (by decide)) (by rfl) (pa_cons (pv 1) (pa_cons (pe_ix (ixl K) (pv 3) (pe_ix (ixl K) (pv 2) pe_int (fun _ _ => rfl)) (fun _ _ => rfl)) (pa_cons (pe_ix (ixl K) (pv 3) (pe_ix (ixl K) (pv 2) pe_int (fun _ _ => rfl)) (fun _ _ => rfl)) pa_nil)))) (pg_sub (pv 3) (pe_ix (ixl K) (pv 2) pe_int (fun _ _ => rfl)) set_list))))))))))))))))))))))), ?_⟩
    have hl := W.len
    have hc3 := (Ins.code_lt ok).2
    have hz : m.mem.length < 100000 := Nat.lt_of_le_of_lt W.msz (by omega)
    have m65 : (0 : Int) < 65536 := by decide
    refine q_asg (v := .ref b.rg) (evB_regs (ev_var rfl) B) fun H1 e1 => ?_
    refine q_asg (v := .ref b.wo) (evB_words (ev_var rfl) (B.ex e1)) fun H2 e2 => ?_
    have e02 := e1.trans e2
    have B0 := B
    replace B := B.ex e02
    have hv2 := e02 _ _ hva
    have hL2 := hL.ex e02
    have c02 : Chg b.mut H H2 := Chg.of e02
    clear e1 e2
    generalize hcd : i.code = c at hc hc3 k
    refine s_if (b := decide (c = 1)) (et_nmQ (d := 1) (ev_var rfl) hc3 (by decide) rfl rfl) (fun hb H3 e3 => ?_) (fun hb H3 e3 => ?_)
    · have hb := of_decide_eq_true hb
      cases i with
      | set r x =>
        obtain rfl : 1 = c := hcd
        exact sB_reg (B.ex e3) hl ok.1 (ev_op (ev_var rfl) ev_c (rv_ixL (sq_of (e3 _ _ hv2)) ((hL2.ex e3).at_i (j := 1) rfl))) (ev_var rfl) (ev_op (ev_var rfl) ev_c (rv_ixL (sq_of (e3 _ _ hv2)) ((hL2.ex e3).at_i (j := 0) rfl))) fun H4 B4 c4 => k _ H4 B4 ((c02.trans (Chg.of e3)).trans c4)
      | op c' r s => exact absurd ok.1 (by simp only [Ins.code] at hcd; omega)
      | _ => exact absurd hb (by rw [← hcd]; intro z; cases z)
    have hb1 := of_decide_eq_false hb
    replace B := B.ex e3
    replace hv2 := e3 _ _ hv2
    replace hL2 := hL2.ex e3
    replace c02 := c02.trans (Chg.of e3)
    clear e3
    refine s_if (b := decide (c = 2)) (et_nmQ (d := 2) (ev_var rfl) hc3 (by decide) rfl rfl) (fun hb H4 e3 => ?_) (fun hb H4 e3 => ?_)
    · have hb := of_decide_eq_true hb
      cases i with
      | copy r s =>
        obtain rfl : 2 = c := hcd
        exact sB_reg (B.ex e3) hl ok.1 (evBR (ev_var rfl) (B.ex e3) hl ok.2 (ev_op (ev_var rfl) ev_c (rv_ixL (sq_of (e3 _ _ hv2)) ((hL2.ex e3).at_i (j := 1) rfl)))) (ev_var rfl) (ev_op (ev_var rfl) ev_c (rv_ixL (sq_of (e3 _ _ hv2)) ((hL2.ex e3).at_i (j := 0) rfl))) fun H4 B4 c4 => k _ H4 B4 ((c02.trans (Chg.of e3)).trans c4)
      | op c' r s => exact absurd ok.1 (by simp only [Ins.code] at hcd; omega)
      | _ => exact absurd hb (by rw [← hcd]; intro z; cases z)
    have hb2 := of_decide_eq_false hb
    replace B := B.ex e3
    replace hv2 := e3 _ _ hv2
    replace hL2 := hL2.ex e3
    replace c02 := c02.trans (Chg.of e3)
    clear e3
    refine s_if (b := decide (c = 14)) (et_nmQ (d := 14) (ev_var rfl) hc3 (by decide) rfl rfl) (fun hb H5 e3 => ?_) (fun hb H5 e3 => ?_)
    · have hb := of_decide_eq_true hb
      cases i with
      | load r s x =>
        obtain rfl : 14 = c := hcd
        exact sB_reg (B.ex e3) hl ok.1 (ev_dget2 (k := Sum.inl ((m.rg s + x) % 65536)) (ev_var rfl) (ev_op (ev_op (evBR (ev_var rfl) (B.ex e3) hl ok.2.1 (ev_op (ev_var rfl) ev_c (rv_ixL (sq_of (e3 _ _ hv2)) ((hL2.ex e3).at_i (j := 1) rfl)))) (ev_op (ev_var rfl) ev_c (rv_ixL (sq_of (e3 _ _ hv2)) ((hL2.ex e3).at_i (j := 2) rfl))) rv_I0) ev_c (rv_I m65)) ev_c (B.ex e3).wo (look_memV _ _)) (ev_var rfl) (ev_op (ev_var rfl) ev_c (rv_ixL (sq_of (e3 _ _ hv2)) ((hL2.ex e3).at_i (j := 0) rfl))) fun H4 B4 c4 => k _ H4 B4 ((c02.trans (Chg.of e3)).trans c4)
      | op c' r s => exact absurd ok.1 (by simp only [Ins.code] at hcd; omega)
      | _ => exact absurd hb (by rw [← hcd]; intro z; cases z)
    have hb3 := of_decide_eq_false hb
    replace B := B.ex e3
    replace hv2 := e3 _ _ hv2
    replace hL2 := hL2.ex e3
    replace c02 := c02.trans (Chg.of e3)
    clear e3
    refine s_if (b := decide (c = 15)) (et_nmQ (d := 15) (ev_var rfl) hc3 (by decide) rfl rfl) (fun hb H6 e3 => ?_) (fun hb H6 e3 => ?_)
    · have hb := of_decide_eq_true hb
      cases i with
      | store r s x =>
        obtain rfl : 15 = c := hcd
        exact sB_mem (kk := (m.rg s + x) % 65536) (B.ex e3) hz (evBR (ev_var rfl) (B.ex e3) hl ok.1 (ev_op (ev_var rfl) ev_c (rv_ixL (sq_of (e3 _ _ hv2)) ((hL2.ex e3).at_i (j := 0) rfl)))) (ev_var rfl) (ev_op (ev_op (evBR (ev_var rfl) (B.ex e3) hl ok.2.1 (ev_op (ev_var rfl) ev_c (rv_ixL (sq_of (e3 _ _ hv2)) ((hL2.ex e3).at_i (j := 1) rfl)))) (ev_op (ev_var rfl) ev_c (rv_ixL (sq_of (e3 _ _ hv2)) ((hL2.ex e3).at_i (j := 2) rfl))) rv_I0) ev_c (rv_I m65)) fun H4 B4 c4 => k _ H4 B4 ((c02.trans (Chg.of e3)).trans c4)
      | op c' r s => exact absurd ok.1 (by simp only [Ins.code] at hcd; omega)
      | _ => exact absurd hb (by rw [← hcd]; intro z; cases z)
    have hb4 := of_decide_eq_false hb
    replace B := B.ex e3
    replace hv2 := e3 _ _ hv2
    replace hL2 := hL2.ex e3
    replace c02 := c02.trans (Chg.of e3)
    clear e3
    refine s_if (b := decide (c = 16)) (et_nmQ (d := 16) (ev_var rfl) hc3 (by decide) rfl rfl) (fun hb H7 e3 => ?_) (fun hb H7 e3 => ?_)
    · have hb := of_decide_eq_true hb
      cases i with
      | take r x =>
        obtain rfl : 16 = c := hcd
        exact sB_reg (B.ex e3) hl ok.1 (ev_dget2 (k := Sum.inl ((m.sp + x) % 65536)) (ev_var rfl) (ev_op (ev_op (evB_sp (ev_var rfl) (B.ex e3)) (ev_op (ev_var rfl) ev_c (rv_ixL (sq_of (e3 _ _ hv2)) ((hL2.ex e3).at_i (j := 1) rfl))) rv_I0) ev_c (rv_I m65)) ev_c (B.ex e3).wo (look_memV _ _)) (ev_var rfl) (ev_op (ev_var rfl) ev_c (rv_ixL (sq_of (e3 _ _ hv2)) ((hL2.ex e3).at_i (j := 0) rfl))) fun H4 B4 c4 => k _ H4 B4 ((c02.trans (Chg.of e3)).trans c4)
      | op c' r s => exact absurd ok.1 (by simp only [Ins.code] at hcd; omega)
      | _ => exact absurd hb (by rw [← hcd]; intro z; cases z)
    have hb5 := of_decide_eq_false hb
    replace B := B.ex e3
    replace hv2 := e3 _ _ hv2
    replace hL2 := hL2.ex e3
    replace c02 := c02.trans (Chg.of e3)
    clear e3
    refine s_if (b := decide (c = 17)) (et_nmQ (d := 17) (ev_var rfl) hc3 (by decide) rfl rfl) (fun hb H8 e3 => ?_) (fun hb H8 e3 => ?_)
    · have hb := of_decide_eq_true hb
      cases i with
      | put r x =>
        obtain rfl : 17 = c := hcd
        exact sB_mem (kk := (m.sp + x) % 65536) (B.ex e3) hz (evBR (ev_var rfl) (B.ex e3) hl ok.1 (ev_op (ev_var rfl) ev_c (rv_ixL (sq_of (e3 _ _ hv2)) ((hL2.ex e3).at_i (j := 0) rfl)))) (ev_var rfl) (ev_op (ev_op (evB_sp (ev_var rfl) (B.ex e3)) (ev_op (ev_var rfl) ev_c (rv_ixL (sq_of (e3 _ _ hv2)) ((hL2.ex e3).at_i (j := 1) rfl))) rv_I0) ev_c (rv_I m65)) fun H4 B4 c4 => k _ H4 B4 ((c02.trans (Chg.of e3)).trans c4)
      | op c' r s => exact absurd ok.1 (by simp only [Ins.code] at hcd; omega)
      | _ => exact absurd hb (by rw [← hcd]; intro z; cases z)
    have hb6 := of_decide_eq_false hb
    replace B := B.ex e3
    replace hv2 := e3 _ _ hv2
    replace hL2 := hL2.ex e3
    replace c02 := c02.trans (Chg.of e3)
    clear e3
    refine s_if (b := decide (c = 18)) (et_nmQ (d := 18) (ev_var rfl) hc3 (by decide) rfl rfl) (fun hb H9 e3 => ?_) (fun hb H9 e3 => ?_)
    · have hb := of_decide_eq_true hb
      cases i with
      | frame r x =>
        obtain rfl : 18 = c := hcd
        exact sB_reg (B.ex e3) hl ok.1 (ev_op (ev_op (evB_sp (ev_var rfl) (B.ex e3)) (ev_op (ev_var rfl) ev_c (rv_ixL (sq_of (e3 _ _ hv2)) ((hL2.ex e3).at_i (j := 1) rfl))) rv_I0) ev_c (rv_I m65)) (ev_var rfl) (ev_op (ev_var rfl) ev_c (rv_ixL (sq_of (e3 _ _ hv2)) ((hL2.ex e3).at_i (j := 0) rfl))) fun H4 B4 c4 => k _ H4 B4 ((c02.trans (Chg.of e3)).trans c4)
      | op c' r s => exact absurd ok.1 (by simp only [Ins.code] at hcd; omega)
      | _ => exact absurd hb (by rw [← hcd]; intro z; cases z)
    have hb7 := of_decide_eq_false hb
    replace B := B.ex e3
    replace hv2 := e3 _ _ hv2
    replace hL2 := hL2.ex e3
    replace c02 := c02.trans (Chg.of e3)
    clear e3
    refine s_if (b := decide (c = 28)) (et_nmQ (d := 28) (ev_var rfl) hc3 (by decide) rfl rfl) (fun hb H10 e3 => ?_) (fun hb H10 e3 => ?_)
    · have hb := of_decide_eq_true hb
      cases i with
      | input r =>
        obtain rfl : 28 = c := hcd
        have htk := W.tk
        have hvr : ∀ {H1 H2 : Hp}, Chg b.mut H1 H2 → H1 va = some (.lst xs) → H2 va = some (.lst xs) := fun c h => c.keep _ _ h hvm
        have hv3 := e3 _ _ hv2
        refine q_st (sB_reg (v := 0) (B.ex e3) hl ok ev_c (ev_var rfl) (ev_op (ev_var rfl) ev_c (rv_ixL (sq_of (e3 _ _ hv2)) ((hL2.ex e3).at_i (j := 0) rfl))) fun H11 B11 c11 => ?_)
        have hv11 := hvr c11 hv3
        have hat : ∀ (l : List V), atI xs 0 = some (.int r) := fun _ => hL.at_i (j := 0) rfl
        have hat := hat []
        obtain ⟨ip, hip, hipl⟩ := evB_inputs (td := tVar 0) (σ := (((start nm_law_work [.ref b.b, .str (nm 28), .ref va]).set 3 (some (.ref b.rg))).set 4 (some (.ref b.wo)))) (ev_var rfl) B11
        have hli : ((m.setR r 0).inp.drop (m.setR r 0).tk).length = m.inp.length - m.tk := List.length_drop
        refine s_when (b := decide (((m.inp.length - m.tk : Nat) : Int) > 0)) (et_test (ev_op (ev_is (ev_lenI hip (sq_of hipl)) (by rw [hli])) ev_c rv_I0)) (fun hb12 H12 e12 => ?_) (fun hb12 H12 e12 => ?_)
        · have hb12 := of_decide_eq_true hb12
          have hlt : m.tk < m.inp.length := by omega
          have B12 := B11.ex e12
          obtain ⟨ip2, hip2, hipl2⟩ := evB_inputs (td := tVar 0) (σ := (((start nm_law_work [.ref b.b, .str (nm 28), .ref va]).set 3 (some (.ref b.rg))).set 4 (some (.ref b.wo)))) (ev_var rfl) B12
          have hl12 : (m.setR r 0).regs.length = 8 := by show (m.regs.set _ _).length = 8; rw [List.length_set]; exact hl
          have g0 : atI (((m.setR r 0).inp.drop (m.setR r 0).tk).map V.int) 0 = some (.int (inM m)) := by
            rw [at_gI0 (by rw [hli]; omega), gI_dropT]
            unfold inM
            rw [if_neg (by omega)] <;> rfl
          refine q_st (sB_reg (v := inM m) B12 hl12 ok (ev_op hip2 ev_c (rv_ixL (sq_of hipl2) g0)) (ev_var rfl) (ev_op (ev_var rfl) ev_c (rv_ixL (sq_of (e12 _ _ hv11)) hat)) fun H13 B13 c13 => ?_)
          obtain ⟨ip3, hip3, hipl3⟩ := evB_inputs (td := tVar 0) (σ := (((start nm_law_work [.ref b.b, .str (nm 28), .ref va]).set 3 (some (.ref b.rg))).set 4 (some (.ref b.wo)))) (ev_var rfl) B13
          refine sB_inputs (t := m.tk + 1) B13 (fun H14 e14 => ev_var rfl) (el_is (el_sl hip3 (eo_some ev_c) eo_none (sq_of hipl3)) ?_) fun H14 B14 c14 => k _ H14 ?_ ((((c02.trans (Chg.of e3)).trans c11).trans (Chg.of e12)).trans (c13.trans c14))
          · rw [cut_drop _ _ (by decide)]
            show ((m.inp.drop m.tk).drop 1).map V.int = (m.inp.drop (m.tk + 1)).map V.int
            rw [List.drop_drop]
          · have e : (((m.setR r 0).setR r (inM m)) : UW.M) = m.setR r (inM m) := by
              unfold M.setR
              rw [List.set_set]
            rw [e] at B14
            rw [if_neg (by decide)]
            show BOk b H14 { m.setR r (inM m) with tk := if m.tk = m.inp.length then m.tk else m.tk + 1 }
            rw [if_neg (by omega)]
            exact B14
        · have hb12 := of_decide_eq_false hb12
          have hlt : m.tk = m.inp.length := by omega
          refine k _ H12 ?_ (((c02.trans (Chg.of e3)).trans c11).trans (Chg.of e12))
          rw [if_neg (by decide)]
          show BOk b H12 { m.setR r (inM m) with tk := if m.tk = m.inp.length then m.tk else m.tk + 1 }
          unfold inM
          rw [if_pos hlt, if_pos hlt]
          exact B11.ex e12
      | op c' r s => exact absurd ok.1 (by simp only [Ins.code] at hcd; omega)
      | _ => exact absurd hb (by rw [← hcd]; intro z; cases z)
    have hb8 := of_decide_eq_false hb
    replace B := B.ex e3
    replace hv2 := e3 _ _ hv2
    replace hL2 := hL2.ex e3
    replace c02 := c02.trans (Chg.of e3)
    clear e3
    refine s_if (b := decide (c = 29)) (et_nmQ (d := 29) (ev_var rfl) hc3 (by decide) rfl rfl) (fun hb H11 e3 => ?_) (fun hb H11 e3 => ?_)
    · have hb := of_decide_eq_true hb
      cases i with
      | output r =>
        obtain rfl : 29 = c := hcd
        obtain ⟨ou, hou, houl⟩ := evB_out (td := tVar 0) (σ := (((start nm_law_work [.ref b.b, .str (nm 29), .ref va]).set 3 (some (.ref b.rg))).set 4 (some (.ref b.wo)))) (ev_var rfl) (B.ex e3)
        refine sB_out (l := m.out ++ [m.rg r]) (B.ex e3) (fun H12 e12 => ev_var rfl) (el_is (el_catV hou houl (el_lst (ea_cons (evBR (ev_var rfl) (B.ex e3) hl ok (ev_op (ev_var rfl) ev_c (rv_ixL (sq_of (e3 _ _ hv2)) ((hL2.ex e3).at_i (j := 0) rfl)))) ea_nil) (Nat.le_of_ble_eq_true rfl)) (by have := W.osz; simp; omega)) (by rw [List.map_append] <;> rfl)) fun H12 B12 c12 => k _ H12 B12 ((c02.trans (Chg.of e3)).trans c12)
      | op c' r s => exact absurd ok.1 (by simp only [Ins.code] at hcd; omega)
      | _ => exact absurd hb (by rw [← hcd]; intro z; cases z)
    have hb9 := of_decide_eq_false hb
    cases i with
    | op c' r s =>
      obtain rfl : c' = c := hcd
      have hac : isAc c' = false := by
        have : ∀ c, c < 32 → 3 ≤ c ∧ c ≤ 13 → isAc c = false := by decide
        exact this c' hc3 ok.1
      rw [hac] at k
      exact sB_reg (B.ex e3) hl ok.2.1 (ev_call (vs := [.str (nm c'), .int (m.rg r), .int (m.rg s)]) (ea_cons (ev_var rfl) (ea_cons (evBR (ev_var rfl) (B.ex e3) hl ok.2.1 (ev_op (ev_var rfl) ev_c (rv_ixL (sq_of (e3 _ _ hv2)) ((hL2.ex e3).at_i (j := 0) rfl)))) (ea_cons (evBR (ev_var rfl) (B.ex e3) hl ok.2.2 (ev_op (ev_var rfl) ev_c (rv_ixL (sq_of (e3 _ _ hv2)) ((hL2.ex e3).at_i (j := 1) rfl)))) ea_nil))) (sp_comb ok.1 (rg_word W _) (rg_word W _))) (ev_var rfl) (ev_op (ev_var rfl) ev_c (rv_ixL (sq_of (e3 _ _ hv2)) ((hL2.ex e3).at_i (j := 0) rfl))) fun H4 B4 c4 => k _ H4 B4 ((c02.trans (Chg.of e3)).trans c4)
    | _ => simp only [Ins.code] at hcd; subst hcd; first | exact absurd rfl hb1 | exact absurd rfl hb2 | exact absurd rfl hb3 | exact absurd rfl hb4 | exact absurd rfl hb5 | exact absurd rfl hb6 | exact absurd rfl hb7 | exact absurd rfl hb8 | exact absurd rfl hb9 | exact absurd hc (by decide)
end

def isGl (c : Nat) : Bool := decide (c ∈ [21, 24, 25, 26])
def spLGo (K : PySem.W.Frag) (C : Nat → Bool) : Sp := fun vs H Q _ => ∃ (b : BA) (m : M) (n : Nat) (i : Ins) (va : Addr) (xs : List V) (beh : Int), vs = [.ref b.b, .str (nm i.code), .ref va, .int beh] ∧ H va = some (.lst xs) ∧ va ∉ b.mut ∧ LvsAt K H xs i.lv ∧ i.Ok ∧ C i.code = true ∧ BOk b H m ∧ m.Wf n ∧
  RetB b (if isSh i.code then shM i beh m else goM i beh m) H Q
theorem at_last {l : List Int} (h : l ≠ []) : atI (l.map V.int) (-1) = some (.int (l.getLastD 0)) := by
  have e : l = l.dropLast ++ [l.getLastD 0] := by
    rw [List.getLastD_eq_getLast?, List.getLast?_eq_some_getLast h]
    exact (List.dropLast_concat_getLast h).symm
  have q : atI ((l.dropLast.map V.int) ++ [V.int (l.getLastD 0)]) (-1) = some (V.int (l.getLastD 0)) := atI_last _ _
  have e2 : l.map V.int = (l.dropLast.map V.int) ++ [V.int (l.getLastD 0)] := by
    have := congrArg (List.map V.int) e
    rw [List.map_append] at this
    exact this
  rw [e2]
  exact q
theorem cut_last (l : List Int) : cutV (l.map V.int) none (some (-1)) = l.dropLast.map V.int := by
  have e : HT.sIx (l.map V.int).length (l.map V.int).length (some (-1)) = l.length - 1 := by
    show (if (-1 : Int) < 0 then (-1 + ((l.map V.int).length : Int)).toNat else min (-1 : Int).toNat (l.map V.int).length) = _
    rw [if_pos (by decide), List.length_map]
    omega
  unfold cutV
  rw [e, HT.sIx_none, List.drop_zero, Nat.sub_zero, ← List.map_take, List.dropLast_eq_take]
section
variable {P : Program} {w : World} {K : PySem.W.Frag} {mg : Str → Option Value} {base : Heap} {CI CM : Addr}
theorem ok_law_goal (T : Txt K mg CI CM) : FnG P w K mg base "_law_goal" 2 ["_law_box", "_law_name", "_law_values", "_law_behind"] (spLGo K isGl) := by
  refine fnG_of T.d_law_goal sc_law_goal (fun _ _ _ _ _ _ us hl => match us, hl with | [_, _, _, _], _ => rfl) (fun vs H Q E h => ?_) fun f cdv A outer s H vs Q E hr h => ?_
  · obtain ⟨b, m, n, i, va, xs, beh, rfl, _⟩ := h
    rfl
  · obtain ⟨b, m, n, i, va, xs, beh, rfl, hva, hvm, hL, ok, hc, B, W, k⟩ := h
    have nd := sc_law_goal.nd
    have hu := hu_of hr
    refine ⟨_, (pss_cons (ps_set (i := 4) nd rfl (Or.inl rfl) (pe_ix (ixl K) (pv 2) pe_int (fun _ _ => rfl)))
      (pss_cut (ps_if (PW.pt (pw_or (pt_cmpR op_eq (pv 1) pe_str (nomark _)) (pw_or1 (pt_cmpR op_eq (pv 1) pe_str (nomark _))))) (pss_cons (ps_set (i := 5) nd rfl (Or.inl rfl) (pe_ix (ixl K) (pe_dget hu (pv 0) pe_str (fun _ _ => rfl)) (pe_ix (ixl K) (pv 2) pe_int (fun _ _ => rfl)) (fun _ _ => rfl)))
      (pss_cons (ps_if (pt_cmpR op_ge (pv 5) (pe_callB (cr_len K) (by rfl) T.n_len (by decide +kernel) (pa_cons (pe_ix (ixl K) (pv 2) pe_int (fun _ _ => rfl)) pa_nil)) (nomark _)) (pss_cons (ps_dput hu (pv 0) pe_str (pe_tup (pa_cons pe_str (pa_cons pe_str pa_nil))) rfl)
      (pss_one (ps_ret pe_int))) pss_nil)
      (pss_one (ps_set (i := 4) nd rfl (Or.inl rfl) (pe_ix (ixt K) (pe_ix (ixl K) (pv 2) pe_int (fun _ _ => rfl)) (pv 5) (fun _ _ => rfl)))))) pss_nil)
      (pss_cut (ps_if (PW.pt (pw_or (pt_cmpR op_eq (pv 1) pe_str (nomark _)) (pw_or1 (pt_cmpR op_eq (pv 1) pe_str (nomark _))))) (pss_cons (ps_if (pt_cmpR op_eq (pe_callB (cr_len K) (by rfl) T.n_len (by decide +kernel) (pa_cons (pe_dget hu (pv 0) pe_str (fun _ _ => rfl)) pa_nil)) pe_int (nomark _)) (pss_cons (ps_dput hu (pv 0) pe_str (pe_tup (pa_cons pe_str (pa_cons pe_str pa_nil))) rfl)
      (pss_one (ps_ret pe_int))) pss_nil)
      (pss_one (ps_dput hu (pv 0) pe_str (pe_op op_cat (pe_dget hu (pv 0) pe_str (fun _ _ => rfl)) (pe_lst (pa_cons (pv 3) pa_nil))) rfl))) pss_nil)
      (pss_cons (ps_dput hu (pv 0) pe_str (pv 4) rfl)
      (pss_one (ps_ret pe_int)))))), ?_⟩
    have hl := W.len
    have hwz := W.wsz
    have hc3 := (Ins.code_lt ok).2
    have tab : ((∃ g, i = .call g) ∨ (∃ g, i = .jump g)) ∨ ∃ (c : Nat) (r : Int) (t : List Int), (c = 24 ∨ c = 26) ∧ i.code = c ∧ i.lv = [.i r, .t t] ∧ Rg r ∧ isSh i.code = false ∧
        (goM i beh m = if (t.length : Int) ≤ m.rg r then { m with st := .index } else if c = 24 then { m with at_ := gI t (m.rg r).toNat } else enterM (gI t (m.rg r).toNat) beh m) := by
      cases i with
      | call g => exact .inl (.inl ⟨g, rfl⟩)
      | jump g => exact .inl (.inr ⟨g, rfl⟩)
      | table r t => exact .inr ⟨24, r, t, .inl rfl, rfl, rfl, ok.1, rfl, rfl⟩
      | calls r t => exact .inr ⟨26, r, t, .inr rfl, rfl, rfl, ok.1, rfl, rfl⟩
      | op c r s =>
        obtain ⟨ok1, _⟩ := ok
        exfalso
        have : c ∈ [21, 24, 25, 26] := of_decide_eq_true hc
        simp at this
        omega
      | _ => exact absurd hc (by intro z; cases z)
    have hval0 : ∃ x, i.lv[0]? = some (.i x) := by
      rcases tab with (⟨g, rfl⟩ | ⟨g, rfl⟩) | ⟨c, r, t, _, _, h, _⟩
      · exact ⟨g, rfl⟩
      · exact ⟨g, rfl⟩
      · exact ⟨r, by rw [h] <;> rfl⟩
    obtain ⟨x0, hx0⟩ := hval0
    refine q_asg (v := .int x0) (ev_op (ev_var rfl) ev_c (rv_ixL (sq_of hva) (hL.at_i (j := 0) hx0))) fun H1 e1 => ?_
    refine q_cut (M := fun σ' H' => ∃ (g : Int) (u : Option V), σ' = [some (.ref b.b), some (.str (nm i.code)), some (.ref va), some (.int beh), some (.int g), u] ∧ Ex H H' ∧ (if isSh i.code then shM i beh m else goM i beh m) = if i.code = 25 ∨ i.code = 26 then enterM g beh m else { m with at_ := g }) ?_ fun σ' H' h => ?_
    · rcases tab with (⟨g, rfl⟩ | ⟨g, rfl⟩) | ⟨c, r, t, hc2, hcc, hlv, hr2, hsh, hg⟩
      · obtain rfl : g = x0 := LV.i.inj (Option.some.inj hx0)
        refine s_when (b := false || false) (et_or (et_nmQ (d := 24) (c := 25) (ev_var rfl) (by decide) (by decide) rfl rfl) fun _ => et_nmQ (d := 26) (c := 25) (ev_var rfl) (by decide) (by decide) rfl rfl) (fun z => by cases z) fun _ H2 e2 => ⟨g, none, rfl, e1.trans e2, rfl⟩
      · obtain rfl : g = x0 := LV.i.inj (Option.some.inj hx0)
        refine s_when (b := false || false) (et_or (et_nmQ (d := 24) (c := 21) (ev_var rfl) (by decide) (by decide) rfl rfl) fun _ => et_nmQ (d := 26) (c := 21) (ev_var rfl) (by decide) (by decide) rfl rfl) (fun z => by cases z) fun _ H2 e2 => ⟨g, none, rfl, e1.trans e2, rfl⟩
      · have hv := rg_word W r
        have hx1 : r = x0 := by rw [hlv] at hx0; exact LV.i.inj (Option.some.inj hx0)
        subst hx1
        rw [hsh, hg] at k
        rw [hsh, hg]
        rw [hcc] at hc3 ⊢
        refine s_when (b := decide (c = 24) || decide (c = 26)) (et_or (et_nmQ (d := 24) (ev_var rfl) hc3 (by decide) rfl rfl) fun _ => et_nmQ (d := 26) (ev_var rfl) hc3 (by decide) rfl rfl) (fun _ H2 e2 => ?_) (fun z => by rcases hc2 with rfl | rfl <;> cases z)
        have e02 := e1.trans e2
        have B2 := B.ex e02
        have hL2 := hL.ex e02
        have hva2 := e02 _ _ hva
        refine q_asg (v := .int (m.rg r)) (evBR (evB_regs (ev_var rfl) B2) B2 hl hr2 (ev_op (ev_var rfl) ev_c (rv_ixL (sq_of hva2) (hL2.at_i (j := 0) hx0)))) fun H3 e3 => ?_
        obtain ⟨q, hq1, hq2⟩ := (hL2.ex e3).at_t (j := 1) (l := t) (by rw [hlv] <;> rfl)
        have hva3 := e3 _ _ hva2
        refine q_when (b := decide ((t.length : Int) ≤ m.rg r)) (et_test (ev_op (ev_var rfl) (ev_lenTI (ev_op (ev_var rfl) ev_c (rv_ixL (sq_of hva3) hq1)) hq2) rv_I0)) (fun hb H4 e4 => ?_) (fun hb H4 e4 => ?_)
        · rw [if_pos (of_decide_eq_true hb)] at k
          refine q_st (sB_status (s := .index) (B2.ex (e3.trans e4)) (fun H5 e5 => ev_var rfl) (eu_tup (ea_cons ev_c (ea_cons ev_c ea_nil)) (Nat.le_of_ble_eq_true rfl)) fun H5 B5 c5 => ?_)
          dsimp only
          refine s_ret (v := .int 0) ev_c fun H6 e6 => ?_
          exact k _ H6 (B5.ex e6) (((Chg.of ((e02.trans e3).trans e4)).trans c5).trans (Chg.of e6))
        · have hb := of_decide_eq_false hb
          refine s_asg (v := .int (gI t (m.rg r).toNat)) (ev_op (ev_op (ev_var rfl) ev_c (rv_ixL (sq_of (e4 _ _ hva3)) hq1)) (ev_var rfl) (rv_ixT (ex_t e4 hq2) (at_gI hv.1 (by omega)))) fun H5 e5 => ⟨gI t (m.rg r).toNat, _, rfl, ((e02.trans e3).trans e4).trans e5, ?_⟩
          rw [if_neg hb]
          rcases hc2 with rfl | rfl <;> rfl
    obtain ⟨g, u, rfl, e, hm⟩ := h
    rw [hm] at k
    generalize hcd : i.code = c at *
    have Be := B.ex e
    refine q_cut (M := fun σ2 H2 => ∃ m2 : UW.M, σ2 = [some (.ref b.b), some (.str (nm c)), some (.ref va), some (.int beh), some (.int g), u] ∧ BOk b H2 m2 ∧ Chg b.mut H H2 ∧ (if c = 25 ∨ c = 26 then enterM g beh m else { m with at_ := g }) = { m2 with at_ := g }) ?_ fun σ2 H2 h => ?_
    · refine s_when (b := decide (c = 25) || decide (c = 26)) (et_or (et_nmQ (d := 25) (ev_var rfl) hc3 (by decide) rfl rfl) fun _ => et_nmQ (d := 26) (ev_var rfl) hc3 (by decide) rfl rfl) (fun hb H1 e1 => ?_) (fun hb H1 e1 => ⟨m, rfl, Be.ex e1, Chg.of (e.trans e1), ?_⟩)
      · have hb : c = 25 ∨ c = 26 := by simpa using hb
        rw [if_pos hb] at k
        rw [if_pos hb]
        have B1 := Be.ex e1
        obtain ⟨wp, hw1, hw2⟩ := evB_waiting (td := tVar 0) (σ := ([some (.ref b.b), some (.str (nm c)), some (.ref va), some (.int beh), some (.int g), u] : L2.St)) (ev_var rfl) B1
        unfold enterM at k
        unfold enterM
        refine q_when (b := decide (m.wait.length = 64)) (et_is (et_test (ev_op (ev_lenI hw1 (sq_of hw2)) ev_c (rv_eqb rfl rfl))) (dec_nat _ 64)) (fun hb2 H3 e3 => ?_) (fun hb2 H3 e3 => ?_)
        · rw [if_pos (of_decide_eq_true hb2)] at k
          refine q_st (sB_status (s := .calls) (B1.ex e3) (fun H5 e5 => ev_var rfl) (eu_tup (ea_cons ev_c (ea_cons ev_c ea_nil)) (Nat.le_of_ble_eq_true rfl)) fun H5 B5 c5 => ?_)
          dsimp only
          refine s_ret (v := .int 0) ev_c fun H6 e6 => ?_
          exact k _ H6 (B5.ex e6) (((Chg.of ((e.trans e1).trans e3)).trans c5).trans (Chg.of e6))
        · rw [if_neg (of_decide_eq_false hb2)]
          have B3 := B1.ex e3
          obtain ⟨wp3, hw31, hw32⟩ := evB_waiting (td := tVar 0) (σ := ([some (.ref b.b), some (.str (nm c)), some (.ref va), some (.int beh), some (.int g), u] : L2.St)) (ev_var rfl) B3
          exact sB_waiting (l := m.wait ++ [beh]) B3 (fun H5 e5 => ev_var rfl) (el_is (el_catV hw31 hw32 (el_lst (ea_cons (ev_var rfl) ea_nil) (Nat.le_of_ble_eq_true rfl)) (by simp; omega)) (by rw [List.map_append] <;> rfl)) fun H5 B5 c5 => ⟨_, rfl, B5, (Chg.of ((e.trans e1).trans e3)).trans c5, rfl⟩
      · have hb : ¬ (c = 25 ∨ c = 26) := by simpa using hb
        rw [if_neg hb]
    obtain ⟨m2, rfl, B2, c2, hm2⟩ := h
    rw [hm2] at k
    refine q_st (sB_at (v := g) B2 (fun H3 e3 => ev_var rfl) (ev_var rfl) fun H3 B3 c3 => ?_)
    dsimp only
    refine s_ret (v := .int 1) ev_c fun H4 e4 => ?_
    exact k _ H4 (B3.ex e4) ((c2.trans c3).trans (Chg.of e4))
end

theorem dec_bl (x y : Bool) : decide (V.bl x = V.bl y) = (x == y) := by cases x <;> cases y <;> rfl
def isLG (c : Nat) : Bool := isGo c || isSh c
section
variable {P : Program} {w : World} {K : PySem.W.Frag} {mg : Str → Option Value} {base : Heap} {CI CM : Addr}
theorem ok_law_go (T : Txt K mg CI CM) : FnG P w K mg base "_law_go" 3 ["_law_box", "_law_name", "_law_values", "_law_behind"] (spLGo K isLG) := by
  refine fnG_of T.d_law_go sc_law_go (fun _ _ _ _ _ _ us hl => match us, hl with | [_, _, _, _], _ => rfl) (fun vs H Q E h => ?_) fun f cdv A outer s H vs Q E hr h => ?_
  · obtain ⟨b, m, n, i, va, xs, beh, rfl, _⟩ := h
    rfl
  · obtain ⟨b, m, n, i, va, xs, beh, rfl, hva, hvm, hL, ok, hc, B, W, k⟩ := h
    have nd := sc_law_go.nd
    have hu := hu_of hr
    refine ⟨_, (pss_cons (ps_set (i := 4) nd rfl (Or.inl rfl) (pe_dget hu (pv 0) pe_str (fun _ _ => rfl)))
      (pss_one (ps_if (PW.pt (pw_or (pt_cmpR op_eq (pv 1) pe_str (nomark _)) (pw_or1 (pt_cmpR op_eq (pv 1) pe_str (nomark _))))) (pss_cons (ps_set (i := 5) nd rfl (Or.inl rfl) (pe_op op_add (pe_dget hu (pv 0) pe_str (fun _ _ => rfl)) (pe_ix (ixl K) (pv 2) pe_int (fun _ _ => rfl))))
      (pss_cut (ps_if (pt_cmpR op_eq (pv 1) pe_str (nomark _)) (pss_one (ps_set (i := 5) nd rfl (Or.inl rfl) (pe_op op_sub (pe_dget hu (pv 0) pe_str (fun _ _ => rfl)) (pe_ix (ixl K) (pv 2) pe_int (fun _ _ => rfl))))) pss_nil)
      (pss_one (ps_if (pt_chain op_le op_le pe_int (pv 5) pe_int) (pss_cons (ps_dput hu (pv 0) pe_str (pv 5) rfl)
      (pss_one (ps_dput hu (pv 0) pe_str (pv 3) rfl))) (pss_one (ps_dput hu (pv 0) pe_str (pe_tup (pa_cons pe_str (pa_cons pe_str pa_nil))) rfl)))))) (pss_one (ps_if (PW.pt (pw_or (pt_cmpR op_eq (pv 1) pe_str (nomark _)) (pw_or1 (pt_cmpR op_eq (pv 1) pe_str (nomark _))))) (pss_cons (ps_dput hu (pv 0) pe_str (pv 3) rfl)
      (pss_one (ps_if (pt_cmpR op_eq (pe_cmpR op_eq (pe_ix (ixl K) (pv 4) (pe_ix (ixl K) (pv 2) pe_int (fun _ _ => rfl)) (fun _ _ => rfl)) pe_int (nomark _)) (pe_cmpR op_eq (pv 1) pe_str (nomark _)) (nomark _)) (pss_one (ps_dput hu (pv 0) pe_str (pe_ix (ixl K) (pv 2) pe_int (fun _ _ => rfl)) rfl)) pss_nil))) (pss_one (ps_if (pt_cmpR op_eq (pv 1) pe_str (nomark _)) (pss_one (ps_if (pt_cmpR op_eq (pe_callB (cr_len K) (by rfl) T.n_len (by decide +kernel) (pa_cons (pe_dget hu (pv 0) pe_str (fun _ _ => rfl)) pa_nil)) pe_int (nomark _)) (pss_one (ps_dput hu (pv 0) pe_str (pe_tup (pa_cons pe_str pa_nil)) rfl)) (pss_cons (ps_dput hu (pv 0) pe_str (pe_ix (ixl K) (pe_dget hu (pv 0) pe_str (fun _ _ => rfl)) (pe_un un_neg pe_int) (fun _ _ => rfl)) rfl)
      (pss_one (ps_dput hu (pv 0) pe_str (pe_slice (sll K) (pe_dget hu (pv 0) pe_str (fun _ _ => rfl)) po_none (po_some (pe_un un_neg pe_int))) rfl))))) (pss_one (ps_if (pt_cmpR op_eq (pv 1) pe_str (nomark _)) (pss_one (ps_dput hu (pv 0) pe_str (pe_tup (pa_cons pe_str pa_nil)) rfl)) (pss_one (ps_if (pt_cmpR op_eq (pv 1) pe_str (nomark _)) (pss_one (ps_dput hu (pv 0) pe_str (pe_tup (pa_cons pe_str (pa_cons (pe_ix (ixl K) (pv 2) pe_int (fun _ _ => rfl)) pa_nil))) rfl)) (pss_one (ps_expr (pe_fn (ok_law_goal T) (hr.mono (by decide)) (by rfl) (pa_cons (pv 0) (pa_cons (pv 1) (pa_cons (pv 2) (pa_cons (pv 3) pa_nil)))))))))))))))))), ?_⟩
    have hl := W.len
    have hc3 := (Ins.code_lt ok).2
    refine q_asg (v := .ref b.rg) (evB_regs (ev_var rfl) B) fun H1 e1 => ?_
    have B1 := B.ex e1
    have L1 := hL.ex e1
    have v1 := e1 _ _ hva
    generalize hcd : i.code = c at hc hc3 k
    have nop : ∀ c' r s, i = .op c' r s → False := fun c' r s z => by
      subst z
      obtain rfl : c' = c := hcd
      have : ∀ c, 3 ≤ c ∧ c ≤ 13 → c < 32 → ¬ isLG c = true := by
        intro c a b
        have : ∀ c, c < 32 → 3 ≤ c ∧ c ≤ 13 → ¬ isLG c = true := by decide
        exact this c b a
      exact this c' ok.1 hc3 hc
    refine s_if (b := decide (c = 19) || decide (c = 20)) (et_or (et_nmQ (d := 19) (ev_var rfl) hc3 (by decide) rfl rfl) fun _ => et_nmQ (d := 20) (ev_var rfl) hc3 (by decide) rfl rfl) (fun hb H2 e2 => ?_) (fun hb H2 e2 => ?_)
    · have hb : c = 19 ∨ c = 20 := by simpa using hb
      have hx : ∃ x, i.lv[0]? = some (.i x) ∧ (movI i m = if c = 19 then m.sp - x else m.sp + x) := by
        cases i with
        | down x =>
          obtain rfl : 19 = c := hcd
          exact ⟨x, rfl, rfl⟩
        | up x =>
          obtain rfl : 20 = c := hcd
          exact ⟨x, rfl, rfl⟩
        | op c' r s => exact (nop c' r s rfl).elim
        | _ => exfalso; simp only [Ins.code] at hcd; omega
      obtain ⟨x, hx, hmv⟩ := hx
      have hsh : isSh c = true := by rcases hb with rfl | rfl <;> rfl
      rw [if_pos hsh] at k
      have B2 := B1.ex e2
      refine q_asg (v := .int (m.sp + x)) (ev_op (evB_sp (ev_var rfl) B2) (ev_op (ev_var rfl) ev_c (rv_ixL (sq_of (e2 _ _ v1)) ((L1.ex e2).at_i (j := 0) hx))) rv_I0) fun H3 e3 => ?_
      have e23 := e2.trans e3
      refine q_cut (M := fun σ' H' => σ' = [some (.ref b.b), some (.str (nm c)), some (.ref va), some (.int beh), some (.ref b.rg), some (.int (movI i m))] ∧ Ex H1 H') ?_ fun σ' H' h => ?_
      · refine s_when (b := decide (c = 19)) (et_nmQ (d := 19) (ev_var rfl) hc3 (by decide) rfl rfl) (fun hb2 H4 e4 => ?_) (fun hb2 H4 e4 => ⟨?_, e23.trans e4⟩)
        · have e24 := e23.trans e4
          refine s_asg (v := .int (m.sp - x)) (ev_op (evB_sp (ev_var rfl) (B1.ex e24)) (ev_op (ev_var rfl) ev_c (rv_ixL (sq_of (e24 _ _ v1)) ((L1.ex e24).at_i (j := 0) hx))) rv_I0) fun H5 e5 => ⟨?_, e24.trans e5⟩
          rw [hmv, if_pos (of_decide_eq_true hb2)] <;> rfl
        · rw [hmv, if_neg (of_decide_eq_false hb2)] <;> rfl
      obtain ⟨rfl, e⟩ := h
      have B4 := B1.ex e
      unfold shM at k
      refine s_if (b := decide (64512 ≤ movI i m) && decide (movI i m ≤ 65536)) (et_test (ev_chain ev_c (ev_var rfl) rv_I0 ev_c rv_I0)) (fun hb3 H5 e5 => ?_) (fun hb3 H5 e5 => ?_)
      · have hb3 : 64512 ≤ movI i m ∧ movI i m ≤ 65536 := by simpa using hb3
        rw [if_neg (by omega)] at k
        refine q_st (sB_sp (v := movI i m) (B4.ex e5) (fun H6 e6 => ev_var rfl) (ev_var rfl) fun H6 B6 c6 => ?_)
        exact sB_at (v := beh) B6 (fun H7 e7 => ev_var rfl) (ev_var rfl) fun H7 B7 c7 => k _ H7 B7 (((Chg.of ((e1.trans e).trans e5)).trans c6).trans c7)
      · have hb3 : ¬ (64512 ≤ movI i m ∧ movI i m ≤ 65536) := by
          intro z
          rw [decide_eq_true z.1, decide_eq_true z.2] at hb3
          cases hb3
        rw [if_pos (by omega)] at k
        exact sB_status (s := .stack) (B4.ex e5) (fun H6 e6 => ev_var rfl) (eu_tup (ea_cons ev_c (ea_cons ev_c ea_nil)) (Nat.le_of_ble_eq_true rfl)) fun H6 B6 c6 => k _ H6 B6 ((Chg.of ((e1.trans e).trans e5)).trans c6)
    have hb19 : ¬ (c = 19 ∨ c = 20) := by
      intro z
      rcases z with z | z
      · rw [decide_eq_true z] at hb; cases hb
      · rw [decide_eq_true z, Bool.or_true] at hb; cases hb
    have hsh : isSh c = false := by
      have : ∀ c, c < 32 → ¬ (c = 19 ∨ c = 20) → isSh c = false := by decide
      exact this c hc3 hb19
    rw [hsh, if_neg (by decide)] at k
    replace B1 := B1.ex e2
    replace L1 := L1.ex e2
    replace v1 := e2 _ _ v1
    replace e1 := e1.trans e2
    clear e2
    refine s_if (b := decide (c = 22) || decide (c = 23)) (et_or (et_nmQ (d := 22) (ev_var rfl) hc3 (by decide) rfl rfl) fun _ => et_nmQ (d := 23) (ev_var rfl) hc3 (by decide) rfl rfl) (fun hb H3 e2 => ?_) (fun hb H3 e2 => ?_)
    · have hb : c = 22 ∨ c = 23 := by simpa using hb
      have hx : ∃ r g, i.lv = [.i r, .i g] ∧ Rg r ∧ goM i beh m = { m with at_ := if (decide (m.rg r = 0) == decide (c = 22)) = true then g else beh } := by
        cases i with
        | zero r g =>
          obtain rfl : 22 = c := hcd
          refine ⟨r, g, rfl, ok.1, ?_⟩
          rw [goM_zero]
          by_cases z : m.rg r = 0
          · rw [if_pos z, if_pos (by rw [decide_eq_true z] <;> rfl)]
          · rw [if_neg z, if_neg (by rw [decide_eq_false z] <;> decide)]
        | nonzero r g =>
          obtain rfl : 23 = c := hcd
          refine ⟨r, g, rfl, ok.1, ?_⟩
          rw [goM_nonzero]
          by_cases z : m.rg r = 0
          · rw [if_pos z, if_neg (by rw [decide_eq_true z] <;> decide)]
          · rw [if_neg z, if_pos (by rw [decide_eq_false z] <;> rfl)]
        | op c' r s => exact (nop c' r s rfl).elim
        | _ => exfalso; simp only [Ins.code] at hcd; omega
      obtain ⟨r, g, hlv, hr2, hg⟩ := hx
      rw [hg] at k
      refine q_st (sB_at (v := beh) (B1.ex e2) (fun H4 e4 => ev_var rfl) (ev_var rfl) fun H4 B4 c4 => ?_)
      have hvr : ∀ {H1 H2 : Hp}, Chg b.mut H1 H2 → H1 va = some (.lst xs) → H2 va = some (.lst xs) := fun c h => c.keep _ _ h hvm
      have v4 := hvr c4 (e2 _ _ v1)
      have a0 : atI xs 0 = some (.int r) := hL.at_i (j := 0) (by rw [hlv] <;> rfl)
      have a1 : atI xs 1 = some (.int g) := hL.at_i (j := 1) (by rw [hlv] <;> rfl)
      have c04 : Chg b.mut H H4 := (Chg.of (e1.trans e2)).trans c4
      refine s_when (b := decide (m.rg r = 0) == decide (c = 22)) (et_test (ev_op (ev_op (evBR (m := { m with at_ := beh }) (ev_var rfl) B4 hl hr2 (ev_op (ev_var rfl) ev_c (rv_ixL (sq_of v4) a0))) ev_c (rv_eqb rfl (dec_int0 _))) (ev_nmQ (d := 22) (ev_var rfl) hc3 (by decide) rfl rfl) (rv_eqb rfl (dec_bl _ _)))) (fun hb2 H5 e5 => ?_) (fun hb2 H5 e5 => ?_)
      · refine sB_at (v := g) (B4.ex e5) (fun H6 e6 => ev_var rfl) (ev_op (ev_var rfl) ev_c (rv_ixL (sq_of (e5 _ _ v4)) a1)) fun H6 B6 c6 => k _ H6 ?_ ((c04.trans (Chg.of e5)).trans c6)
        rw [if_pos hb2]
        exact B6
      · refine k _ H5 ?_ (c04.trans (Chg.of e5))
        rw [if_neg (by rw [hb2]; decide)]
        exact B4.ex e5
    have hb22 : ¬ (c = 22 ∨ c = 23) := by
      intro z
      rcases z with z | z
      · rw [decide_eq_true z] at hb; cases hb
      · rw [decide_eq_true z, Bool.or_true] at hb; cases hb
    replace B1 := B1.ex e2
    replace L1 := L1.ex e2
    replace v1 := e2 _ _ v1
    replace e1 := e1.trans e2
    clear e2
    refine s_if (b := decide (c = 27)) (et_nmQ (d := 27) (ev_var rfl) hc3 (by decide) rfl rfl) (fun hb H4 e2 => ?_) (fun hb H4 e2 => ?_)
    · have hb := of_decide_eq_true hb
      cases i with
      | back =>
        rw [goM_back] at k
        have B2 := B1.ex e2
        obtain ⟨wp, hw1, hw2⟩ := evB_waiting (td := tVar 0) (σ := ((start nm_law_go [.ref b.b, .str (nm c), .ref va, .int beh]).set 4 (some (.ref b.rg)))) (ev_var rfl) B2
        refine s_if (b := decide (m.wait.length = 0)) (et_is (et_test (ev_op (ev_lenI hw1 (sq_of hw2)) ev_c (rv_eqb rfl rfl))) (dec_nat _ 0)) (fun hb2 H5 e5 => ?_) (fun hb2 H5 e5 => ?_)
        · have hb2 := of_decide_eq_true hb2
          rw [if_pos (List.eq_nil_of_length_eq_zero hb2)] at k
          exact sB_status (s := .ended) (B2.ex e5) (fun H6 e6 => ev_var rfl) (eu_tup (ea_cons ev_c ea_nil) (Nat.le_of_ble_eq_true rfl)) fun H6 B6 c6 => k _ H6 B6 ((Chg.of ((e1.trans e2).trans e5)).trans c6)
        · have hb2 : ¬ m.wait = [] := fun z => by rw [z] at hb2; cases hb2
          rw [if_neg hb2] at k
          have B5 := B2.ex e5
          obtain ⟨wp5, hw51, hw52⟩ := evB_waiting (td := tVar 0) (σ := ((start nm_law_go [.ref b.b, .str (nm c), .ref va, .int beh]).set 4 (some (.ref b.rg)))) (ev_var rfl) B5
          refine q_st (sB_at (v := m.wait.getLastD 0) B5 (fun H6 e6 => ev_var rfl) (ev_op hw51 (ev_unN ev_c) (rv_ixL (sq_of hw52) (at_last hb2))) fun H6 B6 c6 => ?_)
          obtain ⟨wp6, hw61, hw62⟩ := evB_waiting (td := tVar 0) (σ := ((start nm_law_go [.ref b.b, .str (nm c), .ref va, .int beh]).set 4 (some (.ref b.rg)))) (ev_var rfl) B6
          exact sB_waiting (l := m.wait.dropLast) B6 (fun H7 e7 => ev_var rfl) (el_is (el_sl hw61 eo_none (eo_some (ev_unN ev_c)) (sq_of hw62)) (cut_last _)) fun H7 B7 c7 => k _ H7 B7 (((Chg.of ((e1.trans e2).trans e5)).trans c6).trans c7)
      | op c' r s => exact (nop c' r s rfl).elim
      | _ => exact absurd hb (by rw [← hcd]; intro z; cases z)
    have hb27 := of_decide_eq_false hb
    replace B1 := B1.ex e2
    replace L1 := L1.ex e2
    replace v1 := e2 _ _ v1
    replace e1 := e1.trans e2
    clear e2
    refine s_if (b := decide (c = 30)) (et_nmQ (d := 30) (ev_var rfl) hc3 (by decide) rfl rfl) (fun hb H5 e2 => ?_) (fun hb H5 e2 => ?_)
    · have hb := of_decide_eq_true hb
      cases i with
      | halt => exact sB_status (s := .halted) (B1.ex e2) (fun H6 e6 => ev_var rfl) (eu_tup (ea_cons ev_c ea_nil) (Nat.le_of_ble_eq_true rfl)) fun H6 B6 c6 => k _ H6 B6 ((Chg.of (e1.trans e2)).trans c6)
      | op c' r s => exact (nop c' r s rfl).elim
      | _ => exact absurd hb (by rw [← hcd]; intro z; cases z)
    have hb30 := of_decide_eq_false hb
    replace B1 := B1.ex e2
    replace L1 := L1.ex e2
    replace v1 := e2 _ _ v1
    replace e1 := e1.trans e2
    clear e2
    refine s_if (b := decide (c = 31)) (et_nmQ (d := 31) (ev_var rfl) hc3 (by decide) rfl rfl) (fun hb H6 e2 => ?_) (fun hb H6 e2 => ?_)
    · have hb := of_decide_eq_true hb
      cases i with
      | trap x => exact sB_status (s := .num x) (B1.ex e2) (fun H6 e6 => ev_var rfl) (eu_tup (ea_cons ev_c (ea_cons (ev_op (ev_var rfl) ev_c (rv_ixL (sq_of (e2 _ _ v1)) (hL.at_i (j := 0) rfl))) ea_nil)) (Nat.le_of_ble_eq_true rfl)) fun H6 B6 c6 => k _ H6 B6 ((Chg.of (e1.trans e2)).trans c6)
      | op c' r s => exact (nop c' r s rfl).elim
      | _ => exact absurd hb (by rw [← hcd]; intro z; cases z)
    have hb31 := of_decide_eq_false hb
    replace B1 := B1.ex e2
    replace L1 := L1.ex e2
    replace v1 := e2 _ _ v1
    replace e1 := e1.trans e2
    clear e2
    refine s_callf (ea_cons (ev_var rfl) (ea_cons (ev_var rfl) (ea_cons (ev_var rfl) (ea_cons (ev_var rfl) ea_nil)))) fun H7 e7 => ⟨b, m, n, i, va, xs, beh, ?_, e7 _ _ v1, hvm, L1.ex e7, ok, ?_, B1.ex e7, W, fun v H8 B8 c8 => k _ H8 ?_ ((Chg.of (e1.trans e7)).trans c8)⟩
    · rw [hcd] <;> rfl
    · rw [hcd]
      have : ∀ c, c < 32 → isLG c = true → isGl c = true ∨ c ∈ [19, 20, 22, 23, 27, 30, 31] := by decide
      rcases this c hc3 hc with z | z
      · exact z
      · exfalso
        simp only [List.mem_cons, List.not_mem_nil, or_false] at z
        omega
    · rw [hcd, hsh, if_neg (by decide)] at B8
      exact B8
end

section
variable (da : Addr) (at_ : Int) (rg wo ip wa ou st : Addr)
theorem st_merge : mergeK [] ([((Sum.inr "data" : Key), V.ref da), ((Sum.inr "at" : Key), V.int at_), ((Sum.inr "sp" : Key), V.int 65536), ((Sum.inr "regs" : Key), V.ref rg), ((Sum.inr "words" : Key), V.ref wo)] : List (Key × V)) = [((Sum.inr "data" : Key), V.ref da), ((Sum.inr "at" : Key), V.int at_), ((Sum.inr "sp" : Key), V.int 65536), ((Sum.inr "regs" : Key), V.ref rg), ((Sum.inr "words" : Key), V.ref wo)] := by kernel_rfl
theorem st_p6 : putK ([((Sum.inr "data" : Key), V.ref da), ((Sum.inr "at" : Key), V.int at_), ((Sum.inr "sp" : Key), V.int 65536), ((Sum.inr "regs" : Key), V.ref rg), ((Sum.inr "words" : Key), V.ref wo)] : List (Key × V)) (Sum.inr "inputs" : Key) (V.ref ip) = [((Sum.inr "data" : Key), V.ref da), ((Sum.inr "at" : Key), V.int at_), ((Sum.inr "sp" : Key), V.int 65536), ((Sum.inr "regs" : Key), V.ref rg), ((Sum.inr "words" : Key), V.ref wo), ((Sum.inr "inputs" : Key), V.ref ip)] := by kernel_rfl
theorem st_p7 : putK ([((Sum.inr "data" : Key), V.ref da), ((Sum.inr "at" : Key), V.int at_), ((Sum.inr "sp" : Key), V.int 65536), ((Sum.inr "regs" : Key), V.ref rg), ((Sum.inr "words" : Key), V.ref wo), ((Sum.inr "inputs" : Key), V.ref ip)] : List (Key × V)) (Sum.inr "waiting" : Key) (V.ref wa) = [((Sum.inr "data" : Key), V.ref da), ((Sum.inr "at" : Key), V.int at_), ((Sum.inr "sp" : Key), V.int 65536), ((Sum.inr "regs" : Key), V.ref rg), ((Sum.inr "words" : Key), V.ref wo), ((Sum.inr "inputs" : Key), V.ref ip), ((Sum.inr "waiting" : Key), V.ref wa)] := by kernel_rfl
theorem st_p8 : putK ([((Sum.inr "data" : Key), V.ref da), ((Sum.inr "at" : Key), V.int at_), ((Sum.inr "sp" : Key), V.int 65536), ((Sum.inr "regs" : Key), V.ref rg), ((Sum.inr "words" : Key), V.ref wo), ((Sum.inr "inputs" : Key), V.ref ip), ((Sum.inr "waiting" : Key), V.ref wa)] : List (Key × V)) (Sum.inr "out" : Key) (V.ref ou) = [((Sum.inr "data" : Key), V.ref da), ((Sum.inr "at" : Key), V.int at_), ((Sum.inr "sp" : Key), V.int 65536), ((Sum.inr "regs" : Key), V.ref rg), ((Sum.inr "words" : Key), V.ref wo), ((Sum.inr "inputs" : Key), V.ref ip), ((Sum.inr "waiting" : Key), V.ref wa), ((Sum.inr "out" : Key), V.ref ou)] := by kernel_rfl
theorem st_p9 : putK ([((Sum.inr "data" : Key), V.ref da), ((Sum.inr "at" : Key), V.int at_), ((Sum.inr "sp" : Key), V.int 65536), ((Sum.inr "regs" : Key), V.ref rg), ((Sum.inr "words" : Key), V.ref wo), ((Sum.inr "inputs" : Key), V.ref ip), ((Sum.inr "waiting" : Key), V.ref wa), ((Sum.inr "out" : Key), V.ref ou)] : List (Key × V)) (Sum.inr "status" : Key) (V.ref st) = bx da at_ 65536 rg wo ip wa ou st := by kernel_rfl
end
theorem BOk.n' {b : BA} {H : Hp} {m : M} (h : BOk b H m) (k : Int) : BOk b H { m with n := k } := ⟨h.ob, h.da, h.by_, h.rg, h.wo, h.dr, h.bw, h.nav, h.al⟩
def spLStep : Sp := fun vs H Q _ => ∃ (b : BA) (m : M) (n : Nat), vs = [.ref b.b] ∧ BOk b H m ∧ m.Wf n ∧ n ≤ 5000 ∧ RetB b (stepM b.d m) H Q
def spLRun : Sp := fun vs H Q _ => ∃ (b : BA) (m : M) (w n : Nat), vs = [.ref b.b, .int (n : Int)] ∧ BOk b H m ∧ m.Wf w ∧ w + n ≤ 5000 ∧ ∀ H', BOk b H' (runM b.d n m) → Chg b.mut H H' → Q (.int (madeM b.d n m)) H'
def spLStart : Sp := fun vs H Q _ => ∃ (da rg me ip : Addr) (d : List Int) (ent : Int) (regs : List Int) (as : List Addr) (ps : List (Int × Int)) (inp : List Int) (av : List Addr), vs = [.ref da, .int ent, .ref rg, .ref me, .ref ip] ∧
  H da = some (.lst (d.map V.int)) ∧ Bytes d ∧ H rg = some (.lst (regs.map V.int)) ∧ H me = some (.lst (as.map V.ref)) ∧ PrsAt H as ps ∧ ps.length ≤ 100 ∧ H ip = some (.lst (inp.map V.int)) ∧ da ∉ av ∧ (∀ x ∈ av, H x ≠ none) ∧
  ∀ H' (b : BA), b.da = da → b.d = d → b.av = av → (∀ x ∈ b.mut, H x = none) → BOk b H' (initM ent regs ps inp) → Ex H H' → Q (.ref b.b) H'
theorem sp_ldec {K : PySem.W.Frag} {da : Addr} {d : List Int} {a : Int} {H : Hp} (h : SqL K H da (d.map V.int)) (hB : Bytes d) (h0 : 0 ≤ a) : SpP (spLdec K) ([.ref da, .int a] ++ []) H (fun v H2 => ∃ H1, Ex H H1 ∧ LdV K H1 H2 v a (dec (d.drop a.toNat))) := fun H1 e Q q E => ⟨da, d, a, rfl, ex_l e h, hB, h0, fun v H2 e2 hv => q v H2 e2 ⟨H1, e, hv⟩⟩
section
variable {P : Program} {w : World} {K : PySem.W.Frag} {mg : Str → Option Value} {base : Heap} {CI CM : Addr}
theorem ok_law_step (T : Txt K mg CI CM) : FnG P w K mg base "_law_step" 4 ["_law_box"] spLStep := by
  refine fnG_of T.d_law_step sc_law_step (fun _ _ _ _ _ _ us hl => match us, hl with | [_], _ => rfl) (fun vs H Q E h => ?_) fun f cdv A outer s H vs Q E hr h => ?_
  · obtain ⟨b, m, n, rfl, _⟩ := h
    rfl
  · obtain ⟨b, m, n, rfl, B, W, hn, k⟩ := h
    have nd := sc_law_step.nd
    have hu := hu_of hr
    refine ⟨_, (pss_cons (ps_set (i := 1) nd rfl (Or.inl rfl) (pe_fn (ok_law_decode T) (hr.mono (by decide)) (by rfl) (pa_cons (pe_dget hu (pv 0) pe_str (fun _ _ => rfl)) (pa_cons (pe_dget hu (pv 0) pe_str (fun _ _ => rfl)) pa_nil))))
      (pss_cons (ps_if (pt_cmpR op_isN1 (pv 1) pe_non (nomark _)) (pss_cons (ps_dput hu (pv 0) pe_str (pe_tup (pa_cons pe_str (pa_cons pe_str pa_nil))) rfl)
      (pss_one (ps_ret pe_int))) pss_nil)
      (pss_cons (ps_set (i := 2) nd rfl (Or.inl rfl) (pe_ix (ixl K) (pv 1) pe_int (fun _ _ => rfl)))
      (pss_cons (ps_set (i := 3) nd rfl (Or.inl rfl) (pe_ix (ixl K) (pv 1) pe_int (fun _ _ => rfl)))
      (pss_cons (ps_if (pt_cmpR (o_in K) (pv 2) (pe_lst (pa_cons pe_str (pa_cons pe_str (pa_cons pe_str (pa_cons pe_str (pa_cons pe_str (pa_cons pe_str (pa_cons pe_str (pa_cons pe_str (pa_cons pe_str (pa_cons pe_str (pa_cons pe_str pa_nil)))))))))))) (by rfl)) (pss_cons (ps_expr (pe_fn (ok_law_go T) (hr.mono (by decide)) (by rfl) (pa_cons (pv 0) (pa_cons (pv 2) (pa_cons (pv 3) (pa_cons (pe_ix (ixl K) (pv 1) pe_int (fun _ _ => rfl)) pa_nil))))))
      (pss_one (ps_ret pe_int))) pss_nil)
      (pss_cons (ps_expr (pe_fn (ok_law_work T) (hr.mono (by decide)) (by rfl) (pa_cons (pv 0) (pa_cons (pv 2) (pa_cons (pv 3) pa_nil)))))
      (pss_cons (ps_dput hu (pv 0) pe_str (pe_ix (ixl K) (pv 1) pe_int (fun _ _ => rfl)) rfl)
      (pss_one (ps_ret pe_int))))))))), ?_⟩
    have h0 : 0 ≤ m.at_ := W.at_
    have hs : ∃ m1 : UW.M, ({ m with n := m.n + 1 } : UW.M) = m1 ∧ stepM b.d m = (match dec (b.d.drop m1.at_.toNat) with
      | none => { m1 with st := .code }
      | some (i, z) => exM i (m1.at_ + z) m1) := ⟨_, rfl, rfl⟩
    obtain ⟨m1, hm, hs⟩ := hs
    replace B := B.n' (m.n + 1)
    replace W : ({ m with n := m.n + 1 } : UW.M).Wf n := W.n'
    rw [hm] at B W
    replace h0 : 0 ≤ m1.at_ := W.at_
    rw [hs] at k
    refine q_asgP (evp_call (vs := [.ref b.da, .int m1.at_]) (ea_cons (evB_data (ev_var rfl) B) (ea_cons (evB_at (ev_var rfl) B) ea_nil)) (sp_ldec (K := K) (sq_of B.da) B.by_ h0)) fun v H1 e1 hv => ?_
    obtain ⟨H01, e01, hv⟩ := hv
    have B1 := B.ex e1
    cases o : dec (b.d.drop m1.at_.toNat) with
    | none =>
      rw [o] at hv k
      obtain rfl : v = .non := hv
      refine q_when (b := true) (et_test (ev_op (ev_var rfl) ev_c (rv_isNb rfl))) (fun _ H2 e2 => ?_) (fun z => by cases z)
      refine q_st (sB_status (s := .code) (B1.ex e2) (fun H3 e3 => ev_var rfl) (eu_tup (ea_cons ev_c (ea_cons ev_c ea_nil)) (Nat.le_of_ble_eq_true rfl)) fun H3 B3 c3 => ?_)
      dsimp only
      refine s_ret (v := .int 0) ev_c fun H4 e4 => ?_
      exact k _ H4 (B3.ex e4) (((Chg.of (e1.trans e2)).trans c3).trans (Chg.of e4))
    | some x =>
      obtain ⟨i, z⟩ := x
      obtain ⟨ok, _, _⟩ := dec_ok (bytes_drop B.by_ _) o
      have hc3 := (Ins.code_lt ok).2
      rw [o] at hv k
      obtain ⟨p, av, xs, rfl, hp0, hav0, hp, hav, hL⟩ := hv
      have bm : ∀ x ∈ b.mut, H x ≠ none := fun x hx q => by
        obtain ⟨_, _, _, _, g, _⟩ := B.ob
        simp only [BA.mut, List.mem_cons, List.not_mem_nil, or_false] at hx
        rcases hx with rfl | rfl | rfl
        · rw [g] at q; cases q
        · rw [B.rg] at q; cases q
        · rw [B.wo] at q; cases q
      have pm : p ∉ b.mut := fun q => bm p q (fresh_back e01 hp0)
      have am : av ∉ b.mut := fun q => bm av q (fresh_back e01 hav0)
      refine q_when (b := false) (et_test (ev_op (ev_var rfl) ev_c (rv_isNb rfl))) (fun z => by cases z) (fun _ H2 e2 => ?_)
      have hp2 := e2 _ _ hp
      refine q_asg (v := .str (nm i.code)) (ev_op (ev_var rfl) ev_c (rv_ixL (sq_of hp2) rfl)) fun H3 e3 => ?_
      have hp3 := e3 _ _ hp2
      refine q_asg (v := .ref av) (ev_op (ev_var rfl) ev_c (rv_ixL (sq_of hp3) rfl)) fun H4 e4 => ?_
      have hp4 := e4 _ _ hp3
      have e14 := (e2.trans e3).trans e4
      have e04 := e1.trans e14
      have B4 := B.ex e04
      have hav4 := e14 _ _ hav
      have hL4 := hL.ex e14
      simp only [exM] at k
      have hmem : decide (i.code ∈ [21, 22, 23, 24, 25, 26, 27, 30, 31, 19, 20]) = isLG i.code := by
        have : ∀ c, c < 32 → decide (c ∈ [21, 22, 23, 24, 25, 26, 27, 30, 31, 19, 20]) = isLG c := by decide
        exact this _ hc3
      refine q_when (b := isLG i.code) (et_nmI [21, 22, 23, 24, 25, 26, 27, 30, 31, 19, 20] (et_test (ev_inL (ev_var rfl) (el_lst (ea_cons ev_c (ea_cons ev_c (ea_cons ev_c (ea_cons ev_c (ea_cons ev_c (ea_cons ev_c (ea_cons ev_c (ea_cons ev_c (ea_cons ev_c (ea_cons ev_c (ea_cons ev_c ea_nil))))))))))) (Nat.le_of_ble_eq_true rfl)) rfl rfl)) hc3 (by decide) hmem) (fun hb H5 e5 => ?_) (fun hb H5 e5 => ?_)
      · refine q_st (s_callf (ea_cons (ev_var rfl) (ea_cons (ev_var rfl) (ea_cons (ev_var rfl) (ea_cons (ev_op (ev_var rfl) ev_c (rv_ixL (sq_of (e5 _ _ hp4)) rfl)) ea_nil)))) fun H6 e6 => ⟨b, m1, n, i, av, xs, _, rfl, (e5.trans e6) _ _ hav4, am, hL4.ex (e5.trans e6), ok, hb, B4.ex (e5.trans e6), W, fun v H7 B7 c7 => ?_⟩)
        dsimp only
        refine s_ret (v := .int 1) ev_c fun H8 e8 => ?_
        refine k _ H8 ?_ (((Chg.of (e04.trans (e5.trans e6))).trans c7).trans (Chg.of e8))
        refine BOk.ex ?_ e8
        have hx : (isGo i.code = true ∧ isSh i.code = false) ∨ (isGo i.code = false ∧ isSh i.code = true) := by
          have : ∀ c, c < 32 → isLG c = true → (isGo c = true ∧ isSh c = false) ∨ (isGo c = false ∧ isSh c = true) := by decide
          exact this _ hc3 hb
        rcases hx with ⟨h1, h2⟩ | ⟨h1, h2⟩
        · rw [h1, if_pos rfl]
          rw [h2, if_neg (by decide)] at B7
          exact B7
        · rw [h1, h2, if_neg (by decide), if_pos rfl]
          rw [h2, if_pos rfl] at B7
          exact B7
      · have h12 : isGo i.code = false ∧ isSh i.code = false := by
          unfold isLG at hb
          exact Bool.or_eq_false_iff.mp hb
        rw [h12.1, h12.2, if_neg (by decide), if_neg (by decide)] at k
        have hco : isAc i.code = true ∨ isCo i.code = true := by
          have h1 := (Ins.code_lt ok).1
          have : ∀ c, c < 32 → 1 ≤ c → isLG c = false → isAc c = true ∨ isCo c = true := by decide
          exact this _ hc3 h1 hb
        refine q_st (s_callf (ea_cons (ev_var rfl) (ea_cons (ev_var rfl) (ea_cons (ev_var rfl) ea_nil))) fun H6 e6 => ⟨b, m1, n, i, av, xs, rfl, (e5.trans e6) _ _ hav4, am, hL4.ex (e5.trans e6), ok, hco, B4.ex (e5.trans e6), W, hn, fun v H7 B7 c7 => ?_⟩)
        have hp7 := c7.keep _ _ ((e5.trans e6) _ _ hp4) pm
        refine q_st (sB_at (v := m1.at_ + z) B7 (fun H8 e8 => ev_var rfl) (ev_op (ev_var rfl) ev_c (rv_ixL (sq_of hp7) rfl)) fun H8 B8 c8 => ?_)
        dsimp only
        refine s_ret (v := .int 1) ev_c fun H9 e9 => ?_
        refine k _ H9 ?_ ((((Chg.of (e04.trans (e5.trans e6))).trans c7).trans c8).trans (Chg.of e9))
        refine BOk.ex ?_ e9
        cases hac : isAc i.code with
        | true =>
          rw [if_pos rfl]
          rw [hac, if_pos rfl] at B8
          exact B8
        | false =>
          rw [if_neg (by decide)]
          rw [hac, if_neg (by decide)] at B8
          exact B8
theorem ok_law_run (T : Txt K mg CI CM) : FnG P w K mg base "_law_run" 5 ["_law_box", "_law_steps"] spLRun := by
  refine fnG_of T.d_law_run sc_law_run (fun _ _ _ _ _ _ us hl => match us, hl with | [_, _], _ => rfl) (fun vs H Q E h => ?_) fun f cdv A outer s H vs Q E hr h => ?_
  · obtain ⟨b, m, wn, n, rfl, _⟩ := h
    rfl
  · obtain ⟨b, m, wn, n, rfl, B, W, hn, k⟩ := h
    have nd := sc_law_run.nd
    have hu := hu_of hr
    refine ⟨_, (pss_cons (ps_set (i := 2) nd rfl (Or.inl rfl) pe_int)
      (pss_cons (ps_for PassesOwn.never rfl (pi_range1 (by rfl) T.n_range (pa_cons (pv 1) pa_nil)) (pg_name (i := 3) nd rfl (Or.inl rfl)) (pss_one (ps_if (pt_cmpR (o_eqD K hr.units) (pe_dget hu (pv 0) pe_str (fun _ _ => rfl)) (pe_tup (pa_cons pe_str pa_nil)) (nomark _)) (pss_cons (ps_expr (pe_fn (ok_law_step T) (hr.mono (by decide)) (by rfl) (pa_cons (pv 0) pa_nil)))
      (pss_one (ps_set (i := 2) nd rfl (Or.inl rfl) (pe_op op_add (pv 2) pe_int)))) pss_nil)))
      (pss_one (ps_ret (pv 2))))), ?_⟩
    refine q_asg (v := .int 0) ev_c fun H1 e1 => ?_
    refine q_forR1 (n := (n : Int)) (ea_cons (ev_var rfl) ea_nil) (by omega) (fun i σ' H' => ∃ (m' : UW.M) (made : Nat) (u : Option V), σ' = [some (.ref b.b), some (.int (n : Int)), some (.int (made : Int)), u] ∧ BOk b H' m' ∧ Chg b.mut H H' ∧ m'.Wf (wn + i) ∧ runM b.d n m = runM b.d (n - i) m' ∧ madeM b.d n m = made + madeM b.d (n - i) m')
      (fun H2 e2 => ⟨m, 0, none, rfl, B.ex (e1.trans e2), Chg.of (e1.trans e2), W, rfl, by rw [Nat.sub_zero, Nat.zero_add]⟩) (fun i σ' H' hi hp => ?_) (fun σ' H' hp => ?_)
    · obtain ⟨m', made, u, rfl, B', c', W', h1, h2⟩ := hp
      have hin : n - i = (n - (i + 1)) + 1 := by omega
      obtain ⟨sp, hs1, hs2⟩ := evB_status (td := tVar 0) (σ := (([some (.ref b.b), some (.int (n : Int)), some (.int (made : Int)), u] : L2.St).set 3 (some (.int (i : Int))))) (ev_var rfl) B'
      refine s_when (b := decide (m'.st = .run)) (et_test (ev_sta hs1 hs2)) (fun hb H2 e2 => ?_) (fun hb H2 e2 => ?_)
      · have hb := of_decide_eq_true hb
        refine q_st (s_callf (ea_cons (ev_var rfl) ea_nil) fun H3 e3 => ⟨b, m', wn + i, rfl, B'.ex (e2.trans e3), W', by omega, fun v H4 B4 c4 => ?_⟩)
        dsimp only
        refine s_asg (v := .int ((made + 1 : Nat) : Int)) (ev_op (ev_var rfl) ev_c rv_I0) fun H5 e5 => ⟨stepM b.d m', made + 1, _, rfl, B4.ex e5, (((c'.trans (Chg.of (e2.trans e3))).trans c4).trans (Chg.of e5)), stepM_wf B'.by_ W', ?_, ?_⟩
        · rw [h1, hin, runM, if_pos hb]
        · rw [h2, hin, madeM, if_pos hb]
          omega
      · have hb := of_decide_eq_false hb
        refine ⟨m', made, _, rfl, B'.ex e2, c'.trans (Chg.of e2), W'.mono (by omega), ?_, ?_⟩
        · rw [h1, runM_stop _ _ _ hb, runM_stop _ _ _ hb]
        · rw [h2, madeM_stop _ _ _ hb, madeM_stop _ _ _ hb]
    · obtain ⟨m', made, u, rfl, B', c', W', h1, h2⟩ := hp
      have hz : n - (n : Int).toNat = 0 := by omega
      rw [hz] at h1 h2
      rw [h1, h2] at k
      exact s_ret (v := .int (made : Int)) (ev_var rfl) fun H2 e2 => k H2 (B'.ex e2) (c'.trans (Chg.of e2))
end

theorem ex_chg {H0 H H' : Hp} {b : Addr} (e : Ex H0 H) (c : Chg [b] H H') (h : H0 b = none) : Ex H0 H' := fun x o hx => c.keep x o (e x o hx) (by simpa using fun z => by rw [z, h] at hx; cases hx)
/-- a dict's key gets something new -/
theorem dput_new {σ : L2.St} {H : Hp} {td ty te : TE} {D : Ends} {tz : TS} {b : Addr} {o : HO} {kvs : List (Key × V)} {kvs' : Addr → List (Key × V)} {kk : Key} (hv : EvP te σ H (fun v H1 => ∃ p, v = .ref p ∧ H p = none ∧ H1 p = some o)) (hd : ∀ H1, Ex H H1 → Ev td σ H1 (.ref b)) (hk : ∀ H1, Ex H H1 → Ev ty σ H1 (kV kk)) (hb : H b = some (.dK kvs)) (hz : kvs.length < 100000)
    (hp : ∀ p, putK kvs kk (.ref p) = kvs' p) (k : ∀ p H', H p = none → p ≠ b → H' p = some o → H' b = some (.dK (kvs' p)) → Chg [b] H H' → tz D σ H') : tSeq (sDPut td ty te) tz D σ H := by
  refine q_st (s_dputP hv hd hk hb hz fun v H1 H2 e1 hq e2 => ?_)
  obtain ⟨p, rfl, h0, h1⟩ := hq
  have e := e1.trans e2
  have n : p ≠ b := fun z => by rw [z, hb] at h0; cases h0
  rw [hp]
  exact k p _ h0 n (by rw [upd_ne n]; exact e2 _ _ h1) upd_same ((Chg.of e).trans (Chg.upd (by simp) (e _ _ hb) (by intro xs z; cases z)))
section
variable {P : Program} {w : World} {K : PySem.W.Frag} {mg : Str → Option Value} {base : Heap} {CI CM : Addr}
theorem ok_law_start (T : Txt K mg CI CM) : FnG P w K mg base "_law_start" 1 ["_law_data", "_law_entry", "_law_registers", "_law_memory", "_law_inputs"] spLStart := by
  refine fnG_of T.d_law_start sc_law_start (fun _ _ _ _ _ _ us hl => match us, hl with | [_, _, _, _, _], _ => rfl) (fun vs H Q E h => ?_) fun f cdv A outer s H vs Q E hr h => ?_
  · obtain ⟨da, rg0, me, ip0, d, ent, regs, as, ps, inp, av, rfl, _⟩ := h
    rfl
  · obtain ⟨da, rg0, me, ip0, d, ent, regs, as, ps, inp, av, rfl, hda, hB, hrg, hme, hps, hz, hip, dn, hal, k⟩ := h
    have nd := sc_law_start.nd
    have hu := hu_of hr
    refine ⟨_, (pss_cons (ps_set (i := 5) nd rfl (Or.inl rfl) pe_dnewK)
      (pss_cons (ps_for PassesOwn.never rfl (p_list K (pv 3)) (pg_name (i := 6) nd rfl (Or.inl rfl)) (pss_one (ps_dput hu (pv 5) (pe_ix (ixt K) (pv 6) pe_int (fun _ _ => rfl)) (pe_ix (ixt K) (pv 6) pe_int (fun _ _ => rfl)) rfl)))
      (pss_cons (ps_set (i := 7) nd rfl (Or.inl rfl) (pe_disp (pps_cons pe_str (pv 0) (pps_cons pe_str (pv 1) (pps_cons pe_str pe_int (pps_cons pe_str (pe_callTy (cr_list K) (by rfl) T.n_list (by decide +kernel) (pa_cons (pv 2) pa_nil)) (pps_cons pe_str (pv 5) pps_nil))))) (by rfl) (by rfl) (fun z => by cases z) (by decide)))
      (pss_cons (ps_dput hu (pv 7) pe_str (pe_callTy (cr_list K) (by rfl) T.n_list (by decide +kernel) (pa_cons (pv 4) pa_nil)) rfl)
      (pss_cons (ps_dput hu (pv 7) pe_str (pe_lst pa_nil) rfl)
      (pss_cons (ps_dput hu (pv 7) pe_str (pe_lst pa_nil) rfl)
      (pss_cons (ps_dput hu (pv 7) pe_str (pe_tup (pa_cons pe_str pa_nil)) rfl)
      (pss_one (ps_ret (pv 7)))))))))), ?_⟩
    refine q_asgP eu_dnew fun v H1 e1 hv => ?_
    obtain ⟨wo, rfl, fwo, hwo⟩ := hv
    have nme : me ≠ wo := fun z => by rw [← z, hme] at fwo; cases fwo
    refine q_forLn (ev_var rfl) (sq_of (e1 _ _ hme)) (fun i σ' H' => (∃ u, σ' = [some (.ref da), some (.int ent), some (.ref rg0), some (.ref me), some (.ref ip0), some (.ref wo), u, none]) ∧ H' wo = some (.dK (memV ((ps.take i).foldl (fun l p => putM l p.1 p.2) []))) ∧ Ex H H')
      (fun H2 e2 => ⟨⟨none, rfl⟩, e2 _ _ hwo, e1.trans e2⟩) (fun i σ' H' _ p => sq_of (p.2.2 _ _ hme)) (fun i y σ' H' hy p => ?_) fun σ' H' p => ?_
    · obtain ⟨⟨u, rfl⟩, pm, pe⟩ := p
      rw [List.getElem?_map] at hy
      cases hb : as[i]? with
      | none => rw [hb] at hy; cases hy
      | some a =>
        rw [hb] at hy
        obtain rfl : V.ref a = y := Option.some.inj hy
        obtain ⟨q, hq1, hq2⟩ := hps.2 i a hb
        have hq3 := st_of (K := K) (pe _ _ hq2)
        have hi : i < ps.length := (List.getElem?_eq_some_iff.mp hq1).1
        have hlen := putM_foldl_len (ps.take i) []
        rw [List.length_take] at hlen
        refine s_dput (kk := Sum.inl q.1) (v := .int q.2) (ev_op (ev_var rfl) ev_c (rv_ixT hq3 rfl)) (ev_var rfl) (ev_op (ev_var rfl) ev_c (rv_ixT hq3 rfl)) pm (by unfold memV; rw [List.length_map]; simp at hlen; omega) fun H5 e5 => ?_
        rw [put_memV]
        refine ⟨⟨_, rfl⟩, ?_, Ex.mut (pe.trans e5) fwo⟩
        rw [upd_same, List.take_add_one, List.foldl_append, hq1] <;> rfl
    obtain ⟨⟨u, rfl⟩, pm, pe⟩ := p
    rw [List.length_map, hps.1, List.take_length] at pm
    have nwo : ∀ {x : Addr} {o : HO}, H x = some o → x ≠ wo := fun h z => by rw [z, fwo] at h; cases h
    refine q_st (t1 := tAsg _ (gName 7)) ?_
    intro b hb
    have fb : H b = none := fresh_back pe hb
    have eb : Ex H (L2.upd H' b (.dK [])) := Ex.mut pe fb
    refine ev_c _ (Ex.refl _) _ fun Ha ea => ev_var rfl _ (Ex.refl _) _ fun Hb eb2 => ev_c _ (Ex.refl _) _ fun Hc ec => ev_var rfl _ (Ex.refl _) _ fun Hd ed => ev_c _ (Ex.refl _) _ fun He ee => ev_c _ (Ex.refl _) _ fun Hf ef => ev_c _ (Ex.refl _) _ fun Hg eg => ?_
    have e0g := (((((ea.trans eb2).trans ec).trans ed).trans ee).trans ef).trans eg
    refine el_list (ev_var rfl) (sq_of ((eb.trans e0g) _ _ hrg)) _ (Ex.refl _) _ fun rg Hh frg eh hrg2 => ?_
    refine ev_c _ (Ex.refl _) _ fun Hi ei => ev_var rfl _ (Ex.refl _) _ fun Hj ej => ?_
    have ehj := (eh.trans ei).trans ej
    have e0j := e0g.trans ehj
    have hbj : Hj b = some (.dK []) := e0j _ _ upd_same
    refine ⟨hbj, [((Sum.inr "data" : Key), V.ref da), ((Sum.inr "at" : Key), V.int ent), ((Sum.inr "sp" : Key), V.int 65536), ((Sum.inr "regs" : Key), V.ref rg), ((Sum.inr "words" : Key), V.ref wo)], rfl, by show 5 ≤ 15; decide, ?_⟩
    rw [st_merge]
    have hrgj : Hj rg = some (.lst (regs.map V.int)) := (ei.trans ej) _ _ hrg2
    have frg0 : H rg = none := fresh_back (eb.trans e0g) frg
    have nrb : rg ≠ b := ne_of hrgj hbj (by intro z; cases z)
    have nwb : wo ≠ b := ne_of_none pm hb
    have hwj : Hj wo = some (.dK (memV (ps.foldl (fun l p => putM l p.1 p.2) []))) := e0j _ _ (by rw [upd_ne nwb]; exact pm)
    generalize hH5 : L2.upd Hj b _ = H5
    have e05 : Ex H H5 := by rw [← hH5]; exact Ex.mut (eb.trans e0j) fb
    have hb5 : H5 b = some (.dK [((Sum.inr "data" : Key), V.ref da), ((Sum.inr "at" : Key), V.int ent), ((Sum.inr "sp" : Key), V.int 65536), ((Sum.inr "regs" : Key), V.ref rg), ((Sum.inr "words" : Key), V.ref wo)]) := by rw [← hH5]; exact upd_same
    have hrg5 : H5 rg = some (.lst (regs.map V.int)) := by rw [← hH5, upd_ne nrb]; exact hrgj
    have hwo5 : H5 wo = some (.dK (memV (ps.foldl (fun l p => putM l p.1 p.2) []))) := by rw [← hH5, upd_ne nwb]; exact hwj
    clear hH5
    refine dput_new (kk := Sum.inr "inputs") (el_p (el_list (ev_var rfl) (sq_of (e05 _ _ hip)))) (fun H1 e1 => ev_var rfl) (fun H1 e1 => ev_c) hb5 (by show 5 < 100000; decide) (fun v => st_p6 _ _ _ _ v) fun ip H6 fip nip hip6 hb6 c6 => ?_
    refine dput_new (kk := Sum.inr "waiting") (el_p (el_lst ea_nil (Nat.le_of_ble_eq_true rfl))) (fun H1 e1 => ev_var rfl) (fun H1 e1 => ev_c) hb6 (by show 6 < 100000; decide) (fun v => st_p7 _ _ _ _ _ v) fun wa H7 fwa nwa hwa7 hb7 c7 => ?_
    refine dput_new (kk := Sum.inr "out") (el_p (el_lst ea_nil (Nat.le_of_ble_eq_true rfl))) (fun H1 e1 => ev_var rfl) (fun H1 e1 => ev_c) hb7 (by show 7 < 100000; decide) (fun v => st_p8 _ _ _ _ _ _ v) fun ou H8 fou nou hou8 hb8 c8 => ?_
    refine dput_new (kk := Sum.inr "status") (eu_p (eu_tup (ea_cons ev_c ea_nil) (Nat.le_of_ble_eq_true rfl))) (fun H1 e1 => ev_var rfl) (fun H1 e1 => ev_c) hb8 (by show 8 < 100000; decide) (fun v => st_p9 _ _ _ _ _ _ _ v) fun st H9 fst nst hst9 hb9 c9 => ?_
    have e06 := ex_chg e05 c6 fb
    have e07 := ex_chg e06 c7 fb
    have e08 := ex_chg e07 c8 fb
    have e09 := ex_chg e08 c9 fb
    have hr9 := chg_at (((c6.trans c7).trans c8).trans c9) hrg5 nrb
    have hw9 := chg_at (((c6.trans c7).trans c8).trans c9) hwo5 nwb
    have hi9 := chg_at ((c7.trans c8).trans c9) hip6 nip
    have ha9 := chg_at (c8.trans c9) hwa7 nwa
    have ho9 := chg_at c9 hou8 nou
    have far : ∀ {x : Addr}, H x = none → x ∉ av := fun h z => hal _ z h
    have fip0 := fresh_back e05 fip
    have fwa0 := fresh_back e06 fwa
    have fou0 := fresh_back e07 fou
    have nri : rg ≠ ip := ne_of_none hrg5 fip
    have nrw : rg ≠ wa := ne_of_none (chg_at c6 hrg5 nrb) fwa
    have nro : rg ≠ ou := ne_of_none (chg_at (c6.trans c7) hrg5 nrb) fou
    have ncons : ∀ {x : Addr}, rg ≠ x → H x = none → x ∉ rg :: av := fun n h z => by
      rcases List.mem_cons.mp z with z | z
      · exact n z.symm
      · exact far h z
    have hdr : da ≠ rg := fun z => by
      rw [z, frg0] at hda
      cases hda
    refine s_ret (v := .ref b) (ev_var rfl) fun H10 e10 => ?_
    refine k H10 { b := b, da := da, rg := rg, wo := wo, d := d, av := av } rfl rfl rfl ?_ (BOk.ex ⟨⟨ip, wa, ou, st, hb9, hi9, ha9, ho9, hst9, ncons nri fip0, ncons nrw fwa0, ncons nro fou0⟩, e09 _ _ hda, hB, hr9, hw9, hdr, Ne.symm nwb, ?_, fun x hx z => ?_⟩ e10) (e09.trans e10)
    · intro x hx
      simp only [BA.mut, List.mem_cons, List.not_mem_nil, or_false] at hx
      rcases hx with rfl | rfl | rfl
      · exact fb
      · exact frg0
      · exact fwo
    · intro x hx
      simp only [List.mem_cons, List.not_mem_nil, or_false] at hx
      rcases hx with rfl | rfl | rfl | rfl
      · exact far fb
      · exact dn
      · exact far frg0
      · exact far fwo
    · cases q : H x with
      | none => exact hal x hx q
      | some o => rw [e09 _ _ q] at z; cases z
end

/-- a new list of ints that is so -/
def NewI (R : List Int → Prop) (H : Hp) (v : V) (H2 : Hp) : Prop := ∃ (p : Addr) (ns : List Int), v = .ref p ∧ H p = none ∧ H2 p = some (.lst (ns.map V.int)) ∧ R ns
theorem NewI.back {R : List Int → Prop} {H H1 H2 : Hp} {v : V} (e : Ex H H1) (h : NewI R H1 v H2) : NewI R H v H2 := let ⟨p, ns, h1, h2, h3, h4⟩ := h; ⟨p, ns, h1, fresh_back e h2, h3, h4⟩
theorem NewI.imp {R R' : List Int → Prop} {H H2 : Hp} {v : V} (h : NewI R H v H2) (i : ∀ ns, R ns → R' ns) : NewI R' H v H2 := let ⟨p, ns, h1, h2, h3, h4⟩ := h; ⟨p, ns, h1, h2, h3, i ns h4⟩
theorem sp_draws {cell m : Int} {n : Nat} {H : Hp} (hm : 0 < m ∧ m < 1000000) (hn : n ≤ 1000) : SpP spDraws ([.int cell, .int m, .int (n : Int)] ++ []) H (NewI (fun ns => ns.length = n ∧ ∀ x ∈ ns, 0 ≤ x ∧ x < m) H) := fun H1 e Q q E => ⟨cell, m, n, rfl, hm, hn, fun v H2 e2 hv => by
  obtain ⟨p, ns, h1, h2, h3, h4, h5⟩ := hv
  exact q v H2 e2 ⟨p, ns, h1, fresh_back e h2, h3, h4, h5⟩⟩
theorem gI_all {l : List Int} {P : Int → Prop} (h : ∀ x ∈ l, P x) {i : Nat} (hi : i < l.length) : P (gI l i) := by
  unfold gI
  rw [List.getD_eq_getElem?_getD, List.getElem?_eq_getElem hi]
  exact h _ (List.getElem_mem hi)
section
variable {K : PySem.W.Frag} {σ : L2.St} {H : Hp} {ta tb te : TE} {D : Ends} {tu tz : TS}
theorem evp_addI {i : Int} {R : Int → Prop} (ha : Ev ta σ H (.int i)) (hb : EvP tb σ H (fun v _ => ∃ n, v = .int n ∧ R n)) : EvP (tOp rAdd ta tb) σ H (fun v _ => ∃ n, v = .int (i + n) ∧ R n) := fun H1 e Q q =>
  ha H1 e _ fun H2 e2 => hb H2 (e.trans e2) _ fun v H3 e3 ⟨n, hn, hr⟩ => by
    subst hn
    exact ⟨i, n, rfl, rfl, q _ H3 (e2.trans e3) ⟨n, rfl, hr⟩⟩
theorem evp_cat {l : Addr} {xs : List Int} {R : List Int → Prop} (ha : Ev ta σ H (.ref l)) (hl : H l = some (.lst (xs.map V.int))) (hb : EvP tb σ H (NewI R H)) (hz : ∀ ys, R ys → xs.length + ys.length ≤ 100000) : EvP (tOp rCat ta tb) σ H (NewI (fun zs => ∃ ys, zs = xs ++ ys ∧ R ys) H) := fun H1 e Q q =>
  ha H1 e _ fun H2 e2 => hb H2 (e.trans e2) _ fun v H3 e3 ⟨p, ns, hv, h0, h1, hr⟩ => by
    subst hv
    exact ⟨l, p, xs.map V.int, ns.map V.int, rfl, rfl, e3 _ _ (e2 _ _ (e _ _ hl)), h1, sz_of (by rw [List.length_map, List.length_map]; exact hz ns hr), fun c hc => q _ _ ((e2.trans e3).trans (Ex.new hc)) ⟨c, xs ++ ns, rfl, fresh_back ((e.trans e2).trans e3) hc, by rw [List.map_append, upd_same], ns, rfl, hr⟩⟩
/-- one of a list that is written there -/
theorem ev_pick {ta : TA} {i : Int} (l : List Int) (h : EvA ta σ H (l.map V.int)) (hi : ∀ H1, Ex H H1 → Ev tb σ H1 (.int i)) (h0 : 0 ≤ i) (h1 : i < (l.length : Int)) (hz : l.length ≤ 100000) : Ev (tOp (rIxL K) (tLst ta) tb) σ H (.int (gI l i.toNat)) :=
  ev_opL1 (el_lst h (by rw [List.length_map]; exact hz)) hi fun p H1 hp e => rv_ixL (sq_of hp) (at_gI h0 h1)
/-- a loop over a new list of ints -/
theorem q_forP {R : List Int → Prop} {j : Nat} (h : EvP te σ H (NewI R H)) (Pv : List Int → Addr → Nat → L2.St → Hp → Prop) (h0 : ∀ ns p H1, R ns → H p = none → Ex H H1 → H1 p = some (.lst (ns.map V.int)) → Pv ns p 0 σ H1) (hl : ∀ ns p i σ' H', Pv ns p i σ' H' → H' p = some (.lst (ns.map V.int)))
    (hs : ∀ ns p i x σ' H', R ns → ns[i]? = some x → Pv ns p i σ' H' → tu { D with nx := Pv ns p (i + 1), ct := Pv ns p (i + 1), bk := tz D } (σ'.set j (some (.int x))) H') (hd : ∀ ns p σ' H', R ns → Pv ns p ns.length σ' H' → tz D σ' H') : tSeq (tFor (iList K te) (gName j) tu) tz D σ H :=
  h H (Ex.refl H) _ fun v H1 e ⟨p, ns, hv, hp, h1, hr⟩ => by
    subst hv
    refine ⟨p, rfl, ⟨_, sq_of h1⟩, for_list (xs := ns.map V.int) (Pv ns p) (h0 ns p H1 hr hp e h1) (fun i σ' H' _ q => sq_of (hl ns p i σ' H' q)) (fun i x σ' H' hx q => ?_) fun σ' H' q => ?_⟩
    · rw [List.getElem?_map] at hx
      cases hb : ns[i]? with
      | none => rw [hb] at hx; cases hx
      | some y =>
        rw [hb] at hx
        obtain rfl : V.int y = x := Option.some.inj hx
        exact hs ns p i y σ' H' hr hb q
    · rw [List.length_map] at q
      exact hd ns p σ' H' hr q
/-- a number is appended to a list that is new since H0 -/
theorem s_appI {H0 : Hp} {p : Addr} {ns : List Int} {y : Int} {j : Nat} (e : Ex H0 H) (hp : H0 p = none) (hl : H p = some (.lst (ns.map V.int))) (hz : ns.length < 100000) (hσ : σ[j]? = some (some (.ref p))) (hv : Ev te σ H (.int y)) (k : ∀ H1, Ex H H1 → Ex H0 (L2.upd H1 p (.lst ((ns ++ [y]).map V.int))) → D.nx σ (L2.upd H1 p (.lst ((ns ++ [y]).map V.int)))) :
    tDrop (tBM K "list" rAppend (tVar j) (tCons te tNil)) D σ H := by
  refine s_app hl (ev_var hσ) hv (by rw [List.length_map]; exact hz) fun H1 e1 => ?_
  have q : (ns.map V.int) ++ [V.int y] = (ns ++ [y]).map V.int := by rw [List.map_append] <;> rfl
  rw [q]
  exact k H1 e1 (Ex.mut (e.trans e1) hp)
end
def WordsR (n : Nat) (ns : List Int) : Prop := ns.length = n ∧ ∀ x ∈ ns, Wd x
def spWords : Sp := fun vs H Q _ => ∃ (cell : Int) (n : Nat), vs = [.int cell, .int (n : Int)] ∧ n ≤ 1000 ∧ RetP (NewI (WordsR n) H) H Q
def DrOk (ds : List Int) : Prop := ds.length = 7 ∧ ∀ x ∈ ds, Wd x
def LineAt (bad : Addr) (H : Hp) (x : V) : Prop := ∃ (l : Addr) (c : Int) (dl : Addr) (ds : List Int), x = .ref l ∧ l ≠ bad ∧ dl ≠ bad ∧ H l = some (.lst [.int c, .ref dl]) ∧ H dl = some (.lst (ds.map V.int)) ∧ (1 ≤ c ∧ c ≤ 31) ∧ DrOk ds
theorem LineAt.ex {bad : Addr} {H H' : Hp} {x : V} (h : LineAt bad H x) (e : Ex H H') : LineAt bad H' x := let ⟨l, c, dl, ds, h1, h2, h3, h4, h5, h6⟩ := h; ⟨l, c, dl, ds, h1, h2, h3, e _ _ h4, e _ _ h5, h6⟩
theorem LineAt.upd {bad : Addr} {H : Hp} {x : V} (h : LineAt bad H x) (o : HO) : LineAt bad (L2.upd H bad o) x := let ⟨l, c, dl, ds, h1, h2, h3, h4, h5, h6⟩ := h; ⟨l, c, dl, ds, h1, h2, h3, by rw [upd_ne h2]; exact h4, by rw [upd_ne h3]; exact h5, h6⟩
def LinesR (n : Nat) (v : V) (H2 : Hp) : Prop := ∃ (p : Addr) (xs : List V), v = .ref p ∧ H2 p = some (.lst xs) ∧ xs.length = n ∧ ∀ x ∈ xs, LineAt p H2 x
def spLines : Sp := fun vs H Q _ => ∃ (s : Addr) (ns : List Int) (most : Nat), vs = [.ref s, .int (most : Int)] ∧ H s = some (.lst (ns.map V.int)) ∧ most ≤ 1000 ∧ RetP (LinesR (min ns.length most)) H Q
def spSize : Sp := fun vs H Q _ => ∃ (bad : Addr) (x : V), vs = [x] ∧ LineAt bad H x ∧ RetP (fun v _ => ∃ n, v = .int n ∧ 1 ≤ n ∧ n ≤ 9) H Q
def sizes : List Int := [0, 4, 2, 2, 2, 2, 2, 2, 2, 2, 2, 2, 2, 2, 4, 4, 3, 3, 3, 2, 2, 3, 4, 4, 0, 3, 0, 1, 2, 2, 1, 2]
section
variable {P : Program} {w : World} {K : PySem.W.Frag} {mg : Str → Option Value} {base : Heap} {CI CM : Addr}
theorem ok_law_words (T : Txt K mg CI CM) : FnG P w K mg base "_law_words" 2 ["_law_cell", "_law_count"] spWords := by
  refine fnG_of T.d_law_words sc_law_words (fun _ _ _ _ _ _ us hl => match us, hl with | [_, _], _ => rfl) (fun vs H Q E h => ?_) fun f cdv A outer s H vs Q E hr h => ?_
  · obtain ⟨cell, n, rfl, _⟩ := h
    rfl
  · obtain ⟨cell, n, rfl, hn, k⟩ := h
    have nd := sc_law_words.nd
    have hu := hu_of hr
    refine ⟨_, (pss_cons (ps_set (i := 2) nd rfl (Or.inl rfl) (pe_lst pa_nil))
      (pss_cons (ps_for PassesOwn.never rfl (p_list K (pe_fn (ok_law_draws T) (hr.mono (by decide)) (by rfl) (pa_cons (pv 0) (pa_cons pe_int (pa_cons (pv 1) pa_nil))))) (pg_name (i := 3) nd rfl (Or.inl rfl)) (pss_one (ps_expr (p_bm K (id := "list.append") (pe_bm PySem.F.plainAttrs_list PySem.F.slot_list_append PySem.F.type_list_append mt_append (pv 2) (pa_cons (pe_ix (ixl K) (pe_lst (pa_cons (pv 3) (pa_cons (pe_op op_mod (pv 3) pe_int) (pa_cons (pe_op op_sub pe_int (pe_op op_mod (pv 3) pe_int)) (pa_cons (pe_op op_add pe_int (pe_op op_mod (pv 3) pe_int)) pa_nil))))) (pe_op op_mod (pe_op op_fdiv (pv 3) pe_int) pe_int) (fun _ _ => rfl)) pa_nil))))))
      (pss_one (ps_ret (pv 2))))), ?_⟩
    refine q_asgL (el_lst ea_nil (Nat.le_of_ble_eq_true rfl)) fun p H1 hp e1 h1 => ?_
    refine q_forP (R := fun ns => ns.length = n ∧ ∀ x ∈ ns, 0 ≤ x ∧ x < 65536) (evp_call (vs := [.int cell, .int 65536, .int (n : Int)]) (ea_cons (ev_var rfl) (ea_cons ev_c (ea_cons (ev_var rfl) ea_nil))) (sp_draws ⟨by decide, by decide⟩ hn))
      (fun ns q i σ' H' => ∃ (u : Option V) (ys : List Int), σ' = [some (.int cell), some (.int (n : Int)), some (.ref p), u] ∧ Ex H H' ∧ H' q = some (.lst (ns.map V.int)) ∧ q ≠ p ∧ H' p = some (.lst (ys.map V.int)) ∧ ys.length = i ∧ ∀ x ∈ ys, Wd x)
      (fun ns q H2 hr hq e2 h2 => ⟨none, [], rfl, e1.trans e2, h2, (fun z => by rw [z, h1] at hq; cases hq), e2 _ _ h1, rfl, by simp⟩) (fun ns q i σ' H' hp => ?_) (fun ns q i x σ' H' hr hx hp2 => ?_) (fun ns q σ' H' hr hp2 => ?_)
    · obtain ⟨u, ys, rfl, e, hq, nq, hy, hl, hw⟩ := hp
      exact hq
    · obtain ⟨u, ys, rfl, e, hq, nq, hy, hl, hw⟩ := hp2
      have hxw := hr.2 x (List.mem_of_getElem? hx)
      have hi : i < ns.length := (List.getElem?_eq_some_iff.mp hx).1
      have hidx : 0 ≤ x / 16384 % 4 ∧ x / 16384 % 4 < 4 := ⟨Int.emod_nonneg _ (by decide), Int.emod_lt_of_pos _ (by decide)⟩
      refine s_appI (y := gI [x, x % 5, 65535 - x % 3, 64512 + x % 9] (x / 16384 % 4).toNat) e hp hy (by omega) rfl (ev_pick [x, x % 5, 65535 - x % 3, 64512 + x % 9] (ea_cons (ev_var rfl) (ea_cons (ev_op (ev_var rfl) ev_c (rv_I (show (0 : Int) < 5 by decide))) (ea_cons (ev_op ev_c (ev_op (ev_var rfl) ev_c (rv_I (show (0 : Int) < 3 by decide))) rv_I0) (ea_cons (ev_op ev_c (ev_op (ev_var rfl) ev_c (rv_I (show (0 : Int) < 9 by decide))) rv_I0) ea_nil))))
        (fun H2 e2 => ev_op (ev_op (ev_var rfl) ev_c (rv_I (show CDiv _ _ from ⟨by omega, by omega⟩))) ev_c (rv_I (show (0 : Int) < 4 by decide))) hidx.1 (by show _ < (4 : Int); exact hidx.2) (Nat.le_of_ble_eq_true rfl)) fun H2 e2 e3 => ⟨_, _, rfl, e3, by rw [upd_ne nq]; exact e2 _ _ hq, nq, upd_same, by rw [List.length_append, hl] <;> rfl, fun z hz => ?_⟩
      rcases List.mem_append.mp hz with q2 | q2
      · exact hw z q2
      · rw [List.mem_singleton.mp q2]
        refine gI_all (P := Wd) (fun y hy => ?_) (by show _ < 4; omega)
        simp only [List.mem_cons, List.not_mem_nil, or_false] at hy
        unfold Wd
        rcases hy with rfl | rfl | rfl | rfl <;> omega
    · obtain ⟨u, ys, rfl, e, hq, nq, hy, hl, hw⟩ := hp2
      exact s_ret (v := .ref p) (ev_var rfl) fun H3 e3 => k _ _ (e.trans e3) ⟨p, ys, rfl, hp, e3 _ _ hy, by rw [hl]; exact hr.1, hw⟩
theorem ok_law_size (T : Txt K mg CI CM) : FnG P w K mg base "_law_size" 1 ["_law_line"] spSize := by
  refine fnG_of T.d_law_size sc_law_size (fun _ _ _ _ _ _ us hl => match us, hl with | [_], _ => rfl) (fun vs H Q E h => ?_) fun f cdv A outer s H vs Q E hr h => ?_
  · obtain ⟨bad, x, rfl, _⟩ := h
    rfl
  · obtain ⟨bad, x, rfl, hx, k⟩ := h
    have nd := sc_law_size.nd
    have hu := hu_of hr
    refine ⟨_, (pss_cons (ps_set (i := 1) nd rfl (Or.inl rfl) (pe_ix (ixl K) (pv 0) pe_int (fun _ _ => rfl)))
      (pss_cons (ps_if (PW.pt (pw_or (pt_cmpR op_eq (pv 1) pe_int (nomark _)) (pw_or1 (pt_cmpR op_eq (pv 1) pe_int (nomark _))))) (pss_one (ps_ret (pe_op op_add pe_int (pe_op op_mul pe_int (pe_op op_add pe_int (pe_op op_mod (pe_ix (ixl K) (pe_ix (ixl K) (pv 0) pe_int (fun _ _ => rfl)) pe_int (fun _ _ => rfl)) pe_int)))))) pss_nil)
      (pss_one (ps_ret (pe_ix (ixl K) (pe_lst (pa_cons pe_int (pa_cons pe_int (pa_cons pe_int (pa_cons pe_int (pa_cons pe_int (pa_cons pe_int (pa_cons pe_int (pa_cons pe_int (pa_cons pe_int (pa_cons pe_int (pa_cons pe_int (pa_cons pe_int (pa_cons pe_int (pa_cons pe_int (pa_cons pe_int (pa_cons pe_int (pa_cons pe_int (pa_cons pe_int (pa_cons pe_int (pa_cons pe_int (pa_cons pe_int (pa_cons pe_int (pa_cons pe_int (pa_cons pe_int (pa_cons pe_int (pa_cons pe_int (pa_cons pe_int (pa_cons pe_int (pa_cons pe_int (pa_cons pe_int (pa_cons pe_int (pa_cons pe_int pa_nil))))))))))))))))))))))))))))))))) (pv 1) (fun _ _ => rfl)))))), ?_⟩
    obtain ⟨l, c, dl, ds, rfl, _, _, hl, hdl, hc, hds⟩ := hx
    refine q_asg (v := .int c) (ev_op (ev_var rfl) ev_c (rv_ixL (sq_of hl) rfl)) fun H1 e1 => ?_
    have d3 := gI_all (i := 3) hds.2 (by rw [hds.1]; decide)
    unfold Wd at d3
    refine q_when (b := decide (V.int c = V.int 24) || decide (V.int c = V.int 26)) (et_or (et_test (ev_op (ev_var rfl) ev_c (rv_eqb rfl rfl))) fun _ => et_test (ev_op (ev_var rfl) ev_c (rv_eqb rfl rfl))) (fun hb H2 e2 => ?_) (fun hb H2 e2 => ?_)
    · have e12 := e1.trans e2
      have e3 : 0 ≤ gI ds 3 % 3 ∧ gI ds 3 % 3 < 3 := ⟨Int.emod_nonneg _ (by decide), Int.emod_lt_of_pos _ (by decide)⟩
      refine s_ret (v := .int (3 + 2 * (1 + gI ds 3 % 3))) (ev_op ev_c (ev_op ev_c (ev_op ev_c (ev_op (ev_op (ev_op (ev_var rfl) ev_c (rv_ixL (sq_of (e12 _ _ hl)) rfl)) ev_c (rv_ixL (sq_of (e12 _ _ hdl)) (at_gI (by decide) (by rw [hds.1]; decide)))) ev_c (rv_I (show (0 : Int) < 3 by decide))) rv_I0) (rv_I (show CMul _ _ from Or.inl ⟨by omega, by omega⟩))) rv_I0) fun H3 e3' => k _ _ (e12.trans e3') ⟨_, rfl, by omega, by omega⟩
    · have hc2 : ¬ c = 24 ∧ ¬ c = 26 := by
        constructor
        · intro z; subst z; cases hb
        · intro z; subst z; cases hb
      have g : ∀ n : Nat, n < 32 → 1 ≤ n → ¬ n = 24 → ¬ n = 26 → 1 ≤ gI sizes n ∧ gI sizes n ≤ 9 := by decide
      have g2 := g c.toNat (by omega) (by omega) (by omega) (by omega)
      exact s_ret (v := .int (gI sizes c.toNat)) (ev_pick sizes (by simp only [sizes, List.map]; walk_at "uw.ea") (fun H3 e3 => ev_var rfl) (by omega) (by show _ < (32 : Int); omega) (Nat.le_of_ble_eq_true rfl)) fun H3 e3 => k _ _ ((e1.trans e2).trans e3) ⟨_, rfl, g2⟩
end

def CodeR (bs : List Int) : Prop := Bytes bs ∧ 1 ≤ bs.length ∧ bs.length ≤ 9
def PlOk (pl : List Int) : Prop := 1 ≤ pl.length ∧ pl.length ≤ 1000 ∧ ∀ x ∈ pl, Wd x
def spCode : Sp := fun vs H Q _ => ∃ (c : Int) (dl pl : Addr) (ds ps : List Int), vs = [.int c, .ref dl, .ref pl] ∧ (1 ≤ c ∧ c ≤ 31) ∧ H dl = some (.lst (ds.map V.int)) ∧ DrOk ds ∧ H pl = some (.lst (ps.map V.int)) ∧ PlOk ps ∧ RetP (NewI CodeR H) H Q
def ImgR (n : Nat) (bs : List Int) : Prop := Bytes bs ∧ n ≤ bs.length ∧ bs.length ≤ 9 * n
def spImage : Sp := fun vs H Q _ => ∃ (bad p : Addr) (xs : List V), vs = [.ref p] ∧ H p = some (.lst xs) ∧ (1 ≤ xs.length ∧ xs.length ≤ 100) ∧ (∀ x ∈ xs, LineAt bad H x) ∧ RetP (NewI (ImgR xs.length) H) H Q
theorem by_cons {x : Int} {l : List Int} (h : By x) (t : Bytes l) : Bytes (x :: l) := fun y hy => by
  rcases List.mem_cons.mp hy with rfl | z
  · exact h
  · exact t y z
theorem by_nil : Bytes [] := fun x h => by simp at h
theorem by_div {x : Int} (h : Wd x) : By (x / 256) := by unfold Wd at h; unfold By; omega
theorem by_mod (x : Int) : By (x % 256) := ⟨Int.emod_nonneg _ (by decide), Int.emod_lt_of_pos _ (by decide)⟩
section
variable {P : Program} {w : World} {K : PySem.W.Frag} {mg : Str → Option Value} {base : Heap} {CI CM : Addr}
theorem ok_law_lines (T : Txt K mg CI CM) : FnG P w K mg base "_law_lines" 2 ["_law_script", "_law_most"] spLines := by
  refine fnG_of T.d_law_lines sc_law_lines (fun _ _ _ _ _ _ us hl => match us, hl with | [_, _], _ => rfl) (fun vs H Q E h => ?_) fun f cdv A outer s H vs Q E hr h => ?_
  · obtain ⟨s, ns, most, rfl, _⟩ := h
    rfl
  · obtain ⟨s, ns, most, rfl, hs, hm, k⟩ := h
    have nd := sc_law_lines.nd
    have hu := hu_of hr
    refine ⟨_, (pss_cons (ps_set (i := 2) nd rfl (Or.inl rfl) (pe_lst pa_nil))
      (pss_cons (ps_for PassesOwn.never rfl (pi_range1 (by rfl) T.n_range (pa_cons (pe_callB (cr_min2 rfl) (by rfl) T.n_min (by decide +kernel) (pa_cons (pe_callB (cr_len K) (by rfl) T.n_len (by decide +kernel) (pa_cons (pv 0) pa_nil)) (pa_cons (pv 1) pa_nil))) pa_nil)) (pg_name (i := 3) nd rfl (Or.inl rfl)) (pss_cons (ps_set (i := 4) nd rfl (Or.inl rfl) (pe_fn (ok_law_draws T) (hr.mono (by decide)) (by rfl) (pa_cons (pe_ix (ixl K) (pv 0) (pv 3) (fun _ _ => rfl)) (pa_cons pe_int (pa_cons pe_int pa_nil)))))
      (pss_one (ps_expr (p_bm K (id := "list.append") (pe_bm PySem.F.plainAttrs_list PySem.F.slot_list_append PySem.F.type_list_append mt_append (pv 2) (pa_cons (pe_lst (pa_cons (pe_op op_add pe_int (pe_op op_mod (pe_ix (ixl K) (pv 4) pe_int (fun _ _ => rfl)) pe_int)) (pa_cons (pv 4) pa_nil))) pa_nil)))))))
      (pss_one (ps_ret (pv 2))))), ?_⟩
    refine q_asgL (el_lst ea_nil (Nat.le_of_ble_eq_true rfl)) fun p H1 hp e1 h1 => ?_
    have hmin : (if ((most : Int)) < (ns.length : Int) then (most : Int) else (ns.length : Int)) = ((min ns.length most : Nat) : Int) := by split <;> omega
    refine q_forR1 (n := ((min ns.length most : Nat) : Int)) (ea_cons (ev_is (ev_min2 (ea_cons (ev_lenI (ev_var rfl) (sq_of (e1 _ _ hs))) (ea_cons (ev_var rfl) ea_nil))) (congrArg V.int hmin)) ea_nil) (by omega)
      (fun i σ' H' => ∃ (u v : Option V) (xs : List V), σ' = [some (.ref s), some (.int (most : Int)), some (.ref p), u, v] ∧ Ex H H' ∧ H' p = some (.lst xs) ∧ xs.length = i ∧ ∀ x ∈ xs, LineAt p H' x)
      (fun H2 e2 => ⟨none, none, [], rfl, e1.trans e2, e2 _ _ h1, rfl, by simp⟩) (fun i σ' H' hi hp2 => ?_) (fun σ' H' hp2 => ?_)
    · obtain ⟨u, v, xs, rfl, e, hx, hl, hL⟩ := hp2
      have hi2 : (i : Int) < (ns.length : Int) := by omega
      refine q_asgP (evp_call (vs := [.int (gI ns i), .int 65536, .int ((7 : Nat) : Int)]) (ea_cons (ev_op (ev_var rfl) (ev_var rfl) (rv_ixL (sq_of (e _ _ hs)) (at_gI (by omega) hi2))) (ea_cons ev_c (ea_cons ev_c ea_nil))) (sp_draws ⟨by decide, by decide⟩ (by decide))) fun v2 H2 e2 hv2 => ?_
      obtain ⟨dl, ds, rfl, hd0, hd, hdl, hdr⟩ := hv2
      have ndp : dl ≠ p := fun z => by rw [z, hx] at hd0; cases hd0
      have g0 := gI_all (i := 0) hdr (by rw [hdl]; decide)
      have h31 : 0 ≤ gI ds 0 % 31 ∧ gI ds 0 % 31 < 31 := ⟨Int.emod_nonneg _ (by decide), Int.emod_lt_of_pos _ (by decide)⟩
      refine s_appL (e2 _ _ hx) (ev_var rfl) (el_lst (vs := [.int (1 + gI ds 0 % 31), .ref dl]) (ea_cons (ev_op ev_c (ev_op (ev_op (ev_var rfl) ev_c (rv_ixL (sq_of hd) (at_gI (by decide) (by rw [hdl]; decide)))) ev_c (rv_I (show (0 : Int) < 31 by decide))) rv_I0) (ea_cons (ev_var rfl) ea_nil)) (Nat.le_of_ble_eq_true rfl)) (by omega) fun l H3 hl0 e3 hl3 => ?_
      have nlp : l ≠ p := fun z => by rw [z, e2 _ _ hx] at hl0; cases hl0
      refine ⟨_, _, xs ++ [.ref l], rfl, Ex.mut ((e.trans e2).trans e3) hp, upd_same, by rw [List.length_append, hl] <;> rfl, fun x hx2 => ?_⟩
      rcases List.mem_append.mp hx2 with z | z
      · exact ((hL x z).ex (e2.trans e3)).upd _
      · rw [List.mem_singleton.mp z]
        exact ⟨l, _, dl, ds, rfl, nlp, ndp, by rw [upd_ne nlp]; exact hl3, by rw [upd_ne ndp]; exact e3 _ _ hd, by omega, hdl, hdr⟩
    · obtain ⟨u, v, xs, rfl, e, hx, hl, hL⟩ := hp2
      exact s_ret (v := .ref p) (ev_var rfl) fun H3 e3 => k _ _ (e.trans e3) ⟨p, xs, rfl, e3 _ _ hx, by rw [hl]; omega, fun x hx2 => (hL x hx2).ex e3⟩
theorem ok_law_code (T : Txt K mg CI CM) : FnG P w K mg base "_law_code" 1 ["_law_code_here", "_law_draws_here", "_law_places"] spCode := by
  refine fnG_of T.d_law_code sc_law_code (fun _ _ _ _ _ _ us hl => match us, hl with | [_, _, _], _ => rfl) (fun vs H Q E h => ?_) fun f cdv A outer s H vs Q E hr h => ?_
  · obtain ⟨c, dl, pl, ds, ps, rfl, _⟩ := h
    rfl
  · obtain ⟨c, dl, pl, ds, ps, rfl, hc, hdl, hds, hpl, hps, k⟩ := h
    have nd := sc_law_code.nd
    have hu := hu_of hr
    refine ⟨_, (pss_cons (ps_set (i := 3) nd rfl (Or.inl rfl) (pe_op op_mod (pe_ix (ixl K) (pv 1) pe_int (fun _ _ => rfl)) pe_int))
      (pss_cons (ps_set (i := 4) nd rfl (Or.inl rfl) (pe_op op_mod (pe_ix (ixl K) (pv 1) pe_int (fun _ _ => rfl)) pe_int))
      (pss_cons (ps_set (i := 5) nd rfl (Or.inl rfl) (pe_ix (ixl K) (pe_lst (pa_cons pe_int (pa_cons pe_int (pa_cons pe_int (pa_cons pe_int (pa_cons pe_int (pa_cons pe_int (pa_cons pe_int (pa_cons (pe_op op_mod (pe_ix (ixl K) (pv 1) pe_int (fun _ _ => rfl)) pe_int) pa_nil))))))))) (pe_op op_mod (pe_op op_fdiv (pe_ix (ixl K) (pv 1) pe_int (fun _ _ => rfl)) pe_int) pe_int) (fun _ _ => rfl)))
      (pss_cons (ps_set (i := 6) nd rfl (Or.inl rfl) (pe_ix (ixl K) (pv 1) pe_int (fun _ _ => rfl)))
      (pss_cut (ps_if (pt_cmpR op_ne (pe_op op_mod (pe_ix (ixl K) (pv 1) pe_int (fun _ _ => rfl)) pe_int) pe_int (nomark _)) (pss_one (ps_set (i := 6) nd rfl (Or.inl rfl) (pe_ix (ixl K) (pe_lst (pa_cons pe_int (pa_cons pe_int (pa_cons pe_int (pa_cons pe_int (pa_cons pe_int (pa_cons pe_int (pa_cons pe_int (pa_cons pe_int pa_nil))))))))) (pe_op op_mod (pe_ix (ixl K) (pv 1) pe_int (fun _ _ => rfl)) pe_int) (fun _ _ => rfl)))) pss_nil)
      (pss_cons (ps_set (i := 7) nd rfl (Or.inl rfl) (pe_ix (ixl K) (pv 2) (pe_op op_mod (pe_ix (ixl K) (pv 1) pe_int (fun _ _ => rfl)) (pe_callB (cr_len K) (by rfl) T.n_len (by decide +kernel) (pa_cons (pv 2) pa_nil))) (fun _ _ => rfl)))
      (pss_cons (ps_if (pt_cmpR op_eq (pv 0) pe_int (nomark _)) (pss_one (ps_ret (pe_lst (pa_cons pe_int (pa_cons (pv 3) (pa_cons (pe_op op_fdiv (pv 6) pe_int) (pa_cons (pe_op op_mod (pv 6) pe_int) pa_nil))))))) pss_nil)
      (pss_cons (ps_if (pt_cmpR op_le (pv 0) pe_int (nomark _)) (pss_one (ps_ret (pe_lst (pa_cons (pv 0) (pa_cons (pe_op op_add (pe_op op_mul pe_int (pv 3)) (pv 4)) pa_nil))))) pss_nil)
      (pss_cons (ps_if (pt_cmpR op_le (pv 0) pe_int (nomark _)) (pss_one (ps_ret (pe_lst (pa_cons (pv 0) (pa_cons (pe_op op_add (pe_op op_mul pe_int (pv 3)) (pv 4)) (pa_cons (pe_op op_fdiv (pv 6) pe_int) (pa_cons (pe_op op_mod (pv 6) pe_int) pa_nil))))))) pss_nil)
      (pss_cons (ps_if (pt_cmpR op_le (pv 0) pe_int (nomark _)) (pss_one (ps_ret (pe_lst (pa_cons (pv 0) (pa_cons (pv 3) (pa_cons (pv 5) pa_nil)))))) pss_nil)
      (pss_cons (ps_if (PW.pt (pw_or (pt_cmpR op_eq (pv 0) pe_int (nomark _)) (pw_or1 (pt_cmpR op_eq (pv 0) pe_int (nomark _))))) (pss_one (ps_ret (pe_lst (pa_cons (pv 0) (pa_cons (pv 5) pa_nil))))) pss_nil)
      (pss_cons (ps_if (pt_cmpR op_eq (pv 0) pe_int (nomark _)) (pss_one (ps_ret (pe_lst (pa_cons pe_int (pa_cons (pe_op op_mod (pe_ix (ixl K) (pv 1) pe_int (fun _ _ => rfl)) pe_int) pa_nil))))) pss_nil)
      (pss_cons (ps_if (PW.pt (pw_or (pt_cmpR op_eq (pv 0) pe_int (nomark _)) (pw_or1 (pt_cmpR op_eq (pv 0) pe_int (nomark _))))) (pss_one (ps_ret (pe_lst (pa_cons (pv 0) (pa_cons (pe_op op_fdiv (pv 7) pe_int) (pa_cons (pe_op op_mod (pv 7) pe_int) pa_nil)))))) pss_nil)
      (pss_cons (ps_if (PW.pt (pw_or (pt_cmpR op_eq (pv 0) pe_int (nomark _)) (pw_or1 (pt_cmpR op_eq (pv 0) pe_int (nomark _))))) (pss_one (ps_ret (pe_lst (pa_cons (pv 0) (pa_cons (pv 3) (pa_cons (pe_op op_fdiv (pv 7) pe_int) (pa_cons (pe_op op_mod (pv 7) pe_int) pa_nil))))))) pss_nil)
      (pss_cons (ps_if (PW.pt (pw_or (pt_cmpR op_eq (pv 0) pe_int (nomark _)) (pw_or1 (pt_cmpR op_eq (pv 0) pe_int (nomark _))))) (pss_cons (ps_set (i := 8) nd rfl (Or.inl rfl) (pe_lst (pa_cons (pv 0) (pa_cons (pv 3) (pa_cons (pe_op op_add pe_int (pe_op op_mod (pe_ix (ixl K) (pv 1) pe_int (fun _ _ => rfl)) pe_int)) pa_nil)))))
      (pss_cons (ps_for PassesOwn.never rfl (pi_range1 (by rfl) T.n_range (pa_cons (pe_op op_add pe_int (pe_op op_mod (pe_ix (ixl K) (pv 1) pe_int (fun _ _ => rfl)) pe_int)) pa_nil)) (pg_name (i := 9) nd rfl (Or.inl rfl)) (pss_cons (ps_set (i := 10) nd rfl (Or.inl rfl) (pe_ix (ixl K) (pv 2) (pe_op op_mod (pe_op op_add (pe_ix (ixl K) (pv 1) pe_int (fun _ _ => rfl)) (pe_op op_mul (pe_ix (ixl K) (pv 1) pe_int (fun _ _ => rfl)) (pv 9))) (pe_callB (cr_len K) (by rfl) T.n_len (by decide +kernel) (pa_cons (pv 2) pa_nil))) (fun _ _ => rfl)))
      (pss_one (ps_set (i := 8) nd rfl (Or.inl rfl) (pe_op op_cat (pv 8) (pe_lst (pa_cons (pe_op op_fdiv (pv 10) pe_int) (pa_cons (pe_op op_mod (pv 10) pe_int) pa_nil))))))))
      (pss_one (ps_ret (pv 8))))) pss_nil)
      (pss_cons (ps_if (PW.pt (pw_or (pt_cmpR op_eq (pv 0) pe_int (nomark _)) (pw_or1 (pt_cmpR op_eq (pv 0) pe_int (nomark _))))) (pss_one (ps_ret (pe_lst (pa_cons (pv 0) (pa_cons (pv 3) pa_nil))))) pss_nil)
      (pss_one (ps_ret (pe_lst (pa_cons (pv 0) pa_nil)))))))))))))))))))), ?_⟩
    have D : ∀ i, i < 7 → Wd (gI ds i) := fun i hi => gI_all hds.2 (by rw [hds.1]; exact hi)
    have dj : ∀ (j : Nat) (i : Int) (σ : L2.St) (H2 : Hp), Ex H H2 → σ[1]? = some (some (.ref dl)) → i = (j : Int) → j < 7 → Ev (tOp (rIxL K) (tVar 1) (tC (.int i))) σ H2 (.int (gI ds j)) := fun j i σ H2 e hσ hi hj => ev_op (ev_var hσ) ev_c (rv_ixL (sq_of (e _ _ hdl)) (at_gN hi (by rw [hds.1]; exact hj)))
    have m : ∀ x n : Int, 0 < n → 0 ≤ x % n ∧ x % n < n := fun x n h => ⟨Int.emod_nonneg _ (by omega), Int.emod_lt_of_pos _ h⟩
    have d1 := D 1 (by decide)
    have d2 := D 2 (by decide)
    have d3 := D 3 (by decide)
    have d4 := D 4 (by decide)
    have d5 := D 5 (by decide)
    have r8 := m (gI ds 1) 8 (by decide)
    have s8 := m (gI ds 2) 8 (by decide)
    refine q_asg (v := .int (gI ds 1 % 8)) (ev_op (dj 1 _ _ _ (Ex.refl _) rfl rfl (by decide)) ev_c (rv_I (show (0 : Int) < 8 by decide))) fun H1 e1 => ?_
    refine q_asg (v := .int (gI ds 2 % 8)) (ev_op (dj 2 _ _ _ e1 rfl rfl (by decide)) ev_c (rv_I (show (0 : Int) < 8 by decide))) fun H2 e2 => ?_
    have e02 := e1.trans e2
    have i8 := m (gI ds 3 / 256) 8 (by decide)
    refine q_asg (v := .int (gI [0, 1, 1, 2, 2, 3, 4, gI ds 3 % 256] (gI ds 3 / 256 % 8).toNat)) (ev_pick [0, 1, 1, 2, 2, 3, 4, gI ds 3 % 256] (ea_cons ev_c (ea_cons ev_c (ea_cons ev_c (ea_cons ev_c (ea_cons ev_c (ea_cons ev_c (ea_cons ev_c (ea_cons (ev_op (dj 3 _ _ _ e02 rfl rfl (by decide)) ev_c (rv_I (show (0 : Int) < 256 by decide))) ea_nil))))))))
      (fun H3 e3 => ev_op (ev_op (dj 3 _ _ _ (e02.trans e3) rfl rfl (by decide)) ev_c (rv_I (show CDiv _ _ from ⟨by omega, by omega⟩))) ev_c (rv_I (show (0 : Int) < 8 by decide))) i8.1 (by show _ < (8 : Int); exact i8.2) (Nat.le_of_ble_eq_true rfl)) fun H3 e3 => ?_
    have hsm : By (gI [0, 1, 1, 2, 2, 3, 4, gI ds 3 % 256] (gI ds 3 / 256 % 8).toNat) := by
      refine gI_all (P := By) (fun y hy => ?_) (by show _ < 8; omega)
      simp only [List.mem_cons, List.not_mem_nil, or_false] at hy
      have := by_mod (gI ds 3)
      unfold By at *
      rcases hy with rfl | rfl | rfl | rfl | rfl | rfl | rfl | rfl <;> omega
    generalize gI [0, 1, 1, 2, 2, 3, 4, gI ds 3 % 256] (gI ds 3 / 256 % 8).toNat = sm at *
    have e03 := e02.trans e3
    refine q_asg (v := .int (gI ds 4)) (dj 4 _ _ _ e03 rfl rfl (by decide)) fun H4 e4 => ?_
    have e04 := e03.trans e4
    refine q_cut (M := fun σ' H' => ∃ wd : Int, Wd wd ∧ σ' = [some (.int c), some (.ref dl), some (.ref pl), some (.int (gI ds 1 % 8)), some (.int (gI ds 2 % 8)), some (.int sm), some (.int wd), none, none, none, none] ∧ Ex H H') ?_ fun σ' H' h => ?_
    · refine s_when (b := !decide (V.int (gI ds 5 % 3) = V.int 0)) (et_test (ev_op (ev_op (dj 5 _ _ _ e04 rfl rfl (by decide)) ev_c (rv_I (show (0 : Int) < 3 by decide))) ev_c (rv_neb rfl rfl))) (fun hb H5 e5 => ?_) (fun hb H5 e5 => ⟨gI ds 4, d4, rfl, e04.trans e5⟩)
      have i4 := m (gI ds 4) 8 (by decide)
      refine s_asg (v := .int (gI [0, 1, 2, 3, 64510, 64512, 65535, 40] (gI ds 4 % 8).toNat)) (ev_pick [0, 1, 2, 3, 64510, 64512, 65535, 40] (by simp only [List.map]; walk_at "uw.ea") (fun H6 e6 => ev_op (dj 4 _ _ _ ((e04.trans e5).trans e6) rfl rfl (by decide)) ev_c (rv_I (show (0 : Int) < 8 by decide))) i4.1 (by show _ < (8 : Int); exact i4.2) (Nat.le_of_ble_eq_true rfl)) fun H6 e6 => ⟨_, ?_, rfl, (e04.trans e5).trans e6⟩
      refine gI_all (P := Wd) (fun y hy => ?_) (by show _ < 8; omega)
      simp only [List.mem_cons, List.not_mem_nil, or_false] at hy
      unfold Wd
      rcases hy with rfl | rfl | rfl | rfl | rfl | rfl | rfl | rfl <;> omega
    obtain ⟨wd, hwd, rfl, e⟩ := h
    clear e1 e2 e3 e4 e02 e03 e04
    obtain ⟨np, npz, hpw⟩ := hps
    have pick : ∀ x : Int, Wd (gI ps (x % (ps.length : Int)).toNat) ∧ 0 ≤ x % (ps.length : Int) ∧ x % (ps.length : Int) < (ps.length : Int) := fun x => by
      have := m x (ps.length : Int) (by omega)
      exact ⟨gI_all hpw (by omega), this⟩
    have pg := pick (gI ds 4)
    refine q_asg (v := .int (gI ps (gI ds 4 % (ps.length : Int)).toNat)) (ev_op (ev_var rfl) (ev_op (dj 4 _ _ _ e rfl rfl (by decide)) (ev_lenI (ev_var rfl) (sq_of (e _ _ hpl))) (rv_I (show (0 : Int) < (ps.length : Int) by omega))) (rv_ixL (sq_of (e _ _ hpl)) (at_gI pg.2.1 pg.2.2))) fun H1 e1 => ?_
    have pg1 := pg.1
    generalize gI ps (gI ds 4 % (ps.length : Int)).toNat = go at *
    generalize gI ds 1 % 8 = r at *
    generalize gI ds 2 % 8 = s2 at *
    replace e1 := e.trans e1
    have hcb : By c := ⟨by omega, by omega⟩
    have hrb : By r := ⟨by omega, by omega⟩
    have hwv : 0 ≤ wd ∧ wd < 65536 := hwd
    have hgv : 0 ≤ go ∧ go < 65536 := pg1
    have ret : ∀ (bs : List Int) (te : TA) (H2 : Hp) (σ : L2.St) (D : Ends), Ex H H2 → EvA te σ H2 (bs.map V.int) → CodeR bs → D.rt = Q → tRet (tLst te) D σ H2 := fun bs te H2 σ D eH h hR hD => by
      refine s_retL (el_lst h (by rw [List.length_map]; have := hR.2.2; omega)) fun p H3 hp e3 h3 => ?_
      rw [hD]
      exact k _ _ (eH.trans e3) ⟨p, bs, rfl, fresh_back eH hp, h3, hR⟩
    have dw : CDiv wd 256 := ⟨by omega, by omega⟩
    have dg : CDiv go 256 := ⟨by omega, by omega⟩
    have m256 : (0 : Int) < 256 := by decide
    have c16 : CMul 16 r := Or.inl ⟨by omega, by omega⟩
    refine q_when (b := decide (V.int c = V.int 1)) (et_test (ev_op (ev_var rfl) ev_c (rv_eqb rfl rfl))) (fun hb H2 e2 => ret [1, r, wd / 256, wd % 256] _ _ _ _ (e1.trans e2) (ea_cons ev_c (ea_cons (ev_var rfl) (ea_cons (ev_op (ev_var rfl) ev_c (rv_I dw)) (ea_cons (ev_op (ev_var rfl) ev_c (rv_I m256)) ea_nil)))) ⟨by_cons ⟨by decide, by decide⟩ (by_cons hrb (by_cons (by_div hwd) (by_cons (by_mod _) by_nil))), by show 1 ≤ 4; decide, by show 4 ≤ 9; decide⟩ rfl) (fun _ H2 e2 => ?_)
    replace e1 := e1.trans e2
    have b16 : By (16 * r + s2) := ⟨by omega, by omega⟩
    refine q_when (b := decide (c ≤ 13)) (et_test (ev_op (ev_var rfl) ev_c rv_I0)) (fun hb H2 e2 => ret [c, 16 * r + s2] _ _ _ _ (e1.trans e2) (ea_cons (ev_var rfl) (ea_cons (ev_op (ev_op ev_c (ev_var rfl) (rv_I c16)) (ev_var rfl) rv_I0) ea_nil)) ⟨by_cons hcb (by_cons b16 by_nil), by show 1 ≤ 2; decide, by show 2 ≤ 9; decide⟩ rfl) (fun _ H2 e2 => ?_)
    replace e1 := e1.trans e2
    refine q_when (b := decide (c ≤ 15)) (et_test (ev_op (ev_var rfl) ev_c rv_I0)) (fun hb H2 e2 => ret [c, 16 * r + s2, wd / 256, wd % 256] _ _ _ _ (e1.trans e2) (ea_cons (ev_var rfl) (ea_cons (ev_op (ev_op ev_c (ev_var rfl) (rv_I c16)) (ev_var rfl) rv_I0) (ea_cons (ev_op (ev_var rfl) ev_c (rv_I dw)) (ea_cons (ev_op (ev_var rfl) ev_c (rv_I m256)) ea_nil)))) ⟨by_cons hcb (by_cons b16 (by_cons (by_div hwd) (by_cons (by_mod _) by_nil))), by show 1 ≤ 4; decide, by show 4 ≤ 9; decide⟩ rfl) (fun _ H2 e2 => ?_)
    replace e1 := e1.trans e2
    refine q_when (b := decide (c ≤ 18)) (et_test (ev_op (ev_var rfl) ev_c rv_I0)) (fun hb H2 e2 => ret [c, r, sm] _ _ _ _ (e1.trans e2) (ea_cons (ev_var rfl) (ea_cons (ev_var rfl) (ea_cons (ev_var rfl) ea_nil))) ⟨by_cons hcb (by_cons hrb (by_cons hsm by_nil)), by show 1 ≤ 3; decide, by show 3 ≤ 9; decide⟩ rfl) (fun _ H2 e2 => ?_)
    replace e1 := e1.trans e2
    refine q_when (b := decide (V.int c = V.int 19) || decide (V.int c = V.int 20)) (et_or (et_test (ev_op (ev_var rfl) ev_c (rv_eqb rfl rfl))) fun _ => et_test (ev_op (ev_var rfl) ev_c (rv_eqb rfl rfl))) (fun hb H2 e2 => ret [c, sm] _ _ _ _ (e1.trans e2) (ea_cons (ev_var rfl) (ea_cons (ev_var rfl) ea_nil)) ⟨by_cons hcb (by_cons hsm by_nil), by show 1 ≤ 2; decide, by show 2 ≤ 9; decide⟩ rfl) (fun _ H2 e2 => ?_)
    replace e1 := e1.trans e2
    refine q_when (b := decide (V.int c = V.int 31)) (et_test (ev_op (ev_var rfl) ev_c (rv_eqb rfl rfl))) (fun hb H2 e2 => ret [31, gI ds 3 % 256] _ _ _ _ (e1.trans e2) (ea_cons ev_c (ea_cons (ev_op (dj 3 _ _ _ (e1.trans e2) rfl rfl (by decide)) ev_c (rv_I m256)) ea_nil)) ⟨by_cons ⟨by decide, by decide⟩ (by_cons (by_mod _) by_nil), by show 1 ≤ 2; decide, by show 2 ≤ 9; decide⟩ rfl) (fun _ H2 e2 => ?_)
    replace e1 := e1.trans e2
    refine q_when (b := decide (V.int c = V.int 21) || decide (V.int c = V.int 25)) (et_or (et_test (ev_op (ev_var rfl) ev_c (rv_eqb rfl rfl))) fun _ => et_test (ev_op (ev_var rfl) ev_c (rv_eqb rfl rfl))) (fun hb H2 e2 => ret [c, go / 256, go % 256] _ _ _ _ (e1.trans e2) (ea_cons (ev_var rfl) (ea_cons (ev_op (ev_var rfl) ev_c (rv_I dg)) (ea_cons (ev_op (ev_var rfl) ev_c (rv_I m256)) ea_nil))) ⟨by_cons hcb (by_cons (by_div pg1) (by_cons (by_mod _) by_nil)), by show 1 ≤ 3; decide, by show 3 ≤ 9; decide⟩ rfl) (fun _ H2 e2 => ?_)
    replace e1 := e1.trans e2
    refine q_when (b := decide (V.int c = V.int 22) || decide (V.int c = V.int 23)) (et_or (et_test (ev_op (ev_var rfl) ev_c (rv_eqb rfl rfl))) fun _ => et_test (ev_op (ev_var rfl) ev_c (rv_eqb rfl rfl))) (fun hb H2 e2 => ret [c, r, go / 256, go % 256] _ _ _ _ (e1.trans e2) (ea_cons (ev_var rfl) (ea_cons (ev_var rfl) (ea_cons (ev_op (ev_var rfl) ev_c (rv_I dg)) (ea_cons (ev_op (ev_var rfl) ev_c (rv_I m256)) ea_nil)))) ⟨by_cons hcb (by_cons hrb (by_cons (by_div pg1) (by_cons (by_mod _) by_nil))), by show 1 ≤ 4; decide, by show 4 ≤ 9; decide⟩ rfl) (fun _ H2 e2 => ?_)
    replace e1 := e1.trans e2
    refine q_when (b := decide (V.int c = V.int 24) || decide (V.int c = V.int 26)) (et_or (et_test (ev_op (ev_var rfl) ev_c (rv_eqb rfl rfl))) fun _ => et_test (ev_op (ev_var rfl) ev_c (rv_eqb rfl rfl))) (fun hb H2 e2 => ?_) (fun _ H2 e2 => ?_)
    · have n3 := m (gI ds 3) 3 (by decide)
      replace e1 := e1.trans e2
      have i3 : (0 : Int) < 3 := by decide
      refine q_asgL (el_lst (vs := [.int c, .int r, .int (1 + gI ds 3 % 3)]) (ea_cons (ev_var rfl) (ea_cons (ev_var rfl) (ea_cons (ev_op ev_c (ev_op (dj 3 _ _ _ e1 rfl rfl (by decide)) ev_c (rv_I i3)) rv_I0) ea_nil))) (Nat.le_of_ble_eq_true rfl)) fun r0 H3 hr0 e3 h3 => ?_
      refine q_forR1 (n := 1 + gI ds 3 % 3) (ea_cons (ev_op ev_c (ev_op (dj 3 _ _ _ (e1.trans e3) rfl rfl (by decide)) ev_c (rv_I i3)) rv_I0) ea_nil) (by omega) (fun i σ' H' => ∃ (row : Addr) (bs : List Int) (u v : Option V), σ' = [some (.int c), some (.ref dl), some (.ref pl), some (.int r), some (.int s2), some (.int sm), some (.int wd), some (.int go), some (.ref row), u, v] ∧ Ex H H' ∧ H row = none ∧ H' row = some (.lst (bs.map V.int)) ∧ Bytes bs ∧ bs.length = 3 + 2 * i)
        (fun H4 e4 => ⟨r0, [c, r, 1 + gI ds 3 % 3], none, none, rfl, (e1.trans e3).trans e4, fresh_back e1 hr0, e4 _ _ h3, by_cons hcb (by_cons hrb (by_cons ⟨by omega, by omega⟩ by_nil)), rfl⟩) (fun i σ' H' hi hp => ?_) (fun σ' H' hp => ?_)
      · obtain ⟨row, bs, u, v, rfl, eH, hrow0, hrow, hby, hbl⟩ := hp
        have pk := pick (gI ds 4 + gI ds 5 * (i : Int))
        have pw := by_div pk.1
        have pv2 : 0 ≤ gI ps ((gI ds 4 + gI ds 5 * (i : Int)) % (ps.length : Int)).toNat ∧ gI ps ((gI ds 4 + gI ds 5 * (i : Int)) % (ps.length : Int)).toNat < 65536 := pk.1
        have c5 : CMul (gI ds 5) (i : Int) := Or.inl ⟨by unfold Wd at d5; omega, by unfold Wd at d5; omega⟩
        refine q_asg (v := .int (gI ps ((gI ds 4 + gI ds 5 * (i : Int)) % (ps.length : Int)).toNat)) (ev_op (ev_var rfl) (ev_op (ev_op (dj 4 _ _ _ eH rfl rfl (by decide)) (ev_op (dj 5 _ _ _ eH rfl rfl (by decide)) (ev_var rfl) (rv_I c5)) rv_I0) (ev_lenI (ev_var rfl) (sq_of (eH _ _ hpl))) (rv_I (show (0 : Int) < (ps.length : Int) by omega))) (rv_ixL (sq_of (eH _ _ hpl)) (at_gI pk.2.1 pk.2.2))) fun H4 e4 => ?_
        generalize gI ps ((gI ds 4 + gI ds 5 * (i : Int)) % (ps.length : Int)).toNat = y at *
        refine s_asgL (el_catV (ys := [.int (y / 256), .int (y % 256)]) (ev_var rfl) (e4 _ _ hrow) (el_lst (ea_cons (ev_op (ev_var rfl) ev_c (rv_I (show CDiv _ _ from ⟨by omega, by omega⟩))) (ea_cons (ev_op (ev_var rfl) ev_c (rv_I m256)) ea_nil)) (Nat.le_of_ble_eq_true rfl)) (by rw [List.length_map, hbl]; show 3 + 2 * i + 2 ≤ 100000; omega)) fun row2 H5 hr2 e5 h5 => ?_
        refine ⟨row2, bs ++ [y / 256, y % 256], _, _, rfl, (eH.trans e4).trans e5, fresh_back (eH.trans e4) hr2, by rw [h5, List.map_append] <;> rfl, fun x hx => ?_, by rw [List.length_append, hbl]; show 3 + 2 * i + 2 = 3 + 2 * (i + 1); omega⟩
        rcases List.mem_append.mp hx with z | z
        · exact hby x z
        · exact by_cons pw (by_cons (by_mod y) by_nil) x z
      · obtain ⟨row, bs, u, v, rfl, eH, hrow0, hrow, hby, hbl⟩ := hp
        dsimp only
        refine s_ret (v := .ref row) (ev_var rfl) fun H4 e4 => ?_
        exact k _ _ (eH.trans e4) ⟨row, bs, rfl, hrow0, e4 _ _ hrow, hby, by omega, by omega⟩
    replace e1 := e1.trans e2
    refine q_when (b := decide (V.int c = V.int 28) || decide (V.int c = V.int 29)) (et_or (et_test (ev_op (ev_var rfl) ev_c (rv_eqb rfl rfl))) fun _ => et_test (ev_op (ev_var rfl) ev_c (rv_eqb rfl rfl))) (fun hb H2 e2 => ret [c, r] _ _ _ _ (e1.trans e2) (ea_cons (ev_var rfl) (ea_cons (ev_var rfl) ea_nil)) ⟨by_cons hcb (by_cons hrb by_nil), by show 1 ≤ 2; decide, by show 2 ≤ 9; decide⟩ rfl) (fun _ H2 e2 => ?_)
    exact ret [c] _ _ _ _ (e1.trans e2) (ea_cons (ev_var rfl) ea_nil) ⟨by_cons hcb by_nil, by show 1 ≤ 1; decide, by show 1 ≤ 9; decide⟩ rfl
theorem sp_size {bad : Addr} {x : V} {H : Hp} (h : LineAt bad H x) : SpP spSize ([x] ++ []) H (fun v _ => ∃ n, v = .int n ∧ 1 ≤ n ∧ n ≤ 9) := fun H1 e Q q E => ⟨bad, x, rfl, h.ex e, q⟩
theorem sp_code {c : Int} {dl pl : Addr} {ds ps : List Int} {H : Hp} (hc : 1 ≤ c ∧ c ≤ 31) (h1 : H dl = some (.lst (ds.map V.int))) (h2 : DrOk ds) (h3 : H pl = some (.lst (ps.map V.int))) (h4 : PlOk ps) : SpP spCode ([.int c, .ref dl, .ref pl] ++ []) H (NewI CodeR H) := fun H1 e Q q E => ⟨c, dl, pl, ds, ps, rfl, hc, e _ _ h1, h2, e _ _ h3, h4, fun v H2 e2 hv => q v H2 e2 (hv.back e)⟩
theorem ok_law_image (T : Txt K mg CI CM) : FnG P w K mg base "_law_image" 2 ["_law_lines_here"] spImage := by
  refine fnG_of T.d_law_image sc_law_image (fun _ _ _ _ _ _ us hl => match us, hl with | [_], _ => rfl) (fun vs H Q E h => ?_) fun f cdv A outer s H vs Q E hr h => ?_
  · obtain ⟨bad, p, xs, rfl, _⟩ := h
    rfl
  · obtain ⟨bad, p, xs, rfl, hp, hn, hL, k⟩ := h
    have nd := sc_law_image.nd
    have hu := hu_of hr
    refine ⟨_, (pss_cons (ps_set (i := 1) nd rfl (Or.inl rfl) (pe_lst pa_nil))
      (pss_cons (ps_set (i := 2) nd rfl (Or.inl rfl) pe_int)
      (pss_cons (ps_for PassesOwn.never rfl (p_list K (pv 0)) (pg_name (i := 3) nd rfl (Or.inl rfl)) (pss_cons (ps_expr (p_bm K (id := "list.append") (pe_bm PySem.F.plainAttrs_list PySem.F.slot_list_append PySem.F.type_list_append mt_append (pv 1) (pa_cons (pv 2) pa_nil))))
      (pss_one (ps_set (i := 2) nd rfl (Or.inl rfl) (pe_op op_add (pv 2) (pe_fn (ok_law_size T) (hr.mono (by decide)) (by rfl) (pa_cons (pv 3) pa_nil)))))))
      (pss_cons (ps_set (i := 4) nd rfl (Or.inl rfl) (pe_lst pa_nil))
      (pss_cons (ps_for PassesOwn.never rfl (p_list K (pv 0)) (pg_name (i := 3) nd rfl (Or.inl rfl)) (pss_one (ps_set (i := 4) nd rfl (Or.inl rfl) (pe_op op_cat (pv 4) (pe_fn (ok_law_code T) (hr.mono (by decide)) (by rfl) (pa_cons (pe_ix (ixl K) (pv 3) pe_int (fun _ _ => rfl)) (pa_cons (pe_ix (ixl K) (pv 3) pe_int (fun _ _ => rfl)) (pa_cons (pv 1) pa_nil))))))))
      (pss_one (ps_ret (pv 4)))))))), ?_⟩
    refine q_asgL (el_lst ea_nil (Nat.le_of_ble_eq_true rfl)) fun q H1 hq e1 h1 => ?_
    refine q_asg (v := .int 0) ev_c fun H2 e2 => ?_
    have e12 := e1.trans e2
    refine q_forLn (ev_var rfl) (sq_of (e12 _ _ hp)) (fun i σ' H' => ∃ (t : Int) (u : Option V) (ys : List Int), σ' = [some (.ref p), some (.ref q), some (.int t), u, none] ∧ Ex H H' ∧ H' q = some (.lst (ys.map V.int)) ∧ ys.length = i ∧ (0 ≤ t ∧ t ≤ 9 * i) ∧ ∀ y ∈ ys, Wd y)
      (fun H3 e3 => ⟨0, none, [], rfl, e12.trans e3, (e2.trans e3) _ _ h1, rfl, by omega, by simp⟩) (fun i σ' H' _ pp => by obtain ⟨t, u, ys, rfl, e, _⟩ := pp; exact sq_of (e _ _ hp)) (fun i x σ' H' hx pp => ?_) (fun σ' H' pp => ?_)
    · obtain ⟨t, u, ys, rfl, e, hy, hl, ht, hw⟩ := pp
      have hi : i < xs.length := (List.getElem?_eq_some_iff.mp hx).1
      have hLx := hL x (List.mem_of_getElem? hx)
      refine q_st (s_appI (y := t) e hq hy (by omega) rfl (ev_var rfl) fun H4 e4 e5 => ?_)
      refine s_asgP (evp_addI (i := t) (R := fun n => 1 ≤ n ∧ n ≤ 9) (ev_var rfl) (evp_call (vs := [x]) (ea_cons (ev_var rfl) ea_nil) (sp_size (hLx.ex e5)))) fun v H6 e6 hv => ?_
      obtain ⟨n, rfl, hn1, hn2⟩ := hv
      refine ⟨t + n, _, ys ++ [t], rfl, e5.trans e6, e6 _ _ upd_same, by rw [List.length_append, hl] <;> rfl, by omega, fun y hy2 => ?_⟩
      rcases List.mem_append.mp hy2 with z | z
      · exact hw y z
      · rw [List.mem_singleton.mp z]
        exact ⟨by omega, by omega⟩
    obtain ⟨t, u, ys, rfl, e, hy, hl, ht, hw⟩ := pp
    have hpl : PlOk ys := ⟨by omega, by omega, hw⟩
    refine q_asgL (el_lst ea_nil (Nat.le_of_ble_eq_true rfl)) fun d0 H3 hd0 e3 h3 => ?_
    have e03 := e.trans e3
    refine q_forLn (ev_var rfl) (sq_of (e03 _ _ hp)) (fun i σ' H' => ∃ (dd : Addr) (u : Option V) (bs : List Int), σ' = [some (.ref p), some (.ref q), some (.int t), u, some (.ref dd)] ∧ Ex H H' ∧ H dd = none ∧ H' dd = some (.lst (bs.map V.int)) ∧ H' q = some (.lst (ys.map V.int)) ∧ Bytes bs ∧ i ≤ bs.length ∧ bs.length ≤ 9 * i)
      (fun H4 e4 => ⟨d0, u, [], rfl, e03.trans e4, fresh_back e hd0, e4 _ _ h3, (e3.trans e4) _ _ hy, by_nil, Nat.zero_le _, Nat.le_refl _⟩) (fun i σ' H' _ pp => by obtain ⟨dd, u, bs, rfl, e, _⟩ := pp; exact sq_of (e _ _ hp)) (fun i x σ' H' hx pp => ?_) (fun σ' H' pp => ?_)
    · obtain ⟨dd, u, bs, rfl, e4, hdd0, hdd, hy4, hby, hb1, hb2⟩ := pp
      have hi : i < xs.length := (List.getElem?_eq_some_iff.mp hx).1
      obtain ⟨l, c, dl, ds, rfl, _, _, hl1, hl2, hc, hds⟩ := (hL x (List.mem_of_getElem? hx)).ex e4
      refine s_asgP (evp_cat (R := CodeR) (ev_var rfl) hdd (evp_call (vs := [.int c, .ref dl, .ref q]) (ea_cons (ev_op (ev_var rfl) ev_c (rv_ixL (sq_of hl1) rfl)) (ea_cons (ev_op (ev_var rfl) ev_c (rv_ixL (sq_of hl1) rfl)) (ea_cons (ev_var rfl) ea_nil))) (sp_code hc hl2 hds hy4 hpl)) fun zs hz => by have := hz.2.2; omega) fun v H5 e5 hv => ?_
      obtain ⟨d2, _, rfl, hd2, hd3, zs, rfl, hz⟩ := hv
      refine ⟨d2, _, bs ++ zs, rfl, e4.trans e5, fresh_back e4 hd2, hd3, e5 _ _ hy4, fun y hy2 => ?_, by rw [List.length_append]; have := hz.2.1; omega, by rw [List.length_append]; have := hz.2.2; omega⟩
      rcases List.mem_append.mp hy2 with z | z
      · exact hby y z
      · exact hz.1 y z
    · obtain ⟨dd, u, bs, rfl, e4, hdd0, hdd, hy4, hby, hb1, hb2⟩ := pp
      exact s_ret (v := .ref dd) (ev_var rfl) fun H5 e5 => k _ _ (e4.trans e5) ⟨dd, bs, rfl, hdd0, e5 _ _ hdd, hby, hb1, hb2⟩
end

theorem intD_lay : ∀ ns : List Int, PyData.canLayAll0 (ns.map PyData.int) = true
  | [] => by simp [PyData.canLayAll0]
  | n :: ns => by simp [PyData.canLayAll0, PyData.canLay0, intD_lay ns]
theorem intD_dep : ∀ ns : List Int, PyData.depthAll (ns.map PyData.int) ≤ 1
  | [] => by simp [PyData.depthAll]
  | n :: ns => by
    have h := intD_dep ns
    simp only [List.map_cons, PyData.depthAll, PyData.depth]
    omega
theorem intD_shaped (ns : List Int) : SeqAt.shaped (.list (ns.map PyData.int)) = true := by
  have h := intD_dep ns
  show (PyData.canLay0 (.list (ns.map PyData.int)) && decide (PyData.depth (.list (ns.map PyData.int)) ≤ 64)) = true
  rw [Bool.and_eq_true]
  exact ⟨by simp only [PyData.canLay0]; exact intD_lay ns, decide_eq_true (by simp only [PyData.depth]; omega)⟩
def twoD (p : Int × Int) : PyData := .tuple [.int p.1, .int p.2]
theorem twoD_lay : ∀ ps : List (Int × Int), PyData.canLayAll0 (ps.map twoD) = true
  | [] => by simp [PyData.canLayAll0]
  | p :: ps => by simp [twoD, PyData.canLayAll0, PyData.canLay0, twoD_lay ps]
theorem twoD_dep : ∀ ps : List (Int × Int), PyData.depthAll (ps.map twoD) ≤ 2
  | [] => by simp [PyData.depthAll]
  | p :: ps => by
    have h := twoD_dep ps
    simp only [List.map_cons, PyData.depthAll, twoD, PyData.depth]
    omega
theorem twoD_shaped (ps : List (Int × Int)) : SeqAt.shaped (.list (ps.map twoD)) = true := by
  have h := twoD_dep ps
  show (PyData.canLay0 (.list (ps.map twoD)) && decide (PyData.depth (.list (ps.map twoD)) ≤ 64)) = true
  rw [Bool.and_eq_true]
  exact ⟨by simp only [PyData.canLay0]; exact twoD_lay ps, decide_eq_true (by simp only [PyData.depth]; omega)⟩
section
variable {K : PySem.W.Frag} {H : Hp}
theorem dp_ints : ∀ ns : List Int, DpAll K H (ns.map V.int) (ns.map PyData.int)
  | [] => .nil
  | n :: ns => .cons (.int n) (dp_ints ns)
theorem dp_prs : ∀ (as : List Addr) (ps : List (Int × Int)), PrsAt H as ps → DpAll K H (as.map V.ref) (ps.map twoD)
  | [], [], _ => .nil
  | [], p :: ps, h => by have := h.1; cases this
  | a :: as, [], h => by have := h.1; cases this
  | a :: as, p :: ps, h => by
    refine .cons ?_ (dp_prs as ps ⟨by have := h.1; simpa using this, fun i b e => h.2 (i + 1) b e⟩)
    obtain ⟨q, h1, h2⟩ := h.2 0 a rfl
    obtain rfl : p = q := Option.some.inj h1
    exact .tup (st_of h2) (.cons (.int _) (.cons (.int _) .nil))
theorem rv_neI {p q : Addr} {ns : List Int} (h1 : H p = some (.lst (ns.map V.int))) (h2 : H q = some (.lst (ns.map V.int))) : RV (rNeD K) (.ref p) (.ref q) H (.bl false) := fun H1 e Q k =>
  ⟨_, _, .lst (sq_of (e _ _ h1)) (dp_ints ns), .lst (sq_of (e _ _ h2)) (dp_ints ns), intD_shaped ns, intD_shaped ns, by
    rw [SeqAt.eqv_refl _ (SeqAt.canLay_of_shaped (intD_shaped ns))]
    exact k H1 (Ex.refl H1)⟩
theorem rv_neP {p q : Addr} {as bs : List Addr} {ps : List (Int × Int)} (h1 : H p = some (.lst (as.map V.ref))) (g1 : PrsAt H as ps) (h2 : H q = some (.lst (bs.map V.ref))) (g2 : PrsAt H bs ps) : RV (rNeD K) (.ref p) (.ref q) H (.bl false) := fun H1 e Q k =>
  ⟨_, _, .lst (sq_of (e _ _ h1)) (dp_prs as ps (g1.chg (Chg.of (S := []) e))), .lst (sq_of (e _ _ h2)) (dp_prs bs ps (g2.chg (Chg.of (S := []) e))), twoD_shaped ps, twoD_shaped ps, by
    rw [SeqAt.eqv_refl _ (SeqAt.canLay_of_shaped (twoD_shaped ps))]
    exact k H1 (Ex.refl H1)⟩
theorem rv_neS {p q : Addr} {s : Sta} (h1 : H p = some (.tup (staV s))) (h2 : H q = some (.tup (staV s))) : RV (rNeD K) (.ref p) (.ref q) H (.bl false) := fun H1 e Q k =>
  ⟨_, _, staD_ok s (st_of (e _ _ h1)), staD_ok s (st_of (e _ _ h2)), staD_shaped s, staD_shaped s, by
    rw [staD_refl]
    exact k H1 (Ex.refl H1)⟩
end
theorem nmeth_status : nmOf "status" := by decide +kernel
theorem nmeth_registers : nmOf "registers" := by decide +kernel
theorem nmeth_outputs : nmOf "outputs" := by decide +kernel
theorem nmeth_waiting : nmOf "waiting" := by decide +kernel
theorem nmeth_left : nmOf "inputs_left" := by decide +kernel
theorem nmeth_written : nmOf "written" := by decide +kernel
theorem nmeth_run : nmOf "run" := by decide +kernel
section
variable {CI CM : Addr} {a : MA} {H : Hp} {m : M} {K : PySem.W.Frag} {σ : L2.St} {ta td te : TE} {E : XK}
theorem evm_status (h : Ev ta σ H (.ref a.p)) (M : MOk CI CM a H m) : EvP (tMeth CM "status" (spSta CI CM) [] E ta tNil) σ H (fun v H2 => ∃ p, v = .ref p ∧ H2 p = some (.tup (staV m.st))) := let ⟨_, g, _⟩ := M.st
  evp_meth (vs := []) h g (mfl_meth _ nmeth_status) ea_nil fun H1 e Q q E => ⟨a, m, rfl, M.ex e, q⟩
theorem elm_registers (h : Ev ta σ H (.ref a.p)) (M : MOk CI CM a H m) : EvL (tMeth CM "registers" (spRgs CI CM) [] E ta tNil) σ H (m.regs.map V.int) := let ⟨_, g, _⟩ := M.st
  el_meth (vs := []) h g (mfl_meth _ nmeth_registers) ea_nil fun H1 e Q q E => ⟨a, m, rfl, M.ex e, q⟩
theorem elm_outputs (h : Ev ta σ H (.ref a.p)) (M : MOk CI CM a H m) : EvL (tMeth CM "outputs" (spOut CI CM) [] E ta tNil) σ H (m.out.map V.int) := let ⟨_, g, _⟩ := M.st
  el_meth (vs := []) h g (mfl_meth _ nmeth_outputs) ea_nil fun H1 e Q q E => ⟨a, m, rfl, M.ex e, q⟩
theorem elm_waiting (h : Ev ta σ H (.ref a.p)) (M : MOk CI CM a H m) : EvL (tMeth CM "waiting" (spWait CI CM) [] E ta tNil) σ H (m.wait.reverse.map V.int) := let ⟨_, g, _⟩ := M.st
  el_meth (vs := []) h g (mfl_meth _ nmeth_waiting) ea_nil fun H1 e Q q E => ⟨a, m, rfl, M.ex e, q⟩
theorem evm_left (h : Ev ta σ H (.ref a.p)) (M : MOk CI CM a H m) : Ev (tMeth CM "inputs_left" (spLeft CI CM) [] E ta tNil) σ H (.int ((m.inp.length : Int) - (m.tk : Int))) := let ⟨_, g, _⟩ := M.st
  ev_meth (vs := []) h g (mfl_meth _ nmeth_left) ea_nil fun H1 e Q q E => ⟨a, m, rfl, M.ex e, q⟩
theorem evm_written (h : Ev ta σ H (.ref a.p)) (M : MOk CI CM a H m) (hz : m.mem.length ≤ 40000) : EvP (tMeth CM "written" (spWrit CI CM) [] E ta tNil) σ H (fun v H2 => ∃ p as, v = .ref p ∧ H2 p = some (.lst (as.map V.ref)) ∧ PrsAt H2 as (wrM m.mem)) := let ⟨_, g, _⟩ := M.st
  evp_meth (vs := []) h g (mfl_meth _ nmeth_written) ea_nil fun H1 e Q q E => ⟨a, m, rfl, M.ex e, hz, fun v H2 e2 hv => let ⟨p, as, h1, _, h2, h3⟩ := hv; q v H2 e2 ⟨p, as, h1, h2, h3⟩⟩
theorem evm_read {x : Int} (h : Ev ta σ H (.ref a.p)) (M : MOk CI CM a H m) (hx : Ev te σ H (.int x)) : Ev (tMeth CM "read" (spRead CI CM) [] E ta (tCons te tNil)) σ H (.int (look m.mem x)) := let ⟨_, g, _⟩ := M.st
  ev_meth (vs := [.int x]) h g (mfl_meth _ nmeth_read) (ea_cons hx ea_nil) (sp_read M)
theorem ev_isiL {P : V → Hp → Prop} {n : String} {b : Bool} (h : EvP te σ H P) (hp : ∀ v H1, P v H1 → ∃ p xs, v = .ref p ∧ H1 p = some (.lst xs)) (hk : PySem.W.kitOne K (.type "list") (.type n) = some b) : Ev (tCB (rIsi K) (tCons te (tCons (tC (.ty n)) tNil))) σ H (.bl b) := fun H1 e Q q =>
  h H1 e _ fun v H2 e2 hv => by
    obtain ⟨p, xs, rfl, h1⟩ := hp v H2 hv
    exact ⟨.ref p, .ty n, .type "list", .type n, b, rfl, .ty n, .base (.lst h1), hk, q H2 e2⟩
end
def spAlike (CI CM : Addr) : Sp := fun vs H Q _ => ∃ (a : MA) (b : BA) (m : M) (w : Nat), vs = [.ref a.p, .ref b.b] ∧ MOk CI CM a H m ∧ BOk b H m ∧ m.Wf w ∧ w ≤ 40000 ∧ RetV (.bl true) H Q
section
variable {P : Program} {w : World} {K : PySem.W.Frag} {mg : Str → Option Value} {base : Heap} {CI CM : Addr}
theorem ok_law_alike (T : Txt K mg CI CM) : FnG P w K mg base "_law_alike" 3 ["_law_machine", "_law_box"] (spAlike CI CM) := by
  refine fnG_of T.d_law_alike sc_law_alike (fun _ _ _ _ _ _ us hl => match us, hl with | [_, _], _ => rfl) (fun vs H Q E h => ?_) fun f cdv A outer s H vs Q E hr h => ?_
  · obtain ⟨a, b, m, wn, rfl, _⟩ := h
    rfl
  · obtain ⟨a, b, m, wn, rfl, M, B, W, hw, k⟩ := h
    have nd := sc_law_alike.nd
    have hu := hu_of hr
    refine ⟨_, (pss_cons (ps_if (PW.pt (pw_or (pt_cmpR (o_neD K hr.units) (pe_mt0 (pv 0) T.clM (ok_M_status T) (hr.mono (by decide))) (pe_dget hu (pv 1) pe_str (fun _ _ => rfl)) (nomark _)) (pw_or (pt_cmpR op_ne (p_fld K (pv 0) rfl) (pe_dget hu (pv 1) pe_str (fun _ _ => rfl)) (nomark _)) (pw_or1 (pt_cmpR op_ne (p_fld K (pv 0) rfl) (pe_dget hu (pv 1) pe_str (fun _ _ => rfl)) (nomark _)))))) (pss_one (ps_ret pe_bl)) pss_nil)
      (pss_cons (ps_if (PW.pt (pw_or (pt_cmpR (o_neD K hr.units) (pe_mt0 (pv 0) T.clM (ok_M_registers T) (hr.mono (by decide))) (pe_dget hu (pv 1) pe_str (fun _ _ => rfl)) (nomark _)) (pw_or1 (pt_cmpR (o_neD K hr.units) (pe_mt0 (pv 0) T.clM (ok_M_outputs T) (hr.mono (by decide))) (pe_dget hu (pv 1) pe_str (fun _ _ => rfl)) (nomark _))))) (pss_one (ps_ret pe_bl)) pss_nil)
      (pss_cons (ps_if (PW.pt (pw_or (pt_cmpR (o_neD K hr.units) (pe_mt0 (pv 0) T.clM (ok_M_waiting T) (hr.mono (by decide))) (pe_listRev K (by rfl) (by rfl) T.n_list (by rfl) T.n_reversed (pe_dget hu (pv 1) pe_str (fun _ _ => rfl))) (nomark _)) (pw_or1 (pt_cmpR op_ne (pe_mt0 (pv 0) T.clM (ok_M_inputs_left T) (hr.mono (by decide))) (pe_callB (cr_len K) (by rfl) T.n_len (by decide +kernel) (pa_cons (pe_dget hu (pv 1) pe_str (fun _ _ => rfl)) pa_nil)) (nomark _))))) (pss_one (ps_ret pe_bl)) pss_nil)
      (pss_cons (ps_setLc (i := 3) (own := [("_law_address", 2)]) (g := gName 2) (by rfl) nd rfl rfl (sw_true rfl rfl rfl (by decide +kernel)) (p_list K (pe_callB (cr_sortedD K rfl) (by rfl) T.n_sorted (by decide +kernel) (pa_cons (pe_dget hu (pv 1) pe_str (fun _ _ => rfl)) pa_nil))) (blkOk_by (N := nm_law_alike) (sc := defScope s_law_alike) (by decide +kernel)) (fun _ _ _ _ _ => pg_name (i := 2) nd rfl (Or.inl rfl)) (fun _ _ _ _ _ => (pts_one (pt_cmpR op_ne (pe_dget hu (pe_dget hu (pv 1) pe_str (fun _ _ => rfl)) (pv 2) (fun _ _ => rfl)) pe_int (nomark _)))) (fun _ _ _ _ _ => (pe_tup (pa_cons (pv 2) (pa_cons (pe_dget hu (pe_dget hu (pv 1) pe_str (fun _ _ => rfl)) (pv 2) (fun _ _ => rfl)) pa_nil)))))
      (pss_cons (ps_if (PW.pt (pw_or (pt_cmpR (o_neD K hr.units) (pe_mt0 (pv 0) T.clM (ok_M_written T) (hr.mono (by decide))) (pv 3) (nomark _)) (pw_or1 (pt_not (pt_val (pe_callB (cr_isi K) (by rfl) T.n_isinstance (by decide +kernel) (pa_cons (pe_mt0 (pv 0) T.clM (ok_M_written T) (hr.mono (by decide))) (pa_cons (pe_bltn (v := .ty "list") (by rfl) T.n_list (by decide +kernel) rfl) pa_nil)))))))) (pss_one (ps_ret pe_bl)) pss_nil)
      (pss_cons (ps_for PassesOwn.never rfl (pi_range1 (by rfl) T.n_range (pa_cons (pe_callB (cr_len K) (by rfl) T.n_len (by decide +kernel) (pa_cons (pv 3) pa_nil)) pa_nil)) (pg_name (i := 4) nd rfl (Or.inl rfl)) (pss_one (ps_if (pt_cmpR op_ne (pe_mt (pv 0) T.clM (ok_M_read T) (hr.mono (by decide)) (pa_cons (pe_ix (ixt K) (pe_ix (ixl K) (pv 3) (pv 4) (fun _ _ => rfl)) pe_int (fun _ _ => rfl)) pa_nil)) (pe_ix (ixt K) (pe_ix (ixl K) (pv 3) (pv 4) (fun _ _ => rfl)) pe_int (fun _ _ => rfl)) (nomark _)) (pss_one (ps_ret pe_bl)) pss_nil)))
      (pss_cons (ps_set (i := 5) nd rfl (Or.inl rfl) (pe_mt0 (pv 0) T.clM (ok_M_waiting T) (hr.mono (by decide))))
      (pss_cons (ps_expr (p_bm K (id := "list.append") (pe_bm PySem.F.plainAttrs_list PySem.F.slot_list_append PySem.F.type_list_append mt_append (pv 5) (pa_cons pe_int pa_nil))))
      (pss_cons (ps_if (pt_cmpR (o_neD K hr.units) (pe_mt0 (pv 0) T.clM (ok_M_waiting T) (hr.mono (by decide))) (pe_listRev K (by rfl) (by rfl) T.n_list (by rfl) T.n_reversed (pe_dget hu (pv 1) pe_str (fun _ _ => rfl))) (nomark _)) (pss_one (ps_ret pe_bl)) pss_nil)
      (pss_one (ps_ret (pe_and (pe_cmpR op_eq (pe_mt (pv 0) T.clM (ok_M_read T) (hr.mono (by decide)) (pa_cons pe_int pa_nil)) (pe_dget2 hu (pe_dget hu (pv 1) pe_str (fun _ _ => rfl)) pe_int pe_int ⟨rfl, rfl, rfl, rfl⟩) (nomark _)) (pe_one (pe_cmpR op_eq (pe_mt (pv 0) T.clM (ok_M_read T) (hr.mono (by decide)) (pa_cons pe_int pa_nil)) (pe_dget2 hu (pe_dget hu (pv 1) pe_str (fun _ _ => rfl)) pe_int pe_int ⟨rfl, rfl, rfl, rfl⟩) (nomark _))))))))))))))), ?_⟩
    have htk := W.tk
    have hz : m.mem.length ≤ 40000 := Nat.le_trans W.msz hw
    obtain ⟨sp, hsp, hsp2⟩ := evB_status (td := tVar 1) (σ := start nm_law_alike [.ref a.p, .ref b.b]) (ev_var rfl) B
    refine q_when (b := false || (false || false)) (et_or (et_test (ev_opP (evm_status (ev_var rfl) M) (fun H1 e => hsp.mono e) fun x H1 e hx => ?s1)) fun _ => et_or (et_test (ev_op (evM_address (ev_var rfl) M T) (evB_at (ev_var rfl) B) (rv_neb rfl (by rw [decide_eq_true rfl] <;> rfl)))) fun _ => et_test (ev_op (evM_sp (ev_var rfl) M T) (evB_sp (ev_var rfl) B) (rv_neb rfl (by rw [decide_eq_true rfl] <;> rfl)))) (fun z => by cases z) fun _ H1 e1 => ?_
    case s1 =>
      obtain ⟨p, rfl, hp⟩ := hx
      exact rv_neS hp (e _ _ hsp2)
    have M1 := M.ex e1
    have B1 := B.ex e1
    obtain ⟨op, hop, hop2⟩ := evB_out (td := tVar 1) (σ := start nm_law_alike [.ref a.p, .ref b.b]) (ev_var rfl) B1
    refine q_when (b := false || false) (et_or (et_test (ev_opL1 (elm_registers (ev_var rfl) M1) (fun H2 e => (evB_regs (ev_var rfl) B1).mono e) fun p H2 hp e => rv_neI hp (e _ _ B1.rg))) fun _ => et_test (ev_opL1 (elm_outputs (ev_var rfl) M1) (fun H2 e => hop.mono e) fun p H2 hp e => rv_neI hp (e _ _ hop2))) (fun z => by cases z) fun _ H2 e2 => ?_
    have M2 := M1.ex e2
    have B2 := B1.ex e2
    obtain ⟨wp, hwp, hwp2⟩ := evB_waiting (td := tVar 1) (σ := start nm_law_alike [.ref a.p, .ref b.b]) (ev_var rfl) B2
    obtain ⟨ip, hip, hip2⟩ := evB_inputs (td := tVar 1) (σ := start nm_law_alike [.ref a.p, .ref b.b]) (ev_var rfl) B2
    have hrv : ∀ {H : Hp}, (∀ p, H p = some (.lst ((m.wait.map V.int).reverse)) → H p = some (.lst (m.wait.reverse.map V.int))) := fun p h => by rw [List.map_reverse]; exact h
    refine q_when (b := false || false) (et_or (et_test (ev_opLL (elm_waiting (ev_var rfl) M2) (el_listRev hwp (sq_of hwp2)) fun p q H3 hp hq e => rv_neI hp (hrv q hq))) fun _ => et_test (ev_op (evm_left (ev_var rfl) M2) (ev_lenI hip (sq_of hip2)) (rv_neb rfl (by rw [List.length_drop, decide_eq_true (by congr 1; omega)] <;> rfl)))) (fun z => by cases z) fun _ H3 e3 => ?_
    have M3 := M2.ex e3
    have B3 := B2.ex e3
    have e03 := (e1.trans e2).trans e3
    refine q_asgP (evp_lcPairs (xs := srt (m.mem.map fun p : Int × Int => p.1)) (fun x => !decide (look m.mem x = 0)) (fun x => look m.mem x) (el_sortedD (evB_words (ev_var rfl) B3) B3.wo) (by rw [srt_len, List.length_map]; exact hz) (fun x => rfl) (fun x H4 e4 hx => ?t1) fun x H4 e4 hx hf => ?t2) fun v H4 e4 hv => ?_
    case t1 => exact et_test (ev_op (ev_dget (k := Sum.inl x) (evB_words (ev_var rfl) (B3.ex e4)) (ev_var rfl) (B3.ex e4).wo (val_memV (srt_mem.mp hx))) ev_c (rv_neb rfl (by rw [dec_int0])))
    case t2 => exact eu_tup (ea_cons (ev_var rfl) (ea_cons (ev_dget (k := Sum.inl x) (evB_words (ev_var rfl) (B3.ex e4)) (ev_var rfl) (B3.ex e4).wo (val_memV (srt_mem.mp hx))) ea_nil)) (Nat.le_of_ble_eq_true rfl)
    obtain ⟨dp, ds, rfl, _, hd, hds⟩ := hv
    have hds : PrsAt H4 ds (wrM m.mem) := hds
    have M4 := M3.ex e4
    have B4 := B3.ex e4
    have dsx : ∀ {H5 : Hp}, Ex H4 H5 → PrsAt H5 ds (wrM m.mem) := fun e => hds.chg (Chg.of (S := []) e)
    refine q_when (b := false || !true) (et_or (et_test (ev_opP (evm_written (ev_var rfl) M4 hz) (fun H5 e => ev_var rfl) fun x H5 e hx => ?w1)) fun _ => et_not (et_test (ev_isiL (n := "list") (b := true) (evm_written (ev_var rfl) M4 hz) (fun v H5 hv => let ⟨p, as, h1, h2, _⟩ := hv; ⟨p, _, h1, h2⟩) (kit_ty (by decide +kernel))))) (fun z => by cases z) fun _ H5 e5 => ?_
    case w1 =>
      obtain ⟨p, as, rfl, h1, h2⟩ := hx
      exact rv_neP h1 h2 (e _ _ hd) (dsx e)
    have e45 := e5
    have hlen : ((ds.map V.ref).length : Int) ≤ 100000 := by
      have h1 : (wrM m.mem).length ≤ m.mem.length := by
        unfold wrM
        rw [List.length_map]
        refine Nat.le_trans (List.length_filter_le _ _) ?_
        rw [srt_len, List.length_map]
        exact Nat.le_refl _
      rw [List.length_map, hds.1]
      omega
    refine q_forR1 (n := ((ds.map V.ref).length : Int)) (ea_cons (ev_len (ev_var rfl) (sq_of (e5 _ _ hd))) ea_nil) (by omega) (fun i σ' H' => ∃ u v : Option V, σ' = [some (.ref a.p), some (.ref b.b), v, some (.ref dp), u, none] ∧ Ex H4 H')
      (fun H6 e6 => ⟨none, _, rfl, e5.trans e6⟩) (fun i σ' H' hi hp => ?_) (fun σ' H' hp => ?_)
    · obtain ⟨u, v, rfl, e6⟩ := hp
      rw [List.length_map] at hi
      have hi2 : i < ds.length := by omega
      have hdi : (ds.map V.ref)[i]? = some (.ref ds[i]) := by rw [List.getElem?_map, List.getElem?_eq_getElem hi2] <;> rfl
      obtain ⟨p, hp1, hp2⟩ := (dsx e6).2 i ds[i] (List.getElem?_eq_getElem hi2)
      have hpl : p.2 = look m.mem p.1 := by
        have hm := List.mem_of_getElem? hp1
        unfold wrM at hm
        obtain ⟨x, _, hx⟩ := List.mem_map.mp hm
        rw [← hx]
      have hdat : atI (ds.map V.ref) (i : Int) = some (.ref ds[i]) := atI_nat hdi
      have ed : ∀ σ2 : L2.St, σ2[3]? = some (some (.ref dp)) → σ2[4]? = some (some (.int (i : Int))) → Ev (tOp (rIxL K) (tVar 3) (tVar 4)) σ2 H' (.ref ds[i]) := fun σ2 h3 h4 => ev_op (ev_var h3) (ev_var h4) (rv_ixL (sq_of (e6 _ _ hd)) hdat)
      refine s_when (b := false) (et_test (ev_op (evm_read (x := p.1) (ev_var rfl) (M4.ex e6) (ev_op (ed _ rfl rfl) ev_c (rv_ixT (st_of hp2) rfl))) (ev_op (ed _ rfl rfl) ev_c (rv_ixT (v := .int p.2) (st_of hp2) rfl)) (rv_neb rfl (by rw [hpl, decide_eq_true rfl] <;> rfl)))) (fun z => by cases z) fun _ H7 e7 => ⟨_, _, rfl, e6.trans e7⟩
    · obtain ⟨u, v, rfl, e6⟩ := hp
      have M6 := M4.ex e6
      have B6 := B4.ex e6
      refine q_asgL (elm_waiting (ev_var rfl) M6) fun q H7 hq e7 h7 => ?_
      have e07 := ((e03.trans e4).trans e6).trans e7
      have M7 := M6.ex e7
      have B7 := B6.ex e7
      refine q_st (s_app h7 (ev_var rfl) ev_c (by rw [List.length_map, List.length_reverse]; have := W.wsz; omega) fun H8 e8 => ?_)
      have hq0 : H q = none := fresh_back ((e03.trans e4).trans e6) hq
      have e68 : Ex H (L2.upd H8 q (.lst (m.wait.reverse.map V.int ++ [.int 1]))) := Ex.mut (e07.trans e8) hq0
      have M8 := M.ex e68
      have B8 := B.ex e68
      generalize L2.upd H8 q (.lst (m.wait.reverse.map V.int ++ [.int 1])) = H9 at *
      obtain ⟨wp9, hwp9, hwp92⟩ := evB_waiting (td := tVar 1) (σ := ([some (.ref a.p), some (.ref b.b), v, some (.ref dp), u, some (.ref q)] : L2.St)) (ev_var rfl) B8
      refine q_when (b := false) (et_test (ev_opLL (elm_waiting (ev_var rfl) M8) (el_listRev hwp9 (sq_of hwp92)) fun p q H3 hp hq e => rv_neI hp (hrv q hq))) (fun z => by cases z) fun _ H10 e10 => ?_
      have M10 := M8.ex e10
      have B10 := B8.ex e10
      exact s_ret (v := .bl (true && true)) (ev_andV (ev_op (evm_read (x := 7) (ev_var rfl) M10 ev_c) (ev_dget2 (k := Sum.inl 7) (evB_words (ev_var rfl) B10) ev_c ev_c B10.wo (look_memV _ _)) (rv_eqb rfl (decide_eq_true rfl))) fun _ => ev_op (evm_read (x := 5) (ev_var rfl) M10 ev_c) (ev_dget2 (k := Sum.inl 5) (evB_words (ev_var rfl) B10) ev_c ev_c B10.wo (look_memV _ _)) (rv_eqb rfl (decide_eq_true rfl))) fun H11 e11 => k.go (e68.trans (e10.trans e11))
end

theorem enterM_n (g beh : Int) (m : M) : (enterM g beh m).n = m.n := by
  unfold enterM
  split <;> rfl
theorem goM_n (i : Ins) (beh : Int) (m : M) : (goM i beh m).n = m.n := by
  cases i with
  | table r t => show (if _ then _ else _ : M).n = _; split <;> rfl
  | call g => exact enterM_n _ _ _
  | calls r t =>
    show (if _ then _ else _ : M).n = _
    split
    · rfl
    · exact enterM_n _ _ _
  | back => show (if _ then _ else _ : M).n = _; split <;> rfl
  | _ => rfl
theorem shM_n (i : Ins) (beh : Int) (m : M) : (shM i beh m).n = m.n := by
  unfold shM
  split <;> rfl
theorem exM_n (i : Ins) (beh : Int) (m : M) : (exM i beh m).n = m.n := by
  unfold exM
  split
  · exact goM_n _ _ _
  split
  · exact shM_n _ _ _
  split
  · cases i <;> rfl
  · cases i <;> rfl
theorem stepM_n (d : List Int) (m : M) : (stepM d m).n = m.n + 1 := by
  unfold stepM
  split
  · rfl
  · exact exM_n _ _ _
theorem runM_n (d : List Int) : ∀ (k : Nat) (m : M), (runM d k m).n = m.n + (madeM d k m : Int)
  | 0, m => by show m.n = m.n + ((0 : Nat) : Int); omega
  | k + 1, m => by
    unfold runM madeM
    by_cases z : m.st = .run
    · rw [if_pos z, if_pos z, runM_n d k, stepM_n]
      omega
    · rw [if_neg z, if_neg z]
      omega
theorem foldl_wd : ∀ (ps l : List (Int × Int)), (∀ p ∈ l, Wd p.2) → (∀ p ∈ ps, Wd p.2) → ∀ p ∈ ps.foldl (fun l p => putM l p.1 p.2) l, Wd p.2
  | [], l, hl, _ => hl
  | q :: ps, l, hl, hp => foldl_wd ps _ (putM_mem hl (hp q List.mem_cons_self)) fun p h => hp p (List.mem_cons_of_mem _ h)
theorem initM_wf {ent : Int} {regs : List Int} {ps : List (Int × Int)} {inp : List Int} {b : Nat} (h0 : 0 ≤ ent) (hr : regs.length = 8) (hrw : ∀ x ∈ regs, Wd x) (hp : ∀ p ∈ ps, Wd p.2) (hb : ps.length ≤ b) (hi : inp.length ≤ 10) (hiw : ∀ x ∈ inp, Wd x) : (initM ent regs ps inp).Wf b := by
  have hl := putM_foldl_len ps []
  refine ⟨hr, hrw, foldl_wd ps [] (by simp) hp, ?_, hiw, hi, Nat.zero_le _, Nat.zero_le _, Nat.zero_le _, by simp [initM], ⟨by show (64512 : Int) ≤ 65536; decide, by show (65536 : Int) ≤ 65536; decide⟩, h0⟩
  show (ps.foldl (fun l p => putM l p.1 p.2) []).length ≤ b
  simp at hl
  omega
section
variable {K : PySem.W.Frag} {σ : L2.St} {H : Hp} {ta tb te : TE} {t : TT} {D : Ends} {tu tz : TS} {E : XK}
theorem evp_draw {tr : TA} {cell m : Int} (h : EvA tr σ H [.int cell, .int m, .int 1]) (hm : 0 < m ∧ m < 1000000) : EvP (tOp (rIxL K) (tCall spDraws [] E tr) (tC (.int 0))) σ H (fun v _ => ∃ y, v = .int y ∧ 0 ≤ y ∧ y < m) := fun H1 e Q q =>
  evp_call (vs := [.int cell, .int m, .int ((1 : Nat) : Int)]) h (sp_draws hm (by decide)) H1 e _ fun v H2 e2 ⟨p, ns, hv, h0, h1, hl, hr⟩ => by
    subst hv
    exact rv_ixL (sq_of h1) (at_gI0 (by rw [hl]; decide)) H2 (Ex.refl H2) Q fun H3 e3 => q _ H3 (e2.trans e3) ⟨_, rfl, gI_all (P := fun x => 0 ≤ x ∧ x < m) hr (by rw [hl]; decide)⟩
/-- a test of a drawn number, both ways -/
theorem s_whenP {n : Int} {R : Int → Prop} (h : EvP te σ H (fun v _ => ∃ y, v = .int y ∧ R y)) (k1 : ∀ H1, Ex H H1 → tu D σ H1) (k2 : ∀ H1, Ex H H1 → D.nx σ H1) : tIfS (tTest (tOp rEq te (tC (.int n)))) tu tNext D σ H :=
  h H (Ex.refl H) _ fun v H1 e ⟨y, hv, _⟩ => by
    subst hv
    unfold tC
    refine rv_eq (x := .int y) (y := .int n) (H := H1) rfl H1 (Ex.refl H1) _ fun H2 e2 => ⟨decide (V.int y = V.int n), rfl, ?_⟩
    cases decide (V.int y = V.int n) with
    | true => exact k1 H2 (e.trans e2)
    | false => exact k2 H2 (e.trans e2)
/-- a new list of ints as an expression -/
theorem evp_ofL {xs : List Int} {R : List Int → Prop} (h : EvL te σ H (xs.map V.int)) (hr : R xs) : EvP te σ H (NewI R H) := fun H1 e Q q => h H1 e Q fun p H2 hp e2 h2 => q _ H2 e2 ⟨p, xs, rfl, fresh_back e hp, h2, hr⟩
theorem el_slN {tl th : TO} {xs : List V} {lo hi : Option Int} (h : EvL te σ H xs) (h1 : ∀ H1, Ex H H1 → EvO tl σ H1 lo) (h2 : ∀ H1, Ex H H1 → EvO th σ H1 hi) : EvL (tSl (rSlL K) te tl th) σ H (cutV xs lo hi) := fun H1 e _ q =>
  h H1 e _ fun a H2 _ e2 ha => h1 H2 (e.trans e2) H2 (Ex.refl _) _ fun H3 e3 => h2 H3 ((e.trans e2).trans e3) H3 (Ex.refl _) _ fun H4 e4 =>
    ⟨a, xs, rfl, sq_of (e4 _ _ (e3 _ _ ha)), fun p hp => q p _ (fresh_back ((e2.trans e3).trans e4) hp) (((e2.trans e3).trans e4).trans (Ex.new hp)) upd_same⟩
/-- the same over drawn ints -/
theorem evp_lcPairsP {R : List Int → Prop} {tl : TE} {j : Nat} {vs : List Nat} (f : Int → Bool) (v : Int → Int) (h : EvP tl σ H (NewI R H)) (hz : ∀ xs, R xs → xs.length ≤ 40000) (hw : ∀ x, wipe ((wipe σ vs).set j (some x)) vs = wipe σ vs)
    (ht : ∀ x H1, Ex H H1 → EvT t ((wipe σ vs).set j (some (.int x))) H1 (f x)) (he : ∀ x H1, Ex H H1 → f x = true → EvU te ((wipe σ vs).set j (some (.int x))) H1 [.int x, .int (v x)]) :
    EvP (tLc (iList K tl) (gName j) t te vs) σ H (fun w H2 => ∃ xs, R xs ∧ ∃ p as, w = .ref p ∧ H p = none ∧ H2 p = some (.lst (as.map V.ref)) ∧ PrsAt H2 as ((xs.filter f).map fun x => (x, v x))) := fun H0 e Q q => h H0 e _ fun w0 H1 e1 ⟨a, xs, hw0, ha, hx, hrx⟩ => ⟨a, hw0, ⟨_, sq_of hx⟩, fun Dl hD => by
  have hz := hz xs hrx
  have e01 := e.trans e1
  refine lc_list (xs := xs.map V.int) (fun i H' => Ex H1 H' ∧ ∃ as, H' Dl = some (.lst (as.map V.ref)) ∧ PrsAt H' as (((xs.take i).filter f).map fun x => (x, v x)) ∧ as.length ≤ i) ⟨Ex.new hD, [], upd_same, ⟨rfl, fun i a z => by simp at z⟩, Nat.zero_le _⟩ (fun i H' _ p => sq_of (p.1 a _ hx)) (fun i y H' hi p => ⟨hw y, ?_⟩) fun H' p => ?_
  · obtain ⟨p1, as, p2, p3, p4⟩ := p
    rw [List.getElem?_map] at hi
    cases hb : xs[i]? with
    | none => rw [hb] at hi; cases hi
    | some x =>
      rw [hb] at hi
      obtain rfl : V.int x = y := Option.some.inj hi
      have hxm := List.mem_of_getElem? hb
      have hil := (List.getElem?_eq_some_iff.mp hb).1
      have ett : (xs.take (i + 1)).filter f = (xs.take i).filter f ++ if f x = true then [x] else [] := by
        rw [List.take_add_one, hb, List.filter_append]
        show _ ++ [x].filter f = _
        rw [List.filter_cons] <;> rfl
      refine ht x H' (e01.trans p1) H' (Ex.refl H') _ fun H3 e3 => ?_
      cases hf : f x with
      | true =>
        show te _ H3 _
        refine he x H3 ((e01.trans p1).trans e3) hf H3 (Ex.refl H3) _ fun c H4 hc e4 h4 => ?_
        have p2' := e4 _ _ (e3 _ _ p2)
        have ncD : c ≠ Dl := fun z => by rw [z, e3 _ _ p2] at hc; cases hc
        refine ⟨_, p2', sz_lt (by rw [List.length_map]; omega), ?_, as ++ [c], ?_, ⟨?_, fun i2 a2 z => ?_⟩, ?_⟩
        · exact Ex.mut ((p1.trans e3).trans e4) hD
        · rw [List.map_append, upd_same] <;> rfl
        · rw [ett, hf]
          simp [p3.1]
        · rw [ett, hf, if_pos rfl, List.map_append]
          have l1 : as.length = (((xs.take i).filter f).map fun x => (x, v x)).length := p3.1
          by_cases zz : i2 < as.length
          · rw [List.getElem?_append_left zz] at z
            rw [List.getElem?_append_left (by omega)]
            obtain ⟨pp, g1, g2⟩ := p3.2 i2 a2 z
            refine ⟨pp, g1, ?_⟩
            have g3 := e4 _ _ (e3 _ _ g2)
            rw [upd_ne (fun z2 => by rw [z2, p2'] at g3; cases g3)]
            exact g3
          · rw [List.getElem?_append_right (by omega)] at z
            rw [List.getElem?_append_right (by omega), ← l1]
            have z0 : i2 - as.length = 0 := by
              have := (List.getElem?_eq_some_iff.mp z).1
              simp at this
              omega
            rw [z0] at z ⊢
            have z1 : some c = some a2 := z
            obtain rfl := Option.some.inj z1
            refine ⟨(x, v x), rfl, ?_⟩
            rw [upd_ne ncD]
            exact h4
        · rw [List.length_append, List.length_singleton]
          omega
      | false =>
        refine ⟨p1.trans e3, as, e3 _ _ p2, ?_, by omega⟩
        rw [ett, hf, if_neg (by decide), List.append_nil]
        exact ⟨p3.1, fun i2 a2 z => let ⟨pp, g1, g2⟩ := p3.2 i2 a2 z; ⟨pp, g1, e3 _ _ g2⟩⟩
  · obtain ⟨p1, as, p2, p3, _⟩ := p
    rw [List.length_map, List.take_length] at p3
    exact q _ H' (e1.trans p1) ⟨xs, hrx, Dl, as, rfl, fresh_back e01 hD, p2, p3⟩⟩
/-- draws of one number for each cell: a list of lists -/
theorem evp_lcD {tl : TE} {j : Nat} {vs : List Nat} {cs : List Int} {c : Addr} (h : Ev tl σ H (.ref c)) (hc : H c = some (.lst (cs.map V.int))) (hz : cs.length ≤ 40000) (hw : ∀ x, wipe ((wipe σ vs).set j (some x)) vs = wipe σ vs) (ht : ∀ x H1, Ex H H1 → EvT t ((wipe σ vs).set j (some x)) H1 true)
    (he : ∀ x H1, Ex H H1 → EvP te ((wipe σ vs).set j (some (.int x))) H1 (NewI (fun ns => ns.length = 1 ∧ ∀ x ∈ ns, 0 ≤ x ∧ x < 65536) H1)) :
    EvP (tLc (iList K tl) (gName j) t te vs) σ H (fun w H2 => ∃ p xs, w = .ref p ∧ H p = none ∧ H2 p = some (.lst xs) ∧ xs.length = cs.length ∧ ∀ x ∈ xs, ∃ q y, x = .ref q ∧ H2 q = some (.lst [.int y])) := fun H0 e Q q => h H0 e _ fun H1 e1 => ⟨c, rfl, ⟨_, sq_of (e1 _ _ (e _ _ hc))⟩, fun Dl hD => by
  have e01 := e.trans e1
  refine lc_list (xs := cs.map V.int) (fun i H' => Ex H1 H' ∧ ∃ xs, H' Dl = some (.lst xs) ∧ xs.length = i ∧ ∀ x ∈ xs, ∃ q y, x = .ref q ∧ q ≠ Dl ∧ H' q = some (.lst [.int y])) ⟨Ex.new hD, [], upd_same, rfl, by simp⟩ (fun i H' _ p => sq_of (p.1 _ _ (e01 _ _ hc))) (fun i y H' hi p => ⟨hw y, ?_⟩) fun H' p => ?_
  · obtain ⟨p1, xs, p2, p3, p4⟩ := p
    rw [List.getElem?_map] at hi
    cases hb : cs[i]? with
    | none => rw [hb] at hi; cases hi
    | some x =>
      rw [hb] at hi
      obtain rfl : V.int x = y := Option.some.inj hi
      have hil := (List.getElem?_eq_some_iff.mp hb).1
      refine ht _ H' (e01.trans p1) H' (Ex.refl H') _ fun H3 e3 => ?_
      show te _ H3 _
      refine he x H3 ((e01.trans p1).trans e3) H3 (Ex.refl H3) _ fun v H4 e4 ⟨r, ns, hv, hr0, hr1, hl, _⟩ => ?_
      subst hv
      have p2' := e4 _ _ (e3 _ _ p2)
      have nrD : r ≠ Dl := fun z => by rw [z, e3 _ _ p2] at hr0; cases hr0
      match ns, hl with
      | [y0], _ =>
        refine ⟨_, p2', sz_lt (by omega), Ex.mut ((p1.trans e3).trans e4) hD, xs ++ [.ref r], upd_same, by rw [List.length_append, p3] <;> rfl, fun z hz => ?_⟩
        rcases List.mem_append.mp hz with g | g
        · obtain ⟨q2, y2, rfl, n2, h2⟩ := p4 z g
          exact ⟨q2, y2, rfl, n2, by rw [upd_ne n2]; exact e4 _ _ (e3 _ _ h2)⟩
        · rw [List.mem_singleton.mp g]
          exact ⟨r, y0, rfl, nrD, by rw [upd_ne nrD]; exact hr1⟩
  · obtain ⟨p1, xs, p2, p3, p4⟩ := p
    rw [List.length_map] at p3
    exact q _ H' (e1.trans p1) ⟨Dl, xs, rfl, fresh_back e01 hD, p2, p3, fun x hx => let ⟨q2, y2, h1, _, h2⟩ := p4 x hx; ⟨q2, y2, h1, h2⟩⟩⟩
/-- .. and the bytes of them -/
theorem evp_lcB {tl : TE} {j : Nat} {vs : List Nat} {n : Nat} (h : EvP tl σ H (fun w H2 => ∃ p xs, w = .ref p ∧ H p = none ∧ H2 p = some (.lst xs) ∧ xs.length = n ∧ ∀ x ∈ xs, ∃ q y, x = .ref q ∧ H2 q = some (.lst [.int y]))) (hz : n ≤ 40000) (hw : ∀ x, wipe ((wipe σ vs).set j (some x)) vs = wipe σ vs)
    (ht : ∀ x H1, Ex H H1 → EvT t ((wipe σ vs).set j (some x)) H1 true) (he : ∀ q y H1, H1 q = some (.lst [.int y]) → Ev te ((wipe σ vs).set j (some (.ref q))) H1 (.int (y % 256))) :
    EvP (tLc (iList K tl) (gName j) t te vs) σ H (NewI (fun bs => bs.length = n ∧ Bytes bs) H) := fun H0 e Q q => h H0 e _ fun w0 H1 e1 ⟨a, xs, hw0, ha, hx, hl, hel⟩ => ⟨a, hw0, ⟨_, sq_of hx⟩, fun Dl hD => by
  have e01 := e.trans e1
  refine lc_list (xs := xs) (fun i H' => Ex H1 H' ∧ ∃ bs : List Int, H' Dl = some (.lst (bs.map V.int)) ∧ bs.length = i ∧ Bytes bs) ⟨Ex.new hD, [], upd_same, rfl, by_nil⟩ (fun i H' _ p => sq_of (p.1 _ _ hx)) (fun i x H' hi p => ⟨hw x, ?_⟩) fun H' p => ?_
  · obtain ⟨p1, bs, p2, p3, p4⟩ := p
    have hil := (List.getElem?_eq_some_iff.mp hi).1
    obtain ⟨r, y, rfl, hr⟩ := hel x (List.mem_of_getElem? hi)
    refine ht _ H' (e01.trans p1) H' (Ex.refl H') _ fun H3 e3 => ?_
    show te _ H3 _
    refine he r y H3 (e3 _ _ (p1 _ _ hr)) H3 (Ex.refl H3) _ fun H4 e4 => ?_
    refine ⟨_, e4 _ _ (e3 _ _ p2), sz_lt (by rw [List.length_map]; omega), Ex.mut ((p1.trans e3).trans e4) hD, bs ++ [y % 256], by rw [List.map_append, upd_same] <;> rfl, by rw [List.length_append, p3] <;> rfl, fun z hz => ?_⟩
    rcases List.mem_append.mp hz with g | g
    · exact p4 z g
    · rw [List.mem_singleton.mp g]
      exact by_mod y
  · obtain ⟨p1, bs, p2, p3, p4⟩ := p
    exact q _ H' (e1.trans p1) ⟨Dl, bs, rfl, fresh_back e01 hD, p2, by rw [p3, hl], p4⟩⟩
end

section
variable {K : PySem.W.Frag} {σ : L2.St} {H : Hp} {ta tb te : TE} {t : TA} {D : Ends} {tu tz : TS} {E : XK}
theorem meth_raw1 {C a dx : Addr} {fs : List (Str × V)} {f : Str} {sp : Sp} {dvs vs : List V} {Q : VK} (h : Ev ta σ H (.ref a)) (ho : H a = some (.ins C dx fs)) (hl : fs.lookup f = none) (ha : EvA t σ H vs)
    (k : ∀ H1, Ex H H1 → sp (.ref a :: (vs ++ dvs)) H1 Q E) : tMeth C f sp dvs E ta t σ H Q := h H (Ex.refl H) _ fun H1 e1 => ⟨a, dx, fs, rfl, e1 _ _ ho, hl, ha H1 e1 _ fun H2 e2 => k H2 (e1.trans e2)⟩
theorem call_raw {sp : Sp} {dvs vs : List V} {Q : VK} (ha : EvA t σ H vs) (k : ∀ H1, Ex H H1 → sp (vs ++ dvs) H1 Q E) : tCall sp dvs E t σ H Q := ha H (Ex.refl H) _ fun H1 e1 => k H1 e1
/-- arguments, ints that are so -/
def EvAI (t : TA) (σ : L2.St) (H : Hp) (R : List Int → Prop) : Prop := ∀ H1, Ex H H1 → ∀ Q : List V → Hp → Prop, (∀ ns H2, Ex H1 H2 → R ns → Q (ns.map V.int) H2) → t σ H1 Q
theorem evai_nil {A : Int → Prop} : EvAI tNil σ H (fun ns => ns.length = 0 ∧ ∀ x ∈ ns, A x) := fun H1 _ Q q => q [] H1 (Ex.refl H1) ⟨rfl, by simp⟩
theorem evai_cons {A : Int → Prop} {n : Nat} (h : EvP te σ H (fun v _ => ∃ y, v = .int y ∧ A y)) (h2 : EvAI t σ H (fun ns => ns.length = n ∧ ∀ x ∈ ns, A x)) : EvAI (tCons te t) σ H (fun ns => ns.length = n + 1 ∧ ∀ x ∈ ns, A x) := fun H1 e Q q =>
  h H1 e _ fun v H2 e2 ⟨y, hv, hy⟩ => h2 H2 (e.trans e2) _ fun ns H3 e3 hr => by
    subst hv
    exact q (y :: ns) H3 (e2.trans e3) ⟨by rw [List.length_cons, hr.1], fun x hx => by
      rcases List.mem_cons.mp hx with z | z
      · rw [z]; exact hy
      · exact hr.2 x z⟩
theorem evp_cI {A : Int → Prop} {y : Int} (h : A y) : EvP (tC (.int y)) σ H (fun v _ => ∃ y, v = .int y ∧ A y) := fun H1 _ Q q => q _ H1 (Ex.refl H1) ⟨y, rfl, h⟩
theorem evp_lstI {R : List Int → Prop} (h : EvAI t σ H R) (hz : ∀ ns, R ns → ns.length ≤ 100000) : EvP (tLst t) σ H (NewI R H) := fun H1 e Q q => h H1 e _ fun ns H2 e2 hr => ⟨sz_of (by rw [List.length_map]; exact hz ns hr), fun p hp => q _ _ (e2.trans (Ex.new hp)) ⟨p, ns, rfl, fresh_back (e.trans e2) hp, upd_same, hr⟩⟩
theorem sp_words {cell : Int} {n : Nat} (hn : n ≤ 1000) : SpP spWords ([.int cell, .int (n : Int)] ++ []) H (NewI (WordsR n) H) := fun H1 e Q q E => ⟨cell, n, rfl, hn, fun v H2 e2 hv => q v H2 e2 (hv.back e)⟩
theorem sp_isint {i : Int} : SpV spIsInt ([.int i] ++ []) H (.bl true) := fun H1 e Q q E => ⟨i, rfl, q⟩
theorem sp_alike {CI CM : Addr} {a : MA} {b : BA} {m : M} {w : Nat} (M : MOk CI CM a H m) (B : BOk b H m) (W : m.Wf w) (hw : w ≤ 40000) : SpV (spAlike CI CM) ([.ref a.p, .ref b.b] ++ []) H (.bl true) := fun H1 e Q q E => ⟨a, b, m, w, rfl, M.ex e, B.ex e, W, hw, q⟩
end
section
variable {K : PySem.W.Frag} {σ : L2.St} {H : Hp} {ta t1 t2 t3 th : TE}
theorem evp_three {xs ys zs : List V} (h1 : EvU t1 σ H xs) (h2 : ∀ H1, Ex H H1 → EvU t2 σ H1 ys) (h3 : ∀ H1, Ex H H1 → EvU t3 σ H1 zs) : EvP (tLst (tCons t1 (tCons t2 (tCons t3 tNil)))) σ H (fun v H2 => ∃ p a b c, v = .ref p ∧ H2 p = some (.lst [.ref a, .ref b, .ref c]) ∧ H2 a = some (.tup xs) ∧ H2 b = some (.tup ys) ∧ H2 c = some (.tup zs)) := fun H1 e Q q =>
  h1 H1 e _ fun a H2 _ e2 g1 => h2 H2 (e.trans e2) H2 (Ex.refl H2) _ fun b H3 _ e3 g2 => h3 H3 ((e.trans e2).trans e3) H3 (Ex.refl H3) _ fun c H4 _ e4 g3 => ⟨sz_of (Nat.le_of_ble_eq_true rfl), fun p hp => by
    have e5 := Ex.new (o := .lst [V.ref a, V.ref b, V.ref c]) hp
    exact q _ _ (((e2.trans e3).trans e4).trans e5) ⟨p, a, b, c, rfl, upd_same, e5 _ _ (e4 _ _ (e3 _ _ g1)), e5 _ _ (e4 _ _ g2), e5 _ _ g3⟩⟩
/-- a list and the first few of three -/
theorem evp_catS {te : TE} {l : Addr} {ls xs ys zs : List V} (ha : Ev ta σ H (.ref l)) (hl : H l = some (.lst ls)) (hz : ls.length ≤ 1000) (h : EvP te σ H (fun v H2 => ∃ p a b c, v = .ref p ∧ H2 p = some (.lst [.ref a, .ref b, .ref c]) ∧ H2 a = some (.tup xs) ∧ H2 b = some (.tup ys) ∧ H2 c = some (.tup zs)))
    (hh : ∀ H1, Ex H H1 → EvP th σ H1 (fun v _ => ∃ y, v = .int y ∧ 0 ≤ y ∧ y < 4)) : EvP (tOp rCat ta (tSl (rSlL K) te tNoPart (tPart th))) σ H (fun v H2 => ∃ (r a b c : Addr) (y : Int), 0 ≤ y ∧ v = .ref r ∧ H2 r = some (.lst (ls ++ ([V.ref a, V.ref b, V.ref c]).take y.toNat)) ∧ H2 a = some (.tup xs) ∧ H2 b = some (.tup ys) ∧ H2 c = some (.tup zs)) := fun H1 e Q q =>
  ha H1 e _ fun H2 e2 => h H2 (e.trans e2) _ fun v H3 e3 ⟨p, a, b, c, hv, hp, g1, g2, g3⟩ => hh H3 ((e.trans e2).trans e3) H3 (Ex.refl H3) _ fun u H4 e4 ⟨y, hu, hy0, hy1⟩ => by
    subst hv
    subst hu
    refine ⟨y, rfl, p, _, rfl, sq_of (e4 _ _ hp), fun p2 hp2 => ?_⟩
    rw [cut_take _ _ hy0]
    have e5 := Ex.new (o := .lst (([V.ref a, V.ref b, V.ref c]).take y.toNat)) hp2
    have e25 := (e3.trans e4).trans e5
    refine ⟨l, p2, _, _, rfl, rfl, e25 _ _ (e2 _ _ (e _ _ hl)), upd_same, sz_of (by rw [List.length_take]; show ls.length + min _ 3 ≤ 100000; omega), fun r hr => ?_⟩
    have e6 := Ex.new (o := .lst (ls ++ ([V.ref a, V.ref b, V.ref c]).take y.toNat)) hr
    have e46 := (e4.trans e5).trans e6
    exact q _ _ (e2.trans (e25.trans e6)) ⟨r, a, b, c, y, hy0, rfl, upd_same, e46 _ _ g1, e46 _ _ g2, e46 _ _ g3⟩
end
theorem PrsAt.app {H : Hp} {as bs : List Addr} {ps qs : List (Int × Int)} (h : PrsAt H as ps) (g : PrsAt H bs qs) : PrsAt H (as ++ bs) (ps ++ qs) := by
  refine ⟨by rw [List.length_append, List.length_append, h.1, g.1], fun i a e => ?_⟩
  by_cases z : i < as.length
  · rw [List.getElem?_append_left z] at e
    rw [List.getElem?_append_left (by rw [← h.1]; exact z)]
    exact h.2 i a e
  · rw [List.getElem?_append_right (by omega)] at e
    rw [List.getElem?_append_right (by rw [← h.1]; omega), ← h.1]
    exact g.2 _ a e
theorem PrsAt.take {H : Hp} {as : List Addr} {ps : List (Int × Int)} (h : PrsAt H as ps) (n : Nat) : PrsAt H (as.take n) (ps.take n) := by
  refine ⟨by rw [List.length_take, List.length_take, h.1], fun i a e => ?_⟩
  by_cases z : i < n
  · rw [List.getElem?_take_of_lt z] at e
    rw [List.getElem?_take_of_lt z]
    exact h.2 i a e
  · rw [List.getElem?_take_eq_none (by omega)] at e
    cases e
theorem PrsAt.three {H : Hp} {a b c : Addr} {p q r : Int × Int} (h1 : H a = some (.tup [.int p.1, .int p.2])) (h2 : H b = some (.tup [.int q.1, .int q.2])) (h3 : H c = some (.tup [.int r.1, .int r.2])) : PrsAt H [a, b, c] [p, q, r] := by
  refine ⟨rfl, fun i x e => ?_⟩
  match i with
  | 0 => cases e; exact ⟨p, rfl, h1⟩
  | 1 => cases e; exact ⟨q, rfl, h2⟩
  | 2 => cases e; exact ⟨r, rfl, h3⟩
  | i + 3 => simp at e
def spLaw (K : PySem.W.Frag) (Pt : Addr) : Sp := fun vs H Q _ => ∃ (s : Addr) (ns : List Int), vs = [.ref s] ∧ SqL K H s (ns.map V.int) ∧ ns.length ≤ 1000 ∧ GxR.TabG H Pt ∧ ∀ H', Q (.bl true) H'
theorem MOk.some {CI CM : Addr} {a : MA} {H : Hp} {m : M} (h : MOk CI CM a H m) : ∀ x ∈ a.all, H x ≠ none := by
  intro x hx
  obtain ⟨s, g, _⟩ := h.st
  simp only [MA.all, List.mem_cons, List.not_mem_nil, or_false] at hx
  rcases hx with rfl | rfl | rfl | rfl | rfl | rfl | rfl | rfl
  · rw [g]; intro z; cases z
  · rw [h.img.ob]; intro z; cases z
  · rw [h.img.da]; intro z; cases z
  · rw [h.rg]; intro z; cases z
  · rw [h.me]; intro z; cases z
  · rw [h.ip]; intro z; cases z
  · rw [h.ou]; intro z; cases z
  · rw [h.wa]; intro z; cases z
theorem MA.mut_all {a : MA} {x : Addr} (h : x ∈ a.mut) : x ∈ a.all := by
  simp only [MA.mut, MA.all, List.mem_cons, List.not_mem_nil, or_false] at *
  rcases h with h | h | h | h | h <;> simp [h]
theorem BOk.some {b : BA} {H : Hp} {m : M} (h : BOk b H m) : ∀ x ∈ b.mut, H x ≠ none := by
  intro x hx
  obtain ⟨_, _, _, _, g, _⟩ := h.ob
  simp only [BA.mut, List.mem_cons, List.not_mem_nil, or_false] at hx
  rcases hx with rfl | rfl | rfl
  · rw [g]; intro z; cases z
  · rw [h.rg]; intro z; cases z
  · rw [h.wo]; intro z; cases z
section
variable {P : Program} {w : World} {K : PySem.W.Frag} {mg : Str → Option Value} {base : Heap} {CI CM c Pt : Addr}
theorem ok_law {f : Addr} {fd : FuncData} (T : Txt K mg CI CM) (hcI : CodeI K CI c) (TB : GxR.TabB base mg c Pt) (F : Fun K "law" "law" s_law f fd) : FnOk P w K mg base CX0 9 f fd ["_law_script"] (spLaw K Pt) := by
  refine F.ok sc_law (fun vs H Q E h => ?_) fun cdv A outer s H vs Q E hr h => ?_
  · obtain ⟨s, ns, rfl, _⟩ := h
    rfl
  · obtain ⟨s0, ns, rfl, hs, hn, htab, k⟩ := h
    have nd := sc_law.nd
    have hu := hu_of hr
    refine ⟨_, (pss_cons (ps_set (i := 1) nd rfl (Or.inl rfl) (pe_slice (sll K) (pe_callTy (cr_list K) (by rfl) T.n_list (by decide +kernel) (pa_cons (pv 0) pa_nil)) po_none (po_some pe_int)))
      (pss_cut (ps_if (pt_cmpR op_lt (pe_callB (cr_len K) (by rfl) T.n_len (by decide +kernel) (pa_cons (pv 1) pa_nil)) pe_int (nomark _)) (pss_one (ps_set (i := 1) nd rfl (Or.inl rfl) (pe_op op_cat (pv 1) (pe_lst (pa_cons pe_int (pa_cons pe_int (pa_cons pe_int pa_nil))))))) pss_nil)
      (pss_cons (ps_set (i := 2) nd rfl (Or.inl rfl) (pe_fn (ok_law_lines T) (hr.mono (by decide)) (by rfl) (pa_cons (pe_slice (sll K) (pv 1) (po_some pe_int) po_none) (pa_cons pe_int pa_nil))))
      (pss_cons (ps_set (i := 3) nd rfl (Or.inl rfl) (pe_fn (ok_law_image T) (hr.mono (by decide)) (by rfl) (pa_cons (pv 2) pa_nil)))
      (pss_cut (ps_if (pt_cmpR op_eq (pe_ix (ixl K) (pe_fn (ok_law_draws T) (hr.mono (by decide)) (by rfl) (pa_cons (pe_ix (ixl K) (pv 1) pe_int (fun _ _ => rfl)) (pa_cons pe_int (pa_cons pe_int pa_nil)))) pe_int (fun _ _ => rfl)) pe_int (nomark _)) (pss_one (ps_setLc (i := 3) (own := [("_law_draws_here", 4)]) (g := gName 4) (by rfl) nd rfl rfl (sw_true rfl rfl rfl (by decide +kernel)) (p_list K (pe_lc (own := [("_law_cell", 5)]) (g := gName 5) (by rfl) nd (p_list K (pv 1)) (blkOk_by (N := nm_law) (sc := defScope s_law) (by decide +kernel)) (fun _ _ _ _ _ => pg_name (i := 5) nd rfl (Or.inl rfl)) (fun _ _ _ _ _ => pts_nil) (fun _ _ _ _ _ => (pe_fn (ok_law_draws T) (hr.mono (by decide)) (by rfl) (pa_cons (pv 5) (pa_cons pe_int (pa_cons pe_int pa_nil))))))) (blkOk_by (N := nm_law) (sc := defScope s_law) (by decide +kernel)) (fun _ _ _ _ _ => pg_name (i := 4) nd rfl (Or.inl rfl)) (fun _ _ _ _ _ => pts_nil) (fun _ _ _ _ _ => (pe_op op_mod (pe_ix (ixl K) (pv 4) pe_int (fun _ _ => rfl)) pe_int)))) pss_nil)
      (pss_cons (ps_set (i := 6) nd rfl (Or.inl rfl) (pe_ix (ixl K) (pe_fn (ok_law_draws T) (hr.mono (by decide)) (by rfl) (pa_cons (pe_op op_add (pe_ix (ixl K) (pv 1) pe_int (fun _ _ => rfl)) pe_int) (pa_cons (pe_callB (cr_len K) (by rfl) T.n_len (by decide +kernel) (pa_cons (pv 3) pa_nil)) (pa_cons pe_int pa_nil)))) pe_int (fun _ _ => rfl)))
      (pss_cut (ps_if (pt_cmpR op_eq (pe_ix (ixl K) (pe_fn (ok_law_draws T) (hr.mono (by decide)) (by rfl) (pa_cons (pe_op op_add (pe_ix (ixl K) (pv 1) pe_int (fun _ _ => rfl)) pe_int) (pa_cons pe_int (pa_cons pe_int pa_nil)))) pe_int (fun _ _ => rfl)) pe_int (nomark _)) (pss_one (ps_set (i := 6) nd rfl (Or.inl rfl) pe_int)) pss_nil)
      (pss_cons (ps_setLc (i := 8) (own := [("_law_number", 7)]) (g := gName 7) (by rfl) nd rfl rfl (sw_true rfl rfl rfl (by decide +kernel)) (p_list K (pe_fn (ok_law_words T) (hr.mono (by decide)) (by rfl) (pa_cons (pe_ix (ixl K) (pv 1) pe_int (fun _ _ => rfl)) (pa_cons pe_int pa_nil)))) (blkOk_by (N := nm_law) (sc := defScope s_law) (by decide +kernel)) (fun _ _ _ _ _ => pg_name (i := 7) nd rfl (Or.inl rfl)) (fun _ _ _ _ _ => pts_nil) (fun _ _ _ _ _ => (pe_tup (pa_cons (pv 7) (pa_cons (pe_op op_sub pe_int (pv 7)) pa_nil)))))
      (pss_cons (ps_set (i := 8) nd rfl (Or.inl rfl) (pe_op op_cat (pv 8) (pe_slice (sll K) (pe_lst (pa_cons (pe_tup (pa_cons (pe_ix (ixt K) (pe_ix (ixl K) (pv 8) pe_int (fun _ _ => rfl)) pe_int (fun _ _ => rfl)) (pa_cons pe_int pa_nil))) (pa_cons (pe_tup (pa_cons pe_int (pa_cons pe_int pa_nil))) (pa_cons (pe_tup (pa_cons pe_int (pa_cons pe_int pa_nil))) pa_nil)))) po_none (po_some (pe_ix (ixl K) (pe_fn (ok_law_draws T) (hr.mono (by decide)) (by rfl) (pa_cons (pe_op op_add (pe_ix (ixl K) (pv 1) pe_int (fun _ _ => rfl)) pe_int) (pa_cons pe_int (pa_cons pe_int pa_nil)))) pe_int (fun _ _ => rfl))))))
      (pss_cons (ps_set (i := 9) nd rfl (Or.inl rfl) (pe_fn (ok_law_words T) (hr.mono (by decide)) (by rfl) (pa_cons (pe_ix (ixl K) (pv 1) pe_int (fun _ _ => rfl)) (pa_cons pe_int pa_nil))))
      (pss_cons (ps_set (i := 10) nd rfl (Or.inl rfl) (pe_fn (ok_law_words T) (hr.mono (by decide)) (by rfl) (pa_cons (pe_op op_add (pe_ix (ixl K) (pv 1) pe_int (fun _ _ => rfl)) (pe_ix (ixl K) (pv 1) pe_int (fun _ _ => rfl))) (pa_cons (pe_ix (ixl K) (pe_fn (ok_law_draws T) (hr.mono (by decide)) (by rfl) (pa_cons (pe_ix (ixl K) (pv 1) pe_int (fun _ _ => rfl)) (pa_cons pe_int (pa_cons pe_int pa_nil)))) pe_int (fun _ _ => rfl)) pa_nil))))
      (pss_cons (ps_set (i := 11) nd rfl (Or.inl rfl) (pe_mkC (ok_M_init__ T) T.mkM T.mgM (hr.mono (by decide)) (by rfl) (pa_cons (pe_mkC (ok_I_init__ T hcI TB) T.mkI T.mgI (hr.mono (by decide)) (by rfl) (pa_cons (pe_callTy (cr_list K) (by rfl) T.n_list (by decide +kernel) (pa_cons (pv 3) pa_nil)) (pa_cons (pv 6) pa_nil))) (pa_cons (pe_callTy (cr_list K) (by rfl) T.n_list (by decide +kernel) (pa_cons (pv 9) pa_nil)) (pa_cons (pe_callTy (cr_list K) (by rfl) T.n_list (by decide +kernel) (pa_cons (pv 8) pa_nil)) (pa_cons (pe_callTy (cr_list K) (by rfl) T.n_list (by decide +kernel) (pa_cons (pv 10) pa_nil)) pa_nil))))))
      (pss_cons (ps_set (i := 12) nd rfl (Or.inl rfl) (pe_fn (ok_law_start T) (hr.mono (by decide)) (by rfl) (pa_cons (pv 3) (pa_cons (pv 6) (pa_cons (pv 9) (pa_cons (pv 8) (pa_cons (pv 10) pa_nil)))))))
      (pss_cons (ps_set (i := 13) nd rfl (Or.inl rfl) pe_int)
      (pss_cons (ps_for PassesOwn.never rfl (p_list K (pe_lst (pa_cons pe_int (pa_cons pe_int (pa_cons pe_int (pa_cons (pe_op op_add pe_int (pe_ix (ixl K) (pe_fn (ok_law_draws T) (hr.mono (by decide)) (by rfl) (pa_cons (pe_ix (ixl K) (pv 1) pe_int (fun _ _ => rfl)) (pa_cons pe_int (pa_cons pe_int pa_nil)))) pe_int (fun _ _ => rfl))) (pa_cons pe_int (pa_cons pe_int pa_nil)))))))) (pg_name (i := 14) nd rfl (Or.inl rfl)) (pss_cons (ps_set (i := 15) nd rfl (Or.inl rfl) (pe_mt (pv 11) T.clM (ok_M_run T) (hr.mono (by decide)) (pa_cons (pv 14) pa_nil)))
      (pss_cons (ps_set (i := 16) nd rfl (Or.inl rfl) (pe_fn (ok_law_run T) (hr.mono (by decide)) (by rfl) (pa_cons (pv 12) (pa_cons (pv 14) pa_nil))))
      (pss_cons (ps_set (i := 13) nd rfl (Or.inl rfl) (pe_op op_add (pv 13) (pv 16)))
      (pss_one (ps_if (PW.pt (pw_or (pt_not (pt_val (pe_fn (ok_law_is_integer T) (hr.mono (by decide)) (by rfl) (pa_cons (pv 15) pa_nil)))) (pw_or (pt_cmpR op_ne (pv 15) (pv 16) (nomark _)) (pw_or (pt_cmpR op_ne (p_fld K (pv 11) rfl) (pv 13) (nomark _)) (pw_or1 (pt_not (pt_val (pe_fn (ok_law_alike T) (hr.mono (by decide)) (by rfl) (pa_cons (pv 11) (pa_cons (pv 12) pa_nil)))))))))) (pss_one (ps_ret pe_bl)) pss_nil))))))
      (pss_one (ps_ret pe_bl))))))))))))))))), ?_⟩
    -- the cells
    refine q_asgL (el_is (el_slN (el_list (ev_var rfl) hs) (fun H1 e => eo_none) (fun H1 e => eo_some ev_c)) ((cut_take _ _ (by decide)).trans List.map_take.symm)) fun c0 H1 hc0 e1 h1 => ?_
    refine q_cut (M := fun σ' H' => ∃ (ca : Addr) (cs : List Int), 3 ≤ cs.length ∧ cs.length ≤ 300 ∧ σ' = (start nm_law [.ref s0]).set 1 (some (.ref ca)) ∧ H' ca = some (.lst (cs.map V.int)) ∧ Ex H H') ?_ fun σ' H' h => ?_
    · have hl : (ns.take (200 : Int).toNat).length ≤ 200 := by rw [List.length_take]; exact Nat.min_le_left _ _
      generalize ns.take (200 : Int).toNat = cs at *
      refine s_when (b := decide ((cs.length : Int) < 3)) (et_test (ev_op (ev_lenI (ev_var rfl) (sq_of h1)) ev_c rv_I0)) (fun hb H2 e2 => ?_) (fun hb H2 e2 => ⟨c0, cs, by have := of_decide_eq_false hb; omega, by omega, rfl, e2 _ _ h1, e1.trans e2⟩)
      refine s_asgL (el_catV (ys := [.int 5, .int 77, .int 1001]) (ev_var rfl) (e2 _ _ h1) (el_lst (ea_cons ev_c (ea_cons ev_c (ea_cons ev_c ea_nil))) (Nat.le_of_ble_eq_true rfl)) (by rw [List.length_map]; show cs.length + 3 ≤ 100000; omega)) fun c1 H3 hc1 e3 h3 => ⟨c1, cs ++ [5, 77, 1001], by rw [List.length_append]; show 3 ≤ cs.length + 3; omega, by rw [List.length_append]; show cs.length + 3 ≤ 300; omega, rfl, by rw [h3, List.map_append] <;> rfl, (e1.trans e2).trans e3⟩
    obtain ⟨ca, cs, hc3, hc300, rfl, hca, e⟩ := h
    clear hc0 e1 h1
    have cell : ∀ (j : Nat) (i : Int) (σ : L2.St) (H2 : Hp), H2 ca = some (.lst (cs.map V.int)) → σ[1]? = some (some (.ref ca)) → i = (j : Int) → j < 3 → Ev (tOp (rIxL K) (tVar 1) (tC (.int i))) σ H2 (.int (gI cs j)) := fun j i σ H2 h hσ hi hj => ev_op (ev_var hσ) ev_c (rv_ixL (sq_of h) (at_gN hi (by omega)))
    have base16 : (0 : Int) < 65536 ∧ (65536 : Int) < 1000000 := by decide
    -- the lines
    have hcut : cutV (cs.map V.int) (some 2) none = (cs.drop 2).map V.int := cut_drop cs 2 (by decide)
    refine q_asgP (P := LinesR (min (cs.drop 2).length 40)) (fun H0 e0 Q q => (el_sl (ev_var rfl) (eo_some ev_c) eo_none (sq_of hca)) H0 e0 _ fun p H1 hp e1 h1 => ev_c H1 (Ex.refl H1) _ fun H2 e2 => ⟨p, cs.drop 2, 40, rfl, by rw [← hcut]; exact e2 _ _ h1, by decide, fun v H3 e3 hv => q v H3 ((e1.trans e2).trans e3) hv⟩) fun v H2 e2 hv => ?_
    obtain ⟨lp, lx, rfl, hlp, hln, hlL⟩ := hv
    have hln2 : 1 ≤ lx.length ∧ lx.length ≤ 40 := by rw [List.length_drop] at hln; omega
    -- the image
    refine q_asgP (P := NewI (ImgR lx.length) H2) (evp_call (vs := [.ref lp]) (ea_cons (ev_var rfl) ea_nil) (fun H3 e3 Q q E => ⟨lp, lp, lx, rfl, e3 _ _ hlp, ⟨hln2.1, by omega⟩, fun x hx => (hlL x hx).ex e3, fun v H4 e4 hv => q v H4 e4 (hv.back e3)⟩)) fun v H3 e3 hv => ?_
    obtain ⟨d0, ds0, rfl, _, hd0, hdR⟩ := hv
    have e03 := (e.trans e2).trans e3
    have hca3 := e3 _ _ (e2 _ _ hca)
    refine q_cut (M := fun σ' H' => ∃ (da : Addr) (d : List Int), Bytes d ∧ 1 ≤ d.length ∧ d.length ≤ 4096 ∧ H' da = some (.lst (d.map V.int)) ∧ H' ca = some (.lst (cs.map V.int)) ∧ Ex H H' ∧ ∃ u4 u5, σ' = [some (.ref s0), some (.ref ca), some (.ref lp), some (.ref da), u4, u5, none, none, none, none, none, none, none, none, none, none, none]) ?_ fun σ' H' h => ?_
    · refine s_whenP (R := fun y => 0 ≤ y ∧ y < 4) (evp_draw (ea_cons (cell 0 0 _ _ hca3 rfl rfl (by decide)) (ea_cons ev_c (ea_cons ev_c ea_nil))) ⟨by decide, by decide⟩) (fun H4 e4 => ?_) (fun H4 e4 => ⟨d0, ds0, hdR.1, by have := hdR.2.1; omega, by have := hdR.2.2; omega, e4 _ _ hd0, e4 _ _ hca3, e03.trans e4, none, none, rfl⟩)
      refine s_asgP (evp_lcB (n := cs.length) (evp_lcD (cs := cs) (c := ca) (ev_var rfl) (e4 _ _ hca3) (by omega) (fun x => rfl) (fun x H5 e5 => et_yes) (fun x H5 e5 => ?dd)) (by omega) (fun x => rfl) (fun x H5 e5 => et_yes) (fun q y H5 hq => ?bb)) fun v H5 e5 hv => ?_
      case dd =>
        exact evp_call (vs := [.int x, .int 65536, .int ((1 : Nat) : Int)]) (ea_cons (ev_var rfl) (ea_cons ev_c (ea_cons ev_c ea_nil))) (sp_draws base16 (by decide))
      case bb =>
        exact ev_op (ev_op (ev_var rfl) ev_c (rv_ixL (sq_of hq) rfl)) ev_c (rv_I (show (0 : Int) < 256 by decide))
      obtain ⟨d1, ds1, rfl, _, hd1, hl1, hb1⟩ := hv
      exact ⟨d1, ds1, hb1, by omega, by omega, hd1, e5 _ _ (e4 _ _ hca3), (e03.trans e4).trans e5, none, none, rfl⟩
    obtain ⟨da, d, hB, hd1, hd4, hda, hca, e, u4, u5, rfl⟩ := h
    clear hca3 e03 e2 e3 hd0 hdR hlL hlp
    -- the entry
    have hdm : (0 : Int) < (d.length : Int) ∧ (d.length : Int) < 1000000 := by omega
    refine q_asgP (P := fun v _ => ∃ y, v = .int y ∧ 0 ≤ y ∧ y < (d.length : Int)) (evp_draw (ea_cons (ev_op (cell 1 1 _ _ hca rfl rfl (by decide)) ev_c rv_I0) (ea_cons (ev_lenI (ev_var rfl) (sq_of hda)) (ea_cons ev_c ea_nil))) hdm) fun v H2 e2 hv => ?_
    obtain ⟨y0, rfl, hy0⟩ := hv
    have hca2 := e2 _ _ hca
    refine q_cut (M := fun σ' H' => ∃ ent : Int, 0 ≤ ent ∧ ent < (d.length : Int) ∧ Ex H2 H' ∧ σ' = [some (.ref s0), some (.ref ca), some (.ref lp), some (.ref da), u4, u5, some (.int ent), none, none, none, none, none, none, none, none, none, none]) ?_ fun σ' H' h => ?_
    · refine s_whenP (R := fun y => 0 ≤ y ∧ y < 2) (evp_draw (ea_cons (ev_op (cell 0 0 _ _ hca2 rfl rfl (by decide)) ev_c rv_I0) (ea_cons ev_c (ea_cons ev_c ea_nil))) ⟨by decide, by decide⟩) (fun H4 e4 => ?_) (fun H4 e4 => ⟨y0, hy0.1, hy0.2, e4, rfl⟩)
      exact s_asg (v := .int 0) ev_c fun H5 e5 => ⟨0, by omega, by omega, e4.trans e5, rfl⟩
    obtain ⟨ent, hent0, hent1, e3, rfl⟩ := h
    replace e := (e.trans e2).trans e3
    replace hca := e3 _ _ hca2
    replace hda := e3 _ _ (e2 _ _ hda)
    clear hca2 e2 e3
    -- the memory
    refine q_asgP (evp_lcPairsP (R := WordsR 3) (fun _ => true) (fun x => 65535 - x) (evp_call (vs := [.int (gI cs 1), .int ((3 : Nat) : Int)]) (ea_cons (cell 1 1 _ _ hca rfl rfl (by decide)) (ea_cons ev_c ea_nil)) (sp_words (by decide))) (fun xs h => by rw [h.1]; decide) (fun x => rfl) (fun x H2 e2 => et_yes) fun x H2 e2 _ => ?mm) fun v H2 e2 hv => ?_
    case mm => exact eu_tup (ea_cons (ev_var rfl) (ea_cons (ev_op ev_c (ev_var rfl) rv_I0) ea_nil)) (Nat.le_of_ble_eq_true rfl)
    obtain ⟨ws, hws, mp, as, rfl, _, hmp, hpr⟩ := hv
    have hff : (ws.filter fun _ => true) = ws := List.filter_eq_self.mpr (by simp)
    rw [hff] at hpr
    replace e := e.trans e2
    replace hca := e2 _ _ hca
    replace hda := e2 _ _ hda
    clear e2
    have hps0 : (ws.map fun x => (x, 65535 - x)).length = 3 := by rw [List.length_map]; exact hws.1
    have hpw : ∀ p ∈ ws.map fun x => (x, 65535 - x), Wd p.2 := by
      intro p hp
      obtain ⟨x, hx, rfl⟩ := List.mem_map.mp hp
      have := hws.2 x hx
      unfold Wd at *
      show 0 ≤ 65535 - x ∧ 65535 - x < 65536
      omega
    generalize (ws.map fun x => (x, 65535 - x)) = ps0 at *
    refine q_asgP (P := fun v H2 => ∃ (mp : Addr) (as : List Addr) (ps : List (Int × Int)), v = .ref mp ∧ H2 mp = some (.lst (as.map V.ref)) ∧ PrsAt H2 as ps ∧ ps.length ≤ 6 ∧ ∀ p ∈ ps, Wd p.2) ?mem fun v H2 e2 hv => ?_
    case mem =>
      have ha0 : ∃ a0, as[0]? = some a0 := by
        have h3 : as.length = 3 := hpr.1.trans hps0
        exact ⟨as[0]'(by omega), List.getElem?_eq_getElem _⟩
      obtain ⟨a0, ha0⟩ := ha0
      obtain ⟨p0, _, hp0⟩ := hpr.2 0 a0 ha0
      have hm0 : atI (as.map V.ref) 0 = some (.ref a0) := atI_nat (j := 0) (by rw [List.getElem?_map, ha0] <;> rfl)
      refine (evp_catS (ev_var rfl) hmp (by rw [List.length_map, hpr.1, hps0]; decide) (evp_three (eu_tup (ea_cons (ev_op (ev_op (ev_var rfl) ev_c (rv_ixL (sq_of hmp) hm0)) ev_c (rv_ixT (v := .int p0.1) (st_of hp0) rfl)) (ea_cons ev_c ea_nil)) (Nat.le_of_ble_eq_true rfl)) (fun H1 _ => eu_tup (ea_cons ev_c (ea_cons ev_c ea_nil)) (Nat.le_of_ble_eq_true rfl)) (fun H1 _ => eu_tup (ea_cons ev_c (ea_cons ev_c ea_nil)) (Nat.le_of_ble_eq_true rfl)))
        (fun H1 e1 => evp_draw (m := 4) (ea_cons (ev_op (cell 0 0 _ _ (e1 _ _ hca) rfl rfl (by decide)) ev_c rv_I0) (ea_cons ev_c (ea_cons ev_c ea_nil))) ⟨by decide, by decide⟩)).imp fun v H1 e1 hv => ?_
      obtain ⟨r, t1, t2, t3, y, hy0, rfl, hr, h1, h2, h3⟩ := hv
      refine ⟨r, as ++ [t1, t2, t3].take y.toNat, ps0 ++ [(p0.1, 7), (5, 1), (5, 2)].take y.toNat, rfl, ?_, ?_, ?_, fun x hx => ?_⟩
      · rw [hr, List.map_append, List.map_take] <;> rfl
      · exact (hpr.chg (Chg.of (S := []) e1)).app ((PrsAt.three (p := (p0.1, 7)) (q := (5, 1)) (r := (5, 2)) h1 h2 h3).take _)
      · rw [List.length_append, hps0, List.length_take]
        show 3 + min _ 3 ≤ 6
        omega
      · rcases List.mem_append.mp hx with z | z
        · exact hpw x z
        · have z := List.mem_of_mem_take z
          simp only [List.mem_cons, List.not_mem_nil, or_false] at z
          rcases z with rfl | rfl | rfl
          · exact ⟨by show (0 : Int) ≤ 7; decide, by show (7 : Int) < 65536; decide⟩
          · exact ⟨by decide, by decide⟩
          · exact ⟨by decide, by decide⟩
    obtain ⟨mp2, as2, ps, rfl, hmp2, hpr2, hpl, hpw2⟩ := hv
    replace e := e.trans e2
    replace hca := e2 _ _ hca
    replace hda := e2 _ _ hda
    clear e2 hmp hpr
    -- registers, inputs
    refine q_asgP (P := NewI (WordsR 8) _) (evp_call (vs := [.int (gI cs 0), .int ((8 : Nat) : Int)]) (ea_cons (cell 0 0 _ _ hca rfl rfl (by decide)) (ea_cons ev_c ea_nil)) (sp_words (by decide))) fun v H3 e3 hv => ?_
    obtain ⟨rp, regs, rfl, _, hrp, hrl, hrw⟩ := hv
    replace hca := e3 _ _ hca
    refine q_asgP (P := fun v H4 => ∃ (p : Addr) (inp : List Int), v = .ref p ∧ H4 p = some (.lst (inp.map V.int)) ∧ inp.length ≤ 5 ∧ ∀ x ∈ inp, Wd x) (fun H0 e0 Q q => (ev_op (cell 0 0 _ _ hca rfl rfl (by decide)) (cell 1 1 _ _ hca rfl rfl (by decide)) rv_I0) H0 e0 _ fun H1 e1 => (evp_draw (m := 5) (ea_cons (cell 1 1 _ _ hca rfl rfl (by decide)) (ea_cons ev_c (ea_cons ev_c ea_nil))) ⟨by decide, by decide⟩) H1 (e0.trans e1) _ fun v H2 e2 ⟨y, hv, hy0, hy1⟩ => by
      subst hv
      exact ⟨gI cs 0 + gI cs 1, y.toNat, by rw [Int.toNat_of_nonneg hy0] <;> rfl, by omega, fun v H3 e3 ⟨p, ns, h1, _, h2, h3, h4⟩ => q v H3 ((e1.trans e2).trans e3) ⟨p, ns, h1, h2, by omega, h4⟩⟩) fun v H4 e4 hv => ?_
    obtain ⟨ipp, inp, rfl, hip, hipl, hipw⟩ := hv
    replace e := (e.trans e3).trans e4
    replace hca := e4 _ _ hca
    replace hda := e4 _ _ (e3 _ _ hda)
    replace hmp2 := e4 _ _ (e3 _ _ hmp2)
    replace hrp := e4 _ _ hrp
    replace hpr2 : PrsAt H4 as2 ps := hpr2.chg (Chg.of (S := []) (e3.trans e4))
    clear e3 e4
    obtain ⟨pt0, hpt0, hpt1⟩ := htab
    have hpt := e _ _ hpt0
    -- the image object
    have md : 1 ≤ d.length ∧ d.length ≤ 4096 := ⟨hd1, hd4⟩
    refine q_st ?_
    refine (el_list (ev_var rfl) (sq_of hda)) H4 (Ex.refl H4) _ fun l H5 hl0 e5 hl => ?_
    refine ev_var rfl H5 (Ex.refl H5) _ fun H6 e6 => ?_
    intro xi dxi hxi hdxi hne
    have e46 := e5.trans e6
    have hxi2 : (L2.upd H6 dxi (.own xi)) xi = none := by rw [upd_ne (Ne.symm hne)]; exact hxi
    have e67 : Ex H6 (L2.upd (L2.upd H6 dxi (.own xi)) xi (.ins CI dxi [])) := (Ex.new hdxi).trans (Ex.new hxi2)
    have e47 := e46.trans e67
    refine ⟨xi, dxi, l, d, ent, rfl, upd_same, sq_of ((e6.trans e67) _ _ hl), hB, md, ⟨hent0, hent1⟩, ⟨pt0, e47 _ _ hpt, hpt1⟩, fun H8 im img c8 tab8 => ⟨rfl, ?_⟩⟩
    have hxi4 : H4 xi = none := fresh_back e46 hxi
    have kp : ∀ (b : Addr) (o : HO), H4 b = some o → b ≠ Pt → H8 b = some o := fun b o h n => c8.keep b o (e47 _ _ h) (by
      intro z
      rcases List.mem_cons.mp z with z | z
      · rw [z, hxi4] at h; cases h
      · exact n (List.mem_singleton.mp z))
    have npt : ∀ {b : Addr} {xs : List V}, H4 b = some (.lst xs) → b ≠ Pt := fun h z => by rw [z, hpt] at h; cases h
    have lk : ∀ {b : Addr} {xs : List V}, H4 b = some (.lst xs) → H8 b = some (.lst xs) := fun h => kp _ _ h (npt h)
    have hpr8 : PrsAt H8 as2 ps := ⟨hpr2.1, fun i a ha => let ⟨p, h1, h2⟩ := hpr2.2 i a ha; ⟨p, h1, kp _ _ h2 fun z => by rw [z, hpt] at h2; cases h2⟩⟩
    have hda8 := lk hda
    have hca8 := lk hca
    have hrp8 := lk hrp
    have hmp8 := lk hmp2
    have hip8 := lk hip
    refine (el_list (ev_var rfl) (sq_of hrp8)) H8 (Ex.refl H8) _ fun rl H9 frl e9 hrl2 => ?_
    refine (el_list (ev_var rfl) (sq_of (e9 _ _ hmp8))) H9 (Ex.refl H9) _ fun ml H10 fml e10 hml => ?_
    refine (el_list (ev_var rfl) (sq_of ((e9.trans e10) _ _ hip8))) H10 (Ex.refl H10) _ fun il H11 fil e11 hil => ?_
    intro xm dxm hxm hdxm hnem
    have hxm2 : (L2.upd H11 dxm (.own xm)) xm = none := by rw [upd_ne (Ne.symm hnem)]; exact hxm
    have e12 : Ex H11 (L2.upd (L2.upd H11 dxm (.own xm)) xm (.ins CM dxm [])) := (Ex.new hdxm).trans (Ex.new hxm2)
    have e812 := ((e9.trans e10).trans e11).trans e12
    have img12 := img.ex e812
    have nim : xi ≠ xm := fun z => by
      have := ((e9.trans e10).trans e11) _ _ img.ob
      rw [z, hxm] at this
      cases this
    have hm0 : (xm :: [] : List Addr) = [xm] := rfl
    refine ⟨xm, dxm, xi, dxi, im, rl, ml, il, d, ent, regs, as2, ps, inp, rfl, upd_same, img12, nim, (e10.trans (e11.trans e12)) _ _ hrl2, (e11.trans e12) _ _ hml, hpr8.chg (Chg.of (S := []) e812), by omega, e12 _ _ hil, fun H13 a p1 p2 p3 p4 fr13 M13 c13 => ⟨rfl, ?_⟩⟩
    subst p1
    have hpd : a.d = d := p4
    have W0 : (initM ent regs ps inp).Wf 10 := initM_wf hent0 hrl hrw hpw2 (by omega) (by omega) hipw
    have lk13 : ∀ {b : Addr} {o : HO}, H8 b = some o → H13 b = some o := fun {b o} h => c13.keep b o (e812 _ _ h) (by
      intro z
      have z := List.mem_singleton.mp z
      have := ((e9.trans e10).trans e11) _ _ h
      rw [z, hxm] at this
      cases this)
    have hda13 := lk13 hda8
    have hca13 := lk13 hca8
    have hpr13 : PrsAt H13 as2 ps := ⟨hpr8.1, fun i x hx => let ⟨p, h1, h2⟩ := hpr8.2 i x hx; ⟨p, h1, lk13 h2⟩⟩
    have nmut : ∀ {b : Addr} {o : HO}, H8 b = some o → b ∉ a.mut := fun {b o} h z => by
      simp only [MA.mut, List.mem_cons, List.not_mem_nil, or_false] at z
      have h12 := e812 _ _ h
      have h11 := ((e9.trans e10).trans e11) _ _ h
      have f : ∀ y ∈ [a.rg, a.me, a.ip, a.ou, a.wa], b ≠ y := fun y hy q => by rw [q, fr13 y hy] at h12; cases h12
      rcases z with z | z | z | z | z
      · rw [z, hxm] at h11; cases h11
      · exact f _ (by simp) z
      · exact f _ (by simp) z
      · exact f _ (by simp) z
      · exact f _ (by simp) z
    generalize hm : initM ent regs ps inp = m0 at *
    have hn0 : m0.n = 0 := by rw [← hm] <;> rfl
    -- the box
    refine q_st ?_
    refine call_raw (vs := [.ref da, .int ent, .ref rp, .ref mp2, .ref ipp]) (ea_cons (ev_var rfl) (ea_cons (ev_var rfl) (ea_cons (ev_var rfl) (ea_cons (ev_var rfl) (ea_cons (ev_var rfl) ea_nil))))) fun H14 e14 => ?_
    have M14 := M13.ex e14
    refine ⟨da, rp, mp2, ipp, d, ent, regs, as2, ps, inp, a.mut, rfl, e14 _ _ hda13, hB, e14 _ _ (lk13 hrp8), e14 _ _ (lk13 hmp8), hpr13.chg (Chg.of (S := []) e14), by omega, e14 _ _ (lk13 hip8), nmut hda8, fun x hx => M14.some x (MA.mut_all hx), fun H15 b b1 b2 b3 fb B15 e15 => ?_⟩
    rw [hm] at B15
    have M15 := M14.ex e15
    have dis : ∀ x ∈ a.all, x ∉ b.mut := fun x hx z => M14.some x hx (fb x z)
    have hca15 := e15 _ _ (e14 _ _ hca13)
    clear M13 M14 lk13 lk kp
    refine q_asg (v := .int 0) ev_c fun H16 e16 => ?_
    have M16 := M15.ex e16
    have B16 := B15.ex e16
    have hca16 := e16 _ _ hca15
    refine q_forP (R := fun ls => ls.length = 6 ∧ ∀ x ∈ ls, 0 ≤ x ∧ x ≤ 300) (evp_lstI (evai_cons (evp_cI ⟨by decide, by decide⟩) (evai_cons (evp_cI ⟨by decide, by decide⟩) (evai_cons (evp_cI ⟨by decide, by decide⟩) (evai_cons ((evp_addI (i := 1) (R := fun y => 0 ≤ y ∧ y < 30) ev_c (evp_draw (m := 30) (ea_cons (cell 1 1 _ _ hca16 rfl rfl (by decide)) (ea_cons ev_c (ea_cons ev_c ea_nil))) ⟨by decide, by decide⟩)).imp fun v H1 _ hv => let ⟨n, h1, h2, h3⟩ := hv; ⟨1 + n, h1, by omega, by omega⟩) (evai_cons (evp_cI ⟨by decide, by decide⟩) (evai_cons (evp_cI ⟨by decide, by decide⟩) evai_nil)))))) fun ls h => by rw [h.1]; decide)
      (fun ls p i σ' H' => ∃ (m : UW.M) (u14 u15 u16 : Option V), σ' = [some (.ref s0), some (.ref ca), some (.ref lp), some (.ref da), u4, u5, some (.int ent), none, some (.ref mp2), some (.ref rp), some (.ref ipp), some (.ref a.p), some (.ref b.b), some (.int m.n), u14, u15, u16] ∧
        H' p = some (.lst (ls.map V.int)) ∧ p ∉ a.mut ∧ p ∉ b.mut ∧ MOk CI CM a H' m ∧ BOk b H' m ∧ m.Wf (10 + 300 * i) ∧ i ≤ 6)
      (fun ls p H17 hr hp e17 h17 => ⟨m0, none, none, none, by rw [hn0] <;> rfl, h17, (fun z => M16.some p (MA.mut_all z) hp), (fun z => B16.some p z hp), M16.ex e17, B16.ex e17, W0, by omega⟩) (fun ls p i σ' H' hp => ?_) (fun ls p i x σ' H' hr hx hp => ?_) (fun ls p σ' H' hr hp => ?_)
    · obtain ⟨m, u14, u15, u16, rfl, h1, _⟩ := hp
      exact h1
    · obtain ⟨m, u14, u15, u16, rfl, hl1, np1, np2, Mi, Bi, Wi, hi6⟩ := hp
      have hil : i < 6 := by rw [← hr.1]; exact (List.getElem?_eq_some_iff.mp hx).1
      obtain ⟨hx0, hx1⟩ := hr.2 x (List.mem_of_getElem? hx)
      obtain ⟨n, rfl⟩ : ∃ n : Nat, x = (n : Int) := ⟨x.toNat, by omega⟩
      have hn300 : n ≤ 300 := by omega
      obtain ⟨s', g, _⟩ := Mi.st
      refine q_st ?_
      refine meth_raw1 (vs := [.int (n : Int)]) (ev_var rfl) g (mfl_meth _ nmeth_run) (ea_cons (ev_var rfl) ea_nil) fun H1 e1 => ⟨a, m, 10 + 300 * i, n, rfl, Mi.ex e1, Wi, by omega, fun H2 M2 c2 => ?_⟩
      have al2 : ∀ y ∈ b.av, H2 y ≠ none := by rw [b3]; exact fun y hy => M2.some y (MA.mut_all hy)
      have B2 : BOk b H2 m := (Bi.ex e1).chg (by rw [b3]; exact c2) al2
      have p2 := c2.keep p _ (e1 _ _ hl1) np1
      refine q_st ?_
      refine call_raw (vs := [.ref b.b, .int (n : Int)]) (ea_cons (ev_var rfl) (ea_cons (ev_var rfl) ea_nil)) fun H3 e3 => ⟨b, m, 10 + 300 * i, n, rfl, B2.ex e3, Wi, by omega, fun H4 B4 c4 => ?_⟩
      have M4 := (M2.ex e3).chg c4 dis
      have p4 := c4.keep p _ (e3 _ _ p2) np2
      have hbd : b.d = a.d := b2.trans hpd.symm
      rw [hbd] at B4
      generalize hm2 : runM a.d n m = m2 at *
      have hnn : m2.n = m.n + (madeM a.d n m : Int) := by rw [← hm2]; exact runM_n a.d n m
      have W2 : m2.Wf (10 + 300 * (i + 1)) := by
        rw [← hm2]
        exact (runM_wf Mi.img.by_ n Wi).mono (by omega)
      have hbm : madeM b.d n m = madeM a.d n m := by rw [hbd]
      refine q_asg (v := .int m2.n) (ev_is (ev_op (ev_var rfl) (ev_var rfl) rv_I0) (by rw [hnn, hbm])) fun H5 e5 => ?_
      have M5 := M4.ex e5
      have B5 := B4.ex e5
      refine s_when (b := !true || (false || (false || !true))) (et_or (et_not (et_B (ev_call (vs := [.int (madeM a.d n m : Int)]) (ea_cons (ev_var rfl) ea_nil) sp_isint))) fun _ => et_or (et_test (ev_op (ev_var rfl) (ev_var rfl) (rv_neb rfl (by rw [hbm, decide_eq_true rfl] <;> rfl)))) fun _ => et_or (et_test (ev_op (evM_steps (ev_var rfl) M5 T) (ev_var rfl) (rv_neb rfl (by rw [decide_eq_true rfl] <;> rfl)))) fun _ => et_not (et_B (ev_call (vs := [.ref a.p, .ref b.b]) (ea_cons (ev_var rfl) (ea_cons (ev_var rfl) ea_nil)) (sp_alike M5 B5 W2 (by omega))))) (fun z => by cases z) fun _ H6 e6 => ⟨m2, _, _, _, rfl, (e5.trans e6) _ _ p4, np1, np2, M5.ex e6, B5.ex e6, W2, by omega⟩
    · exact s_ret (v := .bl true) ev_c fun H1 e1 => k H1
end

def fnE : List He.DefD := ([⟨("signed", none), "signed", "signed", defArgs s_signed, defBody s_signed, defScope s_signed, [], []⟩, ⟨("bitwise", none), "bitwise", "bitwise", defArgs s_bitwise, defBody s_bitwise, defScope s_bitwise, [], []⟩, ⟨("shifted", none), "shifted", "shifted", defArgs s_shifted, defBody s_shifted, defScope s_shifted, [], []⟩, ⟨("combine", none), "combine", "combine", defArgs s_combine, defBody s_combine, defScope s_combine, [], []⟩, ⟨("Image", some "__init__"), "__init__", "Image.__init__", defArgs s_I_init__, defBody s_I_init__, defScope s_I_init__, [], []⟩, ⟨("Image", some "part"), "part", "Image.part", defArgs s_I_part, defBody s_I_part, defScope s_I_part, [], []⟩, ⟨("word_of", none), "word_of", "word_of", defArgs s_word_of, defBody s_word_of, defScope s_word_of, [], []⟩, ⟨("pair_of", none), "pair_of", "pair_of", defArgs s_pair_of, defBody s_pair_of, defScope s_pair_of, [], []⟩, ⟨("table_in", none), "table_in", "table_in", defArgs s_table_in, defBody s_table_in, defScope s_table_in, [], []⟩, ⟨("paired_in", none), "paired_in", "paired_in", defArgs s_paired_in, defBody s_paired_in, defScope s_paired_in, [], []⟩, ⟨("single_in", none), "single_in", "single_in", defArgs s_single_in, defBody s_single_in, defScope s_single_in, [], []⟩, ⟨("plain_in", none), "plain_in", "plain_in", defArgs s_plain_in, defBody s_plain_in, defScope s_plain_in, [], []⟩, ⟨("decode", none), "decode", "decode", defArgs s_decode, defBody s_decode, defScope s_decode, [], []⟩, ⟨("found_at", none), "found_at", "found_at", defArgs s_found_at, defBody s_found_at, defScope s_found_at, [], []⟩, ⟨("instruction_at", none), "instruction_at", "instruction_at", defArgs s_instruction_at, defBody s_instruction_at, defScope s_instruction_at, [], []⟩, ⟨("next_address", none), "next_address", "next_address", defArgs s_next_address, defBody s_next_address, defScope s_next_address, [], []⟩, ⟨("Machine", some "__init__"), "__init__", "Machine.__init__", defArgs s_M_init__, defBody s_M_init__, defScope s_M_init__, [], []⟩, ⟨("Machine", some "status"), "status", "Machine.status", defArgs s_M_status, defBody s_M_status, defScope s_M_status, [], []⟩, ⟨("Machine", some "registers"), "registers", "Machine.registers", defArgs s_M_registers, defBody s_M_registers, defScope s_M_registers, [], []⟩, ⟨("Machine", some "waiting"), "waiting", "Machine.waiting", defArgs s_M_waiting, defBody s_M_waiting, defScope s_M_waiting, [], []⟩, ⟨("Machine", some "outputs"), "outputs", "Machine.outputs", defArgs s_M_outputs, defBody s_M_outputs, defScope s_M_outputs, [], []⟩, ⟨("Machine", some "inputs_left"), "inputs_left", "Machine.inputs_left", defArgs s_M_inputs_left, defBody s_M_inputs_left, defScope s_M_inputs_left, [], []⟩, ⟨("Machine", some "read"), "read", "Machine.read", defArgs s_M_read, defBody s_M_read, defScope s_M_read, [], []⟩, ⟨("Machine", some "written"), "written", "Machine.written", defArgs s_M_written, defBody s_M_written, defScope s_M_written, [], []⟩, ⟨("Machine", some "run"), "run", "Machine.run", defArgs s_M_run, defBody s_M_run, defScope s_M_run, [], []⟩, ⟨("Machine", some "step"), "step", "Machine.step", defArgs s_M_step, defBody s_M_step, defScope s_M_step, [], []⟩, ⟨("Machine", some "trap"), "trap", "Machine.trap", defArgs s_M_trap, defBody s_M_trap, defScope s_M_trap, [], []⟩, ⟨("Machine", some "compute"), "compute", "Machine.compute", defArgs s_M_compute, defBody s_M_compute, defScope s_M_compute, [], []⟩, ⟨("Machine", some "taken"), "taken", "Machine.taken", defArgs s_M_taken, defBody s_M_taken, defScope s_M_taken, [], []⟩, ⟨("Machine", some "access"), "access", "Machine.access", defArgs s_M_access, defBody s_M_access, defScope s_M_access, [], []⟩] : List He.DefD) ++ ([⟨("Machine", some "shift"), "shift", "Machine.shift", defArgs s_M_shift, defBody s_M_shift, defScope s_M_shift, [], []⟩, ⟨("Machine", some "go"), "go", "Machine.go", defArgs s_M_go, defBody s_M_go, defScope s_M_go, [], []⟩, ⟨("Machine", some "enter"), "enter", "Machine.enter", defArgs s_M_enter, defBody s_M_enter, defScope s_M_enter, [], []⟩, ⟨("_law_is_integer", none), "_law_is_integer", "_law_is_integer", defArgs s_law_is_integer, defBody s_law_is_integer, defScope s_law_is_integer, [], []⟩, ⟨("_law_draws", none), "_law_draws", "_law_draws", defArgs s_law_draws, defBody s_law_draws, defScope s_law_draws, [], []⟩, ⟨("_law_decode", none), "_law_decode", "_law_decode", defArgs s_law_decode, defBody s_law_decode, defScope s_law_decode, [], []⟩, ⟨("_law_names", none), "_law_names", "_law_names", defArgs s_law_names, defBody s_law_names, defScope s_law_names, [], []⟩, ⟨("_law_kinds", none), "_law_kinds", "_law_kinds", defArgs s_law_kinds, defBody s_law_kinds, defScope s_law_kinds, [], []⟩, ⟨("_law_signed", none), "_law_signed", "_law_signed", defArgs s_law_signed, defBody s_law_signed, defScope s_law_signed, [], []⟩, ⟨("_law_bitwise", none), "_law_bitwise", "_law_bitwise", defArgs s_law_bitwise, defBody s_law_bitwise, defScope s_law_bitwise, [], []⟩, ⟨("_law_combine", none), "_law_combine", "_law_combine", defArgs s_law_combine, defBody s_law_combine, defScope s_law_combine, [], []⟩, ⟨("_law_start", none), "_law_start", "_law_start", defArgs s_law_start, defBody s_law_start, defScope s_law_start, [], []⟩, ⟨("_law_step", none), "_law_step", "_law_step", defArgs s_law_step, defBody s_law_step, defScope s_law_step, [], []⟩, ⟨("_law_work", none), "_law_work", "_law_work", defArgs s_law_work, defBody s_law_work, defScope s_law_work, [], []⟩, ⟨("_law_go", none), "_law_go", "_law_go", defArgs s_law_go, defBody s_law_go, defScope s_law_go, [], []⟩, ⟨("_law_goal", none), "_law_goal", "_law_goal", defArgs s_law_goal, defBody s_law_goal, defScope s_law_goal, [], []⟩, ⟨("_law_run", none), "_law_run", "_law_run", defArgs s_law_run, defBody s_law_run, defScope s_law_run, [], []⟩, ⟨("_law_lines", none), "_law_lines", "_law_lines", defArgs s_law_lines, defBody s_law_lines, defScope s_law_lines, [], []⟩, ⟨("_law_size", none), "_law_size", "_law_size", defArgs s_law_size, defBody s_law_size, defScope s_law_size, [], []⟩, ⟨("_law_image", none), "_law_image", "_law_image", defArgs s_law_image, defBody s_law_image, defScope s_law_image, [], []⟩, ⟨("_law_code", none), "_law_code", "_law_code", defArgs s_law_code, defBody s_law_code, defScope s_law_code, [], []⟩, ⟨("_law_words", none), "_law_words", "_law_words", defArgs s_law_words, defBody s_law_words, defScope s_law_words, [], []⟩, ⟨("_law_alike", none), "_law_alike", "_law_alike", defArgs s_law_alike, defBody s_law_alike, defScope s_law_alike, [], []⟩, ⟨("law", none), "law", "law", defArgs s_law, defBody s_law, defScope s_law, [], []⟩] : List He.DefD)
def faE : List He.Fa := ([.glo "signed", .glo "bitwise", .glo "shifted", .glo "combine", .meth "Image" "__init__", .meth "Image" "part", .glo "word_of", .glo "pair_of", .glo "table_in", .glo "paired_in", .glo "single_in", .glo "plain_in", .glo "decode", .glo "found_at", .glo "instruction_at", .glo "next_address", .meth "Machine" "__init__", .meth "Machine" "status", .meth "Machine" "registers", .meth "Machine" "waiting", .meth "Machine" "outputs", .meth "Machine" "inputs_left", .meth "Machine" "read", .meth "Machine" "written", .meth "Machine" "run", .meth "Machine" "step", .meth "Machine" "trap", .meth "Machine" "compute", .meth "Machine" "taken", .meth "Machine" "access"] : List He.Fa) ++ ([.meth "Machine" "shift", .meth "Machine" "go", .meth "Machine" "enter", .glo "_law_is_integer", .glo "_law_draws", .glo "_law_decode", .glo "_law_names", .glo "_law_kinds", .glo "_law_signed", .glo "_law_bitwise", .glo "_law_combine", .glo "_law_start", .glo "_law_step", .glo "_law_work", .glo "_law_go", .glo "_law_goal", .glo "_law_run", .glo "_law_lines", .glo "_law_size", .glo "_law_image", .glo "_law_code", .glo "_law_words", .glo "_law_alike", .glo "law", .int "WORDS" 65536, .int "MOST_BYTES" 4096, .int "MOST_TABLE" 16, .int "FRAME_LOW" 64512, .int "MOST_WAITING" 64, .glo "OPERATIONS"] : List He.Fa) ++ ([.glo "NAMES", .free "all", .free "bool", .free "int", .free "isinstance", .free "len", .free "list", .free "max", .free "min", .free "range", .free "reversed", .free "sorted", .free "tuple", .glo "Image", .cls "Image", .mkr "Image", .glo "Machine", .cls "Machine", .mkr "Machine", .noat "Image" "_data", .noat "Image" "entry", .noat "Machine" "_image", .noat "Machine" "_registers", .noat "Machine" "_memory", .noat "Machine" "_inputs", .noat "Machine" "_taken", .noat "Machine" "_outputs", .noat "Machine" "_waiting", .noat "Machine" "_status", .noat "Machine" "address"] : List He.Fa) ++ ([.noat "Machine" "sp", .noat "Machine" "steps"] : List He.Fa)
def looseE : List Str := (["_wall", "UnweaveError", "InvalidImage", "WORDS", "OPERATIONS", "signed", "bitwise", "shifted", "combine", "MOST_BYTES", "MOST_TABLE", "NAMES", "Image", "word_of", "pair_of", "table_in", "paired_in", "single_in", "plain_in", "decode", "found_at", "instruction_at", "next_address", "FRAME_LOW", "MOST_WAITING", "Machine", "_law_is_integer", "_law_draws", "_law_decode", "_law_names"] : List Str) ++ (["_law_kinds", "_law_signed", "_law_bitwise", "_law_combine", "_law_start", "_law_step", "_law_work", "_law_go", "_law_goal", "_law_run", "_law_lines", "_law_size", "_law_image", "_law_code", "_law_words", "_law_alike"] : List Str)
def tfE : List He.Defn := [("Image", some "__init__")]
def exE (K : PySem.W.Frag) : Bool := He.tupB K "OPERATIONS" (tab_OPERATIONS.map He.Dv.str) && He.tupB K "NAMES" (tab_NAMES.map He.Dv.str)
abbrev rowE : PySem.W.OpenRow := PySem.W.OpenLaw.row PySem.Challenge.rw_unweave_k05_whole_runs_of_the_machine
abbrev hookE : PySem.W.Hook := He.hookX 5 faE fnE [] tfE exE
def obE (s : PySem.W.SharedT) : He.AlX := He.obsX 5 faE fnE [] tfE exE (HandSHeadRun.getT s)
theorem obE_eq (s : PySem.W.SharedT) : obE s = hookE.obs s.abs := He.obsX_eq (HandSHeadRun.getT_eq s)

section
variable {K : PySem.W.Frag} {mg : Str → Option Value}
theorem fun_of {x q : Str} {st : Stmt} {f : Addr} {fd : FuncData} (h : FunD K x q (defArgs st) (defBody st) (defScope st) [] [] f fd) : Fun K x q st f fd := by
  obtain ⟨oc, od, dV, kV, doc, pm, an, cdv, ct, osl, e, lk, cd, hd, _⟩ := h.ex
  have hn : dV = .none := by
    rcases hd with ⟨h1, h2⟩ | ⟨h1, _⟩
    · first | exact h1 | exact h2
    · exact absurd rfl h1
  subst hn
  exact ⟨⟨oc, od, kV, doc, pm, an, cdv, ct, osl, e, lk, cd⟩, h.kp⟩
theorem defG_of {x : Str} {st : Stmt} (h : ∃ fd, FunD K x x (defArgs st) (defBody st) (defScope st) [] [] (He.fAd K (x, none)) fd) (g : mg x = some (.ref (He.ga K x))) : DefG K mg x st := let ⟨fd, F⟩ := h; ⟨_, fd, g, fun_of F⟩
theorem defM_of {C m q : Str} {st : Stmt} (h : ∃ fd, FunD K m q (defArgs st) (defBody st) (defScope st) [] [] (He.fAd K (C, some m)) fd) (g : Meth K (He.ga K C) m (He.ma K (He.ga K C) m)) : DefM K (He.ga K C) m q st := let ⟨fd, F⟩ := h; ⟨_, fd, g, fun_of F⟩
theorem tab_of {x : Str} {l : List Str} (h : He.tupB K x (l.map He.Dv.str) = true) (H : Hp) : SqT K H (He.ga K x) (l.map V.str) := by
  have q := He.tupB_ok h H
  rw [List.map_map] at q
  exact q
theorem txt_of {K : PySem.W.Frag} {h : Heap} {mg : Str → Option Value} (X : K.In h) (G : h.Ns mainGlobals mg) (c : He.SaysD faE fnE K) (e : exE K = true) : Txt K mg (He.ga K "Image") (He.ga K "Machine") := by
  obtain ⟨ex0, ex1⟩ := He.ba e
  exact {
    d_signed := defG_of (c.def_ 0 rfl) (He.glo_ok X G (c.fact 0 (f := .glo "signed") rfl))
    d_bitwise := defG_of (c.def_ 1 rfl) (He.glo_ok X G (c.fact 1 (f := .glo "bitwise") rfl))
    d_shifted := defG_of (c.def_ 2 rfl) (He.glo_ok X G (c.fact 2 (f := .glo "shifted") rfl))
    d_combine := defG_of (c.def_ 3 rfl) (He.glo_ok X G (c.fact 3 (f := .glo "combine") rfl))
    d_I_init__ := defM_of (c.def_ 4 rfl) (He.meth_ok (c.fact 4 (f := .meth "Image" "__init__") rfl))
    d_I_part := defM_of (c.def_ 5 rfl) (He.meth_ok (c.fact 5 (f := .meth "Image" "part") rfl))
    d_word_of := defG_of (c.def_ 6 rfl) (He.glo_ok X G (c.fact 6 (f := .glo "word_of") rfl))
    d_pair_of := defG_of (c.def_ 7 rfl) (He.glo_ok X G (c.fact 7 (f := .glo "pair_of") rfl))
    d_table_in := defG_of (c.def_ 8 rfl) (He.glo_ok X G (c.fact 8 (f := .glo "table_in") rfl))
    d_paired_in := defG_of (c.def_ 9 rfl) (He.glo_ok X G (c.fact 9 (f := .glo "paired_in") rfl))
    d_single_in := defG_of (c.def_ 10 rfl) (He.glo_ok X G (c.fact 10 (f := .glo "single_in") rfl))
    d_plain_in := defG_of (c.def_ 11 rfl) (He.glo_ok X G (c.fact 11 (f := .glo "plain_in") rfl))
    d_decode := defG_of (c.def_ 12 rfl) (He.glo_ok X G (c.fact 12 (f := .glo "decode") rfl))
    d_found_at := defG_of (c.def_ 13 rfl) (He.glo_ok X G (c.fact 13 (f := .glo "found_at") rfl))
    d_instruction_at := defG_of (c.def_ 14 rfl) (He.glo_ok X G (c.fact 14 (f := .glo "instruction_at") rfl))
    d_next_address := defG_of (c.def_ 15 rfl) (He.glo_ok X G (c.fact 15 (f := .glo "next_address") rfl))
    d_M_init__ := defM_of (c.def_ 16 rfl) (He.meth_ok (c.fact 16 (f := .meth "Machine" "__init__") rfl))
    d_M_status := defM_of (c.def_ 17 rfl) (He.meth_ok (c.fact 17 (f := .meth "Machine" "status") rfl))
    d_M_registers := defM_of (c.def_ 18 rfl) (He.meth_ok (c.fact 18 (f := .meth "Machine" "registers") rfl))
    d_M_waiting := defM_of (c.def_ 19 rfl) (He.meth_ok (c.fact 19 (f := .meth "Machine" "waiting") rfl))
    d_M_outputs := defM_of (c.def_ 20 rfl) (He.meth_ok (c.fact 20 (f := .meth "Machine" "outputs") rfl))
    d_M_inputs_left := defM_of (c.def_ 21 rfl) (He.meth_ok (c.fact 21 (f := .meth "Machine" "inputs_left") rfl))
    d_M_read := defM_of (c.def_ 22 rfl) (He.meth_ok (c.fact 22 (f := .meth "Machine" "read") rfl))
    d_M_written := defM_of (c.def_ 23 rfl) (He.meth_ok (c.fact 23 (f := .meth "Machine" "written") rfl))
    d_M_run := defM_of (c.def_ 24 rfl) (He.meth_ok (c.fact 24 (f := .meth "Machine" "run") rfl))
    d_M_step := defM_of (c.def_ 25 rfl) (He.meth_ok (c.fact 25 (f := .meth "Machine" "step") rfl))
    d_M_trap := defM_of (c.def_ 26 rfl) (He.meth_ok (c.fact 26 (f := .meth "Machine" "trap") rfl))
    d_M_compute := defM_of (c.def_ 27 rfl) (He.meth_ok (c.fact 27 (f := .meth "Machine" "compute") rfl))
    d_M_taken := defM_of (c.def_ 28 rfl) (He.meth_ok (c.fact 28 (f := .meth "Machine" "taken") rfl))
    d_M_access := defM_of (c.def_ 29 rfl) (He.meth_ok (c.fact 29 (f := .meth "Machine" "access") rfl))
    d_M_shift := defM_of (c.def_ 30 rfl) (He.meth_ok (c.fact 30 (f := .meth "Machine" "shift") rfl))
    d_M_go := defM_of (c.def_ 31 rfl) (He.meth_ok (c.fact 31 (f := .meth "Machine" "go") rfl))
    d_M_enter := defM_of (c.def_ 32 rfl) (He.meth_ok (c.fact 32 (f := .meth "Machine" "enter") rfl))
    d_law_is_integer := defG_of (c.def_ 33 rfl) (He.glo_ok X G (c.fact 33 (f := .glo "_law_is_integer") rfl))
    d_law_draws := defG_of (c.def_ 34 rfl) (He.glo_ok X G (c.fact 34 (f := .glo "_law_draws") rfl))
    d_law_decode := defG_of (c.def_ 35 rfl) (He.glo_ok X G (c.fact 35 (f := .glo "_law_decode") rfl))
    d_law_names := defG_of (c.def_ 36 rfl) (He.glo_ok X G (c.fact 36 (f := .glo "_law_names") rfl))
    d_law_kinds := defG_of (c.def_ 37 rfl) (He.glo_ok X G (c.fact 37 (f := .glo "_law_kinds") rfl))
    d_law_signed := defG_of (c.def_ 38 rfl) (He.glo_ok X G (c.fact 38 (f := .glo "_law_signed") rfl))
    d_law_bitwise := defG_of (c.def_ 39 rfl) (He.glo_ok X G (c.fact 39 (f := .glo "_law_bitwise") rfl))
    d_law_combine := defG_of (c.def_ 40 rfl) (He.glo_ok X G (c.fact 40 (f := .glo "_law_combine") rfl))
    d_law_start := defG_of (c.def_ 41 rfl) (He.glo_ok X G (c.fact 41 (f := .glo "_law_start") rfl))
    d_law_step := defG_of (c.def_ 42 rfl) (He.glo_ok X G (c.fact 42 (f := .glo "_law_step") rfl))
    d_law_work := defG_of (c.def_ 43 rfl) (He.glo_ok X G (c.fact 43 (f := .glo "_law_work") rfl))
    d_law_go := defG_of (c.def_ 44 rfl) (He.glo_ok X G (c.fact 44 (f := .glo "_law_go") rfl))
    d_law_goal := defG_of (c.def_ 45 rfl) (He.glo_ok X G (c.fact 45 (f := .glo "_law_goal") rfl))
    d_law_run := defG_of (c.def_ 46 rfl) (He.glo_ok X G (c.fact 46 (f := .glo "_law_run") rfl))
    d_law_lines := defG_of (c.def_ 47 rfl) (He.glo_ok X G (c.fact 47 (f := .glo "_law_lines") rfl))
    d_law_size := defG_of (c.def_ 48 rfl) (He.glo_ok X G (c.fact 48 (f := .glo "_law_size") rfl))
    d_law_image := defG_of (c.def_ 49 rfl) (He.glo_ok X G (c.fact 49 (f := .glo "_law_image") rfl))
    d_law_code := defG_of (c.def_ 50 rfl) (He.glo_ok X G (c.fact 50 (f := .glo "_law_code") rfl))
    d_law_words := defG_of (c.def_ 51 rfl) (He.glo_ok X G (c.fact 51 (f := .glo "_law_words") rfl))
    d_law_alike := defG_of (c.def_ 52 rfl) (He.glo_ok X G (c.fact 52 (f := .glo "_law_alike") rfl))
    d_law := defG_of (c.def_ 53 rfl) (He.glo_ok X G (c.fact 53 (f := .glo "law") rfl))
    g_WORDS := He.int_ok X G (c.fact 54 (f := .int "WORDS" 65536) rfl)
    g_MOST_BYTES := He.int_ok X G (c.fact 55 (f := .int "MOST_BYTES" 4096) rfl)
    g_MOST_TABLE := He.int_ok X G (c.fact 56 (f := .int "MOST_TABLE" 16) rfl)
    g_FRAME_LOW := He.int_ok X G (c.fact 57 (f := .int "FRAME_LOW" 64512) rfl)
    g_MOST_WAITING := He.int_ok X G (c.fact 58 (f := .int "MOST_WAITING" 64) rfl)
    g_OPERATIONS := ⟨_, He.glo_ok X G (c.fact 59 (f := .glo "OPERATIONS") rfl), fun H => tab_of ex0 H⟩
    g_NAMES := ⟨_, He.glo_ok X G (c.fact 60 (f := .glo "NAMES") rfl), fun H => tab_of ex1 H⟩
    n_all := He.free_ok X G (c.fact 61 (f := .free "all") rfl)
    n_bool := He.free_ok X G (c.fact 62 (f := .free "bool") rfl)
    n_int := He.free_ok X G (c.fact 63 (f := .free "int") rfl)
    n_isinstance := He.free_ok X G (c.fact 64 (f := .free "isinstance") rfl)
    n_len := He.free_ok X G (c.fact 65 (f := .free "len") rfl)
    n_list := He.free_ok X G (c.fact 66 (f := .free "list") rfl)
    n_max := He.free_ok X G (c.fact 67 (f := .free "max") rfl)
    n_min := He.free_ok X G (c.fact 68 (f := .free "min") rfl)
    n_range := He.free_ok X G (c.fact 69 (f := .free "range") rfl)
    n_reversed := He.free_ok X G (c.fact 70 (f := .free "reversed") rfl)
    n_sorted := He.free_ok X G (c.fact 71 (f := .free "sorted") rfl)
    n_tuple := He.free_ok X G (c.fact 72 (f := .free "tuple") rfl)
    mgI := He.glo_ok X G (c.fact 73 (f := .glo "Image") rfl)
    clI := He.cls_ok (c.fact 74 (f := .cls "Image") rfl)
    mkI := ⟨_, He.mkr_ok (c.fact 75 (f := .mkr "Image") rfl)⟩
    mgM := He.glo_ok X G (c.fact 76 (f := .glo "Machine") rfl)
    clM := He.cls_ok (c.fact 77 (f := .cls "Machine") rfl)
    mkM := ⟨_, He.mkr_ok (c.fact 78 (f := .mkr "Machine") rfl)⟩
    aI_data := He.noat_ok (c.fact 79 (f := .noat "Image" "_data") rfl)
    aI_entry := He.noat_ok (c.fact 80 (f := .noat "Image" "entry") rfl)
    aM_image := He.noat_ok (c.fact 81 (f := .noat "Machine" "_image") rfl)
    aM_registers := He.noat_ok (c.fact 82 (f := .noat "Machine" "_registers") rfl)
    aM_memory := He.noat_ok (c.fact 83 (f := .noat "Machine" "_memory") rfl)
    aM_inputs := He.noat_ok (c.fact 84 (f := .noat "Machine" "_inputs") rfl)
    aM_taken := He.noat_ok (c.fact 85 (f := .noat "Machine" "_taken") rfl)
    aM_outputs := He.noat_ok (c.fact 86 (f := .noat "Machine" "_outputs") rfl)
    aM_waiting := He.noat_ok (c.fact 87 (f := .noat "Machine" "_waiting") rfl)
    aM_status := He.noat_ok (c.fact 88 (f := .noat "Machine" "_status") rfl)
    aM_address := He.noat_ok (c.fact 89 (f := .noat "Machine" "address") rfl)
    aM_sp := He.noat_ok (c.fact 90 (f := .noat "Machine" "sp") rfl)
    aM_steps := He.noat_ok (c.fact 91 (f := .noat "Machine" "steps") rfl) }

theorem codeI_of (h : ∃ fd, FunD K "__init__" "Image.__init__" (defArgs s_I_init__) (defBody s_I_init__) (defScope s_I_init__) [] [] (He.fAd K ("Image", some "__init__")) fd) : CodeI K (He.ga K "Image") (He.cT K ("Image", some "__init__")).1 := by
  intro f oc od fd osl me lk
  obtain ⟨fd2, F⟩ := h
  obtain ⟨oc2, od2, dV, kV, doc, pm, an, cdv, ct, osl2, e, lk2, cd, _⟩ := F.ex
  have hf : He.fAd K ("Image", some "__init__") = f := by
    show He.ma K (He.ga K "Image") "__init__" = f
    unfold He.ma
    rw [me.at_]
  rw [hf, lk] at lk2
  obtain ⟨c, rfl⟩ := He.codeIn_ref cd
  have hfd : fd = fd2 := by
    have q := Option.some.inj lk2
    injection q with q1 q2 q3 q4
    injection q3
  have hcode : fd.code = .ref c := by rw [hfd, e] <;> rfl
  rw [hcode]
  show Value.ref c = Value.ref (He.codeOf K ("Image", some "__init__"))
  rw [He.codeOf_eq (by rw [hf]; exact lk) hcode]
end
theorem runE (w : World) : HandSHeadRun.RunEq rowE (PySem.W.view rowE.prog [51]) hookE obE 3000 looseE w := by
  intro os
  kernel_rfl
theorem gx_tab {base : Heap} {mg : Str → Option Value} {c P : Addr} (h : LamX.TabB base mg c P) : GxR.TabB base mg c P := ⟨h.code, h.bm, h.gP⟩
theorem factsE {w : World} {mg : Str → Option Value} {fa : Addr} {h : Heap} (Y : hookE.says w h) (G : h.Ns mainGlobals mg) (hfa : mg ("law" : Str) = some (.ref fa)) : ∃ K : PySem.W.Frag, K.In h ∧ LamX.LawAtS PySem.Challenge.rw_unweave_k05_whole_runs_of_the_machine w K CX0 9 63 "_law_script" mg fa h := by
  obtain ⟨K, X, S⟩ := Y
  have c := S.t.d
  have T := txt_of X G c S.more
  obtain ⟨fdI, FI⟩ := c.def_ 4 (d := ⟨("Image", some "__init__"), "__init__", "Image.__init__", defArgs s_I_init__, defBody s_I_init__, defScope s_I_init__, [], []⟩) rfl
  have hcI := codeI_of ⟨fdI, FI⟩
  obtain ⟨fd, F⟩ := c.def_ 53 (d := ⟨("law", none), "law", "law", defArgs s_law, defBody s_law, defScope s_law, [], []⟩) rfl
  replace F : FunD K "law" "law" (defArgs s_law) (defBody s_law) (defScope s_law) [] [] (He.fAd K ("law", none)) fd := F
  have g := T.d_law.ex
  have hp : ((("Image" : Str), some ("__init__" : Str)) : He.Defn) ∈ tfE := List.mem_cons_self
  have hga : He.ga K "law" = fa := by
    obtain ⟨f2, fd2, g2, _⟩ := g
    have e1 := He.glo_ok X G (c.fact 53 (f := .glo "law") rfl)
    rw [hfa] at e1
    cases e1
    rfl
  have F2 := fun_of F
  rw [show He.fAd K ("law", none) = fa from hga] at F2
  refine ⟨K, X, fd, [He.cT K ("Image", some "__init__")], spLaw K (He.cT K ("Image", some "__init__")).2, ?_, ?_, ?_, ?_, ?_, ?_⟩
  · intro p hp2
    rw [List.mem_singleton.mp hp2]
    exact S.empty _ hp
  · intro p hp2
    rw [List.mem_singleton.mp hp2]
    exact S.out _ hp
  · intro p hp2
    rw [List.mem_singleton.mp hp2]
    exact PySem.W.codeHd_of_K X (S.hd _ hp)
  · have b := FunD.bindsA (ps := ["_law_script"]) F fun _ _ _ _ _ _ us hl => match us, hl with | [_], _ => rfl
    exact fun s v => b s [v] rfl
  · intro H a ns hl _ hH hS
    exact ⟨a, ns, rfl, hS, by omega, ⟨#[], hH _ (List.mem_singleton.mpr rfl), by trivial⟩, fun _ => rfl⟩
  · intro base hb hn TB
    exact ok_law T hcI (gx_tab (TB _ (List.mem_singleton.mpr rfl))) F2
end UW
open PySem PySem.W PySem.Calls PyProof.Rows
theorem PySem.Challenge.cw_unweave_k05_whole_runs_of_the_machine_holds : PySem.Challenge.rw_unweave_k05_whole_runs_of_the_machine.Holds := by
  w_on; o_law
  refine HandSHeadRun.head_any (r := OpenLaw.row PySem.Challenge.rw_unweave_k05_whole_runs_of_the_machine) (q := view (OpenLaw.row PySem.Challenge.rw_unweave_k05_whole_runs_of_the_machine).prog [51]) (H := UW.hookE) (ob := UW.obE) (M := 3000) (loose := UW.looseE) (d := HandSHeadRun.topDef (OpenLaw.row PySem.Challenge.rw_unweave_k05_whole_runs_of_the_machine).prog 51) (kwd := []) UW.obE_eq
    (by kernel_rfl) (fun s => by kernel_rfl) UW.runE (by kernel_rfl) (by kernel_rfl) (by kernel_rfl) (by rfl) (by first | assumption | decide +kernel) (by decide +kernel) ⟨rfl, rfl, rfl, rfl, rfl, by decide +kernel⟩ ?hw ?hc
  case hw => w_witness2
  case hc =>
    refine LamX.walk_ofTsE (l := PySem.Challenge.rw_unweave_k05_whole_runs_of_the_machine) (n := 63) (k := 9) (x := "_law_script") (CX := fun _ => L2.CX0) rfl (by decide) (by kernel_rfl) ⟨rfl, by decide, by decide⟩ ?F (fun _ _ _ _ _ z => z)
    intro w mg fa h Y G hmg0
    have hmg : mg ("law" : PySem.Str) = some (.ref fa) := by
      have e : (HandSHeadRun.topDef (OpenLaw.row PySem.Challenge.rw_unweave_k05_whole_runs_of_the_machine).prog 51).name = ("law" : PySem.Str) := by kernel_rfl
      rw [← e]
      exact hmg0
    exact UW.factsE Y G hmg
