import PyProof.Rows.All
import Wide.All
import OpenK.AllK
import Wide.FinOn
import KE.KDictOf
import KE.KDictSum
import PySem.Challenge.RW_pc0351_01
set_option Elab.async false
set_option linter.unusedVariables false
set_option linter.unusedSimpArgs false
set_option genSizeOfSpec false
set_option genInjectivity false
section
open PySem PySem.W PyProof.Rows
namespace Mine
noncomputable abbrev pw : Program := PySem.Challenge.pw_pc0351_01
noncomputable def topStmt (i : Nat) : Stmt := (pw.main.body.drop i).headD (.Pass ⟨0, 0, 0, 0⟩)
noncomputable def mthStmt (i j : Nat) : Stmt := match topStmt i with
  | .ClassDef _ _ _ b _ _ _ _ _ _ _ => (b.drop j).headD (.Pass ⟨0, 0, 0, 0⟩)
  | s => s
noncomputable def fnBody : Stmt → List Stmt
  | .FunctionDef _ _ b _ _ _ _ _ _ _ => b
  | _ => []
structure FI where
  name : Str
  qual : Str
  params : Arguments
  body : List Stmt
  scope : Scope
  pm : Value
  cdv : Value
  f : Addr
noncomputable def pr_BadListing___init__ : Arguments := ⟨[], [⟨"self", none, ⟨4, 17, 4, 21⟩⟩, ⟨"line", none, ⟨4, 23, 4, 27⟩⟩, ⟨"word", none, ⟨4, 29, 4, 33⟩⟩], none, [], [], none, []⟩
noncomputable def b_BadListing___init__ : List Stmt := fnBody (mthStmt 1 0)
noncomputable def sc_BadListing___init__ : Scope := ⟨.function, [("self", .local), ("line", .local), ("word", .local)], false, false, []⟩
noncomputable abbrev fi_BadListing___init__ : FI := ⟨"__init__", "BadListing.__init__", pr_BadListing___init__, b_BadListing___init__, sc_BadListing___init__, .str "scheme.errors" 187, .ref 27, 28⟩
noncomputable def pr_Procedure___init__ : Arguments := ⟨[], [⟨"self", none, ⟨11, 17, 11, 21⟩⟩, ⟨"number", none, ⟨11, 23, 11, 29⟩⟩, ⟨"title", none, ⟨11, 31, 11, 36⟩⟩, ⟨"needed", none, ⟨11, 38, 11, 44⟩⟩, ⟨"has_rest", none, ⟨11, 46, 11, 54⟩⟩, ⟨"is_continuation", none, ⟨11, 56, 11, 71⟩⟩, ⟨"registers", none, ⟨11, 73, 11, 82⟩⟩, ⟨"free", none, ⟨11, 84, 11, 88⟩⟩, ⟨"instructions", none, ⟨11, 90, 11, 102⟩⟩], none, [], [], none, []⟩
noncomputable def b_Procedure___init__ : List Stmt := fnBody (mthStmt 4 0)
noncomputable def sc_Procedure___init__ : Scope := ⟨.function, [("self", .local), ("number", .local), ("title", .local), ("needed", .local), ("has_rest", .local), ("is_continuation", .local), ("registers", .local), ("free", .local), ("instructions", .local)], false, false, []⟩
noncomputable abbrev fi_Procedure___init__ : FI := ⟨"__init__", "Procedure.__init__", pr_Procedure___init__, b_Procedure___init__, sc_Procedure___init__, .str "scheme.instructions" 220, .ref 61, 62⟩
noncomputable def pr_operand_pairs : Arguments := ⟨[], [⟨"instruction", none, ⟨20, 18, 20, 29⟩⟩], none, [], [], none, []⟩
noncomputable def b_operand_pairs : List Stmt := fnBody (topStmt 5)
noncomputable def sc_operand_pairs : Scope := ⟨.function, [("instruction", .local), ("list", .globalImplicit), ("zip", .globalImplicit), ("OPERANDS", .globalImplicit)], false, false, []⟩
noncomputable abbrev fi_operand_pairs : FI := ⟨"operand_pairs", "operand_pairs", pr_operand_pairs, b_operand_pairs, sc_operand_pairs, .str "scheme.instructions" 220, .ref 75, 76⟩
noncomputable def pr_label_of : Arguments := ⟨[], [⟨"instruction", none, ⟨22, 13, 22, 24⟩⟩], none, [], [], none, []⟩
noncomputable def b_label_of : List Stmt := fnBody (topStmt 6)
noncomputable def sc_label_of : Scope := ⟨.function, [("instruction", .local), ("sort", .local), ("operand", .local), ("operand_pairs", .globalImplicit)], false, false, []⟩
noncomputable abbrev fi_label_of : FI := ⟨"label_of", "label_of", pr_label_of, b_label_of, sc_label_of, .str "scheme.instructions" 220, .ref 82, 83⟩
noncomputable def pr_labels_met : Arguments := ⟨[], [⟨"instructions", none, ⟨27, 15, 27, 27⟩⟩], none, [], [], none, []⟩
noncomputable def b_labels_met : List Stmt := fnBody (topStmt 7)
noncomputable def sc_labels_met : Scope := ⟨.function, [("instructions", .local), ("found", .local), ("instruction", .local), ("label", .local), ("label_of", .globalImplicit), ("sorted", .globalImplicit)], false, false, []⟩
noncomputable abbrev fi_labels_met : FI := ⟨"labels_met", "labels_met", pr_labels_met, b_labels_met, sc_labels_met, .str "scheme.instructions" 220, .ref 89, 90⟩
noncomputable def pr_registers_text : Arguments := ⟨[], [⟨"registers", none, ⟨36, 19, 36, 28⟩⟩], none, [], [], none, []⟩
noncomputable def b_registers_text : List Stmt := fnBody (topStmt 10)
noncomputable def sc_registers_text : Scope := ⟨.function, [("registers", .local)], false, false, [("fast", .str "registers"), ("fast", .str "register")]⟩
noncomputable abbrev fi_registers_text : FI := ⟨"registers_text", "registers_text", pr_registers_text, b_registers_text, sc_registers_text, .str "scheme.codetext" 345, .ref 95, 96⟩
noncomputable def pr_operand_text : Arguments := ⟨[], [⟨"sort", none, ⟨38, 17, 38, 21⟩⟩, ⟨"operand", none, ⟨38, 23, 38, 30⟩⟩, ⟨"names", none, ⟨38, 32, 38, 37⟩⟩], none, [], [], none, []⟩
noncomputable def b_operand_text : List Stmt := fnBody (topStmt 11)
noncomputable def sc_operand_text : Scope := ⟨.function, [("sort", .local), ("operand", .local), ("names", .local), ("registers_text", .globalImplicit), ("LETTERS", .globalImplicit), ("str", .globalImplicit)], false, false, [("fast", .str "sort"), ("fast", .str "operand"), ("fast", .str "names"), ("fast", .str "register"), ("fast", .str "number"), ("fast", .str "own")]⟩
noncomputable abbrev fi_operand_text : FI := ⟨"operand_text", "operand_text", pr_operand_text, b_operand_text, sc_operand_text, .str "scheme.codetext" 345, .ref 100, 101⟩
noncomputable def pr_instruction_text : Arguments := ⟨[], [⟨"instruction", none, ⟨46, 21, 46, 32⟩⟩, ⟨"names", none, ⟨46, 34, 46, 39⟩⟩], none, [], [], none, []⟩
noncomputable def b_instruction_text : List Stmt := fnBody (topStmt 12)
noncomputable def sc_instruction_text : Scope := ⟨.function, [("instruction", .local), ("names", .cell), ("parts", .local), ("operand_pairs", .globalImplicit)], false, false, [("fast", .str "instruction"), ("fast", .str "names"), ("fast", .str "sort"), ("fast", .str "operand"), ("fast", .str "parts")]⟩
noncomputable abbrev fi_instruction_text : FI := ⟨"instruction_text", "instruction_text", pr_instruction_text, b_instruction_text, sc_instruction_text, .str "scheme.codetext" 345, .ref 105, 106⟩
noncomputable def pr_procedure_lines : Arguments := ⟨[], [⟨"procedure", none, ⟨49, 20, 49, 29⟩⟩, ⟨"names", none, ⟨49, 31, 49, 36⟩⟩], none, [], [], none, []⟩
noncomputable def b_procedure_lines : List Stmt := fnBody (topStmt 13)
noncomputable def sc_procedure_lines : Scope := ⟨.function, [("procedure", .local), ("names", .local), ("words", .local), ("found", .local), ("labels", .local), ("place", .local), ("instruction", .local), ("ahead", .local), ("str", .globalImplicit), ("len", .globalImplicit), ("labels_met", .globalImplicit), ("enumerate", .globalImplicit), ("instruction_text", .globalImplicit)], false, false, []⟩
noncomputable abbrev fi_procedure_lines : FI := ⟨"procedure_lines", "procedure_lines", pr_procedure_lines, b_procedure_lines, sc_procedure_lines, .str "scheme.codetext" 345, .ref 112, 113⟩
noncomputable def pr_code_text : Arguments := ⟨[], [⟨"procedures", none, ⟨59, 14, 59, 24⟩⟩, ⟨"names", none, ⟨59, 26, 59, 31⟩⟩], none, [], [], none, []⟩
noncomputable def b_code_text : List Stmt := fnBody (topStmt 14)
noncomputable def sc_code_text : Scope := ⟨.function, [("procedures", .local), ("names", .local), ("lines", .local), ("procedure", .local), ("procedure_lines", .globalImplicit)], false, false, [("fast", .str "procedures"), ("fast", .str "names"), ("fast", .str "lines"), ("fast", .str "procedure"), ("fast", .str "line")]⟩
noncomputable abbrev fi_code_text : FI := ⟨"code_text", "code_text", pr_code_text, b_code_text, sc_code_text, .str "scheme.codetext" 345, .ref 117, 118⟩
noncomputable def pr_Listing___init__ : Arguments := ⟨[], [⟨"self", none, ⟨66, 17, 66, 21⟩⟩, ⟨"text", none, ⟨66, 23, 66, 27⟩⟩], none, [], [], none, []⟩
noncomputable def b_Listing___init__ : List Stmt := fnBody (mthStmt 15 0)
noncomputable def sc_Listing___init__ : Scope := ⟨.function, [("self", .local), ("text", .local)], false, false, []⟩
noncomputable abbrev fi_Listing___init__ : FI := ⟨"__init__", "Listing.__init__", pr_Listing___init__, b_Listing___init__, sc_Listing___init__, .str "scheme.codetext" 345, .ref 131, 132⟩
noncomputable def pr_Listing_refuse : Arguments := ⟨[], [⟨"self", none, ⟨71, 15, 71, 19⟩⟩, ⟨"word", none, ⟨71, 21, 71, 25⟩⟩], none, [], [], none, []⟩
noncomputable def b_Listing_refuse : List Stmt := fnBody (mthStmt 15 1)
noncomputable def sc_Listing_refuse : Scope := ⟨.function, [("self", .local), ("word", .local), ("BadListing", .globalImplicit)], false, false, []⟩
noncomputable abbrev fi_Listing_refuse : FI := ⟨"refuse", "Listing.refuse", pr_Listing_refuse, b_Listing_refuse, sc_Listing_refuse, .str "scheme.codetext" 345, .ref 138, 139⟩
noncomputable def pr_Listing_is_at_end : Arguments := ⟨[], [⟨"self", none, ⟨74, 18, 74, 22⟩⟩], none, [], [], none, []⟩
noncomputable def b_Listing_is_at_end : List Stmt := fnBody (mthStmt 15 2)
noncomputable def sc_Listing_is_at_end : Scope := ⟨.function, [("self", .local), ("len", .globalImplicit)], false, false, []⟩
noncomputable abbrev fi_Listing_is_at_end : FI := ⟨"is_at_end", "Listing.is_at_end", pr_Listing_is_at_end, b_Listing_is_at_end, sc_Listing_is_at_end, .str "scheme.codetext" 345, .ref 145, 146⟩
noncomputable def pr_Listing_skip_blanks : Arguments := ⟨[], [⟨"self", none, ⟨77, 20, 77, 24⟩⟩], none, [], [], none, []⟩
noncomputable def b_Listing_skip_blanks : List Stmt := fnBody (mthStmt 15 3)
noncomputable def sc_Listing_skip_blanks : Scope := ⟨.function, [("self", .local), ("len", .globalImplicit)], false, false, []⟩
noncomputable abbrev fi_Listing_skip_blanks : FI := ⟨"skip_blanks", "Listing.skip_blanks", pr_Listing_skip_blanks, b_Listing_skip_blanks, sc_Listing_skip_blanks, .str "scheme.codetext" 345, .ref 152, 153⟩
noncomputable def pr_Listing_peek : Arguments := ⟨[], [⟨"self", none, ⟨81, 13, 81, 17⟩⟩], none, [], [], none, []⟩
noncomputable def b_Listing_peek : List Stmt := fnBody (mthStmt 15 4)
noncomputable def sc_Listing_peek : Scope := ⟨.function, [("self", .local), ("end", .local), ("len", .globalImplicit)], false, false, []⟩
noncomputable abbrev fi_Listing_peek : FI := ⟨"peek", "Listing.peek", pr_Listing_peek, b_Listing_peek, sc_Listing_peek, .str "scheme.codetext" 345, .ref 159, 160⟩
noncomputable def pr_Listing_word : Arguments := ⟨[], [⟨"self", none, ⟨90, 13, 90, 17⟩⟩], none, [], [], none, []⟩
noncomputable def b_Listing_word : List Stmt := fnBody (mthStmt 15 5)
noncomputable def sc_Listing_word : Scope := ⟨.function, [("self", .local), ("found", .local), ("len", .globalImplicit)], false, false, []⟩
noncomputable abbrev fi_Listing_word : FI := ⟨"word", "Listing.word", pr_Listing_word, b_Listing_word, sc_Listing_word, .str "scheme.codetext" 345, .ref 166, 167⟩
noncomputable def pr_Listing_need : Arguments := ⟨[], [⟨"self", none, ⟨97, 13, 97, 17⟩⟩, ⟨"wanted", none, ⟨97, 19, 97, 25⟩⟩], none, [], [], none, []⟩
noncomputable def b_Listing_need : List Stmt := fnBody (mthStmt 15 6)
noncomputable def sc_Listing_need : Scope := ⟨.function, [("self", .local), ("wanted", .local)], false, false, []⟩
noncomputable abbrev fi_Listing_need : FI := ⟨"need", "Listing.need", pr_Listing_need, b_Listing_need, sc_Listing_need, .str "scheme.codetext" 345, .ref 173, 174⟩
noncomputable def pr_Listing_takes : Arguments := ⟨[], [⟨"self", none, ⟨101, 14, 101, 18⟩⟩, ⟨"wanted", none, ⟨101, 20, 101, 26⟩⟩], none, [], [], none, []⟩
noncomputable def b_Listing_takes : List Stmt := fnBody (mthStmt 15 7)
noncomputable def sc_Listing_takes : Scope := ⟨.function, [("self", .local), ("wanted", .local)], false, false, []⟩
noncomputable abbrev fi_Listing_takes : FI := ⟨"takes", "Listing.takes", pr_Listing_takes, b_Listing_takes, sc_Listing_takes, .str "scheme.codetext" 345, .ref 180, 181⟩
noncomputable def pr_Listing_count : Arguments := ⟨[], [⟨"self", none, ⟨107, 14, 107, 18⟩⟩], none, [], [], none, []⟩
noncomputable def b_Listing_count : List Stmt := fnBody (mthStmt 15 8)
noncomputable def sc_Listing_count : Scope := ⟨.function, [("self", .local), ("found", .local), ("is_figures", .globalImplicit), ("int", .globalImplicit)], false, false, []⟩
noncomputable abbrev fi_Listing_count : FI := ⟨"count", "Listing.count", pr_Listing_count, b_Listing_count, sc_Listing_count, .str "scheme.codetext" 345, .ref 187, 188⟩
noncomputable def pr_Listing_lettered : Arguments := ⟨[], [⟨"self", none, ⟨113, 17, 113, 21⟩⟩, ⟨"letter", none, ⟨113, 23, 113, 29⟩⟩], none, [], [], none, []⟩
noncomputable def b_Listing_lettered : List Stmt := fnBody (mthStmt 15 9)
noncomputable def sc_Listing_lettered : Scope := ⟨.function, [("self", .local), ("letter", .local), ("found", .local), ("is_figures", .globalImplicit), ("int", .globalImplicit)], false, false, []⟩
noncomputable abbrev fi_Listing_lettered : FI := ⟨"lettered", "Listing.lettered", pr_Listing_lettered, b_Listing_lettered, sc_Listing_lettered, .str "scheme.codetext" 345, .ref 194, 195⟩
noncomputable def pr_Listing_told_text : Arguments := ⟨[], [⟨"self", none, ⟨119, 18, 119, 22⟩⟩], none, [], [], none, []⟩
noncomputable def b_Listing_told_text : List Stmt := fnBody (mthStmt 15 10)
noncomputable def sc_Listing_told_text : Scope := ⟨.function, [("self", .local), ("length", .local), ("first", .local), ("len", .globalImplicit)], false, false, []⟩
noncomputable abbrev fi_Listing_told_text : FI := ⟨"told_text", "Listing.told_text", pr_Listing_told_text, b_Listing_told_text, sc_Listing_told_text, .str "scheme.codetext" 345, .ref 201, 202⟩
noncomputable def pr_Listing_end_line : Arguments := ⟨[], [⟨"self", none, ⟨127, 17, 127, 21⟩⟩], none, [], [], none, []⟩
noncomputable def b_Listing_end_line : List Stmt := fnBody (mthStmt 15 11)
noncomputable def sc_Listing_end_line : Scope := ⟨.function, [("self", .local)], false, false, []⟩
noncomputable abbrev fi_Listing_end_line : FI := ⟨"end_line", "Listing.end_line", pr_Listing_end_line, b_Listing_end_line, sc_Listing_end_line, .str "scheme.codetext" 345, .ref 208, 209⟩
noncomputable def pr_is_figures : Arguments := ⟨[], [⟨"text", none, ⟨133, 15, 133, 19⟩⟩], none, [], [], none, []⟩
noncomputable def b_is_figures : List Stmt := fnBody (topStmt 16)
noncomputable def sc_is_figures : Scope := ⟨.function, [("text", .local), ("sign", .local), ("len", .globalImplicit)], false, false, []⟩
noncomputable abbrev fi_is_figures : FI := ⟨"is_figures", "is_figures", pr_is_figures, b_is_figures, sc_is_figures, .str "scheme.codetext" 345, .ref 222, 223⟩
noncomputable def pr_read_registers : Arguments := ⟨[], [⟨"listing", none, ⟨140, 19, 140, 26⟩⟩], none, [], [], none, []⟩
noncomputable def b_read_registers : List Stmt := fnBody (topStmt 17)
noncomputable def sc_read_registers : Scope := ⟨.function, [("listing", .local), ("found", .local), ("tuple", .globalImplicit)], false, false, []⟩
noncomputable abbrev fi_read_registers : FI := ⟨"read_registers", "read_registers", pr_read_registers, b_read_registers, sc_read_registers, .str "scheme.codetext" 345, .ref 229, 230⟩
noncomputable def pr_read_rows : Arguments := ⟨[], [⟨"listing", none, ⟨146, 14, 146, 21⟩⟩], none, [], [], none, []⟩
noncomputable def b_read_rows : List Stmt := fnBody (topStmt 18)
noncomputable def sc_read_rows : Scope := ⟨.function, [("listing", .local), ("found", .local), ("register", .local), ("number", .local), ("read_registers", .globalImplicit), ("tuple", .globalImplicit)], false, false, []⟩
noncomputable abbrev fi_read_rows : FI := ⟨"read_rows", "read_rows", pr_read_rows, b_read_rows, sc_read_rows, .str "scheme.codetext" 345, .ref 236, 237⟩
noncomputable def pr_read_operand : Arguments := ⟨[], [⟨"listing", none, ⟨153, 17, 153, 24⟩⟩, ⟨"sort", none, ⟨153, 26, 153, 30⟩⟩, ⟨"ops", none, ⟨153, 32, 153, 35⟩⟩], none, [], [], none, []⟩
noncomputable def b_read_operand : List Stmt := fnBody (topStmt 19)
noncomputable def sc_read_operand : Scope := ⟨.function, [("listing", .local), ("sort", .local), ("ops", .local), ("name", .local), ("read_registers", .globalImplicit), ("read_rows", .globalImplicit), ("LETTERS", .globalImplicit)], false, false, []⟩
noncomputable abbrev fi_read_operand : FI := ⟨"read_operand", "read_operand", pr_read_operand, b_read_operand, sc_read_operand, .str "scheme.codetext" 345, .ref 243, 244⟩
noncomputable def pr_read_instruction : Arguments := ⟨[], [⟨"listing", none, ⟨164, 21, 164, 28⟩⟩, ⟨"ops", none, ⟨164, 30, 164, 33⟩⟩], none, [], [], none, []⟩
noncomputable def b_read_instruction : List Stmt := fnBody (topStmt 20)
noncomputable def sc_read_instruction : Scope := ⟨.function, [("listing", .local), ("ops", .local), ("word", .local), ("found", .local), ("sort", .local), ("OPERANDS", .globalImplicit), ("read_operand", .globalImplicit), ("tuple", .globalImplicit)], false, false, []⟩
noncomputable abbrev fi_read_instruction : FI := ⟨"read_instruction", "read_instruction", pr_read_instruction, b_read_instruction, sc_read_instruction, .str "scheme.codetext" 345, .ref 250, 251⟩
noncomputable def pr_read_label : Arguments := ⟨[], [⟨"listing", none, ⟨173, 15, 173, 22⟩⟩, ⟨"place", none, ⟨173, 24, 173, 29⟩⟩], none, [], [], none, []⟩
noncomputable def b_read_label : List Stmt := fnBody (topStmt 21)
noncomputable def sc_read_label : Scope := ⟨.function, [("listing", .local), ("place", .local)], false, false, []⟩
noncomputable abbrev fi_read_label : FI := ⟨"read_label", "read_label", pr_read_label, b_read_label, sc_read_label, .str "scheme.codetext" 345, .ref 257, 258⟩
noncomputable def pr_read_instructions : Arguments := ⟨[], [⟨"listing", none, ⟨179, 22, 179, 29⟩⟩, ⟨"ops", none, ⟨179, 31, 179, 34⟩⟩], none, [], [], none, []⟩
noncomputable def b_read_instructions : List Stmt := fnBody (topStmt 22)
noncomputable def sc_read_instructions : Scope := ⟨.function, [("listing", .local), ("ops", .local), ("found", .cell), ("told", .local), ("read_label", .globalImplicit), ("len", .globalImplicit), ("read_instruction", .globalImplicit), ("labels_met", .globalImplicit)], false, false, [("fast", .str "listing"), ("fast", .str "ops"), ("fast", .str "found"), ("fast", .str "told"), ("fast", .str "label")]⟩
noncomputable abbrev fi_read_instructions : FI := ⟨"read_instructions", "read_instructions", pr_read_instructions, b_read_instructions, sc_read_instructions, .str "scheme.codetext" 345, .ref 262, 263⟩
noncomputable def pr_read_procedure : Arguments := ⟨[], [⟨"listing", none, ⟨191, 19, 191, 26⟩⟩, ⟨"number", none, ⟨191, 28, 191, 34⟩⟩, ⟨"ops", none, ⟨191, 36, 191, 39⟩⟩], none, [], [], none, []⟩
noncomputable def b_read_procedure : List Stmt := fnBody (topStmt 23)
noncomputable def sc_read_procedure : Scope := ⟨.function, [("listing", .local), ("number", .local), ("ops", .local), ("needed", .local), ("has_rest", .local), ("is_continuation", .local), ("registers", .local), ("free", .local), ("title", .local), ("instructions", .local), ("read_instructions", .globalImplicit), ("Procedure", .globalImplicit)], false, false, []⟩
noncomputable abbrev fi_read_procedure : FI := ⟨"read_procedure", "read_procedure", pr_read_procedure, b_read_procedure, sc_read_procedure, .str "scheme.codetext" 345, .ref 269, 270⟩
noncomputable def pr_read_procedures : Arguments := ⟨[], [⟨"listing", none, ⟨207, 20, 207, 27⟩⟩, ⟨"names", none, ⟨207, 29, 207, 34⟩⟩], none, [], [], none, []⟩
noncomputable def b_read_procedures : List Stmt := fnBody (topStmt 24)
noncomputable def sc_read_procedures : Scope := ⟨.function, [("listing", .local), ("names", .local), ("ops", .local), ("found", .local), ("dict", .globalImplicit), ("enumerate", .globalImplicit), ("read_procedure", .globalImplicit), ("len", .globalImplicit)], false, false, [("fast", .str "listing"), ("fast", .str "names"), ("fast", .str "op"), ("fast", .str "name"), ("fast", .str "ops"), ("fast", .str "found")]⟩
noncomputable abbrev fi_read_procedures : FI := ⟨"read_procedures", "read_procedures", pr_read_procedures, b_read_procedures, sc_read_procedures, .str "scheme.codetext" 345, .ref 274, 275⟩
noncomputable def pr_read_code : Arguments := ⟨[], [⟨"text", none, ⟨213, 14, 213, 18⟩⟩, ⟨"names", none, ⟨213, 20, 213, 25⟩⟩], none, [], [], none, []⟩
noncomputable def b_read_code : List Stmt := fnBody (topStmt 25)
noncomputable def sc_read_code : Scope := ⟨.function, [("text", .local), ("names", .local), ("listing", .local), ("found", .local), ("Listing", .globalImplicit), ("read_procedures", .globalImplicit)], false, false, []⟩
noncomputable abbrev fi_read_code : FI := ⟨"read_code", "read_code", pr_read_code, b_read_code, sc_read_code, .str "scheme.codetext" 345, .ref 281, 282⟩
noncomputable def pr_law_pot : Arguments := ⟨[], [⟨"script", none, ⟨220, 13, 220, 19⟩⟩], none, [], [], none, []⟩
noncomputable def b_law_pot : List Stmt := fnBody (topStmt 27)
noncomputable def sc_law_pot : Scope := ⟨.function, [("script", .local), ("list", .globalImplicit), ("sum", .globalImplicit)], false, false, [("fast", .str "script"), ("fast", .str "one")]⟩
noncomputable abbrev fi_law_pot : FI := ⟨"_law_pot", "_law_pot", pr_law_pot, b_law_pot, sc_law_pot, .str "law_pc0351_01" 618, .ref 286, 287⟩
noncomputable def pr_law_dip : Arguments := ⟨[], [⟨"pot", none, ⟨222, 13, 222, 16⟩⟩, ⟨"many", none, ⟨222, 18, 222, 22⟩⟩], none, [], [], none, []⟩
noncomputable def b_law_dip : List Stmt := fnBody (topStmt 28)
noncomputable def sc_law_dip : Scope := ⟨.function, [("pot", .local), ("many", .local), ("at", .local), ("len", .globalImplicit)], false, false, []⟩
noncomputable abbrev fi_law_dip : FI := ⟨"_law_dip", "_law_dip", pr_law_dip, b_law_dip, sc_law_dip, .str "law_pc0351_01" 618, .ref 293, 294⟩
noncomputable def pr_law_names : Arguments := ⟨[], [], none, [], [], none, []⟩
noncomputable def b_law_names : List Stmt := fnBody (topStmt 29)
noncomputable def sc_law_names : Scope := ⟨.function, [], false, false, []⟩
noncomputable abbrev fi_law_names : FI := ⟨"_law_names", "_law_names", pr_law_names, b_law_names, sc_law_names, .str "law_pc0351_01" 618, .ref 300, 301⟩
noncomputable def pr_law_text : Arguments := ⟨[], [⟨"pot", none, ⟨231, 14, 231, 17⟩⟩], none, [], [], none, []⟩
noncomputable def b_law_text : List Stmt := fnBody (topStmt 30)
noncomputable def sc_law_text : Scope := ⟨.function, [("pot", .cell), ("signs", .cell), ("chr", .globalImplicit), ("range", .globalImplicit), ("_law_dip", .globalImplicit)], false, false, [("fast", .str "pot"), ("fast", .str "signs"), ("fast", .str "turn")]⟩
noncomputable abbrev fi_law_text : FI := ⟨"_law_text", "_law_text", pr_law_text, b_law_text, sc_law_text, .str "law_pc0351_01" 618, .ref 305, 306⟩
noncomputable def pr_law_some : Arguments := ⟨[], [⟨"pot", none, ⟨234, 14, 234, 17⟩⟩, ⟨"count", none, ⟨234, 19, 234, 24⟩⟩], none, [], [], none, []⟩
noncomputable def b_law_some : List Stmt := fnBody (topStmt 31)
noncomputable def sc_law_some : Scope := ⟨.function, [("pot", .cell), ("count", .local), ("tuple", .globalImplicit), ("range", .globalImplicit)], false, false, [("fast", .str "pot"), ("fast", .str "count"), ("fast", .str "turn")]⟩
noncomputable abbrev fi_law_some : FI := ⟨"_law_some", "_law_some", pr_law_some, b_law_some, sc_law_some, .str "law_pc0351_01" 618, .ref 310, 311⟩
noncomputable def pr_law_instruction : Arguments := ⟨[], [⟨"pot", none, ⟨236, 21, 236, 24⟩⟩, ⟨"places", none, ⟨236, 26, 236, 32⟩⟩], none, [], [], none, []⟩
noncomputable def b_law_instruction : List Stmt := fnBody (topStmt 32)
noncomputable def sc_law_instruction : Scope := ⟨.function, [("pot", .cell), ("places", .local), ("sort", .local), ("one", .local), ("other", .cell), ("rows", .local), ("_law_dip", .globalImplicit), ("_law_some", .globalImplicit), ("range", .globalImplicit), ("tuple", .globalImplicit)], false, false, [("fast", .str "pot"), ("fast", .str "places"), ("fast", .str "sort"), ("fast", .str "one"), ("fast", .str "other"), ("fast", .str "turn"), ("fast", .str "rows")]⟩
noncomputable abbrev fi_law_instruction : FI := ⟨"_law_instruction", "_law_instruction", pr_law_instruction, b_law_instruction, sc_law_instruction, .str "law_pc0351_01" 618, .ref 315, 316⟩
noncomputable def pr_law_procedure : Arguments := ⟨[], [⟨"pot", none, ⟨257, 19, 257, 22⟩⟩, ⟨"number", none, ⟨257, 24, 257, 30⟩⟩], none, [], [], none, []⟩
noncomputable def b_law_procedure : List Stmt := fnBody (topStmt 33)
noncomputable def sc_law_procedure : Scope := ⟨.function, [("pot", .cell), ("number", .local), ("places", .cell), ("head", .local), ("title", .local), ("body", .local), ("_law_dip", .globalImplicit), ("_law_text", .globalImplicit), ("range", .globalImplicit), ("Procedure", .globalImplicit)], false, false, [("fast", .str "pot"), ("fast", .str "number"), ("fast", .str "places"), ("fast", .str "head"), ("fast", .str "title"), ("fast", .str "place"), ("fast", .str "body")]⟩
noncomputable abbrev fi_law_procedure : FI := ⟨"_law_procedure", "_law_procedure", pr_law_procedure, b_law_procedure, sc_law_procedure, .str "law_pc0351_01" 618, .ref 320, 321⟩
noncomputable def pr_law_whole : Arguments := ⟨[], [⟨"procedures", none, ⟨263, 15, 263, 25⟩⟩], none, [], [], none, []⟩
noncomputable def b_law_whole : List Stmt := fnBody (topStmt 34)
noncomputable def sc_law_whole : Scope := ⟨.function, [("procedures", .local), ("found", .local), ("own", .local), ("head", .local), ("list", .globalImplicit), ("repr", .globalImplicit)], false, false, []⟩
noncomputable abbrev fi_law_whole : FI := ⟨"_law_whole", "_law_whole", pr_law_whole, b_law_whole, sc_law_whole, .str "law_pc0351_01" 618, .ref 327, 328⟩
noncomputable def pr_law_back : Arguments := ⟨[], [⟨"text", none, ⟨269, 14, 269, 18⟩⟩], none, [], [], none, []⟩
noncomputable def b_law_back : List Stmt := fnBody (topStmt 35)
noncomputable def sc_law_back : Scope := ⟨.function, [("text", .local), ("read_code", .globalImplicit), ("_law_names", .globalImplicit), ("BadListing", .globalImplicit)], false, false, []⟩
noncomputable abbrev fi_law_back : FI := ⟨"_law_back", "_law_back", pr_law_back, b_law_back, sc_law_back, .str "law_pc0351_01" 618, .ref 334, 335⟩
noncomputable def pr_law_spoilt : Arguments := ⟨[], [⟨"pot", none, ⟨274, 16, 274, 19⟩⟩, ⟨"text", none, ⟨274, 21, 274, 25⟩⟩], none, [], [], none, []⟩
noncomputable def b_law_spoilt : List Stmt := fnBody (topStmt 36)
noncomputable def sc_law_spoilt : Scope := ⟨.function, [("pot", .local), ("text", .local), ("sort", .local), ("lines", .local), ("gone", .local), ("at", .local), ("_law_dip", .globalImplicit), ("len", .globalImplicit), ("chr", .globalImplicit), ("str", .globalImplicit), ("int", .globalImplicit)], false, false, []⟩
noncomputable abbrev fi_law_spoilt : FI := ⟨"_law_spoilt", "_law_spoilt", pr_law_spoilt, b_law_spoilt, sc_law_spoilt, .str "law_pc0351_01" 618, .ref 341, 342⟩
noncomputable def pr_law : Arguments := ⟨[], [⟨"script", none, ⟨286, 8, 286, 14⟩⟩], none, [], [], none, []⟩
noncomputable def b_law : List Stmt := fnBody (topStmt 37)
noncomputable def sc_law : Scope := ⟨.function, [("script", .local), ("pot", .cell), ("procedures", .local), ("told", .local), ("text", .local), ("again", .local), ("found", .local), ("_law_pot", .globalImplicit), ("range", .globalImplicit), ("_law_dip", .globalImplicit), ("_law_whole", .globalImplicit), ("code_text", .globalImplicit), ("_law_names", .globalImplicit), ("read_code", .globalImplicit), ("_law_back", .globalImplicit), ("_law_spoilt", .globalImplicit)], false, false, [("fast", .str "script"), ("fast", .str "pot"), ("fast", .str "number"), ("fast", .str "procedures"), ("fast", .str "told"), ("fast", .str "text"), ("fast", .str "again"), ("fast", .str "found")]⟩
noncomputable abbrev fi_law : FI := ⟨"law", "law", pr_law, b_law, sc_law, .str "law_pc0351_01" 618, .ref 346, 347⟩
noncomputable def o_2 (P : Params) : Obj := ⟨.none, none, .dict #[⟨PyData.keyHash P "type.__subclasses__.Exception.0", .str "type.__subclasses__.Exception.0" 216, .int 31 0⟩, ⟨PyData.keyHash P "type.__subclasses__.Exception.n", .str "type.__subclasses__.Exception.n" 217, .int 1 0⟩] 2, #[]⟩
noncomputable def o_3 (P : Params) : Obj := ⟨.type "dict", none, .dict #[⟨PyData.keyHash P "__name__", .str "__name__" 165, .str "law_pc0351_01" 618⟩, ⟨PyData.keyHash P "__doc__", .str "__doc__" 166, .none⟩, ⟨PyData.keyHash P "__package__", .str "__package__" 167, .none⟩, ⟨PyData.keyHash P "__loader__", .str "__loader__" 168, .builtin "__main__.__loader__#opaque"⟩, ⟨PyData.keyHash P "__spec__", .str "__spec__" 169, .none⟩, ⟨PyData.keyHash P "__annotations__", .str "__annotations__" 170, .ref 6⟩, ⟨PyData.keyHash P "__builtins__", .str "__builtins__" 171, .ref 4⟩, ⟨PyData.keyHash P "__file__", .str "__file__" 173, .str "/claim/cut.py" 172⟩, ⟨PyData.keyHash P "__cached__", .str "__cached__" 174, .none⟩, ⟨PyData.keyHash P "BadListing", .str "BadListing" 219, .ref 31⟩, ⟨PyData.keyHash P "OPERANDS", .str "OPERANDS" 275, .ref 35⟩, ⟨PyData.keyHash P "Procedure", .str "Procedure" 318, .ref 65⟩, ⟨PyData.keyHash P "operand_pairs", .str "operand_pairs" 325, .ref 76⟩, ⟨PyData.keyHash P "label_of", .str "label_of" 334, .ref 83⟩, ⟨PyData.keyHash P "labels_met", .str "labels_met" 344, .ref 90⟩, ⟨PyData.keyHash P "LETTERS", .str "LETTERS" 368, .ref 91⟩, ⟨PyData.keyHash P "registers_text", .str "registers_text" 374, .ref 96⟩, ⟨PyData.keyHash P "operand_text", .str "operand_text" 380, .ref 101⟩, ⟨PyData.keyHash P "instruction_text", .str "instruction_text" 386, .ref 106⟩, ⟨PyData.keyHash P "procedure_lines", .str "procedure_lines" 400, .ref 113⟩, ⟨PyData.keyHash P "code_text", .str "code_text" 406, .ref 118⟩, ⟨PyData.keyHash P "Listing", .str "Listing" 524, .ref 212⟩, ⟨PyData.keyHash P "is_figures", .str "is_figures" 532, .ref 223⟩, ⟨PyData.keyHash P "read_registers", .str "read_registers" 540, .ref 230⟩, ⟨PyData.keyHash P "read_rows", .str "read_rows" 550, .ref 237⟩, ⟨PyData.keyHash P "read_operand", .str "read_operand" 560, .ref 244⟩, ⟨PyData.keyHash P "read_instruction", .str "read_instruction" 571, .ref 251⟩, ⟨PyData.keyHash P "read_label", .str "read_label" 579, .ref 258⟩, ⟨PyData.keyHash P "read_instructions", .str "read_instructions" 585, .ref 263⟩, ⟨PyData.keyHash P "read_procedure", .str "read_procedure" 601, .ref 270⟩, ⟨PyData.keyHash P "read_procedures", .str "read_procedures" 607, .ref 275⟩, ⟨PyData.keyHash P "read_code", .str "read_code" 617, .ref 282⟩, ⟨PyData.keyHash P "_law_pot", .str "_law_pot" 625, .ref 287⟩, ⟨PyData.keyHash P "_law_dip", .str "_law_dip" 634, .ref 294⟩, ⟨PyData.keyHash P "_law_names", .str "_law_names" 640, .ref 301⟩, ⟨PyData.keyHash P "_law_text", .str "_law_text" 646, .ref 306⟩, ⟨PyData.keyHash P "_law_some", .str "_law_some" 652, .ref 311⟩, ⟨PyData.keyHash P "_law_instruction", .str "_law_instruction" 658, .ref 316⟩, ⟨PyData.keyHash P "_law_procedure", .str "_law_procedure" 664, .ref 321⟩, ⟨PyData.keyHash P "_law_whole", .str "_law_whole" 674, .ref 328⟩, ⟨PyData.keyHash P "_law_back", .str "_law_back" 681, .ref 335⟩, ⟨PyData.keyHash P "_law_spoilt", .str "_law_spoilt" 693, .ref 342⟩, ⟨PyData.keyHash P "law", .str "law" 699, .ref 347⟩] 43, #[]⟩
noncomputable def o_27 (P : Params) : Obj := ⟨.type "code", none, .fields #[.str "__init__" 201, .str "BadListing.__init__" 202, .str "/claim/cut.py" 203, .int 4 0, .int 3 0, .int 0 0, .int 0 0, .int 3 0, .ref 22, .bool true, .int 181 0, .ref 23, .none, .ref 24, .ref 25, .ref 26, .int 207 0, .int 4 0, .str "/claim/cut.py" 208], #[]⟩
noncomputable def o_28 (P : Params) : Obj := ⟨.type "function", none, .func (fnOf "__init__" "BadListing.__init__" pr_BadListing___init__ b_BadListing___init__ sc_BadListing___init__ (.none) (.none) (.none) (.str "scheme.errors" 187) none (.ref 27) (.none)), #[]⟩
noncomputable def o_30 (P : Params) : Obj := ⟨.type "dict", none, .dict #[⟨PyData.keyHash P "__module__", .str "__module__" 196, .str "scheme.errors" 187⟩, ⟨PyData.keyHash P "__firstlineno__", .str "__firstlineno__" 200, .int 2 199⟩, ⟨PyData.keyHash P "__init__", .str "__init__" 209, .ref 28⟩, ⟨PyData.keyHash P "__static_attributes__", .str "__static_attributes__" 212, .ref 29⟩, ⟨PyData.keyHash P "__weakref__", .str "__weakref__" 214, .ref 32⟩, ⟨PyData.keyHash P "__doc__", .str "__doc__" 215, .none⟩] 3, #[]⟩
noncomputable def o_31 (P : Params) : Obj := ⟨.type "type", none, .cls { name := "BadListing", bases := [.type "Exception"], mro := [.ref 31, .type "Exception", .type "BaseException", .type "object"], ns := 30, qualname := "BadListing", hasDict := true, slotNames := [], subclasses := [], abstract := false, collection := none, hasDel := false }, #[some (.ref 15), none, some (.str "BadListing" 189), some (.str "BadListing" 197), some (.builtin "Exception.__new__"), some (.bool true)]⟩
noncomputable def o_32 (P : Params) : Obj := ⟨.type "getset_descriptor", none, .fields #[.str "__weakref__" 213, .ref 31, .builtin "ExceptionGroup.__weakref__", .none], #[]⟩
noncomputable def o_35 (P : Params) : Obj := ⟨.type "dict", none, .dict #[⟨PyData.keyHash P "const", .str "const" 222, .ref 36⟩, ⟨PyData.keyHash P "move", .str "move" 225, .ref 37⟩, ⟨PyData.keyHash P "global", .str "global" 228, .ref 38⟩, ⟨PyData.keyHash P "setglobal", .str "setglobal" 231, .ref 39⟩, ⟨PyData.keyHash P "define", .str "define" 234, .ref 40⟩, ⟨PyData.keyHash P "free", .str "free" 237, .ref 41⟩, ⟨PyData.keyHash P "closure", .str "closure" 240, .ref 42⟩, ⟨PyData.keyHash P "fix", .str "fix" 244, .ref 43⟩, ⟨PyData.keyHash P "prim", .str "prim" 246, .ref 44⟩, ⟨PyData.keyHash P "jump", .str "jump" 250, .ref 45⟩, ⟨PyData.keyHash P "branchfalse", .str "branchfalse" 252, .ref 46⟩, ⟨PyData.keyHash P "call", .str "call" 255, .ref 47⟩, ⟨PyData.keyHash P "give", .str "give" 259, .ref 48⟩] 13, #[]⟩
noncomputable def o_36 (P : Params) : Obj := ⟨.type "tuple", none, .seq #[.str "target" 223, .str "constant" 224] 0, #[]⟩
noncomputable def o_37 (P : Params) : Obj := ⟨.type "tuple", none, .seq #[.str "target" 226, .str "source" 227] 0, #[]⟩
noncomputable def o_38 (P : Params) : Obj := ⟨.type "tuple", none, .seq #[.str "target" 229, .str "global" 230] 0, #[]⟩
noncomputable def o_39 (P : Params) : Obj := ⟨.type "tuple", none, .seq #[.str "global" 232, .str "source" 233] 0, #[]⟩
noncomputable def o_40 (P : Params) : Obj := ⟨.type "tuple", none, .seq #[.str "global" 235, .str "source" 236] 0, #[]⟩
noncomputable def o_41 (P : Params) : Obj := ⟨.type "tuple", none, .seq #[.str "target" 238, .str "free" 239] 0, #[]⟩
noncomputable def o_42 (P : Params) : Obj := ⟨.type "tuple", none, .seq #[.str "target" 241, .str "procedure" 242, .str "sources" 243] 0, #[]⟩
noncomputable def o_43 (P : Params) : Obj := ⟨.type "tuple", none, .seq #[.str "rows" 245] 0, #[]⟩
noncomputable def o_44 (P : Params) : Obj := ⟨.type "tuple", none, .seq #[.str "target" 247, .str "primitive" 248, .str "sources" 249] 0, #[]⟩
noncomputable def o_45 (P : Params) : Obj := ⟨.type "tuple", none, .seq #[.str "label" 251] 0, #[]⟩
noncomputable def o_46 (P : Params) : Obj := ⟨.type "tuple", none, .seq #[.str "source" 253, .str "label" 254] 0, #[]⟩
noncomputable def o_47 (P : Params) : Obj := ⟨.type "tuple", none, .seq #[.str "source" 256, .str "source" 257, .str "sources" 258] 0, #[]⟩
noncomputable def o_48 (P : Params) : Obj := ⟨.type "tuple", none, .seq #[.str "source" 260, .str "sources" 261] 0, #[]⟩
noncomputable def o_61 (P : Params) : Obj := ⟨.type "code", none, .fields #[.str "__init__" 288, .str "Procedure.__init__" 289, .str "/claim/cut.py" 290, .int 11 0, .int 9 0, .int 0 0, .int 0 0, .int 3 0, .ref 56, .bool true, .int 181 0, .ref 57, .none, .ref 58, .ref 59, .ref 60, .int 300 0, .int 11 0, .str "/claim/cut.py" 301], #[]⟩
noncomputable def o_62 (P : Params) : Obj := ⟨.type "function", none, .func (fnOf "__init__" "Procedure.__init__" pr_Procedure___init__ b_Procedure___init__ sc_Procedure___init__ (.none) (.none) (.none) (.str "scheme.instructions" 220) none (.ref 61) (.none)), #[]⟩
noncomputable def o_64 (P : Params) : Obj := ⟨.type "dict", none, .dict #[⟨PyData.keyHash P "__module__", .str "__module__" 283, .str "scheme.instructions" 220⟩, ⟨PyData.keyHash P "__firstlineno__", .str "__firstlineno__" 287, .int 9 286⟩, ⟨PyData.keyHash P "__init__", .str "__init__" 302, .ref 62⟩, ⟨PyData.keyHash P "__static_attributes__", .str "__static_attributes__" 311, .ref 63⟩, ⟨PyData.keyHash P "__dict__", .str "__dict__" 313, .ref 66⟩, ⟨PyData.keyHash P "__weakref__", .str "__weakref__" 315, .ref 67⟩, ⟨PyData.keyHash P "__doc__", .str "__doc__" 316, .none⟩] 4, #[]⟩
noncomputable def o_65 (P : Params) : Obj := ⟨.type "type", none, .cls { name := "Procedure", bases := [.type "object"], mro := [.ref 65, .type "object"], ns := 64, qualname := "Procedure", hasDict := true, slotNames := [], subclasses := [], abstract := false, collection := none, hasDel := false }, #[none, none, some (.str "Procedure" 276), some (.str "Procedure" 284), some (.builtin "object.__new__"), some (.bool true)]⟩
noncomputable def o_66 (P : Params) : Obj := ⟨.type "getset_descriptor", none, .fields #[.str "__dict__" 312, .ref 65, .builtin "function.__dict__", .builtin "function.__dict__#set"], #[]⟩
noncomputable def o_67 (P : Params) : Obj := ⟨.type "getset_descriptor", none, .fields #[.str "__weakref__" 314, .ref 65, .builtin "ExceptionGroup.__weakref__", .none], #[]⟩
noncomputable def o_75 (P : Params) : Obj := ⟨.type "code", none, .fields #[.str "operand_pairs" 319, .str "operand_pairs" 320, .str "/claim/cut.py" 321, .int 20 0, .int 1 0, .int 0 0, .int 0 0, .int 3 0, .ref 70, .bool true, .int 181 0, .ref 71, .none, .ref 72, .ref 73, .ref 74, .int 323 0, .int 20 0, .str "/claim/cut.py" 324], #[]⟩
noncomputable def o_76 (P : Params) : Obj := ⟨.type "function", none, .func (fnOf "operand_pairs" "operand_pairs" pr_operand_pairs b_operand_pairs sc_operand_pairs (.none) (.none) (.none) (.str "scheme.instructions" 220) none (.ref 75) (.none)), #[]⟩
noncomputable def o_82 (P : Params) : Obj := ⟨.type "code", none, .fields #[.str "label_of" 326, .str "label_of" 327, .str "/claim/cut.py" 328, .int 22 0, .int 1 0, .int 0 0, .int 0 0, .int 3 0, .ref 77, .bool true, .int 181 0, .ref 78, .none, .ref 79, .ref 80, .ref 81, .int 332 0, .int 22 0, .str "/claim/cut.py" 333], #[]⟩
noncomputable def o_83 (P : Params) : Obj := ⟨.type "function", none, .func (fnOf "label_of" "label_of" pr_label_of b_label_of sc_label_of (.none) (.none) (.none) (.str "scheme.instructions" 220) none (.ref 82) (.none)), #[]⟩
noncomputable def o_89 (P : Params) : Obj := ⟨.type "code", none, .fields #[.str "labels_met" 335, .str "labels_met" 336, .str "/claim/cut.py" 337, .int 27 0, .int 1 0, .int 0 0, .int 0 0, .int 3 0, .ref 84, .bool true, .int 181 0, .ref 85, .none, .ref 86, .ref 87, .ref 88, .int 342 0, .int 27 0, .str "/claim/cut.py" 343], #[]⟩
noncomputable def o_90 (P : Params) : Obj := ⟨.type "function", none, .func (fnOf "labels_met" "labels_met" pr_labels_met b_labels_met sc_labels_met (.none) (.none) (.none) (.str "scheme.instructions" 220) none (.ref 89) (.none)), #[]⟩
noncomputable def o_91 (P : Params) : Obj := ⟨.type "dict", none, .dict #[⟨PyData.keyHash P "target", .str "target" 347, .str "r" 348⟩, ⟨PyData.keyHash P "source", .str "source" 349, .str "r" 350⟩, ⟨PyData.keyHash P "constant", .str "constant" 351, .str "c" 352⟩, ⟨PyData.keyHash P "global", .str "global" 353, .str "g" 354⟩, ⟨PyData.keyHash P "free", .str "free" 355, .str "n" 356⟩, ⟨PyData.keyHash P "procedure", .str "procedure" 357, .str "p" 358⟩, ⟨PyData.keyHash P "label", .str "label" 359, .str "L" 360⟩] 7, #[]⟩
noncomputable def o_95 (P : Params) : Obj := ⟨.type "code", none, .fields #[.str "registers_text" 369, .str "registers_text" 370, .str "/claim/cut.py" 371, .int 36 0, .int 1 0, .int 0 0, .int 0 0, .int 3 0, .ref 92, .bool true, .int 181 0, .ref 93, .none, .none, .none, .ref 94, .int 372 0, .int 36 0, .str "/claim/cut.py" 373], #[]⟩
noncomputable def o_96 (P : Params) : Obj := ⟨.type "function", none, .func (fnOf "registers_text" "registers_text" pr_registers_text b_registers_text sc_registers_text (.none) (.none) (.none) (.str "scheme.codetext" 345) none (.ref 95) (.none)), #[]⟩
noncomputable def o_100 (P : Params) : Obj := ⟨.type "code", none, .fields #[.str "operand_text" 375, .str "operand_text" 376, .str "/claim/cut.py" 377, .int 38 0, .int 3 0, .int 0 0, .int 0 0, .int 3 0, .ref 97, .bool true, .int 181 0, .ref 98, .none, .none, .none, .ref 99, .int 378 0, .int 38 0, .str "/claim/cut.py" 379], #[]⟩
noncomputable def o_101 (P : Params) : Obj := ⟨.type "function", none, .func (fnOf "operand_text" "operand_text" pr_operand_text b_operand_text sc_operand_text (.none) (.none) (.none) (.str "scheme.codetext" 345) none (.ref 100) (.none)), #[]⟩
noncomputable def o_105 (P : Params) : Obj := ⟨.type "code", none, .fields #[.str "instruction_text" 381, .str "instruction_text" 382, .str "/claim/cut.py" 383, .int 46 0, .int 2 0, .int 0 0, .int 0 0, .int 3 0, .ref 102, .bool true, .int 181 0, .ref 103, .none, .none, .none, .ref 104, .int 384 0, .int 46 0, .str "/claim/cut.py" 385], #[]⟩
noncomputable def o_106 (P : Params) : Obj := ⟨.type "function", none, .func (fnOf "instruction_text" "instruction_text" pr_instruction_text b_instruction_text sc_instruction_text (.none) (.none) (.none) (.str "scheme.codetext" 345) none (.ref 105) (.none)), #[]⟩
noncomputable def o_112 (P : Params) : Obj := ⟨.type "code", none, .fields #[.str "procedure_lines" 387, .str "procedure_lines" 388, .str "/claim/cut.py" 389, .int 49 0, .int 2 0, .int 0 0, .int 0 0, .int 3 0, .ref 107, .bool true, .int 181 0, .ref 108, .none, .ref 109, .ref 110, .ref 111, .int 398 0, .int 49 0, .str "/claim/cut.py" 399], #[]⟩
noncomputable def o_113 (P : Params) : Obj := ⟨.type "function", none, .func (fnOf "procedure_lines" "procedure_lines" pr_procedure_lines b_procedure_lines sc_procedure_lines (.none) (.none) (.none) (.str "scheme.codetext" 345) none (.ref 112) (.none)), #[]⟩
noncomputable def o_117 (P : Params) : Obj := ⟨.type "code", none, .fields #[.str "code_text" 401, .str "code_text" 402, .str "/claim/cut.py" 403, .int 59 0, .int 2 0, .int 0 0, .int 0 0, .int 3 0, .ref 114, .bool true, .int 181 0, .ref 115, .none, .none, .none, .ref 116, .int 404 0, .int 59 0, .str "/claim/cut.py" 405], #[]⟩
noncomputable def o_118 (P : Params) : Obj := ⟨.type "function", none, .func (fnOf "code_text" "code_text" pr_code_text b_code_text sc_code_text (.none) (.none) (.none) (.str "scheme.codetext" 345) none (.ref 117) (.none)), #[]⟩
noncomputable def o_131 (P : Params) : Obj := ⟨.type "code", none, .fields #[.str "__init__" 419, .str "Listing.__init__" 420, .str "/claim/cut.py" 421, .int 66 0, .int 2 0, .int 0 0, .int 0 0, .int 3 0, .ref 126, .bool true, .int 181 0, .ref 127, .none, .ref 128, .ref 129, .ref 130, .int 424 0, .int 66 0, .str "/claim/cut.py" 425], #[]⟩
noncomputable def o_132 (P : Params) : Obj := ⟨.type "function", none, .func (fnOf "__init__" "Listing.__init__" pr_Listing___init__ b_Listing___init__ sc_Listing___init__ (.none) (.none) (.none) (.str "scheme.codetext" 345) none (.ref 131) (.none)), #[]⟩
noncomputable def o_138 (P : Params) : Obj := ⟨.type "code", none, .fields #[.str "refuse" 427, .str "Listing.refuse" 428, .str "/claim/cut.py" 429, .int 71 0, .int 2 0, .int 0 0, .int 0 0, .int 3 0, .ref 133, .bool true, .int 181 0, .ref 134, .none, .ref 135, .ref 136, .ref 137, .int 432 0, .int 71 0, .str "/claim/cut.py" 433], #[]⟩
noncomputable def o_139 (P : Params) : Obj := ⟨.type "function", none, .func (fnOf "refuse" "Listing.refuse" pr_Listing_refuse b_Listing_refuse sc_Listing_refuse (.none) (.none) (.none) (.str "scheme.codetext" 345) none (.ref 138) (.none)), #[]⟩
noncomputable def o_145 (P : Params) : Obj := ⟨.type "code", none, .fields #[.str "is_at_end" 435, .str "Listing.is_at_end" 436, .str "/claim/cut.py" 437, .int 74 0, .int 1 0, .int 0 0, .int 0 0, .int 3 0, .ref 140, .bool true, .int 181 0, .ref 141, .none, .ref 142, .ref 143, .ref 144, .int 439 0, .int 74 0, .str "/claim/cut.py" 440], #[]⟩
noncomputable def o_146 (P : Params) : Obj := ⟨.type "function", none, .func (fnOf "is_at_end" "Listing.is_at_end" pr_Listing_is_at_end b_Listing_is_at_end sc_Listing_is_at_end (.none) (.none) (.none) (.str "scheme.codetext" 345) none (.ref 145) (.none)), #[]⟩
noncomputable def o_152 (P : Params) : Obj := ⟨.type "code", none, .fields #[.str "skip_blanks" 442, .str "Listing.skip_blanks" 443, .str "/claim/cut.py" 444, .int 77 0, .int 1 0, .int 0 0, .int 0 0, .int 3 0, .ref 147, .bool true, .int 181 0, .ref 148, .none, .ref 149, .ref 150, .ref 151, .int 446 0, .int 77 0, .str "/claim/cut.py" 447], #[]⟩
noncomputable def o_153 (P : Params) : Obj := ⟨.type "function", none, .func (fnOf "skip_blanks" "Listing.skip_blanks" pr_Listing_skip_blanks b_Listing_skip_blanks sc_Listing_skip_blanks (.none) (.none) (.none) (.str "scheme.codetext" 345) none (.ref 152) (.none)), #[]⟩
noncomputable def o_159 (P : Params) : Obj := ⟨.type "code", none, .fields #[.str "peek" 449, .str "Listing.peek" 450, .str "/claim/cut.py" 451, .int 81 0, .int 1 0, .int 0 0, .int 0 0, .int 3 0, .ref 154, .bool true, .int 181 0, .ref 155, .none, .ref 156, .ref 157, .ref 158, .int 454 0, .int 81 0, .str "/claim/cut.py" 455], #[]⟩
noncomputable def o_160 (P : Params) : Obj := ⟨.type "function", none, .func (fnOf "peek" "Listing.peek" pr_Listing_peek b_Listing_peek sc_Listing_peek (.none) (.none) (.none) (.str "scheme.codetext" 345) none (.ref 159) (.none)), #[]⟩
noncomputable def o_166 (P : Params) : Obj := ⟨.type "code", none, .fields #[.str "word" 457, .str "Listing.word" 458, .str "/claim/cut.py" 459, .int 90 0, .int 1 0, .int 0 0, .int 0 0, .int 3 0, .ref 161, .bool true, .int 181 0, .ref 162, .none, .ref 163, .ref 164, .ref 165, .int 462 0, .int 90 0, .str "/claim/cut.py" 463], #[]⟩
noncomputable def o_167 (P : Params) : Obj := ⟨.type "function", none, .func (fnOf "word" "Listing.word" pr_Listing_word b_Listing_word sc_Listing_word (.none) (.none) (.none) (.str "scheme.codetext" 345) none (.ref 166) (.none)), #[]⟩
noncomputable def o_173 (P : Params) : Obj := ⟨.type "code", none, .fields #[.str "need" 465, .str "Listing.need" 466, .str "/claim/cut.py" 467, .int 97 0, .int 2 0, .int 0 0, .int 0 0, .int 3 0, .ref 168, .bool true, .int 181 0, .ref 169, .none, .ref 170, .ref 171, .ref 172, .int 470 0, .int 97 0, .str "/claim/cut.py" 471], #[]⟩
noncomputable def o_174 (P : Params) : Obj := ⟨.type "function", none, .func (fnOf "need" "Listing.need" pr_Listing_need b_Listing_need sc_Listing_need (.none) (.none) (.none) (.str "scheme.codetext" 345) none (.ref 173) (.none)), #[]⟩
noncomputable def o_180 (P : Params) : Obj := ⟨.type "code", none, .fields #[.str "takes" 473, .str "Listing.takes" 474, .str "/claim/cut.py" 475, .int 101 0, .int 2 0, .int 0 0, .int 0 0, .int 3 0, .ref 175, .bool true, .int 181 0, .ref 176, .none, .ref 177, .ref 178, .ref 179, .int 478 0, .int 101 0, .str "/claim/cut.py" 479], #[]⟩
noncomputable def o_181 (P : Params) : Obj := ⟨.type "function", none, .func (fnOf "takes" "Listing.takes" pr_Listing_takes b_Listing_takes sc_Listing_takes (.none) (.none) (.none) (.str "scheme.codetext" 345) none (.ref 180) (.none)), #[]⟩
noncomputable def o_187 (P : Params) : Obj := ⟨.type "code", none, .fields #[.str "count" 481, .str "Listing.count" 482, .str "/claim/cut.py" 483, .int 107 0, .int 1 0, .int 0 0, .int 0 0, .int 3 0, .ref 182, .bool true, .int 181 0, .ref 183, .none, .ref 184, .ref 185, .ref 186, .int 486 0, .int 107 0, .str "/claim/cut.py" 487], #[]⟩
noncomputable def o_188 (P : Params) : Obj := ⟨.type "function", none, .func (fnOf "count" "Listing.count" pr_Listing_count b_Listing_count sc_Listing_count (.none) (.none) (.none) (.str "scheme.codetext" 345) none (.ref 187) (.none)), #[]⟩
noncomputable def o_194 (P : Params) : Obj := ⟨.type "code", none, .fields #[.str "lettered" 489, .str "Listing.lettered" 490, .str "/claim/cut.py" 491, .int 113 0, .int 2 0, .int 0 0, .int 0 0, .int 3 0, .ref 189, .bool true, .int 181 0, .ref 190, .none, .ref 191, .ref 192, .ref 193, .int 495 0, .int 113 0, .str "/claim/cut.py" 496], #[]⟩
noncomputable def o_195 (P : Params) : Obj := ⟨.type "function", none, .func (fnOf "lettered" "Listing.lettered" pr_Listing_lettered b_Listing_lettered sc_Listing_lettered (.none) (.none) (.none) (.str "scheme.codetext" 345) none (.ref 194) (.none)), #[]⟩
noncomputable def o_201 (P : Params) : Obj := ⟨.type "code", none, .fields #[.str "told_text" 498, .str "Listing.told_text" 499, .str "/claim/cut.py" 500, .int 119 0, .int 1 0, .int 0 0, .int 0 0, .int 3 0, .ref 196, .bool true, .int 181 0, .ref 197, .none, .ref 198, .ref 199, .ref 200, .int 504 0, .int 119 0, .str "/claim/cut.py" 505], #[]⟩
noncomputable def o_202 (P : Params) : Obj := ⟨.type "function", none, .func (fnOf "told_text" "Listing.told_text" pr_Listing_told_text b_Listing_told_text sc_Listing_told_text (.none) (.none) (.none) (.str "scheme.codetext" 345) none (.ref 201) (.none)), #[]⟩
noncomputable def o_208 (P : Params) : Obj := ⟨.type "code", none, .fields #[.str "end_line" 507, .str "Listing.end_line" 508, .str "/claim/cut.py" 509, .int 127 0, .int 1 0, .int 0 0, .int 0 0, .int 3 0, .ref 203, .bool true, .int 181 0, .ref 204, .none, .ref 205, .ref 206, .ref 207, .int 511 0, .int 127 0, .str "/claim/cut.py" 512], #[]⟩
noncomputable def o_209 (P : Params) : Obj := ⟨.type "function", none, .func (fnOf "end_line" "Listing.end_line" pr_Listing_end_line b_Listing_end_line sc_Listing_end_line (.none) (.none) (.none) (.str "scheme.codetext" 345) none (.ref 208) (.none)), #[]⟩
noncomputable def o_211 (P : Params) : Obj := ⟨.type "dict", none, .dict #[⟨PyData.keyHash P "__module__", .str "__module__" 414, .str "scheme.codetext" 345⟩, ⟨PyData.keyHash P "__firstlineno__", .str "__firstlineno__" 418, .int 64 417⟩, ⟨PyData.keyHash P "__init__", .str "__init__" 426, .ref 132⟩, ⟨PyData.keyHash P "refuse", .str "refuse" 434, .ref 139⟩, ⟨PyData.keyHash P "is_at_end", .str "is_at_end" 441, .ref 146⟩, ⟨PyData.keyHash P "skip_blanks", .str "skip_blanks" 448, .ref 153⟩, ⟨PyData.keyHash P "peek", .str "peek" 456, .ref 160⟩, ⟨PyData.keyHash P "word", .str "word" 464, .ref 167⟩, ⟨PyData.keyHash P "need", .str "need" 472, .ref 174⟩, ⟨PyData.keyHash P "takes", .str "takes" 480, .ref 181⟩, ⟨PyData.keyHash P "count", .str "count" 488, .ref 188⟩, ⟨PyData.keyHash P "lettered", .str "lettered" 497, .ref 195⟩, ⟨PyData.keyHash P "told_text", .str "told_text" 506, .ref 202⟩, ⟨PyData.keyHash P "end_line", .str "end_line" 513, .ref 209⟩, ⟨PyData.keyHash P "__static_attributes__", .str "__static_attributes__" 517, .ref 210⟩, ⟨PyData.keyHash P "__dict__", .str "__dict__" 519, .ref 213⟩, ⟨PyData.keyHash P "__weakref__", .str "__weakref__" 521, .ref 214⟩, ⟨PyData.keyHash P "__doc__", .str "__doc__" 522, .none⟩] 4, #[]⟩
noncomputable def o_212 (P : Params) : Obj := ⟨.type "type", none, .cls { name := "Listing", bases := [.type "object"], mro := [.ref 212, .type "object"], ns := 211, qualname := "Listing", hasDict := true, slotNames := [], subclasses := [], abstract := false, collection := none, hasDel := false }, #[none, none, some (.str "Listing" 407), some (.str "Listing" 415), some (.builtin "object.__new__"), some (.bool true)]⟩
noncomputable def o_213 (P : Params) : Obj := ⟨.type "getset_descriptor", none, .fields #[.str "__dict__" 518, .ref 212, .builtin "function.__dict__", .builtin "function.__dict__#set"], #[]⟩
noncomputable def o_214 (P : Params) : Obj := ⟨.type "getset_descriptor", none, .fields #[.str "__weakref__" 520, .ref 212, .builtin "ExceptionGroup.__weakref__", .none], #[]⟩
noncomputable def o_222 (P : Params) : Obj := ⟨.type "code", none, .fields #[.str "is_figures" 525, .str "is_figures" 526, .str "/claim/cut.py" 527, .int 133 0, .int 1 0, .int 0 0, .int 0 0, .int 3 0, .ref 217, .bool true, .int 181 0, .ref 218, .none, .ref 219, .ref 220, .ref 221, .int 530 0, .int 133 0, .str "/claim/cut.py" 531], #[]⟩
noncomputable def o_223 (P : Params) : Obj := ⟨.type "function", none, .func (fnOf "is_figures" "is_figures" pr_is_figures b_is_figures sc_is_figures (.none) (.none) (.none) (.str "scheme.codetext" 345) none (.ref 222) (.none)), #[]⟩
noncomputable def o_229 (P : Params) : Obj := ⟨.type "code", none, .fields #[.str "read_registers" 533, .str "read_registers" 534, .str "/claim/cut.py" 535, .int 140 0, .int 1 0, .int 0 0, .int 0 0, .int 3 0, .ref 224, .bool true, .int 181 0, .ref 225, .none, .ref 226, .ref 227, .ref 228, .int 538 0, .int 140 0, .str "/claim/cut.py" 539], #[]⟩
noncomputable def o_230 (P : Params) : Obj := ⟨.type "function", none, .func (fnOf "read_registers" "read_registers" pr_read_registers b_read_registers sc_read_registers (.none) (.none) (.none) (.str "scheme.codetext" 345) none (.ref 229) (.none)), #[]⟩
noncomputable def o_236 (P : Params) : Obj := ⟨.type "code", none, .fields #[.str "read_rows" 541, .str "read_rows" 542, .str "/claim/cut.py" 543, .int 146 0, .int 1 0, .int 0 0, .int 0 0, .int 3 0, .ref 231, .bool true, .int 181 0, .ref 232, .none, .ref 233, .ref 234, .ref 235, .int 548 0, .int 146 0, .str "/claim/cut.py" 549], #[]⟩
noncomputable def o_237 (P : Params) : Obj := ⟨.type "function", none, .func (fnOf "read_rows" "read_rows" pr_read_rows b_read_rows sc_read_rows (.none) (.none) (.none) (.str "scheme.codetext" 345) none (.ref 236) (.none)), #[]⟩
noncomputable def o_243 (P : Params) : Obj := ⟨.type "code", none, .fields #[.str "read_operand" 551, .str "read_operand" 552, .str "/claim/cut.py" 553, .int 153 0, .int 3 0, .int 0 0, .int 0 0, .int 3 0, .ref 238, .bool true, .int 181 0, .ref 239, .none, .ref 240, .ref 241, .ref 242, .int 558 0, .int 153 0, .str "/claim/cut.py" 559], #[]⟩
noncomputable def o_244 (P : Params) : Obj := ⟨.type "function", none, .func (fnOf "read_operand" "read_operand" pr_read_operand b_read_operand sc_read_operand (.none) (.none) (.none) (.str "scheme.codetext" 345) none (.ref 243) (.none)), #[]⟩
noncomputable def o_250 (P : Params) : Obj := ⟨.type "code", none, .fields #[.str "read_instruction" 561, .str "read_instruction" 562, .str "/claim/cut.py" 563, .int 164 0, .int 2 0, .int 0 0, .int 0 0, .int 3 0, .ref 245, .bool true, .int 181 0, .ref 246, .none, .ref 247, .ref 248, .ref 249, .int 569 0, .int 164 0, .str "/claim/cut.py" 570], #[]⟩
noncomputable def o_251 (P : Params) : Obj := ⟨.type "function", none, .func (fnOf "read_instruction" "read_instruction" pr_read_instruction b_read_instruction sc_read_instruction (.none) (.none) (.none) (.str "scheme.codetext" 345) none (.ref 250) (.none)), #[]⟩
noncomputable def o_257 (P : Params) : Obj := ⟨.type "code", none, .fields #[.str "read_label" 572, .str "read_label" 573, .str "/claim/cut.py" 574, .int 173 0, .int 2 0, .int 0 0, .int 0 0, .int 3 0, .ref 252, .bool true, .int 181 0, .ref 253, .none, .ref 254, .ref 255, .ref 256, .int 577 0, .int 173 0, .str "/claim/cut.py" 578], #[]⟩
noncomputable def o_258 (P : Params) : Obj := ⟨.type "function", none, .func (fnOf "read_label" "read_label" pr_read_label b_read_label sc_read_label (.none) (.none) (.none) (.str "scheme.codetext" 345) none (.ref 257) (.none)), #[]⟩
noncomputable def o_262 (P : Params) : Obj := ⟨.type "code", none, .fields #[.str "read_instructions" 580, .str "read_instructions" 581, .str "/claim/cut.py" 582, .int 179 0, .int 2 0, .int 0 0, .int 0 0, .int 3 0, .ref 259, .bool true, .int 181 0, .ref 260, .none, .none, .none, .ref 261, .int 583 0, .int 179 0, .str "/claim/cut.py" 584], #[]⟩
noncomputable def o_263 (P : Params) : Obj := ⟨.type "function", none, .func (fnOf "read_instructions" "read_instructions" pr_read_instructions b_read_instructions sc_read_instructions (.none) (.none) (.none) (.str "scheme.codetext" 345) none (.ref 262) (.none)), #[]⟩
noncomputable def o_269 (P : Params) : Obj := ⟨.type "code", none, .fields #[.str "read_procedure" 586, .str "read_procedure" 587, .str "/claim/cut.py" 588, .int 191 0, .int 3 0, .int 0 0, .int 0 0, .int 3 0, .ref 264, .bool true, .int 181 0, .ref 265, .none, .ref 266, .ref 267, .ref 268, .int 599 0, .int 191 0, .str "/claim/cut.py" 600], #[]⟩
noncomputable def o_270 (P : Params) : Obj := ⟨.type "function", none, .func (fnOf "read_procedure" "read_procedure" pr_read_procedure b_read_procedure sc_read_procedure (.none) (.none) (.none) (.str "scheme.codetext" 345) none (.ref 269) (.none)), #[]⟩
noncomputable def o_274 (P : Params) : Obj := ⟨.type "code", none, .fields #[.str "read_procedures" 602, .str "read_procedures" 603, .str "/claim/cut.py" 604, .int 207 0, .int 2 0, .int 0 0, .int 0 0, .int 3 0, .ref 271, .bool true, .int 181 0, .ref 272, .none, .none, .none, .ref 273, .int 605 0, .int 207 0, .str "/claim/cut.py" 606], #[]⟩
noncomputable def o_275 (P : Params) : Obj := ⟨.type "function", none, .func (fnOf "read_procedures" "read_procedures" pr_read_procedures b_read_procedures sc_read_procedures (.none) (.none) (.none) (.str "scheme.codetext" 345) none (.ref 274) (.none)), #[]⟩
noncomputable def o_281 (P : Params) : Obj := ⟨.type "code", none, .fields #[.str "read_code" 608, .str "read_code" 609, .str "/claim/cut.py" 610, .int 213 0, .int 2 0, .int 0 0, .int 0 0, .int 3 0, .ref 276, .bool true, .int 181 0, .ref 277, .none, .ref 278, .ref 279, .ref 280, .int 615 0, .int 213 0, .str "/claim/cut.py" 616], #[]⟩
noncomputable def o_282 (P : Params) : Obj := ⟨.type "function", none, .func (fnOf "read_code" "read_code" pr_read_code b_read_code sc_read_code (.none) (.none) (.none) (.str "scheme.codetext" 345) none (.ref 281) (.none)), #[]⟩
noncomputable def o_286 (P : Params) : Obj := ⟨.type "code", none, .fields #[.str "_law_pot" 620, .str "_law_pot" 621, .str "/claim/cut.py" 622, .int 220 0, .int 1 0, .int 0 0, .int 0 0, .int 3 0, .ref 283, .bool true, .int 181 0, .ref 284, .none, .none, .none, .ref 285, .int 623 0, .int 220 0, .str "/claim/cut.py" 624], #[]⟩
noncomputable def o_287 (P : Params) : Obj := ⟨.type "function", none, .func (fnOf "_law_pot" "_law_pot" pr_law_pot b_law_pot sc_law_pot (.none) (.none) (.none) (.str "law_pc0351_01" 618) none (.ref 286) (.none)), #[]⟩
noncomputable def o_293 (P : Params) : Obj := ⟨.type "code", none, .fields #[.str "_law_dip" 626, .str "_law_dip" 627, .str "/claim/cut.py" 628, .int 222 0, .int 2 0, .int 0 0, .int 0 0, .int 3 0, .ref 288, .bool true, .int 181 0, .ref 289, .none, .ref 290, .ref 291, .ref 292, .int 632 0, .int 222 0, .str "/claim/cut.py" 633], #[]⟩
noncomputable def o_294 (P : Params) : Obj := ⟨.type "function", none, .func (fnOf "_law_dip" "_law_dip" pr_law_dip b_law_dip sc_law_dip (.none) (.none) (.none) (.str "law_pc0351_01" 618) none (.ref 293) (.none)), #[]⟩
noncomputable def o_300 (P : Params) : Obj := ⟨.type "code", none, .fields #[.str "_law_names" 635, .str "_law_names" 636, .str "/claim/cut.py" 637, .int 229 0, .int 0 0, .int 0 0, .int 0 0, .int 3 0, .ref 295, .bool true, .int 181 0, .ref 296, .none, .ref 297, .ref 298, .ref 299, .int 638 0, .int 229 0, .str "/claim/cut.py" 639], #[]⟩
noncomputable def o_301 (P : Params) : Obj := ⟨.type "function", none, .func (fnOf "_law_names" "_law_names" pr_law_names b_law_names sc_law_names (.none) (.none) (.none) (.str "law_pc0351_01" 618) none (.ref 300) (.none)), #[]⟩
noncomputable def o_305 (P : Params) : Obj := ⟨.type "code", none, .fields #[.str "_law_text" 641, .str "_law_text" 642, .str "/claim/cut.py" 643, .int 231 0, .int 1 0, .int 0 0, .int 0 0, .int 3 0, .ref 302, .bool true, .int 181 0, .ref 303, .none, .none, .none, .ref 304, .int 644 0, .int 231 0, .str "/claim/cut.py" 645], #[]⟩
noncomputable def o_306 (P : Params) : Obj := ⟨.type "function", none, .func (fnOf "_law_text" "_law_text" pr_law_text b_law_text sc_law_text (.none) (.none) (.none) (.str "law_pc0351_01" 618) none (.ref 305) (.none)), #[]⟩
noncomputable def o_310 (P : Params) : Obj := ⟨.type "code", none, .fields #[.str "_law_some" 647, .str "_law_some" 648, .str "/claim/cut.py" 649, .int 234 0, .int 2 0, .int 0 0, .int 0 0, .int 3 0, .ref 307, .bool true, .int 181 0, .ref 308, .none, .none, .none, .ref 309, .int 650 0, .int 234 0, .str "/claim/cut.py" 651], #[]⟩
noncomputable def o_311 (P : Params) : Obj := ⟨.type "function", none, .func (fnOf "_law_some" "_law_some" pr_law_some b_law_some sc_law_some (.none) (.none) (.none) (.str "law_pc0351_01" 618) none (.ref 310) (.none)), #[]⟩
noncomputable def o_315 (P : Params) : Obj := ⟨.type "code", none, .fields #[.str "_law_instruction" 653, .str "_law_instruction" 654, .str "/claim/cut.py" 655, .int 236 0, .int 2 0, .int 0 0, .int 0 0, .int 3 0, .ref 312, .bool true, .int 181 0, .ref 313, .none, .none, .none, .ref 314, .int 656 0, .int 236 0, .str "/claim/cut.py" 657], #[]⟩
noncomputable def o_316 (P : Params) : Obj := ⟨.type "function", none, .func (fnOf "_law_instruction" "_law_instruction" pr_law_instruction b_law_instruction sc_law_instruction (.none) (.none) (.none) (.str "law_pc0351_01" 618) none (.ref 315) (.none)), #[]⟩
noncomputable def o_320 (P : Params) : Obj := ⟨.type "code", none, .fields #[.str "_law_procedure" 659, .str "_law_procedure" 660, .str "/claim/cut.py" 661, .int 257 0, .int 2 0, .int 0 0, .int 0 0, .int 3 0, .ref 317, .bool true, .int 181 0, .ref 318, .none, .none, .none, .ref 319, .int 662 0, .int 257 0, .str "/claim/cut.py" 663], #[]⟩
noncomputable def o_321 (P : Params) : Obj := ⟨.type "function", none, .func (fnOf "_law_procedure" "_law_procedure" pr_law_procedure b_law_procedure sc_law_procedure (.none) (.none) (.none) (.str "law_pc0351_01" 618) none (.ref 320) (.none)), #[]⟩
noncomputable def o_327 (P : Params) : Obj := ⟨.type "code", none, .fields #[.str "_law_whole" 665, .str "_law_whole" 666, .str "/claim/cut.py" 667, .int 263 0, .int 1 0, .int 0 0, .int 0 0, .int 3 0, .ref 322, .bool true, .int 181 0, .ref 323, .none, .ref 324, .ref 325, .ref 326, .int 672 0, .int 263 0, .str "/claim/cut.py" 673], #[]⟩
noncomputable def o_328 (P : Params) : Obj := ⟨.type "function", none, .func (fnOf "_law_whole" "_law_whole" pr_law_whole b_law_whole sc_law_whole (.none) (.none) (.none) (.str "law_pc0351_01" 618) none (.ref 327) (.none)), #[]⟩
noncomputable def o_334 (P : Params) : Obj := ⟨.type "code", none, .fields #[.str "_law_back" 675, .str "_law_back" 676, .str "/claim/cut.py" 677, .int 269 0, .int 1 0, .int 0 0, .int 0 0, .int 3 0, .ref 329, .bool true, .int 181 0, .ref 330, .none, .ref 331, .ref 332, .ref 333, .int 679 0, .int 269 0, .str "/claim/cut.py" 680], #[]⟩
noncomputable def o_335 (P : Params) : Obj := ⟨.type "function", none, .func (fnOf "_law_back" "_law_back" pr_law_back b_law_back sc_law_back (.none) (.none) (.none) (.str "law_pc0351_01" 618) none (.ref 334) (.none)), #[]⟩
noncomputable def o_341 (P : Params) : Obj := ⟨.type "code", none, .fields #[.str "_law_spoilt" 682, .str "_law_spoilt" 683, .str "/claim/cut.py" 684, .int 274 0, .int 2 0, .int 0 0, .int 0 0, .int 3 0, .ref 336, .bool true, .int 181 0, .ref 337, .none, .ref 338, .ref 339, .ref 340, .int 691 0, .int 274 0, .str "/claim/cut.py" 692], #[]⟩
noncomputable def o_342 (P : Params) : Obj := ⟨.type "function", none, .func (fnOf "_law_spoilt" "_law_spoilt" pr_law_spoilt b_law_spoilt sc_law_spoilt (.none) (.none) (.none) (.str "law_pc0351_01" 618) none (.ref 341) (.none)), #[]⟩
noncomputable def o_346 (P : Params) : Obj := ⟨.type "code", none, .fields #[.str "law" 694, .str "law" 695, .str "/claim/cut.py" 696, .int 286 0, .int 1 0, .int 0 0, .int 0 0, .int 3 0, .ref 343, .bool true, .int 181 0, .ref 344, .none, .none, .none, .ref 345, .int 697 0, .int 286 0, .str "/claim/cut.py" 698], #[]⟩
noncomputable def o_347 (P : Params) : Obj := ⟨.type "function", none, .func (fnOf "law" "law" pr_law b_law sc_law (.none) (.none) (.none) (.str "law_pc0351_01" 618) none (.ref 346) (.none)), #[]⟩
noncomputable abbrev KF : Params → Frag := fun P => [(2, o_2 P), (3, o_3 P), (27, o_27 P), (28, o_28 P), (30, o_30 P), (31, o_31 P), (32, o_32 P), (35, o_35 P), (36, o_36 P), (37, o_37 P), (38, o_38 P), (39, o_39 P), (40, o_40 P), (41, o_41 P), (42, o_42 P), (43, o_43 P), (44, o_44 P), (45, o_45 P), (46, o_46 P), (47, o_47 P), (48, o_48 P), (61, o_61 P), (62, o_62 P), (64, o_64 P), (65, o_65 P), (66, o_66 P), (67, o_67 P), (75, o_75 P), (76, o_76 P), (82, o_82 P), (83, o_83 P), (89, o_89 P), (90, o_90 P), (91, o_91 P), (95, o_95 P), (96, o_96 P), (100, o_100 P), (101, o_101 P), (105, o_105 P), (106, o_106 P), (112, o_112 P), (113, o_113 P), (117, o_117 P), (118, o_118 P), (131, o_131 P), (132, o_132 P), (138, o_138 P), (139, o_139 P), (145, o_145 P), (146, o_146 P), (152, o_152 P), (153, o_153 P), (159, o_159 P), (160, o_160 P), (166, o_166 P), (167, o_167 P), (173, o_173 P), (174, o_174 P), (180, o_180 P), (181, o_181 P), (187, o_187 P), (188, o_188 P), (194, o_194 P), (195, o_195 P), (201, o_201 P), (202, o_202 P), (208, o_208 P), (209, o_209 P), (211, o_211 P), (212, o_212 P), (213, o_213 P), (214, o_214 P), (222, o_222 P), (223, o_223 P), (229, o_229 P), (230, o_230 P), (236, o_236 P), (237, o_237 P), (243, o_243 P), (244, o_244 P), (250, o_250 P), (251, o_251 P), (257, o_257 P), (258, o_258 P), (262, o_262 P), (263, o_263 P), (269, o_269 P), (270, o_270 P), (274, o_274 P), (275, o_275 P), (281, o_281 P), (282, o_282 P), (286, o_286 P), (287, o_287 P), (293, o_293 P), (294, o_294 P), (300, o_300 P), (301, o_301 P), (305, o_305 P), (306, o_306 P), (310, o_310 P), (311, o_311 P), (315, o_315 P), (316, o_316 P), (320, o_320 P), (321, o_321 P), (327, o_327 P), (328, o_328 P), (334, o_334 P), (335, o_335 P), (341, o_341 P), (342, o_342 P), (346, o_346 P), (347, o_347 P)]
noncomputable abbrev KA : List Addr := [2, 3, 27, 28, 30, 31, 32, 35, 36, 37, 38, 39, 40, 41, 42, 43, 44, 45, 46, 47, 48, 61, 62, 64, 65, 66, 67, 75, 76, 82, 83, 89, 90, 91, 95, 96, 100, 101, 105, 106, 112, 113, 117, 118, 131, 132, 138, 139, 145, 146, 152, 153, 159, 160, 166, 167, 173, 174, 180, 181, 187, 188, 194, 195, 201, 202, 208, 209, 211, 212, 213, 214, 222, 223, 229, 230, 236, 237, 243, 244, 250, 251, 257, 258, 262, 263, 269, 270, 274, 275, 281, 282, 286, 287, 293, 294, 300, 301, 305, 306, 310, 311, 315, 316, 320, 321, 327, 328, 334, 335, 341, 342, 346, 347]
end Mine
end
section
open PySem PySem.W PyProof.Rows
namespace Mine
set_option maxRecDepth 100000
set_option maxHeartbeats 0
noncomputable def q1 : Program := { pw with main := { pw.main with body := ([1,4,5,6,7,10,11,12,13,14,15,16,17,18,19,20,21,22,23,24,25,27,28,29,30,31,32,33,34,35,36,37] : List Nat).filterMap fun i => pw.main.body[i]? } }
noncomputable abbrev lo1 : List Str := [Str.ofString "OPERANDS", Str.ofString "LETTERS"]
noncomputable abbrev Xt1 : Shared → Bool := fun s => xlAt q1 [] s && recOk [] s
theorem KAK : ∀ P, KA = (KF P).map (·.1) := fun P => by kernel_rfl
noncomputable abbrev HK1 : Hook := kHook KF KA KAK
theorem open1 : ∀ w : World, (fencedOpening treeTable pw w 4702).map (fun s => (s.heap, s.gens, s.drawn, s.toks)) = some (boot_heap w.params, Array.mk [], boot_drawn, boot_toks) :=
  boot_open (by rfl) (by rfl) (fun s => by rfl)
theorem topRun_q : @PySem.W.topRun = PySem.W.Fast.tw14082659384304107361 := PySem.W.Fast.te14082659384304107361
theorem openSeen_q : @PySem.W.openSeen = PySem.W.Fast.tw4187177175401517315 := PySem.W.Fast.te4187177175401517315
theorem treeTable_q : PySem.treeTable = PySem.W.Fast.tw14364793385576792824 := PySem.W.Fast.te14364793385576792824
noncomputable def topFromQ (p : Program) (w : World) (N : Nat) (s₀ : Shared) : Option Shared :=
  match s₀.heap.isNs mainGlobals && s₀.gens.size == 0 with
  | true => (PySem.W.Fast.tw14082659384304107361 PySem.W.Fast.tw14364793385576792824 p w s₀.heap.objs.size (s₀.heap.nsMap mainGlobals "__annotations__") N s₀ (topStub p)).bind fun s₁ => match staticsOk (importedModules p.main.body) s₀.heap s₁.heap && namesBound p s₁.heap && gensDone s₁ && laidKept s₀.heap s₁.heap with
      | true => some s₁
      | false => none
  | false => none
theorem topFrom_q (p : Program) (w : World) (N : Nat) (s₀ : Shared) : topFrom treeTable p w N s₀ = topFromQ p w N s₀ := by
  unfold topFrom topFromQ
  rw [topRun_q, treeTable_q]
  rfl
theorem runF (w : World) (os : OsState) : (topFromQ pw (w.withFollow "special-get-raises" false) 4702 ⟨boot_heap w.params, Array.mk [], boot_drawn, boot_toks, os⟩).map (fun s => (PySem.W.Fast.tw4187177175401517315 q1 lo1 (importedModules pw.main.body) Xt1 true s, HK1.obs s)) = some (openGood q1 lo1, HK1.val w) := by
  kernel_rfl
theorem runT (w : World) (os : OsState) : (topFromQ pw (w.withFollow "special-get-raises" true) 4702 ⟨boot_heap w.params, Array.mk [], boot_drawn, boot_toks, os⟩).map (fun s => (PySem.W.Fast.tw4187177175401517315 q1 lo1 (importedModules pw.main.body) Xt1 true s, HK1.obs s)) = some (openGood q1 lo1, HK1.val w) := by
  kernel_rfl
theorem left_b (b : Bool) (w : World) (os : OsState) : (topFromQ pw (w.withFollow "special-get-raises" b) 4702 ⟨boot_heap w.params, Array.mk [], boot_drawn, boot_toks, os⟩).map (fun s => (PySem.W.Fast.tw4187177175401517315 q1 lo1 (importedModules pw.main.body) Xt1 true s, HK1.obs s)) = some (openGood q1 lo1, HK1.val w) := by
  cases b
  · exact runF w os
  · exact runT w os
theorem left1 : LeftO pw q1 lo1 Xt1 (Hook.obs HK1) (Hook.val HK1) 4702 := fun w => by
  obtain ⟨⟨h, gs, d, k, os⟩, e, e'⟩ := Option.map_eq_some_iff.mp (open1 w)
  obtain ⟨rfl, rfl, rfl, rfl⟩ : h = boot_heap w.params ∧ gs = Array.mk [] ∧ d = boot_drawn ∧ k = boot_toks := by simpa using e'
  unfold openEnds
  rw [e]
  show (topFrom treeTable pw w 4702 _).map _ = _
  rw [topFrom_q, openSeen_q]
  have := left_b (w.params.followText "special-get-raises") w os
  rwa [World.withFollow_self] at this
end Mine
end
section
open PySem PySem.W PyProof.Rows PySem.Calls
namespace Mine
inductive Obs {α β : Type} (x : Option α) (f : α → Option β) (y : β) : Prop
  | mk (a : α) (e : x = some a) (h : f a = some y) : Obs x f y
theorem obs {α β : Type} {x : Option α} {f : α → Option β} {y : β} (h : x.bind f = some y) : Obs x f y := by
  cases x with
  | none => (first | subst h | cases h)
  | some a => exact ⟨a, rfl, h⟩
theorem obind {α β : Type} {x : Option α} {a : α} {f : α → Option β} {y : Option β} (h : y = x.bind f) (e : x = some a) : y = f a := by subst e; exact h
inductive Ex2 {t0 t1 : Sort _} (p : t0 → t1 → Prop) : Prop
  | mk (a0 : t0) (a1 : t1) (h : p a0 a1) : Ex2 p
inductive Ex3 {t0 t1 t2 : Sort _} (p : t0 → t1 → t2 → Prop) : Prop
  | mk (a0 : t0) (a1 : t1) (a2 : t2) (h : p a0 a1 a2) : Ex3 p
inductive Ex4 {t0 t1 t2 t3 : Sort _} (p : t0 → t1 → t2 → t3 → Prop) : Prop
  | mk (a0 : t0) (a1 : t1) (a2 : t2) (a3 : t3) (h : p a0 a1 a2 a3) : Ex4 p
inductive Ex5 {t0 t1 t2 t3 t4 : Sort _} (p : t0 → t1 → t2 → t3 → t4 → Prop) : Prop
  | mk (a0 : t0) (a1 : t1) (a2 : t2) (a3 : t3) (a4 : t4) (h : p a0 a1 a2 a3 a4) : Ex5 p
inductive Ex6 {t0 t1 t2 t3 t4 t5 : Sort _} (p : t0 → t1 → t2 → t3 → t4 → t5 → Prop) : Prop
  | mk (a0 : t0) (a1 : t1) (a2 : t2) (a3 : t3) (a4 : t4) (a5 : t5) (h : p a0 a1 a2 a3 a4 a5) : Ex6 p
inductive Ex7 {t0 t1 t2 t3 t4 t5 t6 : Sort _} (p : t0 → t1 → t2 → t3 → t4 → t5 → t6 → Prop) : Prop
  | mk (a0 : t0) (a1 : t1) (a2 : t2) (a3 : t3) (a4 : t4) (a5 : t5) (a6 : t6) (h : p a0 a1 a2 a3 a4 a5 a6) : Ex7 p
inductive Ex9 {t0 t1 t2 t3 t4 t5 t6 t7 t8 : Sort _} (p : t0 → t1 → t2 → t3 → t4 → t5 → t6 → t7 → t8 → Prop) : Prop
  | mk (a0 : t0) (a1 : t1) (a2 : t2) (a3 : t3) (a4 : t4) (a5 : t5) (a6 : t6) (a7 : t7) (a8 : t8) (h : p a0 a1 a2 a3 a4 a5 a6 a7 a8) : Ex9 p
inductive An3 (p0 p1 p2 : Prop) : Prop
  | mk (h0 : p0) (h1 : p1) (h2 : p2) : An3 p0 p1 p2
inductive An4 (p0 p1 p2 p3 : Prop) : Prop
  | mk (h0 : p0) (h1 : p1) (h2 : p2) (h3 : p3) : An4 p0 p1 p2 p3
inductive An5 (p0 p1 p2 p3 p4 : Prop) : Prop
  | mk (h0 : p0) (h1 : p1) (h2 : p2) (h3 : p3) (h4 : p4) : An5 p0 p1 p2 p3 p4
inductive An6 (p0 p1 p2 p3 p4 p5 : Prop) : Prop
  | mk (h0 : p0) (h1 : p1) (h2 : p2) (h3 : p3) (h4 : p4) (h5 : p5) : An6 p0 p1 p2 p3 p4 p5
inductive An8 (p0 p1 p2 p3 p4 p5 p6 p7 : Prop) : Prop
  | mk (h0 : p0) (h1 : p1) (h2 : p2) (h3 : p3) (h4 : p4) (h5 : p5) (h6 : p6) (h7 : p7) : An8 p0 p1 p2 p3 p4 p5 p6 p7
inductive An9 (p0 p1 p2 p3 p4 p5 p6 p7 p8 : Prop) : Prop
  | mk (h0 : p0) (h1 : p1) (h2 : p2) (h3 : p3) (h4 : p4) (h5 : p5) (h6 : p6) (h7 : p7) (h8 : p8) : An9 p0 p1 p2 p3 p4 p5 p6 p7 p8
inductive An10 (p0 p1 p2 p3 p4 p5 p6 p7 p8 p9 : Prop) : Prop
  | mk (h0 : p0) (h1 : p1) (h2 : p2) (h3 : p3) (h4 : p4) (h5 : p5) (h6 : p6) (h7 : p7) (h8 : p8) (h9 : p9) : An10 p0 p1 p2 p3 p4 p5 p6 p7 p8 p9
inductive An13 (p0 p1 p2 p3 p4 p5 p6 p7 p8 p9 p10 p11 p12 : Prop) : Prop
  | mk (h0 : p0) (h1 : p1) (h2 : p2) (h3 : p3) (h4 : p4) (h5 : p5) (h6 : p6) (h7 : p7) (h8 : p8) (h9 : p9) (h10 : p10) (h11 : p11) (h12 : p12) : An13 p0 p1 p2 p3 p4 p5 p6 p7 p8 p9 p10 p11 p12

structure Gh where
  w : World
  H : Heap
  os : OsState
noncomputable abbrev Gh.M (G : Gh) : Model := model pw G.w

structure Base (w : World) (g : Heap) : Prop where
  X : (KF w.params).In g
  T : Ex5 fun p loose mean mg mb => Top p loose mean mg mb g

noncomputable def Up (g g' : Heap) : Prop := ∀ b o, g.get? b = some o → g'.get? b = some o
theorem Up.rfl {g : Heap} : Up g g := fun zz zz e => e
theorem Up.trans {g g' g'' : Heap} (a : Up g g') (b : Up g' g'') : Up g g'' := fun x o e => b x o (a x o e)

structure Gl (G : Gh) (g : Heap) (mu : List (Addr × Obj)) (s : Shared) : Prop where
  base : Base G.w G.H
  upH : Up G.H g
  up : Up g s.heap
  mus : ∀ p ∈ mu, s.heap.get? p.1 = some p.2 ∧ g.get? p.1 = none
  nd : (mu.map (·.1)).Nodup
  gens : s.gens = #[]
  os : s.os = G.os

inductive Loc (env : Env) (m : Str → Option Value) (o : Obj) : Prop
  | mk (es : Array DictEntry) (ep : Nat) (e : o.data = .dict es ep) (k : StrKeys es) (h : ∀ name, env.kindOf name = some .local → nsFind es name = m name) : Loc env m o

structure Cx where
  G : Gh
  A : Around
  env : Env
  g : Heap
  m : Str → Option Value
  mu : List (Addr × Obj)

inductive At (c : Cx) (s : Shared) : Prop
  | mk (oL : Obj) (co : List (Addr × Obj)) (l : Loc c.env c.m oL) (k : CellsAre c.m c.env.cells co) (g : Gl c.G c.g ((c.env.locals, oL) :: (co ++ c.mu)) s) : At c s

section
variable {G : Gh} {g : Heap} {mu : List (Addr × Obj)} {s : Shared}
theorem Gl.X (H : Gl G g mu s) : (KF G.w.params).In s.heap := (H.base.X.keeps H.upH).keeps H.up
theorem Gl.toks (H : Gl G g mu s) (t : Nat) : Gl G g mu { s with toks := t } := ⟨H.base, H.upH, H.up, H.mus, H.nd, H.gens, H.os⟩
theorem Gl.perm {mu' : List (Addr × Obj)} (p : mu.Perm mu') (H : Gl G g mu s) : Gl G g mu' s :=
  ⟨H.base, H.upH, H.up, fun q hq => H.mus q (p.mem_iff.mpr hq), (p.map (·.1)).nodup_iff.mp H.nd, H.gens, H.os⟩
theorem Gl.drop {p : Addr × Obj} (H : Gl G g (p :: mu) s) : Gl G g mu s :=
  ⟨H.base, H.upH, H.up, fun q hq => H.mus q (.tail _ hq), (List.nodup_cons.mp H.nd).2, H.gens, H.os⟩
theorem Gl.get {a : Addr} {o : Obj} (H : Gl G g mu s) (hm : (a, o) ∈ mu) : s.heap.get? a = some o := (H.mus _ hm).1
theorem Gl.alloc {o : Obj} (H : Gl G g mu s) (hf : o.isFreed = false := by rfl) : Gl G g ((s.heap.objs.size, o) :: mu) { s with heap := s.heap.push o } := by
  have fresh : ∀ p ∈ mu, p.1 ≠ s.heap.objs.size := fun p hp => Nat.ne_of_lt (Heap.lt_size (H.mus p hp).1)
  have gs : ∀ b o', g.get? b = some o' → b < s.heap.objs.size := fun b o' e => Heap.lt_size (H.up b o' e)
  refine ⟨H.base, H.upH, fun b o' e => Heap.get?_push_of_some _ (H.up b o' e), fun p hp => ?_, ?_, H.gens, H.os⟩
  · rcases List.mem_cons.mp hp with rfl | hp
    · refine ⟨Heap.get?_push_size _ hf, ?_⟩
      cases q : g.get? s.heap.objs.size with
      | none => rfl
      | some o' => exact absurd (gs _ _ q) (Nat.lt_irrefl _)
    · exact ⟨Heap.get?_push_of_some _ (H.mus p hp).1, (H.mus p hp).2⟩
  · exact List.nodup_cons.mpr ⟨fun hm => by obtain ⟨p, hp, e⟩ := List.mem_map.mp hm; exact fresh p hp e, H.nd⟩
theorem Gl.same {a : Addr} {o o' : Obj} {h' : Heap} (H : Gl G g ((a, o) :: mu) s) (hs : Heap.SameBut a s.heap h') (ha : h'.get? a = some o') (t : Nat) : Gl G g ((a, o') :: mu) { s with heap := h', toks := t } := by
  have m0 := H.mus (a, o) (.head _)
  have nd := List.nodup_cons.mp H.nd
  refine ⟨H.base, H.upH, fun b x e => (hs.2 b fun q => ?_).trans (H.up b x e), fun p hp => ?_, H.nd, H.gens, H.os⟩
  · rw [q, m0.2] at e; (first | subst e | cases e)
  · rcases List.mem_cons.mp hp with rfl | hp
    · exact ⟨ha, m0.2⟩
    · have := H.mus p (.tail _ hp)
      exact ⟨(hs.2 p.1 fun q => nd.1 (q ▸ by have := List.mem_map_of_mem (f := Prod.fst) hp; exact this)).trans this.1, this.2⟩
theorem Gl.update {a : Addr} {o : Obj} (f : Obj → Obj) (H : Gl G g ((a, o) :: mu) s) (hf : (f o).isFreed = false) : Gl G g ((a, f o) :: mu) { s with heap := s.heap.update a f } :=
  H.same (.update ..) (Heap.get?_update_self _ (H.mus _ (.head _)).1 hf) s.toks

theorem Gl.freeze {a : Addr} {o : Obj} (H : Gl G g ((a, o) :: mu) s) : ∃ g', An3 (Up g g') (g'.get? a = some o) (Gl G g' mu s) := by
  have nd := List.nodup_cons.mp H.nd
  have hup : Up g (hideAll s.heap (mu.map (·.1))) := fun b x e => hideAll_get _ (H.up b x e) fun hm => by
    obtain ⟨p, hp, q⟩ := List.mem_map.mp hm
    have := (H.mus p (.tail _ hp)).2
    rw [q, e] at this; cases this
  refine ⟨hideAll s.heap (mu.map (·.1)), hup, hideAll_get _ (H.mus _ (.head _)).1 nd.1, H.base, H.upH.trans hup, fun b x e => of_hideAll _ e, fun p hp => ?_, nd.2, H.gens, H.os⟩
  have := H.mus p (.tail _ hp)
  exact ⟨this.1, hideAll_none _ (List.mem_map_of_mem hp)⟩

end

section
variable {G : Gh} {g : Heap} {mu : List (Addr × Obj)} {s : Shared}
theorem Gl.keeps {h' : Heap} (H : Gl G g mu s) (hk : ∀ b o, s.heap.get? b = some o → h'.get? b = some o) (t : Nat) : Gl G g mu { s with heap := h', toks := t } :=
  ⟨H.base, H.upH, fun b o e => hk b o (H.up b o e), fun p hp => ⟨hk _ _ (H.mus p hp).1, (H.mus p hp).2⟩, H.nd, H.gens, H.os⟩
theorem Gl.settle (H : Gl G g mu s) : ∃ g', An3 (Up g g') ((∀ b o, s.heap.get? b = some o → b ∉ mu.map (·.1) → g'.get? b = some o)) (Gl G g' mu s) := by
  have hup : Up g (hideAll s.heap (mu.map (·.1))) := fun b x e => hideAll_get _ (H.up b x e) fun hm => by
    obtain ⟨p, hp, q⟩ := List.mem_map.mp hm
    have := (H.mus p hp).2
    rw [q, e] at this; cases this
  refine ⟨hideAll s.heap (mu.map (·.1)), hup, fun b o e n => hideAll_get _ e n, H.base, H.upH.trans hup, fun b x e => of_hideAll _ e, fun p hp => ?_, H.nd, H.gens, H.os⟩
  have := H.mus p hp
  exact ⟨this.1, hideAll_none _ (List.mem_map_of_mem hp)⟩
theorem Gl.change {μ r : List (Addr × Obj)} {h' : Heap} (H : Gl G g (μ ++ r) s) (hk : ∀ b o, b ∉ μ.map (·.1) → s.heap.get? b = some o → h'.get? b = some o)
    (hn : ∀ b ∈ μ.map (·.1), ∃ o, h'.get? b = some o) (t : Nat) : ∃ μ', μ'.map (·.1) = μ.map (·.1) ∧ Gl G g (μ' ++ r) { s with heap := h', toks := t } := by
  have nd : ((μ ++ r).map (·.1)).Nodup := H.nd
  rw [List.map_append, List.nodup_append] at nd
  obtain ⟨μ', e1, e2⟩ : ∃ μ' : List (Addr × Obj), μ'.map (·.1) = μ.map (·.1) ∧ ∀ p ∈ μ', h'.get? p.1 = some p.2 := by
    clear H nd hk
    induction μ with
    | nil => exact ⟨[], rfl, fun zz h => (nomatch h)⟩
    | cons p μ ih =>
      obtain ⟨μ', a1, a2⟩ := ih fun b hb => hn b (.tail _ hb)
      obtain ⟨o, ho⟩ := hn p.1 (.head _)
      refine ⟨(p.1, o) :: μ', by simp [a1], fun q hq => ?_⟩
      rcases List.mem_cons.mp hq with rfl | hq
      · exact ho
      · exact a2 q hq
  have far : ∀ p ∈ r, h'.get? p.1 = some p.2 := fun p hp => hk _ _ (fun hm => nd.2.2 _ hm _ (List.mem_map_of_mem hp) rfl) (H.mus p (List.mem_append_right _ hp)).1
  refine ⟨μ', e1, H.base, H.upH, fun b o e => hk b o (fun hm => ?_) (H.up b o e), fun p hp => ?_, ?_, H.gens, H.os⟩
  · obtain ⟨p, hp, q⟩ := List.mem_map.mp hm
    have := (H.mus p (List.mem_append_left _ hp)).2
    rw [q, e] at this; cases this
  · rcases List.mem_append.mp hp with hp | hp
    · have hm : p.1 ∈ μ.map (·.1) := e1 ▸ List.mem_map_of_mem hp
      obtain ⟨q, hq, e⟩ := List.mem_map.mp hm
      have := H.mus q (List.mem_append_left _ hq)
      rw [e] at this
      exact ⟨e2 p hp, this.2⟩
    · exact ⟨far p hp, (H.mus p (List.mem_append_right _ hp)).2⟩
  · rw [List.map_append, e1, ← List.map_append]; exact H.nd
theorem Gl.fresh (H : Gl G g mu s) {a : Addr} (ha : s.heap.get? a = none) : a ∉ mu.map (·.1) := fun hm => by
  obtain ⟨p, hp, rfl⟩ := List.mem_map.mp hm
  rw [(H.mus p hp).1] at ha; cases ha
theorem Gl.dropR {μ r : List (Addr × Obj)} (H : Gl G g (μ ++ r) s) : Gl G g μ s :=
  ⟨H.base, H.upH, H.up, fun p hp => H.mus p (List.mem_append_left _ hp), by have := H.nd; rw [List.map_append] at this; exact (List.nodup_append.mp this).1, H.gens, H.os⟩
theorem Gl.dropL {μ r : List (Addr × Obj)} (H : Gl G g (μ ++ r) s) : Gl G g r s := by
  induction μ with
  | nil => exact H
  | cons p μ ih => exact ih H.drop
end

section
variable {c : Cx} {s : Shared}
theorem At.toks (H : At c s) (t : Nat) : At c { s with toks := t } := let ⟨o, co, l, k, g⟩ := H; ⟨o, co, l, k, g.toks t⟩
theorem At.X (H : At c s) : (KF c.G.w.params).In s.heap := let ⟨_, _, _, _, g⟩ := H; g.X
theorem At.up (H : At c s) : Up c.g s.heap := let ⟨_, _, _, _, g⟩ := H; g.up
theorem At.get {a : Addr} {o : Obj} (H : At c s) (hm : (a, o) ∈ c.mu) : s.heap.get? a = some o := let ⟨_, _, _, _, g⟩ := H; (g.mus _ (.tail _ (List.mem_append_right _ hm))).1
theorem At.top (H : At c s) : Ex5 fun p loose mean mg mb => Top p loose mean mg mb s.heap := by
  obtain ⟨_, _, _, _, g⟩ := H
  obtain ⟨p, l, me, mg, mb, T⟩ := g.base.T
  exact ⟨p, l, me, mg, mb, T.keeps fun b o e => g.up _ _ (g.upH _ _ e)⟩
theorem At.ns (H : At c s) : ∃ m', s.heap.Ns c.env.locals m' ∧ ∀ x, c.env.kindOf x = some .local → m' x = c.m x := by
  obtain ⟨oL, co, ⟨es, ep, h1, h2, h3⟩, _, g⟩ := H
  exact ⟨nsFind es, ⟨_, es, ep, (g.mus _ (.head _)).1, h1, h2, fun zz => rfl⟩, h3⟩
theorem At.perm {mu' : List (Addr × Obj)} (H : At c s) (p : c.mu.Perm mu') : At { c with mu := mu' } s :=
  let ⟨o, co, l, k, g⟩ := H; ⟨o, co, l, k, g.perm ((p.append_left co).cons _)⟩
theorem perm_front {α : Type} (x : α) (a b : List α) (y : α) : List.Perm (x :: (a ++ y :: b)) (y :: x :: (a ++ b)) :=
  (List.Perm.cons x List.perm_middle).trans (.swap ..)
theorem perm_frontL {α : Type} (x : α) (a m b : List α) : List.Perm (x :: (a ++ (m ++ b))) (m ++ x :: (a ++ b)) := by
  induction m with
  | nil => exact .refl _
  | cons y m ih =>
    refine (perm_front x a (m ++ b) y).trans ?_
    exact ih.cons y
theorem At.gl (H : At c s) : Gl c.G c.g c.mu s := let ⟨_, co, _, _, g⟩ := H; (g.drop).dropL
theorem At.drop {p : Addr × Obj} {r : List (Addr × Obj)} (H : At c s) (e : c.mu = p :: r := by rfl) : At { c with mu := r } s := by
  obtain ⟨o, co, l, k, g⟩ := H
  rw [e] at g
  exact ⟨o, co, l, k, (g.perm (perm_front ..)).drop⟩
theorem At.freeze {a : Addr} {o : Obj} {r : List (Addr × Obj)} (H : At c s) (e : c.mu = (a, o) :: r := by rfl) : ∃ g', An3 (Up c.g g') (g'.get? a = some o) (At { c with g := g', mu := r } s) := by
  obtain ⟨oL, co, l, k, g⟩ := H
  rw [e] at g
  obtain ⟨g', u, h, G'⟩ := (g.perm (perm_front ..)).freeze
  exact ⟨g', u, h, oL, co, l, k, G'⟩
theorem At.settle (H : At c s) : ∃ g', An3 (Up c.g g') ((∀ b o, s.heap.get? b = some o → (∀ p ∈ c.mu, p.1 ≠ b) → b ≠ c.env.locals → (∀ p ∈ c.env.cells, p.2 ≠ b) → g'.get? b = some o)) (At { c with g := g' } s) := by
  obtain ⟨oL, co, l, k, g⟩ := H
  obtain ⟨g', u, h, G'⟩ := g.settle
  refine ⟨g', u, fun b o e n1 n2 n3 => h b o e fun hm => ?_, oL, co, l, k, G'⟩
  simp only [List.map_cons, List.map_append, List.mem_cons, List.mem_append, List.mem_map] at hm
  have hc : ∀ {cl co}, CellsAre c.m cl co → ∀ p ∈ co, ∃ q ∈ cl, q.2 = p.1 := by
    intro cl co x
    induction x with
    | nil => intro p hp; exact (nomatch hp)
    | cons _ _ ih =>
      intro p hp
      rcases List.mem_cons.mp hp with rfl | hp
      · exact ⟨_, .head _, rfl⟩
      · obtain ⟨q, hq, e⟩ := ih p hp; exact ⟨q, .tail _ hq, e⟩
  rcases hm with hm | ⟨p, hp, e⟩ | ⟨p, hp, e⟩
  · exact n2 hm
  · obtain ⟨q, hq, e'⟩ := hc k p hp; exact n3 q hq (e'.trans e)
  · exact n1 p hp e
theorem At.grows {h' : Heap} (H : At c s) (hk : ∀ b o, s.heap.get? b = some o → h'.get? b = some o) (t : Nat) :
    ∃ g', An3 (Up c.g g') ((∀ b o, h'.get? b = some o → s.heap.get? b = none → g'.get? b = some o)) (At { c with g := g' } { s with heap := h', toks := t }) := by
  obtain ⟨oL, co, l, k, g⟩ := H
  obtain ⟨g', u, h, G'⟩ := (g.keeps hk t).settle
  exact ⟨g', u, fun b o e n => h b o e (g.fresh n), oL, co, l, k, G'⟩
theorem At.keeps {h' : Heap} (H : At c s) (hk : ∀ b o, s.heap.get? b = some o → h'.get? b = some o) (t : Nat) : At c { s with heap := h', toks := t } := by
  obtain ⟨oL, co, l, k, g⟩ := H
  exact ⟨oL, co, l, k, g.keeps hk t⟩
theorem At.push (H : At c s) (ob : Obj) : At c { s with heap := s.heap.push ob } := H.keeps (fun zz zz e => Heap.get?_push_of_some _ e) s.toks
theorem At.alloc {o : Obj} (H : At c s) (hf : o.isFreed = false := by rfl) : At { c with mu := (s.heap.objs.size, o) :: c.mu } { s with heap := s.heap.push o } := by
  obtain ⟨oL, co, l, k, g⟩ := H
  exact ⟨oL, co, l, k, (g.alloc hf).perm (perm_front ..).symm⟩
theorem At.same {a : Addr} {o o' : Obj} {h' : Heap} {r : List (Addr × Obj)} (H : At { c with mu := (a, o) :: r } s) (hs : Heap.SameBut a s.heap h') (ha : h'.get? a = some o') (t : Nat) :
    At { c with mu := (a, o') :: r } { s with heap := h', toks := t } := by
  obtain ⟨oL, co, l, k, g⟩ := H
  exact ⟨oL, co, l, k, ((g.perm (perm_front ..)).same hs ha t).perm (perm_front ..).symm⟩
theorem At.update {a : Addr} {o : Obj} {r : List (Addr × Obj)} (f : Obj → Obj) (H : At { c with mu := (a, o) :: r } s) (hf : (f o).isFreed = false) :
    At { c with mu := (a, f o) :: r } { s with heap := s.heap.update a f } := by
  obtain ⟨oL, co, l, k, g⟩ := H
  exact ⟨oL, co, l, k, ((g.perm (perm_front ..)).update f hf).perm (perm_front ..).symm⟩
theorem At.change {μ r : List (Addr × Obj)} {h' : Heap} (H : At { c with mu := μ ++ r } s) (hk : ∀ b o, b ∉ μ.map (·.1) → s.heap.get? b = some o → h'.get? b = some o)
    (hn : ∀ b ∈ μ.map (·.1), ∃ o, h'.get? b = some o) (t : Nat) : ∃ μ', μ'.map (·.1) = μ.map (·.1) ∧ At { c with mu := μ' ++ r } { s with heap := h', toks := t } := by
  obtain ⟨oL, co, l, k, g⟩ := H
  obtain ⟨μ', e, g'⟩ := (g.perm (perm_frontL ..)).change hk hn t
  exact ⟨μ', e, oL, co, l, k, g'.perm (perm_frontL ..).symm⟩
theorem At.fresh (H : At c s) {a : Addr} (ha : s.heap.get? a = none) : ∀ p ∈ c.mu, p.1 ≠ a := fun p hp e => H.gl.fresh ha (e ▸ List.mem_map_of_mem hp)
end

noncomputable def VI (i : Int) (v : Value) : Prop := ∃ t, v = .int i t
noncomputable def VS (x : Str) (v : Value) : Prop := ∃ t, v = .str x t
noncomputable def VE (u v : Value) : Prop := v = u

noncomputable def PE (c : Cx) (e : PySem.Expr) (P : Value → Prop) : Prop :=
  ∀ s Q E, At c s → (∀ v s', P v → At c s' → Q v s') → wpAny c.G.M c.A (eval e c.env) Q E s
noncomputable def PT (c : Cx) (e : PySem.Expr) (b : Bool) : Prop :=
  ∀ s Q E, At c s → (∀ s', At c s' → Q b s') → wpAny c.G.M c.A (isTrue e c.env (eval e c.env)) Q E s

noncomputable def varOK (env : Env) (x : Str) : Bool := decide (env.scope.kind = .function) && !(x == ("__debug__" : Str)) && !(x == ("__classdict__" : Str)) &&
  (env.scope.names.lookup x == some .local || ((env.scope.names.lookup x == some .cell || env.scope.names.lookup x == some .free) && (env.cells.lookup x).isSome))
noncomputable def nodupB : List Str → Bool
  | [] => true
  | x :: r => !r.contains x && nodupB r
noncomputable def stOK (env : Env) (x : Str) : Bool := decide (env.scope.kind = .function) &&
  ((env.scope.names.lookup x == some .local && env.cells.all (fun p => !(p.1 == x))) || (env.scope.names.lookup x == some .cell && (env.cells.lookup x).isSome && nodupB (env.cells.map (·.1))))
noncomputable def gloOK (sc : Scope) (x : Str) : Bool := decide (sc.kind = .function) && sc.names.lookup x == some .globalImplicit && !(x == ("__debug__" : Str))

theorem cells_find {m : Str → Option Value} {x : Str} {a : Addr} : ∀ {cl co}, CellsAre m cl co → cl.lookup x = some a → ∃ o, (a, o) ∈ co ∧ o.data = .cell (m x)
  | _, _, .nil, e => (nomatch e)
  | _, _, .cons (n := n) (c := c) (o := o) h r, e => by
    rw [List.lookup_cons] at e
    cases hb : x == n with
    | true =>
      rw [hb] at e; (first | subst e | cases e)
      rw [beq_iff_eq.mp hb]
      exact ⟨_, .head _, h⟩
    | false =>
      rw [hb] at e
      obtain ⟨o', h1, h2⟩ := cells_find r e
      exact ⟨o', .tail _ h1, h2⟩

section
variable {c : Cx}
theorem gloOK_of {sc : Scope} {x : Str} (h : gloOK sc x = true) : sc.kind = .function ∧ sc.names.lookup x = some .globalImplicit ∧ (x == ("__debug__" : Str)) = false := by
  simp only [gloOK, Bool.and_eq_true, decide_eq_true_eq, beq_iff_eq, Bool.not_eq_true'] at h
  exact ⟨h.1.1, h.1.2, h.2⟩
theorem pe_local {x : Str} {pos : Pos} {v : Value} (hl : varOK c.env x = true) (hv : c.m x = some v) : PE c (.Name x pos) (VE v) := fun s Q E H k => by
  simp only [varOK, Bool.and_eq_true, decide_eq_true_eq, beq_iff_eq, Bool.not_eq_true', Bool.or_eq_true] at hl
  obtain ⟨⟨⟨h1, h3⟩, h4⟩, hl⟩ := hl
  rcases hl with h2 | ⟨h2, h5⟩
  · obtain ⟨m', hn, hm⟩ := H.ns
    exact wpAny_Name (wpAny_loadName_local h1 h2 hn ((hm x h2).trans hv) (k v s rfl H)) h3
  · obtain ⟨ca, hca⟩ := Option.isSome_iff_exists.mp h5
    obtain ⟨oL, co, l, kk, g⟩ := id H
    obtain ⟨o, ho, hd⟩ := cells_find kk hca
    have hv' : s.heap.IsCell ca (some v) := ⟨o, (g.mus _ (.tail _ (List.mem_append_left _ ho))).1, by rw [hd, hv]⟩
    rcases h2 with h2 | h2
    · exact wpAny_Name (wpAny_loadName_cell h1 h2 hca hv' (k v s rfl H)) h3
    · exact wpAny_Name (wpAny_loadName_free h1 h2 hca hv' (k v s rfl H) h4) h3
theorem pe_glob {x : Str} {pos : Pos} {v : Value} (hl : gloOK c.env.scope x = true) (hg : c.env.globals = mainGlobals) (hv : nsIn (KF c.G.w.params) mainGlobals x = some (some v)) : PE c (.Name x pos) (VE v) := fun s Q E H k => by
  obtain ⟨h1, h2, h3⟩ := gloOK_of hl
  obtain ⟨_, _, _, mg, _, T⟩ := H.top
  exact Name_function_global h1 h2 (loadGlobal_global (hg ▸ T.g) (mg_of H.X T.g hv) (k v s rfl H)) h3
theorem pe_boot {x : Str} {pos : Pos} {v : Value} (hl : gloOK c.env.scope x = true) (hg : c.env.globals = mainGlobals) (hb : c.env.builtins = builtinsNs) (hv : nsIn (KF c.G.w.params) mainGlobals x = some none)
    (hn : x ≠ "__name__") (hbb : bootBuiltins x = some v) : PE c (.Name x pos) (VE v) := fun s Q E H k => by
  obtain ⟨h1, h2, h3⟩ := gloOK_of hl
  obtain ⟨_, _, _, mg, _, T⟩ := H.top
  exact Name_function_global h1 h2 (loadGlobal_builtin (hg ▸ T.g) (mg_none_of H.X T.g hv) (hb ▸ T.b) ((T.builtins x hn).trans hbb) (k v s rfl H)) h3
noncomputable def bootName (sc : Scope) (K : Frag) (x : Str) : Bool := gloOK sc x && nsIn K mainGlobals x == some none && !(x == ("__name__" : Str))
theorem pe_bootN {x : Str} {pos : Pos} {v : Value} (hbb : bootBuiltins x = some v) (h : bootName c.env.scope (KF c.G.w.params) x = true) (hg : c.env.globals = mainGlobals := by rfl) (hb : c.env.builtins = builtinsNs := by rfl) : PE c (.Name x pos) (VE v) := by
  simp only [bootName, Bool.and_eq_true, beq_iff_eq, Bool.not_eq_true', beq_eq_false_iff_ne, ne_eq] at h
  exact pe_boot h.1.1 hg hb h.1.2 h.2 hbb
theorem pe_int {i : Int} {n : Nat} {pos : Pos} : PE c (.Constant (.int i) n pos) (VI i) := fun s Q E H k => by
  show wpAny _ _ (mkInt i) _ _ _
  exact wpAny_mkInt (k _ _ ⟨_, rfl⟩ (H.toks _))
theorem pe_str {x : Str} {n : Nat} {pos : Pos} : PE c (.Constant (.str x) n pos) (VS x) := fun s Q E H k => by
  show wpAny _ _ (mkText x) _ _ _
  exact wpAny_mkText (k _ _ ⟨_, rfl⟩ (H.toks _))
theorem pe_bool {b : Bool} {n : Nat} {pos : Pos} : PE c (.Constant (.bool b) n pos) (VE (.bool b)) := fun s Q E H k => wpAny_pure (k _ _ rfl H)
theorem pe_none {n : Nat} {pos : Pos} : PE c (.Constant .none n pos) (VE .none) := fun s Q E H k => wpAny_pure (k _ _ rfl H)
theorem PE.mono {e : PySem.Expr} {P P' : Value → Prop} (h : PE c e P) (i : ∀ v, P v → P' v) : PE c e P' := fun s Q E H k => h s Q E H fun v s' p => k v s' (i v p)
end

noncomputable abbrev put (m : Str → Option Value) (x : Str) (v : Value) : Str → Option Value := fun y => if y = x then some v else m y
noncomputable abbrev Cx.put (c : Cx) (x : Str) (v : Value) : Cx := { c with m := Mine.put c.m x v }
noncomputable abbrev loc (binds : List (Str × Value)) : Str → Option Value := fun x => binds.reverse.lookup x
theorem put_put (m : Str → Option Value) (x : Str) (u v : Value) : put (put m x u) x v = put m x v := by
  funext y
  simp only [put]
  by_cases h : y = x <;> simp [h]

theorem cells_put {m : Str → Option Value} {x : Str} {v : Value} : ∀ {cl co}, CellsAre m cl co → (∀ p ∈ cl, p.1 ≠ x) → CellsAre (Mine.put m x v) cl co
  | _, _, .nil, _ => .nil
  | _, _, .cons (n := n) h r, hn => .cons (by rw [h]; simp [Mine.put, hn (n, _) (.head _)]) (cells_put r fun p hp => hn p (.tail _ hp))
theorem cells_set {m : Str → Option Value} {x : Str} {v : Value} {a : Addr} : ∀ {cl co}, CellsAre m cl co → nodupB (cl.map (·.1)) = true → cl.lookup x = some a →
    Ex3 fun o p q => An3 (co = p ++ (a, o) :: q) (o.data = .cell (m x)) (∀ o', o'.data = .cell (some v) → CellsAre (Mine.put m x v) cl (p ++ (a, o') :: q))
  | _, _, .nil, _, e => (nomatch e)
  | _, _, .cons (n := n) (c := ca) (o := o) (cs := cs) (cells := cells) h r, hnd, e => by
    simp only [List.map_cons, nodupB, Bool.and_eq_true, Bool.not_eq_true', List.contains_eq_mem, decide_eq_false_iff_not] at hnd
    rw [List.lookup_cons] at e
    cases hb : x == n with
    | true =>
      rw [hb] at e; (first | subst e | cases e)
      have hx := beq_iff_eq.mp hb
      subst hx
      refine ⟨o, [], cells, rfl, h, fun o' ho' => .cons (by simp [Mine.put, ho']) (cells_put r fun p hp => ?_)⟩
      intro q
      exact hnd.1 (List.mem_map.mpr ⟨p, hp, q⟩)
    | false =>
      rw [hb] at e
      obtain ⟨o₁, p, q, rfl, h1, h2⟩ := cells_set (v := v) r hnd.2 e
      refine ⟨o₁, (ca, o) :: p, q, rfl, h1, fun o' ho' => .cons ?_ (h2 o' ho')⟩
      have : n ≠ x := fun q => by rw [q] at hb; simp at hb
      simp [Mine.put, this, h]

section
variable {c : Cx} {s : Shared} {E : Value → Shared → Prop}
theorem At.store {x : Str} {v : Value} {U : Unit → Shared → Prop} (H : At c s) (hl : stOK c.env x = true) (k : ∀ s', At (c.put x v) s' → U () s') :
    wpAny c.G.M c.A (storeName c.env x v) U E s := by
  simp only [stOK, Bool.and_eq_true, decide_eq_true_eq, beq_iff_eq, Bool.or_eq_true, List.all_eq_true, Bool.not_eq_true', beq_eq_false_iff_ne, ne_eq] at hl
  obtain ⟨h1, hl⟩ := hl
  rcases hl with ⟨h2, h3⟩ | ⟨⟨h2, h3⟩, h4⟩
  · obtain ⟨m', hn', hm'⟩ := H.ns
    refine wpAny_storeName_local h2 hn' (fun h' hn hs => k _ ?_) (by rw [h1]; rfl)
    obtain ⟨oL, co, l, kk, g⟩ := H
    obtain ⟨o', es, ep, e1, e2, e3, e4⟩ := hn
    refine ⟨o', co, ⟨es, ep, e2, e3, fun name hnm => ?_⟩, cells_put kk h3, g.same hs e1 _⟩
    rw [e4]
    show (if name = x then some v else m' name) = Mine.put c.m x v name
    simp only [Mine.put]
    split
    · rfl
    · exact hm' _ hnm
  · obtain ⟨ca, hca⟩ := Option.isSome_iff_exists.mp h3
    obtain ⟨oL, co, l, kk, g⟩ := H
    obtain ⟨o, p, q, rfl, hd, hset⟩ := cells_set (v := v) kk h4 hca
    have g1 : Gl c.G c.g ((ca, o) :: (c.env.locals, oL) :: (p ++ (q ++ c.mu))) s := g.perm (by
      rw [List.append_assoc]
      exact perm_front ..)
    refine wpAny_storeName_cell h1 h2 hca ⟨o, (g1.mus _ (.head _)).1, hd⟩ fun h' hv hs => k _ ?_
    obtain ⟨o', ho', hd'⟩ := hv
    obtain ⟨es, ep, e1, e2, e3⟩ := l
    refine ⟨oL, p ++ (ca, o') :: q, ⟨es, ep, e1, e2, fun name hnm => ?_⟩, hset o' hd', ((g1.same hs ho' s.toks).perm ?_)⟩
    · have : name ≠ x := fun z => by
        rw [z] at hnm
        have := hnm.symm.trans h2
        cases this
      rw [e3 name hnm]
      simp [Mine.put, this]
    · rw [List.append_assoc]
      exact (perm_front ..).symm
end
end Mine
end
section
open PySem PySem.W PyProof.Rows PySem.Calls PySem.Builtin PySem.Builtin.Str
namespace Mine

noncomputable abbrev S (l : List Nat) : Str := ⟨l.toArray⟩
noncomputable def cs (x : String) : List Nat := (Str.ofString x).cps.toList
theorem S_cs (x : String) : S (cs x) = Str.ofString x := by
  unfold cs S
  rfl
theorem S_len (l : List Nat) : (S l).length = l.length := by simp [Str.length]
theorem S_inj {a b : List Nat} : S a = S b ↔ a = b := ⟨fun h => by have := congrArg (fun x : Str => x.cps.toList) h; simpa using this, fun h => by rw [h]⟩
theorem S_append (a b : List Nat) : S a ++ S b = S (a ++ b) := by
  show Str.mk _ = _
  simp [Str.append, S]
noncomputable def VT (l : List Nat) (v : Value) : Prop := ∃ t, v = .str (S l) t

theorem filterMap_plus (l : List Nat) (a n : Nat) (h : a + n ≤ l.length) : ((List.range n).map (fun k => a + k)).filterMap (fun i => l[i]?) = (l.drop a).take n := by
  induction n with
  | zero => simp
  | succ n ih =>
    rw [List.range_succ, List.map_append, List.filterMap_append, ih (by omega), List.take_add_one, List.getElem?_drop]
    have : a + n < l.length := by omega
    simp [List.getElem?_eq_getElem this]
theorem one_pos : ((1 : Int) > 0) = True := eq_true (by decide)
theorem not_neg (n : Nat) : ((n : Int) < 0) = False := eq_false (Int.not_lt.mpr (Int.natCast_nonneg n))
theorem clip_nat (a len : Nat) : max (0 : Int) (min (a : Int) (len : Int)) = ((min a len : Nat) : Int) := by
  rcases Nat.le_total a len with h | h
  · rw [Nat.min_eq_left h, Int.min_eq_left (Int.ofNat_le.mpr h), Int.max_eq_right (Int.natCast_nonneg a)]
  · rw [Nat.min_eq_right h, Int.min_eq_right (Int.ofNat_le.mpr h), Int.max_eq_right (Int.natCast_nonneg len)]
theorem idx_clip (a b len : Nat) : strSliceIndices (some (a : Int)) (some (b : Int)) 1 len = strSliceIndices (some ((min a len : Nat) : Int)) (some ((min b len : Nat) : Int)) 1 len := by
  simp only [strSliceIndices, not_neg, if_false, one_pos, if_true, clip_nat, Nat.min_eq_left (Nat.min_le_right _ _)]
theorem idx_none_lo (b : Option Int) (len : Nat) : strSliceIndices none b 1 len = strSliceIndices (some ((0 : Nat) : Int)) b 1 len := by
  simp only [strSliceIndices, one_pos, if_true, not_neg, if_false, clip_nat, Nat.zero_min]; rfl
theorem idx_none_hi (a : Option Int) (len : Nat) : strSliceIndices a none 1 len = strSliceIndices a (some (len : Int)) 1 len := by
  simp only [strSliceIndices, one_pos, if_true, not_neg, if_false, clip_nat, Nat.min_self]
theorem idx_gap {a b : Nat} (len : Nat) (h : b < a) (ha : a ≤ len) : strSliceIndices (some (a : Int)) (some (b : Int)) 1 len = [] := by
  simp only [strSliceIndices, not_neg, if_false, one_pos, if_true, clip_nat, sliceRange, Nat.min_eq_left ha, Nat.min_eq_left (Nat.le_trans (Nat.le_of_lt h) ha)]
  rw [if_neg (Int.not_lt.mpr (Int.ofNat_le.mpr (Nat.le_of_lt h)))]
  rfl
theorem take_min (l : List Nat) (b : Nat) : l.take (min b l.length) = l.take b := by
  rcases Nat.le_total b l.length with h | h
  · rw [Nat.min_eq_left h]
  · rw [Nat.min_eq_right h, List.take_of_length_le (Nat.le_refl _), List.take_of_length_le h]
theorem drop_min (l : List Nat) (t a : Nat) : (l.take t).drop (min a l.length) = (l.take t).drop a := by
  rcases Nat.le_total a l.length with h | h
  · rw [Nat.min_eq_left h]
  · have e : (l.take t).length ≤ l.length := List.length_take_le' ..
    rw [Nat.min_eq_right h, List.drop_eq_nil_of_le e, List.drop_eq_nil_of_le (Nat.le_trans e h)]
theorem slice_picks (l : List Nat) (a b : Nat) : (strSliceIndices (some (a : Int)) (some (b : Int)) 1 l.length).filterMap (fun i => l[i]?) = (l.take b).drop a := by
  rw [idx_clip, ← drop_min l b a, ← take_min l b]
  have h1 : min a l.length ≤ l.length := Nat.min_le_right _ _
  have h2 : min b l.length ≤ l.length := Nat.min_le_right _ _
  generalize min a l.length = A at *
  generalize min b l.length = B at *
  rcases Nat.lt_or_ge B A with h | h
  · rw [idx_gap _ h h1, List.drop_eq_nil_of_le (by rw [List.length_take]; exact Nat.le_trans (Nat.min_le_left _ _) (Nat.le_of_lt h))]; rfl
  · rw [StrLaws.strSliceIndices_plain h h2, filterMap_plus _ _ _ (by rw [Nat.add_sub_cancel' h]; exact h2), List.drop_take]
theorem idx_len (a b len : Nat) : (strSliceIndices (some (a : Int)) (some (b : Int)) 1 len).length = min b len - min a len := by
  rw [idx_clip]
  have h1 : min a len ≤ len := Nat.min_le_right _ _
  have h2 : min b len ≤ len := Nat.min_le_right _ _
  generalize min a len = A at *
  generalize min b len = B at *
  rcases Nat.lt_or_ge B A with h | h
  · rw [idx_gap _ h h1, Nat.sub_eq_zero_of_le (Nat.le_of_lt h)]; rfl
  · rw [StrLaws.strSliceIndices_plain h h2]; simp
theorem slice_N (l : List Nat) (a b : Nat) : Txt.slice (S l) (some (a : Int)) (some (b : Int)) = S ((l.take b).drop a) := by
  unfold Txt.slice
  have hp := slice_picks l a b
  have hl := idx_len a b l.length
  have e : (fun x_1 => (S l).cps[x_1]?) = fun (i : Nat) => l[i]? := by funext i; simp [S]
  split
  · rename_i h
    simp only [Bool.and_eq_true, beq_iff_eq, S_len] at h
    have h2 := h.2
    rw [hl] at h2
    rcases Nat.eq_zero_or_pos l.length with hn | hn
    · rw [List.length_eq_zero_iff.mp hn]; simp
    · have hb : l.length ≤ b := by omega
      have ha : a = 0 := by omega
      rw [ha, List.drop_zero, List.take_of_length_le hb]
  · rw [e, S_len, hp]
theorem slice_S (l : List Nat) (a b : Int) (ha : 0 ≤ a) (hb : 0 ≤ b) : Txt.slice (S l) (some a) (some b) = S ((l.take b.toNat).drop a.toNat) := by
  have := slice_N l a.toNat b.toNat
  rwa [Int.toNat_of_nonneg ha, Int.toNat_of_nonneg hb] at this
theorem slice_ns (l : List Nat) (b : Int) (hb : 0 ≤ b) : Txt.slice (S l) none (some b) = S (l.take b.toNat) := by
  have := slice_S l ((0 : Nat) : Int) b (Int.natCast_nonneg 0) hb
  unfold Txt.slice at this ⊢
  rw [idx_none_lo]
  simpa using this
theorem slice_sn (l : List Nat) (a : Int) (ha : 0 ≤ a) : Txt.slice (S l) (some a) none = S (l.drop a.toNat) := by
  have := slice_S l a l.length ha (Int.natCast_nonneg _)
  unfold Txt.slice at this ⊢
  rw [idx_none_hi, S_len]
  rw [S_len] at this
  simpa using this
theorem item_S (l : List Nat) (i : Nat) (h : i < l.length) : Txt.item (S l) (i : Int) = S [l.getD i 0] ∧ (Txt.charAt (S l) (i : Int)).isSome = true := by
  have e : Txt.charAt (S l) (i : Int) = some (l.getD i 0) := by
    unfold Txt.charAt seqIndex?
    have h1 : ¬ ((i : Int) < 0) := by omega
    simp only [h1, if_false, S_len]
    rw [if_pos (by simp; omega)]
    simp [S, List.getD, h]
  unfold Txt.item
  rw [e]
  exact ⟨rfl, rfl⟩
theorem contains_S (l : List Nat) (c : Nat) : Txt.contains (S l) (S [c]) = decide (c ∈ l) := by
  unfold Txt.contains
  have := StrLaws.found_one (S l) c
  simpa using this
theorem eq_S (a b : List Nat) : (S a == S b) = decide (a = b) := by
  rw [Bool.eq_iff_iff, beq_iff_eq, S_inj, decide_eq_true_eq]
end Mine
end
section
open PySem PySem.W PyProof.Rows PySem.Calls PySem.Builtin PySem.Builtin.Str
namespace Mine

noncomputable def AtH (c : Cx) (s : Shared) (h : Heap) : Prop := At c { s with heap := h }
theorem keptAt (c : Cx) (s : Shared) : KeptH (AtH c s) := fun h ob H => At.push (s := { s with heap := h }) H ob
theorem At.of {c : Cx} {s : Shared} {h : Heap} (H : At c { s with heap := h }) (k : Nat) : At c { s with heap := h, toks := k } := H.toks k

structure Rm (A : Around) (k : Nat) : Prop where
  d : A.depth + k < recursionLimit
  u : A.units + 40 * k + 40 < cLine
  h : A.handled = none
  g : A.guards = some []

section
variable {c : Cx}

theorem pe_add_int {l r : PySem.Expr} {pos : Pos} {a b : Int} (hl : PE c l (VI a)) (hr : PE c r (VI b)) : PE c (.BinOp l .Add r pos) (VI (a + b)) := fun s Q E H k =>
  wpAny_BinOp (hl s _ _ H fun v s₁ ⟨t, e⟩ H₁ => hr s₁ _ _ H₁ fun u s₂ ⟨t', e'⟩ H₂ => by
    subst e; subst e'
    exact add_int (k _ _ ⟨_, rfl⟩ (H₂.toks _)))
theorem pe_sub_int {l r : PySem.Expr} {pos : Pos} {a b : Int} (hl : PE c l (VI a)) (hr : PE c r (VI b)) : PE c (.BinOp l .Sub r pos) (VI (a - b)) := fun s Q E H k =>
  wpAny_BinOp (hl s _ _ H fun v s₁ ⟨t, e⟩ H₁ => hr s₁ _ _ H₁ fun u s₂ ⟨t', e'⟩ H₂ => by
    subst e; subst e'
    exact sub_int (k _ _ ⟨_, rfl⟩ (H₂.toks _)))
theorem pe_mod_int {l r : PySem.Expr} {pos : Pos} {a b : Int} (hl : PE c l (VI a)) (hr : PE c r (VI b)) (hb : 0 < b) : PE c (.BinOp l .Mod r pos) (VI (a % b)) := fun s Q E H k =>
  wpAny_BinOp (hl s _ _ H fun v s₁ ⟨t, e⟩ H₁ => hr s₁ _ _ H₁ fun u s₂ ⟨t', e'⟩ H₂ => by
    subst e; subst e'
    refine mod_int' (by omega) ?_
    rw [Int.fmod_eq_emod_of_nonneg _ (by omega)]
    exact k _ _ ⟨_, rfl⟩ (H₂.toks _))
theorem pe_add_str {l r : PySem.Expr} {pos : Pos} {a b : List Nat} (hl : PE c l (VT a)) (hr : PE c r (VT b)) (hz : a.length + b.length ≤ 16777216) : PE c (.BinOp l .Add r pos) (VT (a ++ b)) := fun s Q E H k =>
  wpAny_BinOp (hl s _ _ H fun v s₁ ⟨t, e⟩ H₁ => hr s₁ _ _ H₁ fun u s₂ ⟨t', e'⟩ H₂ => by
    subst e; subst e'
    refine SB.add (fun t' k' => ?_) (by rw [S_len, S_len, sizeLine_eq]; omega)
    rw [S_append]
    exact k _ _ ⟨_, rfl⟩ (H₂.toks _))
theorem pe_strc {x : String} {n : Nat} {pos : Pos} : PE c (.Constant (.str (Str.ofString x)) n pos) (VT (cs x)) := pe_str.mono fun v ⟨t, e⟩ => ⟨t, by rw [e, S_cs]⟩

theorem pt_lt {l r : PySem.Expr} {pos : Pos} {a b : Int} (hl : PE c l (VI a)) (hr : PE c r (VI b)) (hm : behindInMarks .Lt r = false := by rfl) : PT c (.Compare l [.Lt] [r] pos) (decide (a < b)) := fun s Q E H k =>
  wpAny_isTrue_Compare1 (hl s _ _ H fun v s₁ ⟨t, e⟩ H₁ => hr s₁ _ _ H₁ fun u s₂ ⟨t', e'⟩ H₂ => by
    subst e; subst e'
    exact lt_int (wpAny_truthy_bool (k _ H₂))) hm
theorem pt_gt {l r : PySem.Expr} {pos : Pos} {a b : Int} (hl : PE c l (VI a)) (hr : PE c r (VI b)) (hm : behindInMarks .Gt r = false := by rfl) : PT c (.Compare l [.Gt] [r] pos) (decide (b < a)) := fun s Q E H k =>
  wpAny_isTrue_Compare1 (hl s _ _ H fun v s₁ ⟨t, e⟩ H₁ => hr s₁ _ _ H₁ fun u s₂ ⟨t', e'⟩ H₂ => by
    subst e; subst e'
    exact gt_int (wpAny_truthy_bool (k _ H₂))) hm
theorem pe_ge {l r : PySem.Expr} {pos : Pos} {a b : Int} (hl : PE c l (VI a)) (hr : PE c r (VI b)) (hm : behindInMarks .GtE r = false := by rfl) : PE c (.Compare l [.GtE] [r] pos) (VE (.bool (decide (b ≤ a)))) := fun s Q E H k =>
  wpAny_Compare1 (hl s _ _ H fun v s₁ ⟨t, e⟩ H₁ => hr s₁ _ _ H₁ fun u s₂ ⟨t', e'⟩ H₂ => by
    subst e; subst e'
    exact ge_int (k _ _ rfl H₂)) hm
theorem pt_eq_int {l r : PySem.Expr} {pos : Pos} {a b : Int} (hl : PE c l (VI a)) (hr : PE c r (VI b)) (hm : behindInMarks .Eq r = false := by rfl) : PT c (.Compare l [.Eq] [r] pos) (decide (a = b)) := fun s Q E H k =>
  wpAny_isTrue_Compare1 (hl s _ _ H fun v s₁ ⟨t, e⟩ H₁ => hr s₁ _ _ H₁ fun u s₂ ⟨t', e'⟩ H₂ => by
    subst e; subst e'
    refine eq_int (wpAny_truthy_bool ?_)
    rw [show (a == b) = decide (a = b) from rfl]
    exact k _ H₂) hm
theorem pe_eq_int {l r : PySem.Expr} {pos : Pos} {a b : Int} (hl : PE c l (VI a)) (hr : PE c r (VI b)) (hm : behindInMarks .Eq r = false := by rfl) : PE c (.Compare l [.Eq] [r] pos) (VE (.bool (decide (a = b)))) := fun s Q E H k =>
  wpAny_Compare1 (hl s _ _ H fun v s₁ ⟨t, e⟩ H₁ => hr s₁ _ _ H₁ fun u s₂ ⟨t', e'⟩ H₂ => by
    subst e; subst e'
    exact eq_int (k _ _ rfl H₂)) hm
theorem pt_eq_str {l r : PySem.Expr} {pos : Pos} {a b : List Nat} (hl : PE c l (VT a)) (hr : PE c r (VT b)) (hm : behindInMarks .Eq r = false := by rfl) : PT c (.Compare l [.Eq] [r] pos) (decide (a = b)) := fun s Q E H k =>
  wpAny_isTrue_Compare1 (hl s _ _ H fun v s₁ ⟨t, e⟩ H₁ => hr s₁ _ _ H₁ fun u s₂ ⟨t', e'⟩ H₂ => by
    subst e; subst e'
    refine eq_str (wpAny_truthy_bool ?_)
    rw [eq_S]
    exact k _ H₂) hm
theorem pe_eq_str {l r : PySem.Expr} {pos : Pos} {a b : List Nat} (hl : PE c l (VT a)) (hr : PE c r (VT b)) (hm : behindInMarks .Eq r = false := by rfl) : PE c (.Compare l [.Eq] [r] pos) (VE (.bool (decide (a = b)))) := fun s Q E H k =>
  wpAny_Compare1 (hl s _ _ H fun v s₁ ⟨t, e⟩ H₁ => hr s₁ _ _ H₁ fun u s₂ ⟨t', e'⟩ H₂ => by
    subst e; subst e'
    refine eq_str ?_
    rw [eq_S]
    exact k _ _ rfl H₂) hm
theorem ne_S (a b : List Nat) : (S a != S b) = !decide (a = b) := by
  show (!(S a == S b)) = _
  rw [eq_S]
theorem pt_ne_str {l r : PySem.Expr} {pos : Pos} {a b : List Nat} (hl : PE c l (VT a)) (hr : PE c r (VT b)) (hm : behindInMarks .NotEq r = false := by rfl) : PT c (.Compare l [.NotEq] [r] pos) (!decide (a = b)) := fun s Q E H k =>
  wpAny_isTrue_Compare1 (hl s _ _ H fun v s₁ ⟨t, e⟩ H₁ => hr s₁ _ _ H₁ fun u s₂ ⟨t', e'⟩ H₂ => by
    subst e; subst e'
    refine ne_str (wpAny_truthy_bool ?_)
    rw [ne_S]
    exact k _ H₂) hm
theorem pe_ne_str {l r : PySem.Expr} {pos : Pos} {a b : List Nat} (hl : PE c l (VT a)) (hr : PE c r (VT b)) (hm : behindInMarks .NotEq r = false := by rfl) : PE c (.Compare l [.NotEq] [r] pos) (VE (.bool (!decide (a = b)))) := fun s Q E H k =>
  wpAny_Compare1 (hl s _ _ H fun v s₁ ⟨t, e⟩ H₁ => hr s₁ _ _ H₁ fun u s₂ ⟨t', e'⟩ H₂ => by
    subst e; subst e'
    refine ne_str ?_
    rw [ne_S]
    exact k _ _ rfl H₂) hm
theorem pt_in_str {l r : PySem.Expr} {pos : Pos} {a : Nat} {b : List Nat} (hl : PE c l (VT [a])) (hr : PE c r (VT b)) (hm : behindInMarks .In r = false := by rfl) : PT c (.Compare l [.In] [r] pos) (decide (a ∈ b)) := fun s Q E H k =>
  wpAny_isTrue_Compare1 (hl s _ _ H fun v s₁ ⟨t, e⟩ H₁ => hr s₁ _ _ H₁ fun u s₂ ⟨t', e'⟩ H₂ => by
    subst e; subst e'
    refine SB.contains (wpAny_truthy_bool ?_)
    rw [contains_S]
    exact k _ H₂) hm
theorem pt_notin_str {l r : PySem.Expr} {pos : Pos} {a : Nat} {b : List Nat} (hl : PE c l (VT [a])) (hr : PE c r (VT b)) (hm : behindInMarks .NotIn r = false := by rfl) : PT c (.Compare l [.NotIn] [r] pos) (!decide (a ∈ b)) := fun s Q E H k =>
  wpAny_isTrue_Compare1 (hl s _ _ H fun v s₁ ⟨t, e⟩ H₁ => hr s₁ _ _ H₁ fun u s₂ ⟨t', e'⟩ H₂ => by
    subst e; subst e'
    refine SB.notContains (wpAny_truthy_bool ?_)
    rw [contains_S]
    exact k _ H₂) hm
theorem pt_not {e : PySem.Expr} {pos : Pos} {b : Bool} (h : PT c e b) : PT c (.UnaryOp .Not e pos) (!b) := fun s Q E H k => isTrue_not (h s _ _ H fun s' H' => k s' H')
theorem pt_and {x y : PySem.Expr} {pos : Pos} {a b : Bool} (hx : PT c x a) (hy : a = true → PT c y b) : PT c (.BoolOp .And [x, y] pos) (a && b) := fun s Q E H k =>
  isTrue_and (hx s _ _ H fun s₁ H₁ => by
    cases a with
    | false => simp only [Bool.false_eq_true, if_false]; exact k _ H₁
    | true =>
      simp only [if_true]
      refine isTrue_and (hy rfl s₁ _ _ H₁ fun s₂ H₂ => ?_)
      cases b with
      | false => simp only [Bool.false_eq_true, if_false]; exact k _ H₂
      | true => simp only [if_true]; exact isTrue_and_nil (k _ H₂))
theorem pt_or {x y : PySem.Expr} {pos : Pos} {a b : Bool} (hx : PT c x a) (hy : a = false → PT c y b) : PT c (.BoolOp .Or [x, y] pos) (a || b) := fun s Q E H k =>
  isTrue_or (hx s _ _ H fun s₁ H₁ => by
    cases a with
    | true => simp only [if_true]; exact k _ H₁
    | false =>
      simp only [Bool.false_eq_true, if_false]
      refine isTrue_or (hy rfl s₁ _ _ H₁ fun s₂ H₂ => ?_)
      cases b with
      | true => simp only [if_true]; exact k _ H₂
      | false => simp only [Bool.false_eq_true, if_false]; exact isTrue_or_nil (k _ H₂))
theorem PT.congr {e : PySem.Expr} {a b : Bool} (h : PT c e a) (q : a = b) : PT c e b := q ▸ h

theorem let_go_any {prog : Program} {w : World} {A : Around} {E : Value → Shared → Prop} {s : Shared} {base : PySem.Expr} {o r : Value} {Q : Unit → Shared → Prop} (h : Q () s) : wpAny (model prog w) A (letTemporaryGo base o r) Q E s := by
  unfold letTemporaryGo
  split
  · exact wpAny_pure h
  · exact wpAny_bind (wpAny_holding (wpAny_runValue (codeAny_builtin entry_let_go (show wpAny _ _ (ret .none) _ _ s from wpAny_pure (wpAny_pure h)))))
  · exact wpAny_pure h
theorem subscripted_ops (slice : PySem.Expr) (o i : Value) : ∃ ops, subscripted slice false o i = operate ops (getItem o i) := by
  unfold subscripted
  split
  · exact ⟨_, rfl⟩
  · rename_i h; (first | subst h | cases h)
  · exact ⟨_, rfl⟩
theorem sub_on {value slice : PySem.Expr} {pos : Pos} {s : Shared} {Q : Value → Shared → Prop} {E : Value → Shared → Prop}
    (h : wpAny c.G.M c.A (eval value c.env) (fun o s₁ => wpAny c.G.M c.A (eval slice c.env) (fun i s₂ => ItemOn c.G.M c.A E o i Q s₂) E s₁) E s) :
    wpAny c.G.M c.A (eval (.Subscript value slice pos) c.env) Q E s := by
  refine Subscript_ (wpAny_mono h (fun o s₁ h₁ => wpAny_mono h₁ (fun i s₂ h₂ => ?_) fun zz zz x => x) fun zz zz x => x)
  obtain ⟨T, id, hl, hT, hg⟩ := h₂
  obtain ⟨ops, hs⟩ := subscripted_ops slice o i
  unfold subscriptTail
  refine wpAny_bind ?_
  rw [getitemInPython_of_ne hT.not_modules]
  refine wpAny_bind (wpAny_specialOf hT hl ?_)
  have fin : wpAny c.G.M c.A (subscripted slice false o i) (fun r s₃ => wpAny c.G.M c.A (letTemporaryGo value o r >>= fun zz => pure r) Q E s₃) E s₂ := by
    rw [hs]
    exact wpAny_operating (wpAny_mono hg (fun r s₃ h₃ => wpAny_bind (let_go_any (wpAny_pure h₃))) fun zz zz x => x)
  first
    | exact wpAny_pure (wpAny_bind fin)
    | exact wpAny_bind (wpAny_pure (wpAny_bind fin))
    | exact wpAny_bind fin
theorem fits_small (n : Nat) (h : n < 4611686018427387904) : fitsSsize (n : Int) = true := by
  unfold fitsSsize
  simp
  omega
theorem pe_item_str {o i : PySem.Expr} {pos : Pos} {l : List Nat} {n : Nat} (ho : PE c o (VT l)) (hi : PE c i (VI (n : Int))) (hn : n < l.length) (hz : l.length < 4611686018427387904)
    : PE c (.Subscript o i pos) (VT [l.getD n 0]) := fun s Q E H k =>
  sub_on (ho s _ _ H fun v s₁ ⟨t, e⟩ H₁ => hi s₁ _ _ H₁ fun u s₂ ⟨t', e'⟩ H₂ => by
    subst e; subst e'
    obtain ⟨e1, e2⟩ := item_S l n hn
    refine SB.item ?_ e2 ?_
    · exact fits_small n (by omega)
    · rw [e1]; exact k _ _ ⟨_, rfl⟩ (H₂.toks _))
theorem pe_slice_ss {o i j : PySem.Expr} {p pos : Pos} {l : List Nat} {a b : Nat} (ho : PE c o (VT l)) (hi : PE c i (VI (a : Int))) (hj : PE c j (VI (b : Int))) (hz : l.length ≤ 16777216) : PE c (.Subscript o (.Slice (some i) (some j) none p) pos) (VT ((l.take b).drop a)) := fun s Q E H k => by
  refine sub_on (ho s _ _ H fun v s₁ ⟨t, e⟩ H₁ => ?_)
  refine wpAny_Slice (evalPart_some_step (hi s₁ _ _ H₁ fun u s₂ ⟨t', e'⟩ H₂ => ?_))
  refine evalPart_some_step (hj s₂ _ _ H₂ fun u' s₃ ⟨t'', e''⟩ H₃ => evalPart_none_step ?_)
  subst e; subst e'; subst e''
  refine SBH.sliceItem_ss (keptAt c s₃) (show AtH c s₃ s₃.heap from H₃) (fun h' t' k' H' => ?_) (by rw [S_len, sizeLine_eq]; omega)
  rw [slice_S _ _ _ (by omega) (by omega)]
  exact k _ _ ⟨_, rfl⟩ (At.of H' k')
theorem pe_slice_ns {o j : PySem.Expr} {p pos : Pos} {l : List Nat} {b : Nat} (ho : PE c o (VT l)) (hj : PE c j (VI (b : Int))) (hz : l.length ≤ 16777216) : PE c (.Subscript o (.Slice none (some j) none p) pos) (VT (l.take b)) := fun s Q E H k => by
  refine sub_on (ho s _ _ H fun v s₁ ⟨t, e⟩ H₁ => ?_)
  refine wpAny_Slice (evalPart_none_step (evalPart_some_step (hj s₁ _ _ H₁ fun u' s₃ ⟨t'', e''⟩ H₃ => evalPart_none_step ?_)))
  subst e; subst e''
  refine SBH.sliceItem_ns (keptAt c s₃) (show AtH c s₃ s₃.heap from H₃) (fun h' t' k' H' => ?_) (by rw [S_len, sizeLine_eq]; omega)
  rw [slice_ns _ _ (by omega)]
  exact k _ _ ⟨_, rfl⟩ (At.of H' k')
theorem pe_slice_sn {o i : PySem.Expr} {p pos : Pos} {l : List Nat} {a : Nat} (ho : PE c o (VT l)) (hi : PE c i (VI (a : Int))) (hz : l.length ≤ 16777216) : PE c (.Subscript o (.Slice (some i) none none p) pos) (VT (l.drop a)) := fun s Q E H k => by
  refine sub_on (ho s _ _ H fun v s₁ ⟨t, e⟩ H₁ => ?_)
  refine wpAny_Slice (evalPart_some_step (hi s₁ _ _ H₁ fun u' s₃ ⟨t'', e''⟩ H₃ => evalPart_none_step (evalPart_none_step ?_)))
  subst e; subst e''
  refine SBH.sliceItem_sn (keptAt c s₃) (show AtH c s₃ s₃.heap from H₃) (fun h' t' k' H' => ?_) (by rw [S_len, sizeLine_eq]; omega)
  rw [slice_sn _ _ (by omega)]
  exact k _ _ ⟨_, rfl⟩ (At.of H' k')

theorem boot_len_ : bootBuiltins (Str.ofString "len") = some (.builtin "len") := boot_len
theorem pe_len_str {e : PySem.Expr} {np pos : Pos} {l : List Nat} (he : PE c e (VT l)) (hz : l.length < 4611686018427387904) (h : bootName c.env.scope (KF c.G.w.params) "len" = true := by kernel_rfl) (hg : c.env.globals = mainGlobals := by rfl) (hb : c.env.builtins = builtinsNs := by rfl)
    (hs : starEach [e] c.env = (false, eval e c.env) :: starEach [] c.env := by rfl)
    (hc : eval (.Call (.Name "len" np) [e] [] pos) c.env = (do let f ← eval (.Name "len" np) c.env; callWith pos f [] (backTo pos (starEach [e] c.env)) (backToKw pos (keywordEach [] c.env))) := by rfl) :
    PE c (.Call (.Name "len" np) [e] [] pos) (VI l.length) := fun s Q E H k => by
  refine Call_ (pe_bootN boot_len h hg hb s _ _ H fun v s₁ e' H₁ => ?_) hc
  subst e'
  refine PyProof.Rows.callWith_builtin1 (spliced_more (he s₁ _ _ H₁ fun v s₂ ⟨t, e⟩ H₂ => spliced_none ?_) hs) hs rfl
  subst e
  refine PyProof.Rows.SBL.len (by rw [S_len]; omega) ?_
  rw [S_len]
  exact k _ _ ⟨_, rfl⟩ ((H₂.toks _).toks _)
end
end Mine
end
section
open PySem PySem.W PyProof.Rows PySem.Calls PySem.Builtin PySem.Builtin.Str
namespace Mine

noncomputable def Nx (G : Gh) (A : Around) (env : Env) (rest : List Stmt) (Q : Flow → Shared → Prop) (E : Value → Shared → Prop) (f : Flow) (s : Shared) : Prop := match f with
  | .next => wpAny G.M A (execs rest env) Q E s
  | f => Q f s

noncomputable abbrev AsgK (G : Gh) (A : Around) (env : Env) (x : Str) (rest : List Stmt) (Q : Flow → Shared → Prop) (E : Value → Shared → Prop) (v : Value) (s : Shared) : Prop := wpAny G.M A (storeName env x v) (fun zz => wpAny G.M A (execs rest env) Q E) E s
noncomputable abbrev RetK (Q : Flow → Shared → Prop) (v : Value) (s : Shared) : Prop := Q (.ret v) s
noncomputable abbrev ExprK (G : Gh) (A : Around) (env : Env) (rest : List Stmt) (Q : Flow → Shared → Prop) (E : Value → Shared → Prop) (_ : Value) (s : Shared) : Prop := wpAny G.M A (execs rest env) Q E s
noncomputable abbrev ConsK (Q : List Value → Shared → Prop) (v : Value) (vs : List Value) (s : Shared) : Prop := Q (v :: vs) s
noncomputable abbrev SpK (G : Gh) (A : Around) (env : Env) (pos : Pos) (es : List PySem.Expr) (Q : List Value → Shared → Prop) (E : Value → Shared → Prop) (v : Value) (s : Shared) : Prop := wpAny G.M A (spliced (backTo pos (starEach es env))) (ConsK Q v) E s
noncomputable def flV : Flow → Value
  | .ret v => v
  | _ => .none
noncomputable abbrev BodyK (Q : Value → Shared → Prop) (f : Flow) (s : Shared) : Prop := Q (flV f) s
noncomputable abbrev noE (_ : Value) (_ : Shared) : Prop := False
section
variable {G : Gh} {A : Around} {env : Env} {g : Heap} {m : Str → Option Value} {mu : List (Addr × Obj)} {s : Shared} {Q : Flow → Shared → Prop} {E : Value → Shared → Prop} {rest : List Stmt} {pos : Pos}

theorem ex_nil (h : Q .next s) : wpAny G.M A (execs [] env) Q E s := wpAny_execs_nil h
theorem ex_step {st : Stmt} (h : wpAny G.M A (exec st env) (Nx G A env rest Q E) E s) : wpAny G.M A (execs (st :: rest) env) Q E s :=
  wpAny_execs_cons (wpAny_mono h (fun f s' h' => by cases f <;> exact h') fun zz zz h' => h')
theorem ex_assign_any {x : Str} {p : Pos} {e : PySem.Expr} (h : wpAny G.M A (eval e env) (AsgK G A env x rest Q E) E s)
    (hs : swapsWith e (some (.Name x p)) pos.line env = pure false := by rfl) : wpAny G.M A (execs (.Assign [.Name x p] e pos :: rest) env) Q E s :=
  ex_step (wpAny_Assign_Name h hs)
theorem ex_assign {x : Str} {p : Pos} {e : PySem.Expr} {P : Value → Prop} (H : At ⟨G, A, env, g, m, mu⟩ s) (he : PE ⟨G, A, env, g, m, mu⟩ e P) (hl : stOK env x = true)
    (k : ∀ v s', P v → At ⟨G, A, env, g, put m x v, mu⟩ s' → wpAny G.M A (execs rest env) Q E s') (hs : swapsWith e (some (.Name x p)) pos.line env = pure false := by rfl) :
    wpAny G.M A (execs (.Assign [.Name x p] e pos :: rest) env) Q E s :=
  ex_assign_any (he s _ _ H fun v s₁ p H₁ => H₁.store hl fun s₂ H₂ => k v s₂ p H₂) hs
theorem ex_ret {e : PySem.Expr} {P : Value → Prop} (H : At ⟨G, A, env, g, m, mu⟩ s) (he : PE ⟨G, A, env, g, m, mu⟩ e P) (k : ∀ v s', P v → At ⟨G, A, env, g, m, mu⟩ s' → Q (.ret v) s') : wpAny G.M A (execs (.Return (some e) pos :: rest) env) Q E s :=
  ex_step (wpAny_Return_some (he s _ _ H fun v s₁ p H₁ => k v s₁ p H₁))
theorem ex_ret_any {e : PySem.Expr} (h : wpAny G.M A (eval e env) (RetK Q) E s) : wpAny G.M A (execs (.Return (some e) pos :: rest) env) Q E s :=
  ex_step (wpAny_Return_some h)
theorem ex_if_any {t : PySem.Expr} {b o : List Stmt} (h : wpAny G.M A (isTrue t env (eval t env)) (fun d s₂ => if d = true then wpAny G.M A (execs b env) (Nx G A env rest Q E) E s₂ else wpAny G.M A (execs o env) (Nx G A env rest Q E) E s₂) E s) :
    wpAny G.M A (execs (.If t b o pos :: rest) env) Q E s := ex_step (wpAny_If h)
theorem ex_if {t : PySem.Expr} {b : List Stmt} {d : Bool} (H : At ⟨G, A, env, g, m, mu⟩ s) (ht : PT ⟨G, A, env, g, m, mu⟩ t d) (k1 : d = true → ∀ s', At ⟨G, A, env, g, m, mu⟩ s' → wpAny G.M A (execs b env) (Nx G A env rest Q E) E s')
    (k0 : d = false → ∀ s', At ⟨G, A, env, g, m, mu⟩ s' → wpAny G.M A (execs rest env) Q E s') : wpAny G.M A (execs (.If t b [] pos :: rest) env) Q E s :=
  ex_if_any (ht s _ _ H fun s' H' => by
    cases d with
    | true => simp only [if_true]; exact k1 rfl _ H'
    | false => simp only [Bool.false_eq_true, if_false]; exact ex_nil (k0 rfl _ H'))
theorem ex_expr_any {e : PySem.Expr} (h : wpAny G.M A (eval e env) (ExprK G A env rest Q E) E s)
    (hi : interactive env = false := by rfl) (hs : swapsWith e none pos.line env = pure false := by rfl) : wpAny G.M A (execs (.Expr e pos :: rest) env) Q E s :=
  ex_step (wpAny_Expr_any (wpAny_mono h (fun zz zz x => x) fun zz zz x => x) hi hs)

theorem ex_while {test : PySem.Expr} {body : List Stmt} {Ei : Value → Shared → Prop} (hE : ∀ e s', Ei e s' → notedBy G.M A env (fun e s' => cameBackBy G.M A env E e s') e s') (I : Nat → Shared → Prop)
    (turn : ∀ n s, I n s → wpAny G.M A (isTrue test env (eval test env)) (fun b s₂ =>
        if b = true then wpAny G.M A (execs body env) (fun f s₃ => match f with
            | .next | .cont => ∃ m, m < n ∧ I m s₃
            | .brk => wpAny G.M A (execs rest env) Q E s₃
            | .ret v => Q (.ret v) s₃) Ei s₂
        else wpAny G.M A (execs rest env) Q E s₂) Ei s)
    (n : Nat) (h : I n s) : wpAny G.M A (execs (.While test body [] pos :: rest) env) Q E s := by
  refine ex_step (wpAny_While (codeAny_whileLoop I (fun n s hI => ?_) n h))
  refine wpAny_mono (turn n s hI) (fun b s₂ h₂ => ?_) hE
  cases b with
  | true =>
    simp only [if_true] at h₂ ⊢
    refine wpAny_mono h₂ (fun f s₃ h₃ => ?_) hE
    cases f <;> exact h₃
  | false =>
    simp only [Bool.false_eq_true, if_false] at h₂ ⊢
    exact wpAny_execs_nil h₂
end

noncomputable def Ob (c : Cx) (a : Addr) (o : Obj) : Prop := (a, o) ∈ c.mu ∨ c.g.get? a = some o
theorem Ob.at {c : Cx} {a : Addr} {o : Obj} (h : Ob c a o) {s : Shared} (H : At c s) : s.heap.get? a = some o := h.elim H.get (H.up _ _)

noncomputable def attrOK (K : Frag) (C : Addr) (name : Str) : Bool := plainGet K C name && hasDictIn K C && (match findIn K (.ref C) name with | some attr => noGet K attr | none => false)
noncomputable def methOK (K : Frag) (C : Addr) (name : Str) (f : Addr) : Bool := plainGet K C name && (findIn K (.ref C) name == some (some (.ref f))) && isFn K (.ref f) && keepIn K (.ref f)

section
variable {G : Gh} {A : Around} {env : Env} {g : Heap} {m : Str → Option Value} {mu : List (Addr × Obj)} {n name : Str} {np pos : Pos} {x C dx : Addr} {es : List DictEntry} {k : Nat} {v : Value}
theorem pe_attr (hs : PE ⟨G, A, env, g, m, mu⟩ (.Name n np) (VE (.ref x))) (hx : Ob ⟨G, A, env, g, m, mu⟩ x (instObj C dx)) (hd : Ob ⟨G, A, env, g, m, mu⟩ dx (dictOf es k)) (ha : attrOK (KF G.w.params) C name = true) (hl : getL name es = some (some v)) (hv : handedIn v = true) :
    PE ⟨G, A, env, g, m, mu⟩ (.Attribute (.Name n np) name pos) (VE v) := fun s Q E H kk => by
  refine Attribute_name (hs s _ _ H fun u s₁ e H₁ => ?_)
  subst e
  simp only [attrOK, Bool.and_eq_true] at ha
  obtain ⟨⟨h1, h2⟩, h3⟩ := ha
  split at h3
  · rename_i attr hf
    exact get_value (od := some (dictOf es k)) H₁.X ⟨hx.at H₁, rfl, rfl, hd.at H₁⟩ (plainGet_of h1).1 (findObj_own h2 hf h3 (by rw [lookIn_dict]; exact hl)) hv (kk _ _ rfl (H₁.toks _))
  · (first | subst h3 | cases h3)

inductive PAc (P : Value → Prop) (R : List Value → Prop) (vs : List Value) : Prop
  | mk (v : Value) (q : List Value) (e : vs = v :: q) (h : P v) (r : R q) : PAc P R vs
inductive P1 (P : Value → Prop) (vs : List Value) : Prop
  | mk (v : Value) (e : vs = [v]) (h : P v) : P1 P vs
inductive P2 (P R : Value → Prop) (vs : List Value) : Prop
  | mk (v w : Value) (e : vs = [v, w]) (h : P v) (r : R w) : P2 P R vs
noncomputable def PA (c : Cx) (es : List PySem.Expr) (P : List Value → Prop) : Prop :=
  ∀ pos s Q E, At c s → (∀ vs s', P vs → At c s' → Q vs s') → wpAny c.G.M c.A (spliced (backTo pos (starEach es c.env))) Q E s
theorem pa_nil : PA ⟨G, A, env, g, m, mu⟩ [] (fun vs => vs = []) := fun pos s Q E H k => spliced_none (k _ _ rfl H)
theorem pa_cons {e : PySem.Expr} {r : List PySem.Expr} {P : Value → Prop} {R : List Value → Prop} (he : PE ⟨G, A, env, g, m, mu⟩ e P) (hr : PA ⟨G, A, env, g, m, mu⟩ r R) (hs : starEach (e :: r) env = (false, eval e env) :: starEach r env := by rfl) :
    PA ⟨G, A, env, g, m, mu⟩ (e :: r) (PAc P R) := fun pos s Q E H k =>
  spliced_more (he s _ _ H fun v s₁ p H₁ => hr pos s₁ _ _ H₁ fun vs s₂ q H₂ => k _ _ ⟨v, vs, rfl, p, q⟩ H₂) hs


theorem cw_fn {pos : Pos} {f : Addr} {o : Obj} {fd : FuncData} {first : List Value} {e : PySem.Expr} {es : List PySem.Expr} {s : Shared} {Q : Value → Shared → Prop} {E : Value → Shared → Prop}
    (h : wpAny G.M A (spliced (backTo pos (starEach (e :: es) env))) (fun vs s₁ => (s₁.heap.get? f = some o ∧ o.data = .func fd) ∧ wpAny G.M A (call (.ref f) (first ++ vs)) Q E s₁) E s)
    (he : starEach (e :: es) env = (false, eval e env) :: starEach es env := by rfl) :
    wpAny G.M A (callWith pos (.ref f) first (backTo pos (starEach (e :: es) env)) (backToKw pos (keywordEach [] env))) Q E s := by
  show wpAny _ _ (callWith pos (.ref f) first (backTo pos (starEach (e :: es) env)) []) Q E s
  rw [he] at h ⊢
  exact Calls.callWith_function (o := o) (fd := fd) (Calls.evalArgs_plain h)
theorem cw_fn0 {pos : Pos} {f : Addr} {o : Obj} {fd : FuncData} {first : List Value} {s : Shared} {Q : Value → Shared → Prop} {E : Value → Shared → Prop}
    (ho : s.heap.get? f = some o) (hd : o.data = .func fd) (h : wpAny G.M A (call (.ref f) first) Q E s) :
    wpAny G.M A (callWith pos (.ref f) first (backTo pos (starEach [] env)) (backToKw pos (keywordEach [] env))) Q E s := callWith_meth0 hd ho h
theorem cw_bi {pos : Pos} {id : String} {first : List Value} {e : PySem.Expr} {es : List PySem.Expr} {s : Shared} {Q : Value → Shared → Prop} {E : Value → Shared → Prop}
    (h : wpAny G.M A (spliced (backTo pos (starEach (e :: es) env))) (fun vs s₁ => wpAny G.M A (call (.builtin id) (first ++ vs)) Q E s₁) E s)
    (he : starEach (e :: es) env = (false, eval e env) :: starEach es env := by rfl) (hp : (backTo pos (starEach es env)).any (·.1) = false := by rfl) :
    wpAny G.M A (callWith pos (.builtin id) first (backTo pos (starEach (e :: es) env)) (backToKw pos (keywordEach [] env))) Q E s := callWith_method1 h he hp
theorem cw_ty {pos : Pos} {T : String} {e : PySem.Expr} {es : List PySem.Expr} {s : Shared} {Q : Value → Shared → Prop} {E : Value → Shared → Prop}
    (h : wpAny G.M A (spliced (backTo pos (starEach (e :: es) env))) (fun vs s₁ => wpAny G.M A (call (.type T) vs) Q E s₁) E s)
    (he : starEach (e :: es) env = (false, eval e env) :: starEach es env := by rfl) (hp : (backTo pos (starEach es env)).any (·.1) = false := by rfl) :
    wpAny G.M A (callWith pos (.type T) [] (backTo pos (starEach (e :: es) env)) (backToKw pos (keywordEach [] env))) Q E s := PyProof.Rows.callWith_type1 h he hp
theorem sp_cons {pos : Pos} {e : PySem.Expr} {es : List PySem.Expr} {s : Shared} {Q : List Value → Shared → Prop} {E : Value → Shared → Prop}
    (h : wpAny G.M A (eval e env) (SpK G A env pos es Q E) E s)
    (hs : starEach (e :: es) env = (false, eval e env) :: starEach es env := by rfl) : wpAny G.M A (spliced (backTo pos (starEach (e :: es) env))) Q E s :=
  spliced_more h hs
theorem sp_nil {pos : Pos} {s : Shared} {Q : List Value → Shared → Prop} {E : Value → Shared → Prop} (h : Q [] s) : wpAny G.M A (spliced (backTo pos (starEach [] env))) Q E s := spliced_none h

noncomputable def fnIs (K : Frag) (f : Addr) : Bool := match K.lookup f with | some ⟨_, _, .func _, _⟩ => true | _ => false
theorem fnIs_of {s : Shared} {f : Addr} (X : (KF G.w.params).In s.heap) (h : fnIs (KF G.w.params) f = true) : Ex2 fun o fd => s.heap.get? f = some o ∧ o.data = .func fd := by
  unfold fnIs at h
  split at h
  · rename_i hk; exact ⟨_, _, X _ _ hk, rfl⟩
  · (first | subst h | cases h)
theorem c_def {nm : Str} {f : Addr} {np : Pos} {e : PySem.Expr} {es : List PySem.Expr} {P : List Value → Prop} {s : Shared} {Q : Value → Shared → Prop} {E : Value → Shared → Prop}
    (H : At ⟨G, A, env, g, m, mu⟩ s) (hf : PE ⟨G, A, env, g, m, mu⟩ (.Name nm np) (VE (.ref f))) (hi : fnIs (KF G.w.params) f = true) (ha : PA ⟨G, A, env, g, m, mu⟩ (e :: es) P)
    (k : ∀ vs s', P vs → At ⟨G, A, env, g, m, mu⟩ s' → wpAny G.M A (call (.ref f) vs) Q E s')
    (he : starEach (e :: es) env = (false, eval e env) :: starEach es env := by rfl)
    (hc : eval (.Call (.Name nm np) (e :: es) [] pos) env = (do let f ← eval (.Name nm np) env; callWith pos f [] (backTo pos (starEach (e :: es) env)) (backToKw pos (keywordEach [] env))) := by rfl) :
    wpAny G.M A (eval (.Call (.Name nm np) (e :: es) [] pos) env) Q E s := by
  refine Call_ (hf s _ _ H fun v s₁ q H₁ => ?_) hc
  (first | subst q | cases q)
  obtain ⟨o, fd, ho, hd⟩ := fnIs_of H₁.X hi
  refine cw_fn (o := o) (fd := fd) (ha pos s₁ _ _ H₁ fun vs s₂ p H₂ => ?_) he
  obtain ⟨o', fd', ho', hd'⟩ := fnIs_of H₂.X hi
  refine ⟨⟨?_, hd⟩, by simpa using k vs s₂ p H₂⟩
  unfold fnIs at hi
  split at hi
  · rename_i hk
    have e1 := H₁.X _ _ hk
    have e2 := H₂.X _ _ hk
    rw [ho] at e1; rw [e2, ← e1]
  · cases hi
theorem c_def0 {nm : Str} {f : Addr} {np : Pos} {s : Shared} {Q : Value → Shared → Prop} {E : Value → Shared → Prop}
    (H : At ⟨G, A, env, g, m, mu⟩ s) (hf : PE ⟨G, A, env, g, m, mu⟩ (.Name nm np) (VE (.ref f))) (hi : fnIs (KF G.w.params) f = true) 
    (k : ∀ s', At ⟨G, A, env, g, m, mu⟩ s' → wpAny G.M A (call (.ref f) []) Q E s')
    (hc : eval (.Call (.Name nm np) [] [] pos) env = (do let f ← eval (.Name nm np) env; callWith pos f [] (backTo pos (starEach [] env)) (backToKw pos (keywordEach [] env))) := by rfl) :
    wpAny G.M A (eval (.Call (.Name nm np) [] [] pos) env) Q E s := by
  refine Call_ (hf s _ _ H fun v s₁ q H₁ => ?_) hc
  (first | subst q | cases q)
  obtain ⟨o, fd, ho, hd⟩ := fnIs_of H₁.X hi
  exact cw_fn0 ho hd (k _ H₁)
theorem c_meth {pl : Sem Bool} {s : Shared} {f : Addr} {e : PySem.Expr} {as : List PySem.Expr} {P : List Value → Prop} {Q : Value → Shared → Prop} {E : Value → Shared → Prop} {apos : Pos} (H : At ⟨G, A, env, g, m, mu⟩ s) (hs : PE ⟨G, A, env, g, m, mu⟩ (.Name n np) (VE (.ref x))) (hx : Ob ⟨G, A, env, g, m, mu⟩ x (instObj C dx)) (hd : Ob ⟨G, A, env, g, m, mu⟩ dx (dictOf es k))
    (hm : methOK (KF G.w.params) C name f = true) (hl : getL name es = some none) (hi : fnIs (KF G.w.params) f = true) (ha : PA ⟨G, A, env, g, m, mu⟩ (e :: as) P)
    (kk : ∀ vs s', P vs → At ⟨G, A, env, g, m, mu⟩ s' → wpAny G.M A (call (.ref f) (.ref x :: vs)) Q E s')
    (hst : starEach (e :: as) env = (false, eval e env) :: starEach as env := by rfl)
    (he : eval (.Call (.Attribute (.Name n np) name apos) (e :: as) [] pos) env = (do
      let ov ← eval (.Name n np) env
      standAt apos.atName
      let (f, first) ← holding [ov] (getMethod ov name pl)
      callWith pos f first (backTo pos (starEach (e :: as) env)) (backToKw pos (keywordEach [] env))) := by rfl) :
    wpAny G.M A (eval (.Call (.Attribute (.Name n np) name apos) (e :: as) [] pos) env) Q E s := by
  simp only [methOK, Bool.and_eq_true, beq_iff_eq] at hm
  obtain ⟨⟨⟨h1, h2⟩, h3⟩, h4⟩ := hm
  refine methodCall_KW (pl := pl) (hs s _ _ H fun u s₁ e H₁ => ?_) he
  subst e
  refine method_fn (od := some (dictOf es k)) H₁.X ⟨hx.at H₁, rfl, rfl, hd.at H₁⟩ (plainGet_of h1).1 (plainGet_of h1).2 h2 (beq_iff_eq.mp h3) (by show (lookIn name (dictOf es k)).map _ = _; rw [lookIn_dict, hl]; rfl) ?_
  obtain ⟨o, fd, ho, hd'⟩ := fnIs_of H₁.X hi
  refine cw_fn (o := o) (fd := fd) (ha pos s₁ _ _ H₁ fun vs s₂ p H₂ => ?_) hst
  refine ⟨⟨?_, hd'⟩, kk vs s₂ p H₂⟩
  unfold fnIs at hi
  split at hi
  · rename_i hk
    have e1 := H₁.X _ _ hk
    have e2 := H₂.X _ _ hk
    rw [ho] at e1; rw [e2, ← e1]
  · cases hi
theorem c_meth0 {pl : Sem Bool} {s : Shared} {f : Addr} {Q : Value → Shared → Prop} {E : Value → Shared → Prop} {apos : Pos} (H : At ⟨G, A, env, g, m, mu⟩ s) (hs : PE ⟨G, A, env, g, m, mu⟩ (.Name n np) (VE (.ref x))) (hx : Ob ⟨G, A, env, g, m, mu⟩ x (instObj C dx)) (hd : Ob ⟨G, A, env, g, m, mu⟩ dx (dictOf es k))
    (hm : methOK (KF G.w.params) C name f = true) (hl : getL name es = some none) (kk : ∀ s', At ⟨G, A, env, g, m, mu⟩ s' → wpAny G.M A (call (.ref f) [.ref x]) Q E s')
    (he : eval (.Call (.Attribute (.Name n np) name apos) [] [] pos) env = (do
      let ov ← eval (.Name n np) env
      standAt apos.atName
      let (f, first) ← holding [ov] (getMethod ov name pl)
      callWith pos f first (backTo pos (starEach [] env)) (backToKw pos (keywordEach [] env))) := by rfl) :
    wpAny G.M A (eval (.Call (.Attribute (.Name n np) name apos) [] [] pos) env) Q E s := by
  simp only [methOK, Bool.and_eq_true, beq_iff_eq] at hm
  obtain ⟨⟨⟨h1, h2⟩, h3⟩, h4⟩ := hm
  refine methodCall_KW (pl := pl) (hs s _ _ H fun u s₁ e H₁ => ?_) he
  subst e
  refine method_fn (od := some (dictOf es k)) H₁.X ⟨hx.at H₁, rfl, rfl, hd.at H₁⟩ (plainGet_of h1).1 (plainGet_of h1).2 h2 (beq_iff_eq.mp h3) (by show (lookIn name (dictOf es k)).map _ = _; rw [lookIn_dict, hl]; rfl) ?_
  exact callWith_K0 H₁.X h4 (kk _ H₁)
end

theorem Rm.deeper {A : Around} {env : Env} {k : Nat} (R : Rm A (k + 1)) : Rm (A.deeper env) k :=
  ⟨by have := R.d; show A.depth + 1 + k < _; omega, by have := R.u; show A.units + 3 + 40 * k + 40 < _; omega, R.h, R.g⟩
theorem Rm.less {A : Around} {k j : Nat} (R : Rm A k) (h : j ≤ k := by omega) : Rm A j :=
  ⟨by have := R.d; omega, by have := R.u; omega, R.h, R.g⟩
theorem Rm.in1 {A : Around} {k : Nat} (R : Rm A (k + 1)) : Rm A.in1 k :=
  ⟨by have := R.d; show A.depth + k < _; omega, by have := R.u; show A.units + 1 + 40 * k + 40 < _; omega, R.h, R.g⟩

noncomputable abbrev FI.fd (i : FI) : FuncData := fnOf i.name i.qual i.params i.body i.scope .none .none .none i.pm none i.cdv .none
noncomputable abbrev FI.env (i : FI) (L : Addr) : Env := envX i.qual i.scope L i.f i.cdv (cellsFrom (L + 1) i.scope.names [])
noncomputable def scOK (sc : Scope) : Bool := !sc.isCoroutine && !sc.isGenerator && decide (sc.kind = .function) && nodupB ((cellsFrom 0 sc.names []).map (·.1)) &&
  (cellsFrom 0 sc.names []).all (fun p => sc.names.lookup p.1 == some .cell)
structure FnOK (P : Params) (i : FI) : Prop where
  lk : (KF P).lookup i.f = some ⟨.type "function", none, .func i.fd, #[]⟩
  code : codeIn (KF P) i.cdv i.qual = true
  sc : scOK i.scope = true
noncomputable def bindOK (sc : Scope) (binds : List (Str × Value)) : Bool := binds.all fun x => sc.names.lookup x.1 == some .local || (sc.names.lookup x.1 == some .cell && ((cellsFrom 0 sc.names []).map (·.1)).contains x.1)

theorem bindL_eq {kd : Str → Option NameKind} {x : Str} (hx : kd x = some .local) : ∀ (b : List (Str × Value)) (m : Str → Option Value), bindL kd b m x = (b.reverse.lookup x).or (m x)
  | [], m => rfl
  | (n, v) :: r, m => by
    unfold bindL
    rw [bindL_eq hx r, List.reverse_cons, List.lookup_append, Option.or_assoc]
    congr 1
    by_cases h : x = n
    · subst h; simp [hx]
    · have : (x == n) = false := beq_eq_false_iff_ne.mpr h
      simp only [List.lookup_cons, this, List.lookup_nil]
      split <;> simp [h]
theorem bindC_eq {kd : Str → Option NameKind} {x : Str} (hx : kd x ≠ some .local) : ∀ (b : List (Str × Value)) (m : Str → Option Value), bindC kd b m x = (b.reverse.lookup x).or (m x)
  | [], m => rfl
  | (n, v) :: r, m => by
    unfold bindC
    rw [bindC_eq hx r, List.reverse_cons, List.lookup_append, Option.or_assoc]
    congr 1
    by_cases h : x = n
    · subst h; simp [hx]
    · have : (x == n) = false := beq_eq_false_iff_ne.mpr h
      simp only [List.lookup_cons, this, List.lookup_nil]
      split <;> simp [h]
theorem lookup_isSome {α : Type} {x : Str} : ∀ {l : List (Str × α)}, (l.map (·.1)).contains x = true → (l.lookup x).isSome = true
  | [], h => by simp at h
  | (n, a) :: r, h => by
    rw [List.lookup_cons]
    cases hb : x == n with
    | true => rfl
    | false =>
      refine lookup_isSome (l := r) ?_
      simp only [List.map_cons, List.contains_cons, hb, Bool.false_or] at h
      exact h
theorem nodupB_iff : ∀ {l : List Str}, nodupB l = true → l.Nodup
  | [], _ => List.nodup_nil
  | x :: r, h => by
    simp only [nodupB, Bool.and_eq_true, Bool.not_eq_true', List.contains_eq_mem, decide_eq_false_iff_not] at h
    exact List.nodup_cons.mpr ⟨h.1, nodupB_iff h.2⟩
theorem cells_made {m : Str → Option Value} {h : Heap} : ∀ {cs : List (Str × Addr)}, (∀ n c, (n, c) ∈ cs → h.IsCell c (m n)) → ∃ co, An3 (CellsAre m cs co) (co.map (·.1) = cs.map (·.2)) (∀ p ∈ co, h.get? p.1 = some p.2)
  | [], _ => ⟨[], .nil, rfl, fun zz h => (nomatch h)⟩
  | (n, c) :: r, hx => by
    obtain ⟨co, a, b, d⟩ := cells_made (cs := r) fun n' c' hm => hx n' c' (.tail _ hm)
    obtain ⟨o, ho, hd⟩ := hx n c (.head _)
    refine ⟨(c, o) :: co, .cons hd a, by simp [b], fun p hp => ?_⟩
    rcases List.mem_cons.mp hp with rfl | hp
    · exact ho
    · exact d p hp

theorem enterC {G : Gh} {A : Around} {g : Heap} {mu : List (Addr × Obj)} {s : Shared} {i : FI} (hF : ∀ P, FnOK P i) {args : List Value} {binds : List (Str × Value)}
    {R : Result → Shared → Prop} {n : Nat}
    (H : Gl G g mu s) (Ro : Rm A (n + 1)) (hb : bindArgs i.fd ⟨args, []⟩ = pure binds) (hl : bindOK i.scope binds = true)
    (h : ∀ L s', Rm (A.deeper (i.env L)) n → At ⟨G, A.deeper (i.env L), i.env L, g, loc binds, mu⟩ s' →
      wpAny G.M (A.deeper (i.env L)) (execs i.body (i.env L)) (fun fl s'' => R (.ok (.ret (flV fl))) s'')
        (fun e s'' => wpAny G.M (A.deeper (i.env L)) (leaving (i.env L) e) (fun zz s3 => R (.error e) s3) (fun e s3 => R (.error e) s3) s'') s') :
    codeAny G.M A (.call (.ref i.f) ⟨args, []⟩) R s := by
  obtain ⟨hk, h1, hok⟩ := hF G.w.params
  simp only [scOK, Bool.and_eq_true, Bool.not_eq_true', decide_eq_true_eq, List.all_eq_true, beq_iff_eq] at hok
  obtain ⟨⟨⟨⟨h2, h3⟩, h4⟩, h5⟩, h6⟩ := hok
  have T : s.heap.NoLimit := by
    obtain ⟨_, _, _, _, _, T⟩ := H.base.T
    exact (T.keeps fun b o e => H.up _ _ (H.upH _ _ e)).nolimit
  have nms : ∀ n, (cellsFrom n i.scope.names []).map (·.1) = (cellsFrom 0 i.scope.names []).map (·.1) := fun n => cellsFrom_names _ _ _ _ _ rfl
  refine codeAny_call_function (fd := i.fd) (body := i.body) (by have := Ro.d; omega) (H.X _ _ hk) rfl h2 h3 rfl (codeRec_of H.X h1) (BindsTo.of_eq (s := s) hb _ _ _ _ ?_)
  refine wpAny_newFunctionEnv_cells h4 (fun x hx => ?_) fun env' he s' x => ?_
  · simp only [bindOK, List.all_eq_true, Bool.or_eq_true, Bool.and_eq_true, beq_iff_eq] at hl
    rcases hl x hx with q | ⟨q, r⟩
    · exact .inl q
    · exact .inr ⟨q, lookup_isSome (by show ((cellsFrom _ i.scope.names []).map (·.1)).contains x.1 = true; rw [nms]; exact r)⟩
  subst he
  refine ⟨T.keeps x.toInCall.keep, codeAny_func ?_⟩
  obtain ⟨h₁, tk, rfl, _⟩ := x.done
  refine h s.heap.objs.size _ Ro.deeper ?_
  have hndN : ((cellsFrom (s.heap.objs.size + 1) i.scope.names []).map (·.1)).Nodup := by rw [nms]; exact nodupB_iff h5
  have hkc : ∀ q ∈ cellsFrom (s.heap.objs.size + 1) i.scope.names [], i.scope.names.lookup q.1 = some .cell := fun q hq => by
    have : q.1 ∈ (cellsFrom 0 i.scope.names []).map (·.1) := nms (s.heap.objs.size + 1) ▸ List.mem_map_of_mem hq
    obtain ⟨q', hq', e⟩ := List.mem_map.mp this
    rw [← e]; exact h6 q' hq'
  obtain ⟨co, k1, k2, k3⟩ := cells_made (m := loc binds) (h := h₁) (cs := cellsFrom (s.heap.objs.size + 1) i.scope.names []) fun n c hm => by
    have := x.cell n c (lookup_of_mem_nodup hndN hm)
    have hne : Env.kindOf (i.env s.heap.objs.size) n ≠ some .local := by
      have : Env.kindOf (i.env s.heap.objs.size) n = some .cell := hkc (n, c) hm
      rw [this]; decide
    have e : bindC (Env.kindOf (i.env s.heap.objs.size)) binds (fun zz => none) n = loc binds n := by
      rw [bindC_eq hne]; simp
    exact e ▸ this
  obtain ⟨oL, es, ep, e1, e2, e3, e4⟩ := x.toInCall.ns
  have hk₁ := x.toInCall.keep
  have hlt : ∀ p ∈ mu, p.1 < s.heap.objs.size := fun p hp => Heap.lt_size (H.mus p hp).1
  have hcl : ∀ p ∈ co, s.heap.objs.size < p.1 := fun p hp => by
    have : p.1 ∈ co.map (·.1) := List.mem_map_of_mem hp
    rw [k2] at this
    obtain ⟨q, hq, e⟩ := List.mem_map.mp this
    have := x.above q.1 q.2 hq
    rw [e] at this; exact this
  have gs : ∀ b, s.heap.objs.size ≤ b → g.get? b = none := fun b hb => by
    cases q : g.get? b with
    | none => rfl
    | some o' => exact absurd (Heap.lt_size (H.up _ _ q)) (Nat.not_lt.mpr hb)
  refine ⟨oL, co, ⟨es, ep, e2, e3, fun name hn => ?_⟩, k1, H.base, H.upH, fun b o e => hk₁ b o (H.up b o e), fun p hp => ?_, ?_, H.gens, H.os⟩
  · rw [e4]
    show bindL (Env.kindOf (i.env s.heap.objs.size)) binds (fun zz => none) name = _
    rw [bindL_eq hn]; simp
  · rcases List.mem_cons.mp hp with rfl | hp
    · exact ⟨e1, gs _ (Nat.le_refl _)⟩
    rcases List.mem_append.mp hp with hp | hp
    · exact ⟨k3 p hp, gs _ (Nat.le_of_lt (hcl p hp))⟩
    · exact ⟨hk₁ _ _ (H.mus p hp).1, (H.mus p hp).2⟩
  · rw [List.map_cons, List.map_append, k2]
    refine List.nodup_cons.mpr ⟨fun hm => ?_, List.nodup_append.mpr ⟨?_, H.nd, ?_⟩⟩
    · rcases List.mem_append.mp hm with hm | hm
      · rw [← k2] at hm
        obtain ⟨p, hp, e⟩ := List.mem_map.mp hm
        have := hcl p hp
        rw [e] at this; exact Nat.lt_irrefl _ this
      · obtain ⟨p, hp, e⟩ := List.mem_map.mp hm
        have := hlt p hp
        rw [e] at this; exact Nat.lt_irrefl _ this
    · exact List.pairwise_map.mpr x.apart
    · intro a ha b hb e
      subst e
      rw [← k2] at ha
      obtain ⟨p, hp, e⟩ := List.mem_map.mp ha
      obtain ⟨q, hq, e'⟩ := List.mem_map.mp hb
      have := hcl p hp
      have h2 := hlt q hq
      rw [e] at this; rw [e'] at h2
      exact Nat.lt_irrefl _ (Nat.lt_trans this h2)
theorem enter {G : Gh} {A : Around} {g : Heap} {mu : List (Addr × Obj)} {s : Shared} {i : FI} (hF : ∀ P, FnOK P i) {args : List Value} {binds : List (Str × Value)}
    {Q : Value → Shared → Prop} {E : Value → Shared → Prop} {n : Nat}
    (H : Gl G g mu s) (R : Rm A (n + 1)) (hb : bindArgs i.fd ⟨args, []⟩ = pure binds) (hl : bindOK i.scope binds = true)
    (h : ∀ L s', Rm (A.deeper (i.env L)) n → At ⟨G, A.deeper (i.env L), i.env L, g, loc binds, mu⟩ s' →
      wpAny G.M (A.deeper (i.env L)) (execs i.body (i.env L)) (BodyK Q)
        (fun e s'' => wpAny G.M (A.deeper (i.env L)) (leaving (i.env L) e) (fun zz s3 => E e s3) E s'') s') :
    wpAny G.M A (call (.ref i.f) args) Q E s :=
  wpAny_call (enterC hF H R hb hl h)
theorem enter0 {G : Gh} {A : Around} {g : Heap} {mu : List (Addr × Obj)} {s : Shared} {i : FI} (hF : ∀ P, FnOK P i) {args : List Value} {binds : List (Str × Value)}
    {Q : Value → Shared → Prop} {E : Value → Shared → Prop} {n : Nat}
    (H : Gl G g mu s) (R : Rm A (n + 1)) (hb : bindArgs i.fd ⟨args, []⟩ = pure binds) (hl : bindOK i.scope binds = true)
    (h : ∀ L s', Rm (A.deeper (i.env L)) n → At ⟨G, A.deeper (i.env L), i.env L, g, loc binds, mu⟩ s' →
      wpAny G.M (A.deeper (i.env L)) (execs i.body (i.env L)) (BodyK Q) noE s') :
    wpAny G.M A (call (.ref i.f) args) Q E s :=
  enter hF H R hb hl fun L s' R' H' => wpAny_mono (h L s' R' H') (fun zz zz q => q) fun zz zz q => q.elim
end Mine
end
section
open PySem PySem.W PyProof.Rows PySem.Calls PySem.Builtin PySem.Builtin.Str
namespace Mine

noncomputable def nought : Heap := {}
theorem nought_get (b : Addr) : nought.get? b = none := by
  unfold nought Heap.get?
  simp
noncomputable def others (h : Heap) (ex : List Addr) : List (Addr × Obj) := (List.range h.objs.size).filterMap fun b => if b ∈ ex then none else (h.get? b).map fun o => (b, o)
theorem mem_others {h : Heap} {ex : List Addr} {p : Addr × Obj} : p ∈ others h ex ↔ h.get? p.1 = some p.2 ∧ p.1 ∉ ex := by
  unfold others
  rw [List.mem_filterMap]
  constructor
  · rintro ⟨b, hb, e⟩
    split at e
    · (first | subst e | cases e)
    · rename_i hn
      obtain ⟨o, ho, e'⟩ := Option.map_eq_some_iff.mp e
      subst e'
      exact ⟨ho, hn⟩
  · rintro ⟨h1, h2⟩
    refine ⟨p.1, List.mem_range.mpr (Heap.lt_size h1), ?_⟩
    rw [if_neg h2, h1]; rfl
section
variable {c : Cx} {s : Shared}
theorem At.fr0 (H : At c s) : ∃ m', Fr nought c.env.locals s.heap m' ∧ ∀ x, c.env.kindOf x = some .local → m' x = c.m x :=
  let ⟨m', h, e⟩ := H.ns
  ⟨m', ⟨h, fun b o q => (by rw [nought_get] at q; (first | subst q | cases q)), Nat.zero_le _⟩, e⟩
theorem news_zero {h : Heap} {L : Addr} {l : List (Addr × Obj)} (hl : ∀ p ∈ l, h.get? p.1 = some p.2 ∧ p.1 ≠ L) : News nought L h l := fun p hp => ⟨(hl p hp).1, (hl p hp).2, nought_get _⟩
theorem news_others {h : Heap} {L : Addr} {ex : List Addr} (hL : L ∈ ex) : News nought L h (others h ex) := news_zero fun p hp => by
  obtain ⟨h1, h2⟩ := mem_others.mp hp
  exact ⟨h1, fun e => h2 (e ▸ hL)⟩
theorem Gl.rebuild {G : Gh} {g : Heap} {ν ν' r : List (Addr × Obj)} {h' : Heap} (H : Gl G g (ν ++ r) s) (hk : ∀ b o, b ∉ ν.map (·.1) → s.heap.get? b = some o → h'.get? b = some o)
    (hν : ∀ p ∈ ν', h'.get? p.1 = some p.2) (hf : ∀ p ∈ ν', p.1 ∈ ν.map (·.1) ∨ s.heap.get? p.1 = none) (hnd : (ν'.map (·.1)).Nodup) (t : Nat) : Gl G g (ν' ++ r) { s with heap := h', toks := t } := by
  have nd := H.nd
  rw [List.map_append] at nd
  obtain ⟨n1, n2, n3⟩ := List.nodup_append.mp nd
  have gnone : ∀ b, (b ∈ ν.map (·.1) ∨ s.heap.get? b = none) → g.get? b = none := fun b hb => by
    rcases hb with hb | hb
    · obtain ⟨p, hp, e⟩ := List.mem_map.mp hb
      exact e ▸ (H.mus p (List.mem_append_left _ hp)).2
    · cases q : g.get? b with
      | none => rfl
      | some o => have := H.up _ _ q; rw [hb] at this; cases this
  refine ⟨H.base, H.upH, fun b o e => hk b o (fun hm => ?_) (H.up b o e), fun p hp => ?_, ?_, H.gens, H.os⟩
  · rw [gnone b (.inl hm)] at e; (first | subst e | cases e)
  · rcases List.mem_append.mp hp with hp | hp
    · exact ⟨hν p hp, gnone _ (hf p hp)⟩
    · have := H.mus p (List.mem_append_right _ hp)
      exact ⟨hk _ _ (fun hm => n3 _ hm _ (List.mem_map_of_mem hp) rfl) this.1, this.2⟩
  · rw [List.map_append]
    refine List.nodup_append.mpr ⟨hnd, n2, fun a ha b hb e => ?_⟩
    subst e
    obtain ⟨p, hp, e⟩ := List.mem_map.mp ha
    rcases hf p hp with q | q
    · rw [e] at q; exact n3 _ q _ hb rfl
    · obtain ⟨p', hp', e'⟩ := List.mem_map.mp hb
      have := (H.mus p' (List.mem_append_right _ hp')).1
      rw [e', ← e, q] at this; cases this
theorem At.rebuild {μ μ' r : List (Addr × Obj)} {h' : Heap} {m'' : Str → Option Value} (H : At { c with mu := μ ++ r } s) (hn : h'.Ns c.env.locals m'') (hm : ∀ x, c.env.kindOf x = some .local → m'' x = c.m x)
    (hk : ∀ b o, b ∉ c.env.locals :: μ.map (·.1) → s.heap.get? b = some o → h'.get? b = some o) (hμ : ∀ p ∈ μ', h'.get? p.1 = some p.2) (hf : ∀ p ∈ μ', p.1 ∈ μ.map (·.1) ∨ s.heap.get? p.1 = none)
    (hnd : (c.env.locals :: μ'.map (·.1)).Nodup) (t : Nat) : At { c with mu := μ' ++ r } { s with heap := h', toks := t } := by
  obtain ⟨oL, co, l, k, g⟩ := H
  obtain ⟨o', es, ep, e1, e2, e3, e4⟩ := hn
  have g1 : Gl c.G c.g (((c.env.locals, oL) :: μ) ++ (co ++ r)) s := g.perm ((perm_frontL ..).trans List.perm_middle)
  refine ⟨o', co, ⟨es, ep, e2, e3, fun name h => (e4 name).trans (hm name h)⟩, k, (Gl.rebuild (ν' := (c.env.locals, o') :: μ') g1 (fun b o hb => hk b o (by simpa using hb)) (fun p hp => ?_) (fun p hp => ?_) hnd t).perm ((perm_frontL ..).trans List.perm_middle).symm⟩
  · rcases List.mem_cons.mp hp with rfl | hp
    · exact e1
    · exact hμ p hp
  · rcases List.mem_cons.mp hp with rfl | hp
    · exact .inl (by simp)
    · exact (hf p hp).imp (fun q => List.mem_cons_of_mem _ q) id
end

theorem At.setattr {c : Cx} {s : Shared} {x C dx : Addr} {es : List DictEntry} {n : Nat} {r : List (Addr × Obj)} {name : Str} {v : Value} {Q : Unit → Shared → Prop} {E : Value → Shared → Prop}
    (H : At { c with mu := (dx, dictOf es n) :: r } s) (hx : s.heap.get? x = some (instObj C dx))
    (hs : findIn (KF c.G.w.params) (.ref C) "__setattr__" = some (some (.builtin "object.__setattr__"))) (hp : plainOver (KF c.G.w.params) C = true) (ht : takerIn (KF c.G.w.params) C name = some none) (hh : hasDictIn (KF c.G.w.params) C = true)
    (hl : (getL name es).isSome = true) (hz : (putL name (PyData.keyHash c.G.w.params name) (.str name (s.toks + 1)) v es).length ≤ 1000)
    (k : ∀ s', At { c with mu := (dx, dictOf (putL name (PyData.keyHash c.G.w.params name) (.str name (s.toks + 1)) v es) (putN name es n)) :: r } s' → Q () s') :
    wpAny c.G.M c.A (setAttr (.ref x) name v) Q E s := by
  obtain ⟨m', F, hm⟩ := H.fr0
  have hd : s.heap.get? dx = some (dictOf es n) := H.get (.head _)
  have nL : dx ≠ c.env.locals := fun e => by
    obtain ⟨oL, co, l, kk, g⟩ := H
    have := (List.nodup_cons.mp g.nd).1
    exact this (by simp [e])
  have N : News nought c.env.locals s.heap ([] ++ (dx, dictOf es n) :: others s.heap [c.env.locals, dx]) := fun p hp => by
    rcases List.mem_cons.mp hp with rfl | hp
    · exact ⟨hd, nL, nought_get _⟩
    · exact news_others (by simp) p hp
  have I : InstAt s.heap x (instObj C dx) C (some (dictOf es n)) := ⟨hx, rfl, rfl, hd⟩
  refine set_plain H.X I hs ?_
  refine osa_dict (s := { s with toks := s.toks + 1 }) F N H.X I rfl hp ht hh (by rw [lookIn_dict]; exact hl) (fun p hp => (nomatch hp)) (fun p hp e => ?_) (putName_dict ..) rfl hz fun h' F' N' => k _ ?_
  · exact (mem_others.mp hp).2 (by simp [e])
  · refine At.rebuild (c := c) (μ := [(dx, dictOf es n)]) (μ' := [(dx, _)]) (r := r) H F'.ns hm (fun b o hb e => ?_) (fun p hp => ?_) (fun p hp => ?_) ?_ _
    · exact (N' (b, o) (.tail _ (mem_others.mpr ⟨e, by simpa using hb⟩))).1
    · obtain rfl := List.mem_singleton.mp hp
      exact (N' _ (.head _)).1
    · obtain rfl := List.mem_singleton.mp hp
      exact .inl (by simp)
    · simp [Ne.symm nL]
theorem ex_setattr {G : Gh} {A : Around} {env : Env} {g : Heap} {m : Str → Option Value} {s : Shared} {n : Str} {np ap pos : Pos} {x C dx : Addr} {es : List DictEntry} {k : Nat} {r : List (Addr × Obj)} {name : Str} {e : PySem.Expr} {P : Value → Prop} {rest : List Stmt} {Q : Flow → Shared → Prop} {E : Value → Shared → Prop}
    (H : At ⟨G, A, env, g, m, (dx, dictOf es k) :: r⟩ s) (he : PE ⟨G, A, env, g, m, (dx, dictOf es k) :: r⟩ e P) (hs : PE ⟨G, A, env, g, m, (dx, dictOf es k) :: r⟩ (.Name n np) (VE (.ref x)))
    (hx : ∀ s', At ⟨G, A, env, g, m, (dx, dictOf es k) :: r⟩ s' → s'.heap.get? x = some (instObj C dx))
    (h1 : findIn (KF G.w.params) (.ref C) "__setattr__" = some (some (.builtin "object.__setattr__"))) (hp : plainOver (KF G.w.params) C = true) (ht : takerIn (KF G.w.params) C name = some none) (hh : hasDictIn (KF G.w.params) C = true)
    (hl : (getL name es).isSome = true) (hz : ∀ t v, (putL name (PyData.keyHash G.w.params name) (.str name t) v es).length ≤ 1000)
    (kk : ∀ v t s', P v → At ⟨G, A, env, g, m, (dx, dictOf (putL name (PyData.keyHash G.w.params name) (.str name t) v es) (putN name es k)) :: r⟩ s' → wpAny G.M A (execs rest env) Q E s')
    (hsw : swapsWith e (some (.Attribute (.Name n np) name ap)) pos.line env = pure false := by rfl) :
    wpAny G.M A (execs (.Assign [.Attribute (.Name n np) name ap] e pos :: rest) env) Q E s :=
  ex_step (plainObj_wpAny_Assign_Attribute (he s _ _ H fun v s₁ p H₁ => hs s₁ _ _ H₁ fun u s₂ q H₂ => by
    (first | subst q | cases q)
    exact At.setattr (c := ⟨G, A, env, g, m, []⟩) H₂ (hx _ H₂) h1 hp ht hh hl (hz _ _) fun s₃ H₃ => kk v _ s₃ p H₃) hsw)
end Mine
end
section
open PySem PySem.W PyProof.Rows PySem.Calls PySem.Builtin PySem.Builtin.Str
namespace Mine

structure XB where
  B : Heap
  fr : List (Addr × Obj)
  os : OsState

noncomputable def Stk (X : XB) (outer : List Env) (mu : List (Addr × Obj)) : Prop :=
  (∀ env ∈ outer, env.scope.kind ≠ .module ∧ Ex2 fun L o => An3 (env.frame = some L) ((L, o) ∈ mu) (∀ vs, o.data ≠ .fields vs)) ∧
  ∀ p ∈ X.fr, ∃ sl, (p.1, ({ p.2 with slots := sl } : Obj)) ∈ mu ∧ ∀ vs, p.2.data ≠ .fields vs
theorem Stk.mono {X : XB} {outer : List Env} {mu mu' : List (Addr × Obj)} (h : Stk X outer mu) (k : ∀ p ∈ mu, p ∈ mu') : Stk X outer mu' :=
  ⟨fun env he => let ⟨a, L, o, b, c, d⟩ := h.1 env he; ⟨a, L, o, b, k _ c, d⟩, fun p hp => let ⟨sl, a, b⟩ := h.2 p hp; ⟨sl, k _ a, b⟩⟩

noncomputable def Fly (X : XB) (outer : List Env) (e : Value) (s : Shared) : Prop :=
  Ex2 fun a a0 => An5 (e = .ref a) (Heap.FlyingW X.B outer a (.ref 31) a0 s.heap) ((∀ p ∈ X.fr, (∀ vs, p.2.data ≠ .fields vs) ∧ ∃ sl, s.heap.get? p.1 = some { p.2 with slots := sl })) (s.gens = #[]) (s.os = X.os)
noncomputable def Held (X : XB) (outer : List Env) (L : Addr) (e : Value) (s : Shared) : Prop :=
  Ex2 fun a a0 => An5 (e = .ref a) (Heap.HeldW X.B outer a (.ref 31) a0 L s.heap) ((∀ p ∈ X.fr, (∀ vs, p.2.data ≠ .fields vs) ∧ ∃ sl, s.heap.get? p.1 = some { p.2 with slots := sl })) (s.gens = #[]) (s.os = X.os)
noncomputable def FH (X : XB) (env : Env) (outer : List Env) (e : Value) (s : Shared) : Prop := Fly X (env :: outer) e s ∨ ∃ L, env.frame = some L ∧ Held X (env :: outer) L e s

theorem fr_upTo {X : XB} {h h' : Heap} (u : h.UpToSlots h') (k : ∀ p ∈ X.fr, (∀ vs, p.2.data ≠ .fields vs) ∧ ∃ sl, h.get? p.1 = some { p.2 with slots := sl }) :
    ∀ p ∈ X.fr, (∀ vs, p.2.data ≠ .fields vs) ∧ ∃ sl, h'.get? p.1 = some { p.2 with slots := sl } := fun p hp => by
  obtain ⟨a, sl, b⟩ := k p hp
  obtain ⟨sl', b'⟩ := u _ _ b a
  exact ⟨a, sl', b'⟩
section
variable {M : Model} {A : Around} {E E' : Value → Shared → Prop} {X : XB} {env : Env} {outer : List Env} {e : Value} {s : Shared} {L : Addr}
theorem fly_leaves (hA : A.frames = some (env :: outer)) (hf : env.frame = some L) (h : FH X env outer e s) (k : ∀ s', Fly X outer e s' → E e s') : wpAny M A (leaving env e) (fun zz s' => E e s') E' s := by
  rcases h with ⟨a, a0, rfl, h1, h2, h3, h4⟩ | ⟨L', hf', a, a0, rfl, h1, h2, h3, h4⟩
  · exact wpAny_leaves_onW hA hf h1 fun h' f u => k _ ⟨a, a0, rfl, f, fr_upTo u h2, h3, h4⟩
  · obtain rfl : L' = L := by rw [hf] at hf'; exact (Option.some.inj hf').symm
    unfold leaving
    refine wpAny_bind (wpAny_noteFrame_againW hf h1.2.2.2 ?_)
    refine wpAny_landsW h1 fun h' hfl u => ?_
    obtain ⟨k1, k2, ⟨_, _, k3⟩, k4⟩ := hfl
    exact k _ ⟨a, a0, rfl, ⟨k1, k2, k3, k4⟩, fr_upTo u h2, h3, h4⟩
theorem held_back (hf : env.frame = some L) (h : Held X (env :: outer) L e s) (k : ∀ s', Held X (env :: outer) L e s' → E e s') : cameBackBy M A env E e s := by
  obtain ⟨a, a0, rfl, ⟨f1, f2, f3, f4⟩, h2, h3, h4⟩ := h
  obtain ⟨oe, vs, T, oT, ts, he, hc, hd, h1, hnT, hTe, hT, hdT, h5⟩ := f4
  have hsz : 3 < ts.size := (Array.getElem?_eq_some_iff.mp h5).1
  unfold cameBackBy
  refine wpAny_bind (wpAny_field he hd h1 ?_)
  rw [if_neg (by simp)]
  unfold setFlight
  refine wpAny_bind (wpAny_field he hd h1 ?_)
  rw [if_pos (show (Value.ref T != Value.none) = true from by simp)]
  have other : ∀ b, b ≠ T → (s.heap.update T (Obj.mapFields (·.setIfInBounds 3 (env.frame.elim Value.none fun f => rawInt f)))).get? b = s.heap.get? b := fun b hb => Heap.get?_update_other _ _ (Ne.symm hb)
  have noRecord : ∀ b o, s.heap.get? b = some o → (∀ vs, o.data ≠ .fields vs) → b ≠ T := fun b o hb hnf q => by
    rw [q, hT] at hb; injection hb with hb; subst hb; exact hnf ts hdT
  refine wpAny_setField hT hdT hsz (k _ ⟨a, a0, rfl, ⟨fun b o hb => ?_, f2, ?_, ?_⟩, fun p hp => ?_, h3, h4⟩)
  · exact (other b fun q => by rw [q, hnT] at hb; cases hb).trans (f1 b o hb)
  · exact f3.of_keeps fun b o hb hnf => ⟨o, (other b (noRecord b o hb hnf)).trans hb, rfl⟩
  · refine ⟨oe, vs, T, _, _, (other a (Ne.symm hTe)).trans he, hc, hd, h1, hnT, hTe, Heap.get?_update_self _ hT (Obj.isFreed_of_fields (Obj.data_mapFields hdT _)), Obj.data_mapFields hdT _, ?_⟩
    rw [hf]
    simp [hsz]
  · obtain ⟨n, sl, q⟩ := h2 p hp
    exact ⟨n, sl, (other _ (noRecord _ _ q n)).trans q⟩
theorem fh_noted (hA : A.frames = some (env :: outer)) (hf : env.frame = some L) (h : FH X env outer e s) (k : ∀ s', FH X env outer e s' → E e s') :
    notedBy M A env (fun e s' => cameBackBy M A env E e s') e s := by
  rcases h with ⟨a, a0, rfl, h1, h2, h3, h4⟩ | ⟨L', hf', a, a0, rfl, h1, h2, h3, h4⟩
  · exact wpAny_looks_onW hA hf h1 fun h' f u => held_back hf ⟨a, a0, rfl, f, fr_upTo u h2, h3, h4⟩ fun s' q => k s' (.inr ⟨L, hf, q⟩)
  · obtain rfl : L' = L := by rw [hf] at hf'; exact (Option.some.inj hf').symm
    exact wpAny_noteFrame_againW hf h1.2.2.2 (held_back hf ⟨a, a0, rfl, h1, h2, h3, h4⟩ fun s' q => k s' (.inr ⟨L', hf, q⟩))
end

theorem Gl.funFrames {G : Gh} {g : Heap} {mu : List (Addr × Obj)} {s : Shared} {X : XB} {outer : List Env} (H : Gl G g mu s) (u : Up X.B g) (k : Stk X outer mu) :
    X.B.StaysIn s.heap ∧ s.heap.FunFrames X.B outer ∧ ∀ p ∈ X.fr, (∀ vs, p.2.data ≠ .fields vs) ∧ ∃ sl, s.heap.get? p.1 = some { p.2 with slots := sl } := by
  refine ⟨fun b o e => H.up _ _ (u _ _ e), ?_, fun p hp => let ⟨sl, a, b⟩ := k.2 p hp; ⟨b, sl, (H.mus _ a).1⟩⟩
  have h1 := k.1
  clear k
  induction outer with
  | nil => trivial
  | cons env r ih =>
    obtain ⟨a, L, o, b, c, d⟩ := h1 env (.head _)
    refine ⟨a, ⟨L, o, b, ?_, (H.mus _ c).1, d⟩, ih fun e he => h1 e (.tail _ he)⟩
    cases q : X.B.get? L with
    | none => rfl
    | some o' => have := (H.mus _ c).2; rw [u _ _ q] at this; cases this
end Mine
end
section
open PySem PySem.W PyProof.Rows PySem.Calls PySem.Builtin PySem.Builtin.Str
namespace Mine
set_option maxRecDepth 100000

inductive LD (l : List Nat) (p ln : Nat) (o : Obj) : Prop
  | mk (h1 h2 h3 : Int) (k1 k2 k3 t1 t2 t3 n : Nat) (e : o = dictOf [⟨h1, .str "text" k1, .str (S l) t1⟩, ⟨h2, .str "place" k2, .int (p : Int) t2⟩, ⟨h3, .str "line" k3, .int (ln : Int) t3⟩] n) : LD l p ln o
theorem ld_get {l : List Nat} {name : Str} (h1 : (Str.ofString "text" == name) = false) (h2 : (Str.ofString "place" == name) = false) (h3 : (Str.ofString "line" == name) = false) : ∀ p ln o, LD l p ln o → Ex2 fun es k => o = dictOf es k ∧ getL name es = some none := by
  rintro p ln o ⟨a1, a2, a3, k1, k2, k3, t1, t2, t3, n, e⟩
  refine ⟨_, n, e, ?_⟩
  show (match (List.find? (fun z : DictEntry => z.key.isStr name) _) with | some e => some (some e.val) | none => if List.any _ (fun z : DictEntry => z.refKey) then none else some none) = _
  rw [List.find?_cons, show Value.isStr (.str "text" k1) name = false from h1, List.find?_cons, show Value.isStr (.str "place" k2) name = false from h2, List.find?_cons, show Value.isStr (.str "line" k3) name = false from h3, List.find?_nil]
  rfl
inductive LR (l r : List Nat) (o : Obj) : Prop
  | mk (p ln : Nat) (a : p ≤ l.length) (b : l.drop p = r) (c : LD l p ln o) : LR l r o
structure PC where
  G : Gh
  l : List Nat
  x : Addr
  dx : Addr
  X : XB
  hz : l.length ≤ 16777216
  hn : (l.filter fun c => !(c == 32)).count 10 < 64
  hos : X.os = G.os
inductive Li (pc : PC) (g : Heap) (ρ : List (Addr × Obj)) (r : List Nat) (s : Shared) : Prop
  | mk (o : Obj) (a : LR pc.l r o) (b : Gl pc.G g ((pc.dx, o) :: ρ) s) (c : g.get? pc.x = some (instObj 212 pc.dx)) (d : Up pc.X.B g) : Li pc g ρ r s
inductive La (pc : PC) (A : Around) (env : Env) (ρ : List (Addr × Obj)) (g : Heap) (m : Str → Option Value) (r : List Nat) (s : Shared) : Prop
  | mk (o : Obj) (a : LR pc.l r o) (b : At ⟨pc.G, A, env, g, m, (pc.dx, o) :: ρ⟩ s) (c : g.get? pc.x = some (instObj 212 pc.dx)) (d : Up pc.X.B g) : La pc A env ρ g m r s
structure Wk (pc : PC) (A : Around) (env : Env) (ρ : List (Addr × Obj)) (outer : List Env) (n : Nat) : Prop where
  rm : Rm A n
  fr : A.frames = some (env :: outer)
  frame : env.frame = some env.locals
  kind : env.scope.kind ≠ .module
  stk : Stk pc.X outer ρ

noncomputable def PSpec (pc : PC) (n : Nat) (f : Addr) (args : List Value) (g₀ : Heap) {α : Type} (F : List Nat → Option (α × List Nat)) (V : Heap → α → Value → Prop) : Prop :=
  ∀ A outer g ρ r s Q E, Up g₀ g → Li pc g ρ r s → Rm A n → A.frames = some outer → Stk pc.X outer ρ →
    (∀ a r' v s' g', F r = some (a, r') → Up g g' → V g' a v → Li pc g' ρ r' s' → Q v s') →
    (∀ e s', F r = none → Fly pc.X outer e s' → E e s') → wpAny pc.G.M A (call (.ref f) args) Q E s

theorem La.li {pc : PC} {A : Around} {env : Env} {ρ : List (Addr × Obj)} {g : Heap} {m : Str → Option Value} {r : List Nat} {s : Shared} (H : La pc A env ρ g m r s) : Li pc g ρ r s :=
  let ⟨o, a, b, c, d⟩ := H; ⟨o, a, b.gl, c, d⟩
theorem La.put_ {pc : PC} {A : Around} {env : Env} {ρ : List (Addr × Obj)} {g : Heap} {m : Str → Option Value} {r : List Nat} {s : Shared} {x : Str} {v : Value} {U : Unit → Shared → Prop} {E : Value → Shared → Prop}
    (H : La pc A env ρ g m r s) (hl : stOK env x = true) (k : ∀ s', La pc A env ρ g (put m x v) r s' → U () s') : wpAny pc.G.M A (storeName env x v) U E s := by
  obtain ⟨o, a, b, c, d⟩ := H
  exact At.store (c := ⟨pc.G, A, env, g, m, (pc.dx, o) :: ρ⟩) b hl fun s' h' => k s' ⟨o, a, h', c, d⟩

theorem enterP {pc : PC} {A : Around} {outer : List Env} {g : Heap} {ρ : List (Addr × Obj)} {r : List Nat} {s : Shared} {i : FI} (C : Prop) (hF : ∀ P, FnOK P i) {args : List Value} {binds : List (Str × Value)}
    {Q E : Value → Shared → Prop} {n : Nat} (H : Li pc g ρ r s) (R : Rm A (n + 1)) (hA : A.frames = some outer) (hS : Stk pc.X outer ρ) (kE : ∀ e s', C → Fly pc.X outer e s' → E e s')
    (hb : bindArgs i.fd ⟨args, []⟩ = pure binds) (hl : bindOK i.scope binds = true)
    (h : ∀ L s', Wk pc (A.deeper (i.env L)) (i.env L) ρ outer n → La pc (A.deeper (i.env L)) (i.env L) ρ g (loc binds) r s' →
      wpAny pc.G.M (A.deeper (i.env L)) (execs i.body (i.env L)) (BodyK Q) (fun e s'' => C ∧ FH pc.X (i.env L) outer e s'') s') :
    wpAny pc.G.M A (call (.ref i.f) args) Q E s := by
  obtain ⟨o, h1, h2, h3, h4⟩ := H
  have hk : i.scope.kind = .function := by
    have := (hF pc.G.w.params).sc
    simp only [scOK, Bool.and_eq_true, decide_eq_true_eq] at this
    exact this.1.1.2
  refine enter hF h2 R hb hl fun L s' R' H' => ?_
  have hfr : (A.deeper (i.env L)).frames = some (i.env L :: outer) := Around.frames_deeper hA
  refine wpAny_mono (h L s' ⟨R', hfr, rfl, by show i.scope.kind ≠ _; rw [hk]; decide, hS⟩ ⟨o, h1, H', h3, h4⟩) (fun zz zz q => q) fun e s'' q => ?_
  exact fly_leaves hfr rfl q.2 fun s3 q3 => kE _ _ q.1 q3

section
variable {pc : PC} {A : Around} {env : Env} {ρ : List (Addr × Obj)} {outer : List Env} {n n' : Nat} {g : Heap} {m : Str → Option Value} {r : List Nat} {s : Shared} {Q E : Value → Shared → Prop} {np pos apos : Pos}
  {α : Type} {F : List Nat → Option (α × List Nat)} {V : Heap → α → Value → Prop}
theorem La.callee (W : Wk pc A env ρ outer n) (H : La pc A env ρ g m r s) : Ex2 fun oL co => An4 (Loc env m oL) (CellsAre m env.cells co) (Li pc g ((env.locals, oL) :: (co ++ ρ)) r s) (Stk pc.X (env :: outer) ((env.locals, oL) :: (co ++ ρ))) := by
  obtain ⟨o, a, ⟨oL, co, l, k, gl⟩, c, d⟩ := H
  obtain ⟨es, ep, e1, _⟩ := id l
  refine ⟨oL, co, l, k, ⟨o, a, gl.perm (perm_front ..), c, d⟩, ⟨fun e he => ?_, fun p hp => ?_⟩⟩
  · rcases List.mem_cons.mp he with rfl | he
    · exact ⟨W.kind, e.locals, oL, W.frame, .head _, fun vs q => by rw [e1] at q; cases q⟩
    · obtain ⟨x1, L, o', x2, x3, x4⟩ := W.stk.1 e he
      exact ⟨x1, L, o', x2, .tail _ (List.mem_append_right _ x3), x4⟩
  · obtain ⟨sl, x1, x2⟩ := W.stk.2 p hp
    exact ⟨sl, .tail _ (List.mem_append_right _ x1), x2⟩
theorem La.back {oL : Obj} {co : List (Addr × Obj)} {g' : Heap} {r' : List Nat} {s' : Shared} (l : Loc env m oL) (k : CellsAre m env.cells co) (H : Li pc g' ((env.locals, oL) :: (co ++ ρ)) r' s') : La pc A env ρ g' m r' s' := by
  obtain ⟨o, a, gl, c, d⟩ := H
  exact ⟨o, a, ⟨oL, co, l, k, gl.perm (perm_front ..).symm⟩, c, d⟩
theorem la_call {f : Addr} {args : List Value} {g₀ : Heap} (W : Wk pc A env ρ outer n) (H : La pc A env ρ g m r s) (hs : PSpec pc n' f args g₀ F V) (u : Up g₀ g) (hn : n' ≤ n)
    (k : ∀ a r' v s' g', F r = some (a, r') → Up g g' → V g' a v → La pc A env ρ g' m r' s' → Q v s') (kE : ∀ e s', F r = none → FH pc.X env outer e s' → E e s') :
    wpAny pc.G.M A (call (.ref f) args) Q E s := by
  obtain ⟨oL, co, l, kc, h1, h2⟩ := H.callee W
  exact hs A (env :: outer) g _ r s Q E u h1 (W.rm.less hn) W.fr h2 (fun a r' v s' g' e u' hv h' => k a r' v s' g' e u' hv (La.back l kc h')) fun e s' q f => kE e s' q (.inl f)

theorem la_meth {nm name : Str} {f : Addr} {e : PySem.Expr} {es : List PySem.Expr} {P : List Value → Prop} (W : Wk pc A env ρ outer n) (H : La pc A env ρ g m r s)
    (hs : ∀ mu, PE ⟨pc.G, A, env, g, m, mu⟩ (.Name nm np) (VE (.ref pc.x))) (ha : ∀ mu, PA ⟨pc.G, A, env, g, m, mu⟩ (e :: es) P) {pl : Sem Bool}
    (hm : methOK (KF pc.G.w.params) 212 name f = true) (hi : fnIs (KF pc.G.w.params) f = true) (hl : ∀ p ln o, LD pc.l p ln o → Ex2 fun es k => o = dictOf es k ∧ getL name es = some none)
    (sp : ∀ vs, P vs → PSpec pc n' f (.ref pc.x :: vs) g F V) (hn : n' ≤ n)
    (k : ∀ a r' v s' g', F r = some (a, r') → Up g g' → V g' a v → La pc A env ρ g' m r' s' → Q v s') (kE : ∀ e s', F r = none → FH pc.X env outer e s' → E e s')
    (hst : starEach (e :: es) env = (false, eval e env) :: starEach es env := by rfl)
    (he : eval (.Call (.Attribute (.Name nm np) name apos) (e :: es) [] pos) env = (do
      let ov ← eval (.Name nm np) env
      standAt apos.atName
      let (f, first) ← holding [ov] (getMethod ov name pl)
      callWith pos f first (backTo pos (starEach (e :: es) env)) (backToKw pos (keywordEach [] env))) := by rfl) :
    wpAny pc.G.M A (eval (.Call (.Attribute (.Name nm np) name apos) (e :: es) [] pos) env) Q E s := by
  obtain ⟨o, a, b, c, d⟩ := H
  obtain ⟨p, ln, x1, x2, x3⟩ := id a
  obtain ⟨des, dk, rfl, hg⟩ := hl p ln o x3
  refine c_meth (pl := pl) b (hs _) (.inr c) (.inl (.head _)) hm hg hi (ha _) (fun vs s' pv h' => ?_) hst he
  exact la_call W ⟨_, a, h', c, d⟩ (sp vs pv) Up.rfl hn k kE
theorem la_meth0 {nm name : Str} {f : Addr} (W : Wk pc A env ρ outer n) (H : La pc A env ρ g m r s)
    (hs : ∀ mu, PE ⟨pc.G, A, env, g, m, mu⟩ (.Name nm np) (VE (.ref pc.x))) {pl : Sem Bool}
    (hm : methOK (KF pc.G.w.params) 212 name f = true) (hl : ∀ p ln o, LD pc.l p ln o → Ex2 fun es k => o = dictOf es k ∧ getL name es = some none)
    (sp : PSpec pc n' f [.ref pc.x] g F V) (hn : n' ≤ n)
    (k : ∀ a r' v s' g', F r = some (a, r') → Up g g' → V g' a v → La pc A env ρ g' m r' s' → Q v s') (kE : ∀ e s', F r = none → FH pc.X env outer e s' → E e s')
    (he : eval (.Call (.Attribute (.Name nm np) name apos) [] [] pos) env = (do
      let ov ← eval (.Name nm np) env
      standAt apos.atName
      let (f, first) ← holding [ov] (getMethod ov name pl)
      callWith pos f first (backTo pos (starEach [] env)) (backToKw pos (keywordEach [] env))) := by rfl) :
    wpAny pc.G.M A (eval (.Call (.Attribute (.Name nm np) name apos) [] [] pos) env) Q E s := by
  obtain ⟨o, a, b, c, d⟩ := H
  obtain ⟨p, ln, x1, x2, x3⟩ := id a
  obtain ⟨des, dk, rfl, hg⟩ := hl p ln o x3
  refine c_meth0 (pl := pl) b (hs _) (.inr c) (.inl (.head _)) hm hg (fun s' h' => ?_) he
  exact la_call W ⟨_, a, h', c, d⟩ sp Up.rfl hn k kE
theorem la_def {nm : Str} {f : Addr} {e : PySem.Expr} {es : List PySem.Expr} {P : List Value → Prop} (W : Wk pc A env ρ outer n) (H : La pc A env ρ g m r s)
    (hf : ∀ mu, PE ⟨pc.G, A, env, g, m, mu⟩ (.Name nm np) (VE (.ref f))) (hi : fnIs (KF pc.G.w.params) f = true) (ha : ∀ mu, PA ⟨pc.G, A, env, g, m, mu⟩ (e :: es) P)
    (sp : ∀ vs, P vs → PSpec pc n' f vs g F V) (hn : n' ≤ n)
    (k : ∀ a r' v s' g', F r = some (a, r') → Up g g' → V g' a v → La pc A env ρ g' m r' s' → Q v s') (kE : ∀ e s', F r = none → FH pc.X env outer e s' → E e s')
    (he : starEach (e :: es) env = (false, eval e env) :: starEach es env := by rfl)
    (hc : eval (.Call (.Name nm np) (e :: es) [] pos) env = (do let f ← eval (.Name nm np) env; callWith pos f [] (backTo pos (starEach (e :: es) env)) (backToKw pos (keywordEach [] env))) := by rfl) :
    wpAny pc.G.M A (eval (.Call (.Name nm np) (e :: es) [] pos) env) Q E s := by
  obtain ⟨o, a, b, c, d⟩ := H
  refine c_def b (hf _) hi (ha _) (fun vs s' pv h' => ?_) he hc
  exact la_call W ⟨_, a, h', c, d⟩ (sp vs pv) Up.rfl hn k kE
end

section
variable {pc : PC} {A : Around} {env : Env} {ρ : List (Addr × Obj)} {g : Heap} {m : Str → Option Value} {r : List Nat} {s : Shared} {Q : Flow → Shared → Prop} {E : Value → Shared → Prop} {pos : Pos} {rest : List Stmt}
theorem la_if {t : PySem.Expr} {b : List Stmt} {d : Bool} (H : La pc A env ρ g m r s) (ht : ∀ mu, PT ⟨pc.G, A, env, g, m, mu⟩ t d) (k1 : d = true → ∀ s', La pc A env ρ g m r s' → wpAny pc.G.M A (execs b env) (Nx pc.G A env rest Q E) E s')
    (k0 : d = false → ∀ s', La pc A env ρ g m r s' → wpAny pc.G.M A (execs rest env) Q E s') : wpAny pc.G.M A (execs (.If t b [] pos :: rest) env) Q E s := by
  obtain ⟨o, a, b', c, d'⟩ := H
  exact ex_if b' (ht _) (fun h s' h' => k1 h s' ⟨o, a, h', c, d'⟩) fun h s' h' => k0 h s' ⟨o, a, h', c, d'⟩
theorem la_ret {e : PySem.Expr} {P : Value → Prop} (H : La pc A env ρ g m r s) (he : ∀ mu, PE ⟨pc.G, A, env, g, m, mu⟩ e P) (k : ∀ v s', P v → La pc A env ρ g m r s' → Q (.ret v) s') : wpAny pc.G.M A (execs (.Return (some e) pos :: rest) env) Q E s := by
  obtain ⟨o, a, b', c, d'⟩ := H
  exact ex_ret b' (he _) fun v s' p h' => k v s' p ⟨o, a, h', c, d'⟩
theorem la_pe {e : PySem.Expr} {P : Value → Prop} {Q : Value → Shared → Prop} (H : La pc A env ρ g m r s) (he : ∀ mu, PE ⟨pc.G, A, env, g, m, mu⟩ e P) (k : ∀ v s', P v → La pc A env ρ g m r s' → Q v s') : wpAny pc.G.M A (eval e env) Q E s := by
  obtain ⟨o, a, b', c, d'⟩ := H
  exact he _ s _ _ b' fun v s' p h' => k v s' p ⟨o, a, h', c, d'⟩
end

theorem aL_text (P : Params) : attrOK (KF P) 212 "text" = true := by kernel_rfl
theorem aL_place (P : Params) : attrOK (KF P) 212 "place" = true := by kernel_rfl
theorem aL_line (P : Params) : attrOK (KF P) 212 "line" = true := by kernel_rfl
section
variable {c : Cx} {n : Str} {np pos : Pos} {x dx : Addr} {l : List Nat} {p ln : Nat} {o : Obj}
theorem pe_text (hs : PE c (.Name n np) (VE (.ref x))) (hx : Ob c x (instObj 212 dx)) (hd : Ob c dx o) (hL : LD l p ln o) : PE c (.Attribute (.Name n np) "text" pos) (VT l) := by
  obtain ⟨h1, h2, h3, k1, k2, k3, t1, t2, t3, m, rfl⟩ := hL
  exact (pe_attr hs hx hd (aL_text _) (v := .str (S l) t1) (by rfl) rfl).mono fun v e => ⟨t1, e⟩
theorem pe_place (hs : PE c (.Name n np) (VE (.ref x))) (hx : Ob c x (instObj 212 dx)) (hd : Ob c dx o) (hL : LD l p ln o) : PE c (.Attribute (.Name n np) "place" pos) (VI p) := by
  obtain ⟨h1, h2, h3, k1, k2, k3, t1, t2, t3, m, rfl⟩ := hL
  exact (pe_attr hs hx hd (aL_place _) (v := .int (p : Int) t2) (by rfl) rfl).mono fun v e => ⟨t2, e⟩
theorem pe_line (hs : PE c (.Name n np) (VE (.ref x))) (hx : Ob c x (instObj 212 dx)) (hd : Ob c dx o) (hL : LD l p ln o) : PE c (.Attribute (.Name n np) "line" pos) (VI ln) := by
  obtain ⟨h1, h2, h3, k1, k2, k3, t1, t2, t3, m, rfl⟩ := hL
  exact (pe_attr hs hx hd (aL_line _) (v := .int (ln : Int) t3) (by rfl) rfl).mono fun v e => ⟨t3, e⟩
end
theorem sL_1 (P : Params) : findIn (KF P) (.ref 212) "__setattr__" = some (some (.builtin "object.__setattr__")) := by kernel_rfl
theorem sL_2 (P : Params) : plainOver (KF P) 212 = true := by kernel_rfl
theorem sL_3 (P : Params) : takerIn (KF P) 212 "place" = some none := by kernel_rfl
theorem sL_4 (P : Params) : hasDictIn (KF P) 212 = true := by kernel_rfl
theorem sL_5 (P : Params) : takerIn (KF P) 212 "line" = some none := by kernel_rfl
section
variable {pc : PC} {A : Around} {env : Env} {ρ : List (Addr × Obj)} {g : Heap} {m : Str → Option Value} {s : Shared} {Q : Flow → Shared → Prop} {E : Value → Shared → Prop} {np pos apos : Pos} {o : Obj} {p p' ln : Nat} {nm : Str} {e : PySem.Expr} {rest : List Stmt}
theorem ex_set_place (H : At ⟨pc.G, A, env, g, m, (pc.dx, o) :: ρ⟩ s) (hx : g.get? pc.x = some (instObj 212 pc.dx)) (hL : LD pc.l p ln o) (hs : PE ⟨pc.G, A, env, g, m, (pc.dx, o) :: ρ⟩ (.Name nm np) (VE (.ref pc.x)))
    (he : PE ⟨pc.G, A, env, g, m, (pc.dx, o) :: ρ⟩ e (VI (p' : Int))) (k : ∀ o' s', LD pc.l p' ln o' → At ⟨pc.G, A, env, g, m, (pc.dx, o') :: ρ⟩ s' → wpAny pc.G.M A (execs rest env) Q E s')
    (hsw : swapsWith e (some (.Attribute (.Name nm np) "place" apos)) pos.line env = pure false := by rfl) :
    wpAny pc.G.M A (execs (.Assign [.Attribute (.Name nm np) "place" apos] e pos :: rest) env) Q E s := by
  obtain ⟨h1, h2, h3, k1, k2, k3, t1, t2, t3, nn, rfl⟩ := hL
  refine ex_setattr (C := 212) (x := pc.x) (dx := pc.dx) H he hs (fun s' h' => h'.up _ _ hx) (sL_1 _) (sL_2 _) (sL_3 _) (sL_4 _) (by rfl) (fun t v => (by decide : (3 : Nat) ≤ 1000)) (fun v t s' pv h' => ?_) hsw
  obtain ⟨t', rfl⟩ := pv
  exact k _ s' ⟨h1, h2, h3, k1, k2, k3, t1, t', t3, _, rfl⟩ h'
theorem ex_set_line (H : At ⟨pc.G, A, env, g, m, (pc.dx, o) :: ρ⟩ s) (hx : g.get? pc.x = some (instObj 212 pc.dx)) (hL : LD pc.l p ln o) (hs : PE ⟨pc.G, A, env, g, m, (pc.dx, o) :: ρ⟩ (.Name nm np) (VE (.ref pc.x)))
    (he : PE ⟨pc.G, A, env, g, m, (pc.dx, o) :: ρ⟩ e (VI (p' : Int))) (k : ∀ o' s', LD pc.l p p' o' → At ⟨pc.G, A, env, g, m, (pc.dx, o') :: ρ⟩ s' → wpAny pc.G.M A (execs rest env) Q E s')
    (hsw : swapsWith e (some (.Attribute (.Name nm np) "line" apos)) pos.line env = pure false := by rfl) :
    wpAny pc.G.M A (execs (.Assign [.Attribute (.Name nm np) "line" apos] e pos :: rest) env) Q E s := by
  obtain ⟨h1, h2, h3, k1, k2, k3, t1, t2, t3, nn, rfl⟩ := hL
  refine ex_setattr (C := 212) (x := pc.x) (dx := pc.dx) H he hs (fun s' h' => h'.up _ _ hx) (sL_1 _) (sL_2 _) (sL_5 _) (sL_4 _) (by rfl) (fun t v => (by decide : (3 : Nat) ≤ 1000)) (fun v t s' pv h' => ?_) hsw
  obtain ⟨t', rfl⟩ := pv
  exact k _ s' ⟨h1, h2, h3, k1, k2, k3, t1, t2, t', _, rfl⟩ h'
end
end Mine
end
section
open PySem PySem.W PyProof.Rows PySem.Calls PySem.Builtin PySem.Builtin.Str
namespace Mine
set_option maxRecDepth 100000

noncomputable def ownsTuple : Value → Bool
  | .type n => ["enumerate", "zip", "dict_itemiterator", "dict_reverseitemiterator", "odict_iterator", "itertools.zip_longest", "itertools.pairwise"].contains n
  | _ => false
structure Walk1 (G : Gh) (A : Around) (I : Addr) (n : Nat) (P : Nat → Value → Prop) (St : Nat → Heap → Prop) (g₀ : Heap) : Prop where
  W : ∃ fp, Walks pw G.w A I fp [I] n P St ∧ ∀ b ∈ fp, b = I ∨ ∃ o, g₀.get? b = some o
  ob : ∀ i h, St i h → ∃ o, h.get? I = some o ∧ ownsTuple o.cls = false
noncomputable def Itr (G : Gh) (A : Around) (g₀ : Heap) (v : Value) (n : Nat) (P : Nat → Value → Prop) : Prop :=
  ∀ env g m mu s Q E, Up g₀ g → At ⟨G, A, env, g, m, mu⟩ s → (∀ I oI St s', Walk1 G A I n P St g₀ → St 0 s'.heap → At ⟨G, A, env, g, m, (I, oI) :: mu⟩ s' → Q (.ref I) s') → wpAny G.M A (pyIter v) Q E s

theorem one_key {I : Addr} : ∀ {μ : List (Addr × Obj)}, μ.map (·.1) = [I] → ∃ o, μ = [(I, o)]
  | [], e => by cases e
  | [(a, o)], e => ⟨o, by rw [show a = I from (List.cons.inj e).1]⟩
  | _ :: _ :: _, e => by cases (List.cons.inj e).2
theorem at_change1 {G : Gh} {A : Around} {env : Env} {g : Heap} {m : Str → Option Value} {mu : List (Addr × Obj)} {s : Shared} {I : Addr} {oI o' : Obj} {h' : Heap} (H : At ⟨G, A, env, g, m, (I, oI) :: mu⟩ s)
    (hk : ∀ b o, b ≠ I → s.heap.get? b = some o → h'.get? b = some o) (ho : h'.get? I = some o') (t : Nat) : ∃ o'', At ⟨G, A, env, g, m, (I, o'') :: mu⟩ { s with heap := h', toks := t } := by
  obtain ⟨μ', e, H'⟩ := At.change (c := ⟨G, A, env, g, m, []⟩) (μ := [(I, oI)]) H (fun b o hb e => hk b o (fun q => hb (by rw [q]; exact .head _)) e)
    (fun b hb => ⟨o', by rw [show b = I from List.mem_singleton.mp (show b ∈ [I] from hb)]; exact ho⟩) t
  obtain ⟨o'', rfl⟩ := one_key e
  exact ⟨o'', H'⟩
section
variable {G : Gh} {A : Around} {env : Env} {g g₀ : Heap} {m : Str → Option Value} {mu : List (Addr × Obj)} {s : Shared} {I : Addr} {oI : Obj} {n i : Nat} {P : Nat → Value → Prop} {St : Nat → Heap → Prop} {E : Value → Shared → Prop}
theorem Walk1.next (W : Walk1 G A I n P St g₀) {Q : Option Value → Shared → Prop} (H : At ⟨G, A, env, g, m, (I, oI) :: mu⟩ s) (st : St i s.heap) (hi : i < n)
    (k : ∀ v oI' s', P i v → At ⟨G, A, env, g, m, (I, oI') :: mu⟩ s' → St (i + 1) s'.heap → Q (some v) s') : wpAny G.M A (pyNext (.ref I)) Q E s := by
  obtain ⟨fp, w, hfp⟩ := W.W
  refine w.item i s Q E hi st fun v h' tk pv st' hk => ?_
  obtain ⟨o', ho', _⟩ := W.ob _ _ st'
  obtain ⟨o'', H'⟩ := at_change1 H (fun b o hb e => hk b o (fun q => hb (List.mem_singleton.mp q)) e) ho' tk
  exact k v o'' _ pv H' st'
theorem Walk1.done (W : Walk1 G A I n P St g₀) {Q : Option Value → Shared → Prop} (H : At ⟨G, A, env, g, m, (I, oI) :: mu⟩ s) (st : St n s.heap)
    (k : ∀ s', At ⟨G, A, env, g, m, mu⟩ s' → Q none s') : wpAny G.M A (pyNext (.ref I)) Q E s := by
  obtain ⟨fp, w, hfp⟩ := W.W
  refine w.done s Q E st fun h' tk hk => ?_
  have H0 : At ⟨G, A, env, g, m, mu⟩ s := H.drop
  -- the iterator is forgotten: what it does to itself is no matter
  obtain ⟨oL, co, l, kc, gl⟩ := H
  have g1 : Gl G g ((I, oI) :: (env.locals, oL) :: (co ++ mu)) s := gl.perm (perm_front ..)
  have nd := List.nodup_cons.mp g1.nd
  have gI : g.get? I = none := (g1.mus _ (.head _)).2
  refine k _ ⟨oL, co, l, kc, g1.base, g1.upH, fun b o e => hk b o (fun hb => ?_) (g1.up b o e), fun p hp => ?_, nd.2, g1.gens, g1.os⟩
  · obtain rfl := List.mem_singleton.mp hb
    rw [gI] at e; (first | subst e | cases e)
  · have := g1.mus p (.tail _ hp)
    refine ⟨hk _ _ (fun hb => ?_) this.1, this.2⟩
    have e : p.1 = I := List.mem_singleton.mp hb
    exact nd.1 (List.mem_map.mpr ⟨p, hp, e⟩)
theorem Walk1.frame (W : Walk1 G A I n P St g₀) {env' : Env} {g' : Heap} {m' : Str → Option Value} {mu' : List (Addr × Obj)} {s' : Shared} {A' : Around} (H : At ⟨G, A, env, g, m, (I, oI) :: mu⟩ s) (u : Up g₀ g) (u' : Up g g')
    (H' : At ⟨G, A', env', g', m', (I, oI) :: mu'⟩ s') (st : St i s.heap) : St i s'.heap := by
  obtain ⟨fp, w, hfp⟩ := W.W
  refine w.frame i _ _ st fun b hb o e => ?_
  rcases hfp b hb with rfl | ⟨o', ho'⟩
  · have := H.get (.head _)
    rw [this] at e; (first | subst e | cases e)
    exact H'.get (.head _)
  · have := H.up _ _ (u _ _ ho')
    rw [this] at e; (first | subst e | cases e)
    exact H'.up _ _ (u' _ _ (u _ _ ho'))
theorem Walk1.letGo (W : Walk1 G A I n P St g₀) {tgt : PySem.Expr} {v : Value} {Q : Unit → Shared → Prop} (st : St i s.heap) (k : Q () s) : wpAny G.M A (letOwnedTupleGo tgt (.ref I) v) Q E s := by
  obtain ⟨o, ho, hc⟩ := W.ob _ _ st
  have main : wpAny G.M A (do
      let (.ref r, .ref a) := ((.ref I : Value), v) | return
      let o ← load r
      match o.cls, o.data with
      | .type n, .fields vs =>
        if ["enumerate", "zip", "dict_itemiterator", "dict_reverseitemiterator", "odict_iterator", "itertools.zip_longest", "itertools.pairwise"].contains n && vs[0]? == some (rawInt a) then
          rule "for.unpacks-the-owned-tuple"
          updateField r 0 .none
      | _, _ => pure ()) Q E s := by
    cases v with
    | ref a =>
      refine wpAny_bind (wpAny_load ho ?_)
      unfold ownsTuple at hc
      split
      · rename_i nm vs h1 h2
        rw [h1] at hc
        dsimp only at hc
        rw [hc]
        exact wpAny_pure k
      · exact wpAny_pure k
    | _ => exact wpAny_pure k
  unfold letOwnedTupleGo
  split
  · exact main
  · exact main
  · exact wpAny_pure k
end

noncomputable abbrev lstO (vs : List Value) (n : Nat) : Obj := { cls := .type "list", data := .seq vs.toArray n }
noncomputable abbrev tupO (vs : List Value) (n : Nat) : Obj := { cls := .type "tuple", data := .seq vs.toArray n }

section
variable {G : Gh} {A : Around} {g₀ : Heap} (hh : A.handled = none)
include hh
theorem itr_str {l : List Nat} {v : Value} (hv : VT l v) : Itr G A g₀ v l.length (fun i u => i < l.length ∧ VT [l.getD i 0] u) := by
  obtain ⟨t, rfl⟩ := hv
  intro env g m mu s Q E u H k
  have hP : ∀ i v, SignAt (S l) i v → i < l.length ∧ VT [l.getD i 0] v := by
    rintro i v ⟨c, tk, hc, rfl⟩
    have hc' : l[i]? = some c := by simpa [S] using hc
    obtain ⟨hi, e⟩ := List.getElem?_eq_some_iff.mp hc'
    exact ⟨hi, tk, by rw [List.getD_eq_getElem?_getD, hc']; rfl⟩
  have mk : ∀ T St, (Walks pw G.w A s.heap.objs.size [s.heap.objs.size] [s.heap.objs.size] (S l).cps.size (SignAt (S l)) St) → (∀ i h, St i h → ∃ o, h.get? s.heap.objs.size = some o ∧ ownsTuple o.cls = false) →
      St 0 (s.heap.push T) → T.isFreed = false → Q (.ref s.heap.objs.size) { s with heap := s.heap.push T } := fun T St W ob st hf => by
    refine k _ T St _ ⟨⟨_, ?_, fun b hb => .inl (List.mem_singleton.mp hb)⟩, ob⟩ st (H.alloc hf)
    have e : (S l).cps.size = l.length := by simp [S]
    rw [e] at W
    exact ⟨W.sub, W.frame, fun i s Q E hi st hQ => W.item i s Q E hi st fun v h' tk pv => hQ v h' tk (hP i v pv), W.done, W.self⟩
  cases ha : (S l).cps.all (· < 128)
  · exact wpAny_pyIter_wide ha (mk _ _ (Walks.strWide hh _ _ t) (fun i h st => let ⟨o, ho, hc, _⟩ := st; ⟨o, ho, by rw [hc]; rfl⟩) ⟨_, Heap.get?_push_size _ rfl, rfl, rfl⟩ rfl)
  · exact wpAny_pyIter_ascii ha (mk _ _ (Walks.strAscii hh _ _ t) (fun i h st => let ⟨o, ho, hc, _⟩ := st; ⟨o, ho, by rw [hc]; rfl⟩) ⟨_, Heap.get?_push_size _ rfl, rfl, rfl⟩ rfl)
theorem itr_list {a : Addr} {vs : List Value} (hl : g₀.IsList a vs.toArray) : Itr G A g₀ (.ref a) vs.length (fun i u => vs[i]? = some u) := by
  intro env g m mu s Q E u H k
  have hl' : s.heap.IsList a vs.toArray := let ⟨o, ho, r⟩ := hl; ⟨o, H.up _ _ (u _ _ ho), r⟩
  have hlt : a ≠ s.heap.objs.size := let ⟨o, ho, _⟩ := hl'; Nat.ne_of_lt (Heap.lt_size ho)
  refine wpAny_pyIter_list hl' (k _ _ (fun i h => h.IsListIter s.heap.objs.size a i ∧ h.IsList a vs.toArray) _ ⟨⟨_, by simpa using Walks.list (prog := pw) (w := G.w) hh s.heap.objs.size a hlt vs.toArray, fun b hb => ?_⟩, fun i h st => ?_⟩ ⟨⟨_, Heap.get?_push_size _ rfl, rfl, rfl⟩, hl'.push _⟩ H.alloc)
  · rcases List.mem_cons.mp hb with rfl | hb
    · exact .inl rfl
    · obtain rfl := List.mem_singleton.mp hb
      obtain ⟨o, ho, _⟩ := hl
      exact .inr ⟨o, ho⟩
  · obtain ⟨o, ho, hc, _⟩ := st.1
    exact ⟨o, ho, by rw [hc]; rfl⟩
theorem itr_tuple {a : Addr} {vs : List Value} (hl : g₀.IsTuple a vs.toArray) : Itr G A g₀ (.ref a) vs.length (fun i u => vs[i]? = some u) := by
  intro env g m mu s Q E u H k
  have hl' : s.heap.IsTuple a vs.toArray := let ⟨o, ho, r⟩ := hl; ⟨o, H.up _ _ (u _ _ ho), r⟩
  have hlt : a ≠ s.heap.objs.size := let ⟨o, ho, _⟩ := hl'; Nat.ne_of_lt (Heap.lt_size ho)
  refine wpAny_pyIter_tuple hl' (k _ _ (fun i h => h.IsTupleIter s.heap.objs.size a i ∧ h.IsTuple a vs.toArray) _ ⟨⟨_, by simpa using Walks.tuple (prog := pw) (w := G.w) hh s.heap.objs.size a hlt vs.toArray, fun b hb => ?_⟩, fun i h st => ?_⟩ ⟨⟨_, Heap.get?_push_size _ rfl, rfl, rfl⟩, hl'.at fun o e => Heap.get?_push_of_some _ e⟩ H.alloc)
  · rcases List.mem_cons.mp hb with rfl | hb
    · exact .inl rfl
    · obtain rfl := List.mem_singleton.mp hb
      obtain ⟨o, ho, _⟩ := hl
      exact .inr ⟨o, ho⟩
  · obtain ⟨o, ho, hc, _⟩ := st.1
    exact ⟨o, ho, by rw [hc]; rfl⟩
end
end Mine
end
section
open PySem PySem.W PyProof.Rows PySem.Calls PySem.Builtin PySem.Builtin.Str
namespace Mine
set_option maxRecDepth 100000

section
variable {G : Gh} {A : Around} {env : Env} {s : Shared} {E : Value → Shared → Prop} {pos : Pos}
theorem At.dropSame {g : Heap} {m : Str → Option Value} {C : Addr} {oC : Obj} {r : List (Addr × Obj)} {h' : Heap} (H : At ⟨G, A, env, g, m, (C, oC) :: r⟩ s) (hs : Heap.SameBut C s.heap h') : At ⟨G, A, env, g, m, r⟩ { s with heap := h' } := by
  obtain ⟨oL, co, l, kc, gl⟩ := H
  have g1 : Gl G g ((C, oC) :: (env.locals, oL) :: (co ++ r)) s := gl.perm (perm_front ..)
  have nd := List.nodup_cons.mp g1.nd
  have gI : g.get? C = none := (g1.mus _ (.head _)).2
  refine ⟨oL, co, l, kc, g1.base, g1.upH, fun b o e => (hs.2 b (fun hb => ?_)).trans (g1.up b o e), fun p hp => ?_, nd.2, g1.gens, g1.os⟩
  · rw [hb, gI] at e; (first | subst e | cases e)
  · have := g1.mus p (.tail _ hp)
    exact ⟨(hs.2 _ (fun hb => nd.1 (List.mem_map.mpr ⟨p, hp, hb⟩))).trans this.1, this.2⟩
noncomputable def compOK (scope : Scope) (cl : List (Str × Addr)) : Bool := cl.all (fun p => scope.names.lookup p.1 == some .free) && scope.names.all (fun x => !(x.2 == .cell)) && decide (scope.kind = .function) && scope.names.all (fun x => !(x.2 == .local) || scope.names.lookup x.1 == some .local)
theorem compOK_of {scope : Scope} {cl : List (Str × Addr)} (h : compOK scope cl = true) : (∀ p ∈ cl, scope.names.lookup p.1 = some .free) ∧ (∀ x ∈ scope.names, x.2 ≠ .cell) ∧ scope.kind = .function ∧ (∀ x ∈ scope.names, x.2 = .local → scope.names.lookup x.1 = some .local) := by
  simp only [compOK, Bool.and_eq_true, List.all_eq_true, beq_iff_eq, Bool.not_eq_true', beq_eq_false_iff_ne, decide_eq_true_eq, Bool.or_eq_true] at h
  obtain ⟨⟨⟨h1, h2⟩, h3⟩, h4⟩ := h
  exact ⟨h1, h2, h3, fun x hx hl => (h4 x hx).resolve_left (fun q => by rw [hl] at q; exact q rfl)⟩

end
theorem cells_perm {m : Str → Option Value} : ∀ {cl cl' : List (Str × Addr)}, cl.Perm cl' → ∀ {co : List (Addr × Obj)}, CellsAre m cl co → ∃ co', co.Perm co' ∧ CellsAre m cl' co' := by
  intro cl cl' p
  induction p with
  | nil => intro co h; (first | subst h | cases h); exact ⟨[], .refl _, .nil⟩
  | cons x _ ih =>
    intro co h
    cases h with
    | cons h1 h2 =>
      obtain ⟨co', p', h'⟩ := ih h2
      exact ⟨_, p'.cons _, .cons h1 h'⟩
  | swap x y l =>
    intro co h
    cases h with
    | cons h1 h2 =>
      cases h2 with
      | cons h3 h4 => exact ⟨_, .swap .., .cons h3 (.cons h1 h4)⟩
  | trans _ _ ih1 ih2 =>
    intro co h
    obtain ⟨co1, p1, h1⟩ := ih1 h
    obtain ⟨co2, p2, h2⟩ := ih2 h1
    exact ⟨co2, p1.trans p2, h2⟩
theorem cells_congr {m m' : Str → Option Value} : ∀ {cl : List (Str × Addr)} {co : List (Addr × Obj)}, CellsAre m cl co → (∀ p ∈ cl, m' p.1 = m p.1) → CellsAre m' cl co
  | _, _, .nil, _ => .nil
  | _, _, .cons (n := n) h r, e => .cons (by rw [h, ← e (n, _) (.head _)]) (cells_congr r fun p hp => e p (.tail _ hp))

noncomputable def isFree (scope : Scope) (x : Str) : Bool := scope.names.lookup x == some .free
theorem kind_relabel {scope : Scope} {env : Env} {x : Str} (h : (relabel scope env).names.lookup x = some .local) : scope.names.lookup x = some .local := by
  have : ∀ {l : List (Str × NameKind)}, (l.map fun (n, k) => if (k == .free && env.scope.kind == .function && env.kindOf n == some .cell) then (n, NameKind.cell) else (n, k)).lookup x = some .local → l.lookup x = some .local := by
    intro l
    induction l with
    | nil => intro h; exact h
    | cons p r ih =>
      obtain ⟨n, k⟩ := p
      intro h
      rw [List.map_cons, List.lookup_cons] at h
      rw [List.lookup_cons]
      by_cases hc : (k == NameKind.free && env.scope.kind == .function && env.kindOf n == some .cell) = true
      · rw [if_pos hc] at h
        cases hb : x == n with
        | true => rw [hb] at h; (first | subst h | cases h)
        | false => rw [hb] at h; exact ih h
      · rw [if_neg hc] at h
        cases hb : x == n with
        | true => rw [hb] at h; exact h
        | false => rw [hb] at h; exact ih h
  exact this h

noncomputable abbrev testsOf (ifs : List PySem.Expr) (env : Env) : Sem Bool := forIn ifs true fun c r => if r = true then do let ok ← isTrue c env (eval c env); pure (ForInStep.yield ok) else pure (ForInStep.yield r)

theorem free_put {scope : Scope} {m : Str → Option Value} {y : Str} {v : Value} (hy : isFree scope y = false) : ∀ x, isFree scope x = true → put m y v x = m x := fun x hx => by
  have : x ≠ y := fun e => by rw [e, hy] at hx; cases hx
  simp [put, this]
section
variable {G : Gh} {A : Around} {env : Env} {g : Heap} {m : Str → Option Value} {mu : List (Addr × Obj)} {s : Shared}
theorem At.forget {μ : List (Addr × Obj)} {h' : Heap} (H : At ⟨G, A, env, g, m, μ ++ mu⟩ s) (hk : ∀ b o, b ∉ μ.map (·.1) → s.heap.get? b = some o → h'.get? b = some o) (t : Nat) : At ⟨G, A, env, g, m, mu⟩ { s with heap := h', toks := t } := by
  obtain ⟨oL, co, l, kc, gl⟩ := H
  have g1 : Gl G g (μ ++ (env.locals, oL) :: (co ++ mu)) s := gl.perm (perm_frontL ..)
  exact ⟨oL, co, l, kc, Gl.rebuild (ν := μ) (ν' := []) g1 hk (fun zz h => (nomatch h)) (fun zz h => (nomatch h)) List.nodup_nil t⟩
theorem cells_at {m : Str → Option Value} : ∀ {cl co}, CellsAre m cl co → ∀ q ∈ cl, ∃ p ∈ co, p.1 = q.2
  | _, _, .nil, _, h => (nomatch h)
  | _, _, .cons _ r, q, h => by
    rcases List.mem_cons.mp h with rfl | h
    · exact ⟨_, .head _, rfl⟩
    · obtain ⟨p, hp, e⟩ := cells_at r q h
      exact ⟨p, .tail _ hp, e⟩
theorem At.lt (H : At ⟨G, A, env, g, m, mu⟩ s) : (∀ p ∈ mu, p.1 < s.heap.objs.size) ∧ env.locals < s.heap.objs.size ∧ ∀ q ∈ env.cells, q.2 < s.heap.objs.size := by
  obtain ⟨oL, co, l, kc, gl⟩ := H
  refine ⟨fun p hp => Heap.lt_size (gl.mus p (.tail _ (List.mem_append_right _ hp))).1, Heap.lt_size (gl.mus _ (.head _)).1, fun q hq => ?_⟩
  obtain ⟨p, hp, e⟩ := cells_at kc q hq
  rw [← e]
  exact Heap.lt_size (gl.mus p (.tail _ (List.mem_append_left _ hp))).1
theorem At.newT {mu' : List (Addr × Obj)} {s' : Shared} {T : Addr} {o : Obj} (H : At ⟨G, A, env, g, m, mu⟩ s) (H' : At ⟨G, A, env, g, m, mu'⟩ s') (hk : mu'.map (·.1) = mu.map (·.1)) (hT : s.heap.objs.size ≤ T) (ho : s'.heap.get? T = some o) :
    ∃ g', An3 (Up g g') (g'.get? T = some o) (At ⟨G, A, env, g', m, mu'⟩ s') := by
  obtain ⟨h1, h2, h3⟩ := H.lt
  obtain ⟨g', u, hg, H''⟩ := H'.settle
  refine ⟨g', u, hg T o ho (fun p hp e => ?_) (fun e => ?_) (fun q hq e => ?_), H''⟩
  · have : p.1 ∈ mu.map (·.1) := hk ▸ List.mem_map_of_mem hp
    obtain ⟨q, hq, e'⟩ := List.mem_map.mp this
    have := h1 q hq
    rw [e', e] at this; exact absurd this (Nat.not_lt.mpr hT)
  · have e' : T = env.locals := e
    rw [e'] at hT; exact absurd h2 (Nat.not_lt.mpr hT)
  · have := h3 q hq
    rw [e] at this; exact absurd this (Nat.not_lt.mpr hT)
end
structure WalkL (G : Gh) (A : Around) (tgt : PySem.Expr) (wr : List Addr) (I : Addr) (n : Nat) (P : Heap → Nat → Value → Prop) (St : Nat → Heap → Prop) (g₀ : Heap) (R : Heap → Heap → Prop) : Prop where
  next : ∀ {env g m mu ι s i} {Q : Option Value → Shared → Prop} {E : Value → Shared → Prop}, ι.map (·.1) = wr → Up g₀ g → At ⟨G, A, env, g, m, ι ++ mu⟩ s → St i s.heap → i < n →
    (∀ v ι' s' g', Up g g' → R g g' → ι'.map (·.1) = wr → P g' i v → At ⟨G, A, env, g', m, ι' ++ mu⟩ s' →
      (∀ {Q' : Unit → Shared → Prop} {E' : Value → Shared → Prop}, (∀ ι'' s'', ι''.map (·.1) = wr → At ⟨G, A, env, g', m, ι'' ++ mu⟩ s'' → St (i + 1) s''.heap → Q' () s'') → wpAny G.M A (letOwnedTupleGo tgt (.ref I) v) Q' E' s') → Q (some v) s') →
    wpAny G.M A (pyNext (.ref I)) Q E s
  done : ∀ {env g m mu ι s} {Q : Option Value → Shared → Prop} {E : Value → Shared → Prop}, ι.map (·.1) = wr → Up g₀ g → At ⟨G, A, env, g, m, ι ++ mu⟩ s → St n s.heap → (∀ s', At ⟨G, A, env, g, m, mu⟩ s' → Q none s') → wpAny G.M A (pyNext (.ref I)) Q E s
  frame : ∀ i {env g m mu ι s A' env' g' m' mu' s'}, ι.map (·.1) = wr → At ⟨G, A, env, g, m, ι ++ mu⟩ s → Up g₀ g → Up g g' → At ⟨G, A', env', g', m', ι ++ mu'⟩ s' → St i s.heap → St i s'.heap
  self : ∀ i (s : Shared) (Q : Value → Shared → Prop) (E : Value → Shared → Prop), St i s.heap → Q (.ref I) s → wpAny G.M A (pyIter (.ref I)) Q E s
theorem WalkL.of {G : Gh} {A : Around} {g₀ : Heap} {elts : List PySem.Expr} {tk : Nat} {tpos : Pos} {I : Addr} {fp wr : List Addr} {n : Nat} {Pt : Nat → Array Value → Prop} {St : Nat → Heap → Prop} {Mid : Nat → Addr → Heap → Prop} (W : WalksT pw G.w A I fp wr n Pt St Mid)
    (hfp : ∀ b ∈ fp, b ∈ wr ∨ ∃ o, g₀.get? b = some o) (hmid : ∀ i T h, Mid i T h → ∀ b ∈ wr, ∃ o, h.get? b = some o) (hst : ∀ i h, St i h → ∀ b ∈ wr, ∃ o, h.get? b = some o) :
    WalkL G A (.Tuple elts tk tpos) wr I n (fun g i v => Ex2 fun T vals => An3 (v = .ref T) (g.IsTuple T vals) (Pt i vals)) St g₀ (fun zz zz => True) where
  next := by
    intro env g m mu ι s i Q E hw u H st hi k
    refine W.item i s Q E hi st fun T vals h' t pt hT hIs hm hk => ?_
    obtain ⟨oT, hoT, r⟩ := hIs
    obtain ⟨ι', e, H'⟩ := At.change (c := ⟨G, A, env, g, m, []⟩) (μ := ι) H (fun b o hb q => hk b o (hw ▸ hb) q) (fun b hb => hmid i T h' hm b (hw ▸ hb)) t
    obtain ⟨g', u', hg', H''⟩ := At.newT H H' (by rw [List.map_append, List.map_append, e]) hT hoT
    refine k (.ref T) ι' _ g' u' trivial (e.trans hw) ⟨T, vals, rfl, ⟨oT, hg', r⟩, pt⟩ H'' fun {Q' E'} k' => ?_
    refine W.go elts tk tpos i T _ Q' E' hm fun h'' st'' hk'' => ?_
    obtain ⟨ι'', e'', H3⟩ := At.change (c := ⟨G, A, env, g', m, []⟩) (μ := ι') H'' (fun b o hb q => hk'' b o (by rw [← hw, ← e]; exact hb) q) (fun b hb => hst _ h'' st'' b (by rw [← hw, ← e]; exact hb)) t
    exact k' ι'' _ (e''.trans (e.trans hw)) H3 st''
  done := by
    intro env g m mu ι s Q E hw u H st k
    refine W.done s Q E st fun h' t hk => k _ (At.forget H (fun b o hb q => hk b o (hw ▸ hb) q) t)
  frame := by
    intro i env g m mu ι s A' env' g' m' mu' s' hw H u u' H' st
    refine W.frame i _ _ st fun b hb o e => ?_
    rcases hfp b hb with hb | ⟨o', ho'⟩
    · rw [← hw] at hb
      obtain ⟨p, hp, e'⟩ := List.mem_map.mp hb
      have h1 := H.get (a := p.1) (o := p.2) (List.mem_append_left _ hp)
      rw [e'] at h1
      rw [h1] at e; (first | subst e | cases e)
      have h2 := H'.get (a := p.1) (o := p.2) (List.mem_append_left _ hp)
      rwa [e'] at h2
    · have := H.up _ _ (u _ _ ho')
      rw [this] at e; (first | subst e | cases e)
      exact H'.up _ _ (u' _ _ (u _ _ ho'))
  self := W.self


inductive FNext (G : Gh) (A : Around) (env : Env) (g : Heap) (ι : List (Addr × Obj)) (J : Heap → (Str → Option Value) → List (Addr × Obj) → Prop) (s : Shared) : Prop
  | mk (g' : Heap) (m' : Str → Option Value) (mu' : List (Addr × Obj)) (u : Up g g') (H : At ⟨G, A, env, g', m', mu' ++ ι⟩ s) (h : J g' m' mu') : FNext G A env g ι J s
noncomputable abbrev ForF (G : Gh) (A : Around) (env : Env) (rest : List Stmt) (Q : Flow → Shared → Prop) (E : Value → Shared → Prop) (g : Heap) (ι : List (Addr × Obj)) (J : Heap → (Str → Option Value) → List (Addr × Obj) → Prop) (f : Flow) (s : Shared) : Prop := match f with
  | .next | .cont => FNext G A env g ι J s
  | .brk => wpAny G.M A (execs rest env) Q E s
  | .ret v => Q (.ret v) s
noncomputable abbrev ThenK (G : Gh) (A : Around) (env : Env) (body : List Stmt) (Q : Flow → Shared → Prop) (E : Value → Shared → Prop) (_ : Unit) (s : Shared) : Prop := wpAny G.M A (execs body env) Q E s
inductive ForI (G : Gh) (A : Around) (env : Env) (tgt : PySem.Expr) (body rest : List Stmt) (Q : Flow → Shared → Prop) (E Ei : Value → Shared → Prop) (v : Value) (s₁ : Shared) : Prop
  | mk (g₁ : Heap) (m₁ : Str → Option Value) (mu₁ ι₀ : List (Addr × Obj)) (wr : List Addr) (I : Addr) (n : Nat) (P : Heap → Nat → Value → Prop) (St : Nat → Heap → Prop) (R : Heap → Heap → Prop) (J : Nat → Heap → (Str → Option Value) → List (Addr × Obj) → Prop)
    (e : v = .ref I) (H : At ⟨G, A, env, g₁, m₁, ι₀ ++ mu₁⟩ s₁) (hw : ι₀.map (·.1) = wr) (W : WalkL G A tgt wr I n P St g₁ R) (st : St 0 s₁.heap) (h0 : J 0 g₁ m₁ mu₁)
    (turn : ∀ i g gT m mu ι v s, i < n → P gT i v → J i g m mu → Up g₁ g → Up g gT → R g gT → ι.map (·.1) = wr → At ⟨G, A, env, gT, m, mu ++ ι⟩ s → wpAny G.M A (assign tgt env v) (ThenK G A env body (ForF G A env rest Q E gT ι (J (i + 1))) Ei) Ei s)
    (fin : ∀ g m mu s, J n g m mu → Up g₁ g → At ⟨G, A, env, g, m, mu⟩ s → wpAny G.M A (execs rest env) Q E s) : ForI G A env tgt body rest Q E Ei v s₁
inductive ForInv (G : Gh) (A : Around) (env : Env) (n : Nat) (wr : List Addr) (g₁ : Heap) (St : Nat → Heap → Prop) (J : Nat → Heap → (Str → Option Value) → List (Addr × Obj) → Prop) (k : Nat) (s : Shared) : Prop
  | mk (i : Nat) (g : Heap) (m : Str → Option Value) (mu ι : List (Addr × Obj)) (e : k = n + 1 - i) (hi : i ≤ n) (hw : ι.map (·.1) = wr) (H : At ⟨G, A, env, g, m, ι ++ mu⟩ s) (u : Up g₁ g) (st : St i s.heap) (h : J i g m mu) : ForInv G A env n wr g₁ St J k s
noncomputable abbrev IterK (G : Gh) (A : Around) (K : Value → Shared → Prop) (v : Value) (s : Shared) : Prop := ∀ (Q' E' : Value → Shared → Prop), (∀ w s₂, K w s₂ → Q' w s₂) → wpAny G.M A (pyIter v) Q' E' s
section
variable {G : Gh} {A : Around} {env : Env} {s : Shared} {Q : Flow → Shared → Prop} {E : Value → Shared → Prop} {rest : List Stmt} {pos : Pos}
theorem for_core {tgt iter : PySem.Expr} {body : List Stmt} {Ei : Value → Shared → Prop} (hE : ∀ e s', Ei e s' → notedBy G.M A env (fun e s' => cameBackBy G.M A env E e s') e s')
    (hi : wpAny G.M A (eval iter env) (IterK G A (ForI G A env tgt body rest Q E Ei)) E s)
    (hs : ∀ x, foldedSetIterable iter env x = pure x) : wpAny G.M A (execs (.For tgt iter body [] pos :: rest) env) Q E s := by
  refine ex_step (wpAny_For (wpAny_mono hi (fun v s₁ h₁ => h₁ _ _ fun v₂ s₂ h₂ => ?_) fun zz zz x => x) hs)
  obtain ⟨g₁, m₁, mu₁, ι₀, wr, I, n, P, St, R, J, rfl, H₂, hwr, W, st, h0, turn, fin⟩ := h₂
  have pm : ∀ (ι : List (Addr × Obj)) (mu : List (Addr × Obj)), List.Perm (ι ++ mu) (mu ++ ι) := fun ι mu => List.perm_append_comm
  refine codeAny_forLoop_any (ForInv G A env n wr g₁ St J) ?_ (n + 1) ⟨0, g₁, m₁, mu₁, ι₀, rfl, Nat.zero_le _, hwr, H₂, Up.rfl, st, h0⟩
  rintro k s' ⟨i, g, m, mu, ι', rfl, hin, hw', H', u, st', hJ⟩
  by_cases hi' : i < n
  · refine W.next hw' u H' st' hi' fun v ι₁ s₃ gT uT rT hw₁ pv H₃ lg => ?_
    refine lg fun ι₂ s₃ hw₂ H₃ st₃ => ?_
    refine wpAny_mono (turn i g gT m mu ι₂ v s₃ hi' pv hJ u uT rT hw₂ (H₃.perm (pm ..))) (fun zz s₄ h₄ => wpAny_mono h₄ (fun f s₅ h₅ => ?_) hE) hE
    have nx : FNext G A env gT ι₂ (J (i + 1)) s₅ → ∃ m_1, m_1 < n + 1 - i ∧ ForInv G A env n wr g₁ St J m_1 s₅ := by
      rintro ⟨g', m', mu', u', H₅, hJ'⟩
      have H₅' : At ⟨G, A, env, g', m', ι₂ ++ mu'⟩ s₅ := H₅.perm (pm ..).symm
      exact ⟨n + 1 - (i + 1), by omega, i + 1, g', m', mu', ι₂, rfl, hi', hw₂, H₅', u.trans (uT.trans u'), W.frame _ hw₂ H₃ (u.trans uT) u' H₅' st₃, hJ'⟩
    cases f with
    | next => exact nx h₅
    | cont => exact nx h₅
    | brk => exact h₅
    | ret v => exact h₅
  · obtain rfl : i = n := by omega
    refine W.done hw' u H' st' fun s₃ H₃ => ?_
    exact wpAny_execs_nil (fin g m mu s₃ hJ u H₃)
theorem ex_forL {tgt iter : PySem.Expr} {body : List Stmt} {Ei : Value → Shared → Prop} (hE : ∀ e s', Ei e s' → notedBy G.M A env (fun e s' => cameBackBy G.M A env E e s') e s')
    (hi : wpAny G.M A (eval iter env) (ForI G A env tgt body rest Q E Ei) E s)
    (hs : ∀ x, foldedSetIterable iter env x = pure x := by intro _; rfl) : wpAny G.M A (execs (.For tgt iter body [] pos :: rest) env) Q E s :=
  for_core hE (wpAny_mono hi (fun v s₁ h₁ Q' E' k => by
    obtain ⟨g₁, m₁, mu₁, ι₀, wr, I, n, P, St, R, J, rfl, H₂, hwr, W, st, h0, turn, fin⟩ := h₁
    exact W.self 0 _ _ _ st (k _ _ ⟨g₁, m₁, mu₁, ι₀, wr, I, n, P, St, R, J, rfl, H₂, hwr, W, st, h0, turn, fin⟩)) fun zz zz x => x) hs
end
theorem WalkL.of1 {G : Gh} {A : Around} {tgt : PySem.Expr} {I : Addr} {n : Nat} {P : Nat → Value → Prop} {St : Nat → Heap → Prop} {g₀ : Heap} (W : Walk1 G A I n P St g₀) : WalkL G A tgt [I] I n (fun zz => P) St g₀ (fun a b => b = a) where
  next := by
    intro env g m mu ι s i Q E hw u H st hi k
    obtain ⟨o, rfl⟩ := one_key hw
    exact W.next H st hi fun v oI' s' pv H' st' => k v [(I, oI')] s' g Up.rfl rfl rfl pv H' fun k' => W.letGo st' (k' [(I, oI')] s' rfl H' st')
  done := by
    intro env g m mu ι s Q E hw u H st k
    obtain ⟨o, rfl⟩ := one_key hw
    exact W.done H st k
  frame := by
    intro i env g m mu ι s A' env' g' m' mu' s' hw H u u' H' st
    obtain ⟨o, rfl⟩ := one_key hw
    exact W.frame H u u' H' st
  self := by
    obtain ⟨fp, w, _⟩ := W.W
    exact w.self
section
variable {G : Gh} {A : Around} {env : Env} {s : Shared} {Q : Flow → Shared → Prop} {E : Value → Shared → Prop} {rest : List Stmt} {pos : Pos}
inductive ForK (G : Gh) (A : Around) (env : Env) (tgt : PySem.Expr) (body rest : List Stmt) (Q : Flow → Shared → Prop) (E Ei : Value → Shared → Prop) (v : Value) (s₁ : Shared) : Prop
  | mk (g₁ : Heap) (m₁ : Str → Option Value) (mu₁ : List (Addr × Obj)) (n : Nat) (P : Nat → Value → Prop) (J : Nat → Heap → (Str → Option Value) → List (Addr × Obj) → Prop)
    (H : At ⟨G, A, env, g₁, m₁, mu₁⟩ s₁) (it : Itr G A g₁ v n P) (h0 : J 0 g₁ m₁ mu₁)
    (turn : ∀ i g m mu p v s, i < n → P i v → J i g m mu → Up g₁ g → At ⟨G, A, env, g, m, mu ++ [p]⟩ s → wpAny G.M A (assign tgt env v) (ThenK G A env body (ForF G A env rest Q E g [p] (J (i + 1))) Ei) Ei s)
    (fin : ∀ g m mu s, J n g m mu → Up g₁ g → At ⟨G, A, env, g, m, mu⟩ s → wpAny G.M A (execs rest env) Q E s) : ForK G A env tgt body rest Q E Ei v s₁
theorem ex_for {tgt iter : PySem.Expr} {body : List Stmt} {Ei : Value → Shared → Prop} (hE : ∀ e s', Ei e s' → notedBy G.M A env (fun e s' => cameBackBy G.M A env E e s') e s')
    (hi : wpAny G.M A (eval iter env) (ForK G A env tgt body rest Q E Ei) E s)
    (hs : ∀ x, foldedSetIterable iter env x = pure x := by intro _; rfl) : wpAny G.M A (execs (.For tgt iter body [] pos :: rest) env) Q E s :=
  for_core hE (wpAny_mono hi (fun v s₁ h₁ Q' E' k => by
    obtain ⟨g₁, m₁, mu₁, n, P, J, H, it, h0, turn, fin⟩ := h₁
    refine it env g₁ m₁ mu₁ s₁ _ _ Up.rfl H fun I oI St s₂ W st H₂ => k _ _ ⟨g₁, m₁, mu₁, [(I, oI)], [I], I, n, fun zz => P, St, fun a b => b = a, J, rfl, H₂, rfl, .of1 W, st, h0, ?_, fin⟩
    intro i g gT m mu ι v s hin pv hJ u uT rT hw H
    subst rT
    obtain ⟨o, rfl⟩ := one_key hw
    exact turn i gT m mu (I, o) v s hin pv hJ u H) fun zz zz x => x) hs
end

inductive CNext (G : Gh) (A : Around) (env : Env) (scope : Scope) (g : Heap) (mc : Str → Option Value) (ψ : List (Addr × Obj)) (J : Heap → List (Addr × Obj) → List Value → Prop) (ys : List Value) (s : Shared) : Prop
  | mk (g' : Heap) (mc' : Str → Option Value) (mu' : List (Addr × Obj)) (u : Up g g') (H : At ⟨G, A, env, g', mc', mu' ++ ψ⟩ s) (hm : ∀ x, isFree scope x = true → mc' x = mc x) (h : J g' mu' ys) : CNext G A env scope g mc ψ J ys s
noncomputable abbrev EltY (G : Gh) (A : Around) (env : Env) (scope : Scope) (g : Heap) (mc : Str → Option Value) (ψ : List (Addr × Obj)) (J : Heap → List (Addr × Obj) → List Value → Prop) (ys : List Value) (y : Value) (s : Shared) : Prop := CNext G A env scope g mc ψ J (ys ++ [y]) s
noncomputable abbrev EltK (G : Gh) (A : Around) (env : Env) (elt : PySem.Expr) (scope : Scope) (g : Heap) (mc : Str → Option Value) (ψ : List (Addr × Obj)) (J : Heap → List (Addr × Obj) → List Value → Prop) (ys : List Value) (ok : Bool) (s : Shared) : Prop :=
  if ok = true then wpAny G.M A (eval elt env) (EltY G A env scope g mc ψ J ys) noE s else CNext G A env scope g mc ψ J ys s
noncomputable abbrev TestK (G : Gh) (A : Around) (env : Env) (ifs : List PySem.Expr) (K : Bool → Shared → Prop) (_ : Unit) (s : Shared) : Prop := wpAny G.M A (testsOf ifs env) K noE s
noncomputable abbrev CTurn (G : Gh) (A : Around) (env : Env) (tgt elt : PySem.Expr) (ifs : List PySem.Expr) (scope : Scope) (g : Heap) (mc : Str → Option Value) (ψ : List (Addr × Obj)) (J : Heap → List (Addr × Obj) → List Value → Prop) (ys : List Value) (v : Value) (s : Shared) : Prop :=
  wpAny G.M A (assign tgt env v) (TestK G A env ifs (EltK G A env elt scope g mc ψ J ys)) noE s
inductive CompI (G : Gh) (A : Around) (env : Env) (tgt elt : PySem.Expr) (ifs : List PySem.Expr) (scope : Scope) (cl : List (Str × Addr)) (E : Value → Shared → Prop) (use : Option (Value → Sem Unit)) (Q : Value → Shared → Prop) (v : Value) (s₁ : Shared) : Prop
  | mk (g₁ : Heap) (m₁ : Str → Option Value) (mu₁ ι₀ : List (Addr × Obj)) (wr : List Addr) (I : Addr) (n : Nat) (P : Heap → Nat → Value → Prop) (St : Nat → Heap → Prop) (R : Heap → Heap → Prop) (J : Nat → Heap → List (Addr × Obj) → List Value → Prop)
    (e : v = .ref I) (H : At ⟨G, A, env, g₁, m₁, ι₀ ++ mu₁⟩ s₁) (hw : ι₀.map (·.1) = wr) (W : WalkL G A tgt wr I n P St g₁ R) (st : St 0 s₁.heap) (hsz : n ≤ sizeLine) (h0 : J 0 g₁ mu₁ [])
    (turn : ∀ i C g gT mc mu ψ v ys s, i < n → P gT i v → J i g mu ys → Up g₁ g → Up g gT → R g gT → (∀ x, isFree scope x = true → mc x = m₁ x) → At ⟨G, A, compEnvC scope cl C env, gT, mc, mu ++ ψ⟩ s →
      CTurn G A (compEnvC scope cl C env) tgt elt ifs scope gT mc ψ (J (i + 1)) ys v s)
    (hlen : ∀ i g mu ys, J i g mu ys → i ≤ n → ys.length ≤ i)
    (fin : ∀ C oC D g mu ys k s, J n g mu ys → Up g₁ g → At ⟨G, A, env, g, m₁, (C, oC) :: (D, lstO ys k) :: mu⟩ s → (∃ m', s.heap.Ns C m') → compPost G.M A E use Q (.ref D) C (.ok .next) s) : CompI G A env tgt elt ifs scope cl E use Q v s₁
inductive CompInv (G : Gh) (A : Around) (env : Env) (scope : Scope) (n : Nat) (wr : List Addr) (p : Addr × Obj) (D : Addr) (g₁ : Heap) (m₁ : Str → Option Value) (St : Nat → Heap → Prop) (J : Nat → Heap → List (Addr × Obj) → List Value → Prop) (k : Nat) (s : Shared) : Prop
  | mk (i : Nat) (g : Heap) (mc : Str → Option Value) (mu ι : List (Addr × Obj)) (ys : List Value) (q : Nat) (e : k = n + 1 - i) (hi : i ≤ n) (hw : ι.map (·.1) = wr) (H : At ⟨G, A, env, g, mc, mu ++ (ι ++ [(D, lstO ys q), p])⟩ s) (u : Up g₁ g) (st : St i s.heap) (hm : ∀ x, isFree scope x = true → mc x = m₁ x) (h : J i g mu ys) : CompInv G A env scope n wr p D g₁ m₁ St J k s
section
variable {G : Gh} {A : Around} {env : Env} {s : Shared} {E : Value → Shared → Prop} {pos : Pos}
theorem comp_core {tgt iter elt : PySem.Expr} {ifs : List PySem.Expr} {scope : Scope} {cl : List (Str × Addr)} {use : Option (Value → Sem Unit)} {Q : Value → Shared → Prop} {p' : Pos}
    (hclos : closureFor scope env = pure cl) (hper : cl.Perm env.cells) (hfree : ∀ p ∈ cl, scope.names.lookup p.1 = some .free)
    (hcell : ∀ x ∈ scope.names, x.2 ≠ .cell) (hkind : scope.kind = .function) (hnames : ∀ x ∈ scope.names, x.2 = .local → scope.names.lookup x.1 = some .local)
    (hi : wpAny G.M A (eval iter env) (IterK G A (CompI G A env tgt elt ifs scope cl E use Q)) E s)
    (hs : ∀ x, foldedSetIterable iter env x = pure x) :
    wpAny G.M A (comprehension (.ListComp elt [⟨tgt, iter, ifs, 0⟩] scope pos) scope env p' (newList []) false (eval iter env) use) Q E s := by
  refine wpAny_comprehension_free rfl hs hclos hkind hnames (wpAny_mono hi (fun v s₁ h₁ => h₁ _ _ fun v₂ s₂ h₂ => ?_) fun zz zz x => x)
  obtain ⟨g₁, m₁, mu₁, ι₀, wr, I, n, P, St, R, J, rfl, H₂, hwr, W, st, hsz, h0, turn, hlen, fin⟩ := h₂
  refine wpAny_newObj_type ?_
  have H₃ : At ⟨G, A, env, g₁, m₁, (s₂.heap.objs.size, lstO [] 0) :: (ι₀ ++ mu₁)⟩ { s₂ with heap := s₂.heap.push (lstO [] 0) } := H₂.alloc
  generalize hD : s₂.heap.objs.size = D at H₃ ⊢
  generalize hs3 : ({ s₂ with heap := s₂.heap.push (lstO [] 0) } : Shared) = s₃ at H₃
  have st₃ : St 0 s₃.heap := W.frame 0 hwr H₂ Up.rfl Up.rfl (H₃.perm List.perm_middle.symm) st
  refine wpAny_newFunctionEnv hcell (by intro y hy; simp at hy) (fun h₁ hns₁ hsb₁ => ?_) hkind
  generalize hC : s₃.heap.objs.size = C at hns₁ hsb₁ ⊢
  -- the comprehension's frame
  obtain ⟨oL, co, l, kc, gl⟩ := H₃
  obtain ⟨oC, es, ep, e1, e2, e3, e4⟩ := hns₁
  have gl₁ := (Gl.alloc gl (o := { cls := .type (if (some env).isSome then "dict" else "frame"), data := .dict #[] })).same (hC ▸ hsb₁) (hC ▸ e1) s₃.toks
  rw [hC] at gl₁
  obtain ⟨co', pco, kc'⟩ := cells_perm hper.symm kc
  let mc₀ : Str → Option Value := fun x => if isFree scope x = true then m₁ x else none
  have hf0 : ∀ p ∈ cl, isFree scope p.1 = true := fun p hp => by unfold isFree; rw [hfree p hp]; rfl
  have H₄ : At ⟨G, A, compEnvC scope cl C env, g₁, mc₀, mu₁ ++ (ι₀ ++ [(D, lstO [] 0), (env.locals, oL)])⟩ { s₃ with heap := h₁, toks := s₃.toks + ([] : List (Str × Value)).length } := by
    refine ⟨oC, co', ⟨es, ep, e2, e3, fun name hn => ?_⟩, cells_congr kc' fun p hp => by show mc₀ p.1 = m₁ p.1; simp only [mc₀]; rw [if_pos (hf0 p hp)], (gl₁.toks _).perm ?_⟩
    · rw [e4]
      have := kind_relabel (show (relabel scope env).names.lookup name = some .local from hn)
      show _ = mc₀ name
      simp only [mc₀, isFree, this]
      rfl
    · refine List.Perm.cons _ ?_
      show List.Perm ((env.locals, oL) :: (co ++ (D, lstO [] 0) :: (ι₀ ++ mu₁))) (co' ++ (mu₁ ++ (ι₀ ++ [(D, lstO [] 0), (env.locals, oL)])))
      have q1 : List.Perm ((env.locals, oL) :: (co ++ (D, lstO [] 0) :: (ι₀ ++ mu₁))) (co ++ ((env.locals, oL) :: (D, lstO [] 0) :: (ι₀ ++ mu₁))) := List.perm_middle.symm
      refine q1.trans (pco.append ?_)
      have q2 : List.Perm ((env.locals, oL) :: (D, lstO [] 0) :: (ι₀ ++ mu₁)) ((D, lstO [] 0) :: (env.locals, oL) :: (ι₀ ++ mu₁)) := .swap ..
      refine q2.trans ?_
      have q3 : List.Perm ([(D, lstO [] 0), (env.locals, oL)] ++ (ι₀ ++ mu₁)) ((ι₀ ++ mu₁) ++ [(D, lstO [] 0), (env.locals, oL)]) := List.perm_append_comm
      refine q3.trans ?_
      rw [← List.append_assoc]
      exact List.Perm.append_right _ List.perm_append_comm
  have pI : ∀ (ι : List (Addr × Obj)) (a b : Addr × Obj) (mu : List (Addr × Obj)), List.Perm (mu ++ (ι ++ [a, b])) (ι ++ (a :: b :: mu)) := fun ι a b mu => by
    refine List.perm_append_comm.trans ?_
    rw [List.append_assoc]; exact .refl _
  have pD : ∀ (ι : List (Addr × Obj)) (b c : Addr × Obj) (mu : List (Addr × Obj)), List.Perm (mu ++ (ι ++ [b, c])) (b :: (mu ++ (ι ++ [c]))) := fun ι b c mu => by
    rw [← List.append_assoc, ← List.append_assoc]
    exact List.perm_middle
  have st₄ : St 0 h₁ := W.frame 0 (s' := { s₃ with heap := h₁, toks := s₃.toks + ([] : List (Str × Value)).length }) hwr H₂ Up.rfl Up.rfl (H₄.perm (pI ..)) st
  -- the loop
  have loop : ∀ s₄, At ⟨G, A, compEnvC scope cl C env, g₁, mc₀, mu₁ ++ (ι₀ ++ [(D, lstO [] 0), (env.locals, oL)])⟩ s₄ → St 0 s₄.heap →
      codeAny G.M A (.compLoop (.ListComp elt [⟨tgt, iter, ifs, 0⟩] scope pos) 0 (.ref I) (.ref D) (compEnvC scope cl C env)) (compPost G.M A E use Q (.ref D) C) s₄ := fun s₄ H₄ st₄ => by
    refine codeAny_loop rfl (CompInv G A (compEnvC scope cl C env) scope n wr (env.locals, oL) D g₁ m₁ St J) (fun k s' hI => ?_) (n + 1)
      ⟨0, g₁, mc₀, mu₁, ι₀, [], 0, rfl, Nat.zero_le _, hwr, H₄, Up.rfl, st₄, fun x hx => by simp only [mc₀]; rw [if_pos hx], h0⟩
    obtain ⟨i, g, mc, mu, ι', ys, q, rfl, hin, hw', H', u, st', hm, hJ⟩ := hI
    show wpAny G.M A ((compTurn (.ListComp elt [⟨tgt, iter, ifs, 0⟩] scope pos) 0 (.ref I) (.ref D) (compEnvC scope cl C env)).onRaise (fun x => do noteFrame x (compEnvC scope cl C env); theTreesLotGoes x)) _ _ s'
    refine wpAny_noted ?_
    rw [compTurn_list]
    by_cases hi' : i < n
    · refine wpAny_bind (wpAny_standAt (wpAny_bind (W.next hw' u (H'.perm (pI ..)) st' hi' fun v ι₁ s₅ gT uT rT hw₁ pv H₅ lg => ?_)))
      refine wpAny_bind (lg fun ι₂ s₅ hw₂ H₅ st₅ => ?_)
      have H₅' : At ⟨G, A, compEnvC scope cl C env, gT, mc, mu ++ (ι₂ ++ [(D, lstO ys q), (env.locals, oL)])⟩ s₅ := H₅.perm (pI ..).symm
      have noX : ∀ (e : Value) (s' : Shared), False → notedBy G.M A (compEnvC scope cl C env) (fun e s' => compPost G.M A E use Q (.ref D) C (.error e) s') e s' := fun zz zz h => h.elim
      refine wpAny_bind (wpAny_mono (turn i C g gT mc mu _ v ys s₅ hi' pv hJ u uT rT hm H₅') (fun zz s₆ h₆ => wpAny_bind (wpAny_mono h₆ (fun ok s₇ h₇ => ?_) noX)) noX)
      cases ok with
      | true =>
        have h₇ : wpAny G.M A (eval elt (compEnvC scope cl C env)) (EltY G A (compEnvC scope cl C env) scope gT mc (ι₂ ++ [(D, lstO ys q), (env.locals, oL)]) (J (i + 1)) ys) noE s₇ := h₇
        simp only [if_true]
        refine wpAny_bind (wpAny_bind (wpAny_mono h₇ (fun y s₈ h₈ => wpAny_bind ?_) noX))
        obtain ⟨g', mc', mu', u', H₈, hm', hJ'⟩ := h₈
        have H₈' := H₈.perm (pD ..)
        refine append_at (H₈'.get (.head _)) (fun h₉ hs₉ hD₉ => wpAny_pure (wpAny_pure ⟨rfl, ?_⟩)) (by show ys.toArray.size ≤ sizeLine; have := hlen i g mu ys hJ hin; simp; omega)
        have H₉ := At.same (c := ⟨G, A, compEnvC scope cl C env, g', mc', []⟩) H₈' hs₉ hD₉ s₈.toks
        have H₉' : At ⟨G, A, compEnvC scope cl C env, g', mc', mu' ++ (ι₂ ++ [(D, lstO (ys ++ [y]) (q + 1)), (env.locals, oL)])⟩ { s₈ with heap := h₉ } := by
          have := H₉.perm (pD ι₂ (D, _) (env.locals, oL) mu').symm
          rw [show (lstO (ys ++ [y]) (q + 1)) = ({ cls := .type "list", data := .seq (ys.toArray.push y) (q + 1) } : Obj) by simp [lstO]]
          exact this
        exact ⟨n + 1 - (i + 1), by omega, i + 1, g', mc', mu', ι₂, ys ++ [y], q + 1, rfl, hi', hw₂, H₉', u.trans (uT.trans u'), W.frame _ hw₂ H₅ (u.trans uT) u' (H₉'.perm (pI ..)) st₅, fun x hx => (hm' x hx).trans (hm x hx), hJ'⟩
      | false =>
        have h₇ : CNext G A (compEnvC scope cl C env) scope gT mc (ι₂ ++ [(D, lstO ys q), (env.locals, oL)]) (J (i + 1)) ys s₇ := h₇
        simp only [Bool.false_eq_true, if_false]
        obtain ⟨g', mc', mu', u', H₈, hm', hJ'⟩ := h₇
        exact wpAny_pure ⟨rfl, n + 1 - (i + 1), by omega, i + 1, g', mc', mu', ι₂, ys, q, rfl, hi', hw₂, H₈, u.trans (uT.trans u'), W.frame _ hw₂ H₅ (u.trans uT) u' (H₈.perm (pI ..)) st₅, fun x hx => (hm' x hx).trans (hm x hx), hJ'⟩
    · obtain rfl : i = n := by omega
      refine wpAny_bind (wpAny_standAt (wpAny_bind (W.done hw' u (H'.perm (pI ..)) st' fun s₅ H₅ => wpAny_pure ?_)))
      -- back in the frame around
      obtain ⟨oC', co₂, l₂, kc₂, gl₂⟩ := H₅
      obtain ⟨es', ep', d1, d2, d3⟩ := l₂
      have nsC : ∃ m', s₅.heap.Ns C m' := ⟨_, oC', es', ep', (gl₂.mus _ (.head _)).1, d1, d2, fun zz => rfl⟩
      obtain ⟨co₃, p₃, kc₃⟩ := cells_perm hper kc₂
      refine fin C oC' D g mu ys q s₅ hJ u ⟨oL, co₃, l, cells_congr kc₃ fun p hp => ?_, gl₂.perm ?_⟩ nsC
      · obtain hp' : p ∈ cl := hper.mem_iff.mpr hp
        exact (hm p.1 (hf0 p hp')).symm
      · show List.Perm ((C, oC') :: (co₂ ++ (D, lstO ys q) :: (env.locals, oL) :: mu)) ((env.locals, oL) :: (co₃ ++ (C, oC') :: (D, lstO ys q) :: mu))
        have q1 : List.Perm (co₂ ++ (D, lstO ys q) :: (env.locals, oL) :: mu) ((env.locals, oL) :: (co₃ ++ (D, lstO ys q) :: mu)) := (p₃.append (.swap ..)).trans List.perm_middle
        exact (q1.cons _).trans ((List.Perm.swap ..).trans (List.Perm.cons _ List.perm_middle.symm))
  refine codeAny_compStart_list (loop _ H₄ st₄) ?_
  exact W.self 0 _ _ _ st₄ (loop _ H₄ st₄)

inductive CompL (G : Gh) (A : Around) (env : Env) (tgt elt : PySem.Expr) (ifs : List PySem.Expr) (scope : Scope) (cl : List (Str × Addr)) (Q : Value → Shared → Prop) (v : Value) (s₁ : Shared) : Prop
  | mk (g₁ : Heap) (m₁ : Str → Option Value) (mu₁ ι₀ : List (Addr × Obj)) (wr : List Addr) (I : Addr) (n : Nat) (P : Heap → Nat → Value → Prop) (St : Nat → Heap → Prop) (R : Heap → Heap → Prop) (J : Nat → Heap → List (Addr × Obj) → List Value → Prop)
    (e : v = .ref I) (H : At ⟨G, A, env, g₁, m₁, ι₀ ++ mu₁⟩ s₁) (hw : ι₀.map (·.1) = wr) (W : WalkL G A tgt wr I n P St g₁ R) (st : St 0 s₁.heap) (hsz : n ≤ sizeLine) (h0 : J 0 g₁ mu₁ [])
    (turn : ∀ i C g gT mc mu ψ v ys s, i < n → P gT i v → J i g mu ys → Up g₁ g → Up g gT → R g gT → (∀ x, isFree scope x = true → mc x = m₁ x) → At ⟨G, A, compEnvC scope cl C env, gT, mc, mu ++ ψ⟩ s →
      CTurn G A (compEnvC scope cl C env) tgt elt ifs scope gT mc ψ (J (i + 1)) ys v s)
    (hlen : ∀ i g mu ys, J i g mu ys → i ≤ n → ys.length ≤ i)
    (fin : ∀ D g mu ys k s, J n g mu ys → Up g₁ g → At ⟨G, A, env, g, m₁, (D, lstO ys k) :: mu⟩ s → Q (.ref D) s) : CompL G A env tgt elt ifs scope cl Q v s₁
theorem ev_compI {tgt iter elt : PySem.Expr} {ifs : List PySem.Expr} {scope : Scope} {cl : List (Str × Addr)} {Q : Value → Shared → Prop}
    (hclos : closureFor scope env = pure cl) (hper : cl.Perm env.cells) (hok : compOK scope cl = true)
    (hi : wpAny G.M A (eval iter env) (IterK G A (CompL G A env tgt elt ifs scope cl Q)) E s)
    (hs : ∀ x, foldedSetIterable iter env x = pure x) :
    wpAny G.M A (eval (.ListComp elt [⟨tgt, iter, ifs, 0⟩] scope pos) env) Q E s := by
  obtain ⟨h1, h2, h3, h4⟩ := compOK_of hok
  rw [eval_ListComp]
  refine comp_core hclos hper h1 h2 h3 h4 (wpAny_mono hi (fun v s₁ h Q' E' k => h Q' E' fun w s₂ h₂ => k w s₂ ?_) fun zz zz x => x) hs
  obtain ⟨g₁, m₁, mu₁, ι₀, wr, I, n, P, St, R, J, hv, H, hwr, W, st, hsz, h0, turn, hlen, fin⟩ := h₂
  exact ⟨g₁, m₁, mu₁, ι₀, wr, I, n, P, St, R, J, hv, H, hwr, W, st, hsz, h0, turn, hlen, fun C oC D g mu ys k s hJ u H' ⟨m', hn⟩ => ⟨m', hn, fun h' hs' => fin D g mu ys k _ hJ u (H'.dropSame hs')⟩⟩
theorem ev_compL {tgt iter elt : PySem.Expr} {ifs : List PySem.Expr} {scope : Scope} {cl : List (Str × Addr)} {Q : Value → Shared → Prop}
    (hclos : closureFor scope env = pure cl) (hper : cl.Perm env.cells) (hok : compOK scope cl = true)
    (hi : wpAny G.M A (eval iter env) (CompL G A env tgt elt ifs scope cl Q) E s)
    (hs : ∀ x, foldedSetIterable iter env x = pure x := by intro _; rfl) :
    wpAny G.M A (eval (.ListComp elt [⟨tgt, iter, ifs, 0⟩] scope pos) env) Q E s :=
  ev_compI hclos hper hok (wpAny_mono hi (fun v s₁ h Q' E' k => by
    obtain ⟨g₁, m₁, mu₁, ι₀, wr, I, n, P, St, R, J, rfl, H, hwr, W, st, hsz, h0, turn, hlen, fin⟩ := h
    exact W.self 0 _ _ _ st (k _ _ ⟨g₁, m₁, mu₁, ι₀, wr, I, n, P, St, R, J, rfl, H, hwr, W, st, hsz, h0, turn, hlen, fin⟩)) fun zz zz x => x) hs
inductive CompK (G : Gh) (A : Around) (env : Env) (tgt elt : PySem.Expr) (ifs : List PySem.Expr) (scope : Scope) (cl : List (Str × Addr)) (Q : Value → Shared → Prop) (v : Value) (s₁ : Shared) : Prop
  | mk (g₁ : Heap) (m₁ : Str → Option Value) (mu₁ : List (Addr × Obj)) (n : Nat) (P : Nat → Value → Prop) (J : Nat → Heap → List (Addr × Obj) → List Value → Prop)
    (H : At ⟨G, A, env, g₁, m₁, mu₁⟩ s₁) (it : Itr G A g₁ v n P) (hsz : n ≤ sizeLine) (h0 : J 0 g₁ mu₁ [])
    (turn : ∀ i C g mc mu ψ v ys s, i < n → P i v → J i g mu ys → Up g₁ g → (∀ x, isFree scope x = true → mc x = m₁ x) → At ⟨G, A, compEnvC scope cl C env, g, mc, mu ++ ψ⟩ s →
      CTurn G A (compEnvC scope cl C env) tgt elt ifs scope g mc ψ (J (i + 1)) ys v s)
    (hlen : ∀ i g mu ys, J i g mu ys → i ≤ n → ys.length ≤ i)
    (fin : ∀ D g mu ys k s, J n g mu ys → Up g₁ g → At ⟨G, A, env, g, m₁, (D, lstO ys k) :: mu⟩ s → Q (.ref D) s) : CompK G A env tgt elt ifs scope cl Q v s₁
theorem ev_comp {tgt iter elt : PySem.Expr} {ifs : List PySem.Expr} {scope : Scope} {cl : List (Str × Addr)} {Q : Value → Shared → Prop}
    (hclos : closureFor scope env = pure cl) (hper : cl.Perm env.cells) (hok : compOK scope cl = true)
    (hi : wpAny G.M A (eval iter env) (CompK G A env tgt elt ifs scope cl Q) E s)
    (hs : ∀ x, foldedSetIterable iter env x = pure x := by intro _; rfl) :
    wpAny G.M A (eval (.ListComp elt [⟨tgt, iter, ifs, 0⟩] scope pos) env) Q E s :=
  ev_compI hclos hper hok (wpAny_mono hi (fun v s₁ h Q' E' k => by
    obtain ⟨g₁, m₁, mu₁, n, P, J, H, it, hsz, h0, turn, hlen, fin⟩ := h
    refine it env g₁ m₁ mu₁ s₁ _ _ Up.rfl H fun I oI St s₂ W st H₂ => k _ _ ⟨g₁, m₁, mu₁, [(I, oI)], [I], I, n, fun zz => P, St, fun a b => b = a, J, rfl, H₂, rfl, .of1 W, st, hsz, h0, ?_, hlen, fin⟩
    intro i C g gT mc mu ψ v ys s hin pv hJ u uT rT hm H
    subst rT
    exact turn i C gT mc mu ψ v ys s hin pv hJ u hm H) fun zz zz x => x) hs
inductive CompA (G : Gh) (A : Around) (env : Env) (tgt elt : PySem.Expr) (ifs : List PySem.Expr) (scope : Scope) (cl : List (Str × Addr)) (y : Str) (rest : List Stmt) (Q : Flow → Shared → Prop) (E : Value → Shared → Prop) (v : Value) (s₁ : Shared) : Prop
  | mk (g₁ : Heap) (m₁ : Str → Option Value) (mu₁ : List (Addr × Obj)) (n : Nat) (P : Nat → Value → Prop) (J : Nat → Heap → List (Addr × Obj) → List Value → Prop)
    (H : At ⟨G, A, env, g₁, m₁, mu₁⟩ s₁) (it : Itr G A g₁ v n P) (hsz : n ≤ sizeLine) (h0 : J 0 g₁ mu₁ [])
    (turn : ∀ i C g mc mu ψ v ys s, i < n → P i v → J i g mu ys → Up g₁ g → (∀ x, isFree scope x = true → mc x = m₁ x) → At ⟨G, A, compEnvC scope cl C env, g, mc, mu ++ ψ⟩ s →
      CTurn G A (compEnvC scope cl C env) tgt elt ifs scope g mc ψ (J (i + 1)) ys v s)
    (hlen : ∀ i g mu ys, J i g mu ys → i ≤ n → ys.length ≤ i)
    (fin : ∀ D g mu ys k s, J n g mu ys → Up g₁ g → At ⟨G, A, env, g, put m₁ y (.ref D), (D, lstO ys k) :: mu⟩ s → wpAny G.M A (execs rest env) Q E s) : CompA G A env tgt elt ifs scope cl y rest Q E v s₁
theorem ex_assign_comp {tgt iter elt : PySem.Expr} {ifs : List PySem.Expr} {scope : Scope} {cl : List (Str × Addr)} {Q : Flow → Shared → Prop} {y : Str} {py spos : Pos} {rest : List Stmt}
    (hsw : swapsWith (.ListComp elt [⟨tgt, iter, ifs, 0⟩] scope pos) (some (.Name y py)) spos.line env = pure true)
    (hclos : closureFor scope env = pure cl) (hper : cl.Perm env.cells) (hok : compOK scope cl = true) (hst : stOK env y = true)
    (hi : wpAny G.M A (eval iter env) (CompA G A env tgt elt ifs scope cl y rest Q E) E s)
    (hs : ∀ x, foldedSetIterable iter env x = pure x := by intro _; rfl) :
    wpAny G.M A (execs (.Assign [.Name y py] (.ListComp elt [⟨tgt, iter, ifs, 0⟩] scope pos) spos :: rest) env) Q E s := by
  obtain ⟨h1, h2, h3, h4⟩ := compOK_of hok
  refine ex_step ?_
  rw [exec_Assign_Name_used _ _ _ _ hsw]
  refine wpAny_bind (wpAny_standAt (wpAny_bind ?_))
  show wpAny _ A (do let _ ← comprehension (.ListComp elt [⟨tgt, iter, ifs, 0⟩] scope pos) scope env _ (newList []) false (eval iter env) (some (assign (.Name y py) env))) _ _ s
  refine wpAny_bind (wpAny_mono (comp_core (use := some (assign (.Name y py) env)) (Q := fun zz s' => wpAny G.M A (execs rest env) Q E s') hclos hper h1 h2 h3 h4 (wpAny_mono hi (fun v s₁ h Q' E' k => ?_) fun zz zz x => x) hs) (fun zz s' hq => wpAny_pure (wpAny_pure hq)) fun zz zz e => e)
  obtain ⟨g₁, m₁, mu₁, n, P, J, H, it, hsz, h0, turn, hlen, fin⟩ := h
  refine it env g₁ m₁ mu₁ s₁ _ _ Up.rfl H fun I oI St s₂ W st H₂ => k _ _ ⟨g₁, m₁, mu₁, [(I, oI)], [I], I, n, fun zz => P, St, fun a b => b = a, J, rfl, H₂, rfl, .of1 W, st, hsz, h0, ?_, hlen, fun C oC D g mu ys k s hJ u H' ⟨m', hn⟩ => ?_⟩
  · intro i C g gT mc mu ψ v ys s hin pv hJ u uT rT hm H
    subst rT
    exact turn i C gT mc mu ψ v ys s hin pv hJ u hm H
  show wpAny G.M A (assign (.Name y py) env (.ref D)) _ E s
  refine wpAny_assign_Name (H'.store hst fun s'' H'' => ⟨m', ?_, fun h' hs' => fin D g mu ys k _ hJ u (H''.dropSame hs')⟩)
  obtain ⟨o, es, ep, q1, q2⟩ := hn
  have e := H'.get (.head _)
  rw [q1] at e; (first | subst e | cases e)
  exact ⟨_, es, ep, H''.get (.head _), q2⟩
end
theorem elt_yes {G : Gh} {A : Around} {env : Env} {elt : PySem.Expr} {scope : Scope} {g : Heap} {mc : Str → Option Value} {ψ : List (Addr × Obj)} {J : Heap → List (Addr × Obj) → List Value → Prop} {ys : List Value} {s : Shared}
    (h : wpAny G.M A (eval elt env) (EltY G A env scope g mc ψ J ys) noE s) : EltK G A env elt scope g mc ψ J ys true s := h
theorem elt_no {G : Gh} {A : Around} {env : Env} {elt : PySem.Expr} {scope : Scope} {g : Heap} {mc : Str → Option Value} {ψ : List (Addr × Obj)} {J : Heap → List (Addr × Obj) → List Value → Prop} {ys : List Value} {s : Shared}
    (h : CNext G A env scope g mc ψ J ys s) : EltK G A env elt scope g mc ψ J ys false s := h
theorem tests_yes {G : Gh} {A : Around} {env : Env} {elt : PySem.Expr} {scope : Scope} {g : Heap} {mc : Str → Option Value} {ψ : List (Addr × Obj)} {J : Heap → List (Addr × Obj) → List Value → Prop} {ys : List Value} {s : Shared}
    (h : wpAny G.M A (eval elt env) (EltY G A env scope g mc ψ J ys) noE s) : wpAny G.M A (testsOf [] env) (EltK G A env elt scope g mc ψ J ys) noE s := wpAny_pure (a := true) h
end Mine
end
section

end
section
open PySem PySem.W PyProof.Rows PySem.Calls PySem.Builtin PySem.Builtin.Str
namespace Mine
set_option maxRecDepth 100000

section
variable {G : Gh} {A : Around} {env : Env} {g : Heap} {m : Str → Option Value} {mu : List (Addr × Obj)} {s : Shared} {Q : Value → Shared → Prop} {E : Value → Shared → Prop} {np pos : Pos} {nm : Str} {e : PySem.Expr} {es : List PySem.Expr}
theorem c_bi {id : String} {P : List Value → Prop} (H : At ⟨G, A, env, g, m, mu⟩ s) (hb : bootBuiltins nm = some (.builtin id)) (hn : bootName env.scope (KF G.w.params) nm = true) (ha : PA ⟨G, A, env, g, m, mu⟩ (e :: es) P)
    (k : ∀ vs s', P vs → At ⟨G, A, env, g, m, mu⟩ s' → wpAny G.M A (call (.builtin id) vs) Q E s')
    (hg : env.globals = mainGlobals := by rfl) (hbu : env.builtins = builtinsNs := by rfl)
    (he : starEach (e :: es) env = (false, eval e env) :: starEach es env := by rfl) (hp : (backTo pos (starEach es env)).any (·.1) = false := by rfl)
    (hc : eval (.Call (.Name nm np) (e :: es) [] pos) env = (do let f ← eval (.Name nm np) env; callWith pos f [] (backTo pos (starEach (e :: es) env)) (backToKw pos (keywordEach [] env))) := by rfl) :
    wpAny G.M A (eval (.Call (.Name nm np) (e :: es) [] pos) env) Q E s := by
  refine Call_ (pe_bootN (c := ⟨G, A, env, g, m, mu⟩) hb hn hg hbu s _ _ H fun v s₁ q H₁ => ?_) hc
  (first | subst q | cases q)
  exact cw_bi (ha pos s₁ _ _ H₁ fun vs s₂ p H₂ => k vs s₂ p H₂) he hp
theorem c_ty {T : String} {P : List Value → Prop} (H : At ⟨G, A, env, g, m, mu⟩ s) (hb : bootBuiltins nm = some (.type T)) (hn : bootName env.scope (KF G.w.params) nm = true) (ha : PA ⟨G, A, env, g, m, mu⟩ (e :: es) P)
    (k : ∀ vs s', P vs → At ⟨G, A, env, g, m, mu⟩ s' → wpAny G.M A (call (.type T) vs) Q E s')
    (hg : env.globals = mainGlobals := by rfl) (hbu : env.builtins = builtinsNs := by rfl)
    (he : starEach (e :: es) env = (false, eval e env) :: starEach es env := by rfl) (hp : (backTo pos (starEach es env)).any (·.1) = false := by rfl)
    (hc : eval (.Call (.Name nm np) (e :: es) [] pos) env = (do let f ← eval (.Name nm np) env; callWith pos f [] (backTo pos (starEach (e :: es) env)) (backToKw pos (keywordEach [] env))) := by rfl) :
    wpAny G.M A (eval (.Call (.Name nm np) (e :: es) [] pos) env) Q E s := by
  refine Call_ (pe_bootN (c := ⟨G, A, env, g, m, mu⟩) hb hn hg hbu s _ _ H fun v s₁ q H₁ => ?_) hc
  (first | subst q | cases q)
  exact cw_ty (ha pos s₁ _ _ H₁ fun vs s₂ p H₂ => k vs s₂ p H₂) he hp
theorem c_bi_any {id : String} (H : At ⟨G, A, env, g, m, mu⟩ s) (hb : bootBuiltins nm = some (.builtin id)) (hn : bootName env.scope (KF G.w.params) nm = true)
    (k : ∀ s', At ⟨G, A, env, g, m, mu⟩ s' → wpAny G.M A (spliced (backTo pos (starEach (e :: es) env))) (fun vs s₁ => wpAny G.M A (call (.builtin id) vs) Q E s₁) E s')
    (hg : env.globals = mainGlobals := by rfl) (hbu : env.builtins = builtinsNs := by rfl)
    (he : starEach (e :: es) env = (false, eval e env) :: starEach es env := by rfl) (hp : (backTo pos (starEach es env)).any (·.1) = false := by rfl)
    (hc : eval (.Call (.Name nm np) (e :: es) [] pos) env = (do let f ← eval (.Name nm np) env; callWith pos f [] (backTo pos (starEach (e :: es) env)) (backToKw pos (keywordEach [] env))) := by rfl) :
    wpAny G.M A (eval (.Call (.Name nm np) (e :: es) [] pos) env) Q E s := by
  refine Call_ (pe_bootN (c := ⟨G, A, env, g, m, mu⟩) hb hn hg hbu s _ _ H fun v s₁ q H₁ => ?_) hc
  (first | subst q | cases q)
  exact cw_bi (k s₁ H₁) he hp
theorem c_ty_any {T : String} (H : At ⟨G, A, env, g, m, mu⟩ s) (hb : bootBuiltins nm = some (.type T)) (hn : bootName env.scope (KF G.w.params) nm = true)
    (k : ∀ s', At ⟨G, A, env, g, m, mu⟩ s' → wpAny G.M A (spliced (backTo pos (starEach (e :: es) env))) (fun vs s₁ => wpAny G.M A (call (.type T) vs) Q E s₁) E s')
    (hg : env.globals = mainGlobals := by rfl) (hbu : env.builtins = builtinsNs := by rfl)
    (he : starEach (e :: es) env = (false, eval e env) :: starEach es env := by rfl) (hp : (backTo pos (starEach es env)).any (·.1) = false := by rfl)
    (hc : eval (.Call (.Name nm np) (e :: es) [] pos) env = (do let f ← eval (.Name nm np) env; callWith pos f [] (backTo pos (starEach (e :: es) env)) (backToKw pos (keywordEach [] env))) := by rfl) :
    wpAny G.M A (eval (.Call (.Name nm np) (e :: es) [] pos) env) Q E s := by
  refine Call_ (pe_bootN (c := ⟨G, A, env, g, m, mu⟩) hb hn hg hbu s _ _ H fun v s₁ q H₁ => ?_) hc
  (first | subst q | cases q)
  exact cw_ty (k s₁ H₁) he hp
end

noncomputable def PFSpec (G : Gh) (n : Nat) (f : Addr) (args : List Value) (V : Value → Prop) : Prop :=
  ∀ A g mu s Q E, Gl G g mu s → Rm A n → (∀ v s', V v → Gl G g mu s' → Q v s') → wpAny G.M A (call (.ref f) args) Q E s
noncomputable def FSpec (G : Gh) (n : Nat) (f : Addr) (args : List Value) (g₀ : Heap) (V : Heap → Value → Prop) : Prop :=
  ∀ A g mu s Q E, Up g₀ g → Gl G g mu s → Rm A n → (∀ v s' g', Up g g' → V g' v → Gl G g' mu s' → Q v s') → wpAny G.M A (call (.ref f) args) Q E s
section
variable {c : Cx} {np pos : Pos} {nm : Str} {e : PySem.Expr} {es : List PySem.Expr} {n k : Nat} {f : Addr}
theorem At.callee (H : At c s) : Ex2 fun oL co => An3 (Loc c.env c.m oL) (CellsAre c.m c.env.cells co) (Gl c.G c.g ((c.env.locals, oL) :: (co ++ c.mu)) s) := let ⟨oL, co, l, k, g⟩ := H; ⟨oL, co, l, k, g⟩
theorem pe_def {P : List Value → Prop} {V : Value → Prop} (hf : PE c (.Name nm np) (VE (.ref f))) (hi : fnIs (KF c.G.w.params) f = true) (ha : PA c (e :: es) P) (sp : ∀ vs, P vs → PFSpec c.G k f vs V) (R : Rm c.A n) (hk : k ≤ n)
    (he : starEach (e :: es) c.env = (false, eval e c.env) :: starEach es c.env := by rfl)
    (hc : eval (.Call (.Name nm np) (e :: es) [] pos) c.env = (do let f ← eval (.Name nm np) c.env; callWith pos f [] (backTo pos (starEach (e :: es) c.env)) (backToKw pos (keywordEach [] c.env))) := by rfl) :
    PE c (.Call (.Name nm np) (e :: es) [] pos) V := fun s Q E H kk =>
  c_def H hf hi ha (fun vs s' pv H' => by
    obtain ⟨oL, co, l, kc, gl⟩ := H'
    exact sp vs pv c.A c.g _ s' _ _ gl (R.less hk) fun v s'' hv gl' => kk v s'' hv ⟨oL, co, l, kc, gl'⟩) he hc
theorem pt_bool {e : PySem.Expr} {b : Bool} (h : PE c e (VE (.bool b))) (he : ∀ whole, isTrue e c.env whole = (do let v ← whole; standAt e.pos; holding [v] (truthy v)) := by intro _; rfl) : PT c e b := fun s Q E H k =>
  isTrue_plain (h s _ _ H fun v s₁ q H₁ => by cases q; exact wpAny_truthy_bool (k _ H₁)) (he _)
theorem pe_or {x y : PySem.Expr} {a b : Bool} (hx : PE c x (VE (.bool a))) (hy : a = false → PE c y (VE (.bool b))) : PE c (.BoolOp .Or [x, y] pos) (VE (.bool (a || b))) := fun s Q E H k =>
  wpAny_Or2 (hx s _ _ H fun v s₁ q H₁ => by
    (first | subst q | cases q)
    refine wpAny_truthy_bool ?_
    cases a with
    | true => exact k _ _ rfl H₁
    | false => exact hy rfl s₁ _ _ H₁ fun v s₂ q H₂ => k v s₂ q H₂)
theorem PE.convT {e : PySem.Expr} {a b : List Nat} (h : PE c e (VT a)) (q : a = b) : PE c e (VT b) := q ▸ h
theorem PE.convI {e : PySem.Expr} {a b : Int} (h : PE c e (VI a)) (q : a = b) : PE c e (VI b) := q ▸ h
theorem PE.conv {e : PySem.Expr} {a b : Bool} (h : PE c e (VE (.bool a))) (q : a = b) : PE c e (VE (.bool b)) := q ▸ h
theorem pa_one {e : PySem.Expr} {P : Value → Prop} (he : PE c e P) (hs : starEach [e] c.env = (false, eval e c.env) :: starEach [] c.env := by rfl) : PA c [e] (P1 P) := fun pos s Q E H k =>
  (pa_cons he pa_nil hs) pos s Q E H fun vs s' ⟨v, q, e, hv, hq⟩ h' => k vs s' ⟨v, by subst hq; exact e, hv⟩ h'
theorem pa_two {e e' : PySem.Expr} {P P' : Value → Prop} (he : PE c e P) (he' : PE c e' P') (hs : starEach [e, e'] c.env = (false, eval e c.env) :: starEach [e'] c.env := by rfl) (hs' : starEach [e'] c.env = (false, eval e' c.env) :: starEach [] c.env := by rfl) :
    PA c [e, e'] (P2 P P') := fun pos s Q E H k =>
  (pa_cons he (pa_one he' hs') hs) pos s Q E H fun vs s' ⟨v, q, e, hv, v', hq, hv'⟩ h' => k vs s' ⟨v, v', by rw [e, hq], hv, hv'⟩ h'
theorem pa_three {e e' e'' : PySem.Expr} {P P' P'' : Value → Prop} (he : PE c e P) (he' : PE c e' P') (he'' : PE c e'' P'') (hs : starEach [e, e', e''] c.env = (false, eval e c.env) :: starEach [e', e''] c.env := by rfl) (hs' : starEach [e', e''] c.env = (false, eval e' c.env) :: starEach [e''] c.env := by rfl)
    (hs'' : starEach [e''] c.env = (false, eval e'' c.env) :: starEach [] c.env := by rfl) :
    PA c [e, e', e''] (fun vs => Ex3 fun v v' v'' => An4 (vs = [v, v', v'']) (P v) (P' v') (P'' v'')) := fun pos s Q E H k =>
  (pa_cons he (pa_two he' he'' hs' hs'') hs) pos s Q E H fun vs s' ⟨v, q, e, hv, v', v'', hq, hv', hv''⟩ h' => k vs s' ⟨v, v', v'', by rw [e, hq], hv, hv', hv''⟩ h'
theorem pe_int_of {e : PySem.Expr} {l : List Nat} {nmp : Pos} (he : PE c e (VT l)) (hd : NumText.AllDigits l) (h1 : l ≠ []) (h2 : l.length ≤ 640) (hn : bootName c.env.scope (KF c.G.w.params) "int" = true := by kernel_rfl)
    (hg : c.env.globals = mainGlobals := by rfl) (hbu : c.env.builtins = builtinsNs := by rfl)
    (hs : starEach [e] c.env = (false, eval e c.env) :: starEach [] c.env := by rfl)
    (hc : eval (.Call (.Name "int" nmp) [e] [] pos) c.env = (do let f ← eval (.Name "int" nmp) c.env; callWith pos f [] (backTo pos (starEach [e] c.env)) (backToKw pos (keywordEach [] c.env))) := by rfl) :
    PE c (.Call (.Name "int" nmp) [e] [] pos) (VI (NumText.digitsVal l : Nat)) := fun s Q E H k =>
  c_ty H PyProof.Rows.boot_int hn (pa_one he hs) (fun vs s' ⟨v, ev, t, et⟩ H' => by
    subst ev; subst et
    refine KIN.call_text (x := S l) ?_ (by rw [S_len]; exact h2) (k _ _ ⟨_, rfl⟩ (H'.toks _))
    exact PySem.intText_digits (x := S l) (by simpa [S] using hd) (by simpa [S] using h1) (by rw [S_len]; omega)) hg hbu hs rfl hc
end
end Mine
end
section
open PySem PySem.W PyProof.Rows PySem.Calls PySem.Builtin PySem.Builtin.Str
namespace Mine
set_option maxRecDepth 100000

noncomputable def RD (g : Heap) (d : PyData) (v : Value) : Prop := ∃ as, Reads g v d as
noncomputable def RDs (g : Heap) (ds : List PyData) (vs : List Value) : Prop := ∃ as, ReadsAll g vs ds as
section
variable {g g' : Heap} {d : PyData} {ds : List PyData} {v : Value} {vs : List Value}
theorem RD.up (h : RD g d v) (u : Up g g') : RD g' d v := let ⟨as, r⟩ := h; ⟨as, Reads.keeps u r⟩
theorem RDs.up (h : RDs g ds vs) (u : Up g g') : RDs g' ds vs := let ⟨as, r⟩ := h; ⟨as, ReadsAll.keeps u r⟩
theorem RDs.nil : RDs g [] [] := ⟨[], .nil⟩
theorem RDs.cons (h : RD g d v) (hs : RDs g ds vs) : RDs g (d :: ds) (v :: vs) := let ⟨as, r⟩ := h; let ⟨bs, rs⟩ := hs; ⟨as ++ bs, .cons r rs⟩
theorem RDs.snoc : ∀ {ds : List PyData} {vs : List Value}, RDs g ds vs → RD g d v → RDs g (ds ++ [d]) (vs ++ [v])
  | _, _, ⟨_, .nil⟩, h => RDs.cons h RDs.nil
  | _, _, ⟨_, .cons r rs⟩, h => RDs.cons ⟨_, r⟩ (RDs.snoc ⟨_, rs⟩ h)
theorem RDs.length : ∀ {ds : List PyData} {vs : List Value}, RDs g ds vs → vs.length = ds.length
  | _, _, ⟨_, .nil⟩ => rfl
  | _, _, ⟨_, .cons r rs⟩ => by simp [RDs.length ⟨_, rs⟩]
theorem RDs.get {i : Nat} : ∀ {ds : List PyData} {vs : List Value}, RDs g ds vs → vs[i]? = some v → ∃ d, ds[i]? = some d ∧ RD g d v := by
  induction i with
  | zero =>
    rintro _ _ ⟨_, h⟩ e
    cases h with
    | nil => (first | subst e | cases e)
    | cons r rs => (first | subst e | cases e); exact ⟨_, rfl, _, r⟩
  | succ i ih =>
    rintro _ _ ⟨_, h⟩ e
    cases h with
    | nil => (first | subst e | cases e)
    | cons r rs => exact ih ⟨_, rs⟩ (by simpa using e)
theorem RD.int (i : Int) (t : Tok) : RD g (.int i) (.int i t) := ⟨_, .int i t⟩
theorem RD.str (l : List Nat) (t : Tok) : RD g (.str (S l)) (.str (S l) t) := ⟨_, .str _ t⟩
theorem RD.bool (b : Bool) : RD g (.bool b) (.bool b) := ⟨_, .bool b⟩
theorem RD.ofI {i : Int} (h : VI i v) : RD g (.int i) v := let ⟨t, e⟩ := h; e ▸ RD.int i t
theorem RD.ofT {l : List Nat} (h : VT l v) : RD g (.str (S l)) v := let ⟨t, e⟩ := h; e ▸ RD.str l t
theorem RD.ofB {b : Bool} (h : VE (.bool b) v) : RD g (.bool b) v := by cases h; exact RD.bool b
theorem RD.toI {i : Int} (h : RD g (.int i) v) : VI i v := by obtain ⟨_, h⟩ := h; (first | subst h | cases h); exact ⟨_, rfl⟩
theorem RD.toT {l : List Nat} (h : RD g (.str (S l)) v) : VT l v := by obtain ⟨_, h⟩ := h; (first | subst h | cases h); exact ⟨_, rfl⟩
theorem RD.toB {b : Bool} (h : RD g (.bool b) v) : v = .bool b := by obtain ⟨_, h⟩ := h; (first | subst h | cases h); rfl
theorem RD.tuple {a : Addr} {n : Nat} (ho : g.get? a = some (tupO vs n)) (h : RDs g ds vs) : RD g (.tuple ds) (.ref a) := let ⟨as, r⟩ := h; ⟨as, .tuple ho rfl rfl (by simpa using r)⟩
theorem RD.list {a : Addr} {n : Nat} (ho : g.get? a = some (lstO vs n)) (h : RDs g ds vs) : RD g (.list ds) (.ref a) := let ⟨as, r⟩ := h; ⟨a :: as, .list ho rfl rfl (by simpa using r)⟩
theorem RD.toTuple (h : RD g (.tuple ds) v) : Ex2 fun a vs => An3 (v = .ref a) (g.IsTuple a vs.toArray) (RDs g ds vs) := by
  obtain ⟨_, h⟩ := h
  cases h with
  | tuple h1 h2 h3 h4 => exact ⟨_, _, rfl, ⟨_, h1, h2, _, by simpa using h3⟩, _, h4⟩
theorem RD.toList (h : RD g (.list ds) v) : Ex2 fun a vs => An3 (v = .ref a) (g.IsList a vs.toArray) (RDs g ds vs) := by
  obtain ⟨_, h⟩ := h
  cases h with
  | list h1 h2 h3 h4 => exact ⟨_, _, rfl, ⟨_, h1, h2, _, by simpa using h3⟩, _, h4⟩
end

section
variable {G : Gh} {A : Around} {env : Env} {g : Heap} {m : Str → Option Value} {mu : List (Addr × Obj)} {s : Shared} {Q : Value → Shared → Prop} {E : Value → Shared → Prop} {np apos pos : Pos} {x : Str} {e : PySem.Expr}
theorem ev_list {es : List PySem.Expr} {P : List Value → Prop} (H : At ⟨G, A, env, g, m, mu⟩ s) (ha : PA ⟨G, A, env, g, m, mu⟩ es P)
    (k : ∀ D vs s', P vs → At ⟨G, A, env, g, m, (D, lstO vs 0) :: mu⟩ s' → Q (.ref D) s') (hz : ∀ vs, P vs → vs.length ≤ 1000 := by intro vs h; simp_all) : wpAny G.M A (eval (.List es pos) env) Q E s :=
  List_ (ha pos s _ _ H fun vs s₁ p H₁ => wpAny_newObj_type (k _ vs _ p H₁.alloc) (by show vs.toArray.size ≤ _; have := hz vs p; simp; rw [sizeLine_eq]; omega))
theorem ev_nil_list (H : At ⟨G, A, env, g, m, mu⟩ s) (k : ∀ D s', At ⟨G, A, env, g, m, (D, lstO [] 0) :: mu⟩ s' → Q (.ref D) s') : wpAny G.M A (eval (.List [] pos) env) Q E s :=
  ev_list H pa_nil (fun D vs s' p h => by subst p; exact k D s' h) (fun vs p => by subst p; simp)
theorem at_tuple {vs : List Value} (H : At ⟨G, A, env, g, m, mu⟩ s) (hz : vs.length ≤ 16777216)
    (k : ∀ T g' s', Up g g' → g'.get? T = some (tupO vs 0) → At ⟨G, A, env, g', m, mu⟩ s' → Q (.ref T) s') : wpAny G.M A (newTuple vs) Q E s :=
  wpAny_newObj_type (by
    obtain ⟨g', u, hT, H'⟩ := At.freeze (c := ⟨G, A, env, g, m, (_, tupO vs 0) :: mu⟩) (H.alloc (o := tupO vs 0))
    exact k _ g' _ u hT H') (by show vs.toArray.size ≤ _; simp; rw [sizeLine_eq]; omega)
theorem ev_tuple {es : List PySem.Expr} {kk : Nat} {P : List Value → Prop} (H : At ⟨G, A, env, g, m, mu⟩ s) (ha : PA ⟨G, A, env, g, m, mu⟩ es P)
    (k : ∀ T vs g' s', P vs → Up g g' → g'.get? T = some (tupO vs 0) → At ⟨G, A, env, g', m, mu⟩ s' → Q (.ref T) s') (hz : ∀ vs, P vs → vs.length ≤ 1000 := by intro vs h; simp_all) : wpAny G.M A (eval (.Tuple es kk pos) env) Q E s :=
  Tuple_ (ha pos s _ _ H fun vs s₁ p H₁ => at_tuple H₁ (by have := hz vs p; omega) fun T g' s' u hT H' => k T vs g' s' p u hT H')
theorem ev_append {D : Addr} {o : Obj} (H : At ⟨G, A, env, g, m, mu⟩ s) (hs : PE ⟨G, A, env, g, m, mu⟩ (.Name x np) (VE (.ref D))) (hD : (D, o) ∈ mu) (hc : o.cls = .type "list") (hd : o.dict = none) {pl : Sem Bool}
    (he : ∀ s', At ⟨G, A, env, g, m, mu⟩ s' → wpAny G.M A (eval e env) (fun v s₁ => Ex5 fun g' m' mu' vs n => An3 (vs.length ≤ 16777215) (At ⟨G, A, env, g', m', (D, lstO vs n) :: mu'⟩ s₁) (∀ s₂, At ⟨G, A, env, g', m', (D, lstO (vs ++ [v]) (n + 1)) :: mu'⟩ s₂ → Q .none s₂)) E s')
    (hst : starEach [e] env = (false, eval e env) :: starEach [] env := by rfl)
    (hev : eval (.Call (.Attribute (.Name x np) "append" apos) [e] [] pos) env = (do
      let ov ← eval (.Name x np) env
      standAt apos.atName
      let (f, first) ← holding [ov] (getMethod ov "append" pl)
      callWith pos f first (backTo pos (starEach [e] env)) (backToKw pos (keywordEach [] env))) := by rfl) :
    wpAny G.M A (eval (.Call (.Attribute (.Name x np) "append" apos) [e] [] pos) env) Q E s := by
  refine methodCall_KW (pl := pl) (hs s _ _ H fun u s₁ q H₁ => ?_) hev
  (first | subst q | cases q)
  refine Calls.getMethod_list_append (H₁.get hD) hc hd (cw_bi (sp_cons (wpAny_mono (he s₁ H₁) (fun v s₂ h₂ => sp_nil ?_) fun zz zz h => h) hst) hst)
  obtain ⟨g', m', mu', vs, n, hz, H₂, k⟩ := h₂
  refine append_at (H₂.get (.head _)) (fun h' hs' hD' => k _ ?_) (by show vs.toArray.size ≤ _; simp; rw [sizeLine_eq]; omega)
  have H₃ := At.same (c := ⟨G, A, env, g', m', []⟩) H₂ hs' hD' s₂.toks
  rw [show (lstO (vs ++ [v]) (n + 1)) = ({ cls := .type "list", data := .seq (vs.toArray.push v) (n + 1) } : Obj) by simp [lstO]]
  exact H₃
theorem ev_tuple_of {nmp : Pos} {D : Addr} {vs : List Value} {n : Nat} (H : At ⟨G, A, env, g, m, mu⟩ s) (hs : PE ⟨G, A, env, g, m, mu⟩ e (VE (.ref D))) (hD : (D, lstO vs n) ∈ mu) (hz : vs.length ≤ 16777216)
    (k : ∀ T g' s', Up g g' → g'.get? T = some (tupO vs 0) → At ⟨G, A, env, g', m, mu⟩ s' → Q (.ref T) s')
    (hn : bootName env.scope (KF G.w.params) "tuple" = true := by kernel_rfl)
    (hg : env.globals = mainGlobals := by rfl) (hbu : env.builtins = builtinsNs := by rfl)
    (hst : starEach [e] env = (false, eval e env) :: starEach [] env := by rfl)
    (hc : eval (.Call (.Name "tuple" nmp) [e] [] pos) env = (do let f ← eval (.Name "tuple" nmp) env; callWith pos f [] (backTo pos (starEach [e] env)) (backToKw pos (keywordEach [] env))) := by rfl) :
    wpAny G.M A (eval (.Call (.Name "tuple" nmp) [e] [] pos) env) Q E s :=
  c_ty (T := "tuple") H (by decide +kernel) hn (pa_one hs hst) (fun vs' s₁ ⟨v, e1, e2⟩ H₁ => by
    subst e1; (first | subst e2 | cases e2)
    refine call_tuple_list (items := vs.toArray) ⟨_, H₁.get hD, rfl, _, rfl⟩ (fun h' hk => ?_) (by simp; rw [sizeLine_eq]; omega)
    obtain ⟨g', u, hg', H'⟩ := At.grows (c := ⟨G, A, env, g, m, mu⟩) (h' := h'.push (tupO vs 0)) H₁ (fun b o e => Heap.get?_push_of_some _ (hk b o e)) s₁.toks
    refine k _ g' _ u (hg' _ _ (Heap.get?_push_size _ rfl) ?_) H'
    cases q : s₁.heap.get? h'.objs.size with
    | none => rfl
    | some o => exact absurd (Heap.lt_size (hk _ _ q)) (Nat.lt_irrefl _)) hg hbu hst rfl hc
end
end Mine
end
section
open PySem PySem.W PyProof.Rows PySem.Calls PySem.Builtin PySem.Builtin.Str
namespace Mine
set_option maxRecDepth 100000

noncomputable def SDict (w : World) (h : Heap) (d : Addr) (kvs : List (Str × Value)) : Prop := (d == sysModules) = false ∧ h.DictOf (PySem.strKind pw w) d kvs
theorem SDict.up {w : World} {h h' : Heap} {d : Addr} {kvs : List (Str × Value)} (T : SDict w h d kvs) (u : Up h h') : SDict w h' d kvs := ⟨T.1, T.2.keep u⟩
noncomputable def entOf (P : Params) (e : Str × Tok × Value) : DictEntry := ⟨PyData.keyHash P e.1, .str e.1 e.2.1, e.2.2⟩
theorem sdict_of {w : World} {h : Heap} {d : Addr} {l : List (Str × Tok × Value)} {n : Nat} (hd : (d == sysModules) = false) (ho : h.get? d = some ⟨.type "dict", none, .dict (l.map (entOf w.params)).toArray n, #[]⟩)
    (hn : (l.map (·.1)).Nodup) : SDict w h d (l.map fun e => (e.1, e.2.2)) := by
  refine ⟨hd, _, _, n, ho, ⟨rfl, rfl, rfl⟩, rfl, fun e he => ?_, ?_, ?_⟩
  · rw [List.mem_toArray] at he
    obtain ⟨x, _, rfl⟩ := List.mem_map.mp he
    exact ⟨x.1, by show Value.isStrOf x.1 (.str x.1 x.2.1) = true; simp [Value.isStrOf], rfl⟩
  · clear ho hn
    induction l with
    | nil => exact .nil
    | cons x r ih => exact .cons (by show Value.isStrOf x.1 (.str x.1 x.2.1) = true; simp [Value.isStrOf]) rfl ih
  · rw [List.map_map]; exact hn
section
variable {c : Cx} {pos : Pos} {d : Addr} {kvs : List (Str × Value)} {e k : PySem.Expr} {l : List Nat}
theorem pt_notin_dict (hk : PE c k (VT l)) (he : PE c e (VE (.ref d))) (T : ∀ s, At c s → SDict c.G.w s.heap d kvs) (hm : behindInMarks .NotIn e = false := by rfl) : PT c (.Compare k [.NotIn] [e] pos) (!(valueAt kvs (S l)).isSome) := fun s Q E H kk =>
  wpAny_isTrue_Compare1 (hk s _ _ H fun v s₁ ⟨t, q⟩ H₁ => he s₁ _ _ H₁ fun u s₂ q' H₂ => by
    subst q; (first | subst q' | cases q')
    exact wpAny_notIn_of (strKind_is pw c.G.w (S l) t) (T s₂ H₂).1 (T s₂ H₂).2.mapOf (wpAny_truthy_bool (kk _ (H₂.toks _)))) hm
theorem pe_item_dict {v : Value} (he : PE c e (VE (.ref d))) (hk : PE c k (VT l)) (T : ∀ s, At c s → SDict c.G.w s.heap d kvs) (hv : valueAt kvs (S l) = some v) : PE c (.Subscript e k pos) (VE v) := fun s Q E H kk =>
  sub_on (he s _ _ H fun u s₁ q H₁ => hk s₁ _ _ H₁ fun w s₂ ⟨t, q'⟩ H₂ => by
    (first | subst q | cases q); subst q'
    exact ⟨"dict", _, slot_dict_getitem.lookup, (T s₂ H₂).2.typeIs, wpAny_getItem_of (strKind_is pw c.G.w (S l) t) (T s₂ H₂).2.mapOf hv (kk _ _ rfl (H₂.toks _))⟩)
end
theorem At.kf {c : Cx} {s : Shared} {a : Addr} {o : Obj} (H : At c s) (e : (KF c.G.w.params).lookup a = some o) : c.g.get? a = some o := H.gl.upH _ _ (H.gl.base.X _ _ e)
theorem valueAt_map {α : Type} {tab : List α} {key : α → List Nat} {val : α → Value} {w : List Nat} : valueAt (tab.map fun e => (S (key e), val e)) (S w) = (tab.find? fun e => decide (key e = w)).map val := by
  unfold valueAt
  rw [List.find?_map, Option.map_map]
  congr 1
  congr 1
  funext e
  simp [S_inj]

inductive Srt where
  | target | source | const | glob | free | proc | label | sources | rows | prim
  deriving DecidableEq
noncomputable def Srt.txt : Srt → List Nat
  | .target => cs "target" | .source => cs "source" | .const => cs "constant" | .glob => cs "global" | .free => cs "free" | .proc => cs "procedure" | .label => cs "label" | .sources => cs "sources" | .rows => cs "rows" | .prim => cs "primitive"
noncomputable def opsTab : List (List Nat × Addr × List Srt) := [
  (cs "const", 36, [.target, .const]), (cs "move", 37, [.target, .source]), (cs "global", 38, [.target, .glob]), (cs "setglobal", 39, [.glob, .source]), (cs "define", 40, [.glob, .source]),
  (cs "free", 41, [.target, .free]), (cs "closure", 42, [.target, .proc, .sources]), (cs "fix", 43, [.rows]), (cs "prim", 44, [.target, .prim, .sources]), (cs "jump", 45, [.label]),
  (cs "branchfalse", 46, [.source, .label]), (cs "call", 47, [.source, .source, .sources]), (cs "give", 48, [.source, .sources])]
noncomputable def opsRow (w : List Nat) : Option (List Nat × Addr × List Srt) := opsTab.find? fun e => decide (e.1 = w)
noncomputable def sortsOf (w : List Nat) : Option (List Srt) := (opsRow w).map (·.2.2)
noncomputable def Srt.letter : Srt → Nat
  | .target => 114 | .source => 114 | .const => 99 | .glob => 103 | .free => 110 | .proc => 112 | .label => 76 | _ => 0
noncomputable def Srt.plain : Srt → Bool
  | .sources | .rows | .prim => false
  | _ => true

noncomputable def opsEnts : List (Str × Tok × Value) := [("const", 222, .ref 36), ("move", 225, .ref 37), ("global", 228, .ref 38), ("setglobal", 231, .ref 39), ("define", 234, .ref 40), ("free", 237, .ref 41), ("closure", 240, .ref 42), ("fix", 244, .ref 43), ("prim", 246, .ref 44), ("jump", 250, .ref 45), ("branchfalse", 252, .ref 46), ("call", 255, .ref 47), ("give", 259, .ref 48)]
theorem ops_look (P : Params) : (KF P).lookup 35 = some ⟨.type "dict", none, .dict (opsEnts.map (entOf P)).toArray 13, #[]⟩ := by kernel_rfl
theorem ops_kvs : (opsEnts.map fun e => (e.1, e.2.2)) = opsTab.map fun e => (S e.1, Value.ref e.2.1) := by kernel_rfl
theorem ops_nodup : (opsEnts.map (·.1)).Nodup := by
  have : nodupB (opsEnts.map (·.1)) = true := by kernel_rfl
  exact nodupB_iff this
theorem ops_dict {c : Cx} {s : Shared} (H : At c s) : SDict c.G.w s.heap 35 (opsTab.map fun e => (S e.1, Value.ref e.2.1)) := by
  rw [← ops_kvs]
  exact sdict_of (by decide +kernel) (H.X _ _ (ops_look _)) ops_nodup
noncomputable def letEnts : List (Str × Tok × Value) := [("target", 347, .str "r" 348), ("source", 349, .str "r" 350), ("constant", 351, .str "c" 352), ("global", 353, .str "g" 354), ("free", 355, .str "n" 356), ("procedure", 357, .str "p" 358), ("label", 359, .str "L" 360)]
theorem let_look (P : Params) : (KF P).lookup 91 = some ⟨.type "dict", none, .dict (letEnts.map (entOf P)).toArray 7, #[]⟩ := by kernel_rfl
theorem let_dict {c : Cx} {s : Shared} (H : At c s) : SDict c.G.w s.heap 91 (letEnts.map fun e => (e.1, e.2.2)) := by
  refine sdict_of (by decide +kernel) (H.X _ _ (let_look _)) ?_
  have : nodupB (letEnts.map (·.1)) = true := by kernel_rfl
  exact nodupB_iff this
theorem let_at (srt : Srt) (h : srt.plain = true) : ∃ t, valueAt (letEnts.map fun e => (e.1, e.2.2)) (S srt.txt) = some (.str (S [srt.letter]) t) := by
  cases srt
  case target => exact ⟨348, by kernel_rfl⟩
  case source => exact ⟨350, by kernel_rfl⟩
  case const => exact ⟨352, by kernel_rfl⟩
  case glob => exact ⟨354, by kernel_rfl⟩
  case free => exact ⟨356, by kernel_rfl⟩
  case proc => exact ⟨358, by kernel_rfl⟩
  case label => exact ⟨360, by kernel_rfl⟩
  all_goals cases h
noncomputable def strsAre : List Value → List (List Nat) → Bool
  | [], [] => true
  | .str x _ :: vs, l :: ls => x == S l && strsAre vs ls
  | _, _ => false
theorem strsAre_get : ∀ {vs : List Value} {ls : List (List Nat)}, strsAre vs ls = true → vs.length = ls.length ∧ ∀ (i : Nat) (v : Value), vs[i]? = some v → ∃ l, ls[i]? = some l ∧ VT l v := by
  intro vs
  induction vs with
  | nil =>
    intro ls h
    cases ls with
    | nil => exact ⟨rfl, fun i v h => by cases h⟩
    | cons _ _ => exact absurd h Bool.false_ne_true
  | cons v vs ih =>
    intro ls h
    cases ls with
    | nil => cases v <;> exact absurd h Bool.false_ne_true
    | cons l ls =>
      cases v with
      | str x t =>
        obtain ⟨h0, h3⟩ := Bool.and_eq_true_iff.mp (show (x == S l && strsAre vs ls) = true from h)
        obtain ⟨h1, h2⟩ := ih h3
        refine ⟨congrArg (· + 1) h1, fun i v hv => ?_⟩
        cases i with
        | zero => exact ⟨l, rfl, t, by rw [← eq_of_beq h0]; exact (Option.some.inj hv).symm⟩
        | succ i => exact h2 i v hv
      | _ => exact absurd h Bool.false_ne_true
noncomputable def sortsAt (K : Frag) (a : Addr) (ls : List (List Nat)) : Bool := match K.lookup a with
  | some ⟨.type T, none, .seq vs _, _⟩ => T == "tuple" && strsAre vs.toList ls
  | _ => false
theorem ops_tups (P : Params) : (opsTab.all fun e => sortsAt (KF P) e.2.1 (e.2.2.map Srt.txt)) = true := by kernel_rfl
theorem sorts_tuple {c : Cx} {s : Shared} (H : At c s) {e : List Nat × Addr × List Srt} (he : e ∈ opsTab) : ∃ vs : List Value, An3 (c.g.IsTuple e.2.1 vs.toArray) (vs.length = e.2.2.length) (∀ (i : Nat) (v : Value), vs[i]? = some v → ∃ srt, e.2.2[i]? = some srt ∧ VT srt.txt v) := by
  have := List.all_eq_true.mp (ops_tups c.G.w.params) e he
  unfold sortsAt at this
  split at this
  · rename_i T vs n sl hk
    simp only [Bool.and_eq_true, beq_iff_eq] at this
    obtain ⟨h1, h2⟩ := strsAre_get this.2
    refine ⟨vs.toList, ⟨_, H.kf hk, by rw [this.1], n, by simp⟩, by simpa using h1, fun i v hv => ?_⟩
    obtain ⟨l, hl, hvt⟩ := h2 i v hv
    rw [List.getElem?_map] at hl
    obtain ⟨srt, hs, rfl⟩ := Option.map_eq_some_iff.mp hl
    exact ⟨srt, hs, hvt⟩
  · cases this
end Mine
end
section
open PySem PySem.W PyProof.Rows PySem.Calls PySem.Builtin PySem.Builtin.Str
namespace Mine
set_option maxRecDepth 100000

section
variable {G : Gh} {A : Around} {env : Env} {g : Heap} {m : Str → Option Value} {mu : List (Addr × Obj)} {s : Shared} {E : Value → Shared → Prop} {pos : Pos}
theorem extBut_keeps {h h' : Heap} (e : Heap.ExtBut h.objs.size h h') : ∀ b o, h.get? b = some o → h'.get? b = some o := fun b o q => e b o (Nat.ne_of_lt (Heap.lt_size q)) q
theorem at_assign2 {x y : Str} {px py : Pos} {k : Nat} {T : Addr} {v w : Value} {Q : Unit → Shared → Prop} (hh : A.handled = none) (H : At ⟨G, A, env, g, m, mu⟩ s) (hT : s.heap.IsTuple T #[v, w]) (hx : stOK env x = true) (hy : stOK env y = true)
    (kk : ∀ s', At ⟨G, A, env, g, put (put m x v) y w, mu⟩ s' → Q () s') : wpAny G.M A (assign (.Tuple [.Name x px, .Name y py] k pos) env (.ref T)) Q E s := by
  refine wpAny_assign_Tuple hh hT rfl rfl fun h' he => ?_
  have H₁ := H.keeps (extBut_keeps he) s.toks
  show wpAny _ _ (assignInOrder [assign (.Name x px) env, assign (.Name y py) env] [v, w]) _ _ _
  refine assignInOrder_cons (wpAny_assign_Name (At.store (c := ⟨G, A, env, g, m, mu⟩) H₁ hx fun s₂ H₂ => ?_))
  refine assignInOrder_cons (wpAny_assign_Name (At.store (c := ⟨G, A, env, g, _, mu⟩) H₂ hy fun s₃ H₃ => ?_))
  exact wpAny_pure (kk s₃ H₃)
theorem at_assign3 {x y z : Str} {px py pz : Pos} {k : Nat} {T : Addr} {v w u : Value} {Q : Unit → Shared → Prop} (hh : A.handled = none) (H : At ⟨G, A, env, g, m, mu⟩ s) (hT : s.heap.IsTuple T #[v, w, u]) (hx : stOK env x = true) (hy : stOK env y = true) (hz : stOK env z = true)
    (kk : ∀ s', At ⟨G, A, env, g, put (put (put m x v) y w) z u, mu⟩ s' → Q () s') : wpAny G.M A (assign (.Tuple [.Name x px, .Name y py, .Name z pz] k pos) env (.ref T)) Q E s := by
  refine wpAny_assign_Tuple hh hT rfl rfl fun h' he => ?_
  have H₁ := H.keeps (extBut_keeps he) s.toks
  show wpAny _ _ (assignInOrder [assign (.Name x px) env, assign (.Name y py) env, assign (.Name z pz) env] [v, w, u]) _ _ _
  refine assignInOrder_cons (wpAny_assign_Name (At.store (c := ⟨G, A, env, g, m, mu⟩) H₁ hx fun s₂ H₂ => ?_))
  refine assignInOrder_cons (wpAny_assign_Name (At.store (c := ⟨G, A, env, g, _, mu⟩) H₂ hy fun s₃ H₃ => ?_))
  refine assignInOrder_cons (wpAny_assign_Name (At.store (c := ⟨G, A, env, g, _, mu⟩) H₃ hz fun s₄ H₄ => ?_))
  exact wpAny_pure (kk s₄ H₄)
theorem ex_assign2 {x y : Str} {px py tp : Pos} {k : Nat} {e : PySem.Expr} {rest : List Stmt} {Q : Flow → Shared → Prop} (hh : A.handled = none)
    (he : wpAny G.M A (eval e env) (fun v s₁ => Ex6 fun T a b g' m' mu' => An4 (v = .ref T) (s₁.heap.IsTuple T #[a, b]) (At ⟨G, A, env, g', m', mu'⟩ s₁) (∀ s₂, At ⟨G, A, env, g', put (put m' x a) y b, mu'⟩ s₂ → wpAny G.M A (execs rest env) Q E s₂)) E s)
    (hx : stOK env x = true) (hy : stOK env y = true)
    (hs : swapsWithSole [.Tuple [.Name x px, .Name y py] k tp] e pos.line env = pure false := by rfl)
    (hw : swappedStores [.Tuple [.Name x px, .Name y py] k tp] e env = pure none := by rfl) :
    wpAny G.M A (execs (.Assign [.Tuple [.Name x px, .Name y py] k tp] e pos :: rest) env) Q E s := by
  refine ex_step (Assign_Tuple (wpAny_mono he (fun v s₁ h₁ => ?_) fun zz zz x => x) hs hw)
  obtain ⟨T, a, b, g', m', mu', rfl, hT, H₁, kk⟩ := h₁
  exact at_assign2 hh H₁ hT hx hy kk
theorem ex_assign2s {x y : Str} {px py tp : Pos} {k : Nat} {e : PySem.Expr} {rest : List Stmt} {Q : Flow → Shared → Prop} (hh : A.handled = none)
    (he : wpAny G.M A (eval e env) (fun v s₁ => Ex6 fun T a b g' m' mu' => An4 (v = .ref T) (s₁.heap.IsTuple T #[a, b]) (At ⟨G, A, env, g', m', mu'⟩ s₁) (∀ s₂, At ⟨G, A, env, g', put (put m' y b) x a, mu'⟩ s₂ → wpAny G.M A (execs rest env) Q E s₂)) E s)
    (hx : stOK env x = true) (hy : stOK env y = true)
    (hs : swapsWithSole [.Tuple [.Name x px, .Name y py] k tp] e pos.line env = pure false := by rfl)
    (hw : swappedStores [.Tuple [.Name x px, .Name y py] k tp] e env = pure (some [x, y]) := by rfl) :
    wpAny G.M A (execs (.Assign [.Tuple [.Name x px, .Name y py] k tp] e pos :: rest) env) Q E s := by
  refine ex_step (Assign_Tuple_swapped (wpAny_mono he (fun v s₁ h₁ => ?_) fun zz zz x => x) hs hw)
  obtain ⟨T, a, b, g', m', mu', rfl, hT, H₁, kk⟩ := h₁
  refine wpAny_unpackItems_tuple (items := #[a, b]) hh hT fun h' he' => ?_
  have H₂ := H₁.keeps (extBut_keeps he') s₁.toks
  show wpAny _ _ (assignInOrder [bindName env y, bindName env x] [b, a]) _ _ _
  refine assignInOrder_cons (wpAny_bindName (At.store (c := ⟨G, A, env, g', m', mu'⟩) H₂ hy fun s₂ H₂ => ?_))
  refine assignInOrder_cons (wpAny_bindName (At.store (c := ⟨G, A, env, g', _, mu'⟩) H₂ hx fun s₃ H₃ => ?_))
  exact wpAny_pure (kk s₃ H₃)
end

noncomputable def numsD (ns : List Nat) : List PyData := ns.map fun n : Nat => PyData.int (n : Int)
theorem ints_of {g : Heap} : ∀ {ns : List Nat} {vs : List Value}, RDs g (numsD ns) vs → IntsAre vs (ns.map fun n : Nat => (n : Int))
  | [], _, ⟨_, .nil⟩ => .nil
  | n :: ns, _, ⟨_, .cons r rs⟩ => by
    cases r
    exact .cons _ _ (ints_of ⟨_, rs⟩)
theorem of_ints {g : Heap} : ∀ {ns : List Nat} {vs : List Value}, IntsAre vs (ns.map fun n : Nat => (n : Int)) → RDs g (numsD ns) vs
  | [], _, .nil => RDs.nil
  | n :: ns, _, .cons _ t r => RDs.cons (RD.int _ t) (of_ints r)
theorem nums_inj {a b : List Nat} : (a.map fun n : Nat => (n : Int)) = (b.map fun n : Nat => (n : Int)) ↔ a = b := by
  constructor
  · intro h
    have := congrArg (List.map Int.toNat) h
    simpa [Function.comp_def] using this
  · intro h; rw [h]

section
variable {c : Cx} {pos np : Pos} {e : PySem.Expr}
theorem pe_len_list {a : Addr} {vs : List Value} (he : PE c e (VE (.ref a))) (hl : ∀ s, At c s → s.heap.IsList a vs.toArray) (hz : vs.length < 4611686018427387904) (h : bootName c.env.scope (KF c.G.w.params) "len" = true := by kernel_rfl) (hg : c.env.globals = mainGlobals := by rfl) (hb : c.env.builtins = builtinsNs := by rfl)
    (hs : starEach [e] c.env = (false, eval e c.env) :: starEach [] c.env := by rfl)
    (hc : eval (.Call (.Name "len" np) [e] [] pos) c.env = (do let f ← eval (.Name "len" np) c.env; callWith pos f [] (backTo pos (starEach [e] c.env)) (backToKw pos (keywordEach [] c.env))) := by rfl) :
    PE c (.Call (.Name "len" np) [e] [] pos) (VI vs.length) := fun s Q E H k =>
  c_bi H boot_len h (pa_one he hs) (fun ws s' ⟨v, e1, e2⟩ H' => by
    subst e1; (first | subst e2 | cases e2)
    refine call_len_list (hl s' H') (by simp; omega) ?_
    have e : ((vs.toArray.size : Nat) : Int) = (vs.length : Int) := by simp
    rw [e]
    exact k _ _ ⟨_, rfl⟩ (H'.toks _)) hg hb hs rfl hc
end
end Mine
end
section
open PySem PySem.W PyProof.Rows PySem.Calls PySem.Builtin PySem.Builtin.Str
namespace Mine
set_option maxRecDepth 100000

section
variable {G : Gh} {A : Around} {env : Env} {g : Heap} {m : Str → Option Value} {mu : List (Addr × Obj)} {s : Shared} {Q : Value → Shared → Prop} {E : Value → Shared → Prop} {np pos : Pos} {nm : Str} {e : PySem.Expr} {es : List PySem.Expr} {n k : Nat} {f : Addr} {V : Heap → Value → Prop}
theorem fspec_at {vs : List Value} (sp : FSpec G k f vs g V) (H : At ⟨G, A, env, g, m, mu⟩ s) (R : Rm A n) (hk : k ≤ n)
    (kk : ∀ v s' g', Up g g' → V g' v → At ⟨G, A, env, g', m, mu⟩ s' → Q v s') : wpAny G.M A (call (.ref f) vs) Q E s := by
  obtain ⟨oL, co, l, kc, gl⟩ := H
  exact sp A g _ s _ _ Up.rfl gl (R.less hk) fun v s'' g' u hv gl' => kk v s'' g' u hv ⟨oL, co, l, kc, gl'⟩
theorem c_fdef {P : List Value → Prop} (H : At ⟨G, A, env, g, m, mu⟩ s) (hf : PE ⟨G, A, env, g, m, mu⟩ (.Name nm np) (VE (.ref f))) (hi : fnIs (KF G.w.params) f = true) (ha : PA ⟨G, A, env, g, m, mu⟩ (e :: es) P)
    (sp : ∀ vs, P vs → FSpec G k f vs g V) (R : Rm A n) (hk : k ≤ n)
    (kk : ∀ v s' g', Up g g' → V g' v → At ⟨G, A, env, g', m, mu⟩ s' → Q v s')
    (he : starEach (e :: es) env = (false, eval e env) :: starEach es env := by rfl)
    (hc : eval (.Call (.Name nm np) (e :: es) [] pos) env = (do let f ← eval (.Name nm np) env; callWith pos f [] (backTo pos (starEach (e :: es) env)) (backToKw pos (keywordEach [] env))) := by rfl) :
    wpAny G.M A (eval (.Call (.Name nm np) (e :: es) [] pos) env) Q E s :=
  c_def H hf hi ha (fun vs s' pv H' => fspec_at (sp vs pv) H' R hk kk) he hc
theorem c_fdef_any (H : At ⟨G, A, env, g, m, mu⟩ s) (hf : PE ⟨G, A, env, g, m, mu⟩ (.Name nm np) (VE (.ref f))) (hi : fnIs (KF G.w.params) f = true)
    (ha : ∀ s', At ⟨G, A, env, g, m, mu⟩ s' → wpAny G.M A (spliced (backTo pos (starEach (e :: es) env))) (fun vs s₁ => (KF G.w.params).In s₁.heap ∧ wpAny G.M A (call (.ref f) vs) Q E s₁) E s')
    (he : starEach (e :: es) env = (false, eval e env) :: starEach es env := by rfl)
    (hc : eval (.Call (.Name nm np) (e :: es) [] pos) env = (do let f ← eval (.Name nm np) env; callWith pos f [] (backTo pos (starEach (e :: es) env)) (backToKw pos (keywordEach [] env))) := by rfl) :
    wpAny G.M A (eval (.Call (.Name nm np) (e :: es) [] pos) env) Q E s := by
  refine Call_ (hf s _ _ H fun v s₁ q H₁ => ?_) hc
  (first | subst q | cases q)
  obtain ⟨o, fd, ho, hd⟩ := fnIs_of H₁.X hi
  refine cw_fn (o := o) (fd := fd) (wpAny_mono (ha s₁ H₁) (fun vs s₂ ⟨X₂, h₂⟩ => ?_) fun zz zz x => x) he
  refine ⟨⟨?_, hd⟩, by simpa using h₂⟩
  unfold fnIs at hi
  split at hi
  · rename_i hk
    have e1 := H₁.X _ _ hk
    have e2 := X₂ _ _ hk
    rw [ho] at e1; rw [e2, ← e1]
  · cases hi
theorem c_fdef0 (H : At ⟨G, A, env, g, m, mu⟩ s) (hf : PE ⟨G, A, env, g, m, mu⟩ (.Name nm np) (VE (.ref f))) (hi : fnIs (KF G.w.params) f = true)
    (sp : FSpec G k f [] g V) (R : Rm A n) (hk : k ≤ n)
    (kk : ∀ v s' g', Up g g' → V g' v → At ⟨G, A, env, g', m, mu⟩ s' → Q v s')
    (hc : eval (.Call (.Name nm np) [] [] pos) env = (do let f ← eval (.Name nm np) env; callWith pos f [] (backTo pos (starEach [] env)) (backToKw pos (keywordEach [] env))) := by rfl) :
    wpAny G.M A (eval (.Call (.Name nm np) [] [] pos) env) Q E s :=
  c_def0 H hf hi (fun s' H' => fspec_at sp H' R hk kk) hc
theorem tests_none {Q : Bool → Shared → Prop} (h : Q true s) : wpAny G.M A (testsOf [] env) Q E s := wpAny_pure h
theorem tests_one {t : PySem.Expr} {Q : Bool → Shared → Prop} (h : wpAny G.M A (isTrue t env (eval t env)) Q E s) : wpAny G.M A (testsOf [t] env) Q E s := by
  show wpAny G.M A (do let r ← (do let ok ← isTrue t env (eval t env); pure (ForInStep.yield ok)); _) Q E s
  exact wpAny_bind (wpAny_bind (wpAny_mono h (fun b s' hb => wpAny_pure (wpAny_pure hb)) fun zz zz x => x))
end

theorem pt_run {c : Cx} {e : PySem.Expr} {b : Bool} {s : Shared} {Q : Bool → Shared → Prop} {E : Value → Shared → Prop} (H : At c s) (ht : PT c e b) (k : ∀ s', At c s' → Q b s') : wpAny c.G.M c.A (isTrue e c.env (eval e c.env)) Q E s := ht s Q E H k
theorem pe_run {c : Cx} {e : PySem.Expr} {P : Value → Prop} {s : Shared} {Q : Value → Shared → Prop} {E : Value → Shared → Prop} (H : At c s) (he : PE c e P) (k : ∀ v s', P v → At c s' → Q v s') : wpAny c.G.M c.A (eval e c.env) Q E s := he s Q E H k
theorem ex_if_mid {G : Gh} {A : Around} {env : Env} {s : Shared} {Q : Flow → Shared → Prop} {E : Value → Shared → Prop} {pos : Pos} {rest b : List Stmt} {t : PySem.Expr} {R : Shared → Prop}
    (h : wpAny G.M A (isTrue t env (eval t env)) (fun d s₂ => if d = true then wpAny G.M A (execs b env) (fun f s' => f = .next ∧ R s') E s₂ else R s₂) E s)
    (k : ∀ s', R s' → wpAny G.M A (execs rest env) Q E s') : wpAny G.M A (execs (.If t b [] pos :: rest) env) Q E s :=
  ex_if_any (wpAny_mono h (fun d s₂ h₂ => by
    cases d with
    | true =>
      simp only [if_true] at h₂ ⊢
      exact wpAny_mono h₂ (fun f s' ⟨e, r⟩ => by subst e; exact k _ r) fun zz zz x => x
    | false =>
      simp only [Bool.false_eq_true, if_false] at h₂ ⊢
      exact ex_nil (k _ h₂)) fun zz zz x => x)
theorem asc_eq : ∀ {a b : List Nat}, a.Pairwise (· < ·) → b.Pairwise (· < ·) → (∀ n, n ∈ a ↔ n ∈ b) → a = b
  | [], [], _, _, _ => rfl
  | [], y :: b, _, _, h => by have := (h y).mpr (.head _); cases this
  | x :: a, [], _, _, h => by have := (h x).mp (.head _); cases this
  | x :: a, y :: b, ha, hb, h => by
    obtain ⟨a1, a2⟩ := List.pairwise_cons.mp ha
    obtain ⟨b1, b2⟩ := List.pairwise_cons.mp hb
    have hxy : x = y := by
      have h1 := (h x).mp (.head _)
      have h2 := (h y).mpr (.head _)
      rcases List.mem_cons.mp h1 with h1 | h1
      · exact h1
      rcases List.mem_cons.mp h2 with h2 | h2
      · exact h2.symm
      have := a1 _ h2
      have := b1 _ h1
      omega
    subst hxy
    rw [asc_eq a2 b2 fun n => ⟨fun hn => ?_, fun hn => ?_⟩]
    · rcases List.mem_cons.mp ((h n).mp (.tail _ hn)) with e | e
      · have := a1 _ hn; omega
      · exact e
    · rcases List.mem_cons.mp ((h n).mpr (.tail _ hn)) with e | e
      · have := b1 _ hn; omega
      · exact e
theorem asc_range (n : Nat) : (List.range n).Pairwise (· < ·) := List.pairwise_lt_range
end Mine
end
section
open PySem PySem.W PyProof.Rows PySem.Calls PySem.Builtin PySem.Builtin.Str
namespace Mine
set_option maxRecDepth 100000

noncomputable def isB (c : Nat) : Bool := c == 32
noncomputable def isW (c : Nat) : Bool := !(c == 32 || c == 40 || c == 41 || c == 10)
noncomputable def skipB (r : List Nat) : List Nat := r.dropWhile isB
noncomputable def wordAt : List Nat → List Nat
  | [] => []
  | c :: t => if c = 40 ∨ c = 41 then [c] else (c :: t).takeWhile isW
noncomputable def pPeek (r : List Nat) : Option (List Nat × List Nat) := some (wordAt (skipB r), skipB r)
noncomputable def pWord (r : List Nat) : Option (List Nat × List Nat) := if wordAt (skipB r) = [] then none else some (wordAt (skipB r), (skipB r).drop (wordAt (skipB r)).length)
noncomputable def pNeed (x r : List Nat) : Option (Unit × List Nat) := (pWord r).bind fun wr => if wr.1 = x then some ((), wr.2) else none
noncomputable def pTakes (x r : List Nat) : Option (Bool × List Nat) := some (if wordAt (skipB r) = x then (true, (skipB r).drop x.length) else (false, skipB r))

theorem fn_is_at_end (P : Params) : FnOK P fi_Listing_is_at_end := ⟨by kernel_rfl, by kernel_rfl, by kernel_rfl⟩
theorem fn_skip_blanks (P : Params) : FnOK P fi_Listing_skip_blanks := ⟨by kernel_rfl, by kernel_rfl, by kernel_rfl⟩
theorem fn_peek (P : Params) : FnOK P fi_Listing_peek := ⟨by kernel_rfl, by kernel_rfl, by kernel_rfl⟩

theorem cs_32 : cs " " = [32] := by kernel_rfl
theorem cs_br : cs "()" = [40, 41] := by kernel_rfl
theorem cs_wd : cs " ()\n" = [32, 40, 41, 10] := by kernel_rfl
theorem drop_nil_iff {l : List Nat} {p : Nat} (h : p ≤ l.length) : l.drop p = [] ↔ p = l.length := by rw [List.drop_eq_nil_iff]; omega
theorem drop_cons {l : List Nat} {p c : Nat} {t : List Nat} (h : l.drop p = c :: t) : p < l.length ∧ l.getD p 0 = c ∧ l.drop (p + 1) = t := by
  have hp : p < l.length := by
    refine Nat.lt_of_not_le fun q => ?_
    rw [List.drop_eq_nil_of_le q] at h; cases h
  rw [List.drop_eq_getElem_cons hp] at h
  obtain ⟨h1, h2⟩ := List.cons.inj h
  exact ⟨hp, by rw [List.getD_eq_getElem?_getD, List.getElem?_eq_getElem hp, ← h1]; rfl, h2⟩
theorem drop_end {l : List Nat} {p : Nat} (hp : p ≤ l.length) (h : l.drop p = []) : ¬ p < l.length := by rw [drop_nil_iff hp] at h; omega
theorem pe_locI {c : Cx} {x : Str} {pos : Pos} {i : Int} {t : Tok} (hl : varOK c.env x = true) (hv : c.m x = some (.int i t)) : PE c (.Name x pos) (VI i) := (pe_local hl hv).mono fun v e => ⟨t, e⟩
theorem pe_locT {c : Cx} {x : Str} {pos : Pos} {l : List Nat} {t : Tok} (hl : varOK c.env x = true) (hv : c.m x = some (.str (S l) t)) : PE c (.Name x pos) (VT l) := (pe_local hl hv).mono fun v e => ⟨t, e⟩

theorem is_at_end_spec (pc : PC) (g₀ : Heap) : PSpec pc 1 146 [.ref pc.x] g₀ (fun r => some (r.isEmpty, r)) (fun zz b v => v = .bool b) := by
  intro A outer g ρ r s Q E u H R hA hS k kE
  have hz := pc.hz
  obtain ⟨o, ⟨p, ln, hp, hr, hL⟩, hG, hx, hB⟩ := H
  refine enter0 (i := fi_Listing_is_at_end) (binds := [("self", .ref pc.x)]) fn_is_at_end hG R (by rfl) (by kernel_rfl) fun L s' R' H' => ?_
  show wpAny _ _ (execs (List.cons _ _) _) _ _ _
  refine ex_ret H' (pe_ge (pe_place (pe_local (by kernel_rfl) (by rfl)) (.inr hx) (.inl (.head _)) hL) (pe_len_str (pe_text (pe_local (by kernel_rfl) (by rfl)) (.inr hx) (.inl (.head _)) hL) (by omega))) ?_
  intro v s2 e H2
  cases e
  refine k _ r _ s2 g rfl Up.rfl ?_ ⟨o, ⟨p, ln, hp, hr, hL⟩, H2.gl, hx, hB⟩
  show Value.bool _ = Value.bool _
  rw [← hr]
  congr 1
  rw [Bool.eq_iff_iff, decide_eq_true_eq, List.isEmpty_iff, drop_nil_iff hp]
  omega

theorem skip_blanks_spec (pc : PC) (g₀ : Heap) : PSpec pc 1 153 [.ref pc.x] g₀ (fun r => some ((), skipB r)) (fun zz zz v => v = .none) := by
  intro A outer g ρ r s Q E u H R hA hS k kE
  have hz := pc.hz
  obtain ⟨o, ⟨p, ln, hp, hr, hL⟩, hG, hx, hB⟩ := H
  refine enter0 (i := fi_Listing_skip_blanks) (binds := [("self", .ref pc.x)]) fn_skip_blanks hG R (by rfl) (by kernel_rfl) fun L s' R' H' => ?_
  show wpAny _ _ (execs (List.cons _ _) _) _ _ _
  refine ex_while (Ei := fun zz zz => False) (fun zz zz h => h.elim)
    (fun n s'' => Ex3 fun o' q r' => An6 (At (Cx.mk pc.G (A.deeper (fi_Listing_skip_blanks.env L)) (fi_Listing_skip_blanks.env L) g (loc [("self", Value.ref pc.x)]) ((pc.dx, o') :: ρ)) s'') (LD pc.l q ln o') (q ≤ pc.l.length) (pc.l.drop q = r') (skipB r' = skipB r) (n = r'.length)) ?_ r.length
    ⟨o, p, r, H', hL, hp, hr, rfl, rfl⟩
  rintro n s₁ ⟨o', q, r', H₁, hL', hq, hr', hs, rfl⟩
  refine pt_and (c := Cx.mk pc.G (A.deeper (fi_Listing_skip_blanks.env L)) (fi_Listing_skip_blanks.env L) g (loc [("self", Value.ref pc.x)]) ((pc.dx, o') :: ρ)) (a := decide ((q : Int) < pc.l.length)) (b := decide ([pc.l.getD q 0] = cs " ")) (pt_lt (pe_place (pe_local (by kernel_rfl) (by rfl)) (.inr hx) (.inl (.head _)) hL') (pe_len_str (pe_text (pe_local (by kernel_rfl) (by rfl)) (.inr hx) (.inl (.head _)) hL') (by omega)))
    (fun h => pt_eq_str (pe_item_str (pe_text (pe_local (by kernel_rfl) (by rfl)) (.inr hx) (.inl (.head _)) hL') (pe_place (pe_local (by kernel_rfl) (by rfl)) (.inr hx) (.inl (.head _)) hL') (by simpa using h) (by omega)) pe_strc) s₁ _ _ H₁ fun s₂ H₂ => ?_
  rw [cs_32]
  cases r' with
  | nil =>
    have := drop_end hq hr'
    rw [if_neg (by simp; omega)]
    refine ex_nil (k () [] _ _ g (by show some _ = some _; rw [← hs]; rfl) Up.rfl rfl ⟨o', ⟨q, ln, hq, hr', hL'⟩, H₂.gl, hx, hB⟩)
  | cons a t =>
    obtain ⟨h1, h2, h3⟩ := drop_cons hr'
    rw [h2]
    by_cases ha : a = 32
    · rw [if_pos (by simp [ha]; omega)]
      refine ex_set_place H₂ hx hL' (pe_local (by kernel_rfl) (by rfl)) (p' := q + 1) (pe_add_int (pe_place (pe_local (by kernel_rfl) (by rfl)) (.inr hx) (.inl (.head _)) hL') pe_int) fun o'' s₃ hL'' H₃ => ?_
      exact ex_nil ⟨t.length, by simp, o'', q + 1, t, H₃, hL'', h1, h3, by rw [← hs, ha]; rfl, rfl⟩
    · rw [if_neg (by simp [ha])]
      refine ex_nil (k () (a :: t) _ _ g (by show some _ = some _; rw [← hs]; simp [skipB, isB, ha]) Up.rfl rfl ⟨o', ⟨q, ln, hq, hr', hL'⟩, H₂.gl, hx, hB⟩)

theorem skipB_le (r : List Nat) : ∃ k, skipB r = r.drop k ∧ k ≤ r.length := by
  induction r with
  | nil => exact ⟨0, rfl, Nat.le_refl _⟩
  | cons a t ih =>
    by_cases h : isB a = true
    · obtain ⟨k, e, hk⟩ := ih
      exact ⟨k + 1, by rw [skipB, List.dropWhile_cons_of_pos h]; exact e, by simp; omega⟩
    · exact ⟨0, by rw [skipB, List.dropWhile_cons_of_neg h]; rfl, Nat.zero_le _⟩
theorem take_tw {f : Nat → Bool} : ∀ (m : List Nat) (n : Nat), n ≤ m.length → (∀ i, i < n → f (m.getD i 0) = true) → (n = m.length ∨ f (m.getD n 0) = false) → m.take n = m.takeWhile f := by
  intro m
  induction m with
  | nil => intro n h _ _; rw [Nat.le_zero.mp h]; rfl
  | cons c m ih =>
    intro n h h1 h2
    cases n with
    | zero =>
      rcases h2 with h2 | h2
      · cases h2
      · rw [List.takeWhile_cons, show f c = false from h2]; rfl
    | succ n =>
      rw [List.take_succ_cons, List.takeWhile_cons, show f c = true from h1 0 (Nat.succ_pos n), if_pos rfl, ih n (Nat.le_of_succ_le_succ h) (fun i hi => h1 (i + 1) (Nat.succ_lt_succ hi)) (h2.imp Nat.succ.inj id)]
theorem getD_drop (l : List Nat) (q i : Nat) : (l.drop q).getD i 0 = l.getD (q + i) 0 := by rw [List.getD_eq_getElem?_getD, List.getD_eq_getElem?_getD, List.getElem?_drop]
theorem takeWhile_drop {l : List Nat} {f : Nat → Bool} {q e : Nat} (h1 : q ≤ e) (h2 : e ≤ l.length) (h3 : ∀ i, q ≤ i → i < e → f (l.getD i 0) = true) (h4 : e = l.length ∨ f (l.getD e 0) = false) : (l.take e).drop q = (l.drop q).takeWhile f := by
  rw [List.drop_take]
  refine take_tw _ _ (by rw [List.length_drop]; exact Nat.sub_le_sub_right h2 q) (fun i hi => ?_) (h4.imp (fun h => by rw [h, List.length_drop]) fun h => ?_)
  · rw [getD_drop]
    exact h3 _ (Nat.le_add_right q i) (by rw [Nat.add_comm]; exact Nat.add_lt_of_lt_sub hi)
  · rw [getD_drop, Nat.add_sub_cancel' h1]; exact h

theorem peek_spec (pc : PC) (g₀ : Heap) : PSpec pc 2 160 [.ref pc.x] g₀ pPeek (fun zz w v => VT w v) := by
  intro A outer g ρ r s Q E u H R hA hS k kE
  have hz := pc.hz
  refine enterP (i := fi_Listing_peek) (binds := [("self", .ref pc.x)]) (n := 1) False fn_peek H R hA hS (fun e s' h => h.elim) (by rfl) (by kernel_rfl) fun L s' W H' => ?_
  show wpAny _ _ (execs (List.cons _ _) _) _ _ _
  refine ex_expr_any (la_meth0 W H' (fun zz => pe_local (by kernel_rfl) (by rfl)) (by kernel_rfl) (ld_get (by kernel_rfl) (by kernel_rfl) (by kernel_rfl)) (skip_blanks_spec pc g) (by decide) (fun zz r' v s₁ g₁ e u₁ hv H₁ => ?_) fun e s' q => nomatch q)
  obtain rfl : skipB r = r' := by injection e with e; exact (Prod.mk.inj e).2
  clear H H' e
  have hsk : wordAt (skipB r) = wordAt (skipB r) := rfl
  generalize hr2 : skipB r = r₂ at H₁ k
  obtain ⟨o, ⟨p, ln, hp, hr, hL⟩, H₁, hx, hB⟩ := H₁
  have k' : ∀ w s' t, wordAt r₂ = w → At ⟨pc.G, A.deeper (fi_Listing_peek.env L), fi_Listing_peek.env L, g₁, s', (pc.dx, o) :: ρ⟩ t → ∀ tk, Q (.str (S w) tk) t := fun w m t e h tk =>
    k w r₂ _ t g₁ (by unfold pPeek; rw [hr2, e]) u₁ ⟨tk, rfl⟩ ⟨o, ⟨p, ln, hp, hr, hL⟩, h.gl, hx, hB⟩
  refine ex_assign H₁ (pe_place (pe_local (by kernel_rfl) (by rfl)) (.inr hx) (.inl (.head _)) hL) (by kernel_rfl) fun v s₂ hv H₂ => ?_
  obtain ⟨t2, rfl⟩ := hv
  refine ex_if H₂ (d := decide (p < pc.l.length ∧ pc.l.getD p 0 ∈ cs "()")) (PT.congr (pt_and (a := decide ((p : Int) < pc.l.length)) (b := decide (pc.l.getD p 0 ∈ cs "()"))
    (pt_lt (pe_locI (by kernel_rfl) (by rfl)) (pe_len_str (pe_text (pe_local (by kernel_rfl) (by rfl)) (.inr hx) (.inl (.head _)) hL) (by omega))) (fun h => pt_in_str (pe_item_str (pe_text (pe_local (by kernel_rfl) (by rfl)) (.inr hx) (.inl (.head _)) hL) (pe_locI (by kernel_rfl) (by rfl)) (by simpa using h) (by omega)) pe_strc)) (by simp)) ?_ ?_
  · intro hc s₃ H₃
    simp only [decide_eq_true_eq, cs_br] at hc
    refine ex_ret H₃ (pe_item_str (pe_text (pe_local (by kernel_rfl) (by rfl)) (.inr hx) (.inl (.head _)) hL) (pe_locI (by kernel_rfl) (by rfl)) hc.1 (by omega)) fun v s₄ hv H₄ => ?_
    obtain ⟨t3, rfl⟩ := hv
    refine k' _ _ _ ?_ H₄ _
    cases r₂ with
    | nil => exact absurd hc.1 (drop_end hp hr)
    | cons a b =>
      obtain ⟨h1, h2, _⟩ := drop_cons hr
      have h3 := hc.2
      rw [h2] at h3 ⊢
      rw [wordAt, if_pos (by simpa using h3)]
  · intro hc s₃ H₃
    simp only [decide_eq_false_iff_not, cs_br] at hc
    refine ex_while (Ei := fun zz zz => False) (fun zz zz h => h.elim)
      (fun n s'' => Ex2 fun e t => An5 (At (Cx.mk pc.G (A.deeper (fi_Listing_peek.env L)) (fi_Listing_peek.env L) g₁ (put (loc [("self", Value.ref pc.x)]) "end" (.int ((e : Nat) : Int) t)) ((pc.dx, o) :: ρ)) s'') (p ≤ e) (e ≤ pc.l.length) ((∀ i, p ≤ i → i < e → isW (pc.l.getD i 0) = true)) (n = pc.l.length - e)) ?_ (pc.l.length - p) ⟨p, t2, H₃, Nat.le_refl _, hp, fun i h1 h2 => by omega, rfl⟩
    rintro n s₁ ⟨e, t, H₁, he, hel, hall, rfl⟩
    have hw : ∀ a : Nat, (!decide (a ∈ cs " ()\n")) = isW a := fun a => by rw [cs_wd, Bool.eq_iff_iff]; simp [isW, and_assoc]
    refine pt_and (c := (Cx.mk pc.G (A.deeper (fi_Listing_peek.env L)) (fi_Listing_peek.env L) g₁ (put (loc [("self", Value.ref pc.x)]) "end" (.int ((e : Nat) : Int) t)) ((pc.dx, o) :: ρ))) (a := decide ((e : Int) < pc.l.length)) (b := isW (pc.l.getD e 0)) (pt_lt (pe_locI (by kernel_rfl) (by rfl)) (pe_len_str (pe_text (pe_local (by kernel_rfl) (by rfl)) (.inr hx) (.inl (.head _)) hL) (by omega)))
      (fun h => PT.congr (pt_notin_str (pe_item_str (pe_text (pe_local (by kernel_rfl) (by rfl)) (.inr hx) (.inl (.head _)) hL) (pe_locI (by kernel_rfl) (by rfl)) (by simpa using h) (by omega)) pe_strc) (hw _)) s₁ _ _ H₁ fun s₂ H₂ => ?_
    by_cases hc' : e < pc.l.length ∧ isW (pc.l.getD e 0) = true
    · rw [if_pos (by simpa using hc')]
      refine ex_assign H₂ (P := VI ((e + 1 : Nat) : Int)) (pe_add_int (a := (e : Int)) (b := 1) (pe_locI (by kernel_rfl) (by rfl)) pe_int) (by kernel_rfl) fun v s₃ hv H₃ => ?_
      obtain ⟨t6, rfl⟩ := hv
      rw [put_put] at H₃
      exact ex_nil ⟨pc.l.length - (e + 1), by omega, e + 1, t6, H₃, by omega, by omega, fun i h1 h2 => by
        by_cases hi : i = e
        · rw [hi]; exact hc'.2
        · exact hall i h1 (by omega), rfl⟩
    · rw [if_neg (by simpa using hc')]
      refine ex_ret H₂ (pe_slice_ss (a := p) (b := e) (pe_text (pe_local (by kernel_rfl) (by rfl)) (.inr hx) (.inl (.head _)) hL) (pe_place (pe_local (by kernel_rfl) (by rfl)) (.inr hx) (.inl (.head _)) hL) (pe_locI (by kernel_rfl) (by rfl)) (by omega)) fun v s₅ hv H₅ => ?_
      obtain ⟨t5, rfl⟩ := hv
      refine k' _ _ _ ?_ H₅ _
      rw [takeWhile_drop he hel hall (by
        by_cases h : e < pc.l.length
        · right; simpa using fun hh => hc' ⟨h, hh⟩
        · left; omega), hr]
      cases r₂ with
      | nil => rfl
      | cons a b =>
        obtain ⟨h1, h2, _⟩ := drop_cons hr
        rw [wordAt, if_neg (fun hh => hc ⟨h1, by rw [h2]; simpa using hh⟩)]
end Mine
end
section
open PySem PySem.W PyProof.Rows PySem.Calls PySem.Builtin PySem.Builtin.Str
namespace Mine
set_option maxRecDepth 100000

noncomputable abbrev tcC (C : Addr) (rest : List Value) : Code := .builtin "type.__call__" ⟨.ref C :: rest, []⟩
theorem tc_weight (C : Addr) (rest : List Value) : (tcC C rest).weight = 1 := rfl
theorem tc_units (C : Addr) (rest : List Value) : (tcC C rest).cUnits = 1 := rfl
theorem Rm.under {A : Around} {k : Nat} (R : Rm A (k + 1)) (C : Addr) (rest : List Value) : Rm (A.under (tcC C rest)) k :=
  ⟨by have := R.d; show A.depth + (tcC C rest).weight + k < _; rw [tc_weight]; omega, by have := R.u; show A.units + (tcC C rest).cUnits + 40 * k + 40 < _; rw [tc_units]; omega, R.h, R.g⟩
section
variable {G : Gh} {A : Around} {g : Heap} {mu : List (Addr × Obj)} {s : Shared} {Q E : Value → Shared → Prop} {C : Addr} {n : Nat}
theorem make_at {i : FI} {rest : List Value} {binds : Value → List (Str × Value)} (hF : ∀ P, FnOK P i) (H : Gl G g mu s) (Ro : Rm A (n + 2)) (hm : makesIn (KF G.w.params) C = true)
    (hi : findIn (KF G.w.params) (.ref C) "__init__" = some (some (.ref i.f))) (hf : typeIn (KF G.w.params) (.ref i.f) = some (.type "function"))
    (hb : ∀ x, bindArgs i.fd ⟨.ref x :: rest, []⟩ = pure (binds (.ref x))) (hl : ∀ x, bindOK i.scope (binds (.ref x)) = true)
    (h : ∀ x dx L A' s', Rm A' n → At ⟨G, A', i.env L, g, loc (binds (.ref x)), (x, instObj C dx) :: (dx, emptyDict) :: mu⟩ s' →
      wpAny G.M A' (execs i.body (i.env L)) (fun fl s'' => flV fl = .none ∧ Q (.ref x) s'') (fun zz zz => False) s') :
    wpAny G.M A (call (.ref C) rest) Q E s := by
  obtain ⟨hh, gs, d, t, os⟩ := s
  have X := H.X
  refine wpAny_call (make_core (makes_of X hm) (looks_findIn X hi) (fun self => bind_fn X self hf) (.inl rfl) ?_)
  have H1 := Gl.alloc H (o := emptyDict)
  have H2 := Gl.alloc H1 (o := instObj C hh.objs.size)
  rw [show (({ heap := hh, gens := gs, drawn := d, toks := t, os := os } : Shared).heap.push emptyDict).objs.size = hh.objs.size + 1 from Heap.size_push ..] at H2
  refine enterC hF (n := n) H2 (Ro.under C rest) (hb _) (hl _) fun L s' R' H' => wpAny_mono (h _ _ L _ s' R' H') (fun fl s'' q => ?_) fun zz zz q => q.elim
  exact q
end
theorem c_keep {G : Gh} {A : Around} {env : Env} {g : Heap} {m : Str → Option Value} {mu : List (Addr × Obj)} {s : Shared} {Q : Value → Shared → Prop} {E : Value → Shared → Prop} {np pos : Pos} {nm : Str} {e : PySem.Expr} {es : List PySem.Expr} {f : Addr}
    (H : At ⟨G, A, env, g, m, mu⟩ s) (hf : PE ⟨G, A, env, g, m, mu⟩ (.Name nm np) (VE (.ref f))) (hi : keepIn (KF G.w.params) (.ref f) = true)
    (ha : ∀ s', At ⟨G, A, env, g, m, mu⟩ s' → wpAny G.M A (spliced (backTo pos (starEach (e :: es) env))) (fun vs s₁ => (KF G.w.params).In s₁.heap ∧ wpAny G.M A (call (.ref f) vs) Q E s₁) E s')
    (hst : starEach (e :: es) env = (false, eval e env) :: starEach es env := by rfl) (hpl : (backTo pos (starEach es env)).any (·.1) = false := by rfl)
    (hc : eval (.Call (.Name nm np) (e :: es) [] pos) env = (do let f ← eval (.Name nm np) env; callWith pos f [] (backTo pos (starEach (e :: es) env)) (backToKw pos (keywordEach [] env))) := by rfl) :
    wpAny G.M A (eval (.Call (.Name nm np) (e :: es) [] pos) env) Q E s := by
  refine Call_ (hf s _ _ H fun v s₁ q H₁ => ?_) hc
  (first | subst q | cases q)
  exact callWith_K H₁.X hi (ha s₁ H₁) hst hpl
theorem handed_of {g : Heap} {d : PyData} {v : Value} (h : RD g d v) : handedIn v = true := by
  obtain ⟨as, h⟩ := h
  cases h <;> rfl
end Mine
end
section
open PySem PySem.W PyProof.Rows PySem.Calls PySem.Builtin PySem.Builtin.Str
namespace Mine
set_option maxRecDepth 100000

noncomputable def badCd : ClassData := { name := "BadListing", bases := [.type "Exception"], mro := [.ref 31, .type "Exception", .type "BaseException", .type "object"], ns := 30, qualname := "BadListing", hasDict := true, slotNames := [], subclasses := [], abstract := false, collection := none, hasDel := false }
theorem bad_cls (P : Params) : clsIn (KF P) 31 = some badCd := by kernel_rfl
theorem bad_obj (P : Params) : (KF P).lookup 31 = some (excClassObj "BadListing" "BadListing" 31 30 [.type "Exception"] [.type "Exception", .type "BaseException", .type "object"] true [] [] false none none (some (.ref 15)) none (some (.str "BadListing" 189)) (some (.str "BadListing" 197)) (some (.bool true)) "Exception.__new__") := by kernel_rfl
theorem bad_sub (P : Params) : mroIn (KF P) 31 (.type "object") = some true := by kernel_rfl
theorem bad_set (P : Params) : findIn (KF P) (.ref 31) "__setattr__" = some (some (.builtin "object.__setattr__")) := by kernel_rfl
theorem bad_line (P : Params) : takerIn (KF P) 31 "line" = some none := by kernel_rfl
noncomputable abbrev excO (od : Option Addr) (t : Addr) : Obj := ⟨.ref 31, od, .fields #[.ref t, .none, .none, .none, .bool false, .none], #[]⟩
theorem taker_none {K : Frag} {M : Model} {h : Heap} {C : Addr} {name : Str} (X : K.In h) (ht : takerIn K C name = some none) : ∃ attr, Looks M h (typeLookup (.ref C) name) attr ∧ Looks M h (Builtin.ObjectAttr.storeTaker? attr) none := by
  obtain ⟨attr, ha, hr⟩ := Option.bind_eq_some_iff.mp ht
  refine ⟨attr, looks_findIn X ha, ?_⟩
  cases attr with
  | none => exact .now
  | some a =>
    obtain ⟨b, hb, he⟩ := Option.map_eq_some_iff.mp hr
    cases b with
    | false => exact (looks_takesIn X hb).andThen .now
    | true => cases he
section
variable {prog : Program} {w : World} {A : Around} {E : Value → Shared → Prop} {s : Shared} {P : Params}
theorem store_first {x t : Addr} {name : Str} {v : Value} {Q : Unit → Shared → Prop} (X : (KF P).In s.heap) (hx : s.heap.get? x = some (excO none t)) (ht : takerIn (KF P) 31 name = some none)
    (hq : ∀ h' tk, h'.get? x = some (excO (some s.heap.objs.size) t) → h'.Ns1 s.heap.objs.size (fun y => if y = name then some v else none) → (∀ b o, b ≠ x → s.heap.get? b = some o → h'.get? b = some o) → Q () { s with heap := h', toks := tk }) :
    wpAny (model prog w) A (setAttr (.ref x) name v) Q E s := by
  obtain ⟨hp, g, d, tk, os⟩ := s
  replace hx : hp.get? x = some (excO none t) := hx
  replace X : (KF P).In hp := X
  have I : InstAt hp x (excO none t) 31 none := ⟨hx, rfl, rfl, trivial⟩
  have SF := PySem.F.store_Exception
  refine set_plain X I (bad_set P) ?_
  have hs : Looks (model prog w) hp (isInstance (.ref x) (.type "object")) true := I.type.andThen (looks_mroIn X (bad_sub P))
  refine codeAny_call_builtin SF.slot.plain SF.entry (@check_slot (model prog w) _ _ ⟨hp, g, d, tk + 1, os⟩ "object.__setattr__" "object" "__setattr__" (.ref x) [.str name tk, v] [] _ SF.kind SF.split hs (SF.args (.ref x) (.str name tk) v) ?_)
  obtain ⟨attr, L1, L2⟩ := taker_none (M := model prog w) X ht
  have hm : Looks (model prog w) hp (mroOf (.ref 31)) [.ref 31, .type "Exception", .type "BaseException", .type "object"] := (looks_clsIn X (bad_cls P)).andThen .now
  rw [osa_eq, refuse_eq]
  refine wpAny_bind (wpAny_bind (I.type.here (wpAny_bind (hm.here ?_))))
  rw [refuseLoop_ref, SF.passes]
  refine wpAny_pure (wpAny_bind (I.type.here (wpAny_bind (L1.here (wpAny_bind (L2.here ?_))))))
  show wpAny _ _ (Builtin.ObjectAttr.storeInOwnDict (.ref x) (.ref 31) (.str name tk) name v attr.isSome) _ _ _
  unfold Builtin.ObjectAttr.storeInOwnDict
  refine wpAny_bind (wpAny_pure ?_)
  refine wpAny_bind ?_
  show wpAny _ _ (instanceDict x true) _ _ _
  unfold instanceDict
  refine wpAny_bind (wpAny_loadPart hx ?_)
  refine wpAny_bind ((looks_clsIn X (bad_cls P)).here ?_)
  rw [if_neg (show ¬ ((!badCd.hasDict) = true) by decide)]
  show wpAny _ _ (alloc { cls := Value.type "dict", data := Data.dict #[] } >>= fun d => update x (fun o => { cls := o.cls, dict := some d, data := o.data, slots := o.slots }) >>= fun zz => dictMade (.ref 31) x d) _ _ _
  have hx₁ : (hp.push { cls := .type "dict", data := .dict #[] }).get? x = some (excO none t) := Heap.get?_push_of_some _ hx
  have hxs : x ≠ hp.objs.size := Nat.ne_of_lt (Heap.lt_size hx)
  refine wpAny_bind (wpAny_alloc' (wpAny_bind (wpAny_update' hx₁ (wpAny_bind (wpAny_pure (wpAny_pure ?_))))))
  have hgd : ((hp.push { cls := .type "dict", data := .dict #[] }).update x fun o => { cls := o.cls, dict := some hp.objs.size, data := o.data, slots := o.slots }).get? hp.objs.size = some { cls := .type "dict", data := .dict #[] } :=
    (Heap.get?_update_other _ _ hxs).trans (Heap.get?_push_size _ rfl)
  have hgx : ((hp.push { cls := .type "dict", data := .dict #[] }).update x fun o => { cls := o.cls, dict := some hp.objs.size, data := o.data, slots := o.slots }).get? x = some (excO (some hp.objs.size) t) := Heap.get?_update_self _ hx₁ rfl
  have hnd : ((hp.push { cls := .type "dict", data := .dict #[] }).update x fun o => { cls := o.cls, dict := some hp.objs.size, data := o.data, slots := o.slots }).Ns hp.objs.size (fun zz => none) :=
    ⟨_, #[], _, hgd, rfl, fun e he => absurd he (by simp), fun zz => rfl⟩
  show wpAny _ _ (Builtin.ObjectAttr.storeInDict hp.objs.size (.str name tk) name v) _ _ _
  unfold Builtin.ObjectAttr.storeInDict Builtin.ObjectAttr.newKeyGuard
  refine wpAny_bind (wpAny_pure (wpAny_bind (wpAny_nsSet1 (Heap.Ns1.of_empty hnd) fun h' hn' hs' => ?_)))
  obtain ⟨oD, esD, epD, hoD, hdD, hcD⟩ := hn'.count (Within.cons name v Within.nil)
  refine wpAny_bind (wpAny_lookBehind hoD (by rw [hdD]; exact pastItsLine_dict (Nat.le_trans hcD (by rw [List.length_cons, List.length_nil, sizeLine_eq]; omega))) ?_)
  refine wpAny_pure (hq h' _ ((hs'.2 x hxs).trans hgx) hn' fun b o hb e => ?_)
  exact (hs'.2 b (Nat.ne_of_lt (Heap.lt_size e))).trans ((Heap.get?_update_other _ _ (Ne.symm hb)).trans (Heap.get?_push_of_some _ e))
end
theorem ns_some_of {K : Frag} {h : Heap} {N : Addr} {mg : Str → Option Value} {n : Str} {v : Value} (X : K.In h) (G : h.Ns N mg) (e : nsIn K N n = some (some v)) : mg n = some v := by
  obtain ⟨o, es, ep, ho, hd, _, hf⟩ := G
  unfold nsIn at e
  split at e
  · rename_i c d es' n' sl q
    have := X _ _ q
    rw [ho] at this
    cases this
    cases hd
    split at e
    · rename_i x he
      rw [← hf]
      unfold nsFind findBy
      rw [← Array.find?_toList, he]
      simpa using e
    · rename_i he
      split at e
      · cases e
      · cases e
  · cases e
theorem bad_ns {w : World} {h : Heap} (X : (KF w.params).In h) : ∃ mN, An5 (h.Ns 30 mN) (mN "__init__" = some (.ref 28)) (mN "__setattr__" = none) (mN "line" = none) (mN "word" = none) := by
  have G : h.Ns 30 (h.nsMap 30) := .of_isNs (isNs_of_in X (by kernel_rfl))
  exact ⟨_, G, ns_some_of X G (by kernel_rfl), ns_none_of X G (by kernel_rfl), ns_none_of X G (by kernel_rfl), ns_none_of X G (by kernel_rfl)⟩
theorem exc_no_word : typeLookup (.type "Exception") "word" = pure none := by rw [typeLookup_type, builtinLookup_eq_fast]; kernel_rfl
theorem fn_bad_init (P : Params) : FnOK P fi_BadListing___init__ := ⟨by kernel_rfl, by kernel_rfl, by kernel_rfl⟩
theorem two_keys {a b : Addr} : ∀ {μ : List (Addr × Obj)}, μ.map (·.1) = [a, b] → ∃ o o', μ = [(a, o), (b, o')]
  | [], e => by cases e
  | [_], e => by cases (List.cons.inj e).2
  | [(x, o), (y, o')], e => by
    have e1 := List.cons.inj e
    have e2 := List.cons.inj e1.2
    exact ⟨o, o', by rw [show a = x from e1.1.symm, show b = y from e2.1.symm]⟩
  | _ :: _ :: _ :: _, e => by cases (List.cons.inj (List.cons.inj e).2).2
theorem make_bad {G : Gh} {A : Around} {g : Heap} {mu : List (Addr × Obj)} {s : Shared} {Q E : Value → Shared → Prop} (a b : Value) (H : Gl G g mu s) (R : Rm A 3)
    (k : ∀ e s' od t, s'.heap.get? e = some (excO od t) → g.get? e = none → Gl G g mu s' → Q (.ref e) s') : wpAny G.M A (call (.ref 31) [a, b]) Q E s := by
  obtain ⟨hp, gs, d, tk, os⟩ := s
  obtain ⟨mN, hn, n1, n2, n3, n4⟩ := bad_ns H.X
  have hC := H.X _ _ (bad_obj G.w.params)
  have h28 : (KF G.w.params).lookup 28 = some (o_28 G.w.params) := by kernel_rfl
  refine wpAny_call_exc_init PySem.F.excBase_Exception hC hn n1 (H.X _ _ h28) rfl (fun h' e hm => ?_) (by rw [sizeLine_eq]; simp)
  obtain ⟨t, he, ht0, ht⟩ := hm.there
  have hge : g.get? e = none := by
    cases q : g.get? e with
    | none => rfl
    | some o => have := H.up _ _ q; rw [hm.new] at this; cases this
  have H' := H.keeps (h' := h') hm.keeps tk
  have H₁ : Gl G g ((e, excO none t) :: mu) ⟨h', gs, d, tk, os⟩ := ⟨H'.base, H'.upH, H'.up, fun p hp => by
    rcases List.mem_cons.mp hp with rfl | hp
    · exact ⟨he, hge⟩
    · exact H'.mus p hp, by
    rw [List.map_cons, List.nodup_cons]
    exact ⟨H.fresh hm.new, H'.nd⟩, H'.gens, H'.os⟩
  have he31 : e ≠ 31 := fun q => by rw [q] at hm; have := hm.new; rw [hC] at this; cases this
  refine enter0 (i := fi_BadListing___init__) (binds := [("self", .ref e), ("line", a), ("word", b)]) (n := 1) fn_bad_init H₁ (R.under 31 [a, b]) (by rfl) (by kernel_rfl) fun L s₀ W H₀ => ?_
  show wpAny _ _ (execs (List.cons _ _) _) _ _ _
  refine ex_step (plainObj_wpAny_Assign_Attribute (pe_run H₀ (pe_local (by kernel_rfl) (by rfl)) fun v s₁ e1 H₁ => pe_run H₁ (pe_local (by kernel_rfl) (by rfl)) fun u s₂ e2 H₂ => ?_) (by rfl))
  cases e1; cases e2
  refine store_first (P := G.w.params) H₂.X (H₂.get (.head _)) (bad_line _) fun h₃ tk₃ hx₃ hd₃ hk₃ => ?_
  generalize hD : s₂.heap.objs.size = D at hx₃ hd₃
  have hDe : D ≠ e := fun q => by
    have := Heap.lt_size (H₂.get (.head _))
    rw [hD] at this; exact Nat.lt_irrefl _ (q ▸ this)
  have H₂' := H₂.alloc (o := emptyDict)
  rw [hD] at H₂'
  obtain ⟨μ, hμ, H₃⟩ := At.change (c := ⟨G, _, _, g, _, []⟩) (μ := [(D, emptyDict), (e, excO none t)]) (r := mu) (h' := h₃) H₂' (fun b o hb q => by
    simp only [List.map_cons, List.map_nil, List.mem_cons, List.not_mem_nil, or_false, not_or] at hb
    rw [Heap.get?_push_ne _ _ _ (by rw [hD]; exact hb.1)] at q
    exact hk₃ b o hb.2 q) (fun b hb => by
    simp only [List.map_cons, List.map_nil, List.mem_cons, List.not_mem_nil, or_false] at hb
    rcases hb with rfl | rfl
    · obtain ⟨o, _, _, ho, _⟩ := hd₃; exact ⟨o, ho⟩
    · exact ⟨_, hx₃⟩) tk₃
  obtain ⟨oD, oe, rfl⟩ := two_keys hμ
  have hoe : oe = excO (some D) t := Option.some.inj ((H₃.get (.tail _ (.head _))).symm.trans hx₃)
  subst hoe
  show wpAny _ _ (execs (List.cons _ _) _) _ _ _
  refine ex_step (plainObj_wpAny_Assign_Attribute (pe_run H₃ (pe_local (by kernel_rfl) (by rfl)) fun v s₄ e1 H₄ => pe_run H₄ (pe_local (by kernel_rfl) (by rfl)) fun u s₅ e2 H₅ => ?_) (by rfl))
  cases e1; cases e2
  obtain ⟨hp₅, gs₅, d₅, tk₅, os₅⟩ := s₅
  obtain ⟨mN₅, hn₅, m1, m2, m3, m4⟩ := bad_ns H₅.X
  have hd₅ : hp₅.Ns1 D (fun y => if y = "line" then some a else none) := hd₃.at fun o ho => by
    have q1 := H₃.get (.head _)
    rw [show (h₃.get? D) = some oD from q1] at ho
    cases ho
    exact H₅.get (.head _)
  refine store_attr PySem.F.store_Exception (H₅.X _ _ (bad_obj G.w.params)) hn₅ m2 m4 exc_no_word he31 ⟨_, H₅.get (.tail _ (.head _)), rfl, fun c q => (by cases q), .inr ⟨D, rfl, hDe, hd₅⟩⟩ (fun h₆ tk₆ I₆ hk₆ hs₆ => ?_) (Within.cons "line" a Within.nil) (by rw [sizeLine_eq]; simp)
  obtain ⟨o₁, g1, g2, g3, g4, g5⟩ := hs₆ _ (H₅.get (.tail _ (.head _)))
  have g6 := g5 D rfl
  obtain ⟨oq, r1, r2, r3, r4⟩ := I₆
  obtain rfl : o₁ = oq := Option.some.inj (g1.symm.trans r1)
  obtain ⟨μ', hμ', H₆⟩ := At.change (c := ⟨G, _, _, g, _, []⟩) (μ := [(D, oD), (e, excO (some D) t)]) (r := mu) (h' := h₆) H₅ (fun b o hb q => by
    simp only [List.map_cons, List.map_nil, List.mem_cons, List.not_mem_nil, or_false, not_or] at hb
    refine hk₆ b o hb.2 (fun o₀ dx q1 q2 => ?_) q
    rw [show hp₅.get? e = _ from H₅.get (.tail _ (.head _))] at q1
    cases q1
    cases q2
    exact hb.1) (fun b hb => by
    simp only [List.map_cons, List.map_nil, List.mem_cons, List.not_mem_nil, or_false] at hb
    rcases hb with rfl | rfl
    · rcases r4 with ⟨r4, _⟩ | ⟨d', r4, r5, ⟨o, _, _, ho, _⟩⟩
      · rw [g6] at r4; cases r4
      · rw [g6] at r4; cases r4; exact ⟨o, ho⟩
    · exact ⟨_, g1⟩) tk₆
  refine ex_nil ⟨rfl, k e _ o₁.dict t ?_ hge H₆.gl.dropL⟩
  rw [show h₆.get? e = some o₁ from g1]
  obtain ⟨c1, od1, dt1, sl1⟩ := o₁
  cases g2; cases g3; cases g4
  rfl
end Mine
end
section
open PySem PySem.W PyProof.Rows PySem.Calls PySem.Builtin PySem.Builtin.Str
namespace Mine
set_option maxRecDepth 100000

theorem fn_is_figures (P : Params) : FnOK P fi_is_figures := ⟨by kernel_rfl, by kernel_rfl, by kernel_rfl⟩
theorem fn_word (P : Params) : FnOK P fi_Listing_word := ⟨by kernel_rfl, by kernel_rfl, by kernel_rfl⟩
theorem fn_need (P : Params) : FnOK P fi_Listing_need := ⟨by kernel_rfl, by kernel_rfl, by kernel_rfl⟩
theorem fn_takes (P : Params) : FnOK P fi_Listing_takes := ⟨by kernel_rfl, by kernel_rfl, by kernel_rfl⟩
theorem fn_count (P : Params) : FnOK P fi_Listing_count := ⟨by kernel_rfl, by kernel_rfl, by kernel_rfl⟩
theorem fn_lettered (P : Params) : FnOK P fi_Listing_lettered := ⟨by kernel_rfl, by kernel_rfl, by kernel_rfl⟩
theorem fn_told_text (P : Params) : FnOK P fi_Listing_told_text := ⟨by kernel_rfl, by kernel_rfl, by kernel_rfl⟩
theorem fn_end_line (P : Params) : FnOK P fi_Listing_end_line := ⟨by kernel_rfl, by kernel_rfl, by kernel_rfl⟩

noncomputable def isD (c : Nat) : Bool := decide (48 ≤ c) && decide (c ≤ 57)
noncomputable def figs (t : List Nat) : Bool := !(t.isEmpty || decide (18 < t.length)) && t.all isD && (t == [48] || !(t.getD 0 0 == 48))
theorem cs_nil : cs "" = [] := by kernel_rfl
theorem cs_dg : cs "0123456789" = [48, 49, 50, 51, 52, 53, 54, 55, 56, 57] := by kernel_rfl
theorem cs_0 : cs "0" = [48] := by kernel_rfl
theorem dg_small : ∀ c : Fin 58, decide (c.1 ∈ [48, 49, 50, 51, 52, 53, 54, 55, 56, 57]) = isD c.1 := by decide +kernel
theorem dg_le : ∀ x ∈ [48, 49, 50, 51, 52, 53, 54, 55, 56, 57], x ≤ 57 := by decide
theorem in_dg (c : Nat) : decide (c ∈ cs "0123456789") = isD c := by
  rw [cs_dg]
  rcases Nat.lt_or_ge c 58 with h | h
  · exact dg_small ⟨c, h⟩
  · have h1 : isD c = false := by unfold isD; rw [decide_eq_false (Nat.not_le.mpr h), Bool.and_false]
    rw [h1, decide_eq_false fun q => Nat.not_le.mpr h (dg_le c q)]
theorem eq1 (a b : Nat) : decide ([a] = [b]) = (a == b) := by rw [Bool.eq_iff_iff]; simp

theorem is_figures_spec (G : Gh) (t : List Nat) (v : Value) (hv : VT t v) (hz : t.length ≤ 16777216) : PFSpec G 1 223 [v] (VE (.bool (figs t))) := by
  intro A g mu s Q E hG R k
  obtain ⟨tk, rfl⟩ := hv
  refine enter0 (i := fi_is_figures) (binds := [("text", .str (S t) tk)]) fn_is_figures hG R (by rfl) (by kernel_rfl) fun L s' R' H' => ?_
  show wpAny _ _ (execs (List.cons _ _) _) _ _ _
  have T : ∀ m mu, m (Str.ofString "text") = some (.str (S t) tk) → ∀ pos, PE ⟨G, A.deeper (fi_is_figures.env L), fi_is_figures.env L, g, m, mu⟩ (.Name "text" pos) (VT t) := fun m mu hm pos => pe_locT (by kernel_rfl) hm
  refine ex_if H' (d := decide (t = cs "") || decide ((18 : Int) < t.length)) (pt_or (pt_eq_str (T _ _ (by rfl) _) pe_strc) (fun zz => pt_gt (pe_len_str (T _ _ (by rfl) _) (by omega)) pe_int)) ?_ ?_
  · intro h s₁ H₁
    refine ex_ret H₁ pe_bool fun v s₂ q H₂ => ?_
    cases q
    refine k _ s₂ ?_ H₂.gl
    show Value.bool _ = Value.bool _
    congr 1
    rw [cs_nil] at h
    symm
    unfold figs
    rw [show (t.isEmpty || decide (18 < t.length)) = true by
      simp only [Bool.or_eq_true, decide_eq_true_eq, List.isEmpty_iff] at h ⊢
      exact h.imp id (by omega)]
    rfl
  · intro h s₁ H₁
    rw [cs_nil] at h
    have h0 : (t.isEmpty || decide (18 < t.length)) = false := by
      simp only [Bool.or_eq_false_iff, decide_eq_false_iff_not, List.isEmpty_eq_false_iff] at h ⊢
      exact ⟨h.1, by omega⟩
    refine ex_for (Ei := fun zz zz => False) (fun zz zz h => h.elim) (T _ _ (by rfl) _ s₁ _ _ H₁ fun v s₂ hv H₂ => ?_)
    refine ⟨g, _, mu, t.length, _, fun i g' m mu' => An4 (g' = g) (mu' = mu) (m (Str.ofString "text") = some (.str (S t) tk)) ((t.take i).all isD = true), H₂, itr_str R'.h hv, ⟨rfl, rfl, by rfl, rfl⟩, ?_, ?_⟩
    · rintro i g' m mu' p v s₃ hi ⟨_, hv⟩ ⟨rfl, rfl, hm, hall⟩ u H₃
      refine wpAny_assign_Name (H₃.store (by kernel_rfl) fun s₄ H₄ => ?_)
      obtain ⟨tv, rfl⟩ := hv
      refine ex_if H₄ (d := !(isD (t.getD i 0))) (PT.congr (pt_notin_str (pe_locT (by kernel_rfl) (by rfl)) pe_strc) (by rw [in_dg])) ?_ ?_
      · intro hd s₅ H₅
        refine ex_ret H₅ pe_bool fun v s₆ q H₆ => ?_
        cases q
        refine k _ s₆ ?_ H₆.gl.dropR
        show Value.bool _ = Value.bool _
        congr 1
        symm
        have : t.all isD = false := by
          rw [List.all_eq_false]
          refine ⟨t[i], List.getElem_mem hi, ?_⟩
          rw [List.getD_eq_getElem?_getD, List.getElem?_eq_getElem hi] at hd
          simpa using hd
        unfold figs
        rw [this]; simp
      · intro hd s₅ H₅
        refine ex_nil ⟨g', _, mu', Up.rfl, H₅, rfl, rfl, hm, ?_⟩
        rw [List.take_add_one, List.getElem?_eq_getElem hi]
        rw [List.getD_eq_getElem?_getD, List.getElem?_eq_getElem hi] at hd
        simp only [List.all_append, hall, Bool.true_and]
        simpa using hd
    · rintro g' m mu' s₃ ⟨rfl, rfl, hm, hall⟩ u H₃
      rw [List.take_length] at hall
      have hl : 0 < t.length := by
        simp only [Bool.or_eq_false_iff, List.isEmpty_eq_false_iff] at h0
        exact List.length_pos_iff.mpr h0.1
      refine ex_ret H₃ (pe_or (pe_eq_str (T _ _ hm _) pe_strc) fun zz => pe_ne_str (pe_item_str (n := 0) (T _ _ hm _) pe_int hl (by omega)) pe_strc) fun v s₄ q H₄ => ?_
      cases q
      refine k _ s₄ ?_ H₄.gl
      show Value.bool _ = Value.bool _
      congr 1
      unfold figs
      rw [h0, hall, cs_0, Bool.eq_iff_iff]
      simp [eq1]

theorem raise_made {M : Model} {A : Around} {E : Value → Shared → Prop} {env : Env} {s : Shared} {x : Sem Value} {Q : Flow → Shared → Prop} (hh : A.handled = none)
    (h : wpAny M A x (fun v s₁ => Ex4 fun e od t P => An4 (v = .ref e) ((KF P).In s₁.heap) (s₁.heap.get? e = some (excO od t)) (E (.ref e) s₁)) E s) :
    wpAny M A (raiseStmt env (some x) none) Q E s := by
  unfold raiseStmt
  refine wpAny_bind (wpAny_mono h (fun v s₁ h₁ => ?_) fun zz zz x => x)
  obtain ⟨e, od, t, P, rfl, X, he, hE⟩ := h₁
  obtain ⟨hp, g, d, tk, os⟩ := s₁
  have hC := X _ _ (bad_obj P)
  repeat (first | with_reducible refine wpAny_loadPart_at he ?_ | with_reducible refine wpAny_loadPart_at hC ?_ | (with_reducible refine wpAny_isSubtype_exc hC ?_; rw [show ((Value.ref 31 :: [Value.type "Exception", Value.type "BaseException", Value.type "object"]).contains (Value.type "BaseException")) = true by decide]) | wp_step)
  exact wpAny_raiseNew_none hh hE
theorem fn_refuse (P : Params) : FnOK P fi_Listing_refuse := ⟨by kernel_rfl, by kernel_rfl, by kernel_rfl⟩
theorem refuse_spec (pc : PC) (g₀ : Heap) (v : Value) : PSpec pc 4 139 [.ref pc.x, v] g₀ (fun zz => (none : Option (Unit × List Nat))) (fun zz zz zz => True) := by
  intro A outer g ρ r s Q E u H R hA hS k kE
  obtain ⟨o, ⟨p, ln, hp, hr, hL⟩, h2, hx, hB⟩ := H
  refine enter (i := fi_Listing_refuse) (binds := [("self", .ref pc.x), ("word", v)]) (n := 3) fn_refuse h2 R (by rfl) (by kernel_rfl) fun L s' R' H' => ?_
  have hfr : (A.deeper (fi_Listing_refuse.env L)).frames = some (fi_Listing_refuse.env L :: outer) := Around.frames_deeper hA
  show wpAny _ _ (execs (List.cons _ _) _) _ _ _
  refine ex_step ?_
  rw [arm_exec_Raise]
  refine wpAny_bind (wpAny_standAt (raise_made R'.h (wpAny_bind (c_keep (f := 31) H' (pe_glob (by kernel_rfl) rfl (by kernel_rfl)) (by kernel_rfl) fun s₁ H₁ => (pa_two (P' := VE v) (pe_line (pe_local (by kernel_rfl) (by rfl)) (.inr hx) (.inl (.head _)) hL) (pe_local (by kernel_rfl) (by rfl))) _ s₁ _ _ H₁ fun vs s₂ hvs H₂ => ?_))))
  obtain ⟨v₁, v₂, rfl, _, e2⟩ := hvs
  cases e2
  refine ⟨H₂.X, ?_⟩
  obtain ⟨oL, co, ll, kc, gl⟩ := H₂
  refine make_bad v₁ v gl (R'.less (by omega)) fun e s₃ od t he hge gl₃ => wpAny_bind (wpAny_standAt (wpAny_pure ⟨e, od, t, pc.G.w.params, rfl, gl₃.X, he, ?_⟩))
  have hS' : Stk pc.X (fi_Listing_refuse.env L :: outer) (((fi_Listing_refuse.env L).locals, oL) :: (co ++ (pc.dx, o) :: ρ)) := by
    obtain ⟨a1, a2⟩ := hS.mono (mu' := (((fi_Listing_refuse.env L).locals, oL) :: (co ++ (pc.dx, o) :: ρ))) fun p hp => .tail _ (List.mem_append_right _ (.tail _ hp))
    refine ⟨fun env he => ?_, a2⟩
    rcases List.mem_cons.mp he with rfl | he
    · obtain ⟨es, ep, hd, _⟩ := ll
      exact ⟨by show sc_Listing_refuse.kind ≠ _; decide +kernel, L, oL, rfl, .head _, fun vs q => by rw [hd] at q; cases q⟩
    · exact a1 env he
  obtain ⟨f1, f2, f3⟩ := gl₃.funFrames hB hS'
  have hB0 : pc.X.B.get? e = none := by
    cases q : pc.X.B.get? e with
    | none => rfl
    | some o => rw [hB _ _ q] at hge; cases hge
  refine wpAny_leaving_firstW (a0 := .ref t) hfr f2 rfl he f1 hB0 rfl rfl rfl fun h' hL' => ?_
  obtain ⟨k1, ⟨_, _, k2⟩, k3, k4⟩ := hL'
  exact kE _ _ rfl ⟨e, .ref t, rfl, ⟨k1, hB0, k2, k3⟩, fr_upTo k4 f3, gl₃.gens, gl₃.os.trans pc.hos.symm⟩

theorem wordAt_le (r : List Nat) : (wordAt r).length ≤ r.length := by
  cases r with
  | nil => exact Nat.le_refl _
  | cons c t =>
    simp only [wordAt]
    split
    · simp
    · exact (List.takeWhile_prefix _).length_le
theorem some_inj2 {α β : Type} {a a' : α} {b b' : β} (h : some (a, b) = some (a', b')) : a = a' ∧ b = b' := by
  injection h with h; exact Prod.mk.inj h
theorem LR.go {pc : PC} {r : List Nat} {p ln n : Nat} {o' : Obj} (hp : p ≤ pc.l.length) (hr : pc.l.drop p = r) (hn : n ≤ r.length) (h : LD pc.l (p + n) ln o') : LR pc.l (r.drop n) o' := by
  refine ⟨p + n, ln, ?_, ?_, h⟩
  · rw [← hr, List.length_drop] at hn; omega
  · rw [← hr, List.drop_drop]

theorem word_spec (pc : PC) (g₀ : Heap) : PSpec pc 5 167 [.ref pc.x] g₀ pWord (fun zz w v => VT w v) := by
  intro A outer g ρ r s Q E u H R hA hS k kE
  have hz := pc.hz
  refine enterP (i := fi_Listing_word) (binds := [("self", .ref pc.x)]) (n := 4) (pWord r = none) fn_word H R hA hS (fun e s' h => kE e s' h) (by rfl) (by kernel_rfl) fun L s' W H' => ?_
  show wpAny _ _ (execs (List.cons _ _) _) _ _ _
  refine ex_assign_any (la_meth0 W H' (fun zz => pe_local (by kernel_rfl) (by rfl)) (by kernel_rfl) (ld_get (by kernel_rfl) (by kernel_rfl) (by kernel_rfl)) (peek_spec pc g) (by decide) (fun w r₁ v s₁ g₁ e u₁ hv H₁ => ?_) fun e s' q => nomatch q)
  obtain ⟨rfl, rfl⟩ := some_inj2 e
  obtain ⟨t, rfl⟩ := hv
  have hw : ∀ rr w, skipB r = rr → wordAt rr = w → pWord r = if w = [] then none else some (w, rr.drop w.length) := fun rr w h1 h2 => by unfold pWord; rw [h1, h2]
  have hle := wordAt_le (skipB r)
  generalize hr2 : skipB r = r₂ at *
  generalize hww : wordAt r₂ = w at *
  have hw' := hw r₂ w rfl hww
  refine H₁.put_ (by kernel_rfl) fun s₂ H₂ => ?_
  refine la_if H₂ (d := decide (w = [])) (fun mu => PT.congr (pt_eq_str (pe_locT (by kernel_rfl) (by rfl)) pe_strc) (by rw [cs_nil])) ?_ ?_
  · intro h s₃ H₃
    simp only [decide_eq_true_eq] at h
    rw [if_pos h] at hw'
    exact ex_expr_any (la_meth W H₃ (fun zz => pe_local (by kernel_rfl) (by rfl)) (fun mu => pa_one pe_strc) (by kernel_rfl) (by kernel_rfl) (ld_get (by kernel_rfl) (by kernel_rfl) (by kernel_rfl)) (fun vs ⟨v, e, _⟩ => by subst e; exact refuse_spec pc g₁ v) (by decide) (fun zz zz zz zz zz e => (by cases e)) fun e s' zz f => ⟨hw', f⟩)
  · intro h s₃ H₃
    simp only [decide_eq_false_iff_not] at h
    rw [if_neg h] at hw'
    obtain ⟨o, ⟨p, ln, hp, hr, hL⟩, H₃, hx, hB⟩ := H₃
    refine ex_set_place H₃ hx hL (pe_local (by kernel_rfl) (by rfl)) (p' := p + w.length) (pe_add_int (a := (p : Int)) (b := (w.length : Int)) (pe_place (pe_local (by kernel_rfl) (by rfl)) (.inr hx) (.inl (.head _)) hL) (pe_len_str (pe_locT (by kernel_rfl) (by rfl)) (by rw [← hr, List.length_drop] at hle; omega))) fun o' s₄ hL' H₄ => ?_
    refine ex_ret H₄ (pe_locT (by kernel_rfl) (by rfl)) fun v s₅ hv H₅ => ?_
    exact k w _ v s₅ g₁ hw' u₁ hv ⟨o', LR.go hp hr hle hL', H₅.gl, hx, hB⟩

theorem need_spec (pc : PC) (g₀ : Heap) (x : List Nat) (v : Value) (hv : VT x v) : PSpec pc 6 174 [.ref pc.x, v] g₀ (pNeed x) (fun zz zz v => v = .none) := by
  intro A outer g ρ r s Q E u H R hA hS k kE
  obtain ⟨tk, rfl⟩ := hv
  refine enterP (i := fi_Listing_need) (binds := [("self", .ref pc.x), ("wanted", .str (S x) tk)]) (n := 5) (pNeed x r = none) fn_need H R hA hS (fun e s' h => kE e s' h) (by rfl) (by kernel_rfl) fun L s' W H' => ?_
  show wpAny _ _ (execs (List.cons _ _) _) _ _ _
  refine ex_if_any (wpAny_isTrue_Compare1 (la_meth0 W H' (fun zz => pe_local (by kernel_rfl) (by rfl)) (by kernel_rfl) (ld_get (by kernel_rfl) (by kernel_rfl) (by kernel_rfl)) (word_spec pc g) (by decide) (fun w r₁ v s₁ g₁ e u₁ hv H₁ => ?_) fun e s' q f => ⟨by unfold pNeed; rw [q]; rfl, f⟩))
  refine la_pe H₁ (fun mu => pe_locT (x := "wanted") (by kernel_rfl) (by rfl)) fun v' s₂ hv' H₂ => ?_
  obtain ⟨t, rfl⟩ := hv
  obtain ⟨t', rfl⟩ := hv'
  refine ne_str (wpAny_truthy_bool ?_)
  rw [ne_S]
  have hN : pNeed x r = if w = x then some ((), r₁) else none := by unfold pNeed; rw [e]; rfl
  by_cases h : w = x
  · rw [if_pos h] at hN
    simp only [h, decide_true, Bool.not_true, Bool.false_eq_true, if_false]
    exact ex_nil (ex_nil (k () r₁ _ s₂ g₁ hN u₁ rfl H₂.li))
  · rw [if_neg h] at hN
    simp only [h, decide_false, Bool.not_false, if_true]
    exact ex_expr_any (la_meth W H₂ (fun zz => pe_local (by kernel_rfl) (by rfl)) (fun mu => pa_one (pe_locT (x := "wanted") (l := x) (t := tk) (by kernel_rfl) (by rfl))) (by kernel_rfl) (by kernel_rfl) (ld_get (by kernel_rfl) (by kernel_rfl) (by kernel_rfl)) (fun vs ⟨v, e, _⟩ => by subst e; exact refuse_spec pc g₁ v) (by decide) (fun zz zz zz zz zz e => (by cases e)) fun e s' zz f => ⟨hN, f⟩)

theorem skip_skip : ∀ r : List Nat, skipB (skipB r) = skipB r
  | [] => rfl
  | a :: t => by
    by_cases h : isB a = true
    · rw [show skipB (a :: t) = skipB t by rw [skipB, List.dropWhile_cons_of_pos h]; rfl]
      exact skip_skip t
    · have e : skipB (a :: t) = a :: t := by rw [skipB, List.dropWhile_cons_of_neg h]
      rw [e, e]
theorem takes_spec (pc : PC) (g₀ : Heap) (x : List Nat) (v : Value) (hv : VT x v) (hx0 : x ≠ []) : PSpec pc 6 181 [.ref pc.x, v] g₀ (pTakes x) (fun zz b v => v = .bool b) := by
  intro A outer g ρ r s Q E u H R hA hS k kE
  obtain ⟨tk, rfl⟩ := hv
  refine enterP (i := fi_Listing_takes) (binds := [("self", .ref pc.x), ("wanted", .str (S x) tk)]) (n := 5) False fn_takes H R hA hS (fun e s' h => h.elim) (by rfl) (by kernel_rfl) fun L s' W H' => ?_
  show wpAny _ _ (execs (List.cons _ _) _) _ _ _
  refine ex_if_any (wpAny_isTrue_Compare1 (la_meth0 W H' (fun zz => pe_local (by kernel_rfl) (by rfl)) (by kernel_rfl) (ld_get (by kernel_rfl) (by kernel_rfl) (by kernel_rfl)) (peek_spec pc g) (by decide) (fun w r₁ v s₁ g₁ e u₁ hv H₁ => ?_) fun e s' q f => nomatch q))
  refine la_pe H₁ (fun mu => pe_locT (x := "wanted") (by kernel_rfl) (by rfl)) fun v' s₂ hv' H₂ => ?_
  obtain ⟨t, rfl⟩ := hv
  obtain ⟨t', rfl⟩ := hv'
  obtain ⟨rfl, rfl⟩ := some_inj2 e
  refine ne_str (wpAny_truthy_bool ?_)
  rw [ne_S]
  by_cases h : wordAt (skipB r) = x
  · simp only [h, decide_true, Bool.not_true, Bool.false_eq_true, if_false]
    refine ex_nil (ex_expr_any (la_meth0 W H₂ (fun zz => pe_local (by kernel_rfl) (by rfl)) (by kernel_rfl) (ld_get (by kernel_rfl) (by kernel_rfl) (by kernel_rfl)) (word_spec pc g₁) (by decide) (fun w r₁ v s₃ g₂ e u₂ hv H₃ => ?_) fun e s' q f => ?_))
    · refine la_ret H₃ (fun mu => pe_bool) fun v s₄ hv H₄ => ?_
      cases hv
      have hs := skip_skip r
      refine k true ((skipB r).drop x.length) _ s₄ g₂ (by unfold pTakes; rw [if_pos h]) (u₁.trans u₂) rfl ?_
      unfold pWord at e
      rw [hs, h, if_neg hx0] at e
      obtain ⟨_, rfl⟩ := some_inj2 e
      exact H₄.li
    · exfalso
      have hs := skip_skip r
      unfold pWord at q
      rw [hs, h, if_neg hx0] at q
      cases q
  · simp only [h, decide_false, Bool.not_false, if_true]
    refine la_ret H₂ (fun mu => pe_bool) fun v s₄ hv H₄ => ?_
    cases hv
    exact k false (skipB r) _ s₄ g₁ (by unfold pTakes; rw [if_neg h]) u₁ rfl H₄.li
end Mine
end
section
open PySem PySem.W PyProof.Rows PySem.Calls PySem.Builtin PySem.Builtin.Str PySem.NumText
namespace Mine
set_option maxRecDepth 100000

noncomputable def pCount (r : List Nat) : Option (Nat × List Nat) := (pWord r).bind fun wr => if figs wr.1 = true then some (digitsVal wr.1, wr.2) else none
noncomputable def pLet (c : Nat) (r : List Nat) : Option (Nat × List Nat) := (pWord r).bind fun wr => if wr.1.take 1 = [c] ∧ figs (wr.1.drop 1) = true then some (digitsVal (wr.1.drop 1), wr.2) else none
noncomputable def pTold (r : List Nat) : Option (List Nat × List Nat) := (pCount r).bind fun nr => if nr.2.take 1 = [32] ∧ nr.1 + 1 ≤ nr.2.length then some ((nr.2.drop 1).take nr.1, nr.2.drop (nr.1 + 1)) else none
noncomputable def pEnd (r : List Nat) : Option (Unit × List Nat) := if (skipB r).take 1 = [10] then some ((), (skipB r).drop 1) else none

theorem La.len {pc : PC} {A : Around} {env : Env} {ρ : List (Addr × Obj)} {g : Heap} {m : Str → Option Value} {r : List Nat} {s : Shared} (H : La pc A env ρ g m r s) : r.length ≤ pc.l.length := by
  obtain ⟨o, ⟨p, ln, hp, hr, hL⟩, _⟩ := H
  rw [← hr, List.length_drop]; omega
theorem skip_len (r : List Nat) : (skipB r).length ≤ r.length := by
  obtain ⟨k, e, _⟩ := skipB_le r
  rw [e, List.length_drop]; omega
theorem word_len {r w r' : List Nat} (h : pWord r = some (w, r')) : w.length + r'.length ≤ r.length ∧ w ≠ [] := by
  unfold pWord at h
  split at h
  · (first | subst h | cases h)
  · rename_i hne
    obtain ⟨rfl, rfl⟩ := some_inj2 h
    have := wordAt_le (skipB r)
    have := skip_len r
    exact ⟨by rw [List.length_drop]; omega, hne⟩
theorem figs_all {t : List Nat} (h : figs t = true) : AllDigits t ∧ t ≠ [] ∧ t.length ≤ 18 ∧ (t = [48] ∨ t.getD 0 0 ≠ 48) := by
  simp only [figs, Bool.and_eq_true, Bool.not_eq_true', Bool.or_eq_false_iff, Bool.or_eq_true, decide_eq_false_iff_not, List.all_eq_true, beq_iff_eq, beq_eq_false_iff_ne, List.isEmpty_eq_false_iff] at h
  obtain ⟨⟨⟨h1, h2⟩, h3⟩, h4⟩ := h
  refine ⟨fun c hc => ?_, h1, by omega, h4⟩
  have := h3 c hc
  simp only [isD, Bool.and_eq_true, decide_eq_true_eq] at this
  exact this

theorem count_spec (pc : PC) (g₀ : Heap) : PSpec pc 6 188 [.ref pc.x] g₀ pCount (fun zz n v => VI (n : Int) v) := by
  intro A outer g ρ r s Q E u H R hA hS k kE
  refine enterP (i := fi_Listing_count) (binds := [("self", .ref pc.x)]) (n := 5) (pCount r = none) fn_count H R hA hS (fun e s' h => kE e s' h) (by rfl) (by kernel_rfl) fun L s' W H' => ?_
  show wpAny _ _ (execs (List.cons _ _) _) _ _ _
  refine ex_assign_any (la_meth0 W H' (fun zz => pe_local (by kernel_rfl) (by rfl)) (by kernel_rfl) (ld_get (by kernel_rfl) (by kernel_rfl) (by kernel_rfl)) (word_spec pc g) (by decide) (fun w r₁ v s₁ g₁ e u₁ hv H₁ => ?_) fun e s' q f => ⟨by unfold pCount; rw [q]; rfl, f⟩)
  obtain ⟨t, rfl⟩ := hv
  have hC : pCount r = if figs w = true then some (digitsVal w, r₁) else none := by unfold pCount; rw [e]; rfl
  have hw : w.length ≤ 16777216 := by have := (word_len e).1; have := H'.len; have := pc.hz; omega
  refine H₁.put_ (by kernel_rfl) fun s₂ H₂ => ?_
  refine la_if H₂ (d := !(figs w)) (fun mu => pt_not (pt_bool (pe_def (P := P1 (VT w)) (pe_glob (by kernel_rfl) rfl (by kernel_rfl)) (by kernel_rfl) (pa_one (pe_locT (by kernel_rfl) (by rfl))) (fun vs ⟨v, e, hv⟩ => by subst e; exact is_figures_spec _ w v hv hw) W.rm (by decide)))) ?_ ?_
  · intro h s₃ H₃
    simp only [Bool.not_eq_true'] at h
    rw [h] at hC
    exact ex_expr_any (la_meth W H₃ (fun zz => pe_local (by kernel_rfl) (by rfl)) (fun mu => pa_one pe_strc) (by kernel_rfl) (by kernel_rfl) (ld_get (by kernel_rfl) (by kernel_rfl) (by kernel_rfl)) (fun vs ⟨v, e, _⟩ => by subst e; exact refuse_spec pc g₁ v) (by decide) (fun zz zz zz zz zz e => (by cases e)) fun e s' zz f => ⟨hC, f⟩)
  · intro h s₃ H₃
    simp only [Bool.not_eq_false'] at h
    rw [if_pos h] at hC
    obtain ⟨d1, d2, d3, _⟩ := figs_all h
    refine la_ret H₃ (fun mu => pe_int_of (l := w) (pe_locT (t := t) (by kernel_rfl) (by rfl)) d1 d2 (by omega)) fun v s₄ hv H₄ => ?_
    exact k _ _ v s₄ g₁ hC u₁ hv H₄.li

theorem lettered_spec (pc : PC) (g₀ : Heap) (x : Nat) (v : Value) (hv : VT [x] v) : PSpec pc 6 195 [.ref pc.x, v] g₀ (pLet x) (fun zz n v => VI (n : Int) v) := by
  intro A outer g ρ r s Q E u H R hA hS k kE
  obtain ⟨tk, rfl⟩ := hv
  refine enterP (i := fi_Listing_lettered) (binds := [("self", .ref pc.x), ("letter", .str (S [x]) tk)]) (n := 5) (pLet x r = none) fn_lettered H R hA hS (fun e s' h => kE e s' h) (by rfl) (by kernel_rfl) fun L s' W H' => ?_
  show wpAny _ _ (execs (List.cons _ _) _) _ _ _
  refine ex_assign_any (la_meth0 W H' (fun zz => pe_local (by kernel_rfl) (by rfl)) (by kernel_rfl) (ld_get (by kernel_rfl) (by kernel_rfl) (by kernel_rfl)) (word_spec pc g) (by decide) (fun w r₁ v s₁ g₁ e u₁ hv H₁ => ?_) fun e s' q f => ⟨by unfold pLet; rw [q]; rfl, f⟩)
  obtain ⟨t, rfl⟩ := hv
  have hC : pLet x r = if w.take 1 = [x] ∧ figs (w.drop 1) = true then some (digitsVal (w.drop 1), r₁) else none := by unfold pLet; rw [e]; rfl
  have hw : w.length ≤ 16777216 := by have := (word_len e).1; have := H'.len; have := pc.hz; omega
  refine H₁.put_ (by kernel_rfl) fun s₂ H₂ => ?_
  refine la_if H₂ (d := !(decide (w.take 1 = [x]) && figs (w.drop 1))) (fun mu => PT.congr (pt_or (a := !decide (w.take 1 = [x])) (b := !(figs (w.drop 1))) (pt_ne_str (pe_slice_ns (b := 1) (pe_locT (t := t) (by kernel_rfl) (by rfl)) pe_int hw) (pe_locT (t := tk) (by kernel_rfl) (by rfl)))
      (fun zz => pt_not (pt_bool (pe_def (P := P1 (VT (w.drop 1))) (pe_glob (by kernel_rfl) rfl (by kernel_rfl)) (by kernel_rfl) (pa_one (pe_slice_sn (a := 1) (pe_locT (t := t) (by kernel_rfl) (by rfl)) pe_int hw)) (fun vs ⟨v, e, hv⟩ => by subst e; exact is_figures_spec _ _ v hv (by rw [List.length_drop]; omega)) W.rm (by decide))))) (by simp [Bool.not_and])) ?_ ?_
  · intro h s₃ H₃
    simp only [Bool.not_eq_true', Bool.and_eq_false_iff, decide_eq_false_iff_not] at h
    rw [if_neg (by rintro ⟨a, b⟩; rcases h with h | h; exact h a; rw [b] at h; (first | subst h | cases h))] at hC
    exact ex_expr_any (la_meth W H₃ (fun zz => pe_local (by kernel_rfl) (by rfl)) (fun mu => pa_one (pe_locT (l := [x]) (t := tk) (by kernel_rfl) (by rfl))) (by kernel_rfl) (by kernel_rfl) (ld_get (by kernel_rfl) (by kernel_rfl) (by kernel_rfl)) (fun vs ⟨v, e, _⟩ => by subst e; exact refuse_spec pc g₁ v) (by decide) (fun zz zz zz zz zz e => (by cases e)) fun e s' zz f => ⟨hC, f⟩)
  · intro h s₃ H₃
    simp only [Bool.not_eq_false', Bool.and_eq_true, decide_eq_true_eq] at h
    rw [if_pos h] at hC
    obtain ⟨d1, d2, d3, _⟩ := figs_all h.2
    refine la_ret H₃ (fun mu => pe_int_of (l := w.drop 1) (pe_slice_sn (a := 1) (pe_locT (t := t) (by kernel_rfl) (by rfl)) pe_int hw) d1 d2 (by omega)) fun v s₄ hv H₄ => ?_
    exact k _ _ v s₄ g₁ hC u₁ hv H₄.li

theorem take_drop_cut {l : List Nat} {p n : Nat} : (l.take (p + n)).drop p = (l.drop p).take n := by rw [List.drop_take]; congr 1; omega

theorem told_text_spec (pc : PC) (g₀ : Heap) : PSpec pc 7 202 [.ref pc.x] g₀ pTold (fun zz w v => VT w v) := by
  intro A outer g ρ r s Q E u H R hA hS k kE
  have hz := pc.hz
  refine enterP (i := fi_Listing_told_text) (binds := [("self", .ref pc.x)]) (n := 6) (pTold r = none) fn_told_text H R hA hS (fun e s' h => kE e s' h) (by rfl) (by kernel_rfl) fun L s' W H' => ?_
  show wpAny _ _ (execs (List.cons _ _) _) _ _ _
  refine ex_assign_any (la_meth0 W H' (fun zz => pe_local (by kernel_rfl) (by rfl)) (by kernel_rfl) (ld_get (by kernel_rfl) (by kernel_rfl) (by kernel_rfl)) (count_spec pc g) (by decide) (fun n r₁ v s₁ g₁ e u₁ hv H₁ => ?_) fun e s' q f => ⟨by unfold pTold; rw [q]; rfl, f⟩)
  obtain ⟨t, rfl⟩ := hv
  have hC : pTold r = if r₁.take 1 = [32] ∧ n + 1 ≤ r₁.length then some ((r₁.drop 1).take n, r₁.drop (n + 1)) else none := by unfold pTold; rw [e]; rfl
  refine H₁.put_ (by kernel_rfl) fun s₂ H₂ => ?_
  obtain ⟨o, ⟨p, ln, hp, hr, hL⟩, H₂, hx, hB⟩ := H₂
  refine ex_assign H₂ (P := VI ((p + 1 : Nat) : Int)) (pe_add_int (a := (p : Int)) (b := 1) (pe_place (pe_local (by kernel_rfl) (by rfl)) (.inr hx) (.inl (.head _)) hL) pe_int) (by kernel_rfl) fun v s₃ hv H₃ => ?_
  obtain ⟨t3, rfl⟩ := hv
  have hlen : r₁.length = pc.l.length - p := by rw [← hr, List.length_drop]
  refine ex_if H₃ (d := !(decide (r₁.take 1 = [32]) && decide (n + 1 ≤ r₁.length))) (PT.congr (pt_or (a := !decide (r₁.take 1 = [32])) (b := decide ((pc.l.length : Int) < ((p + 1 : Nat) : Int) + (n : Int)))
      (pt_ne_str ((pe_slice_ss (a := p) (b := p + 1) (pe_text (pe_local (by kernel_rfl) (by rfl)) (.inr hx) (.inl (.head _)) hL) (pe_place (pe_local (by kernel_rfl) (by rfl)) (.inr hx) (.inl (.head _)) hL) (pe_locI (t := t3) (by kernel_rfl) (by rfl)) hz).convT (by rw [take_drop_cut, hr])) (pe_strc.convT cs_32))
      (fun zz => pt_gt (pe_add_int (pe_locI (i := ((p + 1 : Nat) : Int)) (t := t3) (by kernel_rfl) (by rfl)) (pe_locI (i := (n : Int)) (t := t) (by kernel_rfl) (by rfl))) (pe_len_str (pe_text (pe_local (by kernel_rfl) (by rfl)) (.inr hx) (.inl (.head _)) hL) (by omega)))) (by
        rw [Bool.not_and, hlen]
        congr 1
        rw [Bool.eq_iff_iff]
        simp
        omega)) ?_ ?_
  · intro h s₃ H₄
    simp only [Bool.not_eq_true', Bool.and_eq_false_iff, decide_eq_false_iff_not] at h
    rw [if_neg (by rintro ⟨a, b⟩; rcases h with h | h; exact h a; exact h b)] at hC
    have H₅ : La pc _ _ ρ g₁ _ r₁ s₃ := ⟨o, ⟨p, ln, hp, hr, hL⟩, H₄, hx, hB⟩
    exact ex_expr_any (la_meth W H₅ (fun zz => pe_local (by kernel_rfl) (by rfl)) (fun mu => pa_one pe_strc) (by kernel_rfl) (by kernel_rfl) (ld_get (by kernel_rfl) (by kernel_rfl) (by kernel_rfl)) (fun vs ⟨v, e, _⟩ => by subst e; exact refuse_spec pc g₁ v) (by decide) (fun zz zz zz zz zz e => (by cases e)) fun e s' zz f => ⟨hC, f⟩)
  · intro h s₄ H₄
    simp only [Bool.not_eq_false', Bool.and_eq_true, decide_eq_true_eq] at h
    rw [if_pos h] at hC
    refine ex_set_place H₄ hx hL (pe_local (by kernel_rfl) (by rfl)) (p' := p + 1 + n) (pe_add_int (a := ((p + 1 : Nat) : Int)) (b := (n : Int)) (pe_locI (t := t3) (by kernel_rfl) (by rfl)) (pe_locI (t := t) (by kernel_rfl) (by rfl))) fun o' s₅ hL' H₅ => ?_
    refine ex_ret H₅ (pe_slice_ss (a := p + 1) (b := p + 1 + n) (pe_text (pe_local (by kernel_rfl) (by rfl)) (.inr hx) (.inl (.head _)) hL') (pe_locI (t := t3) (by kernel_rfl) (by rfl)) (pe_place (pe_local (by kernel_rfl) (by rfl)) (.inr hx) (.inl (.head _)) hL') hz) fun v s₆ hv H₆ => ?_
    rw [take_drop_cut, ← List.drop_drop, hr] at hv
    refine k _ _ v s₆ g₁ hC u₁ hv ⟨o', ?_, H₆.gl, hx, hB⟩
    have := LR.go (pc := pc) (n := n + 1) hp hr h.2 (o' := o') (ln := ln) (by rw [show p + (n + 1) = p + 1 + n by omega]; exact hL')
    exact this

theorem end_line_spec (pc : PC) (g₀ : Heap) : PSpec pc 5 209 [.ref pc.x] g₀ pEnd (fun zz zz v => v = .none) := by
  intro A outer g ρ r s Q E u H R hA hS k kE
  have hz := pc.hz
  refine enterP (i := fi_Listing_end_line) (binds := [("self", .ref pc.x)]) (n := 4) (pEnd r = none) fn_end_line H R hA hS (fun e s' h => kE e s' h) (by rfl) (by kernel_rfl) fun L s' W H' => ?_
  show wpAny _ _ (execs (List.cons _ _) _) _ _ _
  refine ex_expr_any (la_meth0 W H' (fun zz => pe_local (by kernel_rfl) (by rfl)) (by kernel_rfl) (ld_get (by kernel_rfl) (by kernel_rfl) (by kernel_rfl)) (skip_blanks_spec pc g) (by decide) (fun zz r₁ v s₁ g₁ e u₁ hv H₁ => ?_) fun e s' q => nomatch q)
  obtain ⟨_, rfl⟩ := some_inj2 e
  have hC : pEnd r = if (skipB r).take 1 = [10] then some ((), (skipB r).drop 1) else none := rfl
  generalize hr2 : skipB r = r₂ at *
  obtain ⟨o, ⟨p, ln, hp, hr, hL⟩, H₂, hx, hB⟩ := H₁
  refine ex_if H₂ (d := !(decide (r₂.take 1 = [10]))) (pt_ne_str ((pe_slice_ss (a := p) (b := p + 1) (pe_text (pe_local (by kernel_rfl) (by rfl)) (.inr hx) (.inl (.head _)) hL) (pe_place (pe_local (by kernel_rfl) (by rfl)) (.inr hx) (.inl (.head _)) hL) (pe_add_int (a := (p : Int)) (b := 1) (pe_place (pe_local (by kernel_rfl) (by rfl)) (.inr hx) (.inl (.head _)) hL) pe_int) hz).convT (by rw [take_drop_cut, hr])) (pe_strc.convT (by kernel_rfl))) ?_ ?_
  · intro h s₃ H₄
    simp only [Bool.not_eq_true', decide_eq_false_iff_not] at h
    rw [if_neg h] at hC
    have H₅ : La pc _ _ ρ g₁ _ r₂ s₃ := ⟨o, ⟨p, ln, hp, hr, hL⟩, H₄, hx, hB⟩
    exact ex_expr_any (la_meth W H₅ (fun zz => pe_local (by kernel_rfl) (by rfl)) (fun mu => pa_one pe_strc) (by kernel_rfl) (by kernel_rfl) (ld_get (by kernel_rfl) (by kernel_rfl) (by kernel_rfl)) (fun vs ⟨v, e, _⟩ => by subst e; exact refuse_spec pc g₁ v) (by decide) (fun zz zz zz zz zz e => (by cases e)) fun e s' zz f => ⟨hC, f⟩)
  · intro h s₄ H₄
    simp only [Bool.not_eq_false', decide_eq_true_eq] at h
    rw [if_pos h] at hC
    refine ex_set_place H₄ hx hL (pe_local (by kernel_rfl) (by rfl)) (p' := p + 1) (pe_add_int (a := (p : Int)) (b := 1) (pe_place (pe_local (by kernel_rfl) (by rfl)) (.inr hx) (.inl (.head _)) hL) pe_int) fun o' s₅ hL' H₅ => ?_
    refine ex_set_line H₅ hx hL' (pe_local (by kernel_rfl) (by rfl)) (p' := ln + 1) (pe_add_int (a := (ln : Int)) (b := 1) (pe_line (pe_local (by kernel_rfl) (by rfl)) (.inr hx) (.inl (.head _)) hL') pe_int) fun o'' s₆ hL'' H₆ => ?_
    refine ex_nil (k () _ _ s₆ g₁ hC u₁ rfl ⟨o'', LR.go (n := 1) hp hr ?_ hL'', H₆.gl, hx, hB⟩)
    cases r₂ with
    | nil => (first | subst h | cases h)
    | cons => simp
end Mine
end
section
open PySem PySem.W PyProof.Rows PySem.Calls PySem.Builtin PySem.Builtin.Str PySem.NumText
namespace Mine
set_option maxRecDepth 100000

theorem fn_read_registers (P : Params) : FnOK P fi_read_registers := ⟨by kernel_rfl, by kernel_rfl, by kernel_rfl⟩
theorem fn_read_rows (P : Params) : FnOK P fi_read_rows := ⟨by kernel_rfl, by kernel_rfl, by kernel_rfl⟩

section
variable {pc : PC} {A : Around} {env : Env} {ρ : List (Addr × Obj)} {outer : List Env} {n : Nat} {g : Heap} {m : Str → Option Value} {r : List Nat} {s : Shared} {Q : Flow → Shared → Prop} {E : Value → Shared → Prop} {pos : Pos} {rest : List Stmt}
theorem Li.drop {p : Addr × Obj} (H : Li pc g (p :: ρ) r s) : Li pc g ρ r s := by
  obtain ⟨o, a, b, c, d⟩ := H
  exact ⟨o, a, (b.perm (.swap ..)).drop, c, d⟩
theorem Wk.more {p : Addr × Obj} (W : Wk pc A env ρ outer n) : Wk pc A env (p :: ρ) outer n := ⟨W.rm, W.fr, W.frame, W.kind, W.stk.mono fun q h => .tail _ h⟩
theorem la_assign_nil {x : Str} {p lp : Pos} (H : La pc A env ρ g m r s) (hl : stOK env x = true)
    (k : ∀ D s', La pc A env ((D, lstO [] 0) :: ρ) g (put m x (.ref D)) r s' → wpAny pc.G.M A (execs rest env) Q E s') (hs : swapsWith (.List [] lp) (some (.Name x p)) pos.line env = pure false := by rfl) :
    wpAny pc.G.M A (execs (.Assign [.Name x p] (.List [] lp) pos :: rest) env) Q E s := by
  obtain ⟨o, a, b, c, d⟩ := H
  refine ex_assign_any (ev_nil_list b fun D s₁ H₁ => ?_) hs
  have H₂ : La pc A env ((D, lstO [] 0) :: ρ) g m r s₁ := ⟨o, a, H₁.perm (.swap ..), c, d⟩
  exact H₂.put_ hl fun s₂ H₃ => k D s₂ H₃
theorem la_noted (W : Wk pc A env ρ outer n) (C : Prop) : ∀ e s', (C ∧ FH pc.X env outer e s') → notedBy pc.G.M A env (fun e s' => cameBackBy pc.G.M A env (fun e s'' => C ∧ FH pc.X env outer e s'') e s') e s' := fun e s' h =>
  fh_noted W.fr W.frame h.2 fun s'' q => ⟨h.1, q⟩
theorem la_append {D : Addr} {vs : List Value} {k₀ : Nat} {x : Str} {np apos : Pos} {e : PySem.Expr} {Q : Value → Shared → Prop} (H : La pc A env ((D, lstO vs k₀) :: ρ) g m r s) (hs : ∀ mu, PE ⟨pc.G, A, env, g, m, mu⟩ (.Name x np) (VE (.ref D))) {pl : Sem Bool}
    (he : ∀ s', La pc A env ((D, lstO vs k₀) :: ρ) g m r s' → wpAny pc.G.M A (eval e env) (fun v s₁ => Ex3 fun g' m' r' => An3 (vs.length ≤ 16777215) (La pc A env ((D, lstO vs k₀) :: ρ) g' m' r' s₁) (∀ s₂, La pc A env ((D, lstO (vs ++ [v]) (k₀ + 1)) :: ρ) g' m' r' s₂ → Q .none s₂)) E s')
    (hst : starEach [e] env = (false, eval e env) :: starEach [] env := by rfl)
    (hev : eval (.Call (.Attribute (.Name x np) "append" apos) [e] [] pos) env = (do
      let ov ← eval (.Name x np) env
      standAt apos.atName
      let (f, first) ← holding [ov] (getMethod ov "append" pl)
      callWith pos f first (backTo pos (starEach [e] env)) (backToKw pos (keywordEach [] env))) := by rfl) :
    wpAny pc.G.M A (eval (.Call (.Attribute (.Name x np) "append" apos) [e] [] pos) env) Q E s := by
  obtain ⟨o, a, b, c, d⟩ := H
  refine ev_append (pl := pl) b (hs _) (.tail _ (.head _)) rfl rfl (fun s' h' => wpAny_mono (he s' ⟨o, a, h', c, d⟩) (fun v s₁ h₁ => ?_) fun zz zz x => x) hst hev
  obtain ⟨g', m', r', hz, ⟨o', a', b', c', d'⟩, kk⟩ := h₁
  exact ⟨g', m', (pc.dx, o') :: ρ, vs, k₀, hz, b'.perm (.swap ..), fun s₂ h₂ => kk s₂ ⟨o', a', h₂.perm (.swap ..), c', d'⟩⟩
end

noncomputable def pRegsLoop : Nat → List Nat → List Nat → Option (List Nat × List Nat)
  | 0, _, _ => none
  | k + 1, acc, r => if wordAt (skipB r) = [41] then some (acc, (skipB r).drop 1) else (pLet 114 (skipB r)).bind fun nr => pRegsLoop k (acc ++ [nr.1]) nr.2
noncomputable def pRegs (r : List Nat) : Option (List Nat × List Nat) := (pNeed [40] r).bind fun ur => pRegsLoop (ur.2.length + 1) [] ur.2
noncomputable def regsD (ns : List Nat) : PyData := .tuple (ns.map fun n : Nat => PyData.int (n : Int))

theorem let_len {c n : Nat} {r r' : List Nat} (h : pLet c r = some (n, r')) : r'.length < r.length := by
  unfold pLet at h
  obtain ⟨wr, hw, h⟩ := obs h
  split at h
  · obtain ⟨_, rfl⟩ := some_inj2 h
    have := word_len (w := wr.1) (r' := wr.2) hw
    have h0 : 0 < wr.1.length := List.length_pos_iff.mpr this.2
    omega
  · (first | subst h | cases h)

theorem read_registers_spec (pc : PC) (g₀ : Heap) : PSpec pc 7 230 [.ref pc.x] g₀ pRegs (fun g ns v => RD g (regsD ns) v) := by
  intro A outer g ρ r s Q E u H R hA hS k kE
  have hz := pc.hz
  refine enterP (i := fi_read_registers) (binds := [("listing", .ref pc.x)]) (n := 6) (pRegs r = none) fn_read_registers H R hA hS (fun e s' h => kE e s' h) (by rfl) (by kernel_rfl) fun L s' W H' => ?_
  show wpAny _ _ (execs (List.cons _ _) _) _ _ _
  refine ex_expr_any (la_meth W H' (fun zz => pe_local (by kernel_rfl) (by rfl)) (fun mu => pa_one pe_strc) (by kernel_rfl) (by kernel_rfl) (ld_get (by kernel_rfl) (by kernel_rfl) (by kernel_rfl)) (fun vs ⟨v, e, hv⟩ => by subst e; exact need_spec pc g [40] v ((show cs "(" = [40] by kernel_rfl) ▸ hv)) (by decide) (fun zz r₁ v s₁ g₁ e u₁ hv H₁ => ?_) fun e s' q f => ⟨by unfold pRegs; rw [q]; rfl, f⟩)
  have hC : pRegs r = pRegsLoop (r₁.length + 1) [] r₁ := by unfold pRegs; rw [e]; rfl
  rw [hC] at k ⊢
  refine la_assign_nil H₁ (by kernel_rfl) fun D s₂ H₂ => ?_
  refine ex_while (Ei := fun e s'' => pRegsLoop (r₁.length + 1) [] r₁ = none ∧ FH pc.X (fi_read_registers.env L) outer e s'') (la_noted W _)
    (fun n s'' => Ex5 fun acc vs k₀ r₂ g₂ => An6 (La pc (A.deeper (fi_read_registers.env L)) (fi_read_registers.env L) ((D, lstO vs k₀) :: ρ) g₂ (put (loc [("listing", Value.ref pc.x)]) "found" (.ref D)) r₂ s'') (Up g₁ g₂) (RDs g₂ (acc.map fun n : Nat => PyData.int (n : Int)) vs) (pRegsLoop n acc r₂ = pRegsLoop (r₁.length + 1) [] r₁) (r₂.length < n) (vs.length + r₂.length ≤ pc.l.length)) ?_ (r₁.length + 1) ⟨[], [], 0, r₁, g₁, H₂, Up.rfl, RDs.nil, rfl, by omega, by have := H₂.len; simpa using this⟩
  rintro n s₃ ⟨acc, vs, k₀, r₂, g₂, H₃, u₂, hr, hloop, hn, hsz⟩
  obtain ⟨n, rfl⟩ : ∃ j, n = j + 1 := ⟨n - 1, by omega⟩
  refine isTrue_not (isTrue_plain (la_meth W.more H₃ (fun zz => pe_local (by kernel_rfl) (by rfl)) (fun mu => pa_one pe_strc) (by kernel_rfl) (by kernel_rfl) (ld_get (by kernel_rfl) (by kernel_rfl) (by kernel_rfl)) (fun vs ⟨v, e, hv⟩ => by subst e; exact takes_spec pc g₂ [41] v ((show cs ")" = [41] by kernel_rfl) ▸ hv) (by simp)) (by decide) (fun b r₃ v s₄ g₃ e u₃ hv H₄ => ?_) fun e s' q f => (by unfold pTakes at q; (first | subst q | cases q))))
  subst hv
  refine wpAny_truthy_bool ?_
  unfold pTakes at e
  rw [pRegsLoop] at hloop
  have hs2 := skip_len r₂
  by_cases h : wordAt (skipB r₂) = [41]
  · rw [if_pos h] at e hloop
    obtain ⟨rfl, rfl⟩ := some_inj2 e
    simp only [Bool.not_true, Bool.false_eq_true, if_false]
    obtain ⟨o, a, H₅, c, d⟩ := H₄
    refine ex_ret_any (ev_tuple_of H₅ (pe_local (by kernel_rfl) (by rfl)) (.tail _ (.head _)) (by omega) fun T g₄ s₅ u₄ hT H₆ => ?_)
    refine k acc _ _ s₅ g₄ hloop.symm (((u₁.trans u₂).trans u₃).trans u₄) (RD.tuple hT ((hr.up u₃).up u₄)) (Li.drop (p := (D, lstO vs k₀)) ⟨o, a, H₆.gl, u₄ _ _ c, fun b o e => u₄ _ _ (d _ _ e)⟩)
  · rw [if_neg h] at e hloop
    obtain ⟨rfl, rfl⟩ := some_inj2 e
    simp only [Bool.not_false, if_true]
    refine ex_expr_any (la_append H₄ (fun zz => pe_local (by kernel_rfl) (by rfl)) fun s₅ H₅ => la_meth W.more H₅ (fun zz => pe_local (by kernel_rfl) (by rfl)) (fun mu => pa_one pe_strc) (by kernel_rfl) (by kernel_rfl) (ld_get (by kernel_rfl) (by kernel_rfl) (by kernel_rfl)) (fun vs ⟨v, e, hv⟩ => by subst e; exact lettered_spec pc g₃ 114 v ((show cs "r" = [114] by kernel_rfl) ▸ hv)) (by decide) (fun i r₄ v s₆ g₄ e u₄ hv H₆ => ?_) fun e s' q f => ⟨by rw [q] at hloop; rw [← hloop]; rfl, f⟩)
    rw [e] at hloop
    have hl := let_len e
    refine ⟨g₄, _, r₄, by omega, H₆, fun s₇ H₇ => ex_nil ⟨n, by omega, acc ++ [i], vs ++ [v], k₀ + 1, r₄, g₄, H₇, (u₂.trans u₃).trans u₄, ?_, hloop, by omega, by simp; omega⟩⟩
    rw [List.map_append]
    exact (((hr.up u₃).up u₄).snoc (RD.ofI hv))
end Mine
end
section
open PySem PySem.W PyProof.Rows PySem.Calls PySem.Builtin PySem.Builtin.Str PySem.NumText
namespace Mine
set_option maxRecDepth 100000

theorem fn_read_operand (P : Params) : FnOK P fi_read_operand := ⟨by kernel_rfl, by kernel_rfl, by kernel_rfl⟩
theorem fn_read_instruction (P : Params) : FnOK P fi_read_instruction := ⟨by kernel_rfl, by kernel_rfl, by kernel_rfl⟩
theorem fn_read_label (P : Params) : FnOK P fi_read_label := ⟨by kernel_rfl, by kernel_rfl, by kernel_rfl⟩

noncomputable abbrev Row := Nat × Nat × List Nat
noncomputable def rowD (e : Row) : PyData := .tuple [.int (e.1 : Int), .int (e.2.1 : Int), regsD e.2.2]
noncomputable def rowsD (rs : List Row) : PyData := .tuple (rs.map rowD)
noncomputable def pRowsLoop : Nat → List Row → List Nat → Option (List Row × List Nat)
  | 0, _, _ => none
  | k + 1, acc, r => if wordAt (skipB r) = [] then some (acc, skipB r) else
    (pLet 114 (skipB r)).bind fun a => (pLet 112 a.2).bind fun b => (pRegs b.2).bind fun l => pRowsLoop k (acc ++ [(a.1, b.1, l.1)]) l.2
noncomputable def pRows (r : List Nat) : Option (List Row × List Nat) := pRowsLoop (r.length + 1) [] r

theorem need_len {x r r' : List Nat} {u : Unit} (h : pNeed x r = some (u, r')) : r'.length < r.length := by
  unfold pNeed at h
  obtain ⟨wr, hw, h⟩ := obs h
  split at h
  · obtain ⟨_, rfl⟩ := some_inj2 h
    have := word_len (w := wr.1) (r' := wr.2) hw
    have h0 : 0 < wr.1.length := List.length_pos_iff.mpr this.2
    omega
  · cases h
theorem regsLoop_len : ∀ {k : Nat} {acc l r r' : List Nat}, pRegsLoop k acc r = some (l, r') → r'.length ≤ r.length
  | 0, _, _, _, _, h => by cases h
  | k + 1, acc, l, r, r', h => by
    rw [pRegsLoop] at h
    have := skip_len r
    split at h
    · obtain ⟨_, rfl⟩ := some_inj2 h
      rw [List.length_drop]; omega
    · cases hl : pLet 114 (skipB r) with
      | none => rw [hl] at h; cases h
      | some nr =>
        rw [hl] at h
        have h1 := let_len (n := nr.1) (r' := nr.2) hl
        have h2 := regsLoop_len (k := k) (by simpa using h)
        omega
theorem regs_len {l r r' : List Nat} (h : pRegs r = some (l, r')) : r'.length < r.length := by
  unfold pRegs at h
  obtain ⟨ur, hn, h⟩ := obs h
  have h1 := need_len (u := ur.1) (r' := ur.2) hn
  have h2 := regsLoop_len (by simpa using h)
  omega

theorem read_rows_spec (pc : PC) (g₀ : Heap) : PSpec pc 8 237 [.ref pc.x] g₀ pRows (fun g rs v => RD g (rowsD rs) v) := by
  intro A outer g ρ r s Q E u H R hA hS k kE
  have hz := pc.hz
  refine enterP (i := fi_read_rows) (binds := [("listing", .ref pc.x)]) (n := 7) (pRows r = none) fn_read_rows H R hA hS (fun e s' h => kE e s' h) (by rfl) (by kernel_rfl) fun L s' W H' => ?_
  show wpAny _ _ (execs (List.cons _ _) _) _ _ _
  refine la_assign_nil H' (by kernel_rfl) fun D s₂ H₂ => ?_
  refine ex_while (Ei := fun e s'' => pRows r = none ∧ FH pc.X (fi_read_rows.env L) outer e s'') (la_noted W _)
    (fun n s'' => Ex6 fun acc vs k₀ r₂ g₂ m => An8 (La pc (A.deeper (fi_read_rows.env L)) (fi_read_rows.env L) ((D, lstO vs k₀) :: ρ) g₂ m r₂ s'') (Up g g₂) (m (Str.ofString "listing") = some (.ref pc.x)) (m (Str.ofString "found") = some (.ref D)) (RDs g₂ (acc.map rowD) vs) (pRowsLoop n acc r₂ = pRows r) (r₂.length < n) (vs.length + r₂.length ≤ pc.l.length)) ?_ (r.length + 1) ⟨[], [], 0, r, g, _, H₂, Up.rfl, by rfl, by rfl, RDs.nil, rfl, by omega, by have := H₂.len; simpa using this⟩
  rintro n s₃ ⟨acc, vs, k₀, r₂, g₂, m, H₃, u₂, m1, m2, hr, hloop, hn, hsz⟩
  obtain ⟨n, rfl⟩ : ∃ j, n = j + 1 := ⟨n - 1, by omega⟩
  rw [pRowsLoop] at hloop
  have hs2 := skip_len r₂
  refine wpAny_isTrue_Compare1 (la_meth0 W.more H₃ (fun zz => (pe_local (by kernel_rfl) (by exact m1))) (by kernel_rfl) (ld_get (by kernel_rfl) (by kernel_rfl) (by kernel_rfl)) (peek_spec pc g₂) (by decide) (fun w r₃ v s₄ g₃ e u₃ hv H₄ => ?_) fun e s' q f => nomatch q)
  obtain ⟨rfl, rfl⟩ := some_inj2 e
  refine la_pe H₄ (fun mu => pe_strc) fun v' s₅ hv' H₅ => ?_
  obtain ⟨t, rfl⟩ := hv
  obtain ⟨t', rfl⟩ := hv'
  refine ne_str (wpAny_truthy_bool ?_)
  rw [ne_S, cs_nil]
  by_cases h : wordAt (skipB r₂) = []
  · rw [if_pos h] at hloop
    simp only [h, decide_true, Bool.not_true, Bool.false_eq_true, if_false]
    obtain ⟨o, a, H₆, c, d⟩ := H₅
    refine ex_ret_any (ev_tuple_of H₆ (pe_local (by kernel_rfl) (by exact m2)) (.tail _ (.head _)) (by omega) fun T g₄ s₅ u₄ hT H₆ => ?_)
    refine k acc _ _ s₅ g₄ hloop.symm ((u₂.trans u₃).trans u₄) (RD.tuple hT ((hr.up u₃).up u₄)) (Li.drop (p := (D, lstO vs k₀)) ⟨o, a, H₆.gl, u₄ _ _ c, fun b o e => u₄ _ _ (d _ _ e)⟩)
  · rw [if_neg h] at hloop
    simp only [h, decide_false, Bool.not_false, if_true]
    refine ex_assign_any (la_meth W.more H₅ (fun zz => (pe_local (by kernel_rfl) (by exact m1))) (fun mu => pa_one pe_strc) (by kernel_rfl) (by kernel_rfl) (ld_get (by kernel_rfl) (by kernel_rfl) (by kernel_rfl)) (fun vs ⟨v, e, hv⟩ => by subst e; exact lettered_spec pc g₃ 114 v ((show cs "r" = [114] by kernel_rfl) ▸ hv)) (by decide) (fun i r₄ v s₆ g₄ e₁ u₄ hv₁ H₆ => ?_) fun e s' q f => ⟨by rw [q] at hloop; exact hloop.symm, f⟩)
    rw [e₁] at hloop
    dsimp only [Option.bind] at hloop
    refine H₆.put_ (by kernel_rfl) fun s₇ H₇ => ?_
    refine ex_assign_any (la_meth W.more H₇ (fun zz => (pe_local (by kernel_rfl) (by exact m1))) (fun mu => pa_one pe_strc) (by kernel_rfl) (by kernel_rfl) (ld_get (by kernel_rfl) (by kernel_rfl) (by kernel_rfl)) (fun vs ⟨v, e, hv⟩ => by subst e; exact lettered_spec pc g₄ 112 v ((show cs "p" = [112] by kernel_rfl) ▸ hv)) (by decide) (fun j r₅ v₂ s₆ g₅ e₂ u₅ hv₂ H₈ => ?_) fun e s' q f => ⟨by rw [q] at hloop; exact hloop.symm, f⟩)
    rw [e₂] at hloop
    dsimp only [Option.bind] at hloop
    refine H₈.put_ (by kernel_rfl) fun s₇ H₉ => ?_
    refine ex_expr_any (la_append H₉ (fun zz => (pe_local (by kernel_rfl) (by exact m2))) fun s₅ H₁₀ => ?_)
    refine Tuple_ (sp_cons (la_pe H₁₀ (fun mu => (pe_local (by kernel_rfl) (by rfl))) fun w₁ s₈ q₁ H₁₁ => ?_))
    refine sp_cons (la_pe H₁₁ (fun mu => (pe_local (by kernel_rfl) (by rfl))) fun w₂ s₉ q₂ H₁₂ => ?_)
    refine sp_cons (la_def (P := P1 (VE (.ref pc.x))) W.more H₁₂ (fun zz => pe_glob (by kernel_rfl) rfl (by kernel_rfl)) (by kernel_rfl) (fun mu => pa_one (pe_local (by kernel_rfl) (by exact m1))) (fun vs ⟨v, e, hv⟩ => by subst e; cases hv; exact read_registers_spec pc g₅) (by decide) (fun l r₆ v₃ s₁₀ g₆ e₃ u₆ hv₃ H₁₃ => sp_nil ?_) fun e s' q f => ⟨by rw [q] at hloop; exact hloop.symm, f⟩)
    rw [e₃] at hloop
    dsimp only [Option.bind] at hloop
    cases q₁; cases q₂
    obtain ⟨o, a, H₁₄, c, d⟩ := H₁₃
    refine at_tuple H₁₄ (by simp) fun T g₇ s₁₁ u₇ hT H₁₅ => ?_
    have hl := let_len e₁
    have hl2 := let_len e₂
    have hl3 := regs_len e₃
    refine ⟨g₇, _, r₆, by omega, ⟨o, a, H₁₅, u₇ _ _ c, fun b o e => u₇ _ _ (d _ _ e)⟩, fun s₇ H₇ => ex_nil ⟨n, by omega, acc ++ [(i, j, l)], vs ++ [.ref T], k₀ + 1, r₆, g₇, put (put m "register" v) "number" v₂, H₇, (((((u₂.trans u₃).trans u₄).trans u₅).trans u₆).trans u₇), (by exact m1), (by exact m2), ?_, hloop, by omega, by simp; omega⟩⟩
    rw [List.map_append]
    refine RDs.snoc (((((hr.up u₃).up u₄).up u₅).up u₆).up u₇) (RD.tuple hT ?_)
    exact RDs.cons (RD.ofI hv₁) (RDs.cons (RD.ofI hv₂) (RDs.cons (hv₃.up u₇) RDs.nil))

inductive Opd where
  | num (n : Nat)
  | regs (l : List Nat)
  | rows (rs : List Row)
noncomputable def opdD : Opd → PyData
  | .num n => .int (n : Int)
  | .regs l => regsD l
  | .rows rs => rowsD rs
noncomputable def primNames : List (List Nat) := [cs "car", cs "cons", cs "list->vector", cs "+", cs "string-append", cs "null?"]
noncomputable def primOf (w : List Nat) : Option Nat := primNames.findIdx? fun x => decide (x = w)
noncomputable def OpsAt (w : World) (g : Heap) (v : Value) : Prop := Ex2 fun d kvs => An3 (v = .ref d) (SDict w g d kvs) (∀ x, (∀ n, primOf x = some n → ∃ t, valueAt kvs (S x) = some (.int (n : Int) t)) ∧ (primOf x = none → valueAt kvs (S x) = none))
theorem OpsAt.up {w : World} {g g' : Heap} {v : Value} (h : OpsAt w g v) (u : Up g g') : OpsAt w g' v := let ⟨d, kvs, a, b, c⟩ := h; ⟨d, kvs, a, b.up u, c⟩
noncomputable def pOpd (srt : Srt) (r : List Nat) : Option (Opd × List Nat) :=
  if srt = .sources then (pRegs r).bind fun x => some (.regs x.1, x.2)
  else if srt = .rows then (pRows r).bind fun x => some (.rows x.1, x.2)
  else if srt = .prim then (pWord r).bind fun x => (primOf x.1).bind fun n => some (.num n, x.2)
  else (pLet srt.letter r).bind fun x => some (.num x.1, x.2)
noncomputable def allSrt : List Srt := [.target, .source, .const, .glob, .free, .proc, .label, .sources, .rows, .prim]
theorem allSrt_mem (a : Srt) : a ∈ allSrt := by cases a <;> decide
theorem txt_all : (allSrt.all fun a => allSrt.all fun b => decide (a.txt = b.txt) == decide (a = b)) = true := by kernel_rfl
theorem txt_eq (a b : Srt) : decide (a.txt = b.txt) = decide (a = b) := eq_of_beq (List.all_eq_true.mp (List.all_eq_true.mp txt_all a (allSrt_mem a)) b (allSrt_mem b))

theorem read_operand_spec (pc : PC) (g₀ : Heap) (srt : Srt) (v vo : Value) (hv : VT srt.txt v) (ho : OpsAt pc.G.w g₀ vo) : PSpec pc 9 244 [.ref pc.x, v, vo] g₀ (pOpd srt) (fun g o v => RD g (opdD o) v) := by
  intro A outer g ρ r s Q E u H R hA hS k kE
  obtain ⟨tk, rfl⟩ := hv
  refine enterP (i := fi_read_operand) (binds := [("listing", .ref pc.x), ("sort", .str (S srt.txt) tk), ("ops", vo)]) (n := 8) (pOpd srt r = none) fn_read_operand H R hA hS (fun e s' h => kE e s' h) (by rfl) (by kernel_rfl) fun L s' W H' => ?_
  show wpAny _ _ (execs (List.cons _ _) _) _ _ _
  have hs : ∀ mu pos, PE ⟨pc.G, A.deeper (fi_read_operand.env L), fi_read_operand.env L, g, loc [("listing", .ref pc.x), ("sort", .str (S srt.txt) tk), ("ops", vo)], mu⟩ (.Name "sort" pos) (VT srt.txt) := fun mu pos => pe_locT (t := tk) (by kernel_rfl) (by rfl)
  have hO : pOpd srt r = if srt = .sources then (pRegs r).bind fun x => some (.regs x.1, x.2) else if srt = .rows then (pRows r).bind fun x => some (.rows x.1, x.2) else if srt = .prim then (pWord r).bind fun x => (primOf x.1).bind fun n => some (.num n, x.2) else (pLet srt.letter r).bind fun x => some (.num x.1, x.2) := rfl
  refine la_if H' (d := decide (srt = .sources)) (fun mu => PT.congr (pt_eq_str (hs mu _) (pe_strc (x := "sources"))) (txt_eq srt .sources)) ?_ ?_
  · intro h s₁ H₁
    simp only [decide_eq_true_eq] at h
    rw [if_pos h] at hO
    refine ex_ret_any (la_def (P := P1 (VE (.ref pc.x))) W H₁ (fun zz => pe_glob (by kernel_rfl) rfl (by kernel_rfl)) (by kernel_rfl) (fun mu => pa_one (pe_local (by kernel_rfl) (by rfl))) (fun vs ⟨v, e, hv⟩ => by subst e; cases hv; exact read_registers_spec pc g) (by decide) (fun l r₁ v s₂ g₁ e u₁ hv H₂ => ?_) fun e s' q f => ⟨by rw [hO, q]; rfl, f⟩)
    exact k (.regs l) r₁ v s₂ g₁ (by rw [hO, e]; rfl) u₁ hv H₂.li
  intro h s₁ H₁
  simp only [decide_eq_false_iff_not] at h
  rw [if_neg h] at hO
  refine la_if H₁ (d := decide (srt = .rows)) (fun mu => PT.congr (pt_eq_str (hs mu _) (pe_strc (x := "rows"))) (txt_eq srt .rows)) ?_ ?_
  · intro h s₁ H₁
    simp only [decide_eq_true_eq] at h
    rw [if_pos h] at hO
    refine ex_ret_any (la_def (P := P1 (VE (.ref pc.x))) W H₁ (fun zz => pe_glob (by kernel_rfl) rfl (by kernel_rfl)) (by kernel_rfl) (fun mu => pa_one (pe_local (by kernel_rfl) (by rfl))) (fun vs ⟨v, e, hv⟩ => by subst e; cases hv; exact read_rows_spec pc g) (by decide) (fun l r₁ v s₂ g₁ e u₁ hv H₂ => ?_) fun e s' q f => ⟨by rw [hO, q]; rfl, f⟩)
    exact k (.rows l) r₁ v s₂ g₁ (by rw [hO, e]; rfl) u₁ hv H₂.li
  intro h2 s₂ H₂
  simp only [decide_eq_false_iff_not] at h2
  rw [if_neg h2] at hO
  refine la_if H₂ (d := decide (srt = .prim)) (fun mu => PT.congr (pt_eq_str (hs mu _) (pe_strc (x := "primitive"))) (txt_eq srt .prim)) ?_ ?_
  · intro h s₁ H₁
    simp only [decide_eq_true_eq] at h
    rw [if_pos h] at hO
    obtain ⟨d, kvs, rfl, hT, hp⟩ := ho
    refine ex_assign_any (la_meth0 W H₁ (fun zz => pe_local (by kernel_rfl) (by rfl)) (by kernel_rfl) (ld_get (by kernel_rfl) (by kernel_rfl) (by kernel_rfl)) (word_spec pc g) (by decide) (fun w r₁ v s₁ g₁ e u₁ hv H₁ => ?_) fun e s' q f => ⟨by rw [hO, q]; rfl, f⟩)
    rw [e] at hO
    dsimp only [Option.bind] at hO
    obtain ⟨t, rfl⟩ := hv
    have T : ∀ mu s, At ⟨pc.G, A.deeper (fi_read_operand.env L), fi_read_operand.env L, g₁, put (loc [("listing", .ref pc.x), ("sort", .str (S srt.txt) tk), ("ops", .ref d)]) "name" (.str (S w) t), mu⟩ s → SDict pc.G.w s.heap d kvs := fun mu s H => (hT.up (u.trans u₁)).up H.up
    refine H₁.put_ (by kernel_rfl) fun s₂ H₂ => ?_
    refine la_if H₂ (d := !(valueAt kvs (S w)).isSome) (fun mu => pt_notin_dict (pe_locT (t := t) (by kernel_rfl) (by rfl)) (pe_local (by kernel_rfl) (by rfl)) (T mu)) ?_ ?_
    · intro hn s₃ H₃
      refine ex_expr_any (la_meth W H₃ (fun zz => pe_local (by kernel_rfl) (by rfl)) (fun mu => pa_one pe_strc) (by kernel_rfl) (by kernel_rfl) (ld_get (by kernel_rfl) (by kernel_rfl) (by kernel_rfl)) (fun vs ⟨v, e, _⟩ => by subst e; exact refuse_spec pc g₁ v) (by decide) (fun zz zz zz zz zz e => (by cases e)) fun e s' zz f => ⟨?_, f⟩)
      cases hp' : primOf w with
      | none => rw [hO, hp']
      | some n =>
        obtain ⟨t', e'⟩ := (hp w).1 n hp'
        rw [e'] at hn; cases hn
    · intro hn s₃ H₃
      cases hp' : primOf w with
      | none => rw [(hp w).2 hp'] at hn; cases hn
      | some n =>
        obtain ⟨t', e'⟩ := (hp w).1 n hp'
        refine la_ret H₃ (fun mu => pe_item_dict (pe_local (by kernel_rfl) (by rfl)) (pe_locT (t := t) (by kernel_rfl) (by rfl)) (T mu) e') fun v s₄ hv H₄ => ?_
        cases hv
        exact k (.num n) r₁ _ s₄ g₁ (by rw [hO, hp']) u₁ (RD.int _ _) H₄.li
  · intro h3 s₃ H₃
    simp only [decide_eq_false_iff_not] at h3
    rw [if_neg h3] at hO
    have hpl : srt.plain = true := by cases srt <;> first | rfl | exact absurd rfl h | exact absurd rfl h2 | exact absurd rfl h3
    obtain ⟨t, et⟩ := let_at srt hpl
    refine ex_ret_any (la_meth W H₃ (fun zz => pe_local (by kernel_rfl) (by rfl)) (P := P1 (VT [srt.letter])) (fun mu => pa_one ((pe_item_dict (pe_glob (by kernel_rfl) rfl (by kernel_rfl)) (hs mu _) (fun s H => let_dict H) et).mono fun v hv => by cases hv; exact ⟨t, rfl⟩)) (by kernel_rfl) (by kernel_rfl) (ld_get (by kernel_rfl) (by kernel_rfl) (by kernel_rfl)) (fun vs ⟨v, e, hv⟩ => by subst e; exact lettered_spec pc g srt.letter v hv) (by decide) (fun i r₄ v s₆ g₄ e u₄ hv H₆ => ?_) fun e s' q f => ⟨by rw [hO, q]; rfl, f⟩)
    exact k (.num i) r₄ v s₆ g₄ (by rw [hO, e]; rfl) u₄ (RD.ofI hv) H₆.li
end Mine
end
section
open PySem PySem.W PyProof.Rows PySem.Calls PySem.Builtin PySem.Builtin.Str PySem.NumText
namespace Mine
set_option maxRecDepth 100000

theorem sub_slice_ns {G : Gh} {A : Around} {env : Env} {s : Shared} {Q : Value → Shared → Prop} {E : Value → Shared → Prop} {o j : PySem.Expr} {p pos : Pos}
    (h : wpAny G.M A (eval o env) (fun v s₁ => Ex5 fun g m mu l b => An5 (l.length ≤ 16777216) (VT l v) (At ⟨G, A, env, g, m, mu⟩ s₁) (PE ⟨G, A, env, g, m, mu⟩ j (VI ((b : Nat) : Int))) (∀ v' s', VT (l.take b) v' → At ⟨G, A, env, g, m, mu⟩ s' → Q v' s')) E s) :
    wpAny G.M A (eval (.Subscript o (.Slice none (some j) none p) pos) env) Q E s := by
  refine sub_on (c := ⟨G, A, env, G.H, fun zz => none, []⟩) (wpAny_mono h (fun v s₁ h₁ => ?_) fun zz zz x => x)
  obtain ⟨g, m, mu, l, b, hz, ⟨t, rfl⟩, H₁, hj, k⟩ := h₁
  refine wpAny_Slice (evalPart_none_step (evalPart_some_step (hj s₁ _ _ H₁ fun u' s₃ ⟨t'', e''⟩ H₃ => evalPart_none_step ?_)))
  subst e''
  refine SBH.sliceItem_ns (keptAt ⟨G, A, env, g, m, mu⟩ s₃) (show AtH _ s₃ s₃.heap from H₃) (fun h' t' k' H' => ?_) (by rw [S_len, sizeLine_eq]; omega)
  rw [slice_ns _ _ (by omega)]
  exact k _ _ ⟨_, rfl⟩ (At.of H' k')

noncomputable def pLabel (place : Nat) (r : List Nat) : Option (Bool × List Nat) :=
  if (wordAt (skipB r)).take 1 = [76] then (pLet 76 (skipB r)).bind fun nr => if nr.1 = place then some (true, nr.2) else none else some (false, skipB r)

theorem read_label_spec (pc : PC) (g₀ : Heap) (place : Nat) (v : Value) (hv : VI (place : Int) v) : PSpec pc 7 258 [.ref pc.x, v] g₀ (pLabel place) (fun zz b v => v = .bool b) := by
  intro A outer g ρ r s Q E u H R hA hS k kE
  obtain ⟨tk, rfl⟩ := hv
  refine enterP (i := fi_read_label) (binds := [("listing", .ref pc.x), ("place", .int (place : Int) tk)]) (n := 6) (pLabel place r = none) fn_read_label H R hA hS (fun e s' h => kE e s' h) (by rfl) (by kernel_rfl) fun L s' W H' => ?_
  show wpAny _ _ (execs (List.cons _ _) _) _ _ _
  have hO : pLabel place r = if (wordAt (skipB r)).take 1 = [76] then (pLet 76 (skipB r)).bind fun nr => if nr.1 = place then some (true, nr.2) else none else some (false, skipB r) := rfl
  have hz := H'.len
  have hz2 := pc.hz
  have hw := wordAt_le (skipB r)
  have hs := skip_len r
  refine ex_if_any (wpAny_isTrue_Compare1 (sub_slice_ns (la_meth0 W H' (fun zz => pe_local (by kernel_rfl) (by rfl)) (by kernel_rfl) (ld_get (by kernel_rfl) (by kernel_rfl) (by kernel_rfl)) (peek_spec pc g) (by decide) (fun w r₁ v s₁ g₁ e u₁ hv H₁ => ?_) fun e s' q f => nomatch q)))
  obtain ⟨rfl, rfl⟩ := some_inj2 e
  obtain ⟨o, a, b, c, d⟩ := H₁
  refine ⟨g₁, _, _, _, 1, by omega, hv, b, pe_int, fun v₂ s₂ hv₂ H₂ => ?_⟩
  refine pe_strc s₂ _ _ H₂ fun v₃ s₃ hv₃ H₃ => ?_
  obtain ⟨t₂, rfl⟩ := hv₂
  obtain ⟨t₃, rfl⟩ := hv₃
  refine ne_str (wpAny_truthy_bool ?_)
  rw [ne_S, show cs "L" = [76] by kernel_rfl]
  have H₄ : La pc _ _ ρ g₁ _ (skipB r) s₃ := ⟨o, a, H₃, c, d⟩
  by_cases h : (wordAt (skipB r)).take 1 = [76]
  · rw [if_pos h] at hO
    simp only [h, decide_true, Bool.not_true, Bool.false_eq_true, if_false]
    refine ex_nil (ex_if_any (wpAny_isTrue_Compare1 (la_meth W H₄ (fun zz => pe_local (by kernel_rfl) (by rfl)) (P := P1 (VT [76])) (fun mu => pa_one (pe_strc.convT (by kernel_rfl))) (by kernel_rfl) (by kernel_rfl) (ld_get (by kernel_rfl) (by kernel_rfl) (by kernel_rfl)) (fun vs ⟨v, e, hv⟩ => by subst e; exact lettered_spec pc g₁ 76 v hv) (by decide) (fun n r₂ v s₄ g₂ e u₂ hv H₅ => ?_) fun e s' q f => ⟨by rw [hO, q]; rfl, f⟩)))
    rw [e] at hO
    dsimp only [Option.bind] at hO
    obtain ⟨t₄, rfl⟩ := hv
    refine la_pe H₅ (fun mu => pe_locI (i := (place : Int)) (t := tk) (by kernel_rfl) (by rfl)) fun v₅ s₅ hv₅ H₆ => ?_
    obtain ⟨t₅, rfl⟩ := hv₅
    refine ne_int (wpAny_truthy_bool ?_)
    by_cases hn : n = place
    · rw [if_pos hn] at hO
      subst hn
      rw [show ((n : Int) != (n : Int)) = false by simp]
      simp only [Bool.false_eq_true, if_false]
      refine ex_nil (la_ret H₆ (fun mu => pe_bool) fun v s₆ hv H₇ => ?_)
      cases hv
      exact k true r₂ _ s₆ g₂ hO (u₁.trans u₂) rfl H₇.li
    · rw [if_neg hn] at hO
      rw [show ((n : Int) != (place : Int)) = true by simp; omega]
      simp only [if_true]
      exact ex_expr_any (la_meth W H₆ (fun zz => pe_local (by kernel_rfl) (by rfl)) (fun mu => pa_one pe_strc) (by kernel_rfl) (by kernel_rfl) (ld_get (by kernel_rfl) (by kernel_rfl) (by kernel_rfl)) (fun vs ⟨v, e, _⟩ => by subst e; exact refuse_spec pc g₂ v) (by decide) (fun zz zz zz zz zz e => (by cases e)) fun e s' zz f => ⟨hO, f⟩)
  · rw [if_neg h] at hO
    simp only [h, decide_false, Bool.not_false, if_true]
    refine la_ret H₄ (fun mu => pe_bool) fun v s₆ hv H₇ => ?_
    cases hv
    exact k false _ _ s₆ g₁ hO u₁ rfl H₇.li

structure Ins where
  w : List Nat
  ops : List Opd
noncomputable def insD (i : Ins) : PyData := .tuple (.str (S i.w) :: i.ops.map opdD)
noncomputable def pOpds : List Srt → List Nat → Option (List Opd × List Nat)
  | [], r => some ([], r)
  | s :: ss, r => (pOpd s r).bind fun x => (pOpds ss x.2).bind fun y => some (x.1 :: y.1, y.2)
noncomputable def pIns (r : List Nat) : Option (Ins × List Nat) := (pWord r).bind fun wr => (sortsOf wr.1).bind fun ss => (pOpds ss wr.2).bind fun x => (pEnd x.2).bind fun y => some (⟨wr.1, x.1⟩, y.2)

theorem read_instruction_spec (pc : PC) (g₀ : Heap) (vo : Value) (ho : OpsAt pc.G.w g₀ vo) : PSpec pc 10 251 [.ref pc.x, vo] g₀ pIns (fun g i v => RD g (insD i) v) := by
  intro A outer g ρ r s Q E u H R hA hS k kE
  refine enterP (i := fi_read_instruction) (binds := [("listing", .ref pc.x), ("ops", vo)]) (n := 9) (pIns r = none) fn_read_instruction H R hA hS (fun e s' h => kE e s' h) (by rfl) (by kernel_rfl) fun L s' W H' => ?_
  show wpAny _ _ (execs (List.cons _ _) _) _ _ _
  have hO : pIns r = (pWord r).bind fun wr => (sortsOf wr.1).bind fun ss => (pOpds ss wr.2).bind fun x => (pEnd x.2).bind fun y => some (⟨wr.1, x.1⟩, y.2) := rfl
  refine ex_assign_any (la_meth0 W H' (fun zz => pe_local (by kernel_rfl) (by rfl)) (by kernel_rfl) (ld_get (by kernel_rfl) (by kernel_rfl) (by kernel_rfl)) (word_spec pc g) (by decide) (fun w r₁ v s₁ g₁ e u₁ hv H₁ => ?_) fun e s' q f => ⟨by rw [hO, q]; rfl, f⟩)
  rw [e] at hO
  dsimp only [Option.bind] at hO
  obtain ⟨t, rfl⟩ := hv
  refine H₁.put_ (by kernel_rfl) fun s₂ H₂ => ?_
  have hT : valueAt (opsTab.map fun e => (S e.1, Value.ref e.2.1)) (S w) = (opsRow w).map fun e => Value.ref e.2.1 := valueAt_map
  refine la_if H₂ (d := !((opsRow w).map fun e => Value.ref e.2.1).isSome) (fun mu => PT.congr (pt_notin_dict (pe_locT (t := t) (by kernel_rfl) (by rfl)) (pe_glob (by kernel_rfl) rfl (by kernel_rfl)) fun s H => ops_dict H) (by rw [hT])) ?_ ?_
  · intro h s₃ H₃
    have : opsRow w = none := by simpa using h
    refine ex_expr_any (la_meth W H₃ (fun zz => pe_local (by kernel_rfl) (by rfl)) (fun mu => pa_one pe_strc) (by kernel_rfl) (by kernel_rfl) (ld_get (by kernel_rfl) (by kernel_rfl) (by kernel_rfl)) (fun vs ⟨v, e, _⟩ => by subst e; exact refuse_spec pc g₁ v) (by decide) (fun zz zz zz zz zz e => (by cases e)) fun e s' zz f => ⟨?_, f⟩)
    rw [hO, sortsOf, this]; rfl
  intro h s₃ H₃
  obtain ⟨row, hrow⟩ : ∃ row, opsRow w = some row := Option.isSome_iff_exists.mp (by simpa using h)
  have hmem : row ∈ opsTab := List.mem_of_find?_eq_some hrow
  rw [sortsOf, hrow] at hO
  dsimp only [Option.map, Option.bind] at hO
  rw [hrow] at hT
  -- found = [word]
  obtain ⟨o, a, H₄, c, d⟩ := H₃
  refine ex_assign_any (ev_list H₄ (pa_one (pe_locT (l := w) (t := t) (by kernel_rfl) (by rfl))) (fun D vs s₄ hvs H₅ => ?_) (fun vs ⟨v, e, _⟩ => by subst e; simp))
  obtain ⟨v0, rfl, hv0⟩ := hvs
  have H₆ : La pc _ _ ((D, lstO [v0] 0) :: ρ) g₁ _ r₁ s₄ := ⟨o, a, H₅.perm (.swap ..), c, d⟩
  refine H₆.put_ (by kernel_rfl) fun s₅ H₇ => ?_
  obtain ⟨o, a, H₈, c, d⟩ := H₇
  refine ex_for (Ei := fun e s'' => pIns r = none ∧ FH pc.X (fi_read_instruction.env L) outer e s'') (la_noted W _) (pe_item_dict (pe_glob (by kernel_rfl) rfl (by kernel_rfl)) (pe_locT (l := w) (t := t) (by kernel_rfl) (by rfl)) (fun s H => ops_dict H) hT s₅ _ _ H₈ fun v s₆ hv H₉ => ?_)
  cases hv
  obtain ⟨vs, hvs, hlen, hget⟩ := sorts_tuple H₉ hmem
  refine ⟨g₁, _, _, vs.length, _, fun i g₂ m mu => Ex5 fun o r₂ ys ws k₀ => An10 (mu = (pc.dx, o) :: (D, lstO (v0 :: ws) k₀) :: ρ) (LR pc.l r₂ o) (g₂.get? pc.x = some (instObj 212 pc.dx)) (Up pc.X.B g₂) (m (Str.ofString "listing") = some (.ref pc.x)) (m (Str.ofString "ops") = some vo) (m (Str.ofString "found") = some (.ref D)) (RDs g₂ (ys.map opdD) ws) (ws.length = i) (pIns r = ((pOpds (row.2.2.drop i) r₂).bind fun x => (pEnd x.2).bind fun y => some (⟨w, ys ++ x.1⟩, y.2))),
    H₉, itr_tuple W.rm.h hvs, ⟨o, r₁, [], [], 0, rfl, a, c, d, by rfl, by rfl, by rfl, RDs.nil, rfl, by rw [hO]; rfl⟩, ?_, ?_⟩
  · rintro i g₂ m mu p v s₇ hi pv ⟨o, r₂, ys, ws, k₀, rfl, a, c, d, m1, m2, m3, hr, hwl, hF⟩ u₂ H₁₀
    obtain ⟨srt, hsrt, hvt⟩ := hget i v pv
    have hdrop : row.2.2.drop i = srt :: row.2.2.drop (i + 1) := by
      obtain ⟨hi', e⟩ := List.getElem?_eq_some_iff.mp hsrt
      rw [List.drop_eq_getElem_cons hi', e]
    rw [hdrop, pOpds] at hF
    have W' : Wk pc (A.deeper (fi_read_instruction.env L)) (fi_read_instruction.env L) (ρ ++ [p]) outer 9 := ⟨W.rm, W.fr, W.frame, W.kind, W.stk.mono fun q hq => List.mem_append_left _ hq⟩
    refine wpAny_assign_Name (At.store (c := ⟨pc.G, _, _, g₂, m, _⟩) H₁₀ (by kernel_rfl) fun s₈ H₁₁ => ?_)
    have H₁₂ : La pc _ _ ((D, lstO (v0 :: ws) k₀) :: (ρ ++ [p])) g₂ _ r₂ s₈ := ⟨o, a, H₁₁, c, d⟩
    refine ex_expr_any (la_append H₁₂ (fun zz => (pe_local (by kernel_rfl) (by exact m3))) fun s₉ H₁₃ => la_def (P := fun vs => Ex3 fun v₁ v₂ v₃ => An4 (vs = [v₁, v₂, v₃]) (VE (.ref pc.x) v₁) (VE v v₂) (VE vo v₃)) W'.more H₁₃ (fun zz => pe_glob (by kernel_rfl) rfl (by kernel_rfl)) (by kernel_rfl) (fun mu => pa_three (pe_local (by kernel_rfl) (by exact m1)) (pe_local (by kernel_rfl) (by rfl)) (pe_local (by kernel_rfl) (by exact m2)))
      (fun vs ⟨v₁, v₂, v₃, e, h1, h2, h3⟩ => by subst e; cases h1; cases h2; cases h3; exact read_operand_spec pc g₂ srt v vo hvt (ho.up (u.trans (u₁.trans u₂)))) (by decide) (fun od r₃ v₄ s₁₀ g₃ e₃ u₃ hv₄ H₁₄ => ?_) fun e s' q f => ⟨by rw [hF, q]; rfl, f⟩)
    rw [e₃] at hF
    refine ⟨g₃, _, r₃, ?_, H₁₄, fun s₁₁ H₁₅ => ex_nil ?_⟩
    · have : row.2.2.length ≤ 3 := by
        have : (opsTab.all fun e => decide (e.2.2.length ≤ 3)) = true := by kernel_rfl
        simpa using List.all_eq_true.mp this row hmem
      simp; omega
    obtain ⟨o', a', H₁₆, c', d'⟩ := H₁₅
    refine ⟨g₃, _, (pc.dx, o') :: (D, lstO (v0 :: (ws ++ [v₄])) (k₀ + 1)) :: ρ, u₃, H₁₆, o', r₃, ys ++ [od], ws ++ [v₄], k₀ + 1, rfl, a', c', d', (by exact m1), (by exact m2), (by exact m3), ?_, by simp [hwl], ?_⟩
    · rw [List.map_append]; exact (hr.up u₃).snoc hv₄
    · rw [hF]
      dsimp only [Option.bind]
      cases pOpds (row.2.2.drop (i + 1)) r₃ with
      | none => rfl
      | some x =>
        dsimp only
        rw [List.append_assoc]
        rfl
  · rintro g₂ m mu s₇ ⟨o, r₂, ys, ws, k₀, rfl, a, c, d, m1, m2, m3, hr, hwl, hF⟩ u₂ H₁₀
    rw [hlen, List.drop_length, pOpds] at hF
    dsimp only [Option.bind] at hF
    have H₁₁ : La pc _ _ ((D, lstO (v0 :: ws) k₀) :: ρ) g₂ m r₂ s₇ := ⟨o, a, H₁₀, c, d⟩
    refine ex_expr_any (la_meth0 W.more H₁₁ (fun zz => (pe_local (by kernel_rfl) (by exact m1))) (by kernel_rfl) (ld_get (by kernel_rfl) (by kernel_rfl) (by kernel_rfl)) (end_line_spec pc g₂) (by decide) (fun zz r₃ v s₈ g₃ e u₃ hv H₁₂ => ?_) fun e s' q f => ⟨by rw [hF, q], f⟩)
    rw [e] at hF
    obtain ⟨o, a, H₁₃, c, d⟩ := H₁₂
    refine ex_ret_any (ev_tuple_of H₁₃ (pe_local (by kernel_rfl) (by exact m3)) (.tail _ (.head _)) ?_ fun T g₄ s₉ u₄ hT H₁₄ => ?_)
    · have : row.2.2.length ≤ 3 := by
        have : (opsTab.all fun e => decide (e.2.2.length ≤ 3)) = true := by kernel_rfl
        simpa using List.all_eq_true.mp this row hmem
      simp; omega
    refine k _ _ _ s₉ g₄ hF (((u₁.trans u₂).trans u₃).trans u₄) ?_ (Li.drop (p := (D, lstO (v0 :: ws) k₀)) ⟨o, a, H₁₄.gl, u₄ _ _ c, fun b o e => u₄ _ _ (d _ _ e)⟩)
    refine RD.tuple hT ?_
    rw [List.append_nil]
    exact RDs.cons (RD.ofT hv0) ((hr.up u₃).up u₄)
end Mine
end
section
open PySem PySem.W PyProof.Rows PySem.Calls PySem.Builtin PySem.Builtin.Str PySem.NumText
namespace Mine
set_option maxRecDepth 100000

noncomputable def nb (l : List Nat) : List Nat := l.filter fun c => !(c == 32)
theorem nb_app (a b : List Nat) : nb (a ++ b) = nb a ++ nb b := List.filter_append ..
theorem nb_cons (c : Nat) (b : List Nat) (h : c ≠ 32) : nb (c :: b) = c :: nb b := by unfold nb; rw [List.filter_cons_of_pos]; simp [h]
theorem nb_blank (b : List Nat) : nb (32 :: b) = nb b := by unfold nb; rw [List.filter_cons_of_neg]; simp
theorem nb_id {l : List Nat} (h : ∀ c ∈ l, c ≠ 32) : nb l = l := List.filter_eq_self.mpr fun c hc => by simp [h c hc]
theorem nb_skip (r : List Nat) : nb (skipB r) = nb r := by
  induction r with
  | nil => rfl
  | cons c r ih =>
    unfold skipB
    rw [List.dropWhile_cons]
    by_cases h : c = 32
    · subst h; rw [if_pos (by rfl), nb_blank]; exact ih
    · rw [if_neg (by simp [isB, h])]
noncomputable def shN (n : Nat) : List Nat := (Nat.toDigits 10 n).map Char.toNat
theorem ofNat_toNat_dig {c : Nat} (h : 48 ≤ c ∧ c ≤ 57) : (Char.ofNat c).toNat = c := by
  obtain ⟨h1, h2⟩ := h
  have : ∀ d : Nat, d < 10 → (Char.ofNat (48 + d)).toNat = 48 + d := by decide
  have := this (c - 48) (by omega)
  rwa [show 48 + (c - 48) = c by omega] at this
theorem figs_val {w : List Nat} (h : figs w = true) : w = shN (digitsVal w) := by
  obtain ⟨h1, h2, h3, h4⟩ := figs_all h
  obtain ⟨n, hn⟩ : ∃ n, w.length = n + 1 := ⟨w.length - 1, by have := List.length_pos_iff.mpr h2; omega⟩
  unfold shN
  rw [toDigits_digitsVal n w hn h1 ?_, List.map_map]
  · symm
    have : ∀ c ∈ w, (Char.toNat ∘ Char.ofNat) c = c := fun c hc => ofNat_toNat_dig (h1 c hc)
    rw [List.map_congr_left this, List.map_id']
  · rcases h4 with h4 | h4
    · left; rw [h4] at hn; simpa using hn.symm
    · cases w with
      | nil => exact absurd rfl h2
      | cons c r =>
        refine .inr ⟨c, r, rfl, ?_⟩
        have : c ≠ 48 := h4
        have := h1 c (.head _)
        omega
theorem dig_chars {d : Nat} (h : d < 10) : 48 ≤ (Nat.digitChar d).toNat ∧ (Nat.digitChar d).toNat ≤ 57 := by
  have : ∀ d : Nat, d < 10 → 48 ≤ (Nat.digitChar d).toNat ∧ (Nat.digitChar d).toNat ≤ 57 := by decide
  exact this d h
theorem shN_all (n : Nat) : ∀ c ∈ shN n, 48 ≤ c ∧ c ≤ 57 := by
  induction n using Nat.strongRecOn with
  | _ n ih =>
    unfold shN
    by_cases h : n < 10
    · rw [Nat.toDigits_of_lt_base h]
      intro c hc
      obtain rfl : c = (Nat.digitChar n).toNat := by simpa using hc
      exact dig_chars h
    · have hm : n % 10 < 10 := Nat.mod_lt n (by decide)
      have t : Nat.toDigits 10 (n / 10) ++ Nat.toDigits 10 (n % 10) = Nat.toDigits 10 (10 * (n / 10) + n % 10) := Nat.toDigits_append_toDigits (by decide) (by omega) hm
      rw [Nat.div_add_mod] at t
      rw [← t, List.map_append, Nat.toDigits_of_lt_base hm]
      intro c hc
      rcases List.mem_append.mp hc with hc | hc
      · exact ih (n / 10) (by omega) c hc
      · obtain rfl : c = (Nat.digitChar (n % 10)).toNat := by simpa using hc
        exact dig_chars hm
theorem shN_ne (n : Nat) : shN n ≠ [] := by
  unfold shN
  intro h
  have : (Nat.toDigits 10 n) = [] := List.map_eq_nil_iff.mp h
  have h2 := congrArg List.length this
  have := Nat.length_toDigits_pos (b := 10) (n := n)
  simp at h2
theorem nb_shN (n : Nat) : nb (shN n) = shN n := nb_id fun c hc => by have := shN_all n c hc; omega
theorem val_shN (n : Nat) : digitsVal (shN n) = n := KIN.val_back n

theorem takeWhile_all {p : Nat → Bool} {x : Nat} : ∀ {l : List Nat}, x ∈ l.takeWhile p → p x = true
  | [], h => by cases h
  | c :: l, h => by
    rw [List.takeWhile_cons] at h
    split at h
    · rename_i hc
      rcases List.mem_cons.mp h with rfl | h
      · exact hc
      · exact takeWhile_all h
    · (first | subst h | cases h)
theorem wordAt_pre : ∀ r : List Nat, (∀ c ∈ wordAt (skipB r), c ≠ 32 ∧ c ≠ 10) ∧ wordAt (skipB r) ++ (skipB r).drop (wordAt (skipB r)).length = skipB r := by
  intro r
  cases h : skipB r with
  | nil => simp [wordAt]
  | cons c t =>
    unfold wordAt
    dsimp only
    split
    · rename_i h'
      refine ⟨fun x hx => ?_, by simp⟩
      obtain rfl : x = c := by simpa using hx
      omega
    · refine ⟨fun x hx => ?_, ?_⟩
      · have : isW x = true := takeWhile_all hx
        simp [isW] at this
        exact ⟨this.1.1.1, this.2⟩
      · have := List.takeWhile_append_dropWhile (p := isW) (l := c :: t)
        generalize hw : (c :: t).takeWhile isW = w at this ⊢
        conv => lhs; rw [← this]
        rw [List.drop_left, this]
theorem word_nb {r w r' : List Nat} (h : pWord r = some (w, r')) : nb r = w ++ nb r' := by
  unfold pWord at h
  split at h
  · (first | subst h | cases h)
  obtain ⟨rfl, rfl⟩ := some_inj2 h
  obtain ⟨h1, h2⟩ := wordAt_pre r
  rw [← nb_skip r]
  conv => lhs; rw [← h2]
  rw [nb_app, nb_id fun c hc => (h1 c hc).1]
theorem need_nb {x r r' : List Nat} {u : Unit} (h : pNeed x r = some (u, r')) : nb r = x ++ nb r' := by
  unfold pNeed at h
  obtain ⟨wr, hw, h⟩ := obs h
  split at h
  · rename_i e
    obtain ⟨_, rfl⟩ := some_inj2 h
    rw [← e]
    exact word_nb (w := wr.1) (r' := wr.2) hw
  · (first | subst h | cases h)
theorem count_nb {n : Nat} {r r' : List Nat} (h : pCount r = some (n, r')) : nb r = shN n ++ nb r' := by
  unfold pCount at h
  obtain ⟨wr, hw, h⟩ := obs h
  split at h
  · rename_i e
    obtain ⟨rfl, rfl⟩ := some_inj2 h
    rw [← figs_val e]
    exact word_nb (w := wr.1) (r' := wr.2) hw
  · (first | subst h | cases h)
theorem let_nb {c n : Nat} {r r' : List Nat} (h : pLet c r = some (n, r')) : nb r = c :: shN n ++ nb r' := by
  unfold pLet at h
  obtain ⟨wr, hw, h⟩ := obs h
  split at h
  · rename_i e
    obtain ⟨rfl, rfl⟩ := some_inj2 h
    have e1 := word_nb (w := wr.1) (r' := wr.2) hw
    rw [e1, ← figs_val e.2]
    obtain ⟨e2, _⟩ := e
    cases hh : wr.1 with
    | nil => rw [hh] at e2; (first | subst e2 | cases e2)
    | cons d t => rw [hh] at e2; (first | subst e2 | cases e2); rfl
  · (first | subst h | cases h)
theorem end_nb {r r' : List Nat} {u : Unit} (h : pEnd r = some (u, r')) : nb r = 10 :: nb r' := by
  unfold pEnd at h
  split at h
  · rename_i e
    obtain ⟨_, rfl⟩ := some_inj2 h
    rw [← nb_skip r]
    cases hh : skipB r with
    | nil => rw [hh] at e; (first | subst e | cases e)
    | cons c t => rw [hh] at e; (first | subst e | cases e); rw [nb_cons _ _ (by decide)]; rfl
  · (first | subst h | cases h)
theorem takes_nb {x r r' : List Nat} {b : Bool} (h : pTakes x r = some (b, r')) : nb r = (if b = true then x else []) ++ nb r' := by
  unfold pTakes at h
  split at h
  · rename_i e
    obtain ⟨rfl, rfl⟩ := some_inj2 h
    obtain ⟨h1, h2⟩ := wordAt_pre r
    rw [← nb_skip r]
    conv => lhs; rw [← h2]
    rw [nb_app, nb_id (fun c hc => (h1 c hc).1), e]; rfl
  · obtain ⟨rfl, rfl⟩ := some_inj2 h
    exact (nb_skip r).symm
theorem told_nb {x r r' : List Nat} (h : pTold r = some (x, r')) : nb r = shN x.length ++ nb x ++ nb r' := by
  unfold pTold at h
  obtain ⟨nr, hc, h⟩ := obs h
  split at h
  · rename_i e
    obtain ⟨rfl, rfl⟩ := some_inj2 h
    have e1 := count_nb (n := nr.1) (r' := nr.2) hc
    rw [e1]
    obtain ⟨e2, e3⟩ := e
    cases hh : nr.2 with
    | nil => rw [hh] at e2; (first | subst e2 | cases e2)
    | cons d t =>
      rw [hh] at e2 e3; (first | subst e2 | cases e2)
      rw [nb_blank, List.drop_one, List.tail_cons, List.drop_succ_cons, List.length_take, Nat.min_eq_left (by simpa using e3), List.append_assoc, ← nb_app, List.take_append_drop]
  · (first | subst h | cases h)

noncomputable def joinB : List (List Nat) → List Nat
  | [] => []
  | [x] => x
  | x :: y :: r => x ++ 32 :: joinB (y :: r)
theorem nb_joinB : ∀ xs : List (List Nat), nb (joinB xs) = (xs.map nb).flatten
  | [] => rfl
  | [x] => by simp [joinB]
  | x :: y :: r => by rw [joinB, nb_app, nb_blank, nb_joinB (y :: r)]; rfl
noncomputable def regT (n : Nat) : List Nat := 114 :: shN n
noncomputable def regsT (ns : List Nat) : List Nat := 40 :: (joinB (ns.map regT) ++ [41])
noncomputable def rowT (e : Row) : List Nat := 114 :: (shN e.1 ++ 32 :: 112 :: (shN e.2.1 ++ 32 :: regsT e.2.2))
noncomputable def opdT (srt : Srt) : Opd → List Nat
  | .regs l => regsT l
  | .rows rs => joinB (rs.map rowT)
  | .num n => if srt = .prim then primNames.getD n [] else srt.letter :: shN n
noncomputable def fits : Srt → Opd → Bool
  | .sources, .regs _ => true
  | .rows, .rows _ => true
  | .prim, .num n => decide (n < 6)
  | .sources, _ => false
  | .rows, _ => false
  | .prim, _ => false
  | _, .num _ => true
  | _, _ => false
noncomputable def fitsAll : List Srt → List Opd → Bool
  | [], [] => true
  | s :: ss, o :: os => fits s o && fitsAll ss os
  | _, _ => false
noncomputable def opdsT : List Srt → List Opd → List (List Nat)
  | s :: ss, o :: os => opdT s o :: opdsT ss os
  | _, _ => []
noncomputable def insT (i : Ins) : List Nat := joinB (i.w :: opdsT ((sortsOf i.w).getD []) i.ops)
noncomputable def insOK (i : Ins) : Prop := ∃ ss, sortsOf i.w = some ss ∧ fitsAll ss i.ops = true

theorem nb_regT (n : Nat) : nb (regT n) = regT n := by unfold regT; rw [nb_cons _ _ (by decide), nb_shN]
theorem nb_regsT (ns : List Nat) : nb (regsT ns) = 40 :: ((ns.map regT).flatten ++ [41]) := by
  unfold regsT
  rw [nb_cons _ _ (by decide), nb_app, nb_joinB, List.map_map]
  congr 2
  · congr 1
    exact List.map_congr_left fun n zz => nb_regT n
theorem regsLoop_nb : ∀ {k : Nat} {acc l r r' : List Nat}, pRegsLoop k acc r = some (l, r') → ∃ l', l = acc ++ l' ∧ nb r = (l'.map regT).flatten ++ [41] ++ nb r'
  | 0, _, _, _, _, h => by cases h
  | k + 1, acc, l, r, r', h => by
    rw [pRegsLoop] at h
    split at h
    · rename_i e
      obtain ⟨rfl, rfl⟩ := some_inj2 h
      refine ⟨[], by simp, ?_⟩
      have := takes_nb (x := [41]) (r := r) (r' := (skipB r).drop 1) (b := true) (by unfold pTakes; rw [if_pos e]; rfl)
      rw [this]; rfl
    · cases hl : pLet 114 (skipB r) with
      | none => rw [hl] at h; (first | subst h | cases h)
      | some nr =>
        rw [hl] at h
        have h1 := let_nb (n := nr.1) (r' := nr.2) hl
        obtain ⟨l', rfl, h2⟩ := regsLoop_nb (k := k) (show pRegsLoop k (acc ++ [nr.1]) nr.2 = some (l, r') from h)
        refine ⟨nr.1 :: l', by simp, ?_⟩
        rw [← nb_skip, h1, h2]
        simp [regT]
theorem regs_nb {l r r' : List Nat} (h : pRegs r = some (l, r')) : nb r = nb (regsT l) ++ nb r' := by
  unfold pRegs at h
  obtain ⟨ur, hn, h⟩ := obs h
  have h1 := need_nb (u := ur.1) (r' := ur.2) hn
  obtain ⟨l', rfl, h2⟩ := regsLoop_nb (show pRegsLoop (ur.2.length + 1) [] ur.2 = some (l, r') from h)
  rw [h1, h2, nb_regsT]
  simp
theorem nb_rowT (e : Row) : nb (rowT e) = 114 :: (shN e.1 ++ 112 :: (shN e.2.1 ++ nb (regsT e.2.2))) := by
  unfold rowT
  rw [nb_cons _ _ (by decide), nb_app, nb_shN, nb_blank, nb_cons _ _ (by decide), nb_app, nb_shN, nb_blank]
theorem rowsLoop_nb : ∀ {k : Nat} {acc l : List Row} {r r' : List Nat}, pRowsLoop k acc r = some (l, r') → ∃ l', l = acc ++ l' ∧ nb r = (l'.map fun e => nb (rowT e)).flatten ++ nb r'
  | 0, _, _, _, _, h => by cases h
  | k + 1, acc, l, r, r', h => by
    rw [pRowsLoop] at h
    split at h
    · obtain ⟨rfl, rfl⟩ := some_inj2 h
      exact ⟨[], by simp, (nb_skip r).symm⟩
    · cases ha : pLet 114 (skipB r) with
      | none => rw [ha] at h; (first | subst h | cases h)
      | some a =>
        rw [ha] at h
        dsimp only [Option.bind] at h
        obtain ⟨b, hb, h⟩ := obs h
        obtain ⟨q, hl, h⟩ := obs h
        obtain ⟨l', rfl, h2⟩ := rowsLoop_nb (k := k) h
        refine ⟨(a.1, b.1, q.1) :: l', by simp, ?_⟩
        rw [← nb_skip, let_nb (n := a.1) (r' := a.2) ha, let_nb (n := b.1) (r' := b.2) hb, regs_nb (l := q.1) (r' := q.2) hl, h2]
        simp [nb_rowT]
theorem rows_nb {l : List Row} {r r' : List Nat} (h : pRows r = some (l, r')) : nb r = nb (joinB (l.map rowT)) ++ nb r' := by
  obtain ⟨l', rfl, h2⟩ := rowsLoop_nb h
  rw [h2, nb_joinB, List.map_map]; rfl
theorem prim_get {w : List Nat} {n : Nat} (h : primOf w = some n) : n < 6 ∧ primNames.getD n [] = w := by
  unfold primOf at h
  obtain ⟨h1, h2, _⟩ := List.findIdx?_eq_some_iff_getElem.mp h
  refine ⟨h1, ?_⟩
  have := of_decide_eq_true h2
  rw [List.getD_eq_getElem?_getD, List.getElem?_eq_getElem h1]
  exact this
theorem prim_noblank : ∀ w ∈ primNames, ∀ c ∈ w, c ≠ 32 := by
  have : (primNames.all fun w => w.all fun c => !(c == 32)) = true := by kernel_rfl
  intro w hw c hc
  have h1 := List.all_eq_true.mp this w hw
  have h2 := List.all_eq_true.mp h1 c hc
  simpa using h2
theorem fitsAll_cons {s : Srt} {ss : List Srt} {o : Opd} {os : List Opd} : fitsAll (s :: ss) (o :: os) = true ↔ fits s o = true ∧ fitsAll ss os = true := Bool.and_eq_true_iff
theorem letter_ne {srt : Srt} (h : srt ≠ .sources) (h' : srt ≠ .rows) (h'' : srt ≠ .prim) : srt.letter ≠ 32 := by cases srt <;> decide
theorem opd_nb {srt : Srt} {o : Opd} {r r' : List Nat} (h : pOpd srt r = some (o, r')) : nb r = nb (opdT srt o) ++ nb r' ∧ fits srt o = true := by
  unfold pOpd at h
  split at h
  · rename_i e; subst e
    obtain ⟨x, hr, h⟩ := obs h
    obtain ⟨rfl, rfl⟩ := some_inj2 h
    exact ⟨regs_nb (l := x.1) (r' := x.2) hr, rfl⟩
  · split at h
    · rename_i _ e; subst e
      obtain ⟨x, hr, h⟩ := obs h
      obtain ⟨rfl, rfl⟩ := some_inj2 h
      exact ⟨rows_nb (l := x.1) (r' := x.2) hr, rfl⟩
    · split at h
      · rename_i _ _ e; subst e
        obtain ⟨x, hr, h⟩ := obs h
        obtain ⟨n, hp, h⟩ := obs h
        obtain ⟨rfl, rfl⟩ := some_inj2 h
        obtain ⟨h1, h2⟩ := prim_get hp
        refine ⟨?_, decide_eq_true h1⟩
        have hm : x.1 ∈ primNames := by
          rw [← h2, List.getD_eq_getElem?_getD, List.getElem?_eq_getElem h1]
          exact List.getElem_mem ..
        rw [word_nb (w := x.1) (r' := x.2) hr, opdT, if_pos rfl, h2, nb_id (l := x.1) (prim_noblank _ hm)]
      · rename_i e1 e2 e3
        obtain ⟨x, hr, h⟩ := obs h
        obtain ⟨rfl, rfl⟩ := some_inj2 h
        refine ⟨?_, ?_⟩
        · rw [let_nb (n := x.1) (r' := x.2) hr, opdT, if_neg e3, nb_cons _ _ (letter_ne e1 e2 e3), nb_shN]
        · cases srt <;> first | rfl | exact absurd rfl e1 | exact absurd rfl e2 | exact absurd rfl e3
theorem opds_nb : ∀ {ss : List Srt} {os : List Opd} {r r' : List Nat}, pOpds ss r = some (os, r') → nb r = ((opdsT ss os).map nb).flatten ++ nb r' ∧ fitsAll ss os = true
  | [], os, r, r', h => by rw [pOpds] at h; obtain ⟨rfl, rfl⟩ := some_inj2 h; exact ⟨rfl, rfl⟩
  | s :: ss, os, r, r', h => by
    rw [pOpds] at h
    obtain ⟨x, hx, h⟩ := obs h
    obtain ⟨y, hy, h⟩ := obs h
    obtain ⟨rfl, rfl⟩ := some_inj2 h
    obtain ⟨h1, h2⟩ := opd_nb (o := x.1) (r' := x.2) hx
    obtain ⟨h3, h4⟩ := opds_nb (os := y.1) (r' := y.2) hy
    exact ⟨by rw [h1, h3]; simp [opdsT], fitsAll_cons.mpr ⟨h2, h4⟩⟩
theorem word_noblank {r w r' : List Nat} (h : pWord r = some (w, r')) : nb w = w := by
  unfold pWord at h
  split at h
  · (first | subst h | cases h)
  obtain ⟨rfl, rfl⟩ := some_inj2 h
  exact nb_id fun c hc => ((wordAt_pre r).1 c hc).1
theorem ins_nb {i : Ins} {r r' : List Nat} (h : pIns r = some (i, r')) : nb r = nb (insT i) ++ 10 :: nb r' ∧ insOK i := by
  unfold pIns at h
  obtain ⟨wr, hw, h⟩ := obs h
  obtain ⟨ss, hs, h⟩ := obs h
  obtain ⟨x, hx, h⟩ := obs h
  obtain ⟨y, hy, h⟩ := obs h
  obtain ⟨rfl, rfl⟩ := some_inj2 h
  obtain ⟨h1, h2⟩ := opds_nb (os := x.1) (r' := x.2) hx
  refine ⟨?_, ss, hs, h2⟩
  rw [word_nb (w := wr.1) (r' := wr.2) hw, h1, end_nb (u := y.1) (r' := y.2) hy, insT, nb_joinB, hs]
  simp [word_noblank (w := wr.1) (r' := wr.2) hw]
theorem label_nb {p : Nat} {b : Bool} {r r' : List Nat} (h : pLabel p r = some (b, r')) : nb r = (if b = true then 76 :: shN p else []) ++ nb r' := by
  unfold pLabel at h
  split at h
  · cases hl : pLet 76 (skipB r) with
    | none => rw [hl] at h; (first | subst h | cases h)
    | some x =>
      rw [hl] at h
      dsimp only [Option.bind] at h
      split at h
      · rename_i e
        obtain ⟨rfl, rfl⟩ := some_inj2 h
        rw [← nb_skip, let_nb (n := x.1) (r' := x.2) hl, e]; rfl
      · (first | subst h | cases h)
  · obtain ⟨rfl, rfl⟩ := some_inj2 h
    exact (nb_skip r).symm
noncomputable def nl (r : List Nat) : Nat := (nb r).count 10
theorem nl_skip (r : List Nat) : nl (skipB r) = nl r := by unfold nl; rw [nb_skip]
theorem ins_nl {i : Ins} {r r' : List Nat} (h : pIns r = some (i, r')) : nl r' + 1 ≤ nl r := by
  unfold nl
  rw [(ins_nb h).1, List.count_append, List.count_cons_self]; omega
theorem label_nl {p : Nat} {b : Bool} {r r' : List Nat} (h : pLabel p r = some (b, r')) : nl r' ≤ nl r := by
  unfold nl
  rw [label_nb h, List.count_append]; omega
end Mine
end
section
open PySem PySem.W PyProof.Rows PySem.Calls PySem.Builtin PySem.Builtin.Str
namespace Mine
set_option maxRecDepth 100000

noncomputable def labelIn : List Srt → List Opd → Option Nat
  | s :: ss, o :: os => if s = .label then (match o with | .num n => some n | _ => none) else labelIn ss os
  | _, _ => none
noncomputable def labelOf (i : Ins) : Option Nat := labelIn ((sortsOf i.w).getD []) i.ops
noncomputable def metB (is : List Ins) (n : Nat) : Bool := is.any fun i => labelOf i == some n
noncomputable def toldOf (is : List Ins) : List Nat := (List.range is.length).filter (metB is)
noncomputable def LabsV (is : List Ins) (g : Heap) (w : Value) : Prop := ∃ L, An4 (RD g (.list (numsD L)) w) (L.Pairwise (· < ·)) ((∀ n, n ∈ L ↔ metB is n = true)) (L.length ≤ 64)
theorem labs_filter {is : List Ins} {L : List Nat} (h1 : L.Pairwise (· < ·)) (h2 : ∀ n, n ∈ L ↔ metB is n = true) : L.filter (fun n => decide (n < is.length)) = toldOf is := by
  refine asc_eq (h1.filter _) ((asc_range _).filter _) fun n => ?_
  simp only [List.mem_filter, h2, decide_eq_true_eq]
  rw [toldOf, List.mem_filter, List.mem_range]; exact And.comm
end Mine
end
section
open PySem PySem.W PyProof.Rows PySem.Calls PySem.Builtin PySem.Builtin.Str
namespace Mine
set_option maxRecDepth 100000

theorem at_enum {G : Gh} {A : Around} {env : Env} {g : Heap} {m : Str → Option Value} {mu : List (Addr × Obj)} {s : Shared} {Q : Value → Shared → Prop} {E : Value → Shared → Prop} {elts : List PySem.Expr} {tk : Nat} {tpos : Pos} {l : Addr} {vs : List Value} (hh : A.handled = none) (H : At ⟨G, A, env, g, m, mu⟩ s) (hl : g.IsList l vs.toArray)
    (k : ∀ I ι wr St s', At ⟨G, A, env, g, m, ι ++ mu⟩ s' → ι.map (·.1) = wr → WalkL G A (.Tuple elts tk tpos) wr I vs.length (fun g i v => Ex2 fun T vals => An3 (v = .ref T) (g.IsTuple T vals) (∃ t x, vs[i]? = some x ∧ vals = #[.int (i : Int) t, x])) St g (fun zz zz => True) → St 0 s'.heap → Q (.ref I) s') :
    wpAny G.M A (call (.type "enumerate") [.ref l]) Q E s := by
  have hl' : s.heap.IsList l vs.toArray := let ⟨o, ho, r⟩ := hl; ⟨o, H.up _ _ ho, r⟩
  have hlt : l < s.heap.objs.size := let ⟨o, ho, _⟩ := hl'; Heap.lt_size ho
  refine call_enumerate_list hl' fun h' hE hI hsz hk => ?_
  obtain ⟨oI, hoI, r⟩ := id hI
  obtain ⟨oE, hoE⟩ : ∃ oE, h'.get? (s.heap.objs.size + 1) = some oE := ⟨_, hE⟩
  have H1 := H.keeps hk s.toks
  have fresh : ∀ a, s.heap.objs.size ≤ a → g.get? a = none := fun a ha => by
    cases q : g.get? a with
    | none => rfl
    | some o => exact absurd (Heap.lt_size (H.up _ _ q)) (Nat.not_lt.mpr ha)
  have H2 : At ⟨G, A, env, g, m, [(s.heap.objs.size + 1, oE), (s.heap.objs.size, oI)] ++ mu⟩ { s with heap := h' } := by
    obtain ⟨l1, l2, l3⟩ := H.lt
    obtain ⟨oL, co, l, kc, gl⟩ := H1
    have hco : ∀ p ∈ co, p.1 < s.heap.objs.size := by
      obtain ⟨oL0, co0, l0, kc0, gl0⟩ := H
      intro p hp
      have hc : ∀ {cl co}, CellsAre m cl co → ∀ p ∈ co, ∃ q ∈ cl, q.2 = p.1 := by
        intro cl co x
        induction x with
        | nil => intro p hp; exact (nomatch hp)
        | cons _ _ ih =>
          intro p hp
          rcases List.mem_cons.mp hp with rfl | hp
          · exact ⟨_, .head _, rfl⟩
          · obtain ⟨q, hq, e⟩ := ih p hp; exact ⟨q, .tail _ hq, e⟩
      obtain ⟨q, hq, e⟩ := hc kc p hp
      rw [← e]; exact l3 q hq
    refine ⟨oL, co, l, kc, Gl.perm (List.Perm.symm (perm_frontL (env.locals, oL) co [(s.heap.objs.size + 1, oE), (s.heap.objs.size, oI)] mu)) ?_⟩
    refine ⟨gl.base, gl.upH, gl.up, fun p hp => ?_, ?_, gl.gens, gl.os⟩
    · rcases List.mem_append.mp hp with hp | hp
      · rcases List.mem_cons.mp hp with rfl | hp
        · exact ⟨hoE, fresh _ (Nat.le_succ _)⟩
        · obtain rfl := List.mem_singleton.mp hp
          exact ⟨hoI, fresh _ (Nat.le_refl _)⟩
      · exact gl.mus p hp
    · have small : ∀ a ∈ ((env.locals, oL) :: (co ++ mu)).map (·.1), a < s.heap.objs.size := by
        intro a ha
        obtain ⟨p, hp, rfl⟩ := List.mem_map.mp ha
        rcases List.mem_cons.mp hp with rfl | hp
        · exact l2
        · rcases List.mem_append.mp hp with hp | hp
          · exact hco p hp
          · exact l1 p hp
      show ((s.heap.objs.size + 1) :: s.heap.objs.size :: ((env.locals, oL) :: (co ++ mu)).map (·.1)).Nodup
      refine List.nodup_cons.mpr ⟨fun hm => ?_, List.nodup_cons.mpr ⟨fun hm => Nat.lt_irrefl _ (small _ hm), gl.nd⟩⟩
      rcases List.mem_cons.mp hm with e | hm
      · omega
      · have := small _ hm; omega
  have n1 : s.heap.objs.size + 1 ≠ s.heap.objs.size := Nat.succ_ne_self _
  have n2 : l ≠ s.heap.objs.size := Nat.ne_of_lt hlt
  have n3 : l ≠ s.heap.objs.size + 1 := Nat.ne_of_lt (Nat.lt_succ_of_lt hlt)
  have WE := WalksT.enumerate (prog := pw) (w := G.w) hh (s.heap.objs.size + 1) s.heap.objs.size l n1 n3 n2 vs.toArray
  rw [show vs.toArray.size = vs.length by simp] at WE
  have e0 : (fun (i : Nat) (vals : Array Value) => ∃ t x, vs.toArray[i]? = some x ∧ vals = #[.int i t, x]) = fun (i : Nat) (vals : Array Value) => ∃ t x, vs[i]? = some x ∧ vals = #[.int (i : Int) t, x] := by
    funext i vals; simp
  rw [e0] at WE
  refine k _ _ _ _ _ H2 rfl (WalkL.of WE (fun b hb => ?_) (fun i T h hm b hb => ?_) (fun i h hm b hb => ?_)) ⟨⟨_, hE⟩, hI, let ⟨o, ho, r⟩ := hl'; ⟨o, hk _ _ ho, r⟩⟩
  · have : b = s.heap.objs.size + 1 ∨ b = s.heap.objs.size ∨ b = l := by simpa using hb
    rcases this with rfl | rfl | rfl
    · exact .inl (by simp)
    · exact .inl (by simp)
    · exact .inr (let ⟨o, ho, _⟩ := hl; ⟨o, ho⟩)
  · have : b = s.heap.objs.size + 1 ∨ b = s.heap.objs.size := by simpa using hb
    rcases this with rfl | rfl
    · exact let ⟨x, hx⟩ := hm.1; ⟨_, hx⟩
    · exact let ⟨o, ho, _⟩ := hm.2.1; ⟨o, ho⟩
  · have : b = s.heap.objs.size + 1 ∨ b = s.heap.objs.size := by simpa using hb
    rcases this with rfl | rfl
    · exact let ⟨x, hx⟩ := hm.1; ⟨_, hx⟩
    · exact let ⟨o, ho, _⟩ := hm.2.1; ⟨o, ho⟩
end Mine
end
section
open PySem PySem.W PyProof.Rows PySem.Calls PySem.Builtin PySem.Builtin.Str
namespace Mine
set_option maxRecDepth 100000

theorem plain_dul : plainId "dict.update.loop" = true := by decide +kernel
theorem entry_dul : entryFor table "dict.update.loop" = some Builtin.«dict.update.loop» := entryFor_of_tree (by kernel_rfl)
theorem miss_list_keys : typeLookup (.type "list") "keys" = pure none := am_miss_of_fast (by kernel_rfl)
section
variable {prog : Program} {w : World} {A : Around} {E : Value → Shared → Prop} {s : Shared}
theorem attr_list_keys {a : Addr} {xs : Array Value} {k : Nat} {Q : Option Value → Shared → Prop}
    (hx : s.heap.get? a = some { cls := .type "list", data := .seq xs k }) (hA : A.handled = none)
    (h : ∀ h' tk, (∀ b o, s.heap.get? b = some o → h'.get? b = some o) → Q none { s with heap := h', toks := tk }) :
    wpAny (model prog w) A (getAttr? (.ref a) "keys") Q E s := by
  obtain ⟨hp, g, d, tk, os⟩ := s
  have hT : ∀ tk', (⟨hp, g, d, tk', os⟩ : Shared).TypeIs (.ref a) "list" := fun zz => ⟨_, hx, rfl⟩
  have f1 := sub_AttributeError
  have f3 := F.slot_list_getattribute.lookup
  have f4 := F.slot_list_getattribute.bind (.ref a)
  have f5 := am_list_getattr_none
  unfold getAttr? getAttrBy? getAttrBy
  repeat (any_goals (first | assumption | exact hT _ | ((with_reducible show wpAny _ _ (call (Value.builtin "list.__getattribute__") _ _) _ _ _); refine call_meets F.slot_list_getattribute (hT _) am_entry_list_getattribute (F.args_list_getattribute_2 _ _) (meets_getattribute_miss_list a xs k #[] "keys" _ miss_list_keys (by decide +kernel) (by rw [sizeLine_eq]; decide)) ⟨hx, hA, fun h' tk' e hx' => ?_⟩) | wp_step))
  obtain ⟨t', u', he⟩ := hx'.there
  show wpAny _ _ (getattributeRaised _ _ _ _ _ _ _) _ _ _
  unfold getattributeRaised
  repeat (any_goals (first | assumption | wp_step))
  exact h _ _ hx'.keeps
end

section
variable {prog : Program} {w : World} {K : Type} [DecidableEq K] {knd : KeyKind prog w K} {A : Around}
theorem take_prs {α : Type} {l : List α} {i : Nat} {x : α} (h : l[i]? = some x) : l.take (i + 1) = l.take i ++ [x] := by
  rw [List.take_add_one, h]; rfl
noncomputable def PairAt (knd : KeyKind prog w K) (h : Heap) (v : Value) (p : K × Value) : Prop := Ex2 fun T key => An3 (v = .ref T) (h.IsTuple T #[key, p.2]) (knd.is p.1 key = true)
theorem dul_loop {R : Result → Shared → Prop} {I d : Addr} {fp : List Addr} {prs : List (K × Value)} {vs : List Value} {St : Nat → Heap → Prop} {h₀ : Heap} (W : Walks prog w A.in1 I fp [I] prs.length (fun i v => vs[i]? = some v) St)
    (hd : d ∉ fp) (hp : ∀ (i : Nat) (p : K × Value), prs[i]? = some p → ∃ v : Value, vs[i]? = some v ∧ PairAt knd h₀ v p) (hsz : prs.length ≤ 1000) (hI : h₀.get? I = none) (hd0 : h₀.get? d = none) :
    ∀ (k i : Nat) (s : Shared) (t : Tok), prs.length - i = k → i ≤ prs.length → St i s.heap → s.heap.DictOf knd d (merged [] (prs.take i)) → Up h₀ s.heap →
      (∀ h' tk, h'.DictOf knd d (merged [] prs) → Up h₀ h' → R (.ok (.ret .none)) { s with heap := h', toks := tk }) →
      codeAny (model prog w) A (.builtin "dict.update.loop" ⟨[.ref d, .ref I, .int i t, .none], []⟩) R s := by
  have hIf : I ∈ fp := W.sub I (by simp)
  have hdI : d ≠ I := fun e => hd (e ▸ hIf)
  have upI : ∀ (h h' : Heap), Up h₀ h → (∀ b o, b ∉ [I] → h.get? b = some o → h'.get? b = some o) → Up h₀ h' := fun h h' u hk b o e => hk b o (fun hm => by rw [List.mem_singleton.mp hm, hI] at e; (first | subst e | cases e)) (u b o e)
  intro k
  induction k with
  | zero =>
    intro i s t hk hi hst hD hu hR
    have hin : i = prs.length := by omega
    subst hin
    refine codeAny_builtin entry_dul ?_
    rw [Around.under_plainId plain_dul _]
    show wpAny _ A.in1 (pyNext (.ref I) >>= _) _ _ s
    refine wpAny_bind (W.done s _ _ hst fun h' tk hk' => ?_)
    show wpAny _ _ (Builtin.Dict.addKeywords d [] >>= _) _ _ _
    refine wpAny_bind (wpAny_pure (wpAny_pure (hR h' tk ?_ (upI _ _ hu hk'))))
    rw [List.take_length] at hD
    exact let ⟨o, es, ep, ho, r⟩ := hD; ⟨o, es, ep, hk' d o (by simpa using hdI) ho, r⟩
  | succ k ih =>
    intro i s t hk hi hst hD hu hR
    have hlt : i < prs.length := by omega
    refine codeAny_builtin entry_dul ?_
    rw [Around.under_plainId plain_dul _]
    show wpAny _ A.in1 (pyNext (.ref I) >>= _) _ _ s
    refine wpAny_bind (W.item i s _ _ hlt hst fun v h' tk hv hst' hk' => ?_)
    obtain ⟨p, hpi⟩ : ∃ p, prs[i]? = some p := ⟨_, List.getElem?_eq_getElem hlt⟩
    obtain ⟨v', hv', T, key, rfl, hT, hkey⟩ := hp i p hpi
    rw [hv] at hv'
    obtain rfl := Option.some.inj hv'
    have hu' := upI _ _ hu hk'
    obtain ⟨oT, hoT, hcT, nT, hdT⟩ := hT
    have hD' : h'.DictOf knd d (merged [] (prs.take i)) := let ⟨o, es, ep, ho, r⟩ := hD; ⟨o, es, ep, hk' d o (by simpa using hdI) ho, r⟩
    have hTy : ({ s with heap := h', toks := tk } : Shared).TypeIs (.ref T) "tuple" := ⟨oT, hu' _ _ hoT, hcT⟩
    refine wpAny_bind (wpAny_holding ?_)
    refine wpAny_bind (wpAny_tryCatch ?_)
    unfold Builtin.Dict.pairItems
    refine wpAny_bind (wpAny_typeOf hTy ?_)
    simp only [show ((Value.type "tuple" == Value.type "list") || (Value.type "tuple" == Value.type "tuple")) = true by decide, if_true]
    refine wpAny_bind (wpAny_seqItems (hu' _ _ hoT) hdT (wpAny_pure ?_))
    show wpAny _ _ (holding [key, p.2] (dictSet d key p.2)) _ _ _
    have hm : (merged [] (prs.take i)).length ≤ sizeLine := by
      have e1 := merged_length_le [] (prs.take i)
      have e2 : (prs.take i).length ≤ prs.length := by rw [List.length_take]; omega
      rw [sizeLine_eq]; simp at e1; omega
    refine wpAny_holding (wpAny_dictSet_pairs (hsz := hm) hkey hD' fun h'' hD'' hs'' => ?_)
    refine wpAny_pure ⟨plainId_quiet plain_dul _, ?_⟩
    have hu'' : Up h₀ h'' := fun b o e => (hs''.2 b fun q => by rw [q, hd0] at e; (first | subst e | cases e)).trans (hu' b o e)
    refine ih (i + 1) { s with heap := h'', toks := _ } _ (by omega) hlt (W.frame _ h' h'' hst' fun b hb o e => (hs''.2 b fun q => hd (q ▸ hb)).trans e) ?_ hu'' fun h3 tk3 hD3 hu3 => hR h3 tk3 hD3 hu3
    rw [merged_take_succ [] prs i p hpi]
    exact hD''
theorem call_dict_pairs {E : Value → Shared → Prop} {s : Shared} {o : Addr} {vs : List Value} {n : Nat} {prs : List (K × Value)} {Q : Value → Shared → Prop} (hh : A.handled = none) (ho : s.heap.get? o = some (lstO vs n)) (hlen : vs.length = prs.length)
    (hp : ∀ (i : Nat) (p : K × Value), prs[i]? = some p → ∃ v : Value, vs[i]? = some v ∧ PairAt knd s.heap v p) (hsz : prs.length ≤ 1000) (hn : (prs.map (·.1)).Nodup) (hbig : sysModules < s.heap.objs.size)
    (h : ∀ D h' tk, (D == sysModules) = false → s.heap.get? D = none → h'.DictOf knd D prs → Up s.heap h' → Q (.ref D) { s with heap := h', toks := tk }) :
    wpAny (model prog w) A (call (.type "dict") [.ref o]) Q E s := by
  have fresh : ∀ a, s.heap.objs.size ≤ a → s.heap.get? a = none := fun a ha => Heap.get?_none_of_le ha
  refine callType_codes (Q₁ := fun obj s₁ => obj = .ref s.heap.objs.size ∧ s₁ = { s with heap := s.heap.push { cls := .type "dict", data := .dict #[] } }) F.kt_called_dict (F.kt_typeCall_dict_1 _) F.entry_dict_init (kt_code_dict_new _ ⟨rfl, rfl⟩) ?_
  rintro obj s₁ ⟨rfl, rfl⟩
  have hnew : (s.heap.push { cls := .type "dict", data := .dict #[] }).DictOf knd s.heap.objs.size [] := Heap.DictOf.new s.heap
  have ho1 : (s.heap.push { cls := .type "dict", data := .dict #[] }).get? o = some (lstO vs n) := Heap.get?_push_of_some _ ho
  refine ⟨hnew.typeIs, F.args_dict_init_2 _ _, ?_⟩
  unfold Builtin.«dict.__init__»
  refine wpAny_bind ?_
  unfold Builtin.Dict.selfAndRest
  refine wpAny_bind (wpAny_notOrdered_dict hnew.typeIs ?_)
  show wpAny _ _ (pure (s.heap.objs.size, [Value.ref o])) _ _ _
  refine wpAny_pure ?_
  show wpAny _ _ (Builtin.Dict.updateFrom "dict.__init__" s.heap.objs.size (.ref o) [] .none) _ _ _
  unfold Builtin.Dict.updateFrom
  refine wpAny_bind (wpAny_typeOf (T := "list") ⟨_, ho1, rfl⟩ ?_)
  rw [if_pos (by decide)]
  refine wpAny_bind (attr_list_keys ho1 hh fun h₂ tk₂ hk₂ => ?_)
  simp only [Option.isNone_none, if_true]
  refine wpAny_bind (wpAny_rule ?_)
  have ho2 : h₂.get? o = some (lstO vs n) := hk₂ _ _ ho1
  have hl2 : h₂.IsList o vs.toArray := ⟨_, ho2, rfl, _, rfl⟩
  have hI : o ≠ h₂.objs.size := Nat.ne_of_lt (Heap.lt_size ho2)
  refine wpAny_bind (wpAny_pyIter_list hl2 ?_)
  refine wpAny_pure ⟨plainId_quiet plain_dul _, ?_⟩
  have hd0 : s.heap.objs.size < h₂.objs.size := by
    obtain ⟨o', es, ep, ho', _⟩ := hnew
    exact Heap.lt_size (hk₂ _ _ ho')
  have up2 : Up s.heap (h₂.push { cls := .type "list_iterator", data := .fields #[.ref o, rawInt 0] }) := fun b ob e => Heap.get?_push_of_some _ (hk₂ _ _ (Heap.get?_push_of_some _ e))
  have W := Walks.list (prog := prog) (w := w) (A := A.in1.in1) hh h₂.objs.size o hI vs.toArray
  have e0 : vs.toArray.size = prs.length := by simp [hlen]
  rw [e0] at W
  refine dul_loop (knd := knd) (fp := [h₂.objs.size, o]) (prs := prs) (vs := vs) (h₀ := s.heap) ⟨W.sub, W.frame, fun i s Q E hi st hQ => W.item i s Q E hi st fun v h' tk pv => hQ v h' tk (by simpa using pv), W.done, W.self⟩ (fun hm => ?_) hp hsz (fresh _ (Nat.le_of_lt hd0)) (fresh _ (Nat.le_refl _)) _ 0 _ _ rfl (Nat.zero_le _) ⟨⟨_, Heap.get?_push_size _ rfl, rfl, rfl⟩, hl2.push _⟩ ?_ up2 fun h' tk hD hu => ⟨rfl, h _ h' tk (beq_eq_false_iff_ne.mpr (Nat.ne_of_gt hbig)) (fresh _ (Nat.le_refl _)) (by rw [merged_nil_of_nodup prs hn] at hD; exact hD) hu⟩
  · rcases List.mem_cons.mp hm with e | hm
    · rw [e] at hd0; exact Nat.lt_irrefl _ hd0
    · have := List.mem_singleton.mp hm
      rw [← this, fresh _ (Nat.le_refl _)] at ho; cases ho
  · exact let ⟨o', es, ep, ho', r⟩ := hnew; ⟨o', es, ep, Heap.get?_push_of_some _ (hk₂ _ _ ho'), r⟩
end
theorem At.big {c : Cx} {s : Shared} (H : At c s) : sysModules < s.heap.objs.size := Nat.lt_trans (by decide) (Heap.lt_size (H.X _ _ (let_look _)))
end Mine
end
section
open PySem PySem.W PyProof.Rows PySem.Calls PySem.Builtin PySem.Builtin.Str
namespace Mine
set_option maxRecDepth 100000

theorem zip_no_len : typeLookup (.type "zip") "__len__" = pure none := am_miss_of_fast (by kernel_rfl)
theorem zip_no_hint : typeLookup (.type "zip") "__length_hint__" = pure none := am_miss_of_fast (by kernel_rfl)
section
variable {prog : Program} {w : World} {A : Around} {E : Value → Shared → Prop} {s : Shared}
theorem nextOf_tuple_item {it t : Addr} {i : Nat} {items} {x : Value} {Q : Value → Shared → Prop} (hit : s.heap.IsTupleIter it t i)
    (ht : s.heap.IsTuple t items) (hx : items[i]? = some x)
    (hQ : ∀ h', h'.IsTupleIter it t (i + 1) → Heap.SameBut it s.heap h' → Q x { s with heap := h' }) :
    wpAny (model prog w) A (Builtin.SmallTypes.nextOf (.ref it)) Q E s := by
  obtain ⟨o, ho, hc, hd⟩ := id hit
  obtain ⟨ol, hol, _, nl, hdl⟩ := ht
  unfold Builtin.SmallTypes.nextOf
  refine wpAny_bind (wpAny_callSpecial?_slot (name := Str.ofString "__next__") hit.typeIs F.slot_tuple_iterator_next
    (wpAny_call_entry F.slot_tuple_iterator_next hit.typeIs F.entry_tuple_iterator_next ?_ (F.args_tuple_iterator_next_1 _)))
  show wpAny _ _ (field (.ref it) 0 >>= _) _ _ s
  refine wpAny_bind (wpAny_field ho hd (x := .ref t) rfl ?_)
  show wpAny _ _ (if (Value.ref t == Value.none) = true then _ else _) _ _ s
  rw [if_neg (show ¬ ((Value.ref t == Value.none) = true) from Bool.false_ne_true)]
  show wpAny _ _ (field (.ref it) 1 >>= _) _ _ s
  refine wpAny_bind (wpAny_field ho hd (x := .int i 0) rfl ?_)
  show wpAny _ _ (seqItems? (.ref t) >>= _) _ _ s
  refine wpAny_bind (wpAny_seqItems hol hdl ?_)
  simp only [Int.toNat_natCast, hx]
  refine wpAny_bind (wpAny_setField ho hd (by simp) (wpAny_pure ⟨x, rfl, wpAny_pure (hQ _ ?_ (Heap.SameBut.update ..))⟩))
  exact ⟨_, Heap.get?_update_self _ ho (Obj.isFreed_of_fields (Obj.data_mapFields hd _)), (Obj.cls_mapFields ..).trans hc, by
    rw [Obj.data_mapFields hd]; simp [rawInt]⟩
theorem nextOf_tuple_end {it t : Addr} {i : Nat} {items} {Q : Value → Shared → Prop} (hh : A.handled = none)
    (hit : s.heap.IsTupleIter it t i) (ht : s.heap.IsTuple t items) (hx : items[i]? = none)
    (hE : ∀ h' e, Heap.ExtBut it s.heap h' → (∃ o, h'.get? e = some o ∧ o.cls = .type "StopIteration") → E (.ref e) { s with heap := h' }) :
    wpAny (model prog w) A (Builtin.SmallTypes.nextOf (.ref it)) Q E s := by
  obtain ⟨o, ho, hc, hd⟩ := id hit
  obtain ⟨ol, hol, _, nl, hdl⟩ := ht
  unfold Builtin.SmallTypes.nextOf
  refine wpAny_bind (wpAny_callSpecial?_slot (name := Str.ofString "__next__") hit.typeIs F.slot_tuple_iterator_next
    (wpAny_call_entry F.slot_tuple_iterator_next hit.typeIs F.entry_tuple_iterator_next ?_ (F.args_tuple_iterator_next_1 _)))
  show wpAny _ _ (field (.ref it) 0 >>= _) _ _ s
  refine wpAny_bind (wpAny_field ho hd (x := .ref t) rfl ?_)
  show wpAny _ _ (if (Value.ref t == Value.none) = true then _ else _) _ _ s
  rw [if_neg (show ¬ ((Value.ref t == Value.none) = true) from Bool.false_ne_true)]
  show wpAny _ _ (field (.ref it) 1 >>= _) _ _ s
  refine wpAny_bind (wpAny_field ho hd (x := .int i 0) rfl ?_)
  show wpAny _ _ (seqItems? (.ref t) >>= _) _ _ s
  refine wpAny_bind (wpAny_seqItems hol hdl ?_)
  simp only [Int.toNat_natCast, hx]
  refine wpAny_bind (wpAny_rule (wpAny_bind (wpAny_setField ho hd (by simp) ?_)))
  show wpAny _ _ (newExc (.type "StopIteration") [] >>= _) _ _ _
  refine wpAny_bind ?_
  simp only [newExc, newTuple]
  refine wpAny_bind (wpAny_newObj_type ?_ (by size_fits))
  refine wpAny_bind (m := firstArgMember _ _) (wpAny_of_eq (a := Value.none) (by first | rfl | (simp only [firstArgMember]; rfl)) ?_)
  refine wpAny_newObj_type ?_ (by size_fits)
  simp only [raiseNew]
  refine wpAny_bind (wpAny_handled ?_)
  first | rw [show A.in1.handled = none from hh] | rw [hh]
  refine wpAny_bind (wpAny_pure (wpAny_throw ?_))
  exact hE _ _ (((Heap.SameBut.update ..).extBut.push _).push _) ⟨_, Heap.get?_push_size _ rfl, rfl⟩
end
structure ZS (h : Heap) (z TI TO i1 i2 l1 l2 : Addr) (xs ys : Array Value) (k : Nat) : Prop where
  Z : Ex2 fun f0 f1 => h.get? z = some { cls := .type "zip", dict := none, data := .fields #[f0, f1, .bool false, .ref TI, .ref TO], slots := #[] } ∧ (f0 = .none ∨ ∃ (a : Addr) (o : Obj), f0 = rawInt a ∧ h.get? a = some o)
  TI : IsPair h TI (.ref i1) (.ref i2)
  TO : ∃ a b, IsPair h TO a b
  h1 : h.IsTupleIter i1 l1 k
  h2 : h.IsTupleIter i2 l2 k
  l1 : h.IsTuple l1 xs
  l2 : h.IsTuple l2 ys
theorem loadIfAlive_ {α : Type} {M : Model} {A : Around} {E : Value → Shared → Prop} {s : Shared} {a : Addr} {Q : Option Obj → Shared → Prop} (h : Q (s.heap.get? a) s) : wpAny M A (loadIfAlive a) Q E s := fun Γ p zz => by
  simp only [loadIfAlive, Sem.wp_loadIfAlive]
  exact h
section
variable {prog : Program} {w : World} {A : Around} {E : Value → Shared → Prop} {s : Shared} {z TI TO i1 i2 l1 l2 : Addr} {xs ys : Array Value} {k : Nat}
theorem zs_item (D : ZipApart z TI TO i1 i2 l1 l2) (hS : ZS s.heap z TI TO i1 i2 l1 l2 xs ys k) {x y : Value} {Q : Value → Shared → Prop} (hx : xs[k]? = some x) (hy : ys[k]? = some y)
    (hQ : ∀ h' T, s.heap.objs.size ≤ T → h'.get? T = some (tupO [x, y] 0) → ZS h' z TI TO i1 i2 l1 l2 xs ys (k + 1) → (∀ c o, c ∉ [z, TO, i1, i2] → s.heap.get? c = some o → h'.get? c = some o) → Q (.ref T) { s with heap := h' }) :
    wpAny (model prog w) A (Builtin.«zip.__next__» ⟨[.ref z], []⟩) (fun fin s' => ∃ v, fin = .done (.ret v) ∧ Q v s') E s := by
  obtain ⟨⟨f0, f1, hz, hf⟩, hTI, ⟨a, b, hTO⟩, h1, h2, hl1, hl2⟩ := hS
  show wpAny _ _ (field (.ref z) 2 >>= _) _ _ _
  refine wpAny_bind (wpAny_field hz rfl (x := .bool false) rfl ?_)
  show wpAny _ _ (field (.ref z) 3 >>= _) _ _ _
  refine wpAny_bind (wpAny_field hz rfl (x := .ref TI) rfl ?_)
  refine wpAny_bind (wpAny_seqItems hTI rfl ?_)
  show wpAny _ _ (Builtin.SmallTypes.ownedTupleIsFree (.ref z) >>= _) _ _ _
  refine wpAny_bind ?_
  unfold Builtin.SmallTypes.ownedTupleIsFree
  refine wpAny_bind (wpAny_field hz rfl (x := f0) rfl ?_)
  rcases hf with rfl | ⟨ad, od, rfl, had⟩
  · refine wpAny_pure ?_
    simp only [if_true]
    refine wpAny_bind (wpAny_rule ?_)
    refine wpAny_bind (wpAny_field hz rfl (x := .ref TO) rfl ?_)
    refine wpAny_bind (wpAny_setField_rec hz (by simp) fun h₁ hz₁ hs₁ => ?_)
    replace hz₁ : h₁.get? z = some { cls := .type "zip", dict := none, data := .fields #[.ellipsis, f1, .bool false, .ref TI, .ref TO], slots := #[] } := hz₁
    refine wpAny_bind ?_
    simp only [List.zipIdx_cons, List.zipIdx_nil, List.forIn_cons, List.forIn_nil]
    refine wpAny_bind (wpAny_bind (wpAny_onRaise ?_))
    show wpAny _ _ (Builtin.SmallTypes.nextOf (.ref i1) >>= _) _ _ _
    refine wpAny_bind (nextOf_tuple_item (h1.extBut hs₁.extBut D.i1z) (hl1.extBut hs₁.extBut D.l1z) hx fun h₂ h1₂ hs₂ => wpAny_pure ?_)
    have hTO₂ : IsPair h₂ TO a b := hs₂.extBut _ _ D.TOi1 (hs₁.extBut _ _ D.TOz hTO)
    refine wpAny_bind (wpAny_seqItems hTO₂ rfl ?_)
    refine wpAny_bind (wpAny_updateSeq_pair hTO₂ fun h₃ hTO₃ hs₃ => ?_)
    replace hTO₃ : IsPair h₃ TO x b := hTO₃
    refine wpAny_bind (wpAny_letGo (wpAny_pure ?_))
    refine wpAny_bind (wpAny_bind (wpAny_onRaise ?_))
    show wpAny _ _ (Builtin.SmallTypes.nextOf (.ref i2) >>= _) _ _ _
    refine wpAny_bind (nextOf_tuple_item (((h2.extBut hs₁.extBut D.i2z).extBut hs₂.extBut D.i12.symm).extBut hs₃.extBut D.TOi2.symm)
      (((hl2.extBut hs₁.extBut D.l2z).extBut hs₂.extBut D.l2i1).extBut hs₃.extBut D.l2TO) hy fun h₄ h2₄ hs₄ => wpAny_pure ?_)
    have hTO₄ : IsPair h₄ TO x b := hs₄.extBut _ _ D.TOi2 hTO₃
    refine wpAny_bind (wpAny_seqItems hTO₄ rfl ?_)
    refine wpAny_bind (wpAny_updateSeq_pair hTO₄ fun h₅ hTO₅ hs₅ => ?_)
    replace hTO₅ : IsPair h₅ TO x y := hTO₅
    refine wpAny_bind (wpAny_letGo (wpAny_pure (wpAny_pure ?_)))
    refine wpAny_bind (wpAny_seqItems hTO₅ rfl ?_)
    refine wpAny_bind (wpAny_newTuple ?_)
    have hsz : h₅.objs.size = s.heap.objs.size := by rw [hs₅.1, hs₄.1, hs₃.1, hs₂.1, hs₁.1]
    have hz₅ : h₅.get? z = some { cls := .type "zip", dict := none, data := .fields #[.ellipsis, f1, .bool false, .ref TI, .ref TO], slots := #[] } := hs₅.extBut _ _ D.TOz.symm (hs₄.extBut _ _ D.i2z.symm (hs₃.extBut _ _ D.TOz.symm (hs₂.extBut _ _ D.i1z.symm hz₁)))
    have hk₅ : ∀ c o, c ≠ z → c ≠ TO → c ≠ i1 → c ≠ i2 → s.heap.get? c = some o → h₅.get? c = some o := fun c o c1 c2 c3 c4 e =>
      hs₅.extBut _ _ c2 (hs₄.extBut _ _ c4 (hs₃.extBut _ _ c2 (hs₂.extBut _ _ c3 (hs₁.extBut _ _ c1 e))))
    have h1₅ : h₅.IsTupleIter i1 l1 (k + 1) := ((h1₂.extBut hs₃.extBut D.TOi1.symm).extBut hs₄.extBut D.i12).extBut hs₅.extBut D.TOi1.symm
    have h2₅ : h₅.IsTupleIter i2 l2 (k + 1) := h2₄.extBut hs₅.extBut D.TOi2.symm
    have hzlt : z < h₅.objs.size := Heap.lt_size hz₅
    show wpAny _ _ (Builtin.SmallTypes.ownedTupleHandOut (.ref z) (.ref h₅.objs.size) >>= _) _ _ _
    refine wpAny_bind ?_
    unfold Builtin.SmallTypes.ownedTupleHandOut
    have hz₆ : (h₅.push { cls := .type "tuple", data := .seq #[x, y] }).get? z = some { cls := .type "zip", dict := none, data := .fields #[.ellipsis, f1, .bool false, .ref TI, .ref TO], slots := #[] } := Heap.get?_push_of_some _ hz₅
    refine wpAny_bind (wpAny_setField_rec hz₆ (by simp) fun h₇ hz₇ hs₇ => ?_)
    replace hz₇ : h₇.get? z = some { cls := .type "zip", dict := none, data := .fields #[rawInt h₅.objs.size, f1, .bool false, .ref TI, .ref TO], slots := #[] } := hz₇
    refine wpAny_setField_rec hz₇ (by simp) fun h₈ hz₈ hs₈ => ?_
    replace hz₈ : h₈.get? z = some { cls := .type "zip", dict := none, data := .fields #[rawInt h₅.objs.size, .bool false, .bool false, .ref TI, .ref TO], slots := #[] } := hz₈
    have up : ∀ c o, c ≠ z → h₅.get? c = some o → h₈.get? c = some o := fun c o c1 e => hs₈.extBut _ _ c1 (hs₇.extBut _ _ c1 (Heap.get?_push_of_some _ e))
    have hT₈ : IsPair h₈ h₅.objs.size x y := hs₈.extBut _ _ (Nat.ne_of_gt hzlt) (hs₇.extBut _ _ (Nat.ne_of_gt hzlt) (Heap.get?_push_size _ rfl))
    have hkk : ∀ c o, c ∉ [z, TO, i1, i2] → s.heap.get? c = some o → h₈.get? c = some o := fun c o hc e => up c o (fun q => hc (by simp [q])) (hk₅ c o (fun q => hc (by simp [q])) (fun q => hc (by simp [q])) (fun q => hc (by simp [q])) (fun q => hc (by simp [q])) e)
    refine wpAny_pure ⟨_, rfl, ?_⟩
    refine hQ h₈ _ (Nat.le_of_eq hsz.symm) hT₈ ⟨⟨_, _, hz₈, .inr ⟨_, _, rfl, hT₈⟩⟩, ?_, ⟨x, y, up _ _ D.TOz hTO₅⟩, h1₅.at fun o e => up _ o D.i1z e, h2₅.at fun o e => up _ o D.i2z e, hl1.at fun o e => hkk _ o ?_ e, hl2.at fun o e => hkk _ o ?_ e⟩ hkk
    · exact hkk _ _ (by simp [D.TIz, D.TITO, D.TIi1, D.TIi2]) hTI
    · simp [D.l1z, D.l1TO, D.l1i1, D.l1i2]
    · simp [D.l2z, D.l2TO, D.l2i1, D.l2i2]
  · show wpAny _ _ (loadIfAlive ((ad : Int).toNat) >>= _) _ _ _
    refine wpAny_bind (loadIfAlive_ (α := Unit) ?_)
    rw [Int.toNat_natCast, had]
    simp only [Option.isNone_some, Bool.false_eq_true, if_false]
    refine wpAny_bind (wpAny_field hz rfl (x := f1) rfl ?_)
    refine wpAny_mono (Q := fun c s' => c = false ∧ Ex2 fun h₁ f1' => An3 (s' = { s with heap := h₁ }) (h₁.get? z = some { cls := .type "zip", dict := none, data := .fields #[rawInt ad, f1', .bool false, .ref TI, .ref TO], slots := #[] }) (Heap.SameBut z s.heap h₁)) (E := E) ?_ ?_ (fun zz zz e => e)
    · split
      · refine wpAny_bind (wpAny_setField_rec hz (by simp) fun h₁ hz₁ hs₁ => wpAny_pure ⟨rfl, h₁, _, rfl, hz₁, hs₁⟩)
      · exact wpAny_pure ⟨rfl, s.heap, f1, rfl, hz, Heap.SameBut.refl _ _⟩
    rintro _ _ ⟨rfl, h₁, f1', rfl, hz₁, hs₁⟩
    simp only [Bool.false_eq_true, if_false, List.forIn_toArray, List.forIn_cons, List.forIn_nil]
    refine wpAny_bind ?_
    refine wpAny_bind (wpAny_bind (wpAny_holding ?_))
    show wpAny _ _ (Builtin.SmallTypes.nextOf (.ref i1) >>= _) _ _ _
    refine wpAny_bind (nextOf_tuple_item (h1.extBut hs₁.extBut D.i1z) (hl1.extBut hs₁.extBut D.l1z) hx fun h₂ h1₂ hs₂ => wpAny_pure (wpAny_pure ?_))
    refine wpAny_bind (wpAny_bind (wpAny_holding ?_))
    show wpAny _ _ (Builtin.SmallTypes.nextOf (.ref i2) >>= _) _ _ _
    refine wpAny_bind (nextOf_tuple_item ((h2.extBut hs₁.extBut D.i2z).extBut hs₂.extBut D.i12.symm) ((hl2.extBut hs₁.extBut D.l2z).extBut hs₂.extBut D.l2i1) hy fun h₃ h2₃ hs₃ => wpAny_pure (wpAny_pure (wpAny_pure ?_)))
    have up3 : ∀ c o, c ≠ i1 → c ≠ i2 → h₁.get? c = some o → h₃.get? c = some o := fun c o c1 c2 e => hs₃.extBut _ _ c2 (hs₂.extBut _ _ c1 e)
    have hsz : h₃.objs.size = s.heap.objs.size := by rw [hs₃.1, hs₂.1, hs₁.1]
    show wpAny _ _ (newTuple [x, y] >>= _) _ _ _
    refine wpAny_bind (wpAny_newTuple ?_)
    have hkk : ∀ c o, c ∉ [z, TO, i1, i2] → s.heap.get? c = some o → (h₃.push { cls := .type "tuple", data := .seq #[x, y] }).get? c = some o := fun c o hc e =>
      Heap.get?_push_of_some _ (up3 c o (fun q => hc (by simp [q])) (fun q => hc (by simp [q])) (hs₁.extBut _ _ (fun q => hc (by simp [q])) e))
    have hz₄ : (h₃.push { cls := .type "tuple", data := .seq #[x, y] }).get? z = some _ := Heap.get?_push_of_some _ (up3 _ _ D.i1z.symm D.i2z.symm hz₁)
    have hal : ∃ od, (h₃.push { cls := .type "tuple", data := .seq #[x, y] }).get? ad = some od := by
      by_cases e1 : ad = i1
      · obtain ⟨o, ho, _⟩ := h1₂.extBut hs₃.extBut D.i12
        exact ⟨o, Heap.get?_push_of_some _ (e1 ▸ ho)⟩
      by_cases e2 : ad = i2
      · obtain ⟨o, ho, _⟩ := h2₃
        exact ⟨o, Heap.get?_push_of_some _ (e2 ▸ ho)⟩
      by_cases e3 : ad = z
      · exact ⟨_, by rw [e3]; exact hz₄⟩
      exact ⟨od, Heap.get?_push_of_some _ (up3 _ _ e1 e2 (hs₁.extBut _ _ e3 had))⟩
    refine wpAny_pure ⟨_, rfl, ?_⟩
    refine hQ _ _ (Nat.le_of_eq hsz.symm) (Heap.get?_push_size _ rfl) ⟨⟨_, _, hz₄, .inr ⟨_, hal.choose, rfl, hal.choose_spec⟩⟩, hkk _ _ (by simp [D.TIz, D.TITO, D.TIi1, D.TIi2]) hTI, ⟨a, b, ?_⟩, ?_, ?_, hl1.at fun o e => hkk _ o ?_ e, hl2.at fun o e => hkk _ o ?_ e⟩ hkk
    · exact Heap.get?_push_of_some _ (up3 _ _ D.TOi1 D.TOi2 (hs₁.extBut _ _ D.TOz hTO))
    · exact (h1₂.extBut hs₃.extBut D.i12).at fun o e => Heap.get?_push_of_some _ e
    · exact h2₃.at fun o e => Heap.get?_push_of_some _ e
    · simp [D.l1z, D.l1TO, D.l1i1, D.l1i2]
    · simp [D.l2z, D.l2TO, D.l2i1, D.l2i2]
theorem zs_end (hh : A.handled = none) (D : ZipApart z TI TO i1 i2 l1 l2) (hS : ZS s.heap z TI TO i1 i2 l1 l2 xs ys k) {Q : Fin → Shared → Prop} (hx : xs[k]? = none)
    (hE : ∀ h' e, (∀ c o, c ∉ [z, TO, i1, i2] → s.heap.get? c = some o → h'.get? c = some o) → (∃ o, h'.get? e = some o ∧ o.cls = .type "StopIteration") → E (.ref e) { s with heap := h' }) :
    wpAny (model prog w) A (Builtin.«zip.__next__» ⟨[.ref z], []⟩) Q E s := by
  obtain ⟨⟨f0, f1, hz, hf⟩, hTI, ⟨a, b, hTO⟩, h1, h2, hl1, hl2⟩ := hS
  show wpAny _ _ (field (.ref z) 2 >>= _) _ _ _
  refine wpAny_bind (wpAny_field hz rfl (x := .bool false) rfl ?_)
  show wpAny _ _ (field (.ref z) 3 >>= _) _ _ _
  refine wpAny_bind (wpAny_field hz rfl (x := .ref TI) rfl ?_)
  refine wpAny_bind (wpAny_seqItems hTI rfl ?_)
  show wpAny _ _ (Builtin.SmallTypes.ownedTupleIsFree (.ref z) >>= _) _ _ _
  refine wpAny_bind ?_
  unfold Builtin.SmallTypes.ownedTupleIsFree
  refine wpAny_bind (wpAny_field hz rfl (x := f0) rfl ?_)
  rcases hf with rfl | ⟨ad, od, rfl, had⟩
  · refine wpAny_pure ?_
    simp only [if_true]
    refine wpAny_bind (wpAny_rule ?_)
    refine wpAny_bind (wpAny_field hz rfl (x := .ref TO) rfl ?_)
    refine wpAny_bind (wpAny_setField_rec hz (by simp) fun h₁ hz₁ hs₁ => ?_)
    refine wpAny_bind ?_
    simp only [List.zipIdx_cons, List.zipIdx_nil, List.forIn_cons, List.forIn_nil]
    refine wpAny_bind (wpAny_bind (wpAny_onRaise ?_))
    show wpAny _ _ (Builtin.SmallTypes.nextOf (.ref i1) >>= _) _ _ _
    refine wpAny_bind (nextOf_tuple_end hh (h1.extBut hs₁.extBut D.i1z) (hl1.extBut hs₁.extBut D.l1z) hx fun h₂ e hs₂ he => ?_)
    obtain ⟨oe, hoe, hce⟩ := he
    have hz₂ := hs₂ _ _ D.i1z.symm hz₁
    have hez : e ≠ z := fun x => by subst x; rw [hz₂] at hoe; cases hoe; simp at hce
    refine wpAny_setField_rec hz₂ (by simp) fun h₃ zz hs₃ => hE h₃ e (fun c o hc x => hs₃.extBut _ _ (fun q => hc (by simp [q])) (hs₂ _ _ (fun q => hc (by simp [q])) (hs₁.extBut _ _ (fun q => hc (by simp [q])) x))) ⟨oe, hs₃.extBut _ _ hez hoe, hce⟩
  · show wpAny _ _ (loadIfAlive ((ad : Int).toNat) >>= _) _ _ _
    refine wpAny_bind (loadIfAlive_ (α := Unit) ?_)
    rw [Int.toNat_natCast, had]
    simp only [Option.isNone_some, Bool.false_eq_true, if_false]
    refine wpAny_bind (wpAny_field hz rfl (x := f1) rfl ?_)
    refine wpAny_mono (Q := fun c s' => c = false ∧ Ex2 fun h₁ f1' => An3 (s' = { s with heap := h₁ }) (h₁.get? z = some { cls := .type "zip", dict := none, data := .fields #[rawInt ad, f1', .bool false, .ref TI, .ref TO], slots := #[] }) (Heap.SameBut z s.heap h₁)) (E := E) ?_ ?_ (fun zz zz e => e)
    · split
      · refine wpAny_bind (wpAny_setField_rec hz (by simp) fun h₁ hz₁ hs₁ => wpAny_pure ⟨rfl, h₁, _, rfl, hz₁, hs₁⟩)
      · exact wpAny_pure ⟨rfl, s.heap, f1, rfl, hz, Heap.SameBut.refl _ _⟩
    rintro _ _ ⟨rfl, h₁, f1', rfl, hz₁, hs₁⟩
    simp only [Bool.false_eq_true, if_false, List.forIn_toArray, List.forIn_cons, List.forIn_nil]
    refine wpAny_bind ?_
    refine wpAny_bind (wpAny_bind (wpAny_holding ?_))
    show wpAny _ _ (Builtin.SmallTypes.nextOf (.ref i1) >>= _) _ _ _
    refine wpAny_bind (nextOf_tuple_end hh (h1.extBut hs₁.extBut D.i1z) (hl1.extBut hs₁.extBut D.l1z) hx fun h₂ e hs₂ he => ?_)
    exact hE h₂ e (fun c o hc x => hs₂ _ _ (fun q => hc (by simp [q])) (hs₁.extBut _ _ (fun q => hc (by simp [q])) x)) he
theorem zs_next (D : ZipApart z TI TO i1 i2 l1 l2) (hS : ZS s.heap z TI TO i1 i2 l1 l2 xs ys k) {x y : Value} {Q : Option Value → Shared → Prop} (hx : xs[k]? = some x) (hy : ys[k]? = some y)
    (hQ : ∀ h' T, s.heap.objs.size ≤ T → h'.get? T = some (tupO [x, y] 0) → ZS h' z TI TO i1 i2 l1 l2 xs ys (k + 1) → (∀ c o, c ∉ [z, TO, i1, i2] → s.heap.get? c = some o → h'.get? c = some o) → Q (some (.ref T)) { s with heap := h' }) :
    wpAny (model prog w) A (pyNext (.ref z)) Q E s := by
  have hT : s.TypeIs (.ref z) "zip" := let ⟨f0, f1, hz, _⟩ := hS.Z; ⟨_, hz, rfl⟩
  unfold pyNext
  exact wpAny_bind (wpAny_attempt (wpAny_callSpecial?_slot (name := Str.ofString "__next__") hT F.slot_zip_next
    (wpAny_call_entry F.slot_zip_next hT F.entry_zip_next
      (zs_item D hS hx hy fun h' T a1 a2 a3 a4 => wpAny_pure (hQ h' T a1 a2 a3 a4)) (F.args_zip_next_1 _))))
theorem zs_done (hh : A.handled = none) (D : ZipApart z TI TO i1 i2 l1 l2) (hS : ZS s.heap z TI TO i1 i2 l1 l2 xs ys k) {Q : Option Value → Shared → Prop} (hx : xs[k]? = none)
    (hQ : ∀ h', (∀ c o, c ∉ [z, TO, i1, i2] → s.heap.get? c = some o → h'.get? c = some o) → Q none { s with heap := h' }) : wpAny (model prog w) A (pyNext (.ref z)) Q E s := by
  have hT : s.TypeIs (.ref z) "zip" := let ⟨f0, f1, hz, _⟩ := hS.Z; ⟨_, hz, rfl⟩
  unfold pyNext
  refine wpAny_bind (wpAny_attempt (wpAny_callSpecial?_slot (name := Str.ofString "__next__") hT F.slot_zip_next
    (wpAny_call_entry F.slot_zip_next hT F.entry_zip_next (zs_end (A := A.in1) hh D hS hx fun h' e hk he => ?_) (F.args_zip_next_1 _))))
  obtain ⟨o, ho, hc⟩ := he
  refine wpAny_bind (wpAny_isInstance (T := "StopIteration") (b := true) ⟨o, ho, hc⟩ isSubtype_stop ?_)
  exact wpAny_pure (hQ _ hk)
theorem ZS.keep {h h' : Heap} (hS : ZS h z TI TO i1 i2 l1 l2 xs ys k) (hk : ∀ b o, b ∈ [z, TI, TO, i1, i2, l1, l2] → h.get? b = some o → h'.get? b = some o) (ha : ∀ b o, h.get? b = some o → ∃ o', h'.get? b = some o') : ZS h' z TI TO i1 i2 l1 l2 xs ys k := by
  obtain ⟨⟨f0, f1, hz, hf⟩, hTI, ⟨a, b, hTO⟩, h1, h2, hl1, hl2⟩ := hS
  exact ⟨⟨f0, f1, hk _ _ (by simp) hz, hf.imp id fun ⟨a, o, e, e'⟩ => let ⟨o', e''⟩ := ha a o e'; ⟨a, o', e, e''⟩⟩, hk _ _ (by simp) hTI, ⟨a, b, hk _ _ (by simp) hTO⟩, h1.at fun o e => hk _ o (by simp) e, h2.at fun o e => hk _ o (by simp) e, hl1.at fun o e => hk _ o (by simp) e, hl2.at fun o e => hk _ o (by simp) e⟩

noncomputable def PairsOf (h₀ h : Heap) (acc : Array Value) (xs ys : List Value) (i : Nat) : Prop := acc.size = i ∧ ∀ j, j < i → Ex3 fun T x y => An5 (acc[j]? = some (.ref T)) (xs[j]? = some x) (ys[j]? = some y) (h.get? T = some (tupO [x, y] 0)) (h₀.get? T = none)
theorem zs_loop {R : Result → Shared → Prop} (hh : A.handled = none) (D : ZipApart z TI TO i1 i2 l1 l2) {S : Addr} {h₀ : Heap} {xl yl : List Value} (hl : xl.length = yl.length) (hsz : xl.length ≤ 1000)
    (hSf : S ∉ [z, TI, TO, i1, i2, l1, l2]) (hz0 : ∀ b ∈ [S, z, TO, i1, i2], h₀.get? b = none) (res : Value) :
    ∀ (n i : Nat) (s : Shared) (acc : Array Value) (c : Nat), xl.length - i = n → i ≤ xl.length → ZS s.heap z TI TO i1 i2 l1 l2 xl.toArray yl.toArray i → s.heap.get? S = some { cls := .type "list", dict := none, data := .seq acc c, slots := #[] } → PairsOf h₀ s.heap acc xl yl i → Up h₀ s.heap →
      (∀ j, j < i → ∀ T, acc[j]? = some (.ref T) → T ∉ [S, z, TO, i1, i2]) →
      (∀ h' tk acc' c', h'.get? S = some { cls := .type "list", dict := none, data := .seq acc' c', slots := #[] } → PairsOf h₀ h' acc' xl yl xl.length → Up h₀ h' → R (.ok (.ret res)) { s with heap := h', toks := tk }) →
      codeAny (model prog w) A (.builtin "list.extend.loop" ⟨[.ref S, .ref z, res], []⟩) R s := by
  have hSw : S ∉ [z, TO, i1, i2] := fun h => hSf (by simp at h ⊢; rcases h with h | h | h | h <;> simp [h])
  have up' : ∀ h h' : Heap, Up h₀ h → (∀ c o, c ∉ [z, TO, i1, i2] → h.get? c = some o → h'.get? c = some o) → Up h₀ h' := fun h h' u hk b o e => hk b o (fun hm => by rw [hz0 b (.tail _ hm)] at e; (first | subst e | cases e)) (u b o e)
  intro n
  induction n with
  | zero =>
    intro i s acc c hk hi hst hS hacc hu hT hR
    have hin : i = xl.length := by omega
    subst hin
    refine codeAny_builtin F.entry_extend_loop ?_
    rw [Around.under_plainId F.plain_extend_loop _]
    show wpAny _ A.in1 (pyNext (.ref z) >>= _) _ _ s
    refine wpAny_bind (zs_done (A := A.in1) hh D hst (by simp) fun h' hk' => ?_)
    refine wpAny_pure (hR h' s.toks acc c (hk' S _ hSw hS) ⟨hacc.1, fun j hj => ?_⟩ (up' _ _ hu hk'))
    obtain ⟨T, x, y, a1, a2, a3, a4, a5⟩ := hacc.2 j hj
    exact ⟨T, x, y, a1, a2, a3, hk' T _ (fun hm => hT j hj T a1 (.tail _ hm)) a4, a5⟩
  | succ n ih =>
    intro i s acc c hk hi hst hS hacc hu hT hR
    have hlt : i < xl.length := by omega
    refine codeAny_builtin F.entry_extend_loop ?_
    rw [Around.under_plainId F.plain_extend_loop _]
    show wpAny _ A.in1 (pyNext (.ref z) >>= _) _ _ s
    have ex : xl.toArray[i]? = some xl[i] := by simp [hlt]
    have ey : yl.toArray[i]? = some (yl[i]'(hl ▸ hlt)) := by simp [hl ▸ hlt]
    refine wpAny_bind (zs_next (A := A.in1) D hst ex ey fun h' T hTs hTo hst' hk' => ?_)
    have hS' := hk' S _ hSw hS
    show wpAny _ A.in1 (updateSeq S (·.push (.ref T)) >>= _) _ _ _
    refine wpAny_bind ?_
    have fresh : ∀ b o, s.heap.get? b = some o → T ≠ b := fun b o e q => by
      have := Heap.lt_size e
      rw [← q] at this; exact Nat.lt_irrefl _ (Nat.lt_of_lt_of_le this hTs)
    have hT0 : h₀.get? T = none := by
      cases e : h₀.get? T with
      | none => rfl
      | some o => exact absurd rfl (fresh _ _ (hu _ _ e))
    have hTw : T ∉ [S, z, TO, i1, i2] := fun hm => by
      obtain ⟨⟨f0, f1, hz, _⟩, hTI, ⟨a, b, hTO⟩, ⟨_, h1, _⟩, ⟨_, h2, _⟩, _⟩ := hst
      simp at hm
      rcases hm with e | e | e | e | e
      · exact fresh _ _ hS e
      · exact fresh _ _ hz e
      · exact fresh _ _ hTO e
      · exact fresh _ _ h1 e
      · exact fresh _ _ h2 e
    refine wpAny_updateSeq hS' rfl (wpAny_pure ⟨plainId_quiet F.plain_extend_loop _, ih (i + 1) _ (acc.push (.ref T)) _ (by omega) hlt ?_ (Heap.get?_update_self _ hS' rfl) ⟨by simp [hacc.1], fun j hj => ?_⟩ ?_ (fun j hj T' hT' => ?_) fun h'' tk acc' c' a1 a2 a3 => hR h'' tk acc' c' a1 a2 a3⟩)
      (by rw [hacc.1, sizeLine_eq]; omega) (by show (acc.push _).size ≤ sizeLine + 1; rw [Array.size_push, hacc.1, sizeLine_eq]; omega)
    · refine hst'.keep (fun b o hb e => (Heap.get?_update_other _ _ (fun q : S = b => hSf (by rw [q]; exact hb))).trans e) fun b o e => ?_
      by_cases q : S = b
      · subst q; exact ⟨_, Heap.get?_update_self _ hS' rfl⟩
      · exact ⟨o, (Heap.get?_update_other _ _ q).trans e⟩
    · rcases Nat.lt_or_ge j i with hj' | hj'
      · obtain ⟨T', x, y, a1, a2, a3, a4, a5⟩ := hacc.2 j hj'
        have hn := hT j hj' T' a1
        refine ⟨T', x, y, ?_, a2, a3, (Heap.get?_update_other _ _ (fun q : S = T' => hn (by simp [q]))).trans (hk' T' _ (fun hm => hn (.tail _ hm)) a4), a5⟩
        rw [Array.getElem?_push_lt (by rw [hacc.1]; exact hj'), ← Array.getElem?_eq_getElem]
        exact a1
      · have : j = i := by omega
        subst this
        refine ⟨T, xl[j], yl[j]'(hl ▸ hlt), ?_, by simp [hlt], by simp [hl ▸ hlt], (Heap.get?_update_other _ _ (fun q : S = T => hTw (by simp [q]))).trans hTo, hT0⟩
        rw [← hacc.1]; simp
    · intro b o e
      exact (Heap.get?_update_other _ _ (fun q : S = b => by rw [← q, hz0 S (.head _)] at e; (first | subst e | cases e))).trans (up' _ _ hu hk' b o e)
    · rcases Nat.lt_or_ge j i with hj' | hj'
      · refine hT j hj' T' ?_
        rw [Array.getElem?_push_lt (by rw [hacc.1]; exact hj'), ← Array.getElem?_eq_getElem] at hT'
        exact hT'
      · have : j = i := by omega
        subst this
        rw [← hacc.1] at hT'
        simp at hT'
        exact hT' ▸ hTw
end
end Mine
end
section
open PySem PySem.W PyProof.Rows PySem.Calls PySem.Builtin PySem.Builtin.Str
namespace Mine
set_option maxRecDepth 100000

noncomputable abbrev zpH1 (h : Heap) (l1 : Addr) : Heap := h.push { cls := .type "tuple_iterator", data := .fields #[.ref l1, .int 0 0] }
noncomputable abbrev zpH2 (h : Heap) (l1 l2 : Addr) : Heap := (zpH1 h l1).push { cls := .type "tuple_iterator", data := .fields #[.ref l2, .int 0 0] }
noncomputable abbrev zpH3 (h : Heap) (l1 l2 : Addr) : Heap := (zpH2 h l1 l2).push { cls := .type "tuple", data := .seq #[.ref h.objs.size, .ref (zpH1 h l1).objs.size] }
noncomputable abbrev zpH4 (h : Heap) (l1 l2 : Addr) : Heap := (zpH3 h l1 l2).push { cls := .type "tuple", data := .seq #[.none, .none] }
noncomputable abbrev zpH5 (h : Heap) (l1 l2 : Addr) : Heap := (zpH4 h l1 l2).push { cls := .type "zip", data := .fields #[.none, .bool false, .bool false, .ref (zpH2 h l1 l2).objs.size, .ref (zpH3 h l1 l2).objs.size] }
theorem meets_zip_tt (l1 l2 : Addr) (xs ys : Array Value) :
    Meets (Builtin.«zip.__new__» ⟨[.type "zip", .ref l1, .ref l2], []⟩) (fun zz R s => An3 (s.heap.IsTuple l1 xs) (s.heap.IsTuple l2 ys) (R (.ok (.ret (.ref (zpH4 s.heap l1 l2).objs.size))) { s with heap := zpH5 s.heap l1 l2 })) :=
  .of_wp fun prog w A R s h => by
    obtain ⟨hp, g, d, tk, os⟩ := s; obtain ⟨hl1, hl2, h⟩ := h
    have hsub : isSubtype (.type "zip") (.type "zip") = pure true := by rw [isSubtype_type]; kernel_rfl
    have hL1 : Heap.IsTuple (Shared.heap ⟨hp, g, d, tk, os⟩) l1 xs := hl1
    have hL2 : Heap.IsTuple (Shared.heap ⟨hp.push { cls := .type "tuple_iterator", data := .fields #[.ref l1, .int 0 0] }, g, d, tk, os⟩) l2 ys := Heap.IsTuple.push hl2 _
    wp_walk using wpAny_pyIter_tuple hL1, wpAny_pyIter_tuple hL2
    exact ⟨_, rfl, h⟩
section
variable {prog : Program} {w : World} {A : Around} {E : Value → Shared → Prop} {s : Shared}
theorem call_zip_tt {l1 l2 : Addr} {xs ys : Array Value} {Q : Value → Shared → Prop} (hl1 : s.heap.IsTuple l1 xs) (hl2 : s.heap.IsTuple l2 ys)
    (h : ∀ h', ZS h' (s.heap.objs.size + 4) (s.heap.objs.size + 2) (s.heap.objs.size + 3) s.heap.objs.size (s.heap.objs.size + 1) l1 l2 xs ys 0 → h'.objs.size = s.heap.objs.size + 5 →
      (∀ c o, s.heap.get? c = some o → h'.get? c = some o) → Q (.ref (s.heap.objs.size + 4)) { s with heap := h' }) :
    wpAny (model prog w) A (call (.type "zip") [.ref l1, .ref l2]) Q E s := by
  refine callType_new F.called_zip (by decide) (F.typeCall_zip_2 _ _) (F.newCall_zip_2 _ _) (fun obj => F.args_object_init_3 obj _ _) F.entry_zip_new
    (meets_zip_tt l1 l2 xs ys) ⟨hl1, hl2, ?_⟩
  have z1 : (zpH1 s.heap l1).objs.size = s.heap.objs.size + 1 := Heap.size_push ..
  have z2 : (zpH2 s.heap l1 l2).objs.size = s.heap.objs.size + 2 := by rw [Heap.size_push, z1]
  have z3 : (zpH3 s.heap l1 l2).objs.size = s.heap.objs.size + 3 := by rw [Heap.size_push, z2]
  have z4 : (zpH4 s.heap l1 l2).objs.size = s.heap.objs.size + 4 := by rw [Heap.size_push, z3]
  have z5 : (zpH5 s.heap l1 l2).objs.size = s.heap.objs.size + 5 := by rw [Heap.size_push, z4]
  have g5 : (zpH5 s.heap l1 l2).get? (zpH4 s.heap l1 l2).objs.size = some _ := Heap.get?_push_size _ rfl
  have g4 : (zpH5 s.heap l1 l2).get? (zpH3 s.heap l1 l2).objs.size = some _ := Heap.get?_push_of_some _ (Heap.get?_push_size _ rfl)
  have g3 : (zpH5 s.heap l1 l2).get? (zpH2 s.heap l1 l2).objs.size = some _ := Heap.get?_push_of_some _ (Heap.get?_push_of_some _ (Heap.get?_push_size _ rfl))
  have g2 : (zpH5 s.heap l1 l2).get? (zpH1 s.heap l1).objs.size = some _ := Heap.get?_push_of_some _ (Heap.get?_push_of_some _ (Heap.get?_push_of_some _ (Heap.get?_push_size _ rfl)))
  have g1 : (zpH5 s.heap l1 l2).get? s.heap.objs.size = some _ := Heap.get?_push_of_some _ (Heap.get?_push_of_some _ (Heap.get?_push_of_some _ (Heap.get?_push_of_some _ (Heap.get?_push_size _ rfl))))
  show _ ∧ _
  rw [z2, z3, z4] at g5
  rw [z1, z2] at g3
  rw [z3] at g4
  rw [z1] at g2
  rw [z4]
  have kp : ∀ c o, s.heap.get? c = some o → (zpH5 s.heap l1 l2).get? c = some o := fun c o x =>
    Heap.get?_push_of_some _ (Heap.get?_push_of_some _ (Heap.get?_push_of_some _ (Heap.get?_push_of_some _ (Heap.get?_push_of_some _ x))))
  exact ⟨⟨_, g5, rfl⟩, h _ ⟨⟨_, _, g5, .inl rfl⟩, g3, ⟨_, _, g4⟩, ⟨_, g1, rfl, rfl⟩, ⟨_, g2, rfl, rfl⟩, hl1.at fun o e => kp _ o e, hl2.at fun o e => kp _ o e⟩ z5 kp⟩

theorem zs_iter {z TI TO i1 i2 l1 l2 : Addr} {xs ys k} {Q : Value → Shared → Prop} (hS : ZS s.heap z TI TO i1 i2 l1 l2 xs ys k) (h : Q (.ref z) s) : wpAny (model prog w) A (pyIter (.ref z)) Q E s := by
  have hT : s.TypeIs (.ref z) "zip" := let ⟨f0, f1, hz, _⟩ := hS.Z; ⟨_, hz, rfl⟩
  refine wpAny_pyIter_slot hT F.slot_zip_iter (wpAny_call_entry F.slot_zip_iter hT F.entry_zip_iter ?_ (F.args_zip_iter_1 _))
  show wpAny _ _ (ret (.ref z)) _ _ s
  exact wpAny_pure ⟨_, rfl, "zip", _, hT, F.slot_zip_next.lookup, h⟩
theorem zs_hint {z TI TO i1 i2 l1 l2 : Addr} {xs ys k} {Q : Bool → Shared → Prop} (hS : ZS s.heap z TI TO i1 i2 l1 l2 xs ys k) (h : Q true s) : wpAny (model prog w) A (Builtin.List.listLengthHint (.ref z)) Q E s := by
  have hT : s.TypeIs (.ref z) "zip" := let ⟨f0, f1, hz, _⟩ := hS.Z; ⟨_, hz, rfl⟩
  unfold Builtin.List.listLengthHint
  refine wpAny_bind (wpAny_specialOf hT zip_no_len ?_)
  show wpAny _ A (specialOf (Value.ref z) (Str.ofString "__length_hint__") >>= _) _ _ _
  exact wpAny_bind (wpAny_specialOf hT zip_no_hint (wpAny_pure h))

theorem call_list_zip {z TI TO i1 i2 l1 l2 : Addr} {xl yl : List Value} {h₀ : Heap} {Q : Value → Shared → Prop} (hh : A.handled = none) (D : ZipApart z TI TO i1 i2 l1 l2)
    (hZ : ZS s.heap z TI TO i1 i2 l1 l2 xl.toArray yl.toArray 0) (hl : xl.length = yl.length) (hsz : xl.length ≤ 1000) (hu : Up h₀ s.heap) (hz0 : ∀ b ∈ [z, TO, i1, i2], h₀.get? b = none)
    (hQ : ∀ S h' tk acc c, h'.get? S = some { cls := .type "list", dict := none, data := .seq acc c, slots := #[] } → h₀.get? S = none → PairsOf h₀ h' acc xl yl xl.length → Up h₀ h' → Q (.ref S) { s with heap := h', toks := tk }) :
    wpAny (model prog w) A (call (.type "list") [.ref z]) Q E s := by
  refine callType_codes (Q₁ := fun obj s₁ => obj = .ref s.heap.objs.size ∧ s₁ = { s with heap := s.heap.push { cls := .type "list", data := .seq #[] } }) PySem.F.called_list (PySem.F.typeCall_list_1 _) PySem.F.entry_list_init
    (code_list_new _ ⟨rfl, rfl⟩) fun obj s₁ h₁ => ?_
  obtain ⟨rfl, rfl⟩ := h₁
  generalize hSS : s.heap.objs.size = S
  have hS : (s.heap.push { cls := .type "list", data := .seq #[] }).get? S = some { cls := .type "list", data := .seq #[] } := by rw [← hSS]; exact Heap.get?_push_size _ rfl
  have hnone : s.heap.get? S = none := by
    cases e : s.heap.get? S with
    | none => rfl
    | some o => exact absurd (Heap.lt_size e) (by rw [hSS]; exact Nat.lt_irrefl _)
  have hne : ∀ b, (∃ o, s.heap.get? b = some o) → S ≠ b := fun b ⟨o, e⟩ q => by rw [← q, hnone] at e; (first | subst e | cases e)
  have hSf : S ∉ [z, TI, TO, i1, i2, l1, l2] := by
    obtain ⟨⟨f0, f1, hz, _⟩, hTI, ⟨a, b, hTO⟩, ⟨_, h1, _⟩, ⟨_, h2, _⟩, ⟨_, h3, _⟩, ⟨_, h4, _⟩⟩ := hZ
    intro hm
    simp at hm
    rcases hm with e | e | e | e | e | e | e
    · exact hne _ ⟨_, hz⟩ e
    · exact hne _ ⟨_, hTI⟩ e
    · exact hne _ ⟨_, hTO⟩ e
    · exact hne _ ⟨_, h1⟩ e
    · exact hne _ ⟨_, h2⟩ e
    · exact hne _ ⟨_, h3⟩ e
    · exact hne _ ⟨_, h4⟩ e
  have h0S : h₀.get? S = none := by
    cases e : h₀.get? S with
    | none => rfl
    | some o => rw [hu _ _ e] at hnone; cases hnone
  refine ⟨⟨_, hS, rfl⟩, PySem.F.args_list_init_2 _ _, ?_⟩
  have oth₁ : ∀ b o, b ≠ S → s.heap.get? b = some o → (s.heap.push { cls := .type "list", data := .seq #[] }).get? b = some o := fun b o zz e => Heap.get?_push_of_some _ e
  show wpAny _ _ (do let old ← Builtin.List.listItems (.ref S); Builtin.List.listUpdate (.ref S) (fun zz => #[]); letGo old.toList.reverse; Builtin.List.listExtendWith (.ref S) (.ref z) .none) _ _ _
  refine wpAny_bind ?_
  unfold Builtin.List.listItems
  refine wpAny_bind (wpAny_seqItems hS rfl (wpAny_pure ?_))
  show wpAny _ _ (updateSeq S (fun zz => #[]) >>= fun zz => letGo (#[] : Array Value).toList.reverse >>= fun zz => Builtin.List.listExtendWith (.ref S) (.ref z) .none) _ _ _
  refine wpAny_bind (wpAny_updateSeq hS rfl ?_)
  have hS₂ := Heap.get?_update_self (Obj.mapSeq (fun zz => (#[] : Array Value))) hS rfl
  have oth : ∀ b o, b ≠ S → s.heap.get? b = some o → ((s.heap.push { cls := .type "list", data := .seq #[] }).update S (Obj.mapSeq (fun zz => (#[] : Array Value)))).get? b = some o :=
    fun b o hb e => (Heap.get?_update_other _ _ (Ne.symm hb)).trans (oth₁ b o hb e)
  generalize (s.heap.push { cls := .type "list", data := .seq #[] }).update S (Obj.mapSeq (fun zz => (#[] : Array Value))) = hp₂ at hS₂ oth ⊢
  refine wpAny_bind (wpAny_letGo ?_)
  have zk : ∀ h' : Heap, (∀ b o, b ≠ S → s.heap.get? b = some o → h'.get? b = some o) → ZS h' z TI TO i1 i2 l1 l2 xl.toArray yl.toArray 0 := fun h' hk =>
    hZ.keep (fun b o hb e => hk b o (fun q => hSf (q ▸ hb)) e) fun b o e => ⟨o, hk b o (fun q => hne b ⟨o, e⟩ q.symm) e⟩
  have hz₂ := zk hp₂ oth
  have key : ∀ (h : Heap) (c₁ tk : Nat), (∀ b o, b ≠ S → s.heap.get? b = some o → h.get? b = some o) →
      h.get? S = some { cls := .type "list", data := .seq #[] c₁ } → codeAny (model prog w) A.in1 (.builtin "list.extend.loop" ⟨[.ref S, .ref z, .none], []⟩) (wants (fun r s₂ => r = Value.none ∧ Q (.ref S) s₂) E) { s with heap := h, toks := tk } := by
    intro h c₁ tk hk hS₁
    refine zs_loop (A := A.in1) (h₀ := h₀) hh D hl hsz hSf (fun b hb => ?_) .none _ 0 { s with heap := h, toks := tk } #[] c₁ rfl (Nat.zero_le _) (zk h hk) hS₁ ⟨rfl, fun j hj => absurd hj (Nat.not_lt_zero _)⟩ (fun b o e => ?_) (fun j hj => absurd hj (Nat.not_lt_zero _)) fun h' tk' acc' c' a1 a2 a3 => ?_
    · rcases List.mem_cons.mp hb with rfl | hb
      · exact h0S
      · exact hz0 b hb
    · exact hk b o (fun q => by rw [q, h0S] at e; (first | subst e | cases e)) (hu b o e)
    · exact ⟨rfl, hQ S h' tk' acc' c' a1 h0S a2 a3⟩
  unfold Builtin.List.listExtendWith
  refine wpAny_bind (wpAny_typeOf (T := "zip") (let ⟨f0, f1, hz, _⟩ := hz₂.Z; ⟨_, hz, rfl⟩) ?_)
  have h1 : Builtin.List.listSameRef (.ref S) (.ref z) = false := by
    have : S ≠ z := fun q => hSf (by simp [q])
    simp [Builtin.List.listSameRef, this]
  have h2 : (Value.type "zip" == Value.type "list") = false := by decide
  have h3 : (Value.type "zip" == Value.type "tuple") = false := by decide
  simp only [h1, h2, h3, Bool.or_false, Bool.false_eq_true, if_false]
  refine wpAny_bind (zs_iter hz₂ ?_)
  refine wpAny_bind (wpAny_holding (zs_hint hz₂ ?_))
  refine wpAny_ite_split (fun zz => ?_) (fun zz => wpAny_pure ⟨plainId_quiet PySem.F.plain_extend_loop _, key _ _ _ oth hS₂⟩)
  refine wpAny_bind (wpAny_rule ?_)
  refine wpAny_bind ?_
  show wpAny _ _ (updateSeq S (·.push .none) >>= fun zz => updateSeq S (·.pop)) _ _ _
  refine wpAny_bind (wpAny_updateSeq hS₂ rfl ?_)
  have hS₃ := Heap.get?_update_self (Obj.mapSeq (·.push Value.none)) hS₂ rfl
  refine wpAny_updateSeq (hz := by seq_fits) hS₃ rfl ?_
  have hS₄ := Heap.get?_update_self (Obj.mapSeq (·.pop)) hS₃ rfl
  refine wpAny_pure ⟨plainId_quiet PySem.F.plain_extend_loop _, key _ _ _ (fun b o hb e => ?_) hS₄⟩
  exact (Heap.get?_update_other _ _ (Ne.symm hb)).trans ((Heap.get?_update_other _ _ (Ne.symm hb)).trans (oth b o hb e))

theorem call_zip_list {l1 l2 : Addr} {xl yl : List Value} {Q : Value → Shared → Prop} (hh : A.handled = none) (hl1 : s.heap.IsTuple l1 xl.toArray) (hl2 : s.heap.IsTuple l2 yl.toArray) (hl : xl.length = yl.length) (hsz : xl.length ≤ 1000)
    (hQ : ∀ S h' tk acc c, h'.get? S = some { cls := .type "list", dict := none, data := .seq acc c, slots := #[] } → s.heap.get? S = none → PairsOf s.heap h' acc xl yl xl.length → Up s.heap h' → Q (.ref S) { s with heap := h', toks := tk }) :
    wpAny (model prog w) A (call (.type "zip") [.ref l1, .ref l2]) (fun z s₁ => wpAny (model prog w) A (call (.type "list") [z]) Q E s₁) E s := by
  have a1 : l1 < s.heap.objs.size := by obtain ⟨_, e, _⟩ := hl1; exact Heap.lt_size e
  have a2 : l2 < s.heap.objs.size := by obtain ⟨_, e, _⟩ := hl2; exact Heap.lt_size e
  refine call_zip_tt hl1 hl2 fun h' hZ hs hk => ?_
  refine call_list_zip (s := { s with heap := h' }) hh (zipApart_new a1 a2) hZ hl hsz (h₀ := s.heap) hk (fun b hb => ?_) hQ
  cases e : s.heap.get? b with
  | none => rfl
  | some o =>
    have := Heap.lt_size e
    simp at hb
    rcases hb with rfl | rfl | rfl | rfl
    · exact absurd this (Nat.not_lt.mpr (Nat.le_add_right _ _))
    · exact absurd this (Nat.not_lt.mpr (Nat.le_add_right _ _))
    · exact absurd this (Nat.lt_irrefl _)
    · exact absurd this (Nat.not_lt.mpr (Nat.le_add_right _ _))
end
end Mine
end
section
open PySem PySem.W PyProof.Rows PySem.Calls PySem.Builtin PySem.Builtin.Str
namespace Mine
set_option maxRecDepth 100000

section
variable {c : Cx} {pos p : Pos} {e i : PySem.Expr} {t : Addr} {vs : List Value}
theorem pe_item_tup {j : Nat} {x : Value} (he : PE c e (VE (.ref t))) (hi : PE c i (VI (j : Int))) (ht : c.g.IsTuple t vs.toArray) (hx : vs[j]? = some x) (hz : vs.length ≤ 1000) : PE c (.Subscript e i pos) (VE x) := fun s Q E H k =>
  sub_on (he s _ _ H fun u s₁ q H₁ => hi s₁ _ _ H₁ fun w s₂ ⟨tk, q'⟩ H₂ => by
    (first | subst q | cases q); subst q'
    have hj : j < vs.length := (List.getElem?_eq_some_iff.mp hx).1
    have ht₂ : IsTup s₂.heap t vs.toArray := let ⟨o, ho, r⟩ := ht; ⟨o, H₂.up _ _ ho, r⟩
    refine ⟨"tuple", _, slot_tuple_getitem.lookup, ht₂.typeIs, PyProof.Rows.getItem_tuple ht₂ (by omega) (by omega) (j := j) ?_ (by simpa using hx) (k _ _ rfl H₂)⟩
    have := seqIndex_of (k := (j : Int)) (n := vs.toArray.size) (by omega) (by simpa using hj)
    simpa using this)
end
section
variable {G : Gh} {A : Around} {env : Env} {g : Heap} {m : Str → Option Value} {mu : List (Addr × Obj)} {s : Shared} {Q : Value → Shared → Prop} {E : Value → Shared → Prop} {p pos : Pos} {e i : PySem.Expr}
theorem ev_tuple_from {t : Addr} {vs : List Value} {a : Nat} (H : At ⟨G, A, env, g, m, mu⟩ s) (he : PE ⟨G, A, env, g, m, mu⟩ e (VE (.ref t))) (hi : PE ⟨G, A, env, g, m, mu⟩ i (VI (a : Int))) (ht : g.IsTuple t vs.toArray) (h1 : 1 ≤ a) (ha : a ≤ vs.length) (hz : vs.length ≤ 1000)
    (k : ∀ T g' s', Up g g' → g'.get? T = some (tupO (vs.drop a) 0) → At ⟨G, A, env, g', m, mu⟩ s' → Q (.ref T) s') : wpAny G.M A (eval (.Subscript e (.Slice (some i) none none p) pos) env) Q E s := by
  refine sub_on (c := ⟨G, A, env, g, m, mu⟩) (he s _ _ H fun v s₁ q H₁ => ?_)
  refine wpAny_Slice (evalPart_some_step (hi s₁ _ _ H₁ fun u s₂ ⟨t', e'⟩ H₂ => evalPart_none_step (evalPart_none_step ?_)))
  (first | subst q | cases q); subst e'
  have H₃ := H₂.push { cls := .type "slice", data := .fields #[.int a t', .none, .none] }
  have ht' : IsTup (s₂.heap.push { cls := .type "slice", data := .fields #[.int a t', .none, .none] }) t vs.toArray := let ⟨o, ho, r⟩ := ht; ⟨o, H₃.up _ _ ho, r⟩
  refine ⟨"tuple", _, slot_tuple_getitem.lookup, ht'.typeIs, getItem_tuple_from (s := { s₂ with heap := s₂.heap.push { cls := .type "slice", data := .fields #[.int a t', .none, .none] } }) ht' (Heap.IsSliceOf.new ..) h1 (by simpa using ha) ?_ (by simp; rw [sizeLine_eq]; omega)⟩
  obtain ⟨g', u', hT, H'⟩ := At.freeze (c := ⟨G, A, env, g, m, (_, tupO (vs.drop a) 0) :: mu⟩) (H₃.alloc (o := tupO (vs.drop a) 0))
  have hk := k _ g' _ u' hT H'
  simpa using hk
end

theorem fn_operand_pairs (P : Params) : FnOK P fi_operand_pairs := ⟨by kernel_rfl, by kernel_rfl, by kernel_rfl⟩
noncomputable def pairD (e : Srt × Opd) : PyData := .tuple [.str (S e.1.txt), opdD e.2]
noncomputable def pairsOf (i : Ins) : List (Srt × Opd) := ((sortsOf i.w).getD []).zip i.ops
noncomputable def pairsD (i : Ins) : PyData := .list ((pairsOf i).map pairD)
theorem fits_len : ∀ {ss : List Srt} {os : List Opd}, fitsAll ss os = true → ss.length = os.length
  | [], [], _ => rfl
  | s :: ss, o :: os, h => by
    simp only [fitsAll, Bool.and_eq_true] at h
    simp [fits_len h.2]
  | [], _ :: _, h => by cases h
  | _ :: _, [], h => by cases h
theorem ops_short {e : List Nat × Addr × List Srt} (h : e ∈ opsTab) : e.2.2.length ≤ 3 := by
  have : (opsTab.all fun e => decide (e.2.2.length ≤ 3)) = true := by kernel_rfl
  exact of_decide_eq_true (List.all_eq_true.mp this e h)
theorem RDs.of_get {g : Heap} : ∀ {ds : List PyData} {vs : List Value}, vs.length = ds.length → (∀ (i : Nat) (v : Value) (d : PyData), vs[i]? = some v → ds[i]? = some d → RD g d v) → RDs g ds vs
  | [], [], _, _ => RDs.nil
  | d :: ds, v :: vs, hl, h => RDs.cons (h 0 v d rfl rfl) (RDs.of_get (by simpa using hl) fun i v' d' h1 h2 => h (i + 1) v' d' (by simpa using h1) (by simpa using h2))
  | [], _ :: _, hl, _ => by cases hl
  | _ :: _, [], hl, _ => by cases hl
theorem operand_pairs_spec (G : Gh) (g₀ : Heap) (i : Ins) (v : Value) (hv : RD g₀ (insD i) v) (hok : insOK i) : FSpec G 1 76 [v] g₀ (fun g w => RD g (pairsD i) w) := by
  intro A g mu s Q E u H R k
  refine enter0 (i := fi_operand_pairs) (binds := [("instruction", v)]) (n := 0) fn_operand_pairs H R (by rfl) (by kernel_rfl) fun L s' W H' => ?_
  show wpAny _ _ (execs (List.cons _ _) _) _ _ _
  obtain ⟨ss, hs, hfit⟩ := hok
  obtain ⟨row, hrow, rfl⟩ := Option.map_eq_some_iff.mp hs
  have hmem : row ∈ opsTab := List.mem_of_find?_eq_some hrow
  have hshort := ops_short hmem
  have hlen := fits_len hfit
  obtain ⟨t, vs, rfl, ht, hr⟩ := (hv.up u).toTuple
  have hvl : vs.length = i.ops.length + 1 := by rw [hr.length]; simp
  obtain ⟨v0, hv0⟩ : ∃ v0, vs[0]? = some v0 := ⟨vs[0], by simp⟩
  obtain ⟨d0, hd0, hr0⟩ := hr.get hv0
  cases hd0
  have hT : valueAt (opsTab.map fun e => (S e.1, Value.ref e.2.1)) (S i.w) = some (.ref row.2.1) := by rw [valueAt_map]; show (opsRow i.w).map _ = _; rw [hrow]; rfl
  refine ex_ret_any (c_ty_any (T := "list") H' (by decide +kernel) (by kernel_rfl) fun s₁ H₁ => sp_cons (c_ty_any (T := "zip") H₁ (by decide +kernel) (by kernel_rfl) fun s₂ H₂ => sp_cons ?_))
  refine pe_run H₂ (pe_item_dict (v := .ref row.2.1) (pe_glob (by kernel_rfl) rfl (by kernel_rfl)) ((pe_item_tup (j := 0) (pe_local (by kernel_rfl) (by rfl)) pe_int ht hv0 (by omega)).mono fun x e => e ▸ hr0.toT) (fun s H => ops_dict H) hT) fun v₁ s₃ e₁ H₃ => ?_
  (first | subst e₁ | cases e₁)
  refine sp_cons (ev_tuple_from (a := 1) H₃ (pe_local (by kernel_rfl) (by rfl)) pe_int ht (Nat.le_refl 1) (by omega) (by omega) fun T g₁ s₄ u₁ hT₁ H₄ => sp_nil ?_)
  obtain ⟨xl, hx, hxl, hxs⟩ := sorts_tuple H₄ hmem
  have up := H₄.up
  refine wpAny_mono (call_zip_list (xl := xl) (yl := vs.drop 1) W.h (let ⟨o, ho, r⟩ := hx; ⟨o, up _ _ ho, r⟩) ⟨_, up _ _ hT₁, rfl, _, rfl⟩ (by rw [hxl, List.length_drop]; omega) (by rw [hxl]; omega) fun S₁ h' tk acc cc hS hnone hp hu => ?_) (fun z s₅ hz => sp_nil hz) fun zz zz q => q
  obtain ⟨g₂, u₂, hg₂, H₅⟩ := At.grows H₄ hu tk
  refine k _ _ g₂ (u₁.trans u₂) ?_ H₅.gl
  have hS' := hg₂ _ _ hS hnone
  refine RD.list (vs := acc.toList) (n := cc) (by rw [hS']) (RDs.of_get ?_ fun j v d hv hd => ?_)
  · simp [pairsOf, hs, hp.1, hxl]; omega
  · rw [List.getElem?_map] at hd
    obtain ⟨⟨sr, op⟩, hj, rfl⟩ := Option.map_eq_some_iff.mp hd
    have hj' := List.getElem?_zip_eq_some.mp hj
    rw [hs] at hj'
    have hjl : j < xl.length := by rw [hxl]; exact (List.getElem?_eq_some_iff.mp hj'.1).1
    obtain ⟨T', x, y, a1, a2, a3, a4, a5⟩ := hp.2 j hjl
    rw [Array.getElem?_toList, a1] at hv
    (first | subst hv | cases hv)
    obtain ⟨srt, b1, b2⟩ := hxs j x a2
    cases b1.symm.trans hj'.1
    rw [List.getElem?_drop] at a3
    obtain ⟨d2, c1, c2⟩ := hr.get a3
    rw [Nat.add_comm 1 j, List.getElem?_cons_succ, List.getElem?_map, hj'.2] at c1
    cases c1
    refine RD.tuple (hg₂ _ _ a4 a5) (RDs.cons (RD.ofT b2) (RDs.cons ((c2.up u₁).up u₂) RDs.nil))
end Mine
end
section
open PySem PySem.W PyProof.Rows PySem.Calls PySem.Builtin PySem.Builtin.Str
namespace Mine
set_option maxRecDepth 100000

theorem ints_of_get : ∀ {vs : List Value} {ns : List Int}, vs.length = ns.length → (∀ (j : Nat) (v : Value), vs[j]? = some v → ∃ n, ns[j]? = some n ∧ VI n v) → IntsAre vs ns
  | [], [], _, _ => .nil
  | v :: vs, n :: ns, hl, h => by
    obtain ⟨n', e, t, rfl⟩ := h 0 v rfl
    simp at e
    subst e
    exact .cons n t (ints_of_get (by simpa using hl) fun j u hu => by simpa using h (j + 1) u (by simpa using hu))
  | [], _ :: _, hl, _ => by cases hl
  | _ :: _, [], hl, _ => by cases hl
section
variable {prog : Program} {w : World} {A : Around} {E : Value → Shared → Prop} {s : Shared}
theorem call_sorted_dict {d : Addr} {kvs : List (Int × Value)} {Q : Value → Shared → Prop} (hh : A.handled = none) (lo : (d == sysModules) = false) (hd : s.heap.DictOf (PySem.intKind prog w) d kvs) (h64 : kvs.length < 64)
    (hQ : ∀ S h' tk vs ns e, Up s.heap h' → s.heap.get? S = none → h'.get? S = some (lstO vs e) → IntsAre vs ns → ns.Perm (kvs.map (·.1)) → ns.Pairwise (· ≤ ·) → Q (.ref S) { s with heap := h', toks := tk }) :
    wpAny (model prog w) A (call (.builtin "sorted") [.ref d]) Q E s := by
  obtain ⟨ep, hat⟩ := hd.dictAt
  refine call_function_entry kind_sorted plain_sorted entry_sorted (args_sorted1 _) ?_
  unfold Builtin.«sorted»
  refine wpAny_bind (m := checkCount "sorted" 1 1 _) (wpAny_pure ?_)
  refine wpAny_bind (kdu_collect (A := A.in1) (kdl_dict (knd := PySem.intKind prog w) (kvs := kvs) (ep := ep) lo) hh hat (kdl_size (by omega)) fun h' tk acc hk hacc => ?_)
  have hl : acc.toList.length = kvs.length := by rw [Array.length_toList]; exact hacc.1
  refine wpAny_bind (wpAny_newList ?_ (by rw [hl]; exact kdl_size (by omega)))
  have hI : IntsAre acc.toList (kvs.map (·.1)) := ints_of_get (by simp [hacc.1]) fun j v e => by
    obtain ⟨k, x, e1, e2⟩ := hacc.2 j v (by rw [← Array.getElem?_toList]; exact e)
    exact ⟨k, by rw [List.getElem?_map, e1]; rfl, PySem.Value.isInt_shape e2⟩
  have hS : (h'.push (seqObj "list" acc.toList.toArray 0)).get? h'.objs.size = some (seqObj "list" acc.toList.toArray 0) := Heap.get?_push_size _ rfl
  have fresh : s.heap.get? h'.objs.size = none := by
    cases e : s.heap.get? h'.objs.size with
    | none => rfl
    | some o => exact absurd (Heap.lt_size (hk _ _ e)) (Nat.lt_irrefl _)
  refine wpAny_bind (wpAny_holding (wpAny_call_entry slot_list_sort ⟨_, hS, rfl⟩ entry_list_sort (list_sort_tree hS hI (by omega) fun out ns' a1 a2 a3 => ⟨_, rfl, ?_⟩) (args_list_sort _)))
  obtain ⟨e, he⟩ := sortedHeap_at (out := out) hS
  refine wpAny_pure ⟨_, rfl, hQ _ _ _ out.toList ns' e (fun b o q => ?_) fresh (by simpa using he) a1 a2 a3⟩
  have hb := Heap.lt_size (hk _ _ q)
  rw [sortedHeap_old (Nat.ne_of_lt hb) (by rw [size_push']; exact Nat.lt_succ_of_lt hb)]
  exact Heap.get?_push_of_some _ (hk _ _ q)
end
theorem stored_keys {K : Type} [DecidableEq K] (kvs : List (K × Value)) (k : K) (v : Value) : (∀ x, x ∈ (stored kvs k v).map (·.1) ↔ x ∈ kvs.map (·.1) ∨ x = k) := by
  intro x
  unfold stored
  split
  · rename_i h
    have e : (kvs.map fun kv => if kv.1 = k then (kv.1, v) else kv).map (·.1) = kvs.map (·.1) := by
      rw [List.map_map]
      refine List.map_congr_left fun p zz => ?_
      show (if p.1 = k then (p.1, v) else p).1 = p.1
      split <;> rfl
    rw [e]
    refine ⟨.inl, fun h' => h'.elim id fun q => ?_⟩
    obtain ⟨p, hp, hk⟩ := List.any_eq_true.mp h
    exact List.mem_map.mpr ⟨p, hp, by rw [q]; exact of_decide_eq_true hk⟩
  · simp
section
variable {G : Gh} {A : Around} {env : Env} {g : Heap} {m : Str → Option Value} {mu : List (Addr × Obj)} {s : Shared} {E : Value → Shared → Prop} {pos pos' : Pos} {rest : List Stmt}
theorem ex_assign_sub {o i value : PySem.Expr} {Q : Flow → Shared → Prop}
    (h : wpAny G.M A (eval value env) (fun v s₁ => wpAny G.M A (eval o env) (fun ov s₂ => wpAny G.M A (eval i env) (fun iv s₃ => wpAny G.M A (setItem ov iv v) (fun zz s₄ => wpAny G.M A (execs rest env) Q E s₄) E s₃) E s₂) E s₁) E s)
    (hs : swapsWith value (some (.Subscript o i pos')) pos.line env = pure false := by rfl) : wpAny G.M A (execs (.Assign [.Subscript o i pos'] value pos :: rest) env) Q E s :=
  ex_step (wpAny_Assign_Subscript h hs)
theorem ev_nil_dict {Q : Value → Shared → Prop} (H : At ⟨G, A, env, g, m, mu⟩ s) (k : ∀ D s', (D == sysModules) = false → At ⟨G, A, env, g, m, (D, emptyDict) :: mu⟩ s' → Q (.ref D) s') : wpAny G.M A (eval (.Dict [] [] pos) env) Q E s := by
  refine wpAny_Dict_empty (k _ _ ?_ (H.alloc (o := emptyDict)))
  have := H.big
  exact beq_eq_false_iff_ne.mpr (Nat.ne_of_gt this)
theorem at_dict_set {D : Addr} {o : Obj} {kvs : List (Int × Value)} {n : Int} {t : Tok} {v : Value} {Q : Unit → Shared → Prop} (H : At ⟨G, A, env, g, m, (D, o) :: mu⟩ s) (ho : o.IsDictOf (PySem.intKind pw G.w) kvs) (hz : kvs.length ≤ 1000)
    (k : ∀ o' s', o'.IsDictOf (PySem.intKind pw G.w) (stored kvs n v) → At ⟨G, A, env, g, m, (D, o') :: mu⟩ s' → Q () s') : wpAny G.M A (setItem (.ref D) (.int n t) v) Q E s := by
  refine wpAny_setItem_pairs (knd := PySem.intKind pw G.w) (k := n) (kvs := kvs) (PySem.intKind_is pw G.w n t) (Heap.dictOf_iff.mpr ⟨o, H.get (.head _), ho⟩) (fun h' hD hs => ?_) (by rw [sizeLine_eq]; omega)
  obtain ⟨o', e1, e2⟩ := Heap.dictOf_iff.mp hD
  exact k o' _ e2 (At.same (c := ⟨G, A, env, g, m, []⟩) H hs e1 (s.toks + 1))
end
end Mine
end
section
open PySem PySem.W PyProof.Rows PySem.Calls PySem.Builtin PySem.Builtin.Str
namespace Mine
set_option maxRecDepth 100000

theorem RDs.two {g : Heap} {d e : PyData} {vs : List Value} (h : RDs g [d, e] vs) : Ex2 fun v w => An3 (vs = [v, w]) (RD g d v) (RD g e w) := by
  obtain ⟨_, h⟩ := h
  cases h with
  | cons a r => cases r with
    | cons b r => cases r with
      | nil => exact ⟨_, _, rfl, ⟨_, a⟩, ⟨_, b⟩⟩
theorem RDs.three {g : Heap} {d e f : PyData} {vs : List Value} (h : RDs g [d, e, f] vs) : Ex3 fun v w x => An4 (vs = [v, w, x]) (RD g d v) (RD g e w) (RD g f x) := by
  obtain ⟨_, h⟩ := h
  cases h with
  | cons a r => cases r with
    | cons b r => cases r with
      | cons c r => cases r with
        | nil => exact ⟨_, _, _, rfl, ⟨_, a⟩, ⟨_, b⟩, ⟨_, c⟩⟩
theorem IsTuple.up {g g' : Heap} {a : Addr} {xs : Array Value} (h : g.IsTuple a xs) (u : Up g g') : g'.IsTuple a xs := let ⟨o, ho, r⟩ := h; ⟨o, u _ _ ho, r⟩
theorem IsList.up {g g' : Heap} {a : Addr} {xs : Array Value} (h : g.IsList a xs) (u : Up g g') : g'.IsList a xs := let ⟨o, ho, r⟩ := h; ⟨o, u _ _ ho, r⟩

theorem fn_label_of (P : Params) : FnOK P fi_label_of := ⟨by kernel_rfl, by kernel_rfl, by kernel_rfl⟩
theorem fn_labels_met (P : Params) : FnOK P fi_labels_met := ⟨by kernel_rfl, by kernel_rfl, by kernel_rfl⟩
noncomputable def LabV (o : Option Nat) (w : Value) : Prop := match o with
  | some n => VI (n : Int) w
  | none => w = .none
noncomputable def labP : List (Srt × Opd) → Option Nat
  | [] => none
  | (s, o) :: r => if s = .label then (match o with | .num n => some n | _ => none) else labP r
theorem labelIn_zip : ∀ (ss : List Srt) (os : List Opd), labelIn ss os = labP (ss.zip os)
  | s :: ss, o :: os => by
    have e := labelIn_zip ss os
    cases o <;> (by_cases h : s = .label <;> simp [labelIn, labP, h, e])
  | [], _ => by rw [List.zip_nil_left]; unfold labelIn; rfl
  | _ :: _, [] => by rw [List.zip_nil_right]; unfold labelIn; rfl
theorem fits_mem : ∀ {ss : List Srt} {os : List Opd} {e : Srt × Opd}, fitsAll ss os = true → e ∈ ss.zip os → fits e.1 e.2 = true
  | s :: ss, o :: os, e, h, he => by
    simp only [fitsAll, Bool.and_eq_true] at h
    rcases List.mem_cons.mp he with rfl | he
    · exact h.1
    · exact fits_mem h.2 he
  | [], _, e, _, he => by rw [List.zip_nil_left] at he; cases he
  | _ :: _, [], e, _, he => by rw [List.zip_nil_right] at he; cases he
theorem label_of_spec (G : Gh) (g₀ : Heap) (i : Ins) (v : Value) (hv : RD g₀ (insD i) v) (hok : insOK i) : FSpec G 2 83 [v] g₀ (fun zz w => LabV (labelOf i) w) := by
  intro A g mu s Q E u H R k
  refine enter0 (i := fi_label_of) (binds := [("instruction", v)]) (n := 1) fn_label_of H R (by rfl) (by kernel_rfl) fun L s' W H' => ?_
  show wpAny _ _ (execs (List.cons _ _) _) _ _ _
  have hlab : labelOf i = labP (pairsOf i) := labelIn_zip _ _
  have hfit : ∀ e ∈ pairsOf i, fits e.1 e.2 = true := by
    obtain ⟨ss, hs, hf⟩ := hok
    intro e he
    unfold pairsOf at he
    rw [hs] at he
    exact fits_mem hf he
  refine ex_for (Ei := fun zz zz => False) (fun zz zz q => q.elim) (c_fdef (P := P1 (VE v)) H' (pe_glob (by kernel_rfl) rfl (by kernel_rfl)) (by kernel_rfl) (pa_one (pe_local (by kernel_rfl) (by rfl))) (fun vs ⟨w, e, hw⟩ => by subst e; cases hw; exact operand_pairs_spec G g i v (hv.up u) hok) W (by decide) fun w s₁ g₁ u₁ hw H₁ => ?_)
  obtain ⟨a, vs, rfl, hl, hr⟩ := hw.toList
  refine ⟨g₁, _, mu, vs.length, _, fun k g m mu' => mu' = mu ∧ labP ((pairsOf i).drop k) = labelOf i, H₁, itr_list W.h hl, ⟨rfl, hlab.symm⟩, ?_, ?_⟩
  · rintro j g₂ m mu' p w s₂ hj hw ⟨rfl, hJ⟩ u₂ H₂
    obtain ⟨d, hd, hrd⟩ := hr.get hw
    rw [List.getElem?_map] at hd
    obtain ⟨⟨sr, op⟩, he, rfl⟩ := Option.map_eq_some_iff.mp hd
    obtain ⟨T, ws, rfl, hT, hrs⟩ := hrd.toTuple
    obtain ⟨w1, w2, rfl, h1, h2⟩ := hrs.two
    obtain ⟨t, rfl⟩ := h1.toT
    rw [List.drop_eq_getElem_cons (List.getElem?_eq_some_iff.mp he).1, (List.getElem?_eq_some_iff.mp he).2] at hJ
    refine at_assign2 W.h H₂ (IsTuple.up (IsTuple.up hT u₂) H₂.up) (by kernel_rfl) (by kernel_rfl) fun s₃ H₃ => ?_
    refine ex_if H₃ (d := decide (sr = .label)) (PT.congr (pt_eq_str (pe_locT (t := t) (by kernel_rfl) (by rfl)) (pe_strc (x := "label"))) (txt_eq sr .label)) ?_ ?_
    · intro h s₄ H₄
      simp only [decide_eq_true_eq] at h
      subst h
      have hf := hfit _ (List.mem_of_getElem? he)
      refine ex_ret H₄ (pe_local (by kernel_rfl) (by rfl)) fun w s₅ hw H₅ => ?_
      cases hw
      show Q w2 s₅
      refine k w2 s₅ g₂ (u₁.trans u₂) ?_ (Gl.dropR H₅.gl)
      rw [← hJ]
      cases op with
      | num n => exact h2.toI
      | regs l => cases hf
      | rows l => cases hf
    · intro h s₄ H₄
      simp only [decide_eq_false_iff_not] at h
      refine ex_nil ⟨g₂, _, mu', Up.rfl, H₄, rfl, ?_⟩
      rw [← hJ]
      show _ = (if sr = .label then _ else _)
      rw [if_neg h]
  · rintro g₂ m mu' s₂ ⟨rfl, hJ⟩ u₂ H₂
    have hln : vs.length = (pairsOf i).length := by rw [hr.length]; simp
    rw [hln, List.drop_length] at hJ
    refine ex_ret H₂ pe_none fun w s₃ hw H₃ => ?_
    cases hw
    refine k .none s₃ g₂ (u₁.trans u₂) ?_ H₃.gl
    rw [← hJ]; rfl

theorem pt_isnot_none {c : Cx} {e : PySem.Expr} {v : Value} {n : Nat} {p pos : Pos} (he : PE c e (VE v)) : PT c (.Compare e [.IsNot] [.Constant .none n p] pos) (!(v == .none)) := fun s Q E H k =>
  wpAny_isTrue_Compare1 (he s _ _ H fun u s₁ e H₁ => by
    cases e
    exact pe_run H₁ pe_none fun w s₂ e H₂ => by
      cases e
      exact isNot_none (wpAny_truthy_bool (k _ H₂)))
theorem labels_met_spec (G : Gh) (g₀ : Heap) (is : List Ins) (v : Value) (hv : RD g₀ (.list (is.map insD)) v) (hok : ∀ i ∈ is, insOK i) (hl : is.length < 64) : FSpec G 3 90 [v] g₀ (LabsV is) := by
  intro A g mu s Q E u H R k
  refine enter0 (i := fi_labels_met) (binds := [("instructions", v)]) (n := 2) fn_labels_met H R (by rfl) (by kernel_rfl) fun L s' W H' => ?_
  show wpAny _ _ (execs (List.cons _ _) _) _ _ _
  obtain ⟨a, vs, rfl, hli, hr⟩ := (hv.up u).toList
  have hvl : vs.length = is.length := by rw [hr.length]; simp
  refine ex_assign_any (ev_nil_dict H' fun D s₁ hsys H₁ => ?_)
  refine H₁.store (by kernel_rfl) fun s₂ H₂ => ?_
  refine ex_for (Ei := fun zz zz => False) (fun zz zz q => q.elim) (pe_run H₂ (pe_local (by kernel_rfl) (by rfl)) fun w s₃ hw H₃ => ?_)
  cases hw
  refine ⟨g, _, _, vs.length, _, fun j g' m mu' => m (Str.ofString "found") = some (.ref D) ∧ Ex2 fun o kvs => An5 (mu' = (D, o) :: mu) (o.IsDictOf (PySem.intKind pw G.w) kvs) (kvs.length ≤ j) ((kvs.map (·.1)).Nodup) (∀ x, x ∈ kvs.map (·.1) ↔ ∃ n : Nat, x = (n : Int) ∧ metB (is.take j) n = true), H₃, itr_list W.h hli, ⟨by rfl, _, [], rfl, ?_, Nat.le_refl _, .nil, fun x => by simp [metB]⟩, ?_, ?_⟩
  · obtain ⟨o, e1, e2⟩ := Heap.dictOf_iff.mp (Heap.DictOf.new (knd := PySem.intKind pw G.w) s.heap)
    rw [Heap.get?_push_size _ rfl] at e1
    cases e1
    exact e2
  · rintro j g₂ m mu' p w s₃ hj hw ⟨m1, o, kvs, rfl, hd, hz, hnd, hkeys⟩ u₂ H₄
    obtain ⟨d, hd1, hrd⟩ := hr.get hw
    rw [List.getElem?_map] at hd1
    obtain ⟨i, hi, rfl⟩ := Option.map_eq_some_iff.mp hd1
    have hjl : j < is.length := (List.getElem?_eq_some_iff.mp hi).1
    have htk : is.take (j + 1) = is.take j ++ [i] := take_prs hi
    have hmet : ∀ n, metB (is.take (j + 1)) n = (metB (is.take j) n || labelOf i == some n) := fun n => by rw [htk]; simp [metB]
    refine wpAny_assign_Name (At.store (c := ⟨G, _, _, g₂, m, _⟩) H₄ (by kernel_rfl) fun s₄ H₅ => ?_)
    refine ex_assign_any (c_fdef (P := P1 (VE w)) H₅ (pe_glob (by kernel_rfl) rfl (by kernel_rfl)) (by kernel_rfl) (pa_one (pe_local (by kernel_rfl) (by rfl))) (fun vs ⟨x, e, hx⟩ => by subst e; cases hx; exact label_of_spec G g₂ i w (hrd.up u₂) (hok i (List.mem_of_getElem? hi))) W (by decide) fun x s₅ g₃ u₃ hx H₆ => ?_)
    refine H₆.store (by kernel_rfl) fun s₆ H₇ => ?_
    cases hlab : labelOf i with
    | none =>
      rw [hlab] at hx
      cases hx
      refine ex_if H₇ (d := false) (PT.congr (pt_isnot_none (v := .none) (pe_local (by kernel_rfl) (by rfl))) rfl) (fun h => by cases h) fun zz s₇ H₈ => ex_nil ⟨g₃, _, _, u₃, H₈, by exact m1, o, kvs, rfl, hd, by omega, hnd, fun y => by simp only [hmet, hlab]; simpa using hkeys y⟩
    | some n =>
      rw [hlab] at hx
      obtain ⟨t, rfl⟩ := hx
      refine ex_if H₇ (d := true) (PT.congr (pt_isnot_none (v := .int (n : Int) t) (pe_local (by kernel_rfl) (by rfl))) rfl) (fun zz s₇ H₈ => ?_) fun h => by cases h
      · refine ex_assign_sub (pe_run H₈ pe_bool fun y s₈ hy H₉ => ?_)
        cases hy
        refine pe_run H₉ (pe_local (by kernel_rfl) (by exact m1)) fun y s₉ hy H₁₀ => ?_
        cases hy
        refine pe_run H₁₀ (pe_local (by kernel_rfl) (by rfl)) fun y s₁₀ hy H₁₁ => ?_
        cases hy
        refine at_dict_set H₁₁ hd (by omega) fun o' s₁₁ hd' H₁₂ => ?_
        refine ex_nil (ex_nil ⟨g₃, _, _, u₃, H₁₂, by exact m1, o', _, rfl, hd', ?_, ?_, fun y => ?_⟩)
        · have := stored_length_le kvs (n : Int) (.bool true); omega
        · obtain ⟨es, ep, _, _, _, _, h⟩ := hd'; exact h
        · rw [stored_keys, hkeys]
          simp only [hmet, hlab]
          constructor
          · rintro (⟨q, rfl, hq⟩ | rfl)
            · exact ⟨q, rfl, by simp [hq]⟩
            · exact ⟨n, rfl, by simp⟩
          · rintro ⟨q, rfl, hq⟩
            simp at hq
            rcases hq with hq | hq
            · exact .inl ⟨q, rfl, hq⟩
            · exact .inr (by rw [hq])
  · rintro g₂ m mu' s₃ ⟨m1, o, kvs, rfl, hd, hz, hnd, hkeys⟩ u₂ H₄
    refine ex_ret_any (c_bi (id := "sorted") (P := P1 (VE (.ref D))) H₄ (by decide +kernel) (by kernel_rfl) (pa_one (pe_local (by kernel_rfl) (by exact m1))) fun ws s₄ ⟨w, e, hw⟩ H₅ => ?_)
    subst e; cases hw
    refine call_sorted_dict W.h hsys (Heap.dictOf_iff.mpr ⟨o, H₅.get (.head _), hd⟩) (by omega) fun S₁ h' tk vs' ns e hu hnone hS hI hp hpw => ?_
    obtain ⟨g₃, u₃, hg₃, H₆⟩ := At.grows H₅ hu tk
    have hS' := hg₃ _ _ hS hnone
    rw [hvl, List.take_length] at hkeys
    have hmem : ∀ x, x ∈ ns ↔ ∃ n : Nat, x = (n : Int) ∧ metB is n = true := fun x => by rw [hp.mem_iff]; exact hkeys x
    have hns : (ns.map Int.toNat).map (fun n : Nat => (n : Int)) = ns := by
      rw [List.map_map]
      conv => rhs; rw [← List.map_id ns]
      refine List.map_congr_left fun x hx => ?_
      obtain ⟨n, rfl, _⟩ := (hmem x).mp hx
      rfl
    refine k _ _ g₃ (u₂.trans u₃) ⟨ns.map Int.toNat, RD.list hS' (of_ints (by rw [hns]; exact hI)), ?_, fun n => ?_, ?_⟩ H₆.gl.drop
    · have hnd' : ns.Nodup := hp.nodup_iff.mpr hnd
      rw [List.pairwise_map]
      have h2 := List.Pairwise.and hpw hnd'
      refine h2.imp_of_mem fun {x y} hx hy h => ?_
      obtain ⟨n, rfl, _⟩ := (hmem x).mp hx
      obtain ⟨q, rfl, _⟩ := (hmem y).mp hy
      have h3 := h.1
      have h4 : (n : Int) ≠ q := h.2
      simp only [Int.toNat_natCast]
      omega
    · constructor
      · intro hn
        obtain ⟨x, hx, rfl⟩ := List.mem_map.mp hn
        obtain ⟨q, rfl, hq⟩ := (hmem x).mp hx
        simpa using hq
      · intro hn
        exact List.mem_map.mpr ⟨(n : Int), (hmem _).mpr ⟨n, rfl, hn⟩, by simp⟩
    · have := hp.length_eq
      simp at this ⊢
      omega
end Mine
end
section
open PySem PySem.W PyProof.Rows PySem.Calls PySem.Builtin PySem.Builtin.Str
namespace Mine
set_option maxRecDepth 100000

theorem text_shN (n : Nat) : Str.ofString (toString ((n : Nat) : Int)) = S (shN n) := text_ofNat n
theorem shN_len {n k : Nat} (h : n < 10 ^ (k + 1)) : (shN n).length ≤ k + 1 := by
  unfold shN
  rw [List.length_map]
  exact toDigits_len_pow (by decide) (by omega) h
noncomputable def smallN (n : Nat) : Prop := n < 10 ^ 18
theorem smallN.log {n : Nat} (h : smallN n) : ((n : Int)).natAbs.log2 < 1920 := by
  rw [Int.natAbs_natCast]
  refine Nat.lt_of_le_of_lt (Nat.log2_le_self_of h) (by decide)
where
  Nat.log2_le_self_of {n : Nat} (h : smallN n) : n.log2 ≤ 60 := by
    by_cases h0 : n = 0
    · subst h0; decide
    · have h1 := Nat.log2_self_le h0
      rcases Nat.lt_or_ge 60 n.log2 with h2 | h2
      · have h3 : 2 ^ 61 ≤ 2 ^ n.log2 := Nat.pow_le_pow_right (by decide) h2
        have h4 : (10 : Nat) ^ 18 < 2 ^ 61 := by decide
        unfold smallN at h
        omega
      · exact h2
section
variable {c : Cx} {pos np apos : Pos} {e : PySem.Expr} {n : Nat}
theorem pe_str_int (he : PE c e (VI (n : Int))) (hz : smallN n) (h : bootName c.env.scope (KF c.G.w.params) "str" = true := by kernel_rfl) (hg : c.env.globals = mainGlobals := by rfl) (hb : c.env.builtins = builtinsNs := by rfl)
    (hs : starEach [e] c.env = (false, eval e c.env) :: starEach [] c.env := by rfl)
    (hc : eval (.Call (.Name "str" np) [e] [] pos) c.env = (do let f ← eval (.Name "str" np) c.env; callWith pos f [] (backTo pos (starEach [e] c.env)) (backToKw pos (keywordEach [] c.env))) := by rfl) :
    PE c (.Call (.Name "str" np) [e] [] pos) (VT (shN n)) := fun s Q E H k =>
  c_ty (T := "str") (G := c.G) (A := c.A) (env := c.env) (g := c.g) (m := c.m) (mu := c.mu) H (by decide +kernel) h (pa_one (c := c) he hs) (fun vs s₁ ⟨v, e1, t, e2⟩ H₁ => by
    subst e1; subst e2
    refine P.str_of_int hz.log (k _ _ ⟨s₁.toks, ?_⟩ (At.toks (c := c) H₁ _))
    show Value.str (Str.ofString (toString _)) _ = _
    rw [text_shN]) hg hb hs rfl hc
theorem pe_item_lst {i : PySem.Expr} {t : Addr} {vs : List Value} {j : Nat} {x : Value} (he : PE c e (VE (.ref t))) (hi : PE c i (VI (j : Int))) (ht : ∀ s, At c s → s.heap.IsList t vs.toArray) (hx : vs[j]? = some x) (hz : vs.length ≤ 1000) : PE c (.Subscript e i pos) (VE x) := fun s Q E H k =>
  sub_on (he s _ _ H fun u s₁ q H₁ => hi s₁ _ _ H₁ fun w s₂ ⟨tk, q'⟩ H₂ => by
    (first | subst q | cases q); subst q'
    have hj : j < vs.length := (List.getElem?_eq_some_iff.mp hx).1
    have hl := ht s₂ H₂
    exact ⟨"list", _, PySem.F.slot_list_getitem.lookup, hl.typeIs, wpAny_getItem_list hl (by omega) (by omega) (by simpa using hx) (k _ _ rfl H₂)⟩)
theorem pe_ifexp {t a b : PySem.Expr} {d : Bool} {P : Value → Prop} (ht : PT c t d) (ha : d = true → PE c a P) (hb : d = false → PE c b P) : PE c (.IfExp t a b pos) P := fun s Q E H k =>
  IfExp_ (ht s _ _ H fun s₁ H₁ => by
    cases d with
    | true => exact ha rfl s₁ _ _ H₁ k
    | false => exact hb rfl s₁ _ _ H₁ k)
theorem pt_in_nums {l : PySem.Expr} {a : Addr} {ns : List Nat} (he : PE c e (VI (n : Int))) (hl : PE c l (VE (.ref a))) (h : ∀ s, At c s → RD s.heap (.list (numsD ns)) (.ref a)) (hm : behindInMarks .In l = false := by rfl) : PT c (.Compare e [.In] [l] pos) (decide (n ∈ ns)) := fun s Q E H k =>
  wpAny_isTrue_Compare1 (he s _ _ H fun v s₁ ⟨t, e⟩ H₁ => hl s₁ _ _ H₁ fun u s₂ e' H₂ => by
    subst e; (first | subst e' | cases e')
    obtain ⟨a', vs, e, hl, hr⟩ := (h s₂ H₂).toList
    (first | subst e | cases e)
    refine in_list_ints hl (ints_of hr) (wpAny_truthy_bool ?_)
    have : ((ns.map fun n : Nat => (n : Int)).any (· == (n : Int))) = decide (n ∈ ns) := by
      rw [Bool.eq_iff_iff, decide_eq_true_eq, List.any_eq_true]
      constructor
      · rintro ⟨x, hx, hxn⟩
        obtain ⟨q, hq, rfl⟩ := List.mem_map.mp hx
        have : (q : Int) = n := eq_of_beq hxn
        have : q = n := by omega
        exact this ▸ hq
      · intro hq
        exact ⟨(n : Int), List.mem_map.mpr ⟨n, hq, rfl⟩, by simp⟩
    rw [this]
    exact k _ H₂) hm
noncomputable def JP (c : Cx) (es : List PySem.Expr) (l : List Nat) : Prop := ∀ s acc Q E, At c s → acc.length + l.length ≤ 16777216 → (∀ s', At c s' → Q (S (acc ++ l)) s') → Joins c.G.M c.A E (evalEach es c.env) (S acc) Q s
theorem jp_nil : JP c [] [] := fun s acc Q E H hz k => Joins_nil (by simpa using k s H)
theorem jp_cons {es : List PySem.Expr} {a b : List Nat} (he : PE c e (VT a)) (hr : JP c es b) : JP c (e :: es) (a ++ b) := fun s acc Q E H hz k =>
  Joins_cons (he s _ _ H fun v s₁ ⟨t, q⟩ H₁ => by
    subst q
    rw [List.length_append] at hz
    refine ⟨_, t, rfl, by rw [S_append, S_len, List.length_append, sizeLine_eq]; omega, ?_⟩
    rw [S_append]
    refine hr s₁ (acc ++ a) _ _ H₁ (by rw [List.length_append]; omega) fun s' H' => ?_
    rw [List.append_assoc]
    exact k s' H')
theorem pe_joined {e₁ e₂ : PySem.Expr} {es : List PySem.Expr} {l : List Nat} (h : JP c (e₁ :: e₂ :: es) l) (hz : l.length ≤ 16777216) : PE c (.JoinedStr (e₁ :: e₂ :: es) pos) (VT l) := fun s Q E H k =>
  wpAny_JoinedStr (h s [] _ _ H (by simpa using hz) fun s' H' => ⟨by rw [List.nil_append, S_len, sizeLine_eq]; omega, k _ _ ⟨_, rfl⟩ (H'.toks _)⟩)
theorem pe_fv_int (he : PE c e (VI (n : Int))) (hz : smallN n) : PE c (.FormattedValue e (-1) none pos) (VT (shN n)) := fun s Q E H k =>
  wpAny_FormattedValue_plain (he s _ _ H fun v s₁ ⟨t, q⟩ H₁ => by
    subst q
    refine wpAny_formatField_int hz.log (k _ _ ⟨s₁.toks + 1, ?_⟩ (H₁.toks _))
    show Value.str (Str.ofString (toString _)) _ = _
    rw [text_shN])
theorem pe_fv_str {l : List Nat} (he : PE c e (VT l)) (hz : l.length ≤ 16777216) : PE c (.FormattedValue e (-1) none pos) (VT l) := fun s Q E H k =>
  wpAny_FormattedValue_plain (he s _ _ H fun v s₁ ⟨t, q⟩ H₁ => by
    subst q
    exact wpAny_formatField_str (k _ _ ⟨_, rfl⟩ H₁) (k _ _ ⟨_, rfl⟩ (H₁.toks _)) (by rw [S_len, sizeLine_eq]; omega))
end

noncomputable def joinS (sep : List Nat) : List (List Nat) → List Nat
  | [] => []
  | [x] => x
  | x :: y :: r => x ++ sep ++ joinS sep (y :: r)
theorem join_S (sep : List Nat) : ∀ xs : List (List Nat), Txt.join (S sep) (xs.map S) = S (joinS sep xs) := by
  intro xs
  show glued _ _ = _
  rw [PySem.StrLaws.glued_eq_join]
  induction xs with
  | nil => rfl
  | cons x r ih => cases r with
    | nil => rfl
    | cons y r =>
      show S x ++ S sep ++ Str.join (S sep) ((y :: r).map S) = _
      rw [ih, S_append, S_append]; rfl
theorem joinS_blank : ∀ xs : List (List Nat), joinS [32] xs = joinB xs
  | [] => rfl
  | [x] => rfl
  | x :: y :: r => by rw [joinS, joinB, joinS_blank (y :: r)]; simp
theorem joinS_nil : ∀ xs : List (List Nat), joinS [] xs = xs.flatten
  | [] => rfl
  | [x] => by simp [joinS]
  | x :: y :: r => by rw [joinS, joinS_nil (y :: r)]; simp
noncomputable def TextsAre (vs : List Value) (xs : List (List Nat)) : Prop := StrsAre vs (xs.map S)
theorem TextsAre.nil : TextsAre [] [] := StrsAre.nil
theorem TextsAre.cons {v : Value} {x : List Nat} {vs : List Value} {xs : List (List Nat)} (h : VT x v) (hs : TextsAre vs xs) : TextsAre (v :: vs) (x :: xs) := let ⟨t, e⟩ := h; e ▸ StrsAre.cons _ t hs
theorem TextsAre.inv {v : Value} {x : List Nat} {vs : List Value} {xs : List (List Nat)} (h : TextsAre (v :: vs) (x :: xs)) : VT x v ∧ TextsAre vs xs := by
  have h : StrsAre (v :: vs) (S x :: xs.map S) := h
  cases h with
  | cons _ t r => exact ⟨⟨t, rfl⟩, r⟩
theorem TextsAre.append {vs ws : List Value} {xs ys : List (List Nat)} (h : TextsAre vs xs) (h' : TextsAre ws ys) : TextsAre (vs ++ ws) (xs ++ ys) := by
  induction xs generalizing vs with
  | nil => cases vs with
    | nil => exact h'
    | cons v vs => exact nomatch (show StrsAre (v :: vs) [] from h)
  | cons x xs ih => cases vs with
    | nil => exact nomatch (show StrsAre [] (S x :: xs.map S) from h)
    | cons v vs => exact TextsAre.cons h.inv.1 (ih h.inv.2)
theorem TextsAre.snoc {v : Value} {x : List Nat} {vs : List Value} {xs : List (List Nat)} (hs : TextsAre vs xs) (h : VT x v) : TextsAre (vs ++ [v]) (xs ++ [x]) := hs.append (TextsAre.cons h TextsAre.nil)
theorem TextsAre.length {vs : List Value} {xs : List (List Nat)} (h : TextsAre vs xs) : vs.length = xs.length := by
  induction xs generalizing vs with
  | nil => cases vs with
    | nil => rfl
    | cons v vs => exact nomatch (show StrsAre (v :: vs) [] from h)
  | cons x xs ih => cases vs with
    | nil => exact nomatch (show StrsAre [] (S x :: xs.map S) from h)
    | cons v vs => exact congrArg (· + 1) (ih h.inv.2)
theorem TextsAre.get {vs : List Value} {xs : List (List Nat)} {i : Nat} {v : Value} (h : TextsAre vs xs) (hv : vs[i]? = some v) : ∃ x, xs[i]? = some x ∧ VT x v := by
  induction xs generalizing vs i with
  | nil => cases vs with
    | nil => cases hv
    | cons v vs => exact nomatch (show StrsAre (v :: vs) [] from h)
  | cons x xs ih => cases vs with
    | nil => cases hv
    | cons w vs =>
      cases i with
      | zero => exact ⟨x, rfl, Option.some.inj hv ▸ h.inv.1⟩
      | succ i => exact ih h.inv.2 hv
noncomputable def weigh (xs : List (List Nat)) : Nat := (xs.map (·.length)).sum + xs.length
theorem joinS_len (sep : List Nat) (h : sep.length ≤ 1) : ∀ xs : List (List Nat), (joinS sep xs).length ≤ weigh xs
  | [] => by simp [joinS]
  | [x] => by simp [joinS, weigh]
  | x :: y :: r => by
    have := joinS_len sep h (y :: r)
    simp only [joinS, weigh, List.length_append, List.map_cons, List.sum_cons, List.length_cons] at this ⊢
    omega
section
variable {G : Gh} {A : Around} {env : Env} {g : Heap} {m : Str → Option Value} {mu : List (Addr × Obj)} {s : Shared} {Q : Value → Shared → Prop} {E : Value → Shared → Prop} {p np apos pos : Pos} {e : PySem.Expr}
theorem ev_join {x : String} {kk : Nat} {pl : Sem Bool}
    (he : ∀ s', At ⟨G, A, env, g, m, mu⟩ s' → wpAny G.M A (eval e env) (fun v s₁ => Ex3 fun D vs xs => An5 (v = .ref D) (s₁.heap.IsList D vs.toArray) (TextsAre vs xs) (weigh xs ≤ 1048576) (∀ w tk, VT (joinS (cs x) xs) w → Q w { s₁ with toks := tk })) E s') (H : At ⟨G, A, env, g, m, mu⟩ s) (hx : (cs x).length ≤ 16)
    (hst : starEach [e] env = (false, eval e env) :: starEach [] env := by rfl)
    (hev : eval (.Call (.Attribute (.Constant (.str (Str.ofString x)) kk p) "join" apos) [e] [] pos) env = (do
      let ov ← eval (.Constant (.str (Str.ofString x)) kk p) env
      standAt apos.atName
      let (f, first) ← holding [ov] (getMethod ov "join" pl)
      callWith pos f first (backTo pos (starEach [e] env)) (backToKw pos (keywordEach [] env))) := by rfl) :
    wpAny G.M A (eval (.Call (.Attribute (.Constant (.str (Str.ofString x)) kk p) "join" apos) [e] [] pos) env) Q E s := by
  refine methodCall_KW (pl := pl) (pe_run H pe_strc fun u s₁ ⟨t, q⟩ H₁ => ?_) hev
  subst q
  refine GM.join (cw_bi (sp_cons (wpAny_mono (he s₁ H₁) (fun v s₂ h₂ => sp_nil ?_) fun zz zz h => h) hst) hst)
  obtain ⟨D, vs, xs, rfl, hl, ht, hw, k⟩ := h₂
  refine join_listW hl (show StrsAre _ (xs.map S) from ht) (by rw [S_len]; exact hx) ?_ fun t' tk => ?_
  · rw [List.map_map, List.length_map]
    have : (xs.map (Str.length ∘ S)) = xs.map (·.length) := List.map_congr_left fun y zz => S_len y
    rw [this]; exact hw
  · rw [join_S]
    exact k _ tk ⟨_, rfl⟩
theorem at_add_lists {a b : Addr} {vs ws : List Value} (H : At ⟨G, A, env, g, m, mu⟩ s) (ha : s.heap.IsList a vs.toArray) (hb : s.heap.IsList b ws.toArray) (hz : vs.length + ws.length ≤ 1000)
    (k : ∀ D s', At ⟨G, A, env, g, m, (D, lstO (vs ++ ws) 0) :: mu⟩ s' → Q (.ref D) s') : wpAny G.M A (binaryOp .Add (.ref a) (.ref b)) Q E s := by
  obtain ⟨⟨cls, dd, data, sl⟩, ho, hc, n, hd⟩ := id ha
  obtain ⟨⟨cls2, dd2, data2, sl2⟩, ho2, hc2, n2, hd2⟩ := id hb
  simp only at hc hd hc2 hd2
  subst hc hd hc2 hd2
  have e : vs.toArray ++ ws.toArray = (vs ++ ws).toArray := by simp
  refine concat_meets ⟨_, ho, rfl⟩ ⟨_, ho2, rfl⟩ noFill_list_add seq_list_add PySem.F.slot_list_add PySem.F.entry_list_add (PySem.F.args_list_add_2 _ _) (list_addW a b vs.toArray ws.toArray n n2 dd dd2 sl sl2 (by simp; rw [sizeLine_eq]; omega)) ⟨ho, ho2, ?_⟩
  rw [e]
  exact k _ _ (H.alloc (o := lstO (vs ++ ws) 0))
theorem at_extend {D b : Addr} {vs ws : List Value} {n : Nat} (H : At ⟨G, A, env, g, m, (D, lstO vs n) :: mu⟩ s) (hb : ∃ n2, s.heap.get? b = some (lstO ws n2)) (hz : vs.length + ws.length ≤ 1000)
    (k : ∀ n' s', At ⟨G, A, env, g, m, (D, lstO (vs ++ ws) n') :: mu⟩ s' → Q .none s') : wpAny G.M A (call (.builtin "list.extend") [.ref D, .ref b]) Q E s := by
  obtain ⟨n2, hb⟩ := hb
  have hD := H.get (.head _)
  have hsz' : vs.toArray.size + ws.toArray.size ≤ sizeLine := by simp; rw [sizeLine_eq]; omega
  refine call_meets PySem.F.slot_list_extend ⟨_, hD, rfl⟩ PySem.F.entry_list_extend (PySem.F.args_list_extend_2 _ _) (AutoSeq1.list_extend_list_list_0 D vs.toArray n b ws.toArray n2 (extend_door hsz') (Nat.le_trans (Nat.le_add_right _ _) hsz') (by omega)) ⟨hD, hb, ?_⟩
  have e : vs.toArray ++ ws.toArray = (vs ++ ws).toArray := by simp
  refine k (if (vs ++ ws).toArray.size == vs.toArray.size then n else n + 1) _ ?_
  have H' := At.update (c := ⟨G, A, env, g, m, []⟩) (Obj.mapSeq fun x => x ++ ws.toArray) H rfl
  rw [mapSeq_app, e] at H'
  exact H'
end
end Mine
end
section
open PySem PySem.W PyProof.Rows PySem.Calls PySem.Builtin PySem.Builtin.Str
namespace Mine
set_option maxRecDepth 100000

theorem Gl.back {G : Gh} {g g' : Heap} {mu mu' : List (Addr × Obj)} {s s' : Shared} (H : Gl G g mu s) (u : Up g g') (H' : Gl G g' mu' s') : Gl G g mu' s' :=
  ⟨H.base, H.upH, u.trans H'.up, fun p hp => ⟨(H'.mus p hp).1, by
    cases e : g.get? p.1 with
    | none => rfl
    | some o => have := (H'.mus p hp).2; rw [u _ _ e] at this; cases this⟩, H'.nd, H'.gens, H'.os⟩
theorem At.back {G : Gh} {A A' : Around} {env env' : Env} {g g' : Heap} {m m' : Str → Option Value} {mu mu' : List (Addr × Obj)} {s s' : Shared} (H : At ⟨G, A, env, g, m, mu⟩ s) (u : Up g g') (H' : At ⟨G, A', env', g', m', mu'⟩ s') : At ⟨G, A', env', g, m', mu'⟩ s' :=
  let ⟨oL, co, l, k, gl⟩ := H'; ⟨oL, co, l, k, H.gl.back u gl⟩
section
variable {c : Cx} {np pos : Pos} {nm : Str} {e : PySem.Expr} {es : List PySem.Expr} {n k : Nat} {f : Addr}
theorem pe_fdef {P : List Value → Prop} {V : Value → Prop} (hf : PE c (.Name nm np) (VE (.ref f))) (hi : fnIs (KF c.G.w.params) f = true) (ha : PA c (e :: es) P) (sp : ∀ vs, P vs → FSpec c.G k f vs c.g (fun zz => V)) (R : Rm c.A n) (hk : k ≤ n)
    (he : starEach (e :: es) c.env = (false, eval e c.env) :: starEach es c.env := by rfl)
    (hc : eval (.Call (.Name nm np) (e :: es) [] pos) c.env = (do let f ← eval (.Name nm np) c.env; callWith pos f [] (backTo pos (starEach (e :: es) c.env)) (backToKw pos (keywordEach [] c.env))) := by rfl) :
    PE c (.Call (.Name nm np) (e :: es) [] pos) V := fun s Q E H kk =>
  c_fdef (G := c.G) (A := c.A) (env := c.env) (g := c.g) (m := c.m) (mu := c.mu) (V := fun zz => V) H hf hi ha sp R hk (fun v s' g' u hv H' => kk v s' hv (At.back (G := c.G) (A := c.A) (env := c.env) (m := c.m) (mu := c.mu) H u H')) he hc
end

section
variable {G : Gh} {A : Around} {env : Env} {g : Heap} {m : Str → Option Value} {mu : List (Addr × Obj)} {s : Shared} {E : Value → Shared → Prop} {p np apos pos : Pos} {tgt iter elt : PySem.Expr} {scope : Scope} {cl : List (Str × Addr)}
noncomputable def TextTurn (G : Gh) (A : Around) (env : Env) (g : Heap) (m : Str → Option Value) (mu : List (Addr × Obj)) (scope : Scope) (cl : List (Str × Addr)) (tgt elt : PySem.Expr) (xs : List (List Nat)) (P : Nat → Value → Prop) : Prop :=
  ∀ i C mc ψ w s x, xs[i]? = some x → P i w → (∀ y, isFree scope y = true → mc y = m y) → At ⟨G, A, compEnvC scope cl C env, g, mc, mu ++ ψ⟩ s →
    wpAny G.M A (assign tgt (compEnvC scope cl C env) w) (fun zz s₂ => ∃ mc', An3 ((∀ y, isFree scope y = true → mc' y = mc y)) (At ⟨G, A, compEnvC scope cl C env, g, mc', mu ++ ψ⟩ s₂) (PE ⟨G, A, compEnvC scope cl C env, g, mc', mu ++ ψ⟩ elt (VT x))) (fun zz zz => False) s
theorem ev_texts {Q : Value → Shared → Prop} {xs : List (List Nat)} (hclos : closureFor scope env = pure cl) (hper : cl.Perm env.cells) (hok : compOK scope cl = true) (hz : xs.length ≤ 1000)
    (hi : wpAny G.M A (eval iter env) (fun v s₁ => Ex2 fun g₁ P => An4 (At ⟨G, A, env, g₁, m, mu⟩ s₁) (Itr G A g₁ v xs.length P) (TextTurn G A env g₁ m mu scope cl tgt elt xs P) ((∀ D vs kk s', TextsAre vs xs → At ⟨G, A, env, g₁, m, (D, lstO vs kk) :: mu⟩ s' → Q (.ref D) s'))) E s)
    (hs : ∀ x, foldedSetIterable iter env x = pure x := by intro _; rfl) :
    wpAny G.M A (eval (.ListComp elt [⟨tgt, iter, [], 0⟩] scope pos) env) Q E s := by
  refine ev_comp hclos hper hok (wpAny_mono hi (fun v s₁ h => ?_) fun zz zz x => x) hs
  obtain ⟨g₁, P, H₁, it, turn, k⟩ := h
  refine ⟨g₁, m, mu, xs.length, P, fun i g' mu' ys => An3 (g' = g₁) (mu' = mu) (TextsAre ys (xs.take i)), H₁, it, by rw [sizeLine_eq]; omega, ⟨rfl, rfl, by rw [List.take_zero]; exact TextsAre.nil⟩, ?_, ?_, ?_⟩
  · rintro i C g₂ mc mu' ψ w ys s₂ hin hw ⟨rfl, rfl, hy⟩ u hm H₂
    obtain ⟨x, hx⟩ : ∃ x, xs[i]? = some x := ⟨_, List.getElem?_eq_getElem hin⟩
    refine wpAny_mono (turn i C mc ψ w s₂ x hx hw hm H₂) (fun zz s₃ h => ?_) fun zz zz q => q.elim
    obtain ⟨mc', hm', H₃, he⟩ := h
    refine tests_yes ?_
    refine pe_run H₃ he fun y s₄ hy' H₄ => ⟨g₂, mc', mu', Up.rfl, H₄, hm', rfl, rfl, ?_⟩
    rw [List.take_add_one, hx]
    exact hy.snoc hy'
  · rintro i g₂ mu' ys ⟨_, _, hy⟩ hi
    have := hy.length
    rw [List.length_take] at this
    omega
  · rintro D g₂ mu' ys kk s₂ ⟨rfl, rfl, hy⟩ u H₂
    rw [List.take_length] at hy
    exact k D ys kk s₂ hy H₂
theorem ex_assign_texts {Q : Flow → Shared → Prop} {xs : List (List Nat)} {y : Str} {py spos : Pos} {rest : List Stmt} (hclos : closureFor scope env = pure cl) (hper : cl.Perm env.cells) (hok : compOK scope cl = true) (hst : stOK env y = true) (hz : xs.length ≤ 1000)
    (hi : wpAny G.M A (eval iter env) (fun v s₁ => Ex2 fun g₁ P => An4 (At ⟨G, A, env, g₁, m, mu⟩ s₁) (Itr G A g₁ v xs.length P) (TextTurn G A env g₁ m mu scope cl tgt elt xs P) ((∀ D vs kk s', TextsAre vs xs → At ⟨G, A, env, g₁, put m y (.ref D), (D, lstO vs kk) :: mu⟩ s' → wpAny G.M A (execs rest env) Q E s'))) E s)
    (hsw : swapsWith (.ListComp elt [⟨tgt, iter, [], 0⟩] scope pos) (some (.Name y py)) spos.line env = pure true := by rfl)
    (hs : ∀ x, foldedSetIterable iter env x = pure x := by intro _; rfl) :
    wpAny G.M A (execs (.Assign [.Name y py] (.ListComp elt [⟨tgt, iter, [], 0⟩] scope pos) spos :: rest) env) Q E s := by
  refine ex_assign_comp hsw hclos hper hok hst (wpAny_mono hi (fun v s₁ h => ?_) fun zz zz x => x) hs
  obtain ⟨g₁, P, H₁, it, turn, k⟩ := h
  refine ⟨g₁, m, mu, xs.length, P, fun i g' mu' ys => An3 (g' = g₁) (mu' = mu) (TextsAre ys (xs.take i)), H₁, it, by rw [sizeLine_eq]; omega, ⟨rfl, rfl, by rw [List.take_zero]; exact TextsAre.nil⟩, ?_, ?_, ?_⟩
  · rintro i C g₂ mc mu' ψ w ys s₂ hin hw ⟨rfl, rfl, hy⟩ u hm H₂
    obtain ⟨x, hx⟩ : ∃ x, xs[i]? = some x := ⟨_, List.getElem?_eq_getElem hin⟩
    refine wpAny_mono (turn i C mc ψ w s₂ x hx hw hm H₂) (fun zz s₃ h => ?_) fun zz zz q => q.elim
    obtain ⟨mc', hm', H₃, he⟩ := h
    refine tests_yes ?_
    refine pe_run H₃ he fun y s₄ hy' H₄ => ⟨g₂, mc', mu', Up.rfl, H₄, hm', rfl, rfl, ?_⟩
    rw [List.take_add_one, hx]
    exact hy.snoc hy'
  · rintro i g₂ mu' ys ⟨_, _, hy⟩ hi
    have := hy.length
    rw [List.length_take] at this
    omega
  · rintro D g₂ mu' ys kk s₂ ⟨rfl, rfl, hy⟩ u H₂
    rw [List.take_length] at hy
    exact k D ys kk s₂ hy H₂
theorem pe_join_texts {x : String} {kk : Nat} {pl : Sem Bool} {xs : List (List Nat)} {lpos : Pos} (hclos : closureFor scope env = pure cl) (hper : cl.Perm env.cells) (hok : compOK scope cl = true) (hz : xs.length ≤ 1000)
    (hi : ∀ s, At ⟨G, A, env, g, m, mu⟩ s → wpAny G.M A (eval iter env) (fun v s₁ => Ex2 fun g₁ P => An4 (Up g g₁) (At ⟨G, A, env, g₁, m, mu⟩ s₁) (Itr G A g₁ v xs.length P) (TextTurn G A env g₁ m mu scope cl tgt elt xs P)) (fun zz zz => False) s)
    (hw : weigh xs ≤ 1048576) (hx : (cs x).length ≤ 16)
    (hs : ∀ x, foldedSetIterable iter env x = pure x := by intro _; rfl)
    (hst : starEach [PySem.Expr.ListComp elt [⟨tgt, iter, [], 0⟩] scope lpos] env = (false, eval (.ListComp elt [⟨tgt, iter, [], 0⟩] scope lpos) env) :: starEach [] env := by rfl)
    (hev : eval (.Call (.Attribute (.Constant (.str (Str.ofString x)) kk p) "join" apos) [.ListComp elt [⟨tgt, iter, [], 0⟩] scope lpos] [] pos) env = (do
      let ov ← eval (.Constant (.str (Str.ofString x)) kk p) env
      standAt apos.atName
      let (f, first) ← holding [ov] (getMethod ov "join" pl)
      callWith pos f first (backTo pos (starEach [.ListComp elt [⟨tgt, iter, [], 0⟩] scope lpos] env)) (backToKw pos (keywordEach [] env))) := by rfl) :
    PE ⟨G, A, env, g, m, mu⟩ (.Call (.Attribute (.Constant (.str (Str.ofString x)) kk p) "join" apos) [.ListComp elt [⟨tgt, iter, [], 0⟩] scope lpos] [] pos) (VT (joinS (cs x) xs)) := fun s Q E H k =>
  ev_join (pl := pl) (fun s' H' => ev_texts hclos hper hok hz (wpAny_mono (hi s' H') (fun v s₁ ⟨g₁, P, u, H₁, it, tt⟩ => ⟨g₁, P, H₁, it, tt, fun D vs kk s₂ ht H₂ =>
    ⟨D, vs, xs, rfl, ⟨_, H₂.get (.head _), rfl, _, rfl⟩, ht, hw, fun w tk hv => k w _ hv (At.toks (c := ⟨G, A, env, g, m, mu⟩) (At.back H u H₂.drop) tk)⟩⟩) fun zz zz q => q.elim) hs) H hx hst hev
end
end Mine
end
section
open PySem PySem.W PyProof.Rows PySem.Calls PySem.Builtin PySem.Builtin.Str
namespace Mine
set_option maxRecDepth 100000

noncomputable def TL (g : Heap) (D : Addr) (xs : List (List Nat)) : Prop := Ex2 fun vs n => g.get? D = some (lstO vs n) ∧ TextsAre vs xs
theorem TL.up {g g' : Heap} {D : Addr} {xs : List (List Nat)} (h : TL g D xs) (u : Up g g') : TL g' D xs := let ⟨vs, n, a, b⟩ := h; ⟨vs, n, u _ _ a, b⟩
noncomputable abbrev Cx.at (c : Cx) (g : Heap) : Cx := { c with g := g }
noncomputable def EL (c : Cx) (e : PySem.Expr) (xs : List (List Nat)) : Prop := ∀ s Q E, At c s → (∀ D g' s', Up c.g g' → TL g' D xs → At (c.at g') s' → Q (.ref D) s') → wpAny c.G.M c.A (eval e c.env) Q E s
section
variable {c : Cx} {pos np : Pos} {e : PySem.Expr}
theorem el_run {s : Shared} {Q : Value → Shared → Prop} {E : Value → Shared → Prop} {xs : List (List Nat)} (H : At c s) (he : EL c e xs) (k : ∀ D g' s', Up c.g g' → TL g' D xs → At (c.at g') s' → Q (.ref D) s') : wpAny c.G.M c.A (eval e c.env) Q E s := he s Q E H k
theorem pt_nil : PA c [] (fun vs => TextsAre vs []) := fun pos s Q E H k => spliced_none (k _ _ TextsAre.nil H)
theorem pt_cons {r : List PySem.Expr} {x : List Nat} {xs : List (List Nat)} (he : PE c e (VT x)) (hr : PA c r (fun vs => TextsAre vs xs)) (hs : starEach (e :: r) c.env = (false, eval e c.env) :: starEach r c.env := by rfl) :
    PA c (e :: r) (fun vs => TextsAre vs (x :: xs)) := fun pos s Q E H k =>
  spliced_more (he s _ _ H fun v s₁ p H₁ => hr pos s₁ _ _ H₁ fun vs s₂ q H₂ => k _ _ (TextsAre.cons p q) H₂) hs
theorem el_list {es : List PySem.Expr} {xs : List (List Nat)} (h : PA c es (fun vs => TextsAre vs xs)) (hz : xs.length ≤ 1000) : EL c (.List es pos) xs := fun s Q E H k =>
  ev_list (G := c.G) (A := c.A) (env := c.env) (g := c.g) (m := c.m) (mu := c.mu) H h (fun D vs s' ht H' => by
    obtain ⟨g', u, hD, H₂⟩ := At.freeze (c := ⟨c.G, c.A, c.env, c.g, c.m, (D, lstO vs 0) :: c.mu⟩) H'
    exact k D g' s' u ⟨vs, 0, hD, ht⟩ H₂) (fun vs ht => by rw [ht.length]; exact hz)
theorem el_local {x : Str} {D : Addr} {xs : List (List Nat)} (hl : varOK c.env x = true) (hv : c.m x = some (.ref D)) (hD : TL c.g D xs) : EL c (.Name x np) xs := fun s Q E H k =>
  pe_run H (pe_local hl hv) fun v s' e H' => by cases e; exact k D c.g s' Up.rfl hD H'
theorem el_add {l r : PySem.Expr} {xs ys : List (List Nat)} (hl : EL c l xs) (hr : ∀ g', Up c.g g' → EL (c.at g') r ys) (hz : xs.length + ys.length ≤ 1000) : EL c (.BinOp l .Add r pos) (xs ++ ys) := fun s Q E H k =>
  wpAny_BinOp (hl s _ _ H fun D g₁ s₁ u₁ ⟨vs, n, hD, hx⟩ H₁ => hr g₁ u₁ s₁ _ _ H₁ fun D₂ g₂ s₂ u₂ ⟨ws, n₂, hD₂, hy⟩ H₂ => by
    refine at_add_lists (G := c.G) (A := c.A) (env := c.env) (g := g₂) (m := c.m) (mu := c.mu) H₂ ⟨_, At.up H₂ _ _ (u₂ _ _ hD), rfl, _, rfl⟩ ⟨_, At.up H₂ _ _ hD₂, rfl, _, rfl⟩ (by rw [hx.length, hy.length]; exact hz) fun D₃ s₃ H₃ => ?_
    obtain ⟨g₃, u₃, hD₃, H₄⟩ := At.freeze (c := ⟨c.G, c.A, c.env, g₂, c.m, (D₃, lstO (vs ++ ws) 0) :: c.mu⟩) H₃
    exact k D₃ g₃ s₃ ((u₁.trans u₂).trans u₃) ⟨_, 0, hD₃, hx.append hy⟩ H₄)
theorem el_if {t a b : PySem.Expr} {d : Bool} {xs ys : List (List Nat)} (ht : PT c t d) (ha : EL c a xs) (hb : EL c b ys) : EL c (.IfExp t a b pos) (if d = true then xs else ys) := fun s Q E H k =>
  IfExp_ (ht s _ _ H fun s₁ H₁ => by
    cases d with
    | true => exact ha s₁ _ _ H₁ k
    | false => exact hb s₁ _ _ H₁ k)
theorem pe_join_el {x : String} {kk : Nat} {p apos : Pos} {pl : Sem Bool} {xs : List (List Nat)} (he : EL c e xs) (hw : weigh xs ≤ 1048576) (hx : (cs x).length ≤ 16)
    (hst : starEach [e] c.env = (false, eval e c.env) :: starEach [] c.env := by rfl)
    (hev : eval (.Call (.Attribute (.Constant (.str (Str.ofString x)) kk p) "join" apos) [e] [] pos) c.env = (do
      let ov ← eval (.Constant (.str (Str.ofString x)) kk p) c.env
      standAt apos.atName
      let (f, first) ← holding [ov] (getMethod ov "join" pl)
      callWith pos f first (backTo pos (starEach [e] c.env)) (backToKw pos (keywordEach [] c.env))) := by rfl) :
    PE c (.Call (.Attribute (.Constant (.str (Str.ofString x)) kk p) "join" apos) [e] [] pos) (VT (joinS (cs x) xs)) := fun s Q E H k =>
  ev_join (pl := pl) (G := c.G) (A := c.A) (env := c.env) (g := c.g) (m := c.m) (mu := c.mu) (fun s' H' => he s' _ _ H' fun D g' s₁ u ⟨vs, n, hD, ht⟩ H₁ => ⟨D, vs, xs, rfl, ⟨_, At.up H₁ _ _ hD, rfl, _, rfl⟩, ht, hw, fun w tk hv => k w _ hv
    (At.toks (c := c) (At.back (G := c.G) (A := c.A) (env := c.env) (m := c.m) (mu := c.mu) H u H₁) tk)⟩) H hx hst hev
end
section
variable {G : Gh} {A : Around} {env : Env} {g : Heap} {m : Str → Option Value} {mu : List (Addr × Obj)} {s : Shared} {Q : Value → Shared → Prop} {E : Value → Shared → Prop} {np apos pos : Pos} {x : Str} {e : PySem.Expr}
theorem ev_extend {D : Addr} {o : Obj} (H : At ⟨G, A, env, g, m, mu⟩ s) (hs : PE ⟨G, A, env, g, m, mu⟩ (.Name x np) (VE (.ref D))) (hD : (D, o) ∈ mu) (hc : o.cls = .type "list") (hd : o.dict = none) {pl : Sem Bool}
    (he : ∀ s', At ⟨G, A, env, g, m, mu⟩ s' → wpAny G.M A (eval e env) (fun v s₁ => Ex7 fun b g' m' mu' vs n ws => An5 (v = .ref b) (vs.length + ws.length ≤ 1000) (At ⟨G, A, env, g', m', (D, lstO vs n) :: mu'⟩ s₁) ((∃ n2, s₁.heap.get? b = some (lstO ws n2))) (∀ n' s₂, At ⟨G, A, env, g', m', (D, lstO (vs ++ ws) n') :: mu'⟩ s₂ → Q .none s₂)) E s')
    (hst : starEach [e] env = (false, eval e env) :: starEach [] env := by rfl)
    (hev : eval (.Call (.Attribute (.Name x np) "extend" apos) [e] [] pos) env = (do
      let ov ← eval (.Name x np) env
      standAt apos.atName
      let (f, first) ← holding [ov] (getMethod ov "extend" pl)
      callWith pos f first (backTo pos (starEach [e] env)) (backToKw pos (keywordEach [] env))) := by rfl) :
    wpAny G.M A (eval (.Call (.Attribute (.Name x np) "extend" apos) [e] [] pos) env) Q E s := by
  refine methodCall_KW (pl := pl) (hs s _ _ H fun u s₁ q H₁ => ?_) hev
  (first | subst q | cases q)
  have ho := H₁.get hD
  refine getMethod_builtin ⟨_, ho, hc⟩ PySem.F.plainAttrs_list PySem.F.slot_list_extend PySem.F.type_list_extend (fun a e => by cases e; exact ⟨_, ho, hd⟩) (cw_bi (sp_cons (wpAny_mono (he s₁ H₁) (fun v s₂ h₂ => sp_nil ?_) fun zz zz h => h) hst) hst)
  obtain ⟨b, g', m', mu', vs, n, ws, rfl, hz, H₂, hb, k⟩ := h₂
  exact at_extend H₂ hb hz k
end
end Mine
end
section
open PySem PySem.W PyProof.Rows PySem.Calls PySem.Builtin PySem.Builtin.Str
namespace Mine
set_option maxRecDepth 100000

theorem range_small {N : Nat} (h : N ≤ 1000) : Builtin.Range.small 0 (N : Int) 1 = true ∧ Builtin.Range.rangeSize 0 (N : Int) 1 = N := by
  have e : Builtin.Range.rangeSize 0 (N : Int) 1 = N := by
    rw [rangeSize_one]
    split <;> omega
  exact ⟨small_one (by omega) (by omega) (by omega) (by omega), e⟩
theorem itr_range {G : Gh} {A : Around} {g₀ : Heap} (hh : A.handled = none) {r : Addr} {N : Nat} {t u v : Tok} (hr : g₀.get? r = some { cls := .type "range", dict := none, data := .fields #[.int 0 t, .int N u, .int 1 v], slots := #[] }) (hN : N ≤ 1000) :
    Itr G A g₀ (.ref r) N (fun i w => VI (i : Int) w) := by
  intro env g m mu s Q E up H k
  obtain ⟨h1, h2⟩ := range_small hN
  have hr' : IsRange s.heap r 0 N 1 t u v := H.up _ _ (up _ _ hr)
  refine wpAny_pyIter_range hr' h1 ?_
  rw [h2]
  have W := Walks.range (prog := pw) (w := G.w) hh s.heap.objs.size 0 1 N
  refine k _ _ (fun i h => IsRangeIter h s.heap.objs.size (0 + (i : Nat) * 1) ((N : Int) - (i : Nat)) 1) _ ⟨⟨[s.heap.objs.size], ⟨W.sub, W.frame, fun i s Q E hi st hQ => W.item i s Q E hi st fun v h' tk pv => hQ v h' tk (by obtain ⟨t, rfl⟩ := pv; exact ⟨t, by simp⟩), W.done, W.self⟩, fun b hb => .inl (List.mem_singleton.mp hb)⟩, fun i h st => ⟨_, st, rfl⟩⟩ (by simpa using Heap.get?_push_size _ rfl) H.alloc
section
variable {G : Gh} {A : Around} {env : Env} {g : Heap} {m : Str → Option Value} {mu : List (Addr × Obj)} {s : Shared} {Q : Value → Shared → Prop} {E : Value → Shared → Prop}
theorem at_range {N : Nat} {t : Tok} (hh : A.handled = none) (H : At ⟨G, A, env, g, m, mu⟩ s) (hN : N ≤ 1000)
    (k : ∀ v g' s', Up g g' → Itr G A g' v N (fun i w => VI (i : Int) w) → At ⟨G, A, env, g', m, mu⟩ s' → Q v s') : wpAny G.M A (call (.type "range") [.int N t]) Q E s := by
  refine call_range_1 ?_
  obtain ⟨g', u, hg, H'⟩ := At.grows (c := ⟨G, A, env, g, m, mu⟩) (h' := s.heap.push { cls := .type "range", data := .fields #[.int 0 s.toks, .int N t, .int 1 (s.toks + 1)] }) H (fun b o e => Heap.get?_push_of_some _ e) (s.toks + 1 + 1)
  exact k _ g' _ u (itr_range hh (hg _ _ (Heap.get?_push_size _ rfl) (Heap.get?_none_of_le (Nat.le_refl _))) hN) H'
noncomputable def LstIs (o : Obj) (vs : List Value) : Prop := o.cls = .type "list" ∧ ∃ n, o.data = .seq vs.toArray n
theorem LstIs.at {h : Heap} {D : Addr} {o : Obj} {vs : List Value} (hl : LstIs o vs) (ho : h.get? D = some o) : h.IsList D vs.toArray := ⟨o, ho, hl.1, hl.2⟩
theorem at_list_set {D : Addr} {o : Obj} {vs : List Value} {j : Nat} {t : Tok} {v : Value} {Q : Unit → Shared → Prop} (H : At ⟨G, A, env, g, m, (D, o) :: mu⟩ s) (hl : LstIs o vs) (hj : j < vs.length) (hz : vs.length ≤ 1000)
    (k : ∀ o' s', LstIs o' (vs.set j v) → At ⟨G, A, env, g, m, (D, o') :: mu⟩ s' → Q () s') : wpAny G.M A (setItem (.ref D) (.int j t) v) Q E s := by
  refine wpAny_setItem_list (hl.at (H.get (.head _))) (by omega) (by omega) (by simpa using hj) fun h' hl' hs => ?_
  obtain ⟨o', ho, hc, ne, hd⟩ := hl'
  exact k o' _ ⟨hc, ne, by rw [hd]; simp⟩ (At.same (c := ⟨G, A, env, g, m, []⟩) H hs ho s.toks)
end
section
variable {c : Cx} {pos : Pos}
theorem mul_ok {a b : Int} (ha : 0 ≤ a) (ha' : a < 2 ^ 63) : IntMulOk a b := by
  refine IntMulOk.of_left ?_
  unfold Builtin.Int.intBits
  split
  · omega
  · rename_i h
    have h0 : a.natAbs ≠ 0 := by simpa using h
    have := (Nat.log2_lt h0 (k := 63)).mpr (by omega)
    omega
theorem pe_mul_int {l r : PySem.Expr} {a b : Int} (hl : PE c l (VI a)) (hr : PE c r (VI b)) (ha : 0 ≤ a) (ha' : a < 2 ^ 63) : PE c (.BinOp l .Mult r pos) (VI (a * b)) := fun s Q E H k =>
  wpAny_BinOp (hl s _ _ H fun v s₁ ⟨t, e⟩ H₁ => hr s₁ _ _ H₁ fun u s₂ ⟨t', e'⟩ H₂ => by
    subst e; subst e'
    exact mul_int (k _ _ ⟨_, rfl⟩ (H₂.toks _)) (mul_ok ha ha'))
end
end Mine
end
section
open PySem PySem.W PyProof.Rows PySem.Calls PySem.Builtin PySem.Builtin.Str PySem.NumText
namespace Mine
set_option maxRecDepth 100000

theorem fn_read_instructions (P : Params) : FnOK P fi_read_instructions := ⟨by kernel_rfl, by kernel_rfl, by kernel_rfl⟩

noncomputable def pInssEnd (acc : List Ins) (told r : List Nat) : Option (List Ins × List Nat) := if told = toldOf acc then (pEnd r).bind fun y => some (acc, y.2) else none
noncomputable def pInssLoop : Nat → List Ins → List Nat → List Nat → Option (List Ins × List Nat)
  | 0, _, _, _ => none
  | k + 1, acc, told, r => if wordAt (skipB r) = [101, 110, 100] then pInssEnd acc told ((skipB r).drop 3) else
    if (skipB r).isEmpty = true then none else (pLabel acc.length (skipB r)).bind fun b => (pIns b.2).bind fun i => pInssLoop k (acc ++ [i.1]) (if b.1 = true then told ++ [acc.length] else told) i.2
noncomputable def pInss (r : List Nat) : Option (List Ins × List Nat) := pInssLoop (r.length + 1) [] [] r

theorem end_len {u : Unit} {r r' : List Nat} (h : pEnd r = some (u, r')) : r'.length < r.length := by
  unfold pEnd at h
  split at h
  · rename_i e
    obtain ⟨_, rfl⟩ := some_inj2 h
    have := skip_len r
    cases hh : skipB r with
    | nil => rw [hh] at e; cases e
    | cons c t => rw [hh] at this; simp at this ⊢; omega
  · cases h
theorem nb_len (r : List Nat) : (nb r).length ≤ r.length := List.length_filter_le ..
theorem label_len {p : Nat} {b : Bool} {r r' : List Nat} (h : pLabel p r = some (b, r')) : r'.length ≤ r.length := by
  unfold pLabel at h
  have := skip_len r
  split at h
  · cases hl : pLet 76 (skipB r) with
    | none => rw [hl] at h; cases h
    | some x =>
      rw [hl] at h
      dsimp only [Option.bind] at h
      have := let_len (n := x.1) (r' := x.2) hl
      split at h
      · obtain ⟨rfl, rfl⟩ := some_inj2 h
        omega
      · cases h
  · obtain ⟨rfl, rfl⟩ := some_inj2 h
    exact this
theorem rowsLoop_len : ∀ {k : Nat} {acc l : List Row} {r r' : List Nat}, pRowsLoop k acc r = some (l, r') → r'.length ≤ r.length
  | 0, _, _, _, _, h => by cases h
  | k + 1, acc, l, r, r', h => by
    rw [pRowsLoop] at h
    have h0 := skip_len r
    split at h
    · obtain ⟨rfl, rfl⟩ := some_inj2 h
      exact h0
    · cases ha : pLet 114 (skipB r) with
      | none => rw [ha] at h; cases h
      | some a =>
        rw [ha] at h
        dsimp only [Option.bind] at h
        obtain ⟨b, hb, h⟩ := obs h
        obtain ⟨q, hl, h⟩ := obs h
        have h1 := let_len (n := a.1) (r' := a.2) ha
        have h2 := let_len (n := b.1) (r' := b.2) hb
        have h3 := regs_len (l := q.1) (r' := q.2) hl
        have h4 := rowsLoop_len (k := k) h
        omega
theorem opd_len {srt : Srt} {o : Opd} {r r' : List Nat} (h : pOpd srt r = some (o, r')) : r'.length ≤ r.length := by
  unfold pOpd at h
  split at h
  · cases hr : pRegs r with
    | none => rw [hr] at h; cases h
    | some x =>
      rw [hr] at h
      obtain ⟨rfl, rfl⟩ := some_inj2 h
      exact Nat.le_of_lt (regs_len (l := x.1) (r' := x.2) hr)
  · split at h
    · cases hr : pRows r with
      | none => rw [hr] at h; cases h
      | some x =>
        rw [hr] at h
        obtain ⟨rfl, rfl⟩ := some_inj2 h
        exact rowsLoop_len (l := x.1) (r' := x.2) hr
    · split at h
      · cases hr : pWord r with
        | none => rw [hr] at h; cases h
        | some x =>
          rw [hr] at h
          dsimp only [Option.bind] at h
          obtain ⟨n, hp, h⟩ := obs h
          obtain ⟨rfl, rfl⟩ := some_inj2 h
          have := word_len (w := x.1) (r' := x.2) hr
          omega
      · cases hr : pLet srt.letter r with
        | none => rw [hr] at h; cases h
        | some x =>
          rw [hr] at h
          obtain ⟨rfl, rfl⟩ := some_inj2 h
          exact Nat.le_of_lt (let_len (n := x.1) (r' := x.2) hr)
theorem opds_len : ∀ {ss : List Srt} {os : List Opd} {r r' : List Nat}, pOpds ss r = some (os, r') → r'.length ≤ r.length
  | [], os, r, r', h => by rw [pOpds] at h; obtain ⟨rfl, rfl⟩ := some_inj2 h; exact Nat.le_refl _
  | s :: ss, os, r, r', h => by
    rw [pOpds] at h
    obtain ⟨x, hx, h⟩ := obs h
    obtain ⟨y, hy, h⟩ := obs h
    obtain ⟨rfl, rfl⟩ := some_inj2 h
    have h1 := opd_len (o := x.1) (r' := x.2) hx
    have h2 := opds_len (os := y.1) (r' := y.2) hy
    omega
theorem ins_len {i : Ins} {r r' : List Nat} (h : pIns r = some (i, r')) : r'.length < r.length := by
  unfold pIns at h
  obtain ⟨wr, hw, h⟩ := obs h
  obtain ⟨ss, hs, h⟩ := obs h
  obtain ⟨x, hx, h⟩ := obs h
  obtain ⟨y, hy, h⟩ := obs h
  obtain ⟨rfl, rfl⟩ := some_inj2 h
  have h1 := word_len (w := wr.1) (r' := wr.2) hw
  have h2 := opds_len (os := x.1) (r' := x.2) hx
  have h3 := end_len (u := y.1) (r' := y.2) hy
  omega

section
variable {pc : PC} {A : Around} {env : Env} {ρ : List (Addr × Obj)} {outer : List Env} {n n' : Nat} {g : Heap} {m : Str → Option Value} {r : List Nat} {s : Shared} {Q E : Value → Shared → Prop} {np pos : Pos}
  {α : Type} {F : List Nat → Option (α × List Nat)} {V : Heap → α → Value → Prop}
theorem La.freeze {a : Addr} {o : Obj} (H : La pc A env ((a, o) :: ρ) g m r s) : ∃ g', An3 (Up g g') (g'.get? a = some o) (La pc A env ρ g' m r s) := by
  obtain ⟨o', x, H, c, d⟩ := H
  obtain ⟨g', u, h, H'⟩ := At.freeze (c := ⟨pc.G, A, env, g, m, (a, o) :: (pc.dx, o') :: ρ⟩) (H.perm (.swap ..))
  exact ⟨g', u, h, o', x, H', u _ _ c, fun b o e => u _ _ (d _ _ e)⟩
theorem La.swap {p q : Addr × Obj} (H : La pc A env (p :: q :: ρ) g m r s) : La pc A env (q :: p :: ρ) g m r s := by
  obtain ⟨o', x, H, c, d⟩ := H
  exact ⟨o', x, H.perm ((List.Perm.swap ..).cons _), c, d⟩
theorem la_pe2 {e : PySem.Expr} {P : Value → Prop} {Q : Value → Shared → Prop} (H : La pc A env ρ g m r s) (he : ∀ o, PE ⟨pc.G, A, env, g, m, (pc.dx, o) :: ρ⟩ e P) (k : ∀ v s', P v → La pc A env ρ g m r s' → Q v s') : wpAny pc.G.M A (eval e env) Q E s := by
  obtain ⟨o, a, b', c, d'⟩ := H
  exact he _ s _ _ b' fun v s' p h' => k v s' p ⟨o, a, h', c, d'⟩
theorem la_def2 {nm : Str} {f : Addr} {e : PySem.Expr} {es : List PySem.Expr} {P : List Value → Prop} (W : Wk pc A env ρ outer n) (H : La pc A env ρ g m r s)
    (hf : ∀ mu, PE ⟨pc.G, A, env, g, m, mu⟩ (.Name nm np) (VE (.ref f))) (hi : fnIs (KF pc.G.w.params) f = true) (ha : ∀ o, PA ⟨pc.G, A, env, g, m, (pc.dx, o) :: ρ⟩ (e :: es) P)
    (sp : ∀ vs, P vs → PSpec pc n' f vs g F V) (hn : n' ≤ n)
    (k : ∀ a r' v s' g', F r = some (a, r') → Up g g' → V g' a v → La pc A env ρ g' m r' s' → Q v s') (kE : ∀ e s', F r = none → FH pc.X env outer e s' → E e s')
    (he : starEach (e :: es) env = (false, eval e env) :: starEach es env := by rfl)
    (hc : eval (.Call (.Name nm np) (e :: es) [] pos) env = (do let f ← eval (.Name nm np) env; callWith pos f [] (backTo pos (starEach (e :: es) env)) (backToKw pos (keywordEach [] env))) := by rfl) :
    wpAny pc.G.M A (eval (.Call (.Name nm np) (e :: es) [] pos) env) Q E s := by
  obtain ⟨o, a, b, c, d⟩ := H
  refine c_def b (hf _) hi (ha _) (fun vs s' pv h' => ?_) he hc
  exact la_call W ⟨_, a, h', c, d⟩ (sp vs pv) Up.rfl hn k kE
end
theorem La.nlz {pc : PC} {A : Around} {env : Env} {ρ : List (Addr × Obj)} {g : Heap} {m : Str → Option Value} {r : List Nat} {s : Shared} (H : La pc A env ρ g m r s) : nl r ≤ nl pc.l := by
  obtain ⟨o, ⟨p, ln, hp, hr, hL⟩, _⟩ := H
  subst hr
  unfold nl nb
  conv => rhs; rw [← List.take_append_drop p pc.l]
  rw [List.filter_append, List.count_append]; omega
theorem take_get {α : Type} {l : List α} {i : Nat} {x : α} (h : l[i]? = some x) : l.take (i + 1) = l.take i ++ [x] := by
  rw [List.take_add_one, h]; rfl
theorem nums_get {L : List Nat} {i : Nat} {d : PyData} (h : (numsD L)[i]? = some d) : ∃ n, L[i]? = some n ∧ d = .int (n : Int) := by
  unfold numsD at h
  rw [List.getElem?_map] at h
  obtain ⟨n, h1, h2⟩ := Option.map_eq_some_iff.mp h
  exact ⟨n, h1, h2.symm⟩

theorem nums_dec {a b : List Nat} : decide ((a.map fun n : Nat => (n : Int)) = (b.map fun n : Nat => (n : Int))) = decide (a = b) := decide_eq_decide.mpr nums_inj

theorem read_instructions_spec (pc : PC) (g₀ : Heap) (vo : Value) (ho : OpsAt pc.G.w g₀ vo) : PSpec pc 11 263 [.ref pc.x, vo] g₀ pInss (fun g is v => RD g (.list (is.map insD)) v) := by
  intro A outer g ρ r s Q E u H R hA hS k kE
  have hz := pc.hz
  have hn64 : nl pc.l < 64 := pc.hn
  refine enterP (i := fi_read_instructions) (binds := [("listing", .ref pc.x), ("ops", vo)]) (n := 10) (pInss r = none) fn_read_instructions H R hA hS (fun e s' h => kE e s' h) (by rfl) (by kernel_rfl) fun L s' W H' => ?_
  show wpAny _ _ (execs (List.cons _ _) _) _ _ _
  have hr0 := H'.len
  have hnl0 := H'.nlz
  obtain ⟨o, a, H₁, c, d⟩ := H'
  refine ex_assign2 W.rm.h (Tuple_ (sp_cons (ev_nil_list H₁ fun D₁ s₁ H₂ => sp_cons (ev_nil_list H₂ fun D₂ s₂ H₃ => sp_nil (at_tuple H₃ (by simp) fun T g₁ s₃ u₁ hT H₄ => ?_))))) (by kernel_rfl) (by kernel_rfl)
  refine ⟨T, .ref D₁, .ref D₂, g₁, _, _, rfl, ⟨_, H₄.up _ _ hT, rfl, _, rfl⟩, H₄, fun s₄ H₅ => ?_⟩
  have H₆ : La pc _ _ ((D₁, lstO [] 0) :: (D₂, lstO [] 0) :: ρ) g₁ _ r s₄ := ⟨o, a, H₅.perm ((List.Perm.swap ..).trans (((List.Perm.swap ..).cons _).trans (List.Perm.swap ..))), u₁ _ _ c, fun b o e => u₁ _ _ (d _ _ e)⟩
  refine ex_while (Ei := fun e s'' => pInss r = none ∧ FH pc.X (fi_read_instructions.env L) outer e s'') (la_noted W _)
    (fun n s'' => Ex9 fun is vf kf told vt kt r₂ g₂ m => An13 (La pc (A.deeper (fi_read_instructions.env L)) (fi_read_instructions.env L) ((D₁, lstO vf kf) :: (D₂, lstO vt kt) :: ρ) g₂ m r₂ s'') (Up g₁ g₂) (m (Str.ofString "listing") = some (.ref pc.x)) (m (Str.ofString "ops") = some vo) (m (Str.ofString "found") = some (.ref D₁)) (m (Str.ofString "told") = some (.ref D₂)) (RDs g₂ (is.map insD) vf) (RDs g₂ (numsD told) vt) (pInssLoop n is told r₂ = pInss r) (r₂.length < n) ((∀ i ∈ is, insOK i)) (is.length + nl r₂ ≤ nl pc.l) (vt.length ≤ is.length)) ?_ (r.length + 1) ⟨[], [], 0, [], [], 0, r, g₁, _, H₆, Up.rfl, by rfl, by rfl, by rfl, by rfl, RDs.nil, RDs.nil, rfl, by omega, fun zz h => (nomatch h), by simpa using hnl0, Nat.le_refl _⟩
  rintro n s₅ ⟨is, vf, kf, told, vt, kt, r₂, g₂, m, H₇, u₂, m1, m2, m3, m4, hrf, hrt, hloop, hn, hok, hcnt, hvt⟩
  obtain ⟨n, rfl⟩ : ∃ j, n = j + 1 := ⟨n - 1, by omega⟩
  rw [pInssLoop] at hloop
  have hs2 := skip_len r₂
  have hvf : vf.length = is.length := by rw [hrf.length]; simp
  refine isTrue_not (isTrue_plain (la_meth W.more.more H₇ (fun zz => (pe_local (by kernel_rfl) (by exact m1))) (fun mu => pa_one pe_strc) (by kernel_rfl) (by kernel_rfl) (ld_get (by kernel_rfl) (by kernel_rfl) (by kernel_rfl)) (fun vs ⟨v, e, hv⟩ => by subst e; exact takes_spec pc g₂ [101, 110, 100] v ((show cs "end" = [101, 110, 100] by kernel_rfl) ▸ hv) (by simp)) (by decide) (fun b r₃ v s₄ g₃ e u₃ hv H₈ => ?_) fun e s' q f => (by unfold pTakes at q; cases q)))
  subst hv
  refine wpAny_truthy_bool ?_
  unfold pTakes at e
  by_cases h : wordAt (skipB r₂) = [101, 110, 100]
  · rw [if_pos h] at e hloop
    obtain ⟨rfl, rfl⟩ := some_inj2 e
    simp only [Bool.not_true, Bool.false_eq_true, if_false]
    -- both lists are done
    obtain ⟨g₄, u₄, hD₁, H₉⟩ := H₈.freeze
    obtain ⟨g₅, u₅, hD₂, H₁₀⟩ := H₉.freeze
    have hD₁' := u₅ _ _ hD₁
    have hrf' : RDs g₅ (is.map insD) vf := (((hrf.up u₃).up u₄).up u₅)
    have hrt' : RDs g₅ (numsD told) vt := (((hrt.up u₃).up u₄).up u₅)
    refine ex_if_any (wpAny_isTrue_Compare1 (la_pe H₁₀ (fun mu => (pe_local (by kernel_rfl) (by exact m4))) fun v s₈ hv H₁₁ => ?_))
    cases hv
    obtain ⟨o, a, H₁₂, c, d⟩ := H₁₁
    refine ev_comp (cl := [("found", L + 1)]) (by rfl) (.refl _) (by kernel_rfl) (c_fdef (P := P1 (VE (.ref D₁))) H₁₂ (pe_glob (by kernel_rfl) rfl (by kernel_rfl)) (by kernel_rfl) (pa_one (pe_local (by kernel_rfl) (by exact m3))) (fun vs ⟨v, e, hv⟩ => by subst e; cases hv; exact labels_met_spec pc.G _ is _ (RD.list hD₁' hrf') hok (by omega)) W.rm (by decide) fun v s₁₀ g₆ u₆ hV H₁₃ => ?_)
    obtain ⟨Lb, hLv, hL1, hL2, hL3⟩ := hV
    obtain ⟨aL, vsL, rfl, hLl, hLr⟩ := hLv.toList
    have hlen : vsL.length = Lb.length := by rw [hLr.length]; simp [numsD]
    refine ⟨g₆, m, _, vsL.length, _, fun i g mu ys => An3 (mu = (pc.dx, o) :: ρ) (RDs g (numsD ((Lb.take i).filter fun n => decide (n < is.length))) ys) (ys.length ≤ i), H₁₃, itr_list W.rm.h hLl, by rw [hlen, sizeLine_eq]; omega, ⟨rfl, RDs.nil, Nat.le_refl _⟩, ?_, fun _ _ _ _ ⟨_, _, h⟩ _ => h, ?_⟩
    · rintro i C g₇ mc mu ψ v ys s₁₁ hi pv ⟨rfl, hr, hy⟩ u₇ hm H₁₄
      obtain ⟨dd, hd1, hd2⟩ := hLr.get pv
      obtain ⟨x, hx, rfl⟩ := nums_get hd1
      obtain ⟨tx, rfl⟩ := hd2.toI
      refine wpAny_assign_Name (At.store (c := ⟨pc.G, _, _, g₇, mc, _⟩) H₁₄ (by kernel_rfl) fun s₁₂ H₁₅ => tests_one ?_)
      have hfd : put mc "label" (.int (x : Int) tx) (Str.ofString "found") = some (.ref D₁) := (hm "found" (by kernel_rfl)).trans m3
      refine pt_run H₁₅ (pt_lt (pe_locI (i := (x : Int)) (t := tx) (by kernel_rfl) (by rfl)) (pe_len_list (a := D₁) (vs := vf) (pe_local (by kernel_rfl) hfd) (fun s H => ⟨_, H.up _ _ (u₇ _ _ (u₆ _ _ hD₁')), rfl, _, rfl⟩) (by omega))) fun s₁₃ H₁₆ => ?_
      by_cases hxl : x < is.length
      · rw [show decide ((x : Int) < (vf.length : Int)) = true by simp; omega]
        refine elt_yes ?_
        refine pe_locI (i := (x : Int)) (t := tx) (by kernel_rfl) (by rfl) s₁₃ _ _ H₁₆ fun y s₁₄ hy' H₁₇ => ⟨g₇, _, _, Up.rfl, H₁₇, free_put (by kernel_rfl), rfl, ?_, by simp; omega⟩
        rw [take_get hx, List.filter_append, numsD, List.map_append]
        refine RDs.snoc (d := .int (x : Int)) hr (RD.ofI hy') |> fun z => ?_
        simpa [hxl, numsD] using z
      · rw [show decide ((x : Int) < (vf.length : Int)) = false by simp; omega]
        refine elt_no ?_
        refine ⟨g₇, _, _, Up.rfl, H₁₆, free_put (by kernel_rfl), rfl, ?_, by omega⟩
        rw [take_get hx, List.filter_append]
        simpa [hxl] using hr
    · rintro D₃ g₇ mu ys k₃ s₁₁ ⟨rfl, hr, hy⟩ u₇ H₁₄
      rw [hlen, List.take_length, labs_filter hL1 hL2] at hr
      refine ne_intsK (vs := vt) (us := ys) ⟨_, H₁₄.up _ _ (u₇ _ _ (u₆ _ _ hD₂)), rfl, _, rfl⟩ (ints_of hrt') ⟨_, H₁₄.get (.head _), rfl, _, rfl⟩ (ints_of hr) (by have := W.rm.u; omega) (wpAny_truthy_bool ?_)
      rw [nums_dec]
      unfold pInssEnd at hloop
      have H₁₅ : La pc _ _ ρ g₇ m _ s₁₁ := ⟨o, a, H₁₄.drop, u₇ _ _ (u₆ _ _ c), fun b o e => u₇ _ _ (u₆ _ _ (d _ _ e))⟩
      have hrf₇ : RDs g₇ (is.map insD) vf := (hrf'.up u₆).up u₇
      have hD₁₇ : g₇.get? D₁ = some (lstO vf kf) := u₇ _ _ (u₆ _ _ hD₁')
      by_cases ht : told = toldOf is
      · rw [if_pos ht] at hloop
        simp only [ht, decide_true, Bool.not_true, Bool.false_eq_true, if_false]
        refine ex_nil (ex_expr_any (la_meth0 W H₁₅ (fun zz => (pe_local (by kernel_rfl) (by exact m1))) (by kernel_rfl) (ld_get (by kernel_rfl) (by kernel_rfl) (by kernel_rfl)) (end_line_spec pc g₇) (by decide) (fun zz r₄ v s₁₂ g₈ e u₈ hv H₁₆ => ?_) fun e s' q f => ⟨by have q' : pEnd ((skipB r₂).drop 3) = none := q; rw [q'] at hloop; exact hloop.symm, f⟩))
        have e' : pEnd ((skipB r₂).drop 3) = some (_, r₄) := e
        rw [e'] at hloop
        refine la_ret H₁₆ (fun mu => (pe_local (by kernel_rfl) (by exact m3))) fun v s₁₃ hv H₁₇ => ?_
        cases hv
        exact k is r₄ _ s₁₃ g₈ hloop.symm (((((((u₁.trans u₂).trans u₃).trans u₄).trans u₅).trans u₆).trans u₇).trans u₈) (RD.list (u₈ _ _ hD₁₇) (hrf₇.up u₈)) H₁₇.li
      · rw [if_neg ht] at hloop
        simp only [ht, decide_false, Bool.not_false, if_true]
        exact ex_expr_any (la_meth W H₁₅ (fun zz => (pe_local (by kernel_rfl) (by exact m1))) (fun mu => pa_one pe_strc) (by kernel_rfl) (by kernel_rfl) (ld_get (by kernel_rfl) (by kernel_rfl) (by kernel_rfl)) (fun vs ⟨v, e, _⟩ => by subst e; exact refuse_spec pc g₇ v) (by decide) (fun zz zz zz zz zz e => (by cases e)) fun e s' zz f => ⟨hloop.symm, f⟩)
  · rw [if_neg h] at e hloop
    obtain ⟨rfl, rfl⟩ := some_inj2 e
    simp only [Bool.not_false, if_true]
    refine ex_if_any (isTrue_plain (la_meth0 W.more.more H₈ (fun zz => (pe_local (by kernel_rfl) (by exact m1))) (by kernel_rfl) (ld_get (by kernel_rfl) (by kernel_rfl) (by kernel_rfl)) (is_at_end_spec pc g₃) (by decide) (fun b r₃ v s₆ g₄ e u₄ hv H₉ => ?_) fun e s' q f => nomatch q))
    obtain ⟨rfl, rfl⟩ := some_inj2 e
    subst hv
    refine wpAny_truthy_bool ?_
    by_cases h0 : (skipB r₂).isEmpty = true
    · rw [if_pos h0] at hloop
      simp only [h0, if_true]
      exact ex_expr_any (la_meth W.more.more H₉ (fun zz => (pe_local (by kernel_rfl) (by exact m1))) (fun mu => pa_one pe_strc) (by kernel_rfl) (by kernel_rfl) (ld_get (by kernel_rfl) (by kernel_rfl) (by kernel_rfl)) (fun vs ⟨v, e, _⟩ => by subst e; exact refuse_spec pc g₄ v) (by decide) (fun zz zz zz zz zz e => (by cases e)) fun e s' zz f => ⟨hloop.symm, f⟩)
    rw [if_neg h0] at hloop
    simp only [h0, Bool.false_eq_true, if_false]
    have hsk := nl_skip r₂
    refine ex_nil (ex_if_mid (R := fun s₈ => Ex5 fun b r₃ g₅ vt' kt' => An5 (pLabel is.length (skipB r₂) = some (b, r₃)) (Up g₄ g₅) (La pc (A.deeper (fi_read_instructions.env L)) (fi_read_instructions.env L) ((D₁, lstO vf kf) :: (D₂, lstO vt' kt') :: ρ) g₅ m r₃ s₈) (RDs g₅ (numsD (if b = true then told ++ [is.length] else told)) vt') (vt'.length ≤ is.length + 1))
      (isTrue_plain (la_def2 (P := P2 (VE (.ref pc.x)) (VI (is.length : Int))) W.more.more H₉ (fun zz => pe_glob (by kernel_rfl) rfl (by kernel_rfl)) (by kernel_rfl)
      (fun o => pa_two (pe_local (by kernel_rfl) (by exact m1)) ((pe_len_list (a := D₁) (vs := vf) (pe_local (by kernel_rfl) (by exact m3)) (fun s H => ⟨_, H.get (.tail _ (.head _)), rfl, _, rfl⟩) (by omega)).mono fun v hv => hvf ▸ hv))
      (fun vs ⟨v₁, v₂, e, h1, h2⟩ => by subst e; cases h1; exact read_label_spec pc g₄ is.length v₂ h2) (by decide) (fun b r₃ v s₇ g₅ e u₅ hv H₁₀ => ?_) fun e s' q f => ⟨by rw [q] at hloop; exact hloop.symm, f⟩)) fun s₈ hR => ?_)
    · subst hv
      refine wpAny_truthy_bool ?_
      cases b with
      | true =>
        simp only [if_true]
        refine ex_expr_any (la_append (D := D₂) H₁₀.swap (fun zz => (pe_local (by kernel_rfl) (by exact m4))) fun s₅ H₁₁ => la_pe2 H₁₁ (fun o => (pe_len_list (a := D₁) (vs := vf) (pe_local (by kernel_rfl) (by exact m3)) (fun s H => ⟨_, H.get (.tail _ (.tail _ (.head _))), rfl, _, rfl⟩) (by omega))) fun v s₉ hv H₁₂ => ⟨g₅, m, r₃, by omega, H₁₂, fun s₁₀ H₁₃ => ex_nil ⟨rfl, true, r₃, g₅, vt ++ [v], kt + 1, e, u₅, H₁₃.swap, ?_, by simp; omega⟩⟩)
        simp only [if_true]
        rw [numsD, List.map_append]
        exact RDs.snoc (((hrt.up u₃).up u₄).up u₅) (hvf ▸ RD.ofI hv)
      | false =>
        simp only [Bool.false_eq_true, if_false]
        exact ⟨false, r₃, g₅, vt, kt, e, u₅, H₁₀, (((hrt.up u₃).up u₄).up u₅), by omega⟩
    obtain ⟨b, r₃, g₅, vt', kt', e, u₅, H₁₀, hrt', hvt'⟩ := hR
    rw [e] at hloop
    dsimp only [Option.bind] at hloop
    have hlab := label_nl e
    have hlab2 := label_len e
    refine ex_expr_any (la_append H₁₀ (fun zz => (pe_local (by kernel_rfl) (by exact m3))) fun s₉ H₁₁ => la_def (P := P2 (VE (.ref pc.x)) (VE vo)) W.more.more H₁₁ (fun zz => pe_glob (by kernel_rfl) rfl (by kernel_rfl)) (by kernel_rfl) (fun mu => pa_two (pe_local (by kernel_rfl) (by exact m1)) (pe_local (by kernel_rfl) (by exact m2)))
      (fun vs ⟨v₁, v₂, e, h1, h2⟩ => by subst e; cases h1; cases h2; exact read_instruction_spec pc g₅ vo (ho.up (u.trans (u₁.trans (u₂.trans (u₃.trans (u₄.trans u₅))))))) (by decide) (fun i r₄ v s₁₀ g₆ e₁ u₆ hv H₁₂ => ?_) fun e s' q f => ⟨by rw [q] at hloop; exact hloop.symm, f⟩)
    rw [e₁] at hloop
    dsimp only [Option.bind] at hloop
    have hi1 := ins_nl e₁
    have hi2 := ins_len e₁
    refine ⟨g₆, m, r₄, by omega, H₁₂, fun s₁₁ H₁₃ => ex_nil ⟨n, by omega, is ++ [i], vf ++ [v], kf + 1, _, vt', kt', r₄, g₆, m, H₁₃, (((u₂.trans u₃).trans u₄).trans u₅).trans u₆, m1, m2, m3, m4, ?_, hrt'.up u₆, hloop, by omega, ?_, ?_, ?_⟩⟩
    · rw [List.map_append]
      exact ((((hrf.up u₃).up u₄).up u₅).up u₆).snoc hv
    · intro j hj
      rcases List.mem_append.mp hj with hj | hj
      · exact hok j hj
      · obtain rfl := List.mem_singleton.mp hj
        exact (ins_nb e₁).2
    · rw [List.length_append, List.length_singleton]; omega
    · rw [List.length_append, List.length_singleton]; omega
end Mine
end
section
open PySem PySem.W PyProof.Rows PySem.Calls PySem.Builtin PySem.Builtin.Str PySem.NumText
namespace Mine
set_option maxRecDepth 100000

theorem fn_Procedure_init (P : Params) : FnOK P fi_Procedure___init__ := ⟨by kernel_rfl, by kernel_rfl, by kernel_rfl⟩
theorem fn_Listing_init (P : Params) : FnOK P fi_Listing___init__ := ⟨by kernel_rfl, by kernel_rfl, by kernel_rfl⟩
theorem fn_read_procedure (P : Params) : FnOK P fi_read_procedure := ⟨by kernel_rfl, by kernel_rfl, by kernel_rfl⟩

structure Proc where
  number : Nat
  title : List Nat
  needed : Nat
  rest : Bool
  cont : Bool
  regs : Nat
  free : Nat
  ins : List Ins
inductive Fld (g : Heap) (es : List DictEntry) (n : Str) (d : PyData) : Prop
  | mk (w : Value) (a : getL n es = some (some w)) (b : RD g d w) : Fld g es n d
inductive PrD (g : Heap) (p : Proc) (v : Value) : Prop
  | mk (x dx : Addr) (es : List DictEntry) (k : Nat) (e : v = .ref x) (hx : g.get? x = some (instObj 65 dx)) (hdx : g.get? dx = some (dictOf es k))
    (f1 : Fld g es "number" (.int (p.number : Int))) (f2 : Fld g es "title" (.str (S p.title))) (f3 : Fld g es "needed" (.int (p.needed : Int))) (f4 : Fld g es "has_rest" (.bool p.rest))
    (f5 : Fld g es "is_continuation" (.bool p.cont)) (f6 : Fld g es "registers" (.int (p.regs : Int))) (f7 : Fld g es "free" (.int (p.free : Int))) (f8 : Fld g es "instructions" (.list (p.ins.map insD))) : PrD g p v
theorem Fld.up {g g' : Heap} {es : List DictEntry} {n : Str} {d : PyData} (h : Fld g es n d) (u : Up g g') : Fld g' es n d := by
  obtain ⟨w, a, b⟩ := h
  exact ⟨w, a, b.up u⟩
theorem PrD.up {g g' : Heap} {p : Proc} {v : Value} (h : PrD g p v) (u : Up g g') : PrD g' p v := by
  obtain ⟨x, dx, es, k, h1, h2, h3, f1, f2, f3, f4, f5, f6, f7, f8⟩ := h
  exact ⟨x, dx, es, k, h1, u _ _ h2, u _ _ h3, f1.up u, f2.up u, f3.up u, f4.up u, f5.up u, f6.up u, f7.up u, f8.up u⟩
theorem sP_1 (P : Params) : findIn (KF P) (.ref 65) "__setattr__" = some (some (.builtin "object.__setattr__")) := by kernel_rfl
theorem sP_2 (P : Params) : plainOver (KF P) 65 = true := by kernel_rfl
theorem sP_4 (P : Params) : hasDictIn (KF P) 65 = true := by kernel_rfl
theorem mP_1 (P : Params) : makesIn (KF P) 65 = true := by kernel_rfl
theorem mP_2 (P : Params) : findIn (KF P) (.ref 65) "__init__" = some (some (.ref 62)) := by kernel_rfl
theorem mP_3 (P : Params) : typeIn (KF P) (.ref 62) = some (.type "function") := by kernel_rfl
theorem mL_1 (P : Params) : makesIn (KF P) 212 = true := by kernel_rfl
theorem mL_2 (P : Params) : findIn (KF P) (.ref 212) "__init__" = some (some (.ref 132)) := by kernel_rfl
theorem mL_3 (P : Params) : typeIn (KF P) (.ref 132) = some (.type "function") := by kernel_rfl
theorem sL_6 (P : Params) : takerIn (KF P) 212 "text" = some none := by kernel_rfl
theorem tP_number (P : Params) : takerIn (KF P) 65 "number" = some none := by kernel_rfl
theorem tP_title (P : Params) : takerIn (KF P) 65 "title" = some none := by kernel_rfl
theorem tP_needed (P : Params) : takerIn (KF P) 65 "needed" = some none := by kernel_rfl
theorem tP_has_rest (P : Params) : takerIn (KF P) 65 "has_rest" = some none := by kernel_rfl
theorem tP_is_continuation (P : Params) : takerIn (KF P) 65 "is_continuation" = some none := by kernel_rfl
theorem tP_registers (P : Params) : takerIn (KF P) 65 "registers" = some none := by kernel_rfl
theorem tP_free (P : Params) : takerIn (KF P) 65 "free" = some none := by kernel_rfl
theorem tP_instructions (P : Params) : takerIn (KF P) 65 "instructions" = some none := by kernel_rfl

theorem make_proc (G : Gh) (g₀ : Heap) (p : Proc) (v1 v2 v3 v4 v5 v6 v7 v8 : Value) (h1 : RD g₀ (.int (p.number : Int)) v1) (h2 : RD g₀ (.str (S p.title)) v2) (h3 : RD g₀ (.int (p.needed : Int)) v3) (h4 : RD g₀ (.bool p.rest) v4) (h5 : RD g₀ (.bool p.cont) v5)
    (h6 : RD g₀ (.int (p.regs : Int)) v6) (h7 : RD g₀ (.int (p.free : Int)) v7) (h8 : RD g₀ (.list (p.ins.map insD)) v8) : FSpec G 2 65 [v1, v2, v3, v4, v5, v6, v7, v8] g₀ (fun g v => PrD g p v) := by
  intro A g mu s Q E u H R k
  refine make_at (i := fi_Procedure___init__) (n := 0) (binds := fun self => [("self", self), ("number", v1), ("title", v2), ("needed", v3), ("has_rest", v4), ("is_continuation", v5), ("registers", v6), ("free", v7), ("instructions", v8)]) fn_Procedure_init H R (mP_1 _) (mP_2 _) (mP_3 _) (fun x => by rfl) (fun x => by kernel_rfl) fun x dx L A' s₀ R' H₀ => ?_
  show wpAny _ _ (execs (List.cons _ _) _) _ _ _
  have H₀ : At ⟨G, A', fi_Procedure___init__.env L, g, _, (dx, dictOf [] 0) :: (x, instObj 65 dx) :: mu⟩ s₀ := H₀.perm (.swap ..)
  refine ex_setattr H₀ (P := VE v1) (pe_local (by kernel_rfl) (by rfl)) (pe_local (by kernel_rfl) (by rfl)) (fun s' h => h.get (.tail _ (.head _))) (sP_1 _) (sP_2 _) (tP_number _) (sP_4 _) (by rfl) (fun t v => show 1 ≤ 1000 by decide) fun w1 t1 s₁ e1 H₁ => ?_
  (first | subst e1 | cases e1)
  refine ex_setattr H₁ (P := VE v2) (pe_local (by kernel_rfl) (by rfl)) (pe_local (by kernel_rfl) (by rfl)) (fun s' h => h.get (.tail _ (.head _))) (sP_1 _) (sP_2 _) (tP_title _) (sP_4 _) (by rfl) (fun t v => show 2 ≤ 1000 by decide) fun w2 t2 s₂ e2 H₂ => ?_
  (first | subst e2 | cases e2)
  refine ex_setattr H₂ (P := VE v3) (pe_local (by kernel_rfl) (by rfl)) (pe_local (by kernel_rfl) (by rfl)) (fun s' h => h.get (.tail _ (.head _))) (sP_1 _) (sP_2 _) (tP_needed _) (sP_4 _) (by rfl) (fun t v => show 3 ≤ 1000 by decide) fun w3 t3 s₃ e3 H₃ => ?_
  (first | subst e3 | cases e3)
  refine ex_setattr H₃ (P := VE v4) (pe_local (by kernel_rfl) (by rfl)) (pe_local (by kernel_rfl) (by rfl)) (fun s' h => h.get (.tail _ (.head _))) (sP_1 _) (sP_2 _) (tP_has_rest _) (sP_4 _) (by rfl) (fun t v => show 4 ≤ 1000 by decide) fun w4 t4 s₄ e4 H₄ => ?_
  (first | subst e4 | cases e4)
  refine ex_setattr H₄ (P := VE v5) (pe_local (by kernel_rfl) (by rfl)) (pe_local (by kernel_rfl) (by rfl)) (fun s' h => h.get (.tail _ (.head _))) (sP_1 _) (sP_2 _) (tP_is_continuation _) (sP_4 _) (by rfl) (fun t v => show 5 ≤ 1000 by decide) fun w5 t5 s₅ e5 H₅ => ?_
  (first | subst e5 | cases e5)
  refine ex_setattr H₅ (P := VE v6) (pe_local (by kernel_rfl) (by rfl)) (pe_local (by kernel_rfl) (by rfl)) (fun s' h => h.get (.tail _ (.head _))) (sP_1 _) (sP_2 _) (tP_registers _) (sP_4 _) (by rfl) (fun t v => show 6 ≤ 1000 by decide) fun w6 t6 s₆ e6 H₆ => ?_
  (first | subst e6 | cases e6)
  refine ex_setattr H₆ (P := VE v7) (pe_local (by kernel_rfl) (by rfl)) (pe_local (by kernel_rfl) (by rfl)) (fun s' h => h.get (.tail _ (.head _))) (sP_1 _) (sP_2 _) (tP_free _) (sP_4 _) (by rfl) (fun t v => show 7 ≤ 1000 by decide) fun w7 t7 s₇ e7 H₇ => ?_
  (first | subst e7 | cases e7)
  refine ex_setattr H₇ (P := VE v8) (pe_local (by kernel_rfl) (by rfl)) (pe_local (by kernel_rfl) (by rfl)) (fun s' h => h.get (.tail _ (.head _))) (sP_1 _) (sP_2 _) (tP_instructions _) (sP_4 _) (by rfl) (fun t v => show 8 ≤ 1000 by decide) fun w8 t8 s₈ e8 H₈ => ?_
  (first | subst e8 | cases e8)
  refine ex_nil ⟨rfl, ?_⟩
  obtain ⟨g₁, u₁, hd, H₉⟩ := At.freeze (c := ⟨G, A', fi_Procedure___init__.env L, g, _, _⟩) H₈
  obtain ⟨g₂, u₂, hx, H₁₀⟩ := H₉.freeze
  have u' := u.trans (u₁.trans u₂)
  refine k _ _ g₂ (u₁.trans u₂) ⟨x, dx, _, _, rfl, hx, u₂ _ _ hd, ⟨_, by rfl, h1.up u'⟩, ⟨_, by rfl, h2.up u'⟩, ⟨_, by rfl, h3.up u'⟩, ⟨_, by rfl, h4.up u'⟩, ⟨_, by rfl, h5.up u'⟩, ⟨_, by rfl, h6.up u'⟩, ⟨_, by rfl, h7.up u'⟩, ⟨_, by rfl, h8.up u'⟩⟩ H₁₀.gl

theorem make_listing (G : Gh) {A : Around} {g : Heap} {mu : List (Addr × Obj)} {s : Shared} {Q E : Value → Shared → Prop} (l : List Nat) (v : Value) (hv : VT l v) (H : Gl G g mu s) (R : Rm A 2)
    (k : ∀ x dx o s' g', Up g g' → g'.get? x = some (instObj 212 dx) → LD l 0 0 o → Gl G g' ((dx, o) :: mu) s' → Q (.ref x) s') : wpAny G.M A (call (.ref 212) [v]) Q E s := by
  refine make_at (i := fi_Listing___init__) (n := 0) (binds := fun self => [("self", self), ("text", v)]) fn_Listing_init H R (mL_1 _) (mL_2 _) (mL_3 _) (fun x => by rfl) (fun x => by kernel_rfl) fun x dx L A' s₀ R' H₀ => ?_
  show wpAny _ _ (execs (List.cons _ _) _) _ _ _
  have H₀ : At ⟨G, A', fi_Listing___init__.env L, g, _, (dx, dictOf [] 0) :: (x, instObj 212 dx) :: mu⟩ s₀ := H₀.perm (.swap ..)
  refine ex_setattr H₀ (P := VE v) (pe_local (by kernel_rfl) (by rfl)) (pe_local (by kernel_rfl) (by rfl)) (fun s' h => h.get (.tail _ (.head _))) (sL_1 _) (sL_2 _) (sL_6 _) (sL_4 _) (by rfl) (fun t v => show 1 ≤ 1000 by decide) fun w1 t1 s₁ e1 H₁ => ?_
  (first | subst e1 | cases e1)
  refine ex_setattr H₁ pe_int (pe_local (by kernel_rfl) (by rfl)) (fun s' h => h.get (.tail _ (.head _))) (sL_1 _) (sL_2 _) (sL_3 _) (sL_4 _) (by rfl) (fun t v => show 2 ≤ 1000 by decide) fun w2 t2 s₂ e2 H₂ => ?_
  obtain ⟨tk2, rfl⟩ := e2
  refine ex_setattr H₂ pe_int (pe_local (by kernel_rfl) (by rfl)) (fun s' h => h.get (.tail _ (.head _))) (sL_1 _) (sL_2 _) (sL_5 _) (sL_4 _) (by rfl) (fun t v => show 3 ≤ 1000 by decide) fun w3 t3 s₃ e3 H₃ => ?_
  obtain ⟨tk3, rfl⟩ := e3
  obtain ⟨tk1, rfl⟩ := hv
  refine ex_nil ⟨rfl, ?_⟩
  have H₄ : At ⟨G, A', fi_Listing___init__.env L, g, _, (x, instObj 212 dx) :: (dx, _) :: mu⟩ s₃ := H₃.perm (.swap ..)
  obtain ⟨g₁, u₁, hx, H₅⟩ := H₄.freeze
  exact k x dx _ _ g₁ u₁ hx ⟨_, _, _, _, _, _, _, _, _, _, rfl⟩ H₅.gl
end Mine
end
section
open PySem PySem.W PyProof.Rows PySem.Calls PySem.Builtin PySem.Builtin.Str PySem.NumText
namespace Mine
set_option maxRecDepth 100000

noncomputable def pProc (n : Nat) (r : List Nat) : Option (Proc × List Nat) :=
  (pCount r).bind fun c => if c.1 = n then
    (pNeed (cs "needed") c.2).bind fun a₁ => (pCount a₁.2).bind fun nd => (pTakes (cs "rest") nd.2).bind fun rs => (pTakes (cs "continuation") rs.2).bind fun ct =>
    (pNeed (cs "registers") ct.2).bind fun a₂ => (pCount a₂.2).bind fun rg => (pNeed (cs "free") rg.2).bind fun a₃ => (pCount a₃.2).bind fun fr =>
    (pNeed (cs "title") fr.2).bind fun a₄ => (pTold a₄.2).bind fun ti => (pEnd ti.2).bind fun a₅ => (pInss a₅.2).bind fun is => some (⟨n, ti.1, nd.1, rs.1, ct.1, rg.1, fr.1, is.1⟩, is.2)
  else none

theorem read_procedure_spec (pc : PC) (g₀ : Heap) (n : Nat) (vn vo : Value) (hvn : VI (n : Int) vn) (ho : OpsAt pc.G.w g₀ vo) : PSpec pc 12 270 [.ref pc.x, vn, vo] g₀ (pProc n) (fun g p v => PrD g p v) := by
  intro A outer g ρ r s Q E u H R hA hS k kE
  obtain ⟨tn, rfl⟩ := hvn
  refine enterP (i := fi_read_procedure) (binds := [("listing", .ref pc.x), ("number", .int (n : Int) tn), ("ops", vo)]) (n := 11) (pProc n r = none) fn_read_procedure H R hA hS (fun e s' h => kE e s' h) (by rfl) (by kernel_rfl) fun L s' W H₀ => ?_
  show wpAny _ _ (execs (List.cons _ _) _) _ _ _
  have hz := H₀.len
  have hz2 := pc.hz
  have hO : pProc n r = pProc n r := rfl
  conv at hO => rhs; unfold pProc
  refine ex_if_any (wpAny_isTrue_Compare1 (la_meth0 W H₀ (fun zz => pe_local (by kernel_rfl) (by rfl)) (by kernel_rfl) (ld_get (by kernel_rfl) (by kernel_rfl) (by kernel_rfl)) (count_spec pc g) (by decide) (fun c r₁ v s₁ g₁ e u₁ hv H₁ => ?_) fun e s' q f => ⟨hO.trans (by rw [q]; rfl), f⟩))
  replace hO := obind hO e
  obtain ⟨tc, rfl⟩ := hv
  refine la_pe H₁ (fun mu => pe_locI (i := (n : Int)) (t := tn) (by kernel_rfl) (by rfl)) fun v₅ s₂ hv₅ H₁ => ?_
  obtain ⟨t₅, rfl⟩ := hv₅
  refine ne_int (wpAny_truthy_bool ?_)
  by_cases hn : c = n
  rotate_left
  · rw [if_neg hn] at hO
    rw [show ((c : Int) != (n : Int)) = true by simp; omega]
    simp only [if_true]
    exact ex_expr_any (la_meth W H₁ (fun zz => pe_local (by kernel_rfl) (by rfl)) (fun mu => pa_one pe_strc) (by kernel_rfl) (by kernel_rfl) (ld_get (by kernel_rfl) (by kernel_rfl) (by kernel_rfl)) (fun vs ⟨v, e, _⟩ => by subst e; exact refuse_spec pc g₁ v) (by decide) (fun zz zz zz zz zz e => (by cases e)) fun e s' zz f => ⟨hO, f⟩)
  rw [if_pos hn] at hO
  rw [show ((c : Int) != (n : Int)) = false by simp; omega]
  simp only [Bool.false_eq_true, if_false]
  refine ex_nil ?_
  refine ex_expr_any (la_meth W H₁ (fun zz => pe_local (by kernel_rfl) (by rfl)) (P := P1 (VT (cs "needed"))) (fun mu => pa_one pe_strc) (by kernel_rfl) (by kernel_rfl) (ld_get (by kernel_rfl) (by kernel_rfl) (by kernel_rfl)) (fun vs ⟨v, e, hv⟩ => by subst e; exact need_spec pc g₁ (cs "needed") v hv) (by decide) (fun zz r₂ zz s₁ g₂ e u₂ zz H₂ => ?_) fun e s' q f => ⟨hO.trans (by rw [q]; rfl), f⟩)
  replace hO := obind hO e
  refine ex_assign_any (la_meth0 W H₂ (fun zz => pe_local (by kernel_rfl) (by rfl)) (by kernel_rfl) (ld_get (by kernel_rfl) (by kernel_rfl) (by kernel_rfl)) (count_spec pc g₂) (by decide) (fun x_needed r₃ v_needed s₁ g₃ e u₃ h_needed H₃ => ?_) fun e s' q f => ⟨hO.trans (by rw [q]; rfl), f⟩)
  replace hO := obind hO e
  refine H₃.put_ (by kernel_rfl) fun s₁ H₃ => ?_
  refine ex_assign_any (la_meth W H₃ (fun zz => pe_local (by kernel_rfl) (by rfl)) (P := P1 (VT (cs "rest"))) (fun mu => pa_one pe_strc) (by kernel_rfl) (by kernel_rfl) (ld_get (by kernel_rfl) (by kernel_rfl) (by kernel_rfl)) (fun vs ⟨v, e, hv⟩ => by subst e; exact takes_spec pc g₃ (cs "rest") v hv (by decide +kernel)) (by decide) (fun x_has_rest r₄ v_has_rest s₁ g₄ e u₄ h_has_rest H₄ => ?_) fun e s' q f => ⟨hO.trans (by rw [q]; rfl), f⟩)
  replace hO := obind hO e
  refine H₄.put_ (by kernel_rfl) fun s₁ H₄ => ?_
  refine ex_assign_any (la_meth W H₄ (fun zz => pe_local (by kernel_rfl) (by rfl)) (P := P1 (VT (cs "continuation"))) (fun mu => pa_one pe_strc) (by kernel_rfl) (by kernel_rfl) (ld_get (by kernel_rfl) (by kernel_rfl) (by kernel_rfl)) (fun vs ⟨v, e, hv⟩ => by subst e; exact takes_spec pc g₄ (cs "continuation") v hv (by decide +kernel)) (by decide) (fun x_is_continuation r₅ v_is_continuation s₁ g₅ e u₅ h_is_continuation H₅ => ?_) fun e s' q f => ⟨hO.trans (by rw [q]; rfl), f⟩)
  replace hO := obind hO e
  refine H₅.put_ (by kernel_rfl) fun s₁ H₅ => ?_
  refine ex_expr_any (la_meth W H₅ (fun zz => pe_local (by kernel_rfl) (by rfl)) (P := P1 (VT (cs "registers"))) (fun mu => pa_one pe_strc) (by kernel_rfl) (by kernel_rfl) (ld_get (by kernel_rfl) (by kernel_rfl) (by kernel_rfl)) (fun vs ⟨v, e, hv⟩ => by subst e; exact need_spec pc g₅ (cs "registers") v hv) (by decide) (fun zz r₆ zz s₁ g₆ e u₆ zz H₆ => ?_) fun e s' q f => ⟨hO.trans (by rw [q]; rfl), f⟩)
  replace hO := obind hO e
  refine ex_assign_any (la_meth0 W H₆ (fun zz => pe_local (by kernel_rfl) (by rfl)) (by kernel_rfl) (ld_get (by kernel_rfl) (by kernel_rfl) (by kernel_rfl)) (count_spec pc g₆) (by decide) (fun x_registers r₇ v_registers s₁ g₇ e u₇ h_registers H₇ => ?_) fun e s' q f => ⟨hO.trans (by rw [q]; rfl), f⟩)
  replace hO := obind hO e
  refine H₇.put_ (by kernel_rfl) fun s₁ H₇ => ?_
  refine ex_expr_any (la_meth W H₇ (fun zz => pe_local (by kernel_rfl) (by rfl)) (P := P1 (VT (cs "free"))) (fun mu => pa_one pe_strc) (by kernel_rfl) (by kernel_rfl) (ld_get (by kernel_rfl) (by kernel_rfl) (by kernel_rfl)) (fun vs ⟨v, e, hv⟩ => by subst e; exact need_spec pc g₇ (cs "free") v hv) (by decide) (fun zz r₈ zz s₁ g₈ e u₈ zz H₈ => ?_) fun e s' q f => ⟨hO.trans (by rw [q]; rfl), f⟩)
  replace hO := obind hO e
  refine ex_assign_any (la_meth0 W H₈ (fun zz => pe_local (by kernel_rfl) (by rfl)) (by kernel_rfl) (ld_get (by kernel_rfl) (by kernel_rfl) (by kernel_rfl)) (count_spec pc g₈) (by decide) (fun x_free r₉ v_free s₁ g₉ e u₉ h_free H₉ => ?_) fun e s' q f => ⟨hO.trans (by rw [q]; rfl), f⟩)
  replace hO := obind hO e
  refine H₉.put_ (by kernel_rfl) fun s₁ H₉ => ?_
  refine ex_expr_any (la_meth W H₉ (fun zz => pe_local (by kernel_rfl) (by rfl)) (P := P1 (VT (cs "title"))) (fun mu => pa_one pe_strc) (by kernel_rfl) (by kernel_rfl) (ld_get (by kernel_rfl) (by kernel_rfl) (by kernel_rfl)) (fun vs ⟨v, e, hv⟩ => by subst e; exact need_spec pc g₉ (cs "title") v hv) (by decide) (fun zz r₁₀ zz s₁ g₁₀ e u₁₀ zz H₁₀ => ?_) fun e s' q f => ⟨hO.trans (by rw [q]; rfl), f⟩)
  replace hO := obind hO e
  refine ex_assign_any (la_meth0 W H₁₀ (fun zz => pe_local (by kernel_rfl) (by rfl)) (by kernel_rfl) (ld_get (by kernel_rfl) (by kernel_rfl) (by kernel_rfl)) (told_text_spec pc g₁₀) (by decide) (fun x_title r₁₁ v_title s₁ g₁₁ e u₁₁ h_title H₁₁ => ?_) fun e s' q f => ⟨hO.trans (by rw [q]; rfl), f⟩)
  replace hO := obind hO e
  refine H₁₁.put_ (by kernel_rfl) fun s₁ H₁₁ => ?_
  refine ex_expr_any (la_meth0 W H₁₁ (fun zz => pe_local (by kernel_rfl) (by rfl)) (by kernel_rfl) (ld_get (by kernel_rfl) (by kernel_rfl) (by kernel_rfl)) (end_line_spec pc g₁₁) (by decide) (fun zz r₁₂ zz s₁ g₁₂ e u₁₂ zz H₁₂ => ?_) fun e s' q f => ⟨hO.trans (by rw [q]; rfl), f⟩)
  replace hO := obind hO e
  refine ex_assign_any (la_def (P := P2 (VE (.ref pc.x)) (VE vo)) W H₁₂ (fun zz => pe_glob (by kernel_rfl) rfl (by kernel_rfl)) (by kernel_rfl) (fun mu => pa_two (pe_local (by kernel_rfl) (by rfl)) (pe_local (by kernel_rfl) (by rfl))) (fun vs ⟨v₁, v₂, e, h1, h2⟩ => by subst e; cases h1; cases h2; exact read_instructions_spec pc g₁₂ vo (ho.up ((((((((((((u.trans u₁).trans u₂).trans u₃).trans u₄).trans u₅).trans u₆).trans u₇).trans u₈).trans u₉).trans u₁₀).trans u₁₁).trans u₁₂))) (by decide) (fun x_instructions r₁₃ v_instructions s₁ g₁₃ e u₁₃ h_instructions H₁₃ => ?_) fun e s' q f => ⟨hO.trans (by rw [q]; rfl), f⟩)
  replace hO := obind hO e
  refine H₁₃.put_ (by kernel_rfl) fun s₁ H₁₃ => ?_
  refine ex_ret_any ?_
  obtain ⟨o, a, H, c', d⟩ := H₁₃
  refine c_keep (f := 65) H (pe_glob (by kernel_rfl) rfl (by kernel_rfl)) (by kernel_rfl) (fun s' H' => (pa_cons (P := VE (.int (n : Int) tn)) (pe_local (by kernel_rfl) (by rfl)) (pa_cons (P := VE v_title) (pe_local (by kernel_rfl) (by rfl)) (pa_cons (P := VE v_needed) (pe_local (by kernel_rfl) (by rfl)) (pa_cons (P := VE v_has_rest) (pe_local (by kernel_rfl) (by rfl)) (pa_cons (P := VE v_is_continuation) (pe_local (by kernel_rfl) (by rfl)) (pa_cons (P := VE v_registers) (pe_local (by kernel_rfl) (by rfl)) (pa_cons (P := VE v_free) (pe_local (by kernel_rfl) (by rfl)) (pa_cons (P := VE v_instructions) (pe_local (by kernel_rfl) (by rfl)) pa_nil)))))))) _ s' _ _ H' fun vs s'' hvs H'' => ?_)
  obtain ⟨_, _, rfl, e1, _, _, rfl, e2, _, _, rfl, e3, _, _, rfl, e4, _, _, rfl, e5, _, _, rfl, e6, _, _, rfl, e7, _, _, rfl, e8, rfl⟩ := hvs
  cases e1; cases e2; cases e3; cases e4; cases e5; cases e6; cases e7; cases e8
  refine ⟨H''.X, fspec_at (make_proc pc.G _ ⟨n, x_title, x_needed, x_has_rest, x_is_continuation, x_registers, x_free, x_instructions⟩ _ _ _ _ _ _ _ _ (RD.int _ _) (RD.ofT h_title) (RD.ofI h_needed) (RD.ofB h_has_rest) (RD.ofB h_is_continuation) (RD.ofI h_registers) (RD.ofI h_free) h_instructions) H'' W.rm (by decide) fun v s₂ g' u' hv H₂ => ?_⟩
  exact k _ _ v s₂ g' hO ((((((((((((((Up.rfl.trans u₁).trans u₂).trans u₃).trans u₄).trans u₅).trans u₆).trans u₇).trans u₈).trans u₉).trans u₁₀).trans u₁₁).trans u₁₂).trans u₁₃).trans u') hv ⟨o, a, H₂.gl, u' _ _ c', fun b o e => u' _ _ (d _ _ e)⟩
end Mine
end
section
open PySem PySem.W PyProof.Rows PySem.Calls PySem.Builtin PySem.Builtin.Str PySem.NumText
namespace Mine
set_option maxRecDepth 100000

theorem fn_read_procedures (P : Params) : FnOK P fi_read_procedures := ⟨by kernel_rfl, by kernel_rfl, by kernel_rfl⟩
theorem fn_read_code (P : Params) : FnOK P fi_read_code := ⟨by kernel_rfl, by kernel_rfl, by kernel_rfl⟩

noncomputable def pProcsLoop : Nat → List Proc → List Nat → Option (List Proc × List Nat)
  | 0, _, _ => none
  | k + 1, acc, r => if wordAt (skipB r) = cs "procedure" then (pProc acc.length ((skipB r).drop (cs "procedure").length)).bind fun p => pProcsLoop k (acc ++ [p.1]) p.2 else some (acc, skipB r)
noncomputable def pProcs (r : List Nat) : Option (List Proc × List Nat) := pProcsLoop (r.length + 1) [] r
noncomputable def pCode (r : List Nat) : Option (List Proc) := (pProcs r).bind fun p => if p.2.isEmpty = true then some p.1 else none

noncomputable def PrDs (g : Heap) (ps : List Proc) (vs : List Value) : Prop := vs.length = ps.length ∧ ∀ (i : Nat) (v : Value), vs[i]? = some v → ∃ p, ps[i]? = some p ∧ PrD g p v
theorem PrDs.up {g g' : Heap} {ps : List Proc} {vs : List Value} (h : PrDs g ps vs) (u : Up g g') : PrDs g' ps vs := ⟨h.1, fun i v hv => let ⟨p, a, b⟩ := h.2 i v hv; ⟨p, a, b.up u⟩⟩
theorem PrDs.nil {g : Heap} : PrDs g [] [] := ⟨rfl, fun i v h => by simp at h⟩
theorem PrDs.snoc {g : Heap} {ps : List Proc} {vs : List Value} {p : Proc} {v : Value} (h : PrDs g ps vs) (hv : PrD g p v) : PrDs g (ps ++ [p]) (vs ++ [v]) := by
  refine ⟨by simp [h.1], fun i w hw => ?_⟩
  rcases Nat.lt_or_ge i vs.length with hi | hi
  · rw [List.getElem?_append_left hi] at hw
    obtain ⟨q, a, b⟩ := h.2 i w hw
    exact ⟨q, by rw [List.getElem?_append_left (h.1 ▸ hi)]; exact a, b⟩
  · rw [List.getElem?_append_right hi] at hw
    have : i - vs.length = 0 := by
      rcases Nat.eq_zero_or_pos (i - vs.length) with e | e
      · exact e
      · rw [List.getElem?_eq_none (by simp; omega)] at hw; cases hw
    rw [this] at hw
    cases hw
    exact ⟨p, by rw [List.getElem?_append_right (h.1 ▸ hi), ← h.1, this]; rfl, hv⟩
noncomputable def PrL (g : Heap) (ps : List Proc) (v : Value) : Prop := Ex3 fun D vs n => An3 (v = .ref D) (g.get? D = some (lstO vs n)) (PrDs g ps vs)
theorem PrL.up {g g' : Heap} {ps : List Proc} {v : Value} (h : PrL g ps v) (u : Up g g') : PrL g' ps v := let ⟨D, vs, n, a, b, c⟩ := h; ⟨D, vs, n, a, u _ _ b, c.up u⟩

noncomputable def namesD : PyData := .list (primNames.map fun w => PyData.str (S w))
noncomputable def PrimPairs (n : Nat) (prs : List (Str × Value)) : Prop := prs.length = n ∧ ∀ (j : Nat) (p : Str × Value), prs[j]? = some p → ∃ t, p = (S (primNames.getD j []), .int (j : Int) t)
theorem prim_names : primNames = [cs "car", cs "cons", cs "list->vector", cs "+", cs "string-append", cs "null?"] := rfl
theorem primPairs_six {prs : List (Str × Value)} (h : PrimPairs 6 prs) : ∃ ts : Nat → Tok, prs = (List.range 6).map fun j : Nat => (S (primNames.getD j []), Value.int (j : Int) (ts j)) := by
  obtain ⟨h1, h2⟩ := h
  have : ∀ j : Nat, ∃ t : Tok, ∀ p, prs[j]? = some p → p = (S (primNames.getD j []), Value.int (j : Int) t) := fun j => by
    cases q : prs[j]? with
    | none => exact ⟨0, fun p h => by cases h⟩
    | some p => obtain ⟨t, e⟩ := h2 j p q; exact ⟨t, fun p' h => by cases h; exact e⟩
  refine ⟨fun j => (this j).choose, List.ext_getElem? fun j => ?_⟩
  rw [List.getElem?_map]
  rcases Nat.lt_or_ge j 6 with hj | hj
  · rw [List.getElem?_range hj, List.getElem?_eq_getElem (h1 ▸ hj)]
    exact congrArg some ((this j).choose_spec _ (List.getElem?_eq_getElem (h1 ▸ hj)))
  · rw [List.getElem?_eq_none (by omega), List.getElem?_eq_none (by simp; omega)]; rfl
theorem primPairs_nodup {prs : List (Str × Value)} (h : PrimPairs 6 prs) : (prs.map (·.1)).Nodup := by
  obtain ⟨ts, rfl⟩ := primPairs_six h
  rw [List.map_map]
  have : nodupB ((List.range 6).map fun j => S (primNames.getD j [])) = true := by kernel_rfl
  exact nodupB_iff this
theorem primPairs_look {prs : List (Str × Value)} (h : PrimPairs 6 prs) (x : List Nat) : (∀ n, primOf x = some n → ∃ t, valueAt prs (S x) = some (.int n t)) ∧ (primOf x = none → valueAt prs (S x) = none) := by
  obtain ⟨ts, rfl⟩ := primPairs_six h
  have e : valueAt ((List.range 6).map fun j : Nat => (S (primNames.getD j []), Value.int (j : Int) (ts j))) (S x) = ((List.range 6).find? fun j => decide (primNames.getD j [] = x)).map fun j : Nat => Value.int (j : Int) (ts j) := valueAt_map
  rw [e]
  have e2 : (List.range 6).find? (fun j => decide (primNames.getD j [] = x)) = primOf x := by
    unfold primOf
    rw [prim_names]
    show List.find? _ [0, 1, 2, 3, 4, 5] = _
    simp only [List.find?, List.findIdx?_cons, List.findIdx?_nil, List.getD_cons_zero, List.getD_cons_succ]
    by_cases h0 : cs "car" = x
    · simp [h0]
    · by_cases h1 : cs "cons" = x
      · simp [h0, h1]
      · by_cases h2 : cs "list->vector" = x
        · simp [h0, h1, h2]
        · by_cases h3 : cs "+" = x
          · simp [h0, h1, h2, h3]
          · by_cases h4 : cs "string-append" = x
            · simp [h0, h1, h2, h3, h4]
            · by_cases h5 : cs "null?" = x <;> simp [h0, h1, h2, h3, h4, h5]
  rw [e2]
  refine ⟨fun n hn => ?_, fun hn => ?_⟩
  · rw [hn]; exact ⟨ts n, rfl⟩
  · rw [hn]; rfl

theorem count_len {n : Nat} {r r' : List Nat} (h : pCount r = some (n, r')) : r'.length ≤ r.length := by
  obtain ⟨⟨w, r₁⟩, h1, h⟩ := Option.bind_eq_some_iff.mp h
  dsimp only at h
  split at h
  · obtain ⟨_, rfl⟩ := some_inj2 h
    have := word_len h1
    omega
  · cases h
theorem takes_len {x r r' : List Nat} {b : Bool} (h : pTakes x r = some (b, r')) : r'.length ≤ r.length := by
  unfold pTakes at h
  have := skip_len r
  split at h <;> obtain ⟨_, rfl⟩ := some_inj2 h
  · rw [List.length_drop]; omega
  · exact this
theorem told_len {x r r' : List Nat} (h : pTold r = some (x, r')) : r'.length ≤ r.length := by
  obtain ⟨⟨n, r₁⟩, h1, h⟩ := Option.bind_eq_some_iff.mp h
  dsimp only at h
  have := count_len h1
  split at h
  · obtain ⟨_, rfl⟩ := some_inj2 h
    rw [List.length_drop]; omega
  · cases h
theorem inssLoop_len : ∀ {k : Nat} {acc is : List Ins} {told r r' : List Nat}, pInssLoop k acc told r = some (is, r') → r'.length ≤ r.length
  | 0, _, _, _, _, _, h => by cases h
  | k + 1, acc, is, told, r, r', h => by
    rw [pInssLoop] at h
    have h0 := skip_len r
    split at h
    · unfold pInssEnd at h
      split at h
      · obtain ⟨⟨y, r₁⟩, h1, h⟩ := Option.bind_eq_some_iff.mp h
        obtain ⟨_, rfl⟩ := some_inj2 h
        have := end_len h1
        rw [List.length_drop] at this
        dsimp only
        omega
      · cases h
    · split at h
      · cases h
      · obtain ⟨⟨b, r₁⟩, h1, h⟩ := Option.bind_eq_some_iff.mp h
        obtain ⟨⟨i, r₂⟩, h2, h⟩ := Option.bind_eq_some_iff.mp h
        have a1 := label_len h1
        have a2 := ins_len h2
        have a3 := inssLoop_len h
        dsimp only at a1 a2 a3
        omega
theorem proc_len {n : Nat} {p : Proc} {r r' : List Nat} (h : pProc n r = some (p, r')) : r'.length ≤ r.length := by
  obtain ⟨⟨c, r₀⟩, h0, h⟩ := obs h
  dsimp only at h
  split at h
  · obtain ⟨⟨_, r₁⟩, h1, h⟩ := obs h
    obtain ⟨⟨_, r₂⟩, h2, h⟩ := obs h
    obtain ⟨⟨_, r₃⟩, h3, h⟩ := obs h
    obtain ⟨⟨_, r₄⟩, h4, h⟩ := obs h
    obtain ⟨⟨_, r₅⟩, h5, h⟩ := obs h
    obtain ⟨⟨_, r₆⟩, h6, h⟩ := obs h
    obtain ⟨⟨_, r₇⟩, h7, h⟩ := obs h
    obtain ⟨⟨_, r₈⟩, h8, h⟩ := obs h
    obtain ⟨⟨_, r₉⟩, h9, h⟩ := obs h
    obtain ⟨⟨_, r₁₀⟩, h10, h⟩ := obs h
    obtain ⟨⟨_, r₁₁⟩, h11, h⟩ := obs h
    obtain ⟨⟨_, r₁₂⟩, h12, h⟩ := obs h
    obtain ⟨_, rfl⟩ := some_inj2 h
    have a0 := count_len h0
    have a1 := need_len h1
    have a2 := count_len h2
    have a3 := takes_len h3
    have a4 := takes_len h4
    have a5 := need_len h5
    have a6 := count_len h6
    have a7 := need_len h7
    have a8 := count_len h8
    have a9 := need_len h9
    have a10 := told_len h10
    have a11 := end_len h11
    have a12 := inssLoop_len h12
    dsimp only at *
    omega
  · cases h
theorem read_procedures_spec (pc : PC) (g₀ : Heap) (vn : Value) (hvn : RD g₀ namesD vn) : PSpec pc 13 275 [.ref pc.x, vn] g₀ pProcs (fun g ps v => PrL g ps v) := by
  intro A outer g ρ r s Q E u H R hA hS k kE
  have hz := pc.hz
  refine enterP (i := fi_read_procedures) (binds := [("listing", .ref pc.x), ("names", vn)]) (n := 12) (pProcs r = none) fn_read_procedures H R hA hS (fun e s' h => kE e s' h) (by rfl) (by kernel_rfl) fun L s' W H₀ => ?_
  show wpAny _ _ (execs (List.cons _ _) _) _ _ _
  obtain ⟨aN, vN, rfl, hN, hNr⟩ := (hvn.up u).toList
  have hNl : vN.length = 6 := by rw [hNr.length]; simp [prim_names]
  obtain ⟨o, a, H₁, c, d⟩ := H₀
  refine ex_assign_any (c_ty_any (T := "dict") H₁ (by decide +kernel) (by kernel_rfl) fun s₁ H₂ => sp_cons ?_)
  refine ev_compL (cl := []) (by rfl) (.refl _) (by kernel_rfl) (c_ty (T := "enumerate") (P := P1 (VE (.ref aN))) H₂ (by decide +kernel) (by kernel_rfl) (pa_one (pe_local (by kernel_rfl) (by rfl))) fun vs s₂ ⟨v, e1, e2⟩ H₃ => ?_)
  subst e1; cases e2
  refine at_enum (elts := [.Name "op" ⟨208, 31, 208, 33⟩, .Name "name" ⟨208, 35, 208, 39⟩]) (tk := 0) (tpos := ⟨208, 31, 208, 39⟩) W.rm.h H₃ hN fun I ι wr St s₃ H₄ hw WL st => ?_
  refine ⟨g, _, _, ι, wr, I, vN.length, _, St, _, fun i g' mu ys => An3 (mu = (pc.dx, o) :: ρ) (ys.length = i) (∃ prs, PrimPairs i prs ∧ ∀ (j : Nat) (p : Str × Value), prs[j]? = some p → ∃ v, ys[j]? = some v ∧ PairAt (strKind pw pc.G.w) g' v p), rfl, H₄, hw, WL, st, by rw [hNl, sizeLine_eq]; decide, ⟨rfl, rfl, [], ⟨rfl, fun j p h => by simp at h⟩, fun j p h => by simp at h⟩, ?_, fun i g mu ys ⟨_, h, _⟩ _ => by omega, ?_⟩
  · rintro i C g₂ gT mc mu ψ v ys s₄ hi ⟨T, vals, rfl, hT, t, x, hx, rfl⟩ ⟨rfl, hy, prs, hp, hq⟩ u₁ uT _ hm H₅
    obtain ⟨dd, hd1, hd2⟩ := hNr.get hx
    rw [List.getElem?_map] at hd1
    obtain ⟨w, hw1, rfl⟩ := Option.map_eq_some_iff.mp hd1
    obtain ⟨tx, rfl⟩ := hd2.toT
    refine at_assign2 W.rm.h H₅ (let ⟨o, ho, r⟩ := hT; ⟨o, H₅.up _ _ ho, r⟩) (by kernel_rfl) (by kernel_rfl) fun s₅ H₆ => tests_yes ?_
    refine ev_tuple H₆ (pa_two (P := VE (.str (S w) tx)) (P' := VE (.int (i : Int) t)) (pe_local (by kernel_rfl) (by rfl)) (pe_local (by kernel_rfl) (by rfl))) (fun T' vs g₃ s₆ ⟨v, v', e, e1, e2⟩ u₃ hT' H₇ => ?_) (fun vs ⟨v, v', e, _, _⟩ => by subst e; simp)
    subst e; cases e1; cases e2
    refine ⟨g₃, _, _, u₃, H₇, fun x hx => (free_put (by kernel_rfl) x hx).trans (free_put (by kernel_rfl) x hx), rfl, by simp [hy], prs ++ [(S w, .int (i : Int) t)], ⟨by simp [hp.1], fun j p hj => ?_⟩, fun j p hj => ?_⟩
    · rcases Nat.lt_or_ge j prs.length with hj' | hj'
      · rw [List.getElem?_append_left hj'] at hj; exact hp.2 j p hj
      · rw [List.getElem?_append_right hj'] at hj
        have : j - prs.length = 0 := by
          rcases Nat.eq_zero_or_pos (j - prs.length) with e | e
          · exact e
          · rw [List.getElem?_eq_none (by simp; omega)] at hj; cases hj
        rw [this] at hj
        cases hj
        have hj3 : j = i := by have := hp.1; omega
        subst hj3
        exact ⟨t, by rw [List.getD_eq_getElem?_getD, hw1]; rfl⟩
    · rcases Nat.lt_or_ge j prs.length with hj' | hj'
      · rw [List.getElem?_append_left hj'] at hj
        obtain ⟨v, hv, T₁, key, e1, e2, e3⟩ := hq j p hj
        refine ⟨v, by rw [List.getElem?_append_left (by have := hp.1; omega)]; exact hv, T₁, key, e1, let ⟨o, ho, r⟩ := e2; ⟨o, u₃ _ _ (uT _ _ ho), r⟩, e3⟩
      · rw [List.getElem?_append_right hj'] at hj
        have : j - prs.length = 0 := by
          rcases Nat.eq_zero_or_pos (j - prs.length) with e | e
          · exact e
          · rw [List.getElem?_eq_none (by simp; omega)] at hj; cases hj
        rw [this] at hj
        cases hj
        have hl := hp.1
        refine ⟨_, by rw [List.getElem?_append_right (by omega), show j - ys.length = 0 by omega]; rfl, T', _, rfl, ⟨_, hT', rfl, _, rfl⟩, strKind_is pw pc.G.w (S w) tx⟩
  · rintro D₃ g₂ mu ys k₃ s₄ ⟨rfl, hy, prs, hp, hq⟩ u₁ H₅
    rw [hNl] at hy hp
    refine sp_nil (call_dict_pairs (prs := prs) W.rm.h (H₅.get (.head _)) (by rw [hy, hp.1]) (fun i p h => let ⟨v, a, T, key, b, ⟨o, ho, r⟩, e⟩ := hq i p h; ⟨v, a, T, key, b, ⟨o, H₅.up _ _ ho, r⟩, e⟩) (by rw [hp.1]; decide) (primPairs_nodup hp) H₅.big fun D h' tk hsys hD hO hu => ?_)
    obtain ⟨g₃, u₃, hg₃, H₆⟩ := At.grows (c := ⟨pc.G, _, _, g₂, _, _⟩) H₅ hu tk
    have ho : OpsAt pc.G.w g₃ (.ref D) := ⟨D, prs, rfl, ⟨hsys, let ⟨o', es, ep, ho', r⟩ := hO; ⟨o', es, ep, hg₃ D o' ho' hD, r⟩⟩, fun x => primPairs_look hp x⟩
    have H₇ : La pc _ _ ρ g₃ _ r _ := ⟨o, a, H₆.drop, u₃ _ _ (u₁ _ _ c), fun b o e => u₃ _ _ (u₁ _ _ (d _ _ e))⟩
    refine H₇.put_ (by kernel_rfl) fun s₅ H₈ => ?_
    have u' : Up g g₃ := u₁.trans u₃
    refine la_assign_nil H₈ (by kernel_rfl) fun D₂ s₆ H₉ => ?_
    refine ex_while (Ei := fun e s'' => pProcs r = none ∧ FH pc.X (fi_read_procedures.env L) outer e s'') (la_noted W _)
      (fun n s'' => Ex6 fun acc vs k₀ r₂ g₂ m => An9 (La pc (A.deeper (fi_read_procedures.env L)) (fi_read_procedures.env L) ((D₂, lstO vs k₀) :: ρ) g₂ m r₂ s'') (Up g₃ g₂) (m (Str.ofString "listing") = some (.ref pc.x)) (m (Str.ofString "found") = some (.ref D₂)) (m (Str.ofString "ops") = some (.ref D)) (PrDs g₂ acc vs) (pProcsLoop n acc r₂ = pProcs r) (r₂.length < n) (vs.length + r₂.length ≤ pc.l.length)) ?_ (r.length + 1) ⟨[], [], 0, r, g₃, _, H₉, Up.rfl, by rfl, by rfl, by rfl, PrDs.nil, rfl, by omega, by have := H₉.len; simpa using this⟩
    rintro n s₃ ⟨acc, vs, k₀, r₂, g₄, m, H₃, u₂, m1, m2, m3, hr, hloop, hn, hsz⟩
    obtain ⟨n, rfl⟩ : ∃ j, n = j + 1 := ⟨n - 1, by omega⟩
    rw [pProcsLoop] at hloop
    have hs2 := skip_len r₂
    refine isTrue_plain (la_meth W.more H₃ (fun zz => (pe_local (by kernel_rfl) (by exact m1))) (P := P1 (VT (cs "procedure"))) (fun mu => pa_one pe_strc) (by kernel_rfl) (by kernel_rfl) (ld_get (by kernel_rfl) (by kernel_rfl) (by kernel_rfl)) (fun vs ⟨v, e, hv⟩ => by subst e; exact takes_spec pc g₄ (cs "procedure") v hv (by decide +kernel)) (by decide) (fun b r₃ v s₄ g₅ e u₃ hv H₄ => ?_) fun e s' q f => (by unfold pTakes at q; split at q <;> cases q))
    subst hv
    refine wpAny_truthy_bool ?_
    unfold pTakes at e
    by_cases h : wordAt (skipB r₂) = cs "procedure"
    · rw [if_pos h] at e hloop
      obtain ⟨rfl, rfl⟩ := some_inj2 e
      simp only [if_true]
      refine ex_expr_any (la_append H₄ (fun zz => (pe_local (by kernel_rfl) (by exact m2))) fun s₅ H₅ => la_def2 (P := fun ws => Ex3 fun v₁ v₂ v₃ => An4 (ws = [v₁, v₂, v₃]) (VE (.ref pc.x) v₁) (VI (vs.length : Int) v₂) (VE (.ref D) v₃)) W.more H₅ (fun zz => pe_glob (by kernel_rfl) rfl (by kernel_rfl)) (by kernel_rfl)
        (fun o => pa_three (pe_local (by kernel_rfl) (by exact m1)) (pe_len_list (a := D₂) (vs := vs) (pe_local (by kernel_rfl) (by exact m2)) (fun s H => ⟨_, H.get (.tail _ (.head _)), rfl, _, rfl⟩) (by omega)) (pe_local (by kernel_rfl) (by exact m3)))
        (fun ws ⟨v₁, v₂, v₃, e, h1, h2, h3⟩ => by subst e; cases h1; cases h3; rw [hr.1] at h2; exact read_procedure_spec pc g₅ acc.length v₂ _ h2 (ho.up (u₂.trans u₃))) (by decide) (fun p r₄ v s₆ g₆ e u₄ hv H₆ => ?_) fun e s' q f => ⟨by rw [q] at hloop; exact hloop.symm, f⟩)
      rw [e] at hloop
      dsimp only [Option.bind] at hloop
      have hl : r₄.length < r₂.length := by
        have h1 := proc_len e
        have h2 : 0 < (skipB r₂).length := List.length_pos_iff.mpr fun q => by rw [q] at h; exact absurd h (by decide +kernel)
        rw [List.length_drop, show (cs "procedure").length = 9 by decide +kernel] at h1
        omega
      exact ⟨g₆, m, r₄, by omega, H₆, fun s₇ H₇ => ex_nil ⟨n, by omega, acc ++ [p], vs ++ [v], k₀ + 1, r₄, g₆, m, H₇, (u₂.trans u₃).trans u₄, m1, m2, m3, ((hr.up u₃).up u₄).snoc hv, hloop, by omega, by simp; omega⟩⟩
    · rw [if_neg h] at e hloop
      obtain ⟨rfl, rfl⟩ := some_inj2 e
      simp only [Bool.false_eq_true, if_false]
      obtain ⟨g₆, u₆, hD₂, H₅⟩ := H₄.freeze
      refine la_ret H₅ (fun mu => (pe_local (by kernel_rfl) (by exact m2))) fun v s₅ hv H₆ => ?_
      cases hv
      exact k acc _ _ s₅ g₆ hloop.symm (u'.trans ((u₂.trans u₃).trans u₆)) ⟨D₂, vs, k₀, rfl, hD₂, (hr.up u₃).up u₆⟩ H₆.li

theorem read_code_spec (G : Gh) (X : XB) (hos : X.os = G.os) {A : Around} {outer : List Env} {g : Heap} {mu : List (Addr × Obj)} {s : Shared} {Q E : Value → Shared → Prop} (l : List Nat) (vt vn : Value)
    (hz : l.length ≤ 16777216) (hn : nl l < 64) (hvt : VT l vt) (hvn : RD g namesD vn) (H : Gl G g mu s) (R : Rm A 15) (hA : A.frames = some outer) (hS : Stk X outer mu) (uB : Up X.B g)
    (k : ∀ ps v s' g', pCode l = some ps → Up g g' → PrL g' ps v → Gl G g' mu s' → Q v s') (kE : ∀ e s', pCode l = none → Fly X outer e s' → E e s') :
    wpAny G.M A (call (.ref 282) [vt, vn]) Q E s := by
  refine enter (i := fi_read_code) (binds := [("text", vt), ("names", vn)]) (n := 14) fn_read_code H R (by rfl) (by kernel_rfl) fun L s' R' H' => ?_
  have hfr : (A.deeper (fi_read_code.env L)).frames = some (fi_read_code.env L :: outer) := Around.frames_deeper hA
  suffices hb : wpAny G.M (A.deeper (fi_read_code.env L)) (execs fi_read_code.body (fi_read_code.env L)) (BodyK Q) (fun e s'' => pCode l = none ∧ FH X (fi_read_code.env L) outer e s'') s' from
    wpAny_mono hb (fun zz zz q => q) fun e s'' q => fly_leaves hfr rfl q.2 fun s3 q3 => kE _ _ q.1 q3
  show wpAny _ _ (execs (List.cons _ _) _) _ _ _
  refine ex_assign_any (c_keep (f := 212) H' (pe_glob (by kernel_rfl) rfl (by kernel_rfl)) (by kernel_rfl) fun s₁ H₁ => (pa_one (P := VE vt) (pe_local (by kernel_rfl) (by rfl))) _ s₁ _ _ H₁ fun vs s₂ hvs H₂ => ?_)
  obtain ⟨v, rfl, e1⟩ := hvs
  cases e1
  refine ⟨H₂.X, ?_⟩
  obtain ⟨oL, co, ll, kc, gl⟩ := H₂
  refine make_listing G l vt hvt gl (R'.less (by omega)) fun x dx o s₃ g₁ u₁ hx hL gl' => ?_
  have H₃ : At ⟨G, A.deeper (fi_read_code.env L), fi_read_code.env L, g₁, loc [("text", vt), ("names", vn)], (dx, o) :: mu⟩ s₃ := ⟨oL, co, ll, kc, gl'.perm (perm_front ..).symm |>.perm ?_⟩
  rotate_left
  · exact .refl _
  let pc : PC := ⟨G, l, x, dx, X, hz, hn, hos⟩
  have W : Wk pc (A.deeper (fi_read_code.env L)) (fi_read_code.env L) mu outer 14 := ⟨R', hfr, rfl, by show sc_read_code.kind ≠ _; decide +kernel, hS⟩
  have H₄ : La pc (A.deeper (fi_read_code.env L)) (fi_read_code.env L) mu g₁ (loc [("text", vt), ("names", vn)]) l s₃ := ⟨o, ⟨0, 0, Nat.zero_le _, rfl, hL⟩, H₃, hx, fun b ob e => u₁ _ _ (uB _ _ e)⟩
  refine H₄.put_ (by kernel_rfl) fun s₄ H₅ => ?_
  have hC : pCode l = (pProcs l).bind fun p => if p.2.isEmpty = true then some p.1 else none := rfl
  refine ex_assign_any (la_def (pc := pc) (P := P2 (VE (.ref x)) (VE vn)) W H₅ (fun zz => pe_glob (by kernel_rfl) rfl (by kernel_rfl)) (by kernel_rfl) (fun mu => pa_two (pe_local (by kernel_rfl) (by rfl)) (pe_local (by kernel_rfl) (by rfl))) (fun vs ⟨v₁, v₂, e, h1, h2⟩ => by subst e; cases h1; cases h2; exact read_procedures_spec pc g₁ vn (hvn.up u₁)) (by decide) (fun ps r₁ v s₅ g₂ e u₂ hv H₆ => ?_) fun e s' q f => ⟨by rw [hC, q]; rfl, f⟩)
  rw [e] at hC
  dsimp only [Option.bind] at hC
  refine H₆.put_ (by kernel_rfl) fun s₆ H₇ => ?_
  refine ex_if_any (isTrue_not (isTrue_plain (la_meth0 W H₇ (fun zz => pe_local (by kernel_rfl) (by rfl)) (by kernel_rfl) (ld_get (by kernel_rfl) (by kernel_rfl) (by kernel_rfl)) (is_at_end_spec pc g₂) (by decide) (fun b r₃ v₂ s₇ g₃ e u₃ hv₂ H₈ => ?_) fun e s' q f => nomatch q)))
  obtain ⟨rfl, rfl⟩ := some_inj2 e
  subst hv₂
  refine wpAny_truthy_bool ?_
  by_cases h0 : r₁.isEmpty = true
  · rw [if_pos h0] at hC
    simp only [h0, Bool.not_true, Bool.false_eq_true, if_false]
    refine ex_nil (la_ret H₈ (fun mu => (pe_local (by kernel_rfl) (by rfl))) fun v₄ s₈ hv₄ H₉ => ?_)
    cases hv₄
    obtain ⟨o', a', H₉, c', d'⟩ := H₉
    exact k ps _ s₈ g₃ hC ((u₁.trans u₂).trans u₃) (hv.up u₃) H₉.gl.drop
  · rw [if_neg h0] at hC
    simp only [h0, Bool.not_false, if_true]
    exact ex_expr_any (la_meth W H₈ (fun zz => pe_local (by kernel_rfl) (by rfl)) (fun mu => pa_one pe_strc) (by kernel_rfl) (by kernel_rfl) (ld_get (by kernel_rfl) (by kernel_rfl) (by kernel_rfl)) (fun vs ⟨v, e, _⟩ => by subst e; exact refuse_spec pc g₃ v) (by decide) (fun zz zz zz zz zz e => (by cases e)) fun e s' zz f => ⟨hC, f⟩)
end Mine
end
section
open PySem PySem.W PyProof.Rows PySem.Calls PySem.Builtin PySem.Builtin.Str PySem.NumText
namespace Mine
set_option maxRecDepth 100000

noncomputable def regsOK (l : List Nat) : Prop := l.length ≤ 4 ∧ ∀ n ∈ l, smallN n
noncomputable def rowOK (e : Row) : Prop := smallN e.1 ∧ smallN e.2.1 ∧ regsOK e.2.2
noncomputable def opdOK : Opd → Prop
  | .num n => smallN n
  | .regs l => regsOK l
  | .rows rs => rs.length ≤ 4 ∧ ∀ e ∈ rs, rowOK e
noncomputable def insFine (i : Ins) : Prop := insOK i ∧ ∀ o ∈ i.ops, opdOK o
theorem weigh_le {α : Type} (f : α → List Nat) (b : Nat) : ∀ l : List α, (∀ x ∈ l, (f x).length ≤ b) → weigh (l.map f) ≤ l.length * (b + 1)
  | [], _ => by simp [weigh]
  | x :: r, h => by
    have h1 := weigh_le f b r fun y hy => h y (.tail _ hy)
    have h2 := h x (.head _)
    simp only [weigh, List.map_cons, List.sum_cons, List.length_cons, List.length_map, Nat.add_mul, Nat.one_mul] at h1 ⊢
    omega
theorem shN18 {n : Nat} (h : smallN n) : (shN n).length ≤ 18 := shN_len (k := 17) h
theorem regT_len {n : Nat} (h : smallN n) : (regT n).length ≤ 19 := by
  have := shN18 h
  simp only [regT, List.length_cons]; omega
theorem joinB_len (xs : List (List Nat)) : (joinB xs).length ≤ weigh xs := by rw [← joinS_blank]; exact joinS_len _ (by simp) xs
theorem regs_weigh {l : List Nat} (h : regsOK l) : weigh (l.map regT) ≤ 80 := by
  have h1 := weigh_le regT 19 l fun n hn => regT_len (h.2 n hn)
  have h2 := h.1
  omega
theorem regsT_len {l : List Nat} (h : regsOK l) : (regsT l).length ≤ 82 := by
  have h1 := joinB_len (l.map regT)
  have h2 := regs_weigh h
  simp only [regsT, List.length_cons, List.length_append, List.length_nil]; omega
theorem rowT_len {e : Row} (h : rowOK e) : (rowT e).length ≤ 123 := by
  have h1 := shN18 h.1
  have h2 := shN18 h.2.1
  have h3 := regsT_len h.2.2
  simp only [rowT, List.length_cons, List.length_append]; omega
theorem cs_r : cs "r" = [114] := by kernel_rfl
theorem cs_lp : cs "(" = [40] := by kernel_rfl
theorem cs_rp : cs ")" = [41] := by kernel_rfl
theorem cs_sp : cs " " = [32] := by kernel_rfl
theorem cs_spp : cs " p" = [32, 112] := by kernel_rfl
theorem RD.regs {g : Heap} {l : List Nat} {v : Value} (h : RD g (regsD l) v) : Ex2 fun a vs => An3 (v = .ref a) (g.IsTuple a vs.toArray) (RDs g (numsD l) vs) := RD.toTuple h
theorem itr_cast {G : Gh} {A : Around} {g : Heap} {v : Value} {n n' : Nat} {P : Nat → Value → Prop} (h : Itr G A g v n P) (e : n = n') : Itr G A g v n' P := e ▸ h

theorem fn_registers_text (P : Params) : FnOK P fi_registers_text := ⟨by kernel_rfl, by kernel_rfl, by kernel_rfl⟩
theorem fn_operand_text (P : Params) : FnOK P fi_operand_text := ⟨by kernel_rfl, by kernel_rfl, by kernel_rfl⟩
theorem fn_instruction_text (P : Params) : FnOK P fi_instruction_text := ⟨by kernel_rfl, by kernel_rfl, by kernel_rfl⟩
theorem registers_text_spec (G : Gh) (g₀ : Heap) (l : List Nat) (v : Value) (hv : RD g₀ (regsD l) v) (hok : regsOK l) : FSpec G 1 96 [v] g₀ (fun zz => VT (regsT l)) := by
  intro A g mu s Q E u H R k
  refine enter0 (i := fi_registers_text) (binds := [("registers", v)]) (n := 0) fn_registers_text H R (by rfl) (by kernel_rfl) fun L s' W H' => ?_
  show wpAny _ _ (execs (List.cons _ _) _) _ _ _
  obtain ⟨a, vs, rfl, ht, hr⟩ := (hv.up u).regs
  have hvl : vs.length = l.length := by rw [hr.length]; simp [numsD]
  have hw := regs_weigh hok
  have hj := joinB_len (l.map regT)
  have e1 : (cs " ").length = 1 := by rw [cs_sp]; rfl
  refine ex_ret H' (pe_add_str (pe_add_str (pe_strc (x := "(")) (pe_join_texts (x := " ") (xs := l.map regT) (cl := []) (by rfl) (.refl _) (by kernel_rfl) (by rw [List.length_map]; have := hok.1; omega) (fun s H => ?_) (by omega) (by omega)) ?_) (pe_strc (x := ")")) ?_) fun w s₁ hw H₁ => k w s₁ g Up.rfl ?_ H₁.gl
  · refine pe_run H (pe_local (by kernel_rfl) (by rfl)) fun w s₂ e H₂ => ?_
    cases e
    refine ⟨g, _, Up.rfl, H₂, itr_cast (itr_tuple W.h ht) (by rw [hvl, List.length_map]), ?_⟩
    intro i C mc ψ w s x hx hw hm H
    rw [List.getElem?_map] at hx
    obtain ⟨n, hn, rfl⟩ := Option.map_eq_some_iff.mp hx
    obtain ⟨d, hd, hrd⟩ := hr.get hw
    obtain ⟨n', hn', rfl⟩ := nums_get hd
    cases hn.symm.trans hn'
    obtain ⟨t, rfl⟩ := hrd.toI
    have hs := hok.2 n (List.mem_of_getElem? hn)
    refine wpAny_assign_Name (At.store (c := ⟨G, _, _, g, mc, _⟩) H (by kernel_rfl) fun s₃ H₃ => ⟨_, free_put (by kernel_rfl), H₃, ?_⟩)
    refine (pe_add_str (pe_strc (x := "r")) (pe_str_int (pe_locI (t := t) (by kernel_rfl) (by rfl)) hs) ?_).convT ?_
    · have := shN18 hs; rw [cs_r]; simp; omega
    · rw [cs_r]; rfl
  · rw [cs_lp, cs_sp, joinS_blank]; simp; omega
  · rw [cs_lp, cs_rp, cs_sp, joinS_blank]; simp; omega
  · rw [cs_lp, cs_rp, cs_sp, joinS_blank] at hw
    simpa [regsT] using hw

theorem names_get {vs : List Value} {g : Heap} {n : Nat} (hr : RDs g (primNames.map fun w => PyData.str (S w)) vs) (h : n < 6) : ∃ v, vs[n]? = some v ∧ VT (primNames.getD n []) v := by
  have hl : vs.length = 6 := by rw [hr.length]; simp [prim_names]
  obtain ⟨v, hv⟩ : ∃ v, vs[n]? = some v := ⟨_, List.getElem?_eq_getElem (by omega)⟩
  obtain ⟨d, hd, hrd⟩ := hr.get hv
  rw [List.getElem?_map] at hd
  obtain ⟨w, hw, rfl⟩ := Option.map_eq_some_iff.mp hd
  refine ⟨v, hv, ?_⟩
  rw [List.getD_eq_getElem?_getD, hw]
  exact hrd.toT
theorem rows_weigh {rs : List Row} (h1 : rs.length ≤ 4) (h2 : ∀ e ∈ rs, rowOK e) : weigh (rs.map rowT) ≤ 496 := by
  have := weigh_le rowT 123 rs fun e he => rowT_len (h2 e he)
  omega
theorem operand_text_spec (G : Gh) (g₀ : Heap) (srt : Srt) (o : Opd) (vs vo vn : Value) (hs : VT srt.txt vs) (ho : RD g₀ (opdD o) vo) (hn : RD g₀ namesD vn) (hf : fits srt o = true) (hok : opdOK o) : FSpec G 2 101 [vs, vo, vn] g₀ (fun zz => VT (opdT srt o)) := by
  intro A g mu s Q E u H R k
  obtain ⟨tk, rfl⟩ := hs
  refine enter0 (i := fi_operand_text) (binds := [("sort", .str (S srt.txt) tk), ("operand", vo), ("names", vn)]) (n := 1) fn_operand_text H R (by rfl) (by kernel_rfl) fun L s' W H' => ?_
  show wpAny _ _ (execs (List.cons _ _) _) _ _ _
  have hs : ∀ mu pos, PE ⟨G, A.deeper (fi_operand_text.env L), fi_operand_text.env L, g, loc [("sort", .str (S srt.txt) tk), ("operand", vo), ("names", vn)], mu⟩ (.Name "sort" pos) (VT srt.txt) := fun mu pos => pe_locT (t := tk) (by kernel_rfl) (by rfl)
  have ho := ho.up u
  have hn := hn.up u
  refine ex_if H' (d := decide (srt = .sources)) (PT.congr (pt_eq_str (hs mu _) (pe_strc (x := "sources"))) (txt_eq srt .sources)) ?_ ?_
  · intro h s₁ H₁
    simp only [decide_eq_true_eq] at h
    subst h
    cases o with
    | num n => cases hf
    | rows l => cases hf
    | regs l =>
      exact ex_ret H₁ (pe_fdef (P := P1 (VE vo)) (V := VT (regsT l)) (pe_glob (by kernel_rfl) rfl (by kernel_rfl)) (by kernel_rfl) (pa_one (pe_local (by kernel_rfl) (by rfl))) (fun ws ⟨w, e, hw⟩ => by subst e; cases hw; exact registers_text_spec G g l vo ho hok) W (by decide)) fun w s₂ hw H₂ => k w s₂ g Up.rfl hw H₂.gl
  intro h1 s₁ H₁
  simp only [decide_eq_false_iff_not] at h1
  refine ex_if H₁ (d := decide (srt = .prim)) (PT.congr (pt_eq_str (hs mu _) (pe_strc (x := "primitive"))) (txt_eq srt .prim)) ?_ ?_
  · intro h s₂ H₂
    simp only [decide_eq_true_eq] at h
    subst h
    cases o with
    | regs n => cases hf
    | rows l => cases hf
    | num n =>
      have hn6 : n < 6 := of_decide_eq_true hf
      obtain ⟨a, vs, rfl, hl, hr⟩ := hn.toList
      obtain ⟨v, hv, hvt⟩ := names_get hr hn6
      obtain ⟨t, rfl⟩ := RD.toI (i := (n : Int)) ho
      have hvl : vs.length = 6 := by rw [hr.length]; simp [prim_names]
      refine ex_ret H₂ (pe_item_lst (j := n) (pe_local (by kernel_rfl) (by rfl)) (pe_locI (t := t) (by kernel_rfl) (by rfl)) (fun s H => IsList.up hl H.up) hv (by omega)) fun w s₃ hw H₃ => ?_
      cases hw
      exact k v s₃ g Up.rfl hvt H₃.gl
  intro h2 s₂ H₂
  simp only [decide_eq_false_iff_not] at h2
  refine ex_if H₂ (d := decide (srt = .rows)) (PT.congr (pt_eq_str (hs mu _) (pe_strc (x := "rows"))) (txt_eq srt .rows)) ?_ ?_
  · intro h s₃ H₃
    simp only [decide_eq_true_eq] at h
    subst h
    cases o with
    | regs n => cases hf
    | num l => cases hf
    | rows rs =>
      obtain ⟨a, vs, rfl, ht, hr⟩ := RD.toTuple (ds := rs.map rowD) ho
      have hvl : vs.length = rs.length := by rw [hr.length]; simp
      have hw := rows_weigh hok.1 hok.2
      have e1 : (cs " ").length = 1 := by rw [cs_sp]; rfl
      refine ex_ret H₃ (pe_join_texts (x := " ") (xs := rs.map rowT) (cl := []) (by rfl) (.refl _) (by kernel_rfl) (by rw [List.length_map]; have := hok.1; omega) (fun s H => ?_) (by omega) (by omega)) fun w s₄ hw H₄ => k w s₄ g Up.rfl ?_ H₄.gl
      · refine pe_run H (pe_local (by kernel_rfl) (by rfl)) fun w s₂ e H₂ => ?_
        cases e
        refine ⟨g, _, Up.rfl, H₂, itr_cast (itr_tuple W.h ht) (by rw [hvl, List.length_map]), ?_⟩
        intro i C mc ψ w s x hx hw hm H
        rw [List.getElem?_map] at hx
        obtain ⟨e, hn, rfl⟩ := Option.map_eq_some_iff.mp hx
        obtain ⟨d, hd, hrd⟩ := hr.get hw
        rw [List.getElem?_map, hn] at hd
        cases hd
        obtain ⟨T, ws, rfl, hT, hrs⟩ := hrd.toTuple
        obtain ⟨w1, w2, w3, rfl, r1, r2, r3⟩ := hrs.three
        obtain ⟨t1, rfl⟩ := r1.toI
        obtain ⟨t2, rfl⟩ := r2.toI
        have hrow := hok.2 e (List.mem_of_getElem? hn)
        have hlen := rowT_len hrow
        refine at_assign3 W.h H (IsTuple.up hT H.up) (by kernel_rfl) (by kernel_rfl) (by kernel_rfl) fun s₃ H₃ => ⟨_, fun x hx => ((free_put (by kernel_rfl) x hx).trans (free_put (by kernel_rfl) x hx)).trans (free_put (by kernel_rfl) x hx), H₃, ?_⟩
        have e2 : cs "r" ++ (shN e.1 ++ (cs " p" ++ (shN e.2.1 ++ (cs " " ++ (regsT e.2.2 ++ []))))) = rowT e := by
          rw [cs_r, cs_spp, cs_sp]; simp [rowT]
        refine (pe_joined (jp_cons (pe_strc (x := "r")) (jp_cons (pe_fv_int (pe_locI (t := t1) (by kernel_rfl) (by rfl)) hrow.1) (jp_cons (pe_strc (x := " p")) (jp_cons (pe_fv_int (pe_locI (t := t2) (by kernel_rfl) (by rfl)) hrow.2.1) (jp_cons (pe_strc (x := " ")) (jp_cons (pe_fv_str (l := regsT e.2.2) ?_ ?_) jp_nil)))))) ?_).convT e2
        · exact pe_fdef (P := P1 (VE w3)) (V := VT (regsT e.2.2)) (pe_glob (by kernel_rfl) rfl (by kernel_rfl)) (by kernel_rfl) (pa_one (pe_local (by kernel_rfl) (by rfl))) (fun ws ⟨w, e', hw⟩ => by subst e'; cases hw; exact registers_text_spec G g e.2.2 w3 r3 hrow.2.2) W (by decide)
        · have := regsT_len hrow.2.2; omega
        · rw [e2]; omega
      · rw [cs_sp, joinS_blank] at hw; exact hw
  intro h3 s₃ H₃
  simp only [decide_eq_false_iff_not] at h3
  have hp : srt.plain = true := by cases srt <;> first | rfl | contradiction
  obtain ⟨tl, hlt⟩ := let_at srt hp
  cases o with
  | regs n => cases srt <;> first | contradiction | cases hf
  | rows l => cases srt <;> first | contradiction | cases hf
  | num n =>
    obtain ⟨t, rfl⟩ := RD.toI (i := (n : Int)) ho
    refine ex_ret H₃ (pe_add_str ((pe_item_dict (pe_glob (by kernel_rfl) rfl (by kernel_rfl)) (hs mu _) (fun s H => let_dict H) hlt).mono fun w e => ⟨tl, e⟩) (pe_str_int (pe_locI (t := t) (by kernel_rfl) (by rfl)) hok) ?_) fun w s₄ hw H₄ => k w s₄ g Up.rfl ?_ H₄.gl
    · have := shN18 hok; simp; omega
    · show VT (if srt = .prim then _ else _) w
      rw [if_neg h2]
      exact hw
end Mine
end
section
open PySem PySem.W PyProof.Rows PySem.Calls PySem.Builtin PySem.Builtin.Str PySem.NumText
namespace Mine
set_option maxRecDepth 100000

theorem opdsT_zip : ∀ (ss : List Srt) (os : List Opd), opdsT ss os = (ss.zip os).map fun e => opdT e.1 e.2
  | s :: ss, o :: os => by rw [opdsT, opdsT_zip ss os]; rfl
  | [], os => by rw [List.zip_nil_left]; cases os <;> rfl
  | s :: ss, [] => by rw [List.zip_nil_right]; rfl
theorem names_len (n : Nat) : (primNames.getD n []).length ≤ 20 := by
  have : (primNames.all fun w => decide (w.length ≤ 20)) = true := by kernel_rfl
  rw [List.getD_eq_getElem?_getD]
  cases h : primNames[n]? with
  | none => simp
  | some w => exact of_decide_eq_true (List.all_eq_true.mp this w (List.mem_of_getElem? h))
theorem opdT_len {srt : Srt} {o : Opd} (h : opdOK o) : (opdT srt o).length ≤ 496 := by
  cases o with
  | num n =>
    show (if srt = .prim then _ else _ : List Nat).length ≤ _
    split
    · have := names_len n; omega
    · have := shN18 h; simp only [List.length_cons]; omega
  | regs l => have := regsT_len h; exact Nat.le_trans this (by decide)
  | rows rs => have h1 := joinB_len (rs.map rowT); have h2 := rows_weigh h.1 h.2; exact Nat.le_trans h1 h2
theorem word_short {w : List Nat} {ss : List Srt} (h : sortsOf w = some ss) : w.length ≤ 11 ∧ ss.length ≤ 3 := by
  obtain ⟨row, hrow, rfl⟩ := Option.map_eq_some_iff.mp h
  have h1 : (opsTab.all fun e => decide (e.1.length ≤ 11)) = true := by kernel_rfl
  have hmem : row ∈ opsTab := List.mem_of_find?_eq_some hrow
  have h2 := of_decide_eq_true (List.all_eq_true.mp h1 row hmem)
  have h3 : row.1 = w := by
    have := List.find?_some hrow
    exact of_decide_eq_true this
  rw [h3] at h2
  exact ⟨h2, ops_short hmem⟩
theorem parts_weigh {i : Ins} (h : insFine i) : weigh (i.w :: (pairsOf i).map fun e => opdT e.1 e.2) ≤ 1503 ∧ (pairsOf i).length ≤ 3 := by
  obtain ⟨⟨ss, hs, hf⟩, ho⟩ := h
  obtain ⟨h1, h2⟩ := word_short hs
  have h3 : (pairsOf i).length ≤ 3 := by unfold pairsOf; rw [hs]; simp [List.length_zip]; omega
  have h4 := weigh_le (fun e : Srt × Opd => opdT e.1 e.2) 496 (pairsOf i) fun e he => opdT_len (ho e.2 (by
    unfold pairsOf at he
    exact (List.of_mem_zip he).2))
  have h5 : weigh (i.w :: (pairsOf i).map fun e => opdT e.1 e.2) = i.w.length + 1 + weigh ((pairsOf i).map fun e => opdT e.1 e.2) := by
    simp only [weigh, List.map_cons, List.sum_cons, List.length_cons]; omega
  refine ⟨?_, h3⟩
  have : (pairsOf i).length * (496 + 1) ≤ 3 * 497 := Nat.mul_le_mul_right _ h3
  omega
theorem insT_eq (i : Ins) : insT i = joinB (i.w :: (pairsOf i).map fun e => opdT e.1 e.2) := by unfold insT; rw [opdsT_zip]; rfl
theorem insT_len {i : Ins} (h : insFine i) : (insT i).length ≤ 1503 := by rw [insT_eq]; exact Nat.le_trans (joinB_len _) (parts_weigh h).1
theorem instruction_text_spec (G : Gh) (g₀ : Heap) (i : Ins) (v vn : Value) (hv : RD g₀ (insD i) v) (hn : RD g₀ namesD vn) (hok : insFine i) : FSpec G 3 106 [v, vn] g₀ (fun zz => VT (insT i)) := by
  intro A g mu s Q E u H R k
  refine enter0 (i := fi_instruction_text) (binds := [("instruction", v), ("names", vn)]) (n := 2) fn_instruction_text H R (by rfl) (by kernel_rfl) fun L s' W H' => ?_
  show wpAny _ _ (execs (List.cons _ _) _) _ _ _
  have hv := hv.up u
  have hn := hn.up u
  obtain ⟨hwt, hp3⟩ := parts_weigh hok
  have hfit : ∀ e ∈ pairsOf i, fits e.1 e.2 = true ∧ opdOK e.2 := by
    obtain ⟨⟨ss, hs, hf⟩, ho⟩ := hok
    intro e he
    unfold pairsOf at he
    rw [hs] at he
    exact ⟨fits_mem hf he, ho _ (List.of_mem_zip he).2⟩
  refine ex_assign_texts (m := loc [("instruction", v), ("names", vn)]) (mu := mu) (cl := [("names", L + 1)]) (xs := (pairsOf i).map fun e => opdT e.1 e.2) (by rfl) (.refl _) (by kernel_rfl) (by kernel_rfl) (by rw [List.length_map]; omega) (c_fdef (P := P1 (VE v)) H' (pe_glob (by kernel_rfl) rfl (by kernel_rfl)) (by kernel_rfl) (pa_one (pe_local (by kernel_rfl) (by rfl))) (fun vs ⟨w, e, hw⟩ => by subst e; cases hw; exact operand_pairs_spec G g i v hv hok.1) W (by decide) fun w s₁ g₁ u₁ hw H₁ => ?_)
  obtain ⟨a, vs, rfl, hl, hr⟩ := hw.toList
  have hvl : vs.length = (pairsOf i).length := by rw [hr.length]; simp
  refine ⟨g₁, _, H₁, itr_cast (itr_list W.h hl) (by rw [hvl, List.length_map]), ?_, fun D ws kk s₂ ht H₂ => ?_⟩
  · intro j C mc ψ w s x hx hw hm H
    rw [List.getElem?_map] at hx
    obtain ⟨⟨sr, op⟩, he, rfl⟩ := Option.map_eq_some_iff.mp hx
    obtain ⟨d, hd, hrd⟩ := hr.get hw
    rw [List.getElem?_map, he] at hd
    cases hd
    obtain ⟨T, ws, rfl, hT, hrs⟩ := hrd.toTuple
    obtain ⟨w1, w2, rfl, h1, h2⟩ := hrs.two
    obtain ⟨hf, ho⟩ := hfit _ (List.mem_of_getElem? he)
    have hmn : mc (Str.ofString "names") = some vn := (hm _ (by kernel_rfl)).trans (by rfl)
    refine at_assign2 W.h H (IsTuple.up hT H.up) (by kernel_rfl) (by kernel_rfl) fun s₃ H₃ => ⟨_, fun x hx => (free_put (by kernel_rfl) x hx).trans (free_put (by kernel_rfl) x hx), H₃, ?_⟩
    exact pe_fdef (P := fun ws => Ex3 fun a b c => An4 (ws = [a, b, c]) (VE w1 a) (VE w2 b) (VE vn c)) (pe_glob (by kernel_rfl) rfl (by kernel_rfl)) (by kernel_rfl) (pa_three (pe_local (by kernel_rfl) (by rfl)) (pe_local (by kernel_rfl) (by rfl)) (pe_local (by kernel_rfl) (by exact hmn))) (fun ws ⟨a, b, c, e, e1, e2, e3⟩ => by subst e; cases e1; cases e2; cases e3; exact operand_text_spec G g₁ sr op w1 w2 vn h1.toT h2 (hn.up u₁) hf ho) W (by decide)
  · obtain ⟨t, ivs, e, hti, hri⟩ := hv.toTuple
    cases e
    have hil : ivs.length ≤ 1000 := by
      obtain ⟨⟨ss, hs, hf⟩, _⟩ := hok
      have := fits_len hf
      have := (word_short hs).2
      rw [hri.length]; simp; omega
    obtain ⟨v0, hv0⟩ : ∃ v0, ivs[0]? = some v0 := ⟨_, List.getElem?_eq_getElem (by rw [hri.length]; simp)⟩
    obtain ⟨d0, hd0, hr0⟩ := hri.get hv0
    cases hd0
    refine ex_ret_any (ev_join (x := " ") (fun s₃ H₃ => wpAny_BinOp (ev_list H₃ (pa_one ((pe_item_tup (j := 0) (pe_local (by kernel_rfl) (by rfl)) pe_int (IsTuple.up hti u₁) hv0 hil).mono fun x e => e ▸ hr0.toT)) (fun D₂ vs₂ s₄ ⟨w, e, hw⟩ H₄ => ?_) (fun vs ⟨w, e, hw⟩ => by subst e; simp))) H₂ (by rw [cs_sp]; decide))
    subst e
    refine pe_run H₄ (pe_local (by kernel_rfl) (by rfl)) fun w' s₅ e H₅ => ?_
    cases e
    have hwsl := ht.length
    rw [List.length_map] at hwsl
    refine at_add_lists H₅ ⟨_, H₅.get (.head _), rfl, _, rfl⟩ ⟨_, H₅.get (.tail _ (.head _)), rfl, _, rfl⟩ (by simp; omega) fun D₃ s₆ H₆ => ?_
    have hta : TextsAre (w :: ws) (i.w :: (pairsOf i).map fun e => opdT e.1 e.2) := TextsAre.cons hw ht
    refine ⟨D₃, _, _, rfl, ⟨_, H₆.get (.head _), rfl, _, rfl⟩, hta, by omega, fun w tk hw => ?_⟩
    rw [cs_sp, joinS_blank, ← insT_eq] at hw
    exact k w _ g₁ u₁ hw (At.toks H₆ tk).gl.drop.drop.drop
end Mine
end
section
open PySem PySem.W PyProof.Rows PySem.Calls PySem.Builtin PySem.Builtin.Str PySem.NumText
namespace Mine
set_option maxRecDepth 100000

theorem fn_procedure_lines (P : Params) : FnOK P fi_procedure_lines := ⟨by kernel_rfl, by kernel_rfl, by kernel_rfl⟩
theorem fn_code_text (P : Params) : FnOK P fi_code_text := ⟨by kernel_rfl, by kernel_rfl, by kernel_rfl⟩
noncomputable def headW (p : Proc) : List (List Nat) :=
  [cs "procedure", shN p.number, cs "needed", shN p.needed] ++ (if p.rest = true then [cs "rest"] else []) ++ (if p.cont = true then [cs "continuation"] else []) ++ [cs "registers", shN p.regs, cs "free", shN p.free] ++ [cs "title", shN p.title.length, p.title]
noncomputable def aheadT (b : Bool) (j : Nat) : List Nat := if b = true then 76 :: (shN j ++ [32]) else [32, 32, 32]
noncomputable def insLs (met : Nat → Bool) : Nat → List Ins → List (List Nat)
  | _, [] => []
  | j, i :: r => (aheadT (met j) j ++ insT i) :: insLs met (j + 1) r
theorem insLs_snoc (met : Nat → Bool) : ∀ (l : List Ins) (j : Nat) (i : Ins), insLs met j (l ++ [i]) = insLs met j l ++ [aheadT (met (j + l.length)) (j + l.length) ++ insT i]
  | [], j, i => by simp [insLs]
  | x :: l, j, i => by
    rw [List.cons_append, insLs, insLs_snoc met l (j + 1) i, insLs, List.length_cons, show j + 1 + l.length = j + (l.length + 1) by omega]; rfl
theorem insLs_len (met : Nat → Bool) : ∀ (l : List Ins) (j : Nat), (insLs met j l).length = l.length
  | [], _ => rfl
  | x :: l, j => by simp [insLs, insLs_len met l (j + 1)]
noncomputable def procLs (p : Proc) : List (List Nat) := joinB (headW p) :: insLs (metB p.ins) 0 p.ins ++ [cs "end"]
noncomputable def codeT (ps : List Proc) : List Nat := ((ps.flatMap procLs).map (· ++ [10])).flatten
structure procOK (p : Proc) : Prop where
  num : smallN p.number
  ti : p.title.length ≤ 4
  need : smallN p.needed
  regs : smallN p.regs
  free : smallN p.free
  len : p.ins.length ≤ 3
  ins : ∀ i ∈ p.ins, insFine i
theorem head_weigh {p : Proc} (h : procOK p) : weigh (headW p) ≤ 200 := by
  have h1 := shN18 h.num
  have h2 := shN18 h.need
  have h3 := shN18 h.regs
  have h4 := shN18 h.free
  have h5 : (shN p.title.length).length ≤ 1 := shN_len (k := 0) (by have := h.ti; omega)
  have h6 := h.ti
  have c1 : (cs "procedure").length = 9 := by decide +kernel
  have c2 : (cs "needed").length = 6 := by decide +kernel
  have c3 : (cs "rest").length = 4 := by decide +kernel
  have c4 : (cs "continuation").length = 12 := by decide +kernel
  have c5 : (cs "registers").length = 9 := by decide +kernel
  have c6 : (cs "free").length = 4 := by decide +kernel
  have c7 : (cs "title").length = 5 := by decide +kernel
  unfold weigh headW
  cases p.rest <;> cases p.cont <;> simp [c1, c2, c3, c4, c5, c6, c7] <;> omega
theorem ahead_len {b : Bool} {j : Nat} (h : j < 1000) : (aheadT b j).length ≤ 6 := by
  have : (shN j).length ≤ 3 := shN_len (k := 2) (by omega)
  cases b <;> simp [aheadT]; omega
theorem insLs_lens {met : Nat → Bool} : ∀ (l : List Ins) (j : Nat), j + l.length < 1000 → (∀ i ∈ l, insFine i) → ∀ x ∈ insLs met j l, x.length ≤ 1509
  | [], _, _, _, x, hx => by cases hx
  | i :: l, j, hj, h, x, hx => by
    simp only [List.length_cons] at hj
    rcases List.mem_cons.mp hx with rfl | hx
    · have h1 := ahead_len (b := met j) (j := j) (by omega)
      have h2 := insT_len (h i (.head _))
      rw [List.length_append]; omega
    · exact insLs_lens l (j + 1) (by omega) (fun i hi => h i (.tail _ hi)) x hx
theorem procLs_lens {p : Proc} (h : procOK p) : (∀ x ∈ procLs p, x.length ≤ 1509) ∧ (procLs p).length ≤ 5 := by
  have hw := head_weigh h
  have hj := joinB_len (headW p)
  constructor
  · intro x hx
    unfold procLs at hx
    rcases List.mem_append.mp hx with hx | hx
    · rcases List.mem_cons.mp hx with rfl | hx
      · omega
      · exact insLs_lens p.ins 0 (by have := h.len; omega) h.ins x hx
    · rw [List.mem_singleton.mp hx]
      have : (cs "end").length = 3 := by decide +kernel
      omega
  · unfold procLs
    simp [insLs_len]
    exact h.len
theorem cs_L : cs "L" = [76] := by kernel_rfl
theorem cs_3 : cs "   " = [32, 32, 32] := by kernel_rfl
theorem procedure_lines_spec (G : Gh) (g₀ : Heap) (p : Proc) (v vn : Value) (hv : PrD g₀ p v) (hn : RD g₀ namesD vn) (hok : procOK p) : FSpec G 4 113 [v, vn] g₀ (fun g w => ∃ D, w = .ref D ∧ TL g D (procLs p)) := by
  intro A g mu s Q E u H R k
  refine enter0 (i := fi_procedure_lines) (binds := [("procedure", v), ("names", vn)]) (n := 3) fn_procedure_lines H R (by rfl) (by kernel_rfl) fun L s' W H' => ?_
  show wpAny _ _ (execs (List.cons _ _) _) _ _ _
  have hn := hn.up u
  have hv := hv.up u
  obtain ⟨x, dx, es, kk, rfl, hx, hdx, ⟨w1, a1, b1⟩, ⟨w2, a2, b2⟩, ⟨w3, a3, b3⟩, ⟨w4, a4, b4⟩, ⟨w5, a5, b5⟩, ⟨w6, a6, b6⟩, ⟨w7, a7, b7⟩, ⟨w8, a8, b8⟩⟩ := hv
  have at1 : ∀ (g' : Heap) (u : Up g g') m mu np pos, m (Str.ofString "procedure") = some (.ref x) → PE ⟨G, A.deeper (fi_procedure_lines.env L), fi_procedure_lines.env L, g', m, mu⟩ (.Attribute (.Name "procedure" np) "number" pos) (VI (p.number : Int)) := fun g' u m mu np pos hm =>
    (pe_attr (pe_local (by kernel_rfl) (by exact hm)) (.inr (u _ _ hx)) (.inr (u _ _ hdx)) (by kernel_rfl) a1 (handed_of b1)).mono fun v e => e ▸ b1.toI
  have at2 : ∀ (g' : Heap) (u : Up g g') m mu np pos, m (Str.ofString "procedure") = some (.ref x) → PE ⟨G, A.deeper (fi_procedure_lines.env L), fi_procedure_lines.env L, g', m, mu⟩ (.Attribute (.Name "procedure" np) "title" pos) (VT p.title) := fun g' u m mu np pos hm =>
    (pe_attr (pe_local (by kernel_rfl) (by exact hm)) (.inr (u _ _ hx)) (.inr (u _ _ hdx)) (by kernel_rfl) a2 (handed_of b2)).mono fun v e => e ▸ b2.toT
  have at3 : ∀ (g' : Heap) (u : Up g g') m mu np pos, m (Str.ofString "procedure") = some (.ref x) → PE ⟨G, A.deeper (fi_procedure_lines.env L), fi_procedure_lines.env L, g', m, mu⟩ (.Attribute (.Name "procedure" np) "needed" pos) (VI (p.needed : Int)) := fun g' u m mu np pos hm =>
    (pe_attr (pe_local (by kernel_rfl) (by exact hm)) (.inr (u _ _ hx)) (.inr (u _ _ hdx)) (by kernel_rfl) a3 (handed_of b3)).mono fun v e => e ▸ b3.toI
  have at4 : ∀ (g' : Heap) (u : Up g g') m mu np pos, m (Str.ofString "procedure") = some (.ref x) → PE ⟨G, A.deeper (fi_procedure_lines.env L), fi_procedure_lines.env L, g', m, mu⟩ (.Attribute (.Name "procedure" np) "has_rest" pos) (VE (.bool p.rest)) := fun g' u m mu np pos hm =>
    (pe_attr (pe_local (by kernel_rfl) (by exact hm)) (.inr (u _ _ hx)) (.inr (u _ _ hdx)) (by kernel_rfl) a4 (handed_of b4)).mono fun v e => e.trans b4.toB
  have at5 : ∀ (g' : Heap) (u : Up g g') m mu np pos, m (Str.ofString "procedure") = some (.ref x) → PE ⟨G, A.deeper (fi_procedure_lines.env L), fi_procedure_lines.env L, g', m, mu⟩ (.Attribute (.Name "procedure" np) "is_continuation" pos) (VE (.bool p.cont)) := fun g' u m mu np pos hm =>
    (pe_attr (pe_local (by kernel_rfl) (by exact hm)) (.inr (u _ _ hx)) (.inr (u _ _ hdx)) (by kernel_rfl) a5 (handed_of b5)).mono fun v e => e.trans b5.toB
  have at6 : ∀ (g' : Heap) (u : Up g g') m mu np pos, m (Str.ofString "procedure") = some (.ref x) → PE ⟨G, A.deeper (fi_procedure_lines.env L), fi_procedure_lines.env L, g', m, mu⟩ (.Attribute (.Name "procedure" np) "registers" pos) (VI (p.regs : Int)) := fun g' u m mu np pos hm =>
    (pe_attr (pe_local (by kernel_rfl) (by exact hm)) (.inr (u _ _ hx)) (.inr (u _ _ hdx)) (by kernel_rfl) a6 (handed_of b6)).mono fun v e => e ▸ b6.toI
  have at7 : ∀ (g' : Heap) (u : Up g g') m mu np pos, m (Str.ofString "procedure") = some (.ref x) → PE ⟨G, A.deeper (fi_procedure_lines.env L), fi_procedure_lines.env L, g', m, mu⟩ (.Attribute (.Name "procedure" np) "free" pos) (VI (p.free : Int)) := fun g' u m mu np pos hm =>
    (pe_attr (pe_local (by kernel_rfl) (by exact hm)) (.inr (u _ _ hx)) (.inr (u _ _ hdx)) (by kernel_rfl) a7 (handed_of b7)).mono fun v e => e ▸ b7.toI
  have at8 : ∀ (g' : Heap) (u : Up g g') m mu np pos, m (Str.ofString "procedure") = some (.ref x) → PE ⟨G, A.deeper (fi_procedure_lines.env L), fi_procedure_lines.env L, g', m, mu⟩ (.Attribute (.Name "procedure" np) "instructions" pos) (VE w8) := fun g' u m mu np pos hm =>
    pe_attr (pe_local (by kernel_rfl) (by exact hm)) (.inr (u _ _ hx)) (.inr (u _ _ hdx)) (by kernel_rfl) a8 (handed_of b8)
  -- words
  refine ex_assign_any ((el_list (c := ⟨G, _, _, g, _, mu⟩) (pt_cons (pe_strc (x := "procedure")) (pt_cons (pe_str_int (at1 g Up.rfl _ _ _ _ (by rfl)) hok.num) (pt_cons (pe_strc (x := "needed")) (pt_cons (pe_str_int (at3 g Up.rfl _ _ _ _ (by rfl)) hok.need) pt_nil)))) (by simp)) _ _ _ H' fun D₁ g₁ s₁ u₁ hD₁ H₁ => ?_)
  refine H₁.store (by kernel_rfl) fun s₂ H₂ => ?_
  refine ex_assign_any ((el_add (c := ⟨G, _, _, g₁, _, mu⟩) (el_add (el_local (D := D₁) (by kernel_rfl) (by rfl) hD₁) (fun g₂ u₂ => el_if (pt_bool (at4 g₂ (u₁.trans u₂) _ _ _ _ (by rfl))) (el_list (pt_cons (pe_strc (x := "rest")) pt_nil) (by simp)) (el_list pt_nil (by simp))) (by cases p.rest <;> simp)) (fun g₂ u₂ => el_if (pt_bool (at5 g₂ (u₁.trans u₂) _ _ _ _ (by rfl))) (el_list (pt_cons (pe_strc (x := "continuation")) pt_nil) (by simp)) (el_list pt_nil (by simp))) (by cases p.rest <;> cases p.cont <;> simp)) _ _ _ H₂ fun D₂ g₂ s₃ u₂ hD₂ H₃ => ?_)
  refine H₃.store (by kernel_rfl) fun s₄ H₄ => ?_
  have v12 := u₁.trans u₂
  refine ex_assign_any ((el_add (c := ⟨G, _, _, g₂, _, mu⟩) (el_local (D := D₂) (by kernel_rfl) (by rfl) hD₂) (fun g₃ u₃ => el_list (pt_cons (pe_strc (x := "registers")) (pt_cons (pe_str_int (at6 g₃ (v12.trans u₃) _ _ _ _ (by rfl)) hok.regs) (pt_cons (pe_strc (x := "free")) (pt_cons (pe_str_int (at7 g₃ (v12.trans u₃) _ _ _ _ (by rfl)) hok.free) pt_nil)))) (by simp)) (by cases p.rest <;> cases p.cont <;> simp)) _ _ _ H₄ fun D₃ g₃ s₅ u₃ hD₃ H₅ => ?_)
  refine H₅.store (by kernel_rfl) fun s₆ H₆ => ?_
  have v13 := v12.trans u₃
  have hww := head_weigh hok
  have hwl := joinB_len (headW p)
  -- found
  refine ex_assign_any (ev_list H₆ (pt_cons ((pe_join_el (x := " ") (xs := headW p) (el_add (c := ⟨G, _, _, g₃, _, mu⟩) (el_local (D := D₃) (by kernel_rfl) (by rfl) hD₃) (fun g₄ u₄ => el_list (pt_cons (pe_strc (x := "title")) (pt_cons (pe_str_int (pe_len_str (at2 g₄ (v13.trans u₄) _ _ _ _ (by rfl)) (by have := hok.ti; omega)) (by have := hok.ti; unfold smallN; omega)) (pt_cons (at2 g₄ (v13.trans u₄) _ _ _ _ (by rfl)) pt_nil))) (by simp)) (by cases p.rest <;> cases p.cont <;> simp)) (by omega) (by rw [cs_sp]; decide)).convT (by rw [cs_sp, joinS_blank])) pt_nil) (fun D₄ ws s₇ ht H₇ => ?_) (fun vs ht => by rw [ht.length]; simp))
  refine H₇.store (by kernel_rfl) fun s₈ H₈ => ?_
  refine ex_assign_any (c_fdef (P := P1 (VE w8)) H₈ (pe_glob (by kernel_rfl) rfl (by kernel_rfl)) (by kernel_rfl) (pa_one (at8 g₃ v13 _ _ _ _ (by rfl))) (fun vs ⟨w, e, hw⟩ => by subst e; cases hw; exact labels_met_spec G g₃ p.ins w8 (b8.up v13) (fun i hi => (hok.ins i hi).1) (by have := hok.len; omega)) W (by decide) fun wl s₉ g₄ u₄ hlab H₉ => ?_)
  obtain ⟨nl, hrl, _, hmet, _⟩ := hlab
  refine H₉.store (by kernel_rfl) fun s₁₀ H₁₀ => ?_
  have v14 := v13.trans u₄
  obtain ⟨ai, vi, rfl, hli, hri⟩ := (b8.up v14).toList
  have hvi : vi.length = p.ins.length := by rw [hri.length]; simp
  refine ex_forL (Ei := fun zz zz => False) (fun zz zz q => q.elim) (c_ty (T := "enumerate") (P := P1 (VE (.ref ai))) H₁₀ (by decide +kernel) (by kernel_rfl) (pa_one (at8 g₄ v14 _ _ _ _ (by rfl))) fun vs s₁₁ ⟨w, e, hw⟩ H₁₁ => ?_)
  subst e; cases hw
  obtain ⟨al, vl, rfl, _, _⟩ := hrl.toList
  refine at_enum (elts := [.Name "place" ⟨55, 8, 55, 13⟩, .Name "instruction" ⟨55, 15, 55, 26⟩]) (tk := 0) (tpos := ⟨55, 8, 55, 26⟩) W.h H₁₁ hli fun I ι wr St s₁₂ H₁₂ hw WL st => ?_
  refine ⟨g₄, _, _, ι, wr, I, vi.length, _, St, _, fun j g' m' mu' => An4 (m' (Str.ofString "names") = some vn) (m' (Str.ofString "found") = some (.ref D₄)) (m' (Str.ofString "labels") = some (.ref al)) (Ex2 fun vs kk => mu' = (D₄, lstO vs kk) :: mu ∧ TextsAre vs (joinB (headW p) :: insLs (metB p.ins) 0 (p.ins.take j))), rfl, H₁₂, hw, WL, st, ⟨by rfl, by rfl, by rfl, _, _, rfl, ht⟩, ?_, ?_⟩
  · rintro j g₅ gT m' mu' ι' v s₁₃ hj ⟨T, vals, rfl, hT, t, xi, hxi, rfl⟩ ⟨m1, m2, m3, vs, kk, rfl, ht'⟩ u₅ uT _ _ H₁₃
    obtain ⟨d, hd, hrd⟩ := hri.get hxi
    rw [List.getElem?_map] at hd
    obtain ⟨i, hi, rfl⟩ := Option.map_eq_some_iff.mp hd
    have hfine := hok.ins i (List.mem_of_getElem? hi)
    have hlen3 := hok.len
    have hjl : j < p.ins.length := (List.getElem?_eq_some_iff.mp hi).1
    have u₆ := u₅.trans uT
    have hal := ahead_len (b := metB p.ins j) (j := j) (by omega)
    have hil := insT_len hfine
    refine at_assign2 W.h H₁₃ (IsTuple.up hT H₁₃.up) (by kernel_rfl) (by kernel_rfl) fun s₁₄ H₁₄ => ?_
    refine ex_assign H₁₄ (P := VT (aheadT (metB p.ins j) j)) (pe_ifexp (d := metB p.ins j) (PT.congr (pt_in_nums (n := j) (ns := nl) (a := al) (pe_locI (t := t) (by kernel_rfl) (by rfl)) (pe_local (by kernel_rfl) (by exact m3)) (fun s H => (hrl.up u₆).up H.up)) ?_) (fun h => ?_) (fun h => ?_)) (by kernel_rfl) fun w s₁₅ hw H₁₅ => ?_
    · rw [Bool.eq_iff_iff, decide_eq_true_eq]; exact hmet j
    · refine (pe_joined (jp_cons (pe_strc (x := "L")) (jp_cons (pe_fv_int (n := j) (pe_locI (t := t) (by kernel_rfl) (by rfl)) (by unfold smallN; omega)) (jp_cons (pe_strc (x := " ")) jp_nil))) ?_).convT ?_
      · have : (shN j).length ≤ 3 := shN_len (k := 2) (by omega)
        rw [cs_L, cs_sp]; simp; omega
      · rw [cs_L, cs_sp, h]; simp [aheadT]
    · refine (pe_strc (x := "   ")).convT ?_
      rw [cs_3, h]; simp [aheadT]
    · obtain ⟨tw, rfl⟩ := hw
      refine ex_expr_any (ev_append H₁₅ (pe_local (by kernel_rfl) (by exact m2)) (.head _) rfl rfl fun s₁₆ H₁₆ => pe_run H₁₆ (pe_add_str (a := aheadT (metB p.ins j) j) (b := insT i) (pe_locT (t := tw) (by kernel_rfl) (by rfl)) (pe_fdef (P := P2 (VE xi) (VE vn)) (pe_glob (by kernel_rfl) rfl (by kernel_rfl)) (by kernel_rfl) (pa_two (pe_local (by kernel_rfl) (by rfl)) (pe_local (by kernel_rfl) (by exact m1))) (fun ws ⟨a, b, e, e1, e2⟩ => by subst e; cases e1; cases e2; exact instruction_text_spec G gT i xi vn (hrd.up u₆) (hn.up (v14.trans u₆)) hfine) W (by decide)) (by omega)) fun w s₁₇ hw H₁₇ => ?_)
      have hvl := ht'.length
      simp only [List.length_cons, insLs_len, List.length_take] at hvl
      refine ⟨gT, _, _, vs, kk, by omega, H₁₇, fun s₁₈ H₁₈ => ex_nil ⟨gT, _, (D₄, lstO (vs ++ [w]) (kk + 1)) :: mu, Up.rfl, H₁₈, by exact m1, by exact m2, by exact m3, _, _, rfl, ?_⟩⟩
      rw [take_get hi, insLs_snoc]
      have hz : 0 + (p.ins.take j).length = j := by rw [List.length_take]; omega
      rw [hz]
      exact ht'.snoc hw
  · rintro g₅ m' mu' s₁₃ ⟨m1, m2, m3, vs, kk, rfl, ht'⟩ u₅ H₁₃
    rw [hvi, List.take_length] at ht'
    have hvl := ht'.length
    simp only [List.length_cons, insLs_len] at hvl
    have hlen3 := hok.len
    refine ex_ret_any (wpAny_BinOp (pe_run H₁₃ (pe_local (by kernel_rfl) (by exact m2)) fun w s₁₄ e H₁₄ => ?_))
    cases e
    refine (el_list (c := ⟨G, _, _, g₅, m', (D₄, lstO vs kk) :: mu⟩) (pt_cons (pe_strc (x := "end")) pt_nil) (by simp)) _ _ _ H₁₄ fun D₅ g₆ s₁₅ u₆ ⟨ws, n₅, hD₅, ht₅⟩ H₁₅ => ?_
    have hwl := ht₅.length
    refine at_add_lists H₁₅ ⟨_, H₁₅.get (.head _), rfl, _, rfl⟩ ⟨_, H₁₅.up _ _ hD₅, rfl, _, rfl⟩ (by rw [hwl]; simp; omega) fun D₆ s₁₆ H₁₆ => ?_
    obtain ⟨g₇, u₇, hD₆, H₁₇⟩ := At.freeze (c := ⟨G, _, _, g₆, m', (D₆, lstO (vs ++ ws) 0) :: (D₄, lstO vs kk) :: mu⟩) H₁₆
    exact k _ _ g₇ ((v14.trans u₅).trans (u₆.trans u₇)) ⟨D₆, rfl, _, _, hD₆, ht'.append ht₅⟩ H₁₇.gl.drop
end Mine
end
section
open PySem PySem.W PyProof.Rows PySem.Calls PySem.Builtin PySem.Builtin.Str PySem.NumText
namespace Mine
set_option maxRecDepth 100000

theorem cs_nl10 : cs "\n" = [10] := by kernel_rfl
theorem cs_none : cs "" = [] := by kernel_rfl
theorem codeLs_lens : ∀ {ps : List Proc}, (∀ p ∈ ps, procOK p) → (∀ x ∈ ps.flatMap procLs, x.length ≤ 1509) ∧ (ps.flatMap procLs).length ≤ 5 * ps.length
  | [], _ => by simp
  | p :: ps, h => by
    obtain ⟨h1, h2⟩ := procLs_lens (h p (.head _))
    obtain ⟨h3, h4⟩ := codeLs_lens (ps := ps) fun q hq => h q (.tail _ hq)
    constructor
    · intro x hx
      rw [List.flatMap_cons] at hx
      rcases List.mem_append.mp hx with hx | hx
      · exact h1 x hx
      · exact h3 x hx
    · rw [List.flatMap_cons, List.length_append, List.length_cons]; omega
theorem codeT_weigh {ps : List Proc} (h : ∀ p ∈ ps, procOK p) (hl : ps.length ≤ 2) : weigh ((ps.flatMap procLs).map (· ++ [10])) ≤ 15110 := by
  obtain ⟨h1, h2⟩ := codeLs_lens h
  have h3 := weigh_le (fun x : List Nat => x ++ [10]) 1510 (ps.flatMap procLs) fun x hx => by have := h1 x hx; simp; omega
  have h4 : (ps.flatMap procLs).length * (1510 + 1) ≤ 10 * 1511 := Nat.mul_le_mul_right _ (by omega)
  exact Nat.le_trans h3 h4
theorem codeT_len {ps : List Proc} (h : ∀ p ∈ ps, procOK p) (hl : ps.length ≤ 2) : (codeT ps).length ≤ 15110 := by
  have := joinS_len [] (by simp) ((ps.flatMap procLs).map (· ++ [10]))
  rw [joinS_nil] at this
  exact Nat.le_trans this (codeT_weigh h hl)
theorem code_text_spec (G : Gh) (g₀ : Heap) (ps : List Proc) (v vn : Value) (hv : PrL g₀ ps v) (hn : RD g₀ namesD vn) (hok : ∀ p ∈ ps, procOK p) (hl : ps.length ≤ 2) : FSpec G 5 118 [v, vn] g₀ (fun zz => VT (codeT ps)) := by
  intro A g mu s Q E u H R k
  obtain ⟨D₀, v₀, n₀, rfl, hD₀, hps⟩ := hv
  refine enter0 (i := fi_code_text) (binds := [("procedures", .ref D₀), ("names", vn)]) (n := 4) fn_code_text H R (by rfl) (by kernel_rfl) fun L s' W H' => ?_
  show wpAny _ _ (execs (List.cons _ _) _) _ _ _
  have hn := hn.up u
  have hD₀ := u _ _ hD₀
  have hps := hps.up u
  obtain ⟨hx, hxl⟩ := codeLs_lens hok
  have hwt := codeT_weigh hok hl
  refine ex_assign_any (ev_nil_list H' fun D s₁ H₁ => ?_)
  refine H₁.store (by kernel_rfl) fun s₂ H₂ => ?_
  refine ex_for (Ei := fun zz zz => False) (fun zz zz q => q.elim) (pe_run H₂ (pe_local (by kernel_rfl) (by rfl)) fun w s₃ hw H₃ => ?_)
  cases hw
  refine ⟨g, _, _, v₀.length, _, fun j g' m' mu' => An3 (m' (Str.ofString "names") = some vn) (m' (Str.ofString "lines") = some (.ref D)) (Ex2 fun vs kk => mu' = (D, lstO vs kk) :: mu ∧ TextsAre vs ((ps.take j).flatMap procLs)), H₃, itr_list W.h (⟨_, hD₀, rfl, _, rfl⟩ : g.IsList D₀ v₀.toArray), ⟨by rfl, by rfl, [], 0, rfl, by simpa using TextsAre.nil⟩, ?_, ?_⟩
  · rintro j g₂ m' mu' p w s₄ hj hw ⟨m1, m2, vs, kk, rfl, ht⟩ u₂ H₄
    obtain ⟨q, hq, hqd⟩ := hps.2 j w hw
    have hqok := hok q (List.mem_of_getElem? hq)
    have hjl : j < ps.length := (List.getElem?_eq_some_iff.mp hq).1
    refine wpAny_assign_Name (At.store (c := ⟨G, _, _, g₂, m', _⟩) H₄ (by kernel_rfl) fun s₅ H₅ => ?_)
    refine ex_expr_any (ev_extend H₅ (pe_local (by kernel_rfl) (by exact m2)) (.head _) rfl rfl fun s₆ H₆ => c_fdef (P := P2 (VE w) (VE vn)) H₆ (pe_glob (by kernel_rfl) rfl (by kernel_rfl)) (by kernel_rfl) (pa_two (pe_local (by kernel_rfl) (by rfl)) (pe_local (by kernel_rfl) (by exact m1))) (fun ws ⟨a, b, e, e1, e2⟩ => by subst e; cases e1; cases e2; exact procedure_lines_spec G g₂ q w vn (hqd.up u₂) (hn.up u₂) hqok) W (by decide) fun b s₇ g₃ u₃ hV H₇ => ?_)
    obtain ⟨D₂, hb, ws, n₂, hD₂, ht₂⟩ := hV
    subst hb
    have hl1 := ht.length
    have hl2 := ht₂.length
    have hl3 := (codeLs_lens (ps := ps.take j) fun q hq => hok q (List.mem_of_mem_take hq)).2
    rw [List.length_take] at hl3
    have hl4 := (procLs_lens hqok).2
    refine ⟨D₂, g₃, _, _, vs, kk, ws, rfl, by omega, H₇, ⟨n₂, H₇.up _ _ hD₂⟩, fun n' s₈ H₈ => ex_nil ⟨g₃, _, (D, lstO (vs ++ ws) n') :: mu, u₃, H₈, by exact m1, by exact m2, _, _, rfl, ?_⟩⟩
    rw [take_get hq, List.flatMap_append]
    simpa using ht.append ht₂
  · rintro g₂ m' mu' s₄ ⟨m1, m2, vs, kk, rfl, ht⟩ u₂ H₄
    rw [hps.1, List.take_length] at ht
    obtain ⟨g₃, u₃, hD, H₅⟩ := At.freeze (c := ⟨G, _, _, g₂, m', (D, lstO vs kk) :: mu⟩) H₄
    have hvl := ht.length
    have e0 : (cs "").length = 0 := by rw [cs_none]; rfl
    refine ex_ret H₅ (pe_join_texts (x := "") (xs := (ps.flatMap procLs).map (· ++ [10])) (cl := []) (by rfl) (.refl _) (by kernel_rfl) (by rw [List.length_map]; omega) (fun s H => ?_) (by omega) (by omega)) fun w s₅ hw H₆ => k w s₅ g₃ (u₂.trans u₃) ?_ H₆.gl
    · refine pe_run H (pe_local (by kernel_rfl) (by exact m2)) fun w s₂ e H₂ => ?_
      cases e
      refine ⟨g₃, _, Up.rfl, H₂, itr_cast (itr_list W.h (⟨_, hD, rfl, _, rfl⟩ : g₃.IsList D vs.toArray)) (by rw [hvl, List.length_map]), ?_⟩
      intro i C mc ψ w s x hx' hw hm H
      rw [List.getElem?_map] at hx'
      obtain ⟨y, hy, rfl⟩ := Option.map_eq_some_iff.mp hx'
      obtain ⟨y', hy', t, rfl⟩ := ht.get hw
      cases hy.symm.trans hy'
      refine wpAny_assign_Name (At.store (c := ⟨G, _, _, g₃, mc, _⟩) H (by kernel_rfl) fun s₃ H₃ => ⟨_, free_put (by kernel_rfl), H₃, ?_⟩)
      refine (pe_add_str (pe_locT (t := t) (by kernel_rfl) (by rfl)) (pe_strc (x := "\n")) ?_).convT (by rw [cs_nl10])
      have := hx y (List.mem_of_getElem? hy)
      rw [cs_nl10]; simp; omega
    · rw [cs_none, joinS_nil] at hw; exact hw
end Mine
end
section
open PySem PySem.W PyProof.Rows PySem.Calls PySem.Builtin PySem.Builtin.Str PySem.NumText
namespace Mine
set_option maxRecDepth 100000

noncomputable def Pot (g : Heap) (o : Obj) : Prop := Ex7 fun l vs ns i ti sd ts => An6 (LstIs o [.ref l, .int ((i : Nat) : Int) ti, .int sd ts]) (g.IsList l vs.toArray) (IntsAre vs ns) (vs.length ≤ 63) (0 ≤ sd) (sd < 65537)
theorem Pot.up {g g' : Heap} {o : Obj} (h : Pot g o) (u : Up g g') : Pot g' o := let ⟨l, vs, ns, i, ti, sd, ts, a, b, c, d, e, f⟩ := h; ⟨l, vs, ns, i, ti, sd, ts, a, IsList.up b u, c, d, e, f⟩
noncomputable def GSpec (G : Gh) (n : Nat) (f Pt : Addr) (args : List Value) (g₀ : Heap) (V : Heap → Value → Prop) : Prop :=
  ∀ A g o ρ s Q E, Up g₀ g → Gl G g ((Pt, o) :: ρ) s → Pot g o → Rm A n → (∀ v s' g' o', Up g g' → V g' v → Pot g' o' → Gl G g' ((Pt, o') :: ρ) s' → Q v s') → wpAny G.M A (call (.ref f) args) Q E s
section
variable {G : Gh} {A : Around} {env : Env} {g : Heap} {m : Str → Option Value} {ρ : List (Addr × Obj)} {s : Shared} {Q : Value → Shared → Prop} {E : Value → Shared → Prop} {np pos : Pos} {nm : Str} {e : PySem.Expr} {es : List PySem.Expr} {n k : Nat} {f Pt : Addr} {o : Obj} {V : Heap → Value → Prop}
theorem g_at {vs : List Value} (sp : GSpec G k f Pt vs g V) (H : At ⟨G, A, env, g, m, (Pt, o) :: ρ⟩ s) (hp : Pot g o) (R : Rm A n) (hk : k ≤ n)
    (kk : ∀ v s' g' o', Up g g' → V g' v → Pot g' o' → At ⟨G, A, env, g', m, (Pt, o') :: ρ⟩ s' → Q v s') : wpAny G.M A (call (.ref f) vs) Q E s := by
  obtain ⟨oL, co, l, kc, gl⟩ := H
  refine sp A g o ((env.locals, oL) :: (co ++ ρ)) s Q E Up.rfl (gl.perm ?_) hp (R.less hk) fun v s' g' o' u hv hp' gl' => kk v s' g' o' u hv hp' ⟨oL, co, l, kc, gl'.perm ?_⟩
  · exact perm_front ..
  · exact (perm_front ..).symm
theorem g_def {P : List Value → Prop} (H : At ⟨G, A, env, g, m, (Pt, o) :: ρ⟩ s) (hp : Pot g o) (hf : PE ⟨G, A, env, g, m, (Pt, o) :: ρ⟩ (.Name nm np) (VE (.ref f))) (hi : fnIs (KF G.w.params) f = true) (ha : PA ⟨G, A, env, g, m, (Pt, o) :: ρ⟩ (e :: es) P)
    (sp : ∀ vs, P vs → GSpec G k f Pt vs g V) (R : Rm A n) (hk : k ≤ n)
    (kk : ∀ v s' g' o', Up g g' → V g' v → Pot g' o' → At ⟨G, A, env, g', m, (Pt, o') :: ρ⟩ s' → Q v s')
    (he : starEach (e :: es) env = (false, eval e env) :: starEach es env := by rfl)
    (hc : eval (.Call (.Name nm np) (e :: es) [] pos) env = (do let f ← eval (.Name nm np) env; callWith pos f [] (backTo pos (starEach (e :: es) env)) (backToKw pos (keywordEach [] env))) := by rfl) :
    wpAny G.M A (eval (.Call (.Name nm np) (e :: es) [] pos) env) Q E s :=
  c_def H hf hi ha (fun vs s' pv H' => g_at (sp vs pv) H' hp R hk kk) he hc
end
noncomputable def DipV (k : Nat) (_ : Heap) (v : Value) : Prop := ∃ n : Nat, n < k ∧ VI (n : Int) v
theorem mod_nat (a : Int) {k : Nat} (h : 0 < k) : ∃ n : Nat, n < k ∧ a % (k : Int) = (n : Int) :=
  ⟨(a % (k : Int)).toNat, by have := Int.emod_lt_of_pos a (show (0 : Int) < k by omega); have := Int.emod_nonneg a (show (k : Int) ≠ 0 by omega); omega, by have := Int.emod_nonneg a (show (k : Int) ≠ 0 by omega); omega⟩
theorem ints_get {vs : List Value} {ns : List Int} (h : IntsAre vs ns) {i : Nat} {v : Value} (hv : vs[i]? = some v) : ∃ n, VI n v := by
  induction h generalizing i with
  | nil => (first | subst hv | cases hv)
  | cons n t r ih =>
    cases i with
    | zero => (first | subst hv | cases hv); exact ⟨n, t, rfl⟩
    | succ i => exact ih (by simpa using hv)
theorem fn_law_dip (P : Params) : FnOK P fi_law_dip := ⟨by kernel_rfl, by kernel_rfl, by kernel_rfl⟩
theorem law_dip_spec (G : Gh) (g₀ : Heap) (Pt : Addr) (k : Nat) (vk : Value) (hk : 0 < k) (hv : VI (k : Int) vk) : GSpec G 1 294 Pt [.ref Pt, vk] g₀ (DipV k) := by
  intro A g o ρ s Q E u H hp R kk
  obtain ⟨tk, rfl⟩ := hv
  obtain ⟨l, vs, ns, i, ti, sd, ts, ho, hl, hi, hz, h0, h1⟩ := hp
  refine enter0 (i := fi_law_dip) (binds := [("pot", .ref Pt), ("many", .int k tk)]) (n := 0) fn_law_dip H R (by rfl) (by kernel_rfl) fun L s' W H' => ?_
  show wpAny _ _ (execs (List.cons _ _) _) _ _ _
  refine ex_assign H' (pe_item_lst (j := 1) (pe_local (by kernel_rfl) (by rfl)) pe_int (fun s H => ho.at (H.get (.head _))) rfl (by simp)) (by kernel_rfl) fun v s₁ hv H₁ => ?_
  (first | subst hv | cases hv)
  refine ex_assign_sub (pe_run H₁ (pe_add_int (pe_locI (t := ti) (by kernel_rfl) (by rfl)) pe_int) fun v s₂ hv H₂ => ?_)
  obtain ⟨t1, rfl⟩ := hv
  refine pe_run H₂ (pe_local (by kernel_rfl) (by rfl)) fun v s₃ hv H₃ => ?_
  (first | subst hv | cases hv)
  refine pe_run H₃ (pe_int (i := 1)) fun v s₄ ⟨t2, e2⟩ H₄ => ?_
  subst e2
  refine at_list_set (j := 1) H₄ ho (by simp) (by simp) fun o₁ s₅ ho₁ H₅ => ?_
  have hp₁ : LstIs o₁ [.ref l, .int ((i + 1 : Nat) : Int) t1, .int sd ts] := ho₁
  refine ex_if H₅ (d := decide ((i : Int) < vs.length)) (pt_lt (pe_locI (t := ti) (by kernel_rfl) (by rfl)) (pe_len_list (a := l) (vs := vs) (pe_item_lst (j := 0) (pe_local (by kernel_rfl) (by rfl)) pe_int (fun s H => hp₁.at (H.get (.head _))) rfl (by simp)) (fun s H => IsList.up hl H.up) (by omega))) ?_ ?_
  · intro h s₆ H₆
    simp only [decide_eq_true_eq] at h
    obtain ⟨x, hx⟩ : ∃ x, vs[i]? = some x := ⟨_, List.getElem?_eq_getElem (by omega)⟩
    obtain ⟨n, hn⟩ := ints_get hi hx
    obtain ⟨q, hq, hqe⟩ := mod_nat n hk
    refine ex_ret H₆ (pe_mod_int (b := (k : Int)) ((pe_item_lst (j := i) (pe_item_lst (j := 0) (pe_local (by kernel_rfl) (by rfl)) pe_int (fun s H => hp₁.at (H.get (.head _))) rfl (by simp)) (pe_locI (t := ti) (by kernel_rfl) (by rfl)) (fun s H => IsList.up hl H.up) hx (by omega)).mono fun v e => (show VI n v from e ▸ hn)) (pe_locI (t := tk) (by kernel_rfl) (by rfl)) (by omega)) fun v s₇ hv H₇ => ?_
    exact kk v s₇ g o₁ Up.rfl ⟨q, hq, hqe ▸ hv⟩ ⟨l, vs, ns, i + 1, t1, sd, ts, hp₁, hl, hi, hz, h0, h1⟩ H₇.gl
  · intro h s₆ H₆
    refine ex_assign_sub (pe_run H₆ (pe_mod_int (b := 65537) (pe_add_int (b := 74) (pe_mul_int (a := sd) (b := 75) ((pe_item_lst (j := 2) (pe_local (by kernel_rfl) (by rfl)) pe_int (fun s H => hp₁.at (H.get (.head _))) rfl (by simp)).mono fun v e => ⟨ts, e⟩) pe_int h0 (by omega)) pe_int) pe_int (by decide)) fun v s₇ hv H₇ => ?_)
    obtain ⟨t3, rfl⟩ := hv
    refine pe_run H₇ (pe_local (by kernel_rfl) (by rfl)) fun v s₈ hv H₈ => ?_
    (first | subst hv | cases hv)
    refine pe_run H₈ (pe_int (i := 2)) fun v s₉ ⟨t4, e4⟩ H₉ => ?_
    subst e4
    refine at_list_set (j := 2) H₉ hp₁ (by simp) (by simp) fun o₂ s₁₀ ho₂ H₁₀ => ?_
    have hp₂ : LstIs o₂ [.ref l, .int ((i + 1 : Nat) : Int) t1, .int ((sd * 75 + 74) % 65537) t3] := ho₂
    obtain ⟨q, hq, hqe⟩ := mod_nat ((sd * 75 + 74) % 65537) hk
    refine ex_ret H₁₀ (pe_mod_int (b := (k : Int)) ((pe_item_lst (j := 2) (pe_local (by kernel_rfl) (by rfl)) pe_int (fun s H => hp₂.at (H.get (.head _))) rfl (by simp)).mono fun v e => (show VI ((sd * 75 + 74) % 65537) v from ⟨t3, e⟩)) (pe_locI (t := tk) (by kernel_rfl) (by rfl)) (by omega)) fun v s₁₁ hv H₁₁ => ?_
    exact kk v s₁₁ g o₂ Up.rfl ⟨q, hq, hqe ▸ hv⟩ ⟨l, vs, ns, i + 1, t1, _, t3, hp₂, hl, hi, hz, by omega, by omega⟩ H₁₁.gl
end Mine
end
section
open PySem PySem.W PyProof.Rows PySem.Calls PySem.Builtin PySem.Builtin.Str PySem.NumText
namespace Mine
set_option maxRecDepth 100000

section
variable {c : Cx} {pos np : Pos} {e : PySem.Expr} {n : Nat}
theorem pe_chr (he : PE c e (VI (n : Int))) (hz : n < 1000) (h : bootName c.env.scope (KF c.G.w.params) "chr" = true := by kernel_rfl) (hg : c.env.globals = mainGlobals := by rfl) (hb : c.env.builtins = builtinsNs := by rfl)
    (hs : starEach [e] c.env = (false, eval e c.env) :: starEach [] c.env := by rfl)
    (hc : eval (.Call (.Name "chr" np) [e] [] pos) c.env = (do let f ← eval (.Name "chr" np) c.env; callWith pos f [] (backTo pos (starEach [e] c.env)) (backToKw pos (keywordEach [] c.env))) := by rfl) :
    PE c (.Call (.Name "chr" np) [e] [] pos) (VT [n]) := fun s Q E H k =>
  c_bi (id := "chr") (G := c.G) (A := c.A) (env := c.env) (g := c.g) (m := c.m) (mu := c.mu) H boot_chr h (pa_one (c := c) he hs) (fun vs s₁ ⟨v, e1, t, e2⟩ H₁ => by
    subst e1; subst e2
    refine chr_of_range (by omega) (by omega) (k _ _ ⟨s₁.toks, ?_⟩ (At.toks (c := c) H₁ _))
    rw [Int.toNat_natCast]) hg hb hs rfl hc
end
section
variable {c : Cx}
theorem pt_const {k : Const} {n : Nat} {p : Pos} {r : List PySem.Expr} {x : List Nat} {xs : List (List Nat)} (he : PE c (.Constant k n p) (VT x)) (hr : PA c r (fun vs => TextsAre vs xs)) : PA c (.Constant k n p :: r) (fun vs => TextsAre vs (x :: xs)) := pt_cons he hr rfl
theorem pt_call {f : PySem.Expr} {as : List PySem.Expr} {ks : List Keyword} {p : Pos} {r : List PySem.Expr} {x : List Nat} {xs : List (List Nat)} (he : PE c (.Call f as ks p) (VT x)) (hr : PA c r (fun vs => TextsAre vs xs)) : PA c (.Call f as ks p :: r) (fun vs => TextsAre vs (x :: xs)) := pt_cons he hr rfl
end
theorem TL.rd {g : Heap} {D : Addr} {xs : List (List Nat)} (h : TL g D xs) : RD g (.list (xs.map fun w => PyData.str (S w))) (.ref D) := by
  obtain ⟨vs, n, hD, ht⟩ := h
  refine RD.list hD (RDs.of_get (by simp [ht.length]) fun i v d hv hd => ?_)
  obtain ⟨x, hx, hxv⟩ := ht.get hv
  rw [List.getElem?_map, hx] at hd
  cases hd
  exact RD.ofT hxv
theorem fn_law_names (P : Params) : FnOK P fi_law_names := ⟨by kernel_rfl, by kernel_rfl, by kernel_rfl⟩
theorem fn_law_text (P : Params) : FnOK P fi_law_text := ⟨by kernel_rfl, by kernel_rfl, by kernel_rfl⟩
theorem fn_law_some (P : Params) : FnOK P fi_law_some := ⟨by kernel_rfl, by kernel_rfl, by kernel_rfl⟩
theorem law_names_spec (G : Gh) (g₀ : Heap) : FSpec G 1 301 [] g₀ (fun g v => RD g namesD v) := by
  intro A g mu s Q E u H R k
  refine enter0 (i := fi_law_names) (binds := []) (n := 0) fn_law_names H R (by rfl) (by kernel_rfl) fun L s' W H' => ?_
  show wpAny _ _ (execs (List.cons _ _) _) _ _ _
  refine ex_ret_any ((el_list (c := ⟨G, _, _, g, _, mu⟩) (xs := primNames) (pt_const (pe_strc (x := "car")) (pt_const (pe_strc (x := "cons")) (pt_const (pe_strc (x := "list->vector")) (pt_const (pe_strc (x := "+")) (pt_const (pe_strc (x := "string-append")) (pt_const (pe_strc (x := "null?")) pt_nil)))))) (by simp [prim_names])) _ _ _ H' fun D g' s₁ u₁ hD H₁ => ?_)
  exact k _ _ g' u₁ hD.rd H₁.gl
noncomputable def signs : List Nat := [97, 98, 32, 40, 41, 76, 120, 10, 34, 92, 55]
noncomputable def TitleOK (t : List Nat) : Prop := t.length ≤ 3 ∧ ∀ c ∈ t, c ∈ signs
set_option maxHeartbeats 2000000 in
theorem law_text_spec (G : Gh) (g₀ : Heap) (Pt : Addr) : GSpec G 2 306 Pt [.ref Pt] g₀ (fun zz v => ∃ t, TitleOK t ∧ VT t v) := by
  intro A g o ρ s Q E u H hp R kk
  refine enter0 (i := fi_law_text) (binds := [("pot", .ref Pt)]) (n := 1) fn_law_text H R (by rfl) (by kernel_rfl) fun L s' W H' => ?_
  show wpAny _ _ (execs (List.cons _ _) _) _ _ _
  have e0 : (cs "").length ≤ 16 := by rw [cs_none]; decide
  refine ex_assign_any (el_run H' (xs := [[97], [98], [32], [40], [41], [76], [120], [10], [34], [92], [55]]) (el_list (pt_const ((pe_strc (x := "a")).convT (by kernel_rfl)) (pt_const ((pe_strc (x := "b")).convT (by kernel_rfl)) (pt_const ((pe_strc (x := " ")).convT (by kernel_rfl)) (pt_const ((pe_strc (x := "(")).convT (by kernel_rfl)) (pt_const ((pe_strc (x := ")")).convT (by kernel_rfl)) (pt_const ((pe_strc (x := "L")).convT (by kernel_rfl)) (pt_const ((pe_strc (x := "x")).convT (by kernel_rfl)) (pt_call (pe_chr (n := 10) pe_int (by decide)) (pt_call (pe_chr (n := 34) pe_int (by decide)) (pt_call (pe_chr (n := 92) pe_int (by decide)) (pt_const ((pe_strc (x := "7")).convT (by kernel_rfl)) pt_nil))))))))))) (by decide)) fun D g₁ s₁ u₁ hD H₁ => ?_) (by kernel_rfl)
  obtain ⟨vs, nn, hDl, hts⟩ := hD
  have hts : TextsAre vs (signs.map fun c => [c]) := hts
  have hvl : vs.length = 11 := by rw [hts.length]; rfl
  refine H₁.store (by kernel_rfl) fun s₂ H₂ => ?_
  refine ex_ret_any (ev_join (x := "") (fun s₃ H₃ => ?_) H₂ e0)
  refine ev_comp (cl := [("signs", L + 2), ("pot", L + 1)]) (by rfl) (by first | exact .refl _ | exact .swap ..) (by kernel_rfl) (c_ty_any (T := "range") H₃ (by decide +kernel) (by kernel_rfl) fun s₄ H₄ => sp_cons (g_def (P := P2 (VE (.ref Pt)) (VI ((4 : Nat) : Int))) H₄ (hp.up u₁) (pe_glob (by kernel_rfl) rfl (by kernel_rfl)) (by kernel_rfl) (pa_two (pe_local (by kernel_rfl) (by rfl)) pe_int) (fun vs ⟨a, b, e, e1, e2⟩ => by subst e; (first | subst e1 | cases e1); exact law_dip_spec G g₁ Pt 4 b (by decide) e2) W (by decide) fun v s₅ g₂ o₂ u₂ hV hp₂ H₅ => sp_nil ?_))
  obtain ⟨N, hN, t, hv⟩ := hV
  subst hv
  refine at_range W.h H₅ (by omega) fun v g₃ s₆ u₃ hit H₆ => ?_
  refine ⟨g₃, _, _, N, _, fun i g mu ys => An3 (i ≤ N) (Up g₃ g) (Ex2 fun o t => An5 (mu = (Pt, o) :: ρ) (Pot g o) (t.length = i) ((∀ c ∈ t, c ∈ signs)) (TextsAre ys (t.map fun c => [c]))), H₆, hit, by rw [sizeLine_eq]; omega, ⟨Nat.zero_le _, Up.rfl, o₂, [], rfl, hp₂.up u₃, rfl, by simp, TextsAre.nil⟩, ?_, ?_, ?_⟩
  · rintro i C g₄ mc mu ψ w ys s₇ hi hw ⟨_, u₄, o₄, t, rfl, hp₄, ht, htc, hy⟩ _ hm H₇
    have m1 : mc (Str.ofString "pot") = some (.ref Pt) := (hm _ (by kernel_rfl)).trans (by rfl)
    have m2 : mc (Str.ofString "signs") = some (.ref D) := (hm _ (by kernel_rfl)).trans (by rfl)
    refine wpAny_assign_Name (At.store (c := ⟨G, _, _, g₄, mc, _⟩) H₇ (by kernel_rfl) fun s₈ H₈ => tests_yes ?_)
    refine sub_on (c := ⟨G, _, compEnvC _ _ C _, g₄, _, _⟩) (pe_run H₈ (pe_local (by kernel_rfl) (by exact m2)) fun w s₉ e H₉ => ?_)
    (first | subst e | cases e)
    refine g_def (ρ := ρ ++ ψ) (P := P2 (VE (.ref Pt)) (VI ((11 : Nat) : Int))) H₉ hp₄ (pe_glob (by kernel_rfl) rfl (by kernel_rfl)) (by kernel_rfl) (pa_two (pe_local (by kernel_rfl) (by exact m1)) pe_int) (fun vs ⟨a, b, e, e1, e2⟩ => by subst e; (first | subst e1 | cases e1); exact law_dip_spec G g₄ Pt 11 b (by decide) e2) W (by decide) fun v s₁₀ g₅ o₅ u₅ hV hp₅ H₁₀ => ?_
    obtain ⟨j, hj, tj, hv⟩ := hV
    subst hv
    obtain ⟨x, hx⟩ : ∃ x, vs[j]? = some x := ⟨_, List.getElem?_eq_getElem (by omega)⟩
    obtain ⟨c, hc, hcv⟩ := hts.get hx
    rw [List.getElem?_map] at hc
    obtain ⟨cc, hcc, rfl⟩ := Option.map_eq_some_iff.mp hc
    have hDl' : s₁₀.heap.IsList D vs.toArray := ⟨_, H₁₀.up _ _ (u₅ _ _ (u₄ _ _ (u₃ _ _ (u₂ _ _ hDl)))), rfl, _, rfl⟩
    refine ⟨"list", _, PySem.F.slot_list_getitem.lookup, hDl'.typeIs, wpAny_getItem_list hDl' (by omega) (by omega) (by simpa using hx) ?_⟩
    refine ⟨g₅, _, (Pt, o₅) :: ρ, u₅, H₁₀, free_put (by kernel_rfl), hi, u₄.trans u₅, o₅, t ++ [cc], rfl, hp₅, by simp [ht], fun c hc => ?_, ?_⟩
    · rcases List.mem_append.mp hc with hc | hc
      · exact htc c hc
      · rw [List.mem_singleton.mp hc]; exact List.mem_of_getElem? hcc
    · rw [List.map_append]; exact hy.snoc hcv
  · rintro i g₄ mu ys ⟨_, _, o₄, t, _, _, ht, _, hy⟩ _
    rw [hy.length, List.length_map]; omega
  · rintro D' g₄ mu ys k₄ s₇ ⟨_, u₄, o₄, t, rfl, hp₄, ht, htc, hy⟩ _ H₇
    have hwt := weigh_le (fun c : Nat => [c]) 1 t fun c zz => Nat.le_refl _
    refine ⟨D', ys, _, rfl, ⟨_, H₇.get (.head _), rfl, _, rfl⟩, hy, by omega, fun w tk hw => ?_⟩
    rw [cs_none, joinS_nil] at hw
    have : (t.map fun c => [c]).flatten = t := by
      clear hw hwt hy htc ht
      induction t with
      | nil => rfl
      | cons a t ih => simp [ih]
    rw [this] at hw
    exact kk w _ g₄ o₄ (((u₁.trans u₂).trans u₃).trans u₄) ⟨t, ⟨by omega, htc⟩, hw⟩ hp₄ (At.toks H₇ tk).gl.drop
end Mine
end
section
open PySem PySem.W PyProof.Rows PySem.Calls PySem.Builtin PySem.Builtin.Str PySem.NumText
namespace Mine
set_option maxRecDepth 100000

section
variable {G : Gh} {A : Around} {env : Env} {g : Heap} {m : Str → Option Value} {mu : List (Addr × Obj)} {s : Shared} {Q : Value → Shared → Prop} {E : Value → Shared → Prop} {pos : Pos} {e : PySem.Expr} {es : List PySem.Expr}
theorem sp_pe {Q : List Value → Shared → Prop} {P : Value → Prop} (H : At ⟨G, A, env, g, m, mu⟩ s) (he : PE ⟨G, A, env, g, m, mu⟩ e P)
    (k : ∀ v s', P v → At ⟨G, A, env, g, m, mu⟩ s' → SpK G A env pos es Q E v s')
    (hs : starEach (e :: es) env = (false, eval e env) :: starEach es env := by rfl) : wpAny G.M A (spliced (backTo pos (starEach (e :: es) env))) Q E s := sp_cons (pe_run H he k) hs
theorem at_tuple_list {D : Addr} {vs : List Value} (H : At ⟨G, A, env, g, m, mu⟩ s) (hD : s.heap.IsList D vs.toArray) (hz : vs.length ≤ 1000)
    (k : ∀ T g' s', Up g g' → g'.get? T = some (tupO vs 0) → At ⟨G, A, env, g', m, mu⟩ s' → Q (.ref T) s') : wpAny G.M A (call (.type "tuple") [.ref D]) Q E s := by
  refine call_tuple_list (items := vs.toArray) hD (fun h' hk => ?_) (by simp; rw [sizeLine_eq]; omega)
  obtain ⟨g', u, hg', H'⟩ := At.grows (c := ⟨G, A, env, g, m, mu⟩) (h' := h'.push (tupO vs 0)) H (fun b o e => Heap.get?_push_of_some _ (hk b o e)) s.toks
  refine k _ g' _ u (hg' _ _ (Heap.get?_push_size _ rfl) ?_) H'
  cases q : s.heap.get? h'.objs.size with
  | none => rfl
  | some o => exact absurd (Heap.lt_size (hk _ _ q)) (Nat.lt_irrefl _)
end
noncomputable def SomeV (N : Nat) (g : Heap) (v : Value) : Prop := ∃ l : List Nat, An3 (l.length = N) ((∀ n ∈ l, n < 9)) (RD g (regsD l) v)
theorem law_some_spec (G : Gh) (g₀ : Heap) (Pt : Addr) (N : Nat) (vc : Value) (hN : N ≤ 100) (hv : VI (N : Int) vc) : GSpec G 2 311 Pt [.ref Pt, vc] g₀ (SomeV N) := by
  intro A g o ρ s Q E u H hp R kk
  obtain ⟨tc, rfl⟩ := hv
  refine enter0 (i := fi_law_some) (binds := [("pot", .ref Pt), ("count", .int N tc)]) (n := 1) fn_law_some H R (by rfl) (by kernel_rfl) fun L s' W H' => ?_
  show wpAny _ _ (execs (List.cons _ _) _) _ _ _
  refine ex_ret_any (c_ty_any (T := "tuple") H' (by decide +kernel) (by kernel_rfl) fun s₁ H₁ => sp_cons ?_)
  refine ev_comp (cl := [("pot", L + 1)]) (by rfl) (.refl _) (by kernel_rfl) (c_ty (T := "range") (P := P1 (VE (.int N tc))) H₁ (by decide +kernel) (by kernel_rfl) (pa_one (pe_local (by kernel_rfl) (by rfl))) fun vs s₂ ⟨v, e1, e2⟩ H₂ => ?_)
  subst e1; (first | subst e2 | cases e2)
  refine at_range W.h H₂ (by omega) fun v g₃ s₆ u₃ hit H₆ => ?_
  refine ⟨g₃, _, _, N, _, fun i g mu ys => An3 (i ≤ N) (Up g₃ g) (Ex2 fun o t => An5 (mu = (Pt, o) :: ρ) (Pot g o) (t.length = i) ((∀ n ∈ t, n < 9)) (RDs g (numsD t) ys)), H₆, hit, by rw [sizeLine_eq]; omega, ⟨Nat.zero_le _, Up.rfl, o, [], rfl, hp.up u₃, rfl, by simp, RDs.nil⟩, ?_, ?_, ?_⟩
  · rintro i C g₄ mc mu ψ w ys s₇ hi hw ⟨_, u₄, o₄, t, rfl, hp₄, ht, htc, hy⟩ _ hm H₇
    have m1 : mc (Str.ofString "pot") = some (.ref Pt) := (hm _ (by kernel_rfl)).trans (by rfl)
    refine wpAny_assign_Name (At.store (c := ⟨G, _, _, g₄, mc, _⟩) H₇ (by kernel_rfl) fun s₈ H₈ => tests_yes ?_)
    refine g_def (ρ := ρ ++ ψ) (P := P2 (VE (.ref Pt)) (VI ((9 : Nat) : Int))) H₈ hp₄ (pe_glob (by kernel_rfl) rfl (by kernel_rfl)) (by kernel_rfl) (pa_two (pe_local (by kernel_rfl) (by exact m1)) pe_int) (fun vs ⟨a, b, e, e1, e2⟩ => by subst e; (first | subst e1 | cases e1); exact law_dip_spec G g₄ Pt 9 b (by decide) e2) W (by decide) fun v s₁₀ g₅ o₅ u₅ hV hp₅ H₁₀ => ?_
    obtain ⟨j, hj, hv⟩ := hV
    refine ⟨g₅, _, (Pt, o₅) :: ρ, u₅, H₁₀, free_put (by kernel_rfl), hi, u₄.trans u₅, o₅, t ++ [j], rfl, hp₅, by simp [ht], fun c hc => ?_, ?_⟩
    · rcases List.mem_append.mp hc with hc | hc
      · exact htc c hc
      · rw [List.mem_singleton.mp hc]; exact hj
    · unfold numsD; rw [List.map_append]; exact (hy.up u₅).snoc (RD.ofI hv)
  · rintro i g₄ mu ys ⟨_, _, o₄, t, _, _, ht, _, hy⟩ _
    rw [hy.length, numsD, List.length_map]; omega
  · rintro D' g₄ mu ys k₄ s₇ ⟨_, u₄, o₄, t, rfl, hp₄, ht, htc, hy⟩ _ H₇
    refine sp_nil (at_tuple_list H₇ ⟨_, H₇.get (.head _), rfl, _, rfl⟩ (by rw [hy.length, numsD, List.length_map]; omega) fun T g₅ s₈ u₅ hT H₈ => ?_)
    exact kk _ _ g₅ o₄ ((u₃.trans u₄).trans u₅) ⟨t, ht, htc, RD.tuple hT (hy.up u₅)⟩ (hp₄.up u₅) H₈.gl.drop
end Mine
end
section
open PySem PySem.W PyProof.Rows PySem.Calls PySem.Builtin PySem.Builtin.Str PySem.NumText
namespace Mine
set_option maxRecDepth 100000

section
variable {G : Gh} {A : Around} {env : Env} {g : Heap} {m : Str → Option Value} {ρ : List (Addr × Obj)} {s : Shared} {Q : Value → Shared → Prop} {E : Value → Shared → Prop} {np pp pos : Pos} {e : PySem.Expr} {Pt : Addr} {o : Obj} {n : Nat}
theorem sub_any {value slice : PySem.Expr} {Q E : Value → Shared → Prop}
    (h : wpAny G.M A (eval value env) (fun o s₁ => wpAny G.M A (eval slice env) (fun i s₂ => ItemOn G.M A E o i Q s₂) E s₁) E s) : wpAny G.M A (eval (.Subscript value slice pos) env) Q E s :=
  sub_on (c := ⟨G, A, env, nought, fun zz => none, []⟩) h
theorem g_some (H : At ⟨G, A, env, g, m, (Pt, o) :: ρ⟩ s) (hf : ∀ g mu np, PE ⟨G, A, env, g, m, mu⟩ (.Name "_law_some" np) (VE (.ref 311))) (hpot : ∀ g mu np, PE ⟨G, A, env, g, m, mu⟩ (.Name "pot" np) (VE (.ref Pt)))
    (hc : ∀ s', At ⟨G, A, env, g, m, (Pt, o) :: ρ⟩ s' → wpAny G.M A (eval e env) (fun v s₁ => Ex3 fun (N : Nat) (g' : Heap) (o' : Obj) => An5 (N ≤ 4) (VI (N : Int) v) (Up g g') (Pot g' o') (At ⟨G, A, env, g', m, (Pt, o') :: ρ⟩ s₁)) (fun zz zz => False) s') (R : Rm A n) (hn : 2 ≤ n)
    (k : ∀ v s' g' o' N, Up g g' → N ≤ 4 → SomeV N g' v → Pot g' o' → At ⟨G, A, env, g', m, (Pt, o') :: ρ⟩ s' → Q v s')
    (h1 : starEach [.Name "pot" pp, e] env = (false, eval (.Name "pot" pp) env) :: starEach [e] env := by rfl) (h2 : starEach [e] env = (false, eval e env) :: starEach [] env := by rfl)
    (h3 : eval (.Call (.Name "_law_some" np) [.Name "pot" pp, e] [] pos) env = (do let f ← eval (.Name "_law_some" np) env; callWith pos f [] (backTo pos (starEach [.Name "pot" pp, e] env)) (backToKw pos (keywordEach [] env))) := by rfl) :
    wpAny G.M A (eval (.Call (.Name "_law_some" np) [.Name "pot" pp, e] [] pos) env) Q E s := by
  refine c_fdef_any H (hf g _ _) (by kernel_rfl) (fun s' H' => sp_pe H' (hpot g _ _) (fun v s₁ e1 H₁ => sp_cons (wpAny_mono (hc s₁ H₁) (fun v₂ s₂ q => sp_nil ?_) fun zz zz q => q.elim) h2) h1) h1 h3
  obtain ⟨N, g', o', hN, hv, u, hp, H₂⟩ := q
  (first | subst e1 | cases e1)
  exact ⟨H₂.X, g_at (law_some_spec G g' Pt N v₂ (by omega) hv) H₂ hp R hn fun v s₃ g₃ o₃ u₃ hV hp₃ H₃ => k v s₃ g₃ o₃ N (u.trans u₃) hN hV hp₃ H₃⟩
end
noncomputable def InsV (g : Heap) (v : Value) : Prop := ∃ i, insFine i ∧ RD g (insD i) v
theorem fine_of {w : List Nat} {ss : List Srt} {os : List Opd} (h : sortsOf w = some ss) (f : fitsAll ss os = true) (ho : ∀ o ∈ os, opdOK o) : insFine ⟨w, os⟩ := ⟨⟨ss, h, f⟩, ho⟩
theorem small9 {n : Nat} (h : n < 100) : smallN n := by unfold smallN; omega
theorem someOK {N : Nat} {g : Heap} {v : Value} (hN : N ≤ 4) (h : SomeV N g v) : ∃ l, regsOK l ∧ RD g (regsD l) v := let ⟨l, a, b, c⟩ := h; ⟨l, ⟨by omega, fun n hn => small9 (by have := b n hn; omega)⟩, c⟩
theorem two_fine {w : List Nat} (h : w ∈ [cs "const", cs "move", cs "global", cs "setglobal", cs "define", cs "free"]) {a b : Nat} (ha : a < 100) (hb : b < 100) : insFine ⟨w, [.num a, .num b]⟩ := by
  have ho : ∀ o ∈ [Opd.num a, Opd.num b], opdOK o := fun o ho => by
    simp at ho
    rcases ho with rfl | rfl
    · exact small9 ha
    · exact small9 hb
  simp only [List.mem_cons, List.not_mem_nil, or_false] at h
  rcases h with rfl | rfl | rfl | rfl | rfl | rfl
  · exact fine_of (ss := [.target, .const]) (by kernel_rfl) rfl ho
  · exact fine_of (ss := [.target, .source]) (by kernel_rfl) rfl ho
  · exact fine_of (ss := [.target, .glob]) (by kernel_rfl) rfl ho
  · exact fine_of (ss := [.glob, .source]) (by kernel_rfl) rfl ho
  · exact fine_of (ss := [.glob, .source]) (by kernel_rfl) rfl ho
  · exact fine_of (ss := [.target, .free]) (by kernel_rfl) rfl ho
theorem fn_law_instruction (P : Params) : FnOK P fi_law_instruction := ⟨by kernel_rfl, by kernel_rfl, by kernel_rfl⟩
set_option maxHeartbeats 4000000 in
theorem law_instruction_spec (G : Gh) (g₀ : Heap) (Pt : Addr) (N : Nat) (vp : Value) (hN : 0 < N) (hN3 : N ≤ 3) (hv : VI (N : Int) vp) : GSpec G 3 316 Pt [.ref Pt, vp] g₀ InsV := by
  intro A g o ρ s Q E u H hp R kk
  obtain ⟨tp, rfl⟩ := hv
  refine enter0 (i := fi_law_instruction) (binds := [("pot", .ref Pt), ("places", .int N tp)]) (n := 2) fn_law_instruction H R (by rfl) (by kernel_rfl) fun L s' W H' => ?_
  show wpAny _ _ (execs (List.cons _ _) _) _ _ _
  refine ex_assign_any (g_def (P := P2 (VE (.ref Pt)) (VI ((13 : Nat) : Int))) H' hp (pe_glob (by kernel_rfl) rfl (by kernel_rfl)) (by kernel_rfl) (pa_two (pe_local (by kernel_rfl) (by rfl)) pe_int) (fun vs ⟨a, b, e, e1, e2⟩ => by subst e; (first | subst e1 | cases e1); exact law_dip_spec G g Pt 13 b (by decide) e2) W (by decide) fun v s₁ g₁ o₁ u₁ hV hp₁ H₁ => ?_)
  obtain ⟨js, hjs, tjs, rfl⟩ := hV
  refine H₁.store (by kernel_rfl) fun s₂ H₂ => ?_
  refine ex_assign2 W.h (Tuple_ (sp_cons (g_def (P := P2 (VE (.ref Pt)) (VI ((9 : Nat) : Int))) H₂ hp₁ (pe_glob (by kernel_rfl) rfl (by kernel_rfl)) (by kernel_rfl) (pa_two (pe_local (by kernel_rfl) (by rfl)) pe_int) (fun vs ⟨a, b, e, e1, e2⟩ => by subst e; (first | subst e1 | cases e1); exact law_dip_spec G g₁ Pt 9 b (by decide) e2) W (by decide) fun v s₃ g₂ o₂ u₂ hV hp₂ H₃ => sp_cons (g_def (P := P2 (VE (.ref Pt)) (VI ((9 : Nat) : Int))) H₃ hp₂ (pe_glob (by kernel_rfl) rfl (by kernel_rfl)) (by kernel_rfl) (pa_two (pe_local (by kernel_rfl) (by rfl)) pe_int) (fun vs ⟨a, b, e, e1, e2⟩ => by subst e; (first | subst e1 | cases e1); exact law_dip_spec G g₂ Pt 9 b (by decide) e2) W (by decide) fun v' s₄ g₃ o₃ u₃ hV' hp₃ H₄ => sp_nil ?_)))) (by kernel_rfl) (by kernel_rfl)
  obtain ⟨j1, hj1, t1, rfl⟩ := hV
  obtain ⟨j2, hj2, t2, rfl⟩ := hV'
  refine at_tuple H₄ (by simp) fun T g₄ s₅ u₄ hT H₅ => ⟨T, _, _, g₄, _, _, rfl, ⟨_, H₅.up _ _ hT, rfl, _, rfl⟩, H₅, fun s₆ H₆ => ?_⟩
  have hp₄ := hp₃.up u₄
  have u₀ : Up g g₄ := ((u₁.trans u₂).trans u₃).trans u₄
  obtain ⟨M, m1, m2, m3, m4, m5, H₇⟩ : ∃ M : Str → Option Value, An6 (M (Str.ofString "pot") = some (.ref Pt)) (M (Str.ofString "places") = some (.int N tp)) (M (Str.ofString "sort") = some (.int js tjs)) (M (Str.ofString "one") = some (.int j1 t1)) (M (Str.ofString "other") = some (.int j2 t2)) (At ⟨G, A.deeper (fi_law_instruction.env L), fi_law_instruction.env L, g₄, M, (Pt, o₃) :: ρ⟩ s₆) := ⟨_, by rfl, by rfl, by rfl, by rfl, by rfl, H₆⟩
  have hS : ∀ g mu np, PE ⟨G, A.deeper (fi_law_instruction.env L), fi_law_instruction.env L, g, M, mu⟩ (.Name "sort" np) (VI (js : Int)) := fun g mu np => pe_locI (t := tjs) (by kernel_rfl) (by exact m3)
  have h1 : ∀ g mu np, PE ⟨G, A.deeper (fi_law_instruction.env L), fi_law_instruction.env L, g, M, mu⟩ (.Name "one" np) (VI (j1 : Int)) := fun g mu np => pe_locI (t := t1) (by kernel_rfl) (by exact m4)
  have h2 : ∀ g mu np, PE ⟨G, A.deeper (fi_law_instruction.env L), fi_law_instruction.env L, g, M, mu⟩ (.Name "other" np) (VI (j2 : Int)) := fun g mu np => pe_locI (t := t2) (by kernel_rfl) (by exact m5)
  have hP : ∀ g mu np, PE ⟨G, A.deeper (fi_law_instruction.env L), fi_law_instruction.env L, g, M, mu⟩ (.Name "pot" np) (VE (.ref Pt)) := fun g mu np => (pe_local (by kernel_rfl) (by exact m1))
  have hN' : ∀ g mu np, PE ⟨G, A.deeper (fi_law_instruction.env L), fi_law_instruction.env L, g, M, mu⟩ (.Name "places" np) (VI (N : Int)) := fun g mu np => pe_locI (t := tp) (by kernel_rfl) (by exact m2)
  have hF : ∀ g mu np, PE ⟨G, A.deeper (fi_law_instruction.env L), fi_law_instruction.env L, g, M, mu⟩ (.Name "_law_some" np) (VE (.ref 311)) := fun g mu np => (pe_glob (by kernel_rfl) rfl (by kernel_rfl))
  refine ex_if H₇ (d := decide ((js : Int) < 3)) (pt_lt (hS _ _ _) pe_int) ?_ ?_
  · intro hd s₇ H₈
    simp only [decide_eq_true_eq] at hd
    refine ex_ret_any (Tuple_ (sp_cons (sub_any (ev_list H₈ (pt_const (pe_strc (x := "const")) (pt_const (pe_strc (x := "move")) (pt_const (pe_strc (x := "global")) pt_nil))) (fun D ws s₈ ht H₉ => pe_run H₉ (hS _ _ _) fun w s₉ e H₁₀ => ?_) (fun vs ht => by rw [ht.length]; simp)))))
    obtain ⟨tw, rfl⟩ := e
    obtain ⟨x, hx⟩ : ∃ x, ws[js]? = some x := ⟨_, List.getElem?_eq_getElem (by rw [ht.length]; simp; omega)⟩
    obtain ⟨y, hy, hxy⟩ := ht.get hx
    have hDl : s₉.heap.IsList D ws.toArray := ⟨_, H₁₀.get (.head _), rfl, _, rfl⟩
    refine ⟨"list", _, PySem.F.slot_list_getitem.lookup, hDl.typeIs, wpAny_getItem_list hDl (by omega) (by omega) (by simpa using hx) ?_⟩
    refine sp_pe H₁₀ (h1 _ _ _) fun a s₁₀ ha H₁₁ => sp_pe H₁₁ (h2 _ _ _) fun b s₁₁ hb H₁₂ => sp_nil (at_tuple H₁₂ (by simp) fun T g₅ s₁₂ u₅ hT H₁₃ => ?_)
    refine kk _ _ g₅ o₃ (u₀.trans u₅) ⟨⟨y, [.num j1, .num j2]⟩, two_fine ?_ (by omega) (by omega), RD.tuple hT (RDs.cons (RD.ofT hxy) (RDs.cons (RD.ofI ha) (RDs.cons (RD.ofI hb) RDs.nil)))⟩ (hp₄.up u₅) H₁₃.gl.drop
    have := List.mem_of_getElem? hy
    simp at this ⊢
    rcases this with h | h | h <;> simp [h]
  intro hd s₇ H₈
  simp only [decide_eq_false_iff_not] at hd
  refine ex_if H₈ (d := decide ((js : Int) < 6)) (pt_lt (hS _ _ _) pe_int) ?_ ?_
  · intro hd' s₇ H₈
    simp only [decide_eq_true_eq] at hd'
    refine ex_ret_any (Tuple_ (sp_cons (sub_any (ev_list H₈ (pt_const (pe_strc (x := "setglobal")) (pt_const (pe_strc (x := "define")) (pt_const (pe_strc (x := "free")) pt_nil))) (fun D ws s₈ ht H₉ => pe_run H₉ ((pe_sub_int (hS _ _ _) (pe_int (i := 3))).convI (show (js : Int) - 3 = ((js - 3 : Nat) : Int) by omega)) fun w s₉ e H₁₀ => ?_) (fun vs ht => by rw [ht.length]; simp)))))
    obtain ⟨tw, rfl⟩ := e
    obtain ⟨x, hx⟩ : ∃ x, ws[js - 3]? = some x := ⟨_, List.getElem?_eq_getElem (by rw [ht.length]; simp; omega)⟩
    obtain ⟨y, hy, hxy⟩ := ht.get hx
    have hDl : s₉.heap.IsList D ws.toArray := ⟨_, H₁₀.get (.head _), rfl, _, rfl⟩
    refine ⟨"list", _, PySem.F.slot_list_getitem.lookup, hDl.typeIs, wpAny_getItem_list hDl (by omega) (by omega) (by simpa using hx) ?_⟩
    refine sp_pe H₁₀ (h1 _ _ _) fun a s₁₀ ha H₁₁ => sp_pe H₁₁ (h2 _ _ _) fun b s₁₁ hb H₁₂ => sp_nil (at_tuple H₁₂ (by simp) fun T g₅ s₁₂ u₅ hT H₁₃ => ?_)
    refine kk _ _ g₅ o₃ (u₀.trans u₅) ⟨⟨y, [.num j1, .num j2]⟩, two_fine ?_ (by omega) (by omega), RD.tuple hT (RDs.cons (RD.ofT hxy) (RDs.cons (RD.ofI ha) (RDs.cons (RD.ofI hb) RDs.nil)))⟩ (hp₄.up u₅) H₁₃.gl.drop
    have := List.mem_of_getElem? hy
    simp at this ⊢
    rcases this with h | h | h <;> simp [h]
  intro hd2 s₇ H₈
  simp only [decide_eq_false_iff_not] at hd2
  refine ex_if H₈ (d := decide ((js : Int) = 6)) (pt_eq_int (hS _ _ _) pe_int) ?_ ?_
  · intro _ s₇ H₈
    refine ex_ret_any (Tuple_ (sp_pe H₈ (pe_strc (x := "closure")) fun w s₈ hw H₉ => sp_pe H₉ (h1 _ _ _) fun a s₉ ha H₁₀ => sp_pe H₁₀ (h2 _ _ _) fun b s₁₀ hb H₁₁ => sp_cons (g_some H₁₁ hF hP (fun s₁₁ H₁₂ => g_def (P := P2 (VE (.ref Pt)) (VI ((3 : Nat) : Int))) H₁₂ hp₄ (pe_glob (by kernel_rfl) rfl (by kernel_rfl)) (by kernel_rfl) (pa_two (hP _ _ _) pe_int) (fun vs ⟨a, b, e, e1, e2⟩ => by subst e; (first | subst e1 | cases e1); exact law_dip_spec G g₄ Pt 3 b (by decide) e2) W (by decide) fun v s₁₂ g₅ o₅ u₅ hV hp₅ H₁₃ => ?_) W (by decide) fun v s₁₂ g₅ o₅ K u₅ hK hV hp₅ H₁₃ => sp_nil (at_tuple H₁₃ (by simp) fun T g₆ s₁₃ u₆ hT H₁₄ => ?_))))
    · obtain ⟨K, hK, hKv⟩ := hV
      exact ⟨K, g₅, o₅, by omega, hKv, u₅, hp₅, H₁₃⟩
    · obtain ⟨l, hl, hrl⟩ := someOK hK hV
      refine kk _ _ g₆ o₅ ((u₀.trans u₅).trans u₆) ⟨⟨cs "closure", [.num j1, .num j2, .regs l]⟩, fine_of (ss := [.target, .proc, .sources]) (by kernel_rfl) rfl fun o ho => ?_, RD.tuple hT (RDs.cons (RD.ofT hw) (RDs.cons (RD.ofI ha) (RDs.cons (RD.ofI hb) (RDs.cons (hrl.up u₆) RDs.nil))))⟩ (hp₅.up u₆) H₁₄.gl
      simp at ho
      rcases ho with rfl | rfl | rfl
      · exact small9 (by omega)
      · exact small9 (by omega)
      · exact hl
  intro _ s₇ H₈
  refine ex_if H₈ (d := decide ((js : Int) = 7)) (pt_eq_int (hS _ _ _) pe_int) ?_ ?_
  · intro _ s₇ H₈
    refine ex_assign_comp (by rfl) (cl := [("pot", L + 1), ("other", L + 2)]) (by rfl) (.swap ..) (by kernel_rfl) (by kernel_rfl) (c_ty (T := "range") (P := P1 (VI ((1 + j1 % 3 : Nat) : Int))) H₈ (by decide +kernel) (by kernel_rfl) (pa_one ((pe_add_int (pe_int (i := 1)) (pe_mod_int (b := 3) (h1 _ _ _) pe_int (by decide))).convI (by omega))) fun vs s₂ ⟨v, e1, t, e2⟩ H₉ => ?_)
    subst e1; subst e2
    refine at_range W.h H₉ (by omega) fun v g₅ s₈ u₅ hit H₁₀ => ?_
    refine ⟨g₅, _, _, 1 + j1 % 3, _, fun i g mu ys => An3 (i ≤ 1 + j1 % 3) (Up g₅ g) (Ex2 fun o rs => An5 (mu = (Pt, o) :: ρ) (Pot g o) (rs.length = i) ((∀ e ∈ rs, rowOK e)) (RDs g (rs.map rowD) ys)), H₁₀, hit, by rw [sizeLine_eq]; omega, ⟨Nat.zero_le _, Up.rfl, o₃, [], rfl, hp₄.up u₅, rfl, by simp, RDs.nil⟩, ?_, ?_, ?_⟩
    · rintro i C g₆ mc mu ψ w ys s₇ hi hw ⟨_, u₆, o₆, rs, rfl, hp₆, ht, htc, hy⟩ _ hm H₇
      have q1 : mc (Str.ofString "pot") = some (.ref Pt) := (hm _ (by kernel_rfl)).trans m1
      have q2 : mc (Str.ofString "other") = some (.int j2 t2) := (hm _ (by kernel_rfl)).trans m5
      obtain ⟨ti, rfl⟩ := hw
      refine wpAny_assign_Name (At.store (c := ⟨G, _, _, g₆, mc, _⟩) H₇ (by kernel_rfl) fun s₈ H₈ => tests_yes ?_)
      refine Tuple_ (sp_pe H₈ ((pe_sub_int (pe_int (i := 9)) (pe_locI (t := ti) (by kernel_rfl) (by rfl))).convI (show (9 : Int) - (i : Int) = ((9 - i : Nat) : Int) by omega)) fun a s₉ ha H₉ => sp_pe H₉ (pe_locI (i := (j2 : Int)) (t := t2) (by kernel_rfl) (by exact q2)) fun b s₁₀ hb H₁₀ => sp_cons (g_some (ρ := ρ ++ ψ) H₁₀ (fun g mu np => (pe_glob (by kernel_rfl) rfl (by kernel_rfl))) (fun g mu np => (pe_local (by kernel_rfl) (by exact q1))) (fun s₁₁ H₁₁ => pe_run H₁₁ (pe_locI (i := (i : Int)) (t := ti) (by kernel_rfl) (by rfl)) fun v s₁₂ hv H₁₂ => ⟨i, g₆, o₆, by omega, hv, Up.rfl, hp₆, H₁₂⟩) W (by decide) fun v s₁₁ g₇ o₇ K u₇ hK hV hp₇ H₁₁ => sp_nil (at_tuple H₁₁ (by simp) fun T g₈ s₁₂ u₈ hT H₁₂ => ?_)))
      obtain ⟨l, hl, hrl⟩ := someOK hK hV
      refine ⟨g₈, _, (Pt, o₇) :: ρ, u₇.trans u₈, H₁₂, free_put (by kernel_rfl), hi, u₆.trans (u₇.trans u₈), o₇, rs ++ [(9 - i, j2, l)], rfl, hp₇.up u₈, by simp [ht], fun c hc => ?_, ?_⟩
      · rcases List.mem_append.mp hc with hc | hc
        · exact htc c hc
        · rw [List.mem_singleton.mp hc]; exact ⟨small9 (by show 9 - i < 100; omega), small9 (by show j2 < 100; omega), hl⟩
      · rw [List.map_append]
        exact (hy.up (u₇.trans u₈)).snoc (RD.tuple hT (RDs.cons (RD.ofI ha) (RDs.cons (RD.ofI hb) (RDs.cons (hrl.up u₈) RDs.nil))))
    · rintro i g₆ mu ys ⟨_, _, o₆, rs, _, _, ht, _, hy⟩ _
      rw [hy.length, List.length_map]; omega
    · rintro D' g₆ mu ys k₄ s₇ ⟨_, u₆, o₆, rs, rfl, hp₆, ht, htc, hy⟩ _ H₇
      refine ex_ret_any (Tuple_ (sp_pe H₇ (pe_strc (x := "fix")) fun w s₈ hw H₈ => sp_cons (c_ty (T := "tuple") (P := P1 (VE (.ref D'))) H₈ (by decide +kernel) (by kernel_rfl) (pa_one (pe_local (by kernel_rfl) (by rfl))) fun vs s₉ ⟨v, e1, e2⟩ H₉ => ?_)))
      subst e1; (first | subst e2 | cases e2)
      have hyl := hy.length
      rw [List.length_map] at hyl
      refine at_tuple_list H₉ ⟨_, H₉.get (.head _), rfl, _, rfl⟩ (by omega) fun T₁ g₇ s₁₀ u₇ hT₁ H₁₀ => sp_nil (at_tuple H₁₀ (by simp) fun T g₈ s₁₁ u₈ hT H₁₁ => ?_)
      refine kk _ _ g₈ o₆ (u₀.trans (u₅.trans (u₆.trans (u₇.trans u₈)))) ⟨⟨cs "fix", [.rows rs]⟩, fine_of (ss := [.rows]) (by kernel_rfl) rfl fun o ho => ?_, RD.tuple hT (RDs.cons (RD.ofT hw) (RDs.cons (RD.tuple (u₈ _ _ hT₁) (hy.up (u₇.trans u₈))) RDs.nil))⟩ (hp₆.up (u₇.trans u₈)) H₁₁.gl.drop
      simp at ho
      subst ho
      exact ⟨by omega, htc⟩
  intro _ s₇ H₈
  refine ex_if H₈ (d := decide ((js : Int) = 8)) (pt_eq_int (hS _ _ _) pe_int) ?_ ?_
  · intro _ s₇ H₈
    refine ex_ret_any (Tuple_ (sp_pe H₈ (pe_strc (x := "prim")) fun w s₈ hw H₉ => sp_pe H₉ (h1 _ _ _) fun a s₉ ha H₁₀ => sp_pe H₁₀ ((pe_mod_int (b := 6) (h2 _ _ _) pe_int (by decide)).convI (show (j2 : Int) % 6 = ((j2 % 6 : Nat) : Int) by omega)) fun b s₁₀ hb H₁₁ => sp_cons (g_some H₁₁ hF hP (fun s₁₁ H₁₂ => g_def (P := P2 (VE (.ref Pt)) (VI ((4 : Nat) : Int))) H₁₂ hp₄ (pe_glob (by kernel_rfl) rfl (by kernel_rfl)) (by kernel_rfl) (pa_two (hP _ _ _) pe_int) (fun vs ⟨a, b, e, e1, e2⟩ => by subst e; (first | subst e1 | cases e1); exact law_dip_spec G g₄ Pt 4 b (by decide) e2) W (by decide) fun v s₁₂ g₅ o₅ u₅ hV hp₅ H₁₃ => ?_) W (by decide) fun v s₁₂ g₅ o₅ K u₅ hK hV hp₅ H₁₃ => sp_nil (at_tuple H₁₃ (by simp) fun T g₆ s₁₃ u₆ hT H₁₄ => ?_))))
    · obtain ⟨K, hK, hKv⟩ := hV
      exact ⟨K, g₅, o₅, by omega, hKv, u₅, hp₅, H₁₃⟩
    · obtain ⟨l, hl, hrl⟩ := someOK hK hV
      refine kk _ _ g₆ o₅ ((u₀.trans u₅).trans u₆) ⟨⟨cs "prim", [.num j1, .num (j2 % 6), .regs l]⟩, fine_of (ss := [.target, .prim, .sources]) (by kernel_rfl) (by simp [fitsAll, fits]; omega) fun o ho => ?_, RD.tuple hT (RDs.cons (RD.ofT hw) (RDs.cons (RD.ofI ha) (RDs.cons (RD.ofI hb) (RDs.cons (hrl.up u₆) RDs.nil))))⟩ (hp₅.up u₆) H₁₄.gl
      simp at ho
      rcases ho with rfl | rfl | rfl
      · exact small9 (by omega)
      · exact small9 (by omega)
      · exact hl
  intro _ s₇ H₈
  have hmod : (j2 : Int) % (N : Int) = ((j2 % N : Nat) : Int) := by omega
  have hml : j2 % N < N := Nat.mod_lt _ hN
  refine ex_if H₈ (d := decide ((js : Int) = 9)) (pt_eq_int (hS _ _ _) pe_int) ?_ ?_
  · intro _ s₇ H₈
    refine ex_ret_any (Tuple_ (sp_pe H₈ (pe_strc (x := "jump")) fun w s₈ hw H₉ => sp_pe H₉ ((pe_mod_int (b := (N : Int)) (h2 _ _ _) (hN' _ _ _) (by omega)).convI hmod) fun b s₁₀ hb H₁₁ => sp_nil (at_tuple H₁₁ (by simp) fun T g₆ s₁₃ u₆ hT H₁₄ => ?_)))
    refine kk _ _ g₆ o₃ (u₀.trans u₆) ⟨⟨cs "jump", [.num (j2 % N)]⟩, fine_of (ss := [.label]) (by kernel_rfl) rfl fun o ho => ?_, RD.tuple hT (RDs.cons (RD.ofT hw) (RDs.cons (RD.ofI hb) RDs.nil))⟩ (hp₄.up u₆) H₁₄.gl
    simp at ho
    subst ho
    exact small9 (by omega)
  intro _ s₇ H₈
  refine ex_if H₈ (d := decide ((js : Int) = 10)) (pt_eq_int (hS _ _ _) pe_int) ?_ ?_
  · intro _ s₇ H₈
    refine ex_ret_any (Tuple_ (sp_pe H₈ (pe_strc (x := "branchfalse")) fun w s₈ hw H₉ => sp_pe H₉ (h1 _ _ _) fun a s₉ ha H₁₀ => sp_pe H₁₀ ((pe_mod_int (b := (N : Int)) (h2 _ _ _) (hN' _ _ _) (by omega)).convI hmod) fun b s₁₀ hb H₁₁ => sp_nil (at_tuple H₁₁ (by simp) fun T g₆ s₁₃ u₆ hT H₁₄ => ?_)))
    refine kk _ _ g₆ o₃ (u₀.trans u₆) ⟨⟨cs "branchfalse", [.num j1, .num (j2 % N)]⟩, fine_of (ss := [.source, .label]) (by kernel_rfl) rfl fun o ho => ?_, RD.tuple hT (RDs.cons (RD.ofT hw) (RDs.cons (RD.ofI ha) (RDs.cons (RD.ofI hb) RDs.nil)))⟩ (hp₄.up u₆) H₁₄.gl
    simp at ho
    rcases ho with rfl | rfl
    · exact small9 (by omega)
    · exact small9 (by omega)
  intro _ s₇ H₈
  refine ex_if H₈ (d := decide ((js : Int) = 11)) (pt_eq_int (hS _ _ _) pe_int) ?_ ?_
  · intro _ s₇ H₈
    refine ex_ret_any (Tuple_ (sp_pe H₈ (pe_strc (x := "call")) fun w s₈ hw H₉ => sp_pe H₉ (h1 _ _ _) fun a s₉ ha H₁₀ => sp_pe H₁₀ (h2 _ _ _) fun b s₁₀ hb H₁₁ => sp_cons (g_some H₁₁ hF hP (fun s₁₁ H₁₂ => wpAny_BinOp (pe_run H₁₂ (pe_int (i := 1)) fun c s₁₂ hc H₁₃ => g_def (P := P2 (VE (.ref Pt)) (VI ((3 : Nat) : Int))) H₁₃ hp₄ (pe_glob (by kernel_rfl) rfl (by kernel_rfl)) (by kernel_rfl) (pa_two (hP _ _ _) pe_int) (fun vs ⟨a, b, e, e1, e2⟩ => by subst e; (first | subst e1 | cases e1); exact law_dip_spec G g₄ Pt 3 b (by decide) e2) W (by decide) fun v s₁₂ g₅ o₅ u₅ hV hp₅ H₁₃ => ?_)) W (by decide) fun v s₁₂ g₅ o₅ K u₅ hK hV hp₅ H₁₃ => sp_nil (at_tuple H₁₃ (by simp) fun T g₆ s₁₃ u₆ hT H₁₄ => ?_))))
    · obtain ⟨K, hK, tK, rfl⟩ := hV
      obtain ⟨tc, rfl⟩ := hc
      exact add_int ⟨1 + K, g₅, o₅, by omega, ⟨_, by rw [show (1 : Int) + (K : Int) = ((1 + K : Nat) : Int) by omega]⟩, u₅, hp₅, H₁₃.toks _⟩
    · obtain ⟨l, hl, hrl⟩ := someOK hK hV
      refine kk _ _ g₆ o₅ ((u₀.trans u₅).trans u₆) ⟨⟨cs "call", [.num j1, .num j2, .regs l]⟩, fine_of (ss := [.source, .source, .sources]) (by kernel_rfl) rfl fun o ho => ?_, RD.tuple hT (RDs.cons (RD.ofT hw) (RDs.cons (RD.ofI ha) (RDs.cons (RD.ofI hb) (RDs.cons (hrl.up u₆) RDs.nil))))⟩ (hp₅.up u₆) H₁₄.gl
      simp at ho
      rcases ho with rfl | rfl | rfl
      · exact small9 (by omega)
      · exact small9 (by omega)
      · exact hl
  intro _ s₇ H₈
  refine ex_ret_any (Tuple_ (sp_pe H₈ (pe_strc (x := "give")) fun w s₈ hw H₉ => sp_pe H₉ (h1 _ _ _) fun a s₉ ha H₁₁ => sp_cons (g_some H₁₁ hF hP (fun s₁₁ H₁₂ => g_def (P := P2 (VE (.ref Pt)) (VI ((3 : Nat) : Int))) H₁₂ hp₄ (pe_glob (by kernel_rfl) rfl (by kernel_rfl)) (by kernel_rfl) (pa_two (hP _ _ _) pe_int) (fun vs ⟨a, b, e, e1, e2⟩ => by subst e; (first | subst e1 | cases e1); exact law_dip_spec G g₄ Pt 3 b (by decide) e2) W (by decide) fun v s₁₂ g₅ o₅ u₅ hV hp₅ H₁₃ => ?_) W (by decide) fun v s₁₂ g₅ o₅ K u₅ hK hV hp₅ H₁₃ => sp_nil (at_tuple H₁₃ (by simp) fun T g₆ s₁₃ u₆ hT H₁₄ => ?_))))
  · obtain ⟨K, hK, hKv⟩ := hV
    exact ⟨K, g₅, o₅, by omega, hKv, u₅, hp₅, H₁₃⟩
  · obtain ⟨l, hl, hrl⟩ := someOK hK hV
    refine kk _ _ g₆ o₅ ((u₀.trans u₅).trans u₆) ⟨⟨cs "give", [.num j1, .regs l]⟩, fine_of (ss := [.source, .sources]) (by kernel_rfl) rfl fun o ho => ?_, RD.tuple hT (RDs.cons (RD.ofT hw) (RDs.cons (RD.ofI ha) (RDs.cons (hrl.up u₆) RDs.nil)))⟩ (hp₅.up u₆) H₁₄.gl
    simp at ho
    rcases ho with rfl | rfl
    · exact small9 (by omega)
    · exact hl
end Mine
end
section
open PySem PySem.W PyProof.Rows PySem.Calls PySem.Builtin PySem.Builtin.Str PySem.NumText
namespace Mine
set_option maxRecDepth 100000

section
variable {G : Gh} {A : Around} {env : Env} {g : Heap} {m : Str → Option Value} {ρ : List (Addr × Obj)} {s : Shared} {Q : Value → Shared → Prop} {E : Value → Shared → Prop} {np pp pos : Pos} {Pt : Addr} {o : Obj} {n : Nat}
theorem g_dip {kc : Nat} {p2 : Pos} {k : Nat} (H : At ⟨G, A, env, g, m, (Pt, o) :: ρ⟩ s) (hp : Pot g o) (hf : gloOK env.scope "_law_dip" = true) (hg : env.globals = mainGlobals) (hpot : PE ⟨G, A, env, g, m, (Pt, o) :: ρ⟩ (.Name "pot" pp) (VE (.ref Pt))) (hk : 0 < k) (R : Rm A n) (hn : 1 ≤ n)
    (kk : ∀ (j : Nat) (t : Tok) (s' : Shared) (g' : Heap) (o' : Obj), j < k → Up g g' → Pot g' o' → At ⟨G, A, env, g', m, (Pt, o') :: ρ⟩ s' → Q (.int (j : Int) t) s')
    (h1 : starEach [.Name "pot" pp, .Constant (.int (k : Int)) kc p2] env = (false, eval (.Name "pot" pp) env) :: starEach [.Constant (.int (k : Int)) kc p2] env := by rfl)
    (h2 : starEach [.Constant (.int (k : Int)) kc p2] env = (false, eval (.Constant (.int (k : Int)) kc p2) env) :: starEach [] env := by rfl)
    (h3 : eval (.Call (.Name "_law_dip" np) [.Name "pot" pp, .Constant (.int (k : Int)) kc p2] [] pos) env = (do let f ← eval (.Name "_law_dip" np) env; callWith pos f [] (backTo pos (starEach [.Name "pot" pp, .Constant (.int (k : Int)) kc p2] env)) (backToKw pos (keywordEach [] env))) := by rfl) :
    wpAny G.M A (eval (.Call (.Name "_law_dip" np) [.Name "pot" pp, .Constant (.int (k : Int)) kc p2] [] pos) env) Q E s :=
  g_def (V := DipV k) (P := P2 (VE (.ref Pt)) (VI (k : Int))) H hp (pe_glob hf hg (by kernel_rfl)) (by kernel_rfl) (pa_two hpot pe_int h1 h2) (fun vs ⟨a, b, e, e1, e2⟩ => by subst e; (first | subst e1 | cases e1); exact law_dip_spec G g Pt k b hk e2) R hn (fun v s' g' o' u hV hp' H' => by obtain ⟨j, hj, t, e⟩ := hV; subst e; exact kk j t s' g' o' hj u hp' H') h1 h3
end
noncomputable def ProcV (num : Nat) (g : Heap) (v : Value) : Prop := ∃ p, An5 (procOK p) (TitleOK p.title) (p.number = num) (0 < p.ins.length) (PrD g p v)
theorem fn_law_procedure (P : Params) : FnOK P fi_law_procedure := ⟨by kernel_rfl, by kernel_rfl, by kernel_rfl⟩
theorem law_procedure_spec (G : Gh) (g₀ : Heap) (Pt : Addr) (num : Nat) (vn : Value) (hN : num ≤ 10) (hv : VI (num : Int) vn) : GSpec G 4 321 Pt [.ref Pt, vn] g₀ (ProcV num) := by
  intro A g o ρ s Q E u H hp R kk
  obtain ⟨tn, rfl⟩ := hv
  refine enter0 (i := fi_law_procedure) (binds := [("pot", .ref Pt), ("number", .int num tn)]) (n := 3) fn_law_procedure H R (by rfl) (by kernel_rfl) fun L s' W H' => ?_
  show wpAny _ _ (execs (List.cons _ _) _) _ _ _
  refine ex_assign_any (wpAny_BinOp (pe_run H' (pe_int (i := 1)) fun c s₁ hc H₁ => g_dip (k := 3) H₁ hp (by kernel_rfl) rfl (pe_local (by kernel_rfl) (by rfl)) (by decide) W (by decide) fun j0 t0 s₂ g₁ o₁ hj0 u₁ hp₁ H₂ => ?_))
  obtain ⟨tc, rfl⟩ := hc
  refine add_int ?_
  have H₂ := H₂.toks (s₂.toks + 1)
  have e0 : (1 : Int) + (j0 : Int) = ((1 + j0 : Nat) : Int) := by omega
  rw [e0]
  refine H₂.store (by kernel_rfl) fun s₃ H₃ => ?_
  -- head
  refine ex_assign_any (List_ (sp_cons (g_dip (k := 4) H₃ hp₁ (by kernel_rfl) rfl (pe_local (by kernel_rfl) (by rfl)) (by decide) W (by decide) fun j1 t1 s₄ g₂ o₂ hj1 u₂ hp₂ H₄ => ?_)))
  refine sp_cons (wpAny_Compare1 (g_dip (k := 2) H₄ hp₂ (by kernel_rfl) rfl (pe_local (by kernel_rfl) (by rfl)) (by decide) W (by decide) fun j2 t2 s₅ g₃ o₃ hj2 u₃ hp₃ H₅ => pe_run H₅ (pe_int (i := 1)) fun c2 s₆ hc2 H₆ => ?_) (by rfl))
  obtain ⟨tc2, rfl⟩ := hc2
  refine eq_int (sp_cons (wpAny_Compare1 (g_dip (k := 2) H₆ hp₃ (by kernel_rfl) rfl (pe_local (by kernel_rfl) (by rfl)) (by decide) W (by decide) fun j3 t3 s₇ g₄ o₄ hj3 u₄ hp₄ H₇ => pe_run H₇ (pe_int (i := 1)) fun c3 s₈ hc3 H₈ => ?_) (by rfl)))
  obtain ⟨tc3, rfl⟩ := hc3
  refine eq_int (sp_cons (g_dip (k := 12) H₈ hp₄ (by kernel_rfl) rfl (pe_local (by kernel_rfl) (by rfl)) (by decide) W (by decide) fun j4 t4 s₉ g₅ o₅ hj4 u₅ hp₅ H₉ => sp_cons (g_dip (k := 4) H₉ hp₅ (by kernel_rfl) rfl (pe_local (by kernel_rfl) (by rfl)) (by decide) W (by decide) fun j5 t5 s₁₀ g₆ o₆ hj5 u₆ hp₆ H₁₀ => sp_nil (wpAny_newObj_type ?_ (by show (5 : Nat) ≤ sizeLine; rw [sizeLine_eq]; decide)))))
  obtain ⟨g₇, u₇, hD, H₁₁⟩ := At.freeze (c := ⟨G, _, _, g₆, _, (_, lstO [.int j1 t1, .bool ((j2 : Int) == 1), .bool ((j3 : Int) == 1), .int j4 t4, .int j5 t5] 0) :: (Pt, o₆) :: ρ⟩) (H₁₀.alloc (o := lstO [.int j1 t1, .bool ((j2 : Int) == 1), .bool ((j3 : Int) == 1), .int j4 t4, .int j5 t5] 0))
  generalize s₁₀.heap.objs.size = D at hD H₁₁ ⊢
  refine H₁₁.store (by kernel_rfl) fun s₁₁ H₁₂ => ?_
  have hp₇ := hp₆.up u₇
  -- title
  refine ex_assign_any (g_def (P := P1 (VE (.ref Pt))) H₁₂ hp₇ (pe_glob (by kernel_rfl) rfl (by kernel_rfl)) (by kernel_rfl) (pa_one (pe_local (by kernel_rfl) (by rfl))) (fun vs ⟨a, e, e1⟩ => by subst e; (first | subst e1 | cases e1); exact law_text_spec G g₇ Pt) W (by decide) fun v s₁₂ g₈ o₈ u₈ hV hp₈ H₁₃ => ?_)
  obtain ⟨title, htitle, tt, rfl⟩ := hV
  refine H₁₃.store (by kernel_rfl) fun s₁₃ H₁₄ => ?_
  obtain ⟨M, m1, m2, m3, m4, m5, H₁₅⟩ : ∃ M : Str → Option Value, An6 (M (Str.ofString "pot") = some (.ref Pt)) (M (Str.ofString "number") = some (.int num tn)) ((∃ t, M (Str.ofString "places") = some (.int ((1 + j0 : Nat) : Int) t))) (M (Str.ofString "head") = some (.ref D)) (M (Str.ofString "title") = some (.str (S title) tt)) (At ⟨G, A.deeper (fi_law_procedure.env L), fi_law_procedure.env L, g₈, M, (Pt, o₈) :: ρ⟩ s₁₃) := ⟨_, by rfl, by rfl, ⟨_, by rfl⟩, by rfl, by rfl, H₁₄⟩
  obtain ⟨tpl, m3⟩ := m3
  refine ex_assign_comp (by rfl) (cl := [("pot", L + 1), ("places", L + 2)]) (by rfl) (by first | exact .refl _ | exact .swap ..) (by kernel_rfl) (by kernel_rfl) (c_ty (T := "range") (P := P1 (VI ((1 + j0 : Nat) : Int))) H₁₅ (by decide +kernel) (by kernel_rfl) (pa_one (pe_locI (t := tpl) (by kernel_rfl) (by exact m3))) fun vs s₁₄ ⟨v, e1, t, e2⟩ H₁₆ => ?_)
  subst e1; subst e2
  refine at_range W.h H₁₆ (by omega) fun v g₉ s₁₅ u₉ hit H₁₇ => ?_
  refine ⟨g₉, _, _, 1 + j0, _, fun i g mu ys => An3 (i ≤ 1 + j0) (Up g₉ g) (Ex2 fun o is => An5 (mu = (Pt, o) :: ρ) (Pot g o) (is.length = i) ((∀ x ∈ is, insFine x)) (RDs g (is.map insD) ys)), H₁₇, hit, by rw [sizeLine_eq]; omega, ⟨Nat.zero_le _, Up.rfl, o₈, [], rfl, hp₈.up u₉, rfl, by simp, RDs.nil⟩, ?_, ?_, ?_⟩
  · rintro i C g₆ mc mu ψ w ys s₇ hi hw ⟨_, u₆, o₆, is, rfl, hp₆, ht, htc, hy⟩ _ hm H₇
    have q1 : mc (Str.ofString "pot") = some (.ref Pt) := (hm _ (by kernel_rfl)).trans m1
    have q2 : mc (Str.ofString "places") = some (.int ((1 + j0 : Nat) : Int) tpl) := (hm _ (by kernel_rfl)).trans m3
    refine wpAny_assign_Name (At.store (c := ⟨G, _, _, g₆, mc, _⟩) H₇ (by kernel_rfl) fun s₈ H₈ => tests_yes ?_)
    refine g_def (V := InsV) (ρ := ρ ++ ψ) (P := P2 (VE (.ref Pt)) (VI ((1 + j0 : Nat) : Int))) H₈ hp₆ (pe_glob (by kernel_rfl) rfl (by kernel_rfl)) (by kernel_rfl) (pa_two (pe_local (by kernel_rfl) (by exact q1)) (pe_locI (t := tpl) (by kernel_rfl) (by exact q2))) (fun vs ⟨a, b, e, e1, e2⟩ => by subst e; (first | subst e1 | cases e1); exact law_instruction_spec G g₆ Pt (1 + j0) b (by omega) (by omega) e2) W (by decide) fun v s₉ g₇' o₇ u₇' hV hp₇' H₉ => ?_
    obtain ⟨i', hf, hrd⟩ := hV
    refine ⟨g₇', _, (Pt, o₇) :: ρ, u₇', H₉, free_put (by kernel_rfl), hi, u₆.trans u₇', o₇, is ++ [i'], rfl, hp₇', by simp [ht], fun c hc => ?_, ?_⟩
    · rcases List.mem_append.mp hc with hc | hc
      · exact htc c hc
      · rw [List.mem_singleton.mp hc]; exact hf
    · rw [List.map_append]; exact (hy.up u₇').snoc hrd
  · rintro i g₆ mu ys ⟨_, _, o₆, is, _, _, ht, _, hy⟩ _
    rw [hy.length, List.length_map]; omega
  · rintro D' g₆ mu ys k₄ s₇ ⟨_, u₆', o₆', is, rfl, hp₆', ht, htc, hy⟩ _ H₇
    obtain ⟨g₁₀, u₁₀, hD', H₈⟩ := At.freeze (c := ⟨G, _, _, g₆, put M (Str.ofString "body") (.ref D'), (D', lstO ys k₄) :: (Pt, o₆') :: ρ⟩) H₇
    have hDl : ∀ s, At ⟨G, A.deeper (fi_law_procedure.env L), fi_law_procedure.env L, g₁₀, put M (Str.ofString "body") (.ref D'), (Pt, o₆') :: ρ⟩ s → s.heap.IsList D ([.int j1 t1, .bool ((j2 : Int) == 1), .bool ((j3 : Int) == 1), .int j4 t4, .int j5 t5] : List Value).toArray := fun s H => ⟨_, H.up _ _ (u₁₀ _ _ (u₆' _ _ (u₉ _ _ (u₈ _ _ hD)))), rfl, _, rfl⟩
    refine ex_ret_any (c_keep (f := 65) H₈ (pe_glob (by kernel_rfl) rfl (by kernel_rfl)) (by kernel_rfl) fun s' H' => (pa_cons (P := VE (.int (num : Int) tn)) (pe_local (by kernel_rfl) (by exact m2)) (pa_cons (P := VE (.str (S title) tt)) (pe_local (by kernel_rfl) (by exact m5)) (pa_cons (pe_item_lst (j := 0) (pe_local (by kernel_rfl) (by exact m4)) pe_int hDl rfl (by simp)) (pa_cons (pe_item_lst (j := 1) (pe_local (by kernel_rfl) (by exact m4)) pe_int hDl rfl (by simp)) (pa_cons (pe_item_lst (j := 2) (pe_local (by kernel_rfl) (by exact m4)) pe_int hDl rfl (by simp)) (pa_cons (pe_item_lst (j := 3) (pe_local (by kernel_rfl) (by exact m4)) pe_int hDl rfl (by simp)) (pa_cons (pe_item_lst (j := 4) (pe_local (by kernel_rfl) (by exact m4)) pe_int hDl rfl (by simp)) (pa_cons (P := VE (.ref D')) (pe_local (by kernel_rfl) (by rfl)) pa_nil)))))))) _ s' _ _ H' fun vs s'' hvs H'' => ?_)
    obtain ⟨_, _, rfl, e1, _, _, rfl, e2, _, _, rfl, e3, _, _, rfl, e4, _, _, rfl, e5, _, _, rfl, e6, _, _, rfl, e7, _, _, rfl, e8, rfl⟩ := hvs
    (first | subst e1 | cases e1); (first | subst e2 | cases e2); (first | subst e3 | cases e3); (first | subst e4 | cases e4); (first | subst e5 | cases e5); (first | subst e6 | cases e6); (first | subst e7 | cases e7); (first | subst e8 | cases e8)
    refine ⟨H''.X, fspec_at (make_proc G g₁₀ ⟨num, title, j1, (j2 : Int) == 1, (j3 : Int) == 1, j4, j5, is⟩ _ _ _ _ _ _ _ _ (RD.int _ _) (RD.str _ _) (RD.int _ _) (RD.bool _) (RD.bool _) (RD.int _ _) (RD.int _ _) (RD.list hD' (hy.up u₁₀))) H'' W (by decide) fun v s₂ g' u' hv H₂ => ?_⟩
    refine kk v s₂ g' o₆' ((((((((u₁.trans u₂).trans u₃).trans u₄).trans u₅).trans u₆).trans u₇).trans u₈).trans ((u₉.trans u₆').trans (u₁₀.trans u'))) ⟨_, ⟨small9 (by show num < 100; omega), by have := htitle.1; show title.length ≤ 4; omega, small9 (by show j1 < 100; omega), small9 (by show j4 < 100; omega), small9 (by show j5 < 100; omega), by show is.length ≤ 3; omega, htc⟩, htitle, rfl, by show 0 < is.length; omega, hv⟩ (hp₆'.up (u₁₀.trans u')) H₂.gl
end Mine
end
section
open PySem PySem.W PyProof.Rows PySem.Calls PySem.Builtin PySem.Builtin.Str PySem.NumText
namespace Mine
set_option maxRecDepth 100000

section
variable {c : Cx} {pos np : Pos} {e : PySem.Expr} {n : Int}
theorem pe_int_i (he : PE c e (VI n)) (h : bootName c.env.scope (KF c.G.w.params) "int" = true := by kernel_rfl) (hg : c.env.globals = mainGlobals := by rfl) (hb : c.env.builtins = builtinsNs := by rfl)
    (hs : starEach [e] c.env = (false, eval e c.env) :: starEach [] c.env := by rfl)
    (hc : eval (.Call (.Name "int" np) [e] [] pos) c.env = (do let f ← eval (.Name "int" np) c.env; callWith pos f [] (backTo pos (starEach [e] c.env)) (backToKw pos (keywordEach [] c.env))) := by rfl) :
    PE c (.Call (.Name "int" np) [e] [] pos) (VI n) := fun s Q E H k =>
  c_ty (T := "int") (G := c.G) (A := c.A) (env := c.env) (g := c.g) (m := c.m) (mu := c.mu) H PyProof.Rows.boot_int h (pa_one (c := c) he hs) (fun vs s₁ ⟨v, e1, t, e2⟩ H₁ => by
    subst e1; subst e2
    exact call_int_int (k _ _ ⟨t, rfl⟩ H₁)) hg hb hs rfl hc
end
theorem slice_whole {vs : List Value} {b : Int} (h : vs.length ≤ b) : slicePick vs.toArray none (some b) none = vs.toArray := by
  have e : sliceBounds none (some b) none vs.toArray.size = sliceBounds none (some (vs.toArray.size : Int)) none vs.toArray.size := by
    simp only [sliceBounds, List.size_toArray]
    have h1 : ¬ (b < 0) := by omega
    have h2 : ¬ ((vs.length : Int) < 0) := by omega
    simp [h1, h2]
    omega
  have e2 := slicePick_upto vs.toArray vs.toArray.size (Nat.le_refl _)
  unfold slicePick at e2 ⊢
  rw [e, e2]
  simp
section
variable {G : Gh} {A : Around} {env : Env} {g : Heap} {m : Str → Option Value} {mu : List (Addr × Obj)} {s : Shared} {Q : Value → Shared → Prop} {E : Value → Shared → Prop} {p pos : Pos} {e i : PySem.Expr}
theorem ev_list_upto {l : Addr} {vs : List Value} {b : Int} (H : At ⟨G, A, env, g, m, mu⟩ s) (he : PE ⟨G, A, env, g, m, mu⟩ e (VE (.ref l))) (hi : PE ⟨G, A, env, g, m, mu⟩ i (VI b)) (hl : g.IsList l vs.toArray) (hb : vs.length ≤ b) (hz : vs.length ≤ 1000)
    (k : ∀ D g' s', Up g g' → g'.get? D = some (lstO vs 0) → At ⟨G, A, env, g', m, mu⟩ s' → Q (.ref D) s') : wpAny G.M A (eval (.Subscript e (.Slice none (some i) none p) pos) env) Q E s := by
  refine sub_on (c := ⟨G, A, env, g, m, mu⟩) (pe_run H he fun v s₁ q H₁ => ?_)
  refine wpAny_Slice (evalPart_none_step (evalPart_some_step (pe_run H₁ hi fun u s₂ ⟨t', e'⟩ H₂ => evalPart_none_step ?_)))
  (first | subst q | cases q); subst e'
  have H₃ := H₂.push { cls := .type "slice", data := .fields #[.none, .int b t', .none] }
  have hl' : (s₂.heap.push { cls := .type "slice", data := .fields #[.none, .int b t', .none] }).IsList l vs.toArray := IsList.up hl H₃.up
  refine ⟨"list", _, PySem.F.slot_list_getitem.lookup, hl'.typeIs, wpAny_getItem_list_slice (s := { s₂ with heap := s₂.heap.push { cls := .type "slice", data := .fields #[.none, .int b t', .none] } }) hl' (Heap.IsSliceOf.new ..) .none (.int b t') .none (by simp) ?_ (by simp; rw [sizeLine_eq]; omega)⟩
  rw [slice_whole hb]
  obtain ⟨g', u', hT, H'⟩ := At.freeze (c := ⟨G, A, env, g, m, (_, lstO vs 0) :: mu⟩) (H₃.alloc (o := lstO vs 0))
  exact k _ g' _ u' hT H'
theorem call_sum {l : Addr} {vs : List Value} {ns : List Int} (hh : A.handled = none) (hl : s.heap.IsList l vs.toArray) (hi : IntsAre vs ns)
    (h : ∀ h' tk t', Up s.heap h' → Q (.int ns.sum t') { s with heap := h', toks := tk }) : wpAny G.M A (call (.builtin "sum") [.ref l]) Q E s := by
  obtain ⟨xs, hx⟩ := hi.allInts.items
  rw [hx] at hl
  refine sum_intListG hh hl fun h' tk t' hk => ?_
  have := h h' tk t' hk
  have hn := hi.numsOf
  rw [show vs = (intItems xs).toList by rw [← hx]] at hn
  rw [nums_intItems] at hn
  rw [preSum_eq, List.take_of_length_le (by simp), hn]
  exact this
end
theorem sum_small : ∀ ks : List Nat, (∀ k ∈ ks, k < 1009) → 0 ≤ (ks.map fun k : Nat => (k : Int)).sum ∧ (ks.map fun k : Nat => (k : Int)).sum ≤ 1008 * ks.length
  | [], _ => by simp
  | k :: ks, h => by
    have h1 := sum_small ks fun x hx => h x (.tail _ hx)
    have h2 := h k (.head _)
    simp only [List.map_cons, List.sum_cons, List.length_cons] at h1 ⊢
    omega
theorem ints_snoc {vs : List Value} {ns : List Int} {v : Value} {n : Int} (h : IntsAre vs ns) (hv : VI n v) : IntsAre (vs ++ [v]) (ns ++ [n]) := by
  obtain ⟨t, rfl⟩ := hv
  exact PyProof.Rows.IntsAre.append h (.cons n t .nil)
theorem ints_len : ∀ {vs : List Value} {ns : List Int}, IntsAre vs ns → vs.length = ns.length
  | _, _, .nil => rfl
  | _, _, .cons _ _ r => by simp [ints_len r]
theorem fn_law_pot (P : Params) : FnOK P fi_law_pot := ⟨by kernel_rfl, by kernel_rfl, by kernel_rfl⟩
theorem law_pot_spec (G : Gh) {A : Around} {g : Heap} {mu : List (Addr × Obj)} {s : Shared} {Q E : Value → Shared → Prop} {a : Addr} {vs : List Value} {ns : List Int} (hl : g.IsList a vs.toArray) (hi : IntsAre vs ns) (hz : vs.length ≤ 63) (H : Gl G g mu s) (R : Rm A 1)
    (k : ∀ Pt o g' s', Up g g' → Pot g' o → Gl G g' ((Pt, o) :: mu) s' → Q (.ref Pt) s') : wpAny G.M A (call (.ref 287) [.ref a]) Q E s := by
  refine enter0 (i := fi_law_pot) (binds := [("script", .ref a)]) (n := 0) fn_law_pot H R (by rfl) (by kernel_rfl) fun L s' W H' => ?_
  show wpAny _ _ (execs (List.cons _ _) _) _ _ _
  refine ex_ret_any (List_ (sp_cons (c_ty_any (T := "list") H' (by decide +kernel) (by kernel_rfl) fun s₁ H₁ => sp_cons (ev_list_upto (b := 63) H₁ (pe_local (by kernel_rfl) (by rfl)) pe_int hl (by omega) (by omega) fun D g₁ s₂ u₁ hD H₂ => sp_nil (call_list_seq D (T := "list") (.inl rfl) (H₂.up _ _ hD) rfl rfl (fun h' c' hk hl' => ?_) (by simp; rw [sizeLine_eq]; omega))))))
  obtain ⟨g₂, u₂, hg₂, H₃⟩ := At.grows H₂ hk s₂.toks
  have hD₂ := hg₂ _ _ hl' (Heap.get?_none_of_le (Nat.le_refl _))
  generalize s₂.heap.objs.size = D₂ at hD₂ H₃ ⊢
  refine sp_pe H₃ pe_int fun v0 s₃ ⟨t0, e0⟩ H₄ => ?_
  subst e0
  refine sp_cons (wpAny_BinOp (c_bi_any (id := "sum") H₄ (by decide +kernel) (by kernel_rfl) fun s₄ H₅ => sp_cons ?_))
  refine ev_comp (cl := []) (by rfl) (.refl _) (by kernel_rfl) (ev_list_upto (b := 63) H₅ (pe_local (by kernel_rfl) (by rfl)) pe_int (IsList.up hl (u₁.trans u₂)) (by omega) (by omega) fun D₃ g₃ s₅ u₃ hD₃ H₆ => ?_)
  refine ⟨g₃, _, _, vs.length, _, fun i g' mu' ys => An4 (i ≤ vs.length) (Up g₃ g') (mu' = mu) (∃ ks : List Nat, An3 (ks.length = i) ((∀ k ∈ ks, k < 1009)) (IntsAre ys (ks.map fun k : Nat => (k : Int)))), H₆, itr_list W.h (⟨_, hD₃, rfl, _, rfl⟩ : g₃.IsList D₃ vs.toArray), by rw [sizeLine_eq]; omega, ⟨Nat.zero_le _, Up.rfl, rfl, [], rfl, by simp, .nil⟩, ?_, ?_, ?_⟩
  · rintro i C g₄ mc mu' ψ w ys s₆ hin hw ⟨_, u₄, rfl, ks, hk1, hk2, hy⟩ _ hm H₇
    obtain ⟨n, t, rfl⟩ := ints_get hi hw
    refine wpAny_assign_Name (At.store (c := ⟨G, _, _, g₄, mc, _⟩) H₇ (by kernel_rfl) fun s₈ H₈ => tests_yes ?_)
    obtain ⟨q, hq, hqe⟩ := mod_nat n (k := 1009) (by decide)
    refine pe_run H₈ (pe_mod_int (b := 1009) (pe_int_i (pe_locI (t := t) (by kernel_rfl) (by rfl))) pe_int (by decide)) fun y s₉ hy' H₉ => ⟨g₄, _, mu', Up.rfl, H₉, free_put (by kernel_rfl), hin, u₄, rfl, ks ++ [q], by simp [hk1], fun k hk => ?_, ?_⟩
    · rcases List.mem_append.mp hk with hk | hk
      · exact hk2 k hk
      · rw [List.mem_singleton.mp hk]; exact hq
    · rw [List.map_append]
      exact ints_snoc hy (show VI (q : Int) y from hqe ▸ hy')
  · rintro i g₄ mu' ys ⟨_, _, _, ks, hk1, _, hy⟩ _
    rw [ints_len hy, List.length_map]; omega
  · rintro D₄ g₄ mu' ys kk s₆ ⟨_, u₄, rfl, ks, hk1, hk2, hy⟩ _ H₇
    refine sp_nil (call_sum W.h ⟨_, H₇.get (.head _), rfl, _, rfl⟩ hy fun h' tk t' hu => ?_)
    have H₈ := (H₇.keeps hu tk).drop
    refine pe_run H₈ (pe_int (i := 3)) fun v3 s₇ ⟨t3, e3⟩ H₉ => ?_
    subst e3
    refine add_int (sp_nil ?_)
    have H₁₀ := H₉.toks (s₇.toks + 1)
    obtain ⟨b1, b2⟩ := sum_small ks hk2
    refine wpAny_newObj_type ?_ (by show (3 : Nat) ≤ sizeLine; rw [sizeLine_eq]; decide)
    refine k _ _ g₄ _ (((u₁.trans u₂).trans u₃).trans u₄) ?_ (H₁₀.alloc (o := lstO [.ref D₂, .int 0 t0, .int ((ks.map fun k : Nat => (k : Int)).sum + 3) s₇.toks] 0)).gl
    exact ⟨D₂, vs, ns, 0, t0, _, _, ⟨rfl, 0, rfl⟩, ⟨_, u₄ _ _ (u₃ _ _ hD₂), rfl, _, rfl⟩, hi, hz, by omega, by omega⟩
end Mine
end
section
open PySem PySem.W PyProof.Rows PySem.Calls PySem.Builtin PySem.Builtin.Str PySem.NumText
namespace Mine
set_option maxRecDepth 100000

noncomputable def headD (p : Proc) : PyData := .tuple [.int (p.number : Int), .str (S p.title), .int (p.needed : Int), .bool p.rest, .bool p.cont, .int (p.regs : Int), .int (p.free : Int)]
noncomputable def procD (p : Proc) : PyData := .list [headD p, .list (p.ins.map insD)]
noncomputable def wholeD (ps : List Proc) : PyData := .list (ps.map procD)
noncomputable def wholeT (ps : List Proc) : List Nat := (wholeD ps).shown.cps.toList
theorem S_whole (ps : List Proc) : S (wholeT ps) = (wholeD ps).shown := by unfold wholeT; simp
structure wholeOK (ps : List Proc) : Prop where
  show_ : (wholeD ps).showable = true
  len : (wholeT ps).length ≤ 16777216
  n : ps.length ≤ 100000
  ins : ∀ p ∈ ps, p.ins.length ≤ 100000
noncomputable def flatD (n : Nat) (d : PyData) : Prop := d.hasDict = false ∧ d.depth ≤ n
theorem flat_all {n : Nat} : ∀ {xs : List PyData}, (∀ x ∈ xs, flatD n x) → PyData.hasDictAll xs = false ∧ PyData.depthAll xs ≤ n
  | [], _ => ⟨by simp only [PyData.hasDictAll], by simp only [PyData.depthAll]; omega⟩
  | x :: xs, h => by
    obtain ⟨a1, a2⟩ := flat_all (xs := xs) fun y hy => h y (.tail _ hy)
    obtain ⟨b1, b2⟩ := h x (.head _)
    refine ⟨by simp only [PyData.hasDictAll, a1, b1, Bool.or_self], ?_⟩
    simp only [PyData.depthAll]; omega
theorem flat_tuple {n : Nat} {xs : List PyData} (h : ∀ x ∈ xs, flatD n x) : flatD (n + 1) (.tuple xs) := by
  obtain ⟨a, b⟩ := flat_all h
  exact ⟨by simp only [PyData.hasDict, a], by simp only [PyData.depth]; omega⟩
theorem flat_list {n : Nat} {xs : List PyData} (h : ∀ x ∈ xs, flatD n x) : flatD (n + 1) (.list xs) := by
  obtain ⟨a, b⟩ := flat_all h
  exact ⟨by simp only [PyData.hasDict, a], by simp only [PyData.depth]; omega⟩
theorem flat_int (n : Nat) (i : Int) : flatD n (.int i) := ⟨by simp only [PyData.hasDict], by simp only [PyData.depth]; omega⟩
theorem flat_bool (n : Nat) (b : Bool) : flatD n (.bool b) := ⟨by simp only [PyData.hasDict], by simp only [PyData.depth]; omega⟩
theorem flat_str (n : Nat) (x : Str) : flatD n (.str x) := ⟨by simp only [PyData.hasDict], by simp only [PyData.depth]; omega⟩
theorem flatD.mono {n k : Nat} {d : PyData} (h : flatD n d) (e : n ≤ k) : flatD k d := ⟨h.1, Nat.le_trans h.2 e⟩
theorem flat_regs (l : List Nat) : flatD 1 (regsD l) := flat_tuple fun x hx => by obtain ⟨n, _, rfl⟩ := List.mem_map.mp hx; exact flat_int _ _
theorem flat_opd (o : Opd) : flatD 3 (opdD o) := by
  cases o with
  | num n => exact flat_int _ _
  | regs l => exact (flat_regs l).mono (by omega)
  | rows rs =>
    refine flat_tuple fun x hx => ?_
    obtain ⟨e, _, rfl⟩ := List.mem_map.mp hx
    refine flat_tuple fun y hy => ?_
    simp only [List.mem_cons, List.not_mem_nil, or_false] at hy
    rcases hy with rfl | rfl | rfl
    · exact flat_int _ _
    · exact flat_int _ _
    · exact flat_regs _
theorem flat_ins (i : Ins) : flatD 4 (insD i) := flat_tuple fun x hx => by
  rcases List.mem_cons.mp hx with rfl | hx
  · exact flat_str _ _
  · obtain ⟨o, _, rfl⟩ := List.mem_map.mp hx; exact flat_opd o
theorem flat_head (p : Proc) : flatD 1 (headD p) := flat_tuple fun x hx => by
  simp only [List.mem_cons, List.not_mem_nil, or_false] at hx
  rcases hx with rfl | rfl | rfl | rfl | rfl | rfl | rfl <;> first | exact flat_int _ _ | exact flat_str _ _ | exact flat_bool _ _
theorem whole_flat (ps : List Proc) : flatD 7 (wholeD ps) := flat_list fun x hx => by
  obtain ⟨p, _, rfl⟩ := List.mem_map.mp hx
  exact flat_list fun y hy => by
    simp only [List.mem_cons, List.not_mem_nil, or_false] at hy
    rcases hy with rfl | rfl
    · exact (flat_head p).mono (by omega)
    · exact flat_list fun z hz => by obtain ⟨i, _, rfl⟩ := List.mem_map.mp hz; exact flat_ins i
theorem fn_law_whole (P : Params) : FnOK P fi_law_whole := ⟨by kernel_rfl, by kernel_rfl, by kernel_rfl⟩
theorem law_whole_spec (G : Gh) (g₀ : Heap) (ps : List Proc) (v : Value) (hv : PrL g₀ ps v) (hok : wholeOK ps) : FSpec G 2 328 [v] g₀ (fun zz => VT (wholeT ps)) := by
  intro A g mu s Q E u H R k
  obtain ⟨D₀, v₀, n₀, rfl, hD₀, hps⟩ := hv
  refine enter0 (i := fi_law_whole) (binds := [("procedures", .ref D₀)]) (n := 1) fn_law_whole H R (by rfl) (by kernel_rfl) fun L s' W H' => ?_
  show wpAny _ _ (execs (List.cons _ _) _) _ _ _
  have hD₀ := u _ _ hD₀
  have hps := hps.up u
  refine ex_assign_any (ev_nil_list H' fun D s₁ H₁ => ?_)
  refine H₁.store (by kernel_rfl) fun s₂ H₂ => ?_
  refine ex_for (Ei := fun zz zz => False) (fun zz zz q => q.elim) (pe_run H₂ (pe_local (by kernel_rfl) (by rfl)) fun w s₃ hw H₃ => ?_)
  (first | subst hw | cases hw)
  refine ⟨g, _, _, v₀.length, _, fun j g' m' mu' => m' (Str.ofString "found") = some (.ref D) ∧ Ex2 fun vs kk => mu' = (D, lstO vs kk) :: mu ∧ RDs g' ((ps.take j).map procD) vs, H₃, itr_list W.h (⟨_, hD₀, rfl, _, rfl⟩ : g.IsList D₀ v₀.toArray), ⟨by rfl, [], 0, rfl, by simpa using RDs.nil⟩, ?_, ?_⟩
  · rintro j g₂ m' mu' p w s₄ hj hw ⟨m1, vs, kk, rfl, hr⟩ u₂ H₄
    obtain ⟨q, hq, hqd⟩ := hps.2 j w hw
    have hjl : j < ps.length := (List.getElem?_eq_some_iff.mp hq).1
    have hqi := hok.ins q (List.mem_of_getElem? hq)
    have hqd := hqd.up u₂
    obtain ⟨x, dx, es, kx, rfl, hx, hdx, ⟨w1, a1, b1⟩, ⟨w2, a2, b2⟩, ⟨w3, a3, b3⟩, ⟨w4, a4, b4⟩, ⟨w5, a5, b5⟩, ⟨w6, a6, b6⟩, ⟨w7, a7, b7⟩, ⟨w8, a8, b8⟩⟩ := hqd
    refine wpAny_assign_Name (At.store (c := ⟨G, _, _, g₂, m', _⟩) H₄ (by kernel_rfl) fun s₅ H₅ => ?_)
    refine ex_assign_any (ev_tuple H₅ (pa_cons (pe_attr (pe_local (by kernel_rfl) (by rfl)) (.inr hx) (.inr hdx) (by kernel_rfl) a1 (handed_of b1)) (pa_cons (pe_attr (pe_local (by kernel_rfl) (by rfl)) (.inr hx) (.inr hdx) (by kernel_rfl) a2 (handed_of b2)) (pa_cons (pe_attr (pe_local (by kernel_rfl) (by rfl)) (.inr hx) (.inr hdx) (by kernel_rfl) a3 (handed_of b3)) (pa_cons (pe_attr (pe_local (by kernel_rfl) (by rfl)) (.inr hx) (.inr hdx) (by kernel_rfl) a4 (handed_of b4)) (pa_cons (pe_attr (pe_local (by kernel_rfl) (by rfl)) (.inr hx) (.inr hdx) (by kernel_rfl) a5 (handed_of b5)) (pa_cons (pe_attr (pe_local (by kernel_rfl) (by rfl)) (.inr hx) (.inr hdx) (by kernel_rfl) a6 (handed_of b6)) (pa_cons (pe_attr (pe_local (by kernel_rfl) (by rfl)) (.inr hx) (.inr hdx) (by kernel_rfl) a7 (handed_of b7)) pa_nil))))))) (fun T ws g₃ s₆ hws u₃ hT H₆ => ?_) (fun ws hws => ?_))
    · obtain ⟨_, _, rfl, e1, _, _, rfl, e2, _, _, rfl, e3, _, _, rfl, e4, _, _, rfl, e5, _, _, rfl, e6, _, _, rfl, e7, rfl⟩ := hws
      (first | subst e1 | cases e1); (first | subst e2 | cases e2); (first | subst e3 | cases e3); (first | subst e4 | cases e4); (first | subst e5 | cases e5); (first | subst e6 | cases e6); (first | subst e7 | cases e7)
      refine H₆.store (by kernel_rfl) fun s₇ H₇ => ?_
      obtain ⟨ai, vi, rfl, hli, hri⟩ := (b8.up u₃).toList
      have hvi : vi.length = q.ins.length := by rw [hri.length]; simp
      refine ex_expr_any (ev_append H₇ (pe_local (by kernel_rfl) (by exact m1)) (.head _) rfl rfl fun s₈ H₈ => List_ (sp_pe H₈ (pe_local (by kernel_rfl) (by rfl)) fun y s₉ hy H₉ => sp_cons (c_ty (T := "list") (P := P1 (VE (.ref ai))) H₉ (by decide +kernel) (by kernel_rfl) (pa_one (pe_attr (pe_local (by kernel_rfl) (by rfl)) (.inr (u₃ _ _ hx)) (.inr (u₃ _ _ hdx)) (by kernel_rfl) a8 (handed_of b8))) fun vs s₁₀ ⟨v, e1, e2⟩ H₁₀ => ?_)))
      subst e1; (first | subst e2 | cases e2); cases hy
      obtain ⟨oi, hoi, hci, ni, hdi⟩ := IsList.up hli H₁₀.up
      refine call_list_seq ai (T := "list") (.inl rfl) hoi hci hdi (fun h' c' hk hl' => sp_nil ?_) (by simp; rw [sizeLine_eq]; omega)
      obtain ⟨g₄, u₄, hg₄, H₁₁⟩ := At.grows H₁₀ hk s₁₀.toks
      have hD₂ := hg₄ _ _ hl' (Heap.get?_none_of_le (Nat.le_refl _))
      generalize s₁₀.heap.objs.size = D₂ at hD₂ H₁₁ ⊢
      refine wpAny_newObj_type ?_ (by show (2 : Nat) ≤ sizeLine; rw [sizeLine_eq]; decide)
      obtain ⟨g₅, u₅, hD₃, H₁₂⟩ := At.freeze (c := ⟨G, _, _, g₄, _, (_, lstO [.ref T, .ref D₂] 0) :: _⟩) (H₁₁.alloc (o := lstO [.ref T, .ref D₂] 0))
      have hl := hr.length
      rw [List.length_map, List.length_take] at hl
      have hn := hok.n
      refine ⟨g₅, _, _, vs, kk, by omega, H₁₂, fun s₁₃ H₁₃ => ex_nil ⟨g₅, _, (D, lstO (vs ++ [_]) (kk + 1)) :: mu, u₃.trans (u₄.trans u₅), H₁₃, by exact m1, _, _, rfl, ?_⟩⟩
      rw [take_get hq, List.map_append]
      have u35 := u₃.trans (u₄.trans u₅)
      exact (hr.up u35).snoc (RD.list hD₃ (RDs.cons (RD.tuple (u₅ _ _ (u₄ _ _ hT)) (RDs.cons (b1.up u35) (RDs.cons (b2.up u35) (RDs.cons (b3.up u35) (RDs.cons (b4.up u35) (RDs.cons (b5.up u35) (RDs.cons (b6.up u35) (RDs.cons (b7.up u35) RDs.nil)))))))) (RDs.cons (RD.list (u₅ _ _ hD₂) (hri.up (u₄.trans u₅))) RDs.nil)))
    · obtain ⟨_, _, rfl, e1, _, _, rfl, e2, _, _, rfl, e3, _, _, rfl, e4, _, _, rfl, e5, _, _, rfl, e6, _, _, rfl, e7, rfl⟩ := hws
      simp
  · rintro g₂ m' mu' s₄ ⟨m1, vs, kk, rfl, hr⟩ u₂ H₄
    rw [hps.1, List.take_length] at hr
    obtain ⟨g₃, u₃, hD, H₅⟩ := At.freeze (c := ⟨G, _, _, g₂, m', (D, lstO vs kk) :: mu⟩) H₄
    refine ex_ret_any (c_bi (id := "repr") (P := P1 (VE (.ref D))) H₅ PyProof.Rows.boot_repr (by kernel_rfl) (pa_one (pe_local (by kernel_rfl) (by exact m1))) fun ws s₅ ⟨w, e1, e2⟩ H₆ => ?_)
    subst e1; (first | subst e2 | cases e2)
    obtain ⟨as, r⟩ : RD g₃ (wholeD ps) (.ref D) := RD.list hD (hr.up u₃)
    obtain ⟨f1, f2⟩ := whole_flat ps
    refine repr_of_reads' r hok.show_ (PyData.noDict_hsm f1) W.g (by have := W.u; omega) H₆.up (fun h' t tk hk => ?_) (by rw [← S_whole, S_len, sizeLine_eq]; exact hok.len)
    exact k _ _ g₃ (u₂.trans u₃) ⟨t, by show Value.str _ t = Value.str _ t; rw [S_whole]⟩ (H₆.keeps hk tk).gl
end Mine
end
section
open PySem PySem.W PyProof.Rows PySem.Calls PySem.Builtin PySem.Builtin.Str
namespace Mine
set_option maxRecDepth 100000

theorem handle_bad {prog : Program} {w : World} {A : Around} {env : Env} {e : Addr} {t : PySem.Expr} {b₀ : Stmt} {suite : List Stmt} {pos : Pos} {rest : List ExceptHandler} {Q : Flow → Shared → Prop} {E : Value → Shared → Prop} {s : Shared}
    (h : wpAny (model prog w) (A.mark (some (.ref e))) (eval t env) (fun c s₁ => An4 (c = .ref 31) ((∃ P, (KF P).In s₁.heap)) ((∃ oe, s₁.heap.get? e = some oe ∧ oe.cls = .ref 31)) (wpAny (model prog w) (A.mark (some (.ref e))) (setFlight (.ref e) none) (fun zz s₂ => wpAny (model prog w) (A.mark (some (.ref e))) (execs (b₀ :: suite) env) Q (fun zz zz => False) s₂) (fun zz zz => False) s₁)) (fun zz zz => False) s) :
    wpAny (model prog w) A (handleBy (.ref e) env (.ExceptHandler (some t) none (b₀ :: suite) pos :: rest)) Q E s := by
  refine wpAny_handleBy_cons (codeAny_handlers_test (wpAny_mono h (fun c s₁ h₁ => ?_) fun zz zz q => q.elim)) (by intro q; (first | subst q | cases q))
  obtain ⟨rfl, ⟨P, X⟩, ⟨oe, he, hcls⟩, hk⟩ := h₁
  have hC := X _ _ (bad_obj P)
  obtain ⟨hh, g, d, tk, os⟩ := s₁
  exact wpAny_excMatches_sub_self hC he hcls (by decide) (codeAny_handlers_suite (wpAny_mono hk (fun zz s₂ h₂ => wpAny_mono h₂ (fun zz zz q => q) fun zz zz q => q.elim) fun zz zz q => q.elim))
noncomputable def resO (h : Heap) (p : Addr × Obj) : Addr × Obj := (p.1, (h.get? p.1).getD p.2)
noncomputable def KeptTo (h : Heap) (mu : List (Addr × Obj)) : Prop := ∀ p ∈ mu, ∃ sl, h.get? p.1 = some { p.2 with slots := sl }
theorem resO_eq {h : Heap} {mu : List (Addr × Obj)} (hk : KeptTo h mu) {p : Addr × Obj} (hp : p ∈ mu) : ∃ sl, resO h p = (p.1, { p.2 with slots := sl }) ∧ h.get? p.1 = some (resO h p).2 := by
  obtain ⟨sl, e⟩ := hk p hp
  exact ⟨sl, by unfold resO; rw [e]; rfl, by unfold resO; rw [e]; rfl⟩
theorem resO_keys (h : Heap) (mu : List (Addr × Obj)) : (mu.map (resO h)).map (·.1) = mu.map (·.1) := by
  rw [List.map_map]; exact List.map_congr_left fun p zz => rfl
theorem Gl.restore {G : Gh} {g : Heap} {mu : List (Addr × Obj)} {s s' : Shared} (H : Gl G g mu s) (hst : Up g s'.heap) (hk : KeptTo s'.heap mu) (hg : s'.gens = #[]) (ho : s'.os = G.os) : Gl G g (mu.map (resO s'.heap)) s' :=
  ⟨H.base, H.upH, hst, fun p hp => by
    obtain ⟨q, hq, rfl⟩ := List.mem_map.mp hp
    obtain ⟨sl, _, e⟩ := resO_eq hk hq
    exact ⟨e, (H.mus q hq).2⟩, by rw [resO_keys]; exact H.nd, hg, ho⟩
theorem cells_res {h : Heap} {m : Str → Option Value} : ∀ {cl : List (Str × Addr)} {co : List (Addr × Obj)}, CellsAre m cl co → KeptTo h co → CellsAre m cl (co.map (resO h))
  | _, _, .nil, _ => .nil
  | _, _, .cons (c := c) (o := o) hd r, hk => by
    obtain ⟨sl, e, _⟩ := resO_eq hk (List.mem_cons_self)
    rw [List.map_cons, show resO h (c, o) = (c, { o with slots := sl }) from e]
    exact .cons hd (cells_res r fun p hp => hk p (.tail _ hp))
theorem loc_res {h : Heap} {env : Env} {m : Str → Option Value} {mu : List (Addr × Obj)} {L : Addr} {o : Obj} (hl : Loc env m o) (hk : KeptTo h ((L, o) :: mu)) : Loc env m (resO h (L, o)).2 := by
  obtain ⟨sl, e, _⟩ := resO_eq hk (List.mem_cons_self)
  rw [e]
  obtain ⟨es, ep, a, b, c⟩ := hl
  exact ⟨es, ep, a, b, c⟩
theorem glob_here {c : Cx} {x : Str} {pos : Pos} {v : Value} {s : Shared} {Q : Value → Shared → Prop} {E : Value → Shared → Prop} (hl : gloOK c.env.scope x = true) (hg : c.env.globals = mainGlobals) (hv : nsIn (KF c.G.w.params) mainGlobals x = some (some v)) (H : At c s) (k : Q v s) :
    wpAny c.G.M c.A (eval (.Name x pos) c.env) Q E s := by
  obtain ⟨h1, h2, h3⟩ := gloOK_of hl
  obtain ⟨_, _, _, mg, _, T⟩ := H.top
  exact Name_function_global h1 h2 (loadGlobal_global (hg ▸ T.g) (mg_of H.X T.g hv) k) h3
end Mine
end
section
open PySem PySem.W PyProof.Rows PySem.Calls PySem.Builtin PySem.Builtin.Str PySem.NumText
namespace Mine
set_option maxRecDepth 100000

theorem fn_law_back (P : Params) : FnOK P fi_law_back := ⟨by kernel_rfl, by kernel_rfl, by kernel_rfl⟩
noncomputable def SlotsOf (mu mu' : List (Addr × Obj)) : Prop := mu' = mu ∨ ∃ h, KeptTo h mu ∧ mu' = mu.map (resO h)
theorem law_back_at (G : Gh) {A : Around} {env : Env} {g : Heap} {m : Str → Option Value} {mu : List (Addr × Obj)} {s : Shared} {Q E : Value → Shared → Prop} (l : List Nat) (vt : Value) (hz : l.length ≤ 16777216) (hn : nl l < 64) (hvt : VT l vt)
    (H : At ⟨G, A, env, g, m, mu⟩ s) (R : Rm A 17) (hA : A.frames = some [env]) (hf : env.frame = some env.locals) (hk : env.scope.kind ≠ .module) (hmu : ∀ p ∈ mu, ∀ vs, p.2.data ≠ .fields vs)
    (k : ∀ v s' g' mu', Up g g' → (pCode l = none → v = .none) → (∀ ps, pCode l = some ps → PrL g' ps v) → SlotsOf mu mu' → At ⟨G, A, env, g', m, mu'⟩ s' → Q v s') : wpAny G.M A (call (.ref 335) [vt]) Q E s := by
  obtain ⟨oL, co, ll, kc, gl⟩ := H
  refine enter0 (i := fi_law_back) (binds := [("text", vt)]) (n := 16) fn_law_back gl R (by rfl) (by kernel_rfl) fun L s₁ W H₁ => ?_
  have hfr : (A.deeper (fi_law_back.env L)).frames = some [fi_law_back.env L, env] := Around.frames_deeper hA
  show wpAny _ _ (execs (List.cons _ _) _) _ _ _
  refine ex_step (wpAny_Try_except ?_)
  refine ex_ret_any (c_fdef_any (f := 282) H₁ (pe_glob (by kernel_rfl) rfl (by kernel_rfl)) (by kernel_rfl) fun s₂ H₂ => sp_pe H₂ (pe_local (by kernel_rfl) (by rfl)) fun v s₃ hv H₃ => sp_cons (c_fdef0 (f := 301) H₃ (pe_glob (by kernel_rfl) rfl (by kernel_rfl)) (by kernel_rfl) (law_names_spec G g) W (by decide) fun vn s₄ g₁ u₁ hvn H₄ => sp_nil ⟨H₄.X, ?_⟩))
  cases hv
  obtain ⟨oB, coB, lB, kB, glB⟩ := H₄
  have hcoB : coB = [] := by cases kB; rfl
  subst hcoB
  have gl₄ : Gl G g₁ (((fi_law_back.env L).locals, oB) :: (env.locals, oL) :: (co ++ mu)) s₄ := glB
  have hcd : ∀ {cl : List (Str × Addr)} {co : List (Addr × Obj)}, CellsAre m cl co → ∀ p ∈ co, ∀ vs, p.2.data ≠ .fields vs := by
    intro cl co h
    induction h with
    | nil => intro p hp; cases hp
    | cons hd r ih =>
      intro p hp vs e
      rcases List.mem_cons.mp hp with rfl | hp
      · rw [hd] at e; cases e
      · exact ih p hp vs e
  have hLd : ∀ vs, oL.data ≠ .fields vs := fun vs e => by obtain ⟨es, ep, hd, _⟩ := ll; rw [hd] at e; cases e
  have hBd : ∀ vs, oB.data ≠ .fields vs := fun vs e => by obtain ⟨es, ep, hd, _⟩ := lB; rw [hd] at e; cases e
  have hall : ∀ p ∈ (((fi_law_back.env L).locals, oB) :: (env.locals, oL) :: (co ++ mu)), ∀ vs, p.2.data ≠ .fields vs := fun p hp => by
    rcases List.mem_cons.mp hp with rfl | hp
    · exact hBd
    rcases List.mem_cons.mp hp with rfl | hp
    · exact hLd
    rcases List.mem_append.mp hp with hp | hp
    · exact hcd kc p hp
    · exact hmu p hp
  refine read_code_spec G ⟨g₁, ((fi_law_back.env L).locals, oB) :: (env.locals, oL) :: (co ++ mu), G.os⟩ rfl (outer := [fi_law_back.env L, env]) l vt vn hz hn hvt hvn gl₄ (W.less (by decide)) hfr ⟨fun env' he => ?_, fun p hp => ⟨p.2.slots, hp, hall p hp⟩⟩ Up.rfl (fun ps v s₅ g₂ hps u₂ hv gl₅ => ?_) (fun e s₅ hnone hfly => ?_)
  · simp only [List.mem_cons, List.not_mem_nil, or_false] at he
    rcases he with rfl | rfl
    · exact ⟨by show sc_law_back.kind ≠ _; decide +kernel, L, oB, rfl, .head _, hBd⟩
    · exact ⟨hk, _, oL, hf, .tail _ (.head _), hLd⟩
  · show Q v s₅
    exact k v s₅ g₂ mu (u₁.trans u₂) (fun q => by rw [hps] at q; cases q) (fun ps' q => by rw [hps] at q; cases q; exact hv) (.inl rfl) ⟨oL, co, ll, kc, gl₅.drop⟩
  · obtain ⟨a, a0, rfl, hfl, hkp, hg0, hos⟩ := hfly
    refine wpAny_looks_onW hfr rfl hfl fun h₄ hheld₄ u₄ => wpAny_landsW hheld₄ fun h₅ hfl₅ u₅ => handle_bad ?_
    have kept : ∀ h : Heap, s₅.heap.UpToSlots h → KeptTo h (((fi_law_back.env L).locals, oB) :: (env.locals, oL) :: (co ++ mu)) := fun h u p hp => (fr_upTo u hkp p hp).2
    have rest : ∀ h : Heap, s₅.heap.UpToSlots h → Up g₁ h → ∀ A', At ⟨G, A', fi_law_back.env L, g₁, loc [("text", vt)], ((env.locals, oL) :: (co ++ mu)).map (resO h)⟩ { s₅ with heap := h } := fun h u hst A' => by
      have g1 := Gl.restore (s' := { s₅ with heap := h }) gl₄ hst (kept h u) hg0 hos
      exact ⟨_, [], loc_res lB (kept h u), .nil, g1⟩
    have u45 := u₄.trans u₅
    refine glob_here (c := ⟨G, (A.deeper (fi_law_back.env L)).mark (some (.ref a)), fi_law_back.env L, g₁, loc [("text", vt)], _⟩) (v := .ref 31) (by kernel_rfl) rfl (by kernel_rfl) (rest h₅ u45 hfl₅.1 _) ⟨rfl, ⟨_, (rest h₅ u45 hfl₅.1 A).X⟩, hfl₅.there, ?_⟩
    refine lands_againW hfl₅ fun h₆ hfl₆ u₆ => ?_
    have u6 := u45.trans u₆
    refine ex_ret (rest h₆ u6 hfl₆.1 _) pe_none fun v s₆ hv H₆ => ?_
    cases hv
    show Q .none s₆
    have hk6 := kept h₆ u6
    have g6 := H₆.gl
    rw [List.map_cons, List.map_append] at g6
    exact k .none s₆ g₁ (mu.map (resO h₆)) u₁ (fun zz => rfl) (fun ps q => by rw [hnone] at q; cases q) (.inr ⟨h₆, fun p hp => hk6 p (.tail _ (.tail _ (List.mem_append_right _ hp))), rfl⟩)
      ⟨_, _, loc_res ll (mu := co ++ mu) (fun p hp => hk6 p (.tail _ hp)), cells_res kc (fun p hp => hk6 p (.tail _ (.tail _ (List.mem_append_left _ hp)))), g6⟩
end Mine
end
section
open PySem PySem.W PyProof.Rows PySem.Calls PySem.Builtin PySem.Builtin.Str
namespace Mine
set_option maxRecDepth 100000

theorem strs_values : ∀ l : List (Str × Tok), StrsAre (strValues l) (l.map (·.1))
  | [] => .nil
  | (x, t) :: l => .cons x t (strs_values l)
section
variable {prog : Program} {w : World} {A : Around} {E : Value → Shared → Prop} {s : Shared}
theorem call_split {x y : Str} {t u : Tok} {Q : Value → Shared → Prop} (hy : (y.length == 0) = false) (hx : x.length ≤ 100000)
    (k : ∀ vs tk, StrsAre vs (Txt.split x y) → Q (.ref s.heap.objs.size) { s with heap := s.heap.push (lstO vs 0), toks := tk }) : wpAny (model prog w) A (call (.builtin "str.split") [.str x t, .str y u]) Q E s := by
  have hxs : x.length ≤ sizeLine := by rw [sizeLine_eq]; omega
  cases h1 : (decide (x.length < y.length) || decide (strKind x < strKind y))
  · cases hf : (occurrences x y 0 x.length (x.length + 1)).isEmpty
    · have hn : (partsBetween x (occurrences x y 0 x.length (x.length + 1)) y.length).length ≤ sizeLine := by
        rw [length_partsBetween]
        have := StrLaws.occ_length_le x y 0 x.length (x.length + 1)
        rw [sizeLine_eq]; omega
      refine call_meets PySem.F.slot_str_split (typeIs_str _ _ _) PySem.F.entry_str_split (PySem.F.args_str_split_2 _ _) (meets_str_split_sep x y t u h1 hy hf hxs hn) ?_
      rw [strsFrom_eq]
      refine k _ _ ?_
      have := strs_values (numbered s.toks (partsBetween x (occurrences x y 0 x.length (x.length + 1)) y.length))
      rwa [show (numbered s.toks (partsBetween x (occurrences x y 0 x.length (x.length + 1)) y.length)).map (·.1) = Txt.split x y from (numbered_texts _ _).trans ((if_neg (ne_true_of_eq_false h1)).trans (if_neg (ne_true_of_eq_false hf))).symm] at this
    · refine call_meets PySem.F.slot_str_split (typeIs_str _ _ _) PySem.F.entry_str_split (PySem.F.args_str_split_2 _ _) (meets_str_split_not_found x y t u h1 hy hf) (k [.str x t] s.toks ?_)
      rw [show Txt.split x y = [x] from (if_neg (ne_true_of_eq_false h1)).trans (if_pos hf)]
      exact .cons x t .nil
  · refine call_meets PySem.F.slot_str_split (typeIs_str _ _ _) PySem.F.entry_str_split (PySem.F.args_str_split_2 _ _) (meets_str_split_cannot_occur x y t u h1) (k [.str x t] s.toks ?_)
    rw [show Txt.split x y = [x] from if_pos h1]
    exact .cons x t .nil
end
section
variable {G : Gh} {A : Around} {env : Env} {g : Heap} {m : Str → Option Value} {mu : List (Addr × Obj)} {s : Shared} {Q : Value → Shared → Prop} {E : Value → Shared → Prop} {np apos pos p : Pos} {e r i : PySem.Expr}
theorem ev_split {a : List Nat} {c : Nat} {pl : Sem Bool} (H : At ⟨G, A, env, g, m, mu⟩ s) (hr : PE ⟨G, A, env, g, m, mu⟩ r (VT a)) (he : PE ⟨G, A, env, g, m, mu⟩ e (VT [c])) (hz : a.length ≤ 100000)
    (k : ∀ D xs g' s', Up g g' → TL g' D xs → xs.map S = Txt.split (S a) (S [c]) → At ⟨G, A, env, g', m, mu⟩ s' → Q (.ref D) s')
    (hst : starEach [e] env = (false, eval e env) :: starEach [] env := by rfl)
    (hev : eval (.Call (.Attribute r "split" apos) [e] [] pos) env = (do
      let ov ← eval r env
      standAt apos.atName
      let (f, first) ← holding [ov] (getMethod ov "split" pl)
      callWith pos f first (backTo pos (starEach [e] env)) (backToKw pos (keywordEach [] env))) := by rfl) :
    wpAny G.M A (eval (.Call (.Attribute r "split" apos) [e] [] pos) env) Q E s := by
  refine methodCall_KW (pl := pl) (pe_run H hr fun u s₁ ⟨t, q⟩ H₁ => ?_) hev
  subst q
  refine GM.split (cw_bi (sp_cons (pe_run H₁ he fun v s₂ ⟨t₂, q₂⟩ H₂ => sp_nil ?_) hst) hst)
  subst q₂
  refine call_split (by rfl) (by rw [S_len]; exact hz) fun vs tk hs => ?_
  obtain ⟨g', u, hD, H₃⟩ := At.freeze (c := ⟨G, A, env, g, m, (_, lstO vs 0) :: mu⟩) (H₂.alloc (o := lstO vs 0))
  have hxs : ((Txt.split (S a) (S [c])).map fun p => p.cps.toList).map S = Txt.split (S a) (S [c]) := by
    rw [List.map_map]
    conv => rhs; rw [← List.map_id (Txt.split (S a) (S [c]))]
    exact List.map_congr_left fun p zz => by simp [S]
  exact k _ ((Txt.split (S a) (S [c])).map fun p => p.cps.toList) g' _ u ⟨vs, 0, hD, by unfold TextsAre; rw [hxs]; exact hs⟩ hxs (H₃.toks tk)
theorem ev_joinG {a : List Nat} {pl : Sem Bool}
    (he : ∀ s', At ⟨G, A, env, g, m, mu⟩ s' → wpAny G.M A (eval e env) (fun v s₁ => Ex3 fun D vs xs => An5 (v = .ref D) (s₁.heap.IsList D vs.toArray) (TextsAre vs xs) (weigh xs ≤ 1048576) (∀ w tk, VT (joinS a xs) w → Q w { s₁ with toks := tk })) E s') (H : At ⟨G, A, env, g, m, mu⟩ s) (hr : PE ⟨G, A, env, g, m, mu⟩ r (VT a)) (hx : a.length ≤ 16)
    (hst : starEach [e] env = (false, eval e env) :: starEach [] env := by rfl)
    (hev : eval (.Call (.Attribute r "join" apos) [e] [] pos) env = (do
      let ov ← eval r env
      standAt apos.atName
      let (f, first) ← holding [ov] (getMethod ov "join" pl)
      callWith pos f first (backTo pos (starEach [e] env)) (backToKw pos (keywordEach [] env))) := by rfl) :
    wpAny G.M A (eval (.Call (.Attribute r "join" apos) [e] [] pos) env) Q E s := by
  refine methodCall_KW (pl := pl) (pe_run H hr fun u s₁ ⟨t, q⟩ H₁ => ?_) hev
  subst q
  refine GM.join (cw_bi (sp_cons (wpAny_mono (he s₁ H₁) (fun v s₂ h₂ => sp_nil ?_) fun zz zz h => h) hst) hst)
  obtain ⟨D, vs, xs, rfl, hl, ht, hw, k⟩ := h₂
  refine join_listW hl (show StrsAre _ (xs.map S) from ht) (by rw [S_len]; exact hx) ?_ fun t' tk => ?_
  · rw [List.map_map, List.length_map]
    have : (xs.map (Str.length ∘ S)) = xs.map (·.length) := List.map_congr_left fun y zz => S_len y
    rw [this]; exact hw
  · rw [join_S]
    exact k _ tk ⟨_, rfl⟩
theorem TextsAre.take : ∀ {vs : List Value} {xs : List (List Nat)} (n : Nat), TextsAre vs xs → TextsAre (vs.take n) (xs.take n)
  | _, _, 0, _ => TextsAre.nil
  | [], [], _ + 1, h => h
  | _ :: _, _ :: _, n + 1, StrsAre.cons _ t r => StrsAre.cons _ t (TextsAre.take n r)
theorem TextsAre.drop : ∀ {vs : List Value} {xs : List (List Nat)} (n : Nat), TextsAre vs xs → TextsAre (vs.drop n) (xs.drop n)
  | _, _, 0, h => h
  | [], [], _ + 1, h => h
  | _ :: _, _ :: _, n + 1, StrsAre.cons _ t r => TextsAre.drop n r
theorem el_upto {c : Cx} {D : Addr} {xs : List (List Nat)} {b : Nat} {e i : PySem.Expr} {p pos : Pos} (he : PE c e (VE (.ref D))) (hi : PE c i (VI (b : Int))) (hD : TL c.g D xs) (hb : b ≤ xs.length) (hz : xs.length ≤ 1000) : EL c (.Subscript e (.Slice none (some i) none p) pos) (xs.take b) := fun s Q E H k => by
  obtain ⟨vs, n, hl, ht⟩ := hD
  have hvl := ht.length
  refine sub_on (pe_run H he fun v s₁ q H₁ => ?_)
  refine wpAny_Slice (evalPart_none_step (evalPart_some_step (pe_run H₁ hi fun u s₂ ⟨t', e'⟩ H₂ => evalPart_none_step ?_)))
  (first | subst q | cases q); subst e'
  have H₃ := H₂.push { cls := .type "slice", data := .fields #[.none, .int b t', .none] }
  have hl' : (s₂.heap.push { cls := .type "slice", data := .fields #[.none, .int b t', .none] }).IsList D vs.toArray := ⟨_, H₃.up _ _ hl, rfl, _, rfl⟩
  refine ⟨"list", _, PySem.F.slot_list_getitem.lookup, hl'.typeIs, wpAny_getItem_list_slice (s := { s₂ with heap := s₂.heap.push { cls := .type "slice", data := .fields #[.none, .int b t', .none] } }) hl' (Heap.IsSliceOf.new ..) .none (.int b t') .none (by simp) ?_ (by simp; rw [sizeLine_eq]; omega)⟩
  rw [slicePick_upto vs.toArray b (by simp; omega)]
  obtain ⟨g', u', hT, H'⟩ := At.freeze (c := ⟨c.G, c.A, c.env, c.g, c.m, (_, lstO (vs.take b) 0) :: c.mu⟩) (H₃.alloc (o := lstO (vs.take b) 0))
  exact k _ g' _ u' ⟨_, 0, hT, ht.take b⟩ H'
theorem el_from {c : Cx} {D : Addr} {xs : List (List Nat)} {b : Nat} {e i : PySem.Expr} {p pos : Pos} (he : PE c e (VE (.ref D))) (hi : PE c i (VI (b : Int))) (hD : TL c.g D xs) (hb : b ≤ xs.length) (hz : xs.length ≤ 1000) : EL c (.Subscript e (.Slice (some i) none none p) pos) (xs.drop b) := fun s Q E H k => by
  obtain ⟨vs, n, hl, ht⟩ := hD
  have hvl := ht.length
  refine sub_on (pe_run H he fun v s₁ q H₁ => ?_)
  refine wpAny_Slice (evalPart_some_step (pe_run H₁ hi fun u s₂ ⟨t', e'⟩ H₂ => evalPart_none_step (evalPart_none_step ?_)))
  (first | subst q | cases q); subst e'
  have H₃ := H₂.push { cls := .type "slice", data := .fields #[.int b t', .none, .none] }
  have hl' : (s₂.heap.push { cls := .type "slice", data := .fields #[.int b t', .none, .none] }).IsList D vs.toArray := ⟨_, H₃.up _ _ hl, rfl, _, rfl⟩
  refine ⟨"list", _, PySem.F.slot_list_getitem.lookup, hl'.typeIs, wpAny_getItem_list_slice (s := { s₂ with heap := s₂.heap.push { cls := .type "slice", data := .fields #[.int b t', .none, .none] } }) hl' (Heap.IsSliceOf.new ..) (.int b t') .none .none (by simp) ?_ (by simp; rw [sizeLine_eq]; omega)⟩
  rw [slicePick_from vs.toArray b (by simp; omega)]
  obtain ⟨g', u', hT, H'⟩ := At.freeze (c := ⟨c.G, c.A, c.env, c.g, c.m, (_, lstO (vs.drop b) 0) :: c.mu⟩) (H₃.alloc (o := lstO (vs.drop b) 0))
  exact k _ g' _ u' ⟨_, 0, hT, ht.drop b⟩ H'
end
end Mine
end
section
open PySem PySem.W PyProof.Rows PySem.Calls PySem.Builtin PySem.Builtin.Str PySem.NumText
namespace Mine
set_option maxRecDepth 100000

noncomputable def dig (c : Nat) : Prop := 48 ≤ c ∧ c ≤ 57
noncomputable def Spoilt (t t' : List Nat) : Prop := (∃ k, k < t.length ∧ t' = t.take k) ∨ (t'.count 10 < t.count 10 ∧ t'.length ≤ t.length ∧ ∀ c ∈ t', c ∈ t) ∨ (Ex4 fun a d d' b => An5 (t = a ++ d :: b) (dig d) (dig d') (d ≠ d') (t' = a ++ d' :: b))
theorem joinS_count : ∀ xs : List (List Nat), xs ≠ [] → (joinS [10] xs).count 10 + 1 = (xs.map (·.count 10)).sum + xs.length
  | [], h => absurd rfl h
  | [x], _ => by simp [joinS]
  | x :: y :: r, _ => by
    have := joinS_count (y :: r) (by simp)
    simp only [joinS, List.count_append, List.map_cons, List.sum_cons, List.length_cons, List.count_cons_self, List.count_nil] at this ⊢
    omega
theorem joinS_lenE : ∀ xs : List (List Nat), xs ≠ [] → (joinS [10] xs).length + 1 = (xs.map (·.length)).sum + xs.length
  | [], h => absurd rfl h
  | [x], _ => by simp [joinS]
  | x :: y :: r, _ => by
    have := joinS_lenE (y :: r) (by simp)
    simp only [joinS, List.length_append, List.map_cons, List.sum_cons, List.length_cons, List.length_nil] at this ⊢
    omega
theorem joinS_mem : ∀ (xs : List (List Nat)) (c : Nat), c ∈ joinS [10] xs → (∃ x ∈ xs, c ∈ x) ∨ (c = 10 ∧ 2 ≤ xs.length)
  | [], c, h => by cases h
  | [x], c, h => .inl ⟨x, .head _, h⟩
  | x :: y :: r, c, h => by
    simp only [joinS, List.mem_append, List.mem_singleton] at h
    rcases h with (h | h) | h
    · exact .inl ⟨x, .head _, h⟩
    · exact .inr ⟨h, by simp⟩
    · rcases joinS_mem (y :: r) c h with ⟨z, hz, hc⟩ | ⟨hc, hl⟩
      · exact .inl ⟨z, .tail _ hz, hc⟩
      · exact .inr ⟨hc, by simp⟩
theorem mem_joinS : ∀ (xs : List (List Nat)) (c : Nat), ((∃ x ∈ xs, c ∈ x) ∨ (c = 10 ∧ 2 ≤ xs.length)) → c ∈ joinS [10] xs
  | [], c, h => by simp at h
  | [x], c, h => by simpa [joinS] using h
  | x :: y :: r, c, h => by
    simp only [joinS, List.mem_append, List.mem_singleton]
    rcases h with ⟨z, hz, hc⟩ | ⟨hc, _⟩
    · rcases List.mem_cons.mp hz with rfl | hz
      · exact .inl (.inl hc)
      · exact .inr (mem_joinS (y :: r) c (.inl ⟨z, hz, hc⟩))
    · exact .inl (.inr hc)
theorem lines_of {a : List Nat} {xs : List (List Nat)} (h : xs.map S = Txt.split (S a) (S [10])) (ha : 10 ∈ a) : joinS [10] xs = a ∧ 2 ≤ xs.length ∧ xs.length ≤ a.count 10 + 1 := by
  have e1 : joinS [10] xs = a := by
    have h1 := join_S [10] xs
    rw [h] at h1
    have h2 : Txt.join (S [10]) (Txt.split (S a) (S [10])) = S a := (StrLaws.glued_eq_join _ _).trans (StrLaws.join_split (S a) (S [10]))
    rw [h2] at h1
    exact (S_inj.mp h1).symm
  have hfree : ∀ x ∈ xs, 10 ∉ x := fun x hx => by
    have := StrLaws.split_free (S a) 10 (S x) (by rw [show (⟨#[10]⟩ : Str) = S [10] from rfl, ← h]; exact List.mem_map_of_mem hx)
    simpa [S] using this
  have hne : xs ≠ [] := fun q => by rw [q] at e1; rw [← e1] at ha; cases ha
  have hc := joinS_count xs hne
  rw [e1] at hc
  refine ⟨e1, ?_, by omega⟩
  match xs, hne, e1, hfree with
  | [x], _, e1, hfree => exact absurd (by rw [← e1] at ha; exact ha) (hfree x (.head _))
  | _ :: _ :: _, _, _, _ => simp
theorem fewer {A B S T n k x : Nat} (c1 : A + 1 = S + n) (c2 : B + 1 = T + k) (s : S = T + x) (h : k + 1 = n) : B < A := by omega
theorem mid_sum {α : Type} (f : α → Nat) (a b : List α) (x : α) : ((a ++ x :: b).map f).sum = ((a ++ b).map f).sum + f x := by
  simp only [List.map_append, List.map_cons, List.sum_append, List.sum_cons]; omega
theorem drop_line {a : List Nat} {xs : List (List Nat)} {g : Nat} (e : joinS [10] xs = a) (hl : 2 ≤ xs.length) (hg : g < xs.length - 1) : (joinS [10] (xs.take g ++ xs.drop (g + 1))).count 10 < a.count 10 ∧ (joinS [10] (xs.take g ++ xs.drop (g + 1))).length ≤ a.length ∧ ∀ c ∈ joinS [10] (xs.take g ++ xs.drop (g + 1)), c ∈ a := by
  have hx : xs = xs.take g ++ xs[g] :: xs.drop (g + 1) := by rw [← List.drop_eq_getElem_cons (by omega), List.take_append_drop]
  have hyl : (xs.take g ++ xs.drop (g + 1)).length + 1 = xs.length := by rw [List.length_append, List.length_take, List.length_drop]; omega
  have hy : xs.take g ++ xs.drop (g + 1) ≠ [] := fun q => by rw [q] at hyl; simp at hyl; omega
  have hxn : xs ≠ [] := fun q => by rw [q] at hl; simp at hl
  have c1 := joinS_count xs hxn
  have l1 := joinS_lenE xs hxn
  rw [e] at c1 l1
  refine ⟨fewer c1 (joinS_count _ hy) ((congrArg (fun z => (z.map (·.count 10)).sum) hx).trans (mid_sum ..)) hyl, Nat.le_of_lt (fewer l1 (joinS_lenE _ hy) ((congrArg (fun z => (z.map (·.length)).sum) hx).trans (mid_sum ..)) hyl), fun c hc => ?_⟩
  rw [← e]
  refine mem_joinS xs c ?_
  rcases joinS_mem _ c hc with ⟨x, hx', hcx⟩ | ⟨hc, _⟩
  · refine .inl ⟨x, ?_, hcx⟩
    rcases List.mem_append.mp hx' with h | h
    · exact List.mem_of_mem_take h
    · exact List.mem_of_mem_drop h
  · exact .inr ⟨hc, hl⟩
end Mine
end
section
open PySem PySem.W PyProof.Rows PySem.Calls PySem.Builtin PySem.Builtin.Str PySem.NumText
namespace Mine
set_option maxRecDepth 100000

theorem shN_dig : ∀ q, q < 10 → shN q = [48 + q] := by
  intro q h
  have : ∀ q : Fin 10, shN q.1 = [48 + q.1] := by decide +kernel
  exact this ⟨q, h⟩
theorem cs_digits : cs "0123456789" = [48, 49, 50, 51, 52, 53, 54, 55, 56, 57] := by kernel_rfl
theorem isD_dig {a : Nat} : isD a = true ↔ dig a := by
  unfold isD dig
  rw [Bool.and_eq_true, decide_eq_true_eq, decide_eq_true_eq]
theorem notdig (a : Nat) : (!decide (a ∈ cs "0123456789")) = !isD a := by rw [in_dg]
section
variable {G : Gh} {A : Around} {env : Env} {g : Heap} {m : Str → Option Value} {ρ : List (Addr × Obj)} {s : Shared} {Q : Value → Shared → Prop} {E : Value → Shared → Prop} {np pp pos : Pos} {e : PySem.Expr} {n : Nat} {Pt : Addr} {o : Obj}
theorem g_dipE {k : Nat} (H : At ⟨G, A, env, g, m, (Pt, o) :: ρ⟩ s) (hp : Pot g o) (hf : gloOK env.scope "_law_dip" = true) (hg : env.globals = mainGlobals) (hpot : PE ⟨G, A, env, g, m, (Pt, o) :: ρ⟩ (.Name "pot" pp) (VE (.ref Pt))) (he : PE ⟨G, A, env, g, m, (Pt, o) :: ρ⟩ e (VI (k : Int))) (hk : 0 < k) (R : Rm A n) (hn : 1 ≤ n)
    (kk : ∀ (j : Nat) (t : Tok) (s' : Shared) (g' : Heap) (o' : Obj), j < k → Up g g' → Pot g' o' → At ⟨G, A, env, g', m, (Pt, o') :: ρ⟩ s' → Q (.int (j : Int) t) s')
    (h1 : starEach [.Name "pot" pp, e] env = (false, eval (.Name "pot" pp) env) :: starEach [e] env := by rfl)
    (h2 : starEach [e] env = (false, eval e env) :: starEach [] env := by rfl)
    (h3 : eval (.Call (.Name "_law_dip" np) [.Name "pot" pp, e] [] pos) env = (do let f ← eval (.Name "_law_dip" np) env; callWith pos f [] (backTo pos (starEach [.Name "pot" pp, e] env)) (backToKw pos (keywordEach [] env))) := by rfl) :
    wpAny G.M A (eval (.Call (.Name "_law_dip" np) [.Name "pot" pp, e] [] pos) env) Q E s :=
  g_def (V := DipV k) (P := P2 (VE (.ref Pt)) (VI (k : Int))) H hp (pe_glob hf hg (by kernel_rfl)) (by kernel_rfl) (pa_two hpot he h1 h2) (fun vs ⟨a, b, e, e1, e2⟩ => by subst e; cases e1; exact law_dip_spec G g Pt k b hk e2) R hn (fun v s' g' o' u hV hp' H' => by obtain ⟨j, hj, t, e⟩ := hV; subst e; exact kk j t s' g' o' hj u hp' H') h1 h3
end
noncomputable def SpoiltV (t : List Nat) (_ : Heap) (v : Value) : Prop := ∃ t', Spoilt t t' ∧ VT t' v
theorem meas {a n jd : Nat} (ha : a < n) (hj : jd < n) (hne : a ≠ jd) : (if (a + 1) % n ≤ jd then jd - (a + 1) % n else jd + n - (a + 1) % n) < (if a ≤ jd then jd - a else jd + n - a) := by
  by_cases hw : a + 1 = n
  · rw [hw, Nat.mod_self]; split <;> split <;> omega
  · rw [Nat.mod_eq_of_lt (by omega)]; split <;> split <;> omega
theorem fn_law_spoilt (P : Params) : FnOK P fi_law_spoilt := ⟨by kernel_rfl, by kernel_rfl, by kernel_rfl⟩
set_option maxHeartbeats 4000000 in
theorem law_spoilt_spec (G : Gh) (g₀ : Heap) (Pt : Addr) (text : List Nat) (vt : Value) (hv : VT text vt) (h0 : 0 < text.length) (hz : text.length ≤ 20000) (h10 : 10 ∈ text) (hn : text.count 10 ≤ 63) (hd : ∃ c ∈ text, dig c) : GSpec G 2 342 Pt [.ref Pt, vt] g₀ (SpoiltV text) := by
  intro A g o ρ s Q E u H hp R kk
  obtain ⟨tt, rfl⟩ := hv
  have hz24 : text.length ≤ 16777216 := Nat.le_trans hz (by decide)
  have hz62 : text.length < 4611686018427387904 := Nat.lt_of_le_of_lt hz (by decide)
  refine enter0 (i := fi_law_spoilt) (binds := [("pot", .ref Pt), ("text", .str (S text) tt)]) (n := 1) fn_law_spoilt H R (by rfl) (by kernel_rfl) fun L s' W H' => ?_
  show wpAny _ _ (execs (List.cons _ _) _) _ _ _
  refine ex_assign_any (g_dip (k := 4) H' hp (by kernel_rfl) rfl (pe_local (by kernel_rfl) (by rfl)) (by decide) W (by decide) fun j1 t1 s₁ g₁ o₁ hj1 u₁ hp₁ H₁ => ?_)
  refine H₁.store (by kernel_rfl) fun s₂ H₂ => ?_
  refine ex_if H₂ (pt_eq_int (pe_locI (t := t1) (by kernel_rfl) (by rfl)) pe_int) ?_ ?_
  · intro h s₃ H₃
    refine ex_ret_any (sub_any (pe_run H₃ (pe_locT (l := text) (t := tt) (by kernel_rfl) (by rfl)) fun v s₄ hv H₄ => ?_))
    obtain ⟨tv, rfl⟩ := hv
    refine wpAny_Slice (evalPart_none_step (evalPart_some_step (g_dipE H₄ hp₁ (by kernel_rfl) rfl (pe_local (by kernel_rfl) (by rfl)) (pe_len_str (pe_locT (l := text) (t := tt) (by kernel_rfl) (by rfl)) hz62) h0 W (by decide) fun j t s₅ g₂ o₂ hj u₂ hp₂ H₅ => evalPart_none_step ?_)))
    refine SBH.sliceItem_ns (keptAt _ s₅) (show AtH _ s₅ s₅.heap from H₅) (fun h' t' k' H' => ?_) (by rw [S_len, sizeLine_eq]; exact hz24)
    rw [slice_ns _ _ (Int.natCast_nonneg _)]
    exact kk _ _ g₂ o₂ (u₁.trans u₂) ⟨text.take j, .inl ⟨j, hj, rfl⟩, _, rfl⟩ hp₂ (At.of H' k').gl
  intro hsort s₃ H₃
  refine ex_if H₃ (pt_eq_int (pe_locI (t := t1) (by kernel_rfl) (by rfl)) pe_int) ?_ ?_
  · intro h s₄ H₄
    refine ex_assign_any (ev_split H₄ (pe_locT (l := text) (t := tt) (by kernel_rfl) (by rfl)) (pe_chr (n := 10) pe_int (by decide)) (by omega) fun D xs g₂ s₅ u₂ hD hxs H₅ => ?_)
    obtain ⟨hj, hl2, hln⟩ := lines_of hxs h10
    refine H₅.store (by kernel_rfl) fun s₆ H₆ => ?_
    have hp₂ := hp₁.up u₂
    obtain ⟨ws, nD, hDo, hts⟩ := hD
    have hwl := hts.length
    refine ex_assign_any (g_dipE (k := xs.length - 1) H₆ hp₂ (by kernel_rfl) rfl (pe_local (by kernel_rfl) (by rfl)) ((pe_sub_int (a := (xs.length : Int)) (b := 1) ((pe_len_list (a := D) (vs := ws) (pe_local (by kernel_rfl) (by rfl)) (fun s H => ⟨_, H.up _ _ hDo, rfl, _, rfl⟩) (by omega)).convI (by rw [hwl])) pe_int).convI (by omega)) (by omega) W (by decide) fun gone tg s₇ g₃ o₃ hgone u₃ hp₃ H₇ => ?_)
    refine H₇.store (by kernel_rfl) fun s₈ H₈ => ?_
    have hD : TL g₃ D xs := ⟨ws, nD, u₃ _ _ hDo, hts⟩
    obtain ⟨M, m1, m2, H₉⟩ : ∃ M : Str → Option Value, An3 (M (Str.ofString "lines") = some (.ref D)) (M (Str.ofString "gone") = some (.int ((gone : Nat) : Int) tg)) (At ⟨G, A.deeper (fi_law_spoilt.env L), fi_law_spoilt.env L, g₃, M, (Pt, o₃) :: ρ⟩ s₈) := ⟨_, by rfl, by rfl, H₈⟩
    obtain ⟨d1, d2, d3⟩ := drop_line hj hl2 hgone
    refine ex_ret_any (ev_joinG (a := [10]) (fun s₉ H₁₀ => el_run H₁₀ (el_add (xs := xs.take gone) (ys := xs.drop (gone + 1)) (el_upto (pe_local (by kernel_rfl) (by exact m1)) (pe_locI (t := tg) (by kernel_rfl) (by exact m2)) hD (by omega) (by omega)) (fun g' u' => el_from (c := ⟨G, _, _, g', M, _⟩) (pe_local (by kernel_rfl) (by exact m1)) ((pe_add_int (a := (gone : Int)) (b := 1) (pe_locI (t := tg) (by kernel_rfl) (by exact m2)) pe_int).convI (by omega)) (⟨ws, nD, u' _ _ (u₃ _ _ hDo), hts⟩) (by omega) (by omega)) (by rw [List.length_take, List.length_drop]; omega)) fun D' g₄ s₁₀ u₄ hD' H₁₁ => ?_) H₉ (pe_chr (n := 10) pe_int (by decide)) (by decide))
    obtain ⟨ws', nD', hDo', hts'⟩ := hD'
    refine ⟨D', ws', _, rfl, ⟨_, H₁₁.up _ _ hDo', rfl, _, rfl⟩, hts', ?_, fun w tk hw => kk w _ g₄ o₃ (((u₁.trans u₂).trans u₃).trans u₄) ⟨_, .inr (.inl ⟨d1, d2, d3⟩), hw⟩ (hp₃.up u₄) (At.toks H₁₁ tk).gl⟩
    have hyl : (xs.take gone ++ xs.drop (gone + 1)).length + 1 = xs.length := by rw [List.length_append, List.length_take, List.length_drop]; omega
    have hne : xs.take gone ++ xs.drop (gone + 1) ≠ [] := fun q => by rw [q] at hyl; simp at hyl; omega
    have := joinS_lenE _ hne
    unfold weigh
    omega
  intro hsort' s₄ H₄
  refine ex_assign_any (g_dipE H₄ hp₁ (by kernel_rfl) rfl (pe_local (by kernel_rfl) (by rfl)) (pe_len_str (pe_locT (l := text) (t := tt) (by kernel_rfl) (by rfl)) hz62) h0 W (by decide) fun at0 t2 s₅ g₂ o₂ hat u₂ hp₂ H₅ => ?_)
  refine H₅.store (by kernel_rfl) fun s₆ H₆ => ?_
  obtain ⟨cd, hcd, hdig⟩ := hd
  obtain ⟨jd, hjd, ejd⟩ := List.getElem_of_mem hcd
  have hjd' : text.getD jd 0 = cd := by rw [List.getD_eq_getElem?_getD, List.getElem?_eq_getElem hjd, ejd]; rfl
  refine ex_while (Ei := fun zz zz => False) (fun zz zz h => h.elim)
    (fun n s'' => Ex3 fun a t M => An6 (M (Str.ofString "at") = some (.int ((a : Nat) : Int) t)) (M (Str.ofString "pot") = some (.ref Pt)) (M (Str.ofString "text") = some (.str (S text) tt)) (At ⟨G, A.deeper (fi_law_spoilt.env L), fi_law_spoilt.env L, g₂, M, (Pt, o₂) :: ρ⟩ s'') (a < text.length) (n = (if a ≤ jd then jd - a else jd + text.length - a))) ?_ _ ⟨at0, t2, _, by rfl, by rfl, by rfl, H₆, hat, rfl⟩
  rintro n s₇ ⟨a, t, M, m1, m2, m3, H₇, ha, rfl⟩
  refine PT.congr (pt_notin_str (pe_item_str (n := a) (pe_locT (l := text) (t := tt) (by kernel_rfl) (by exact m3)) (pe_locI (t := t) (by kernel_rfl) (by exact m1)) ha hz62) pe_strc) (notdig _) s₇ _ _ H₇ fun s₈ H₈ => ?_
  by_cases hc : dig (text.getD a 0)
  · rw [isD_dig.mpr hc, if_neg (by decide)]
    refine ex_ret_any (wpAny_BinOp (wpAny_BinOp (pe_run H₈ (pe_slice_ns (b := a) (pe_locT (l := text) (t := tt) (by kernel_rfl) (by exact m3)) (pe_locI (t := t) (by kernel_rfl) (by exact m1)) hz24) fun v1 s₉ hv1 H₉ => ?_)))
    obtain ⟨tv1, rfl⟩ := hv1
    refine c_ty_any (T := "str") H₉ (by decide +kernel) (by kernel_rfl) fun s₁₀ H₁₀ => sp_cons (wpAny_BinOp (wpAny_BinOp (pe_run H₁₀ (pe_add_int (b := 1) (pe_int_of (pe_item_str (n := a) (pe_locT (l := text) (t := tt) (by kernel_rfl) (by exact m3)) (pe_locI (t := t) (by kernel_rfl) (by exact m1)) ha hz62) (fun c hc' => by rw [List.mem_singleton.mp hc']; exact hc) (by simp) (by simp)) pe_int) fun v2 s₁₁ hv2 H₁₁ => ?_)))
    obtain ⟨tv2, rfl⟩ := hv2
    refine g_dip (k := 9) H₁₁ hp₂ (by kernel_rfl) rfl (pe_local (by kernel_rfl) (by exact m2)) (by decide) W (by decide) fun j t3 s₁₂ g₃ o₃ hj u₃ hp₃ H₁₂ => ?_
    refine add_int (pe_run (H₁₂.toks (s₁₂.toks + 1)) (pe_int (i := 10)) fun v3 s₁₃ hv3 H₁₃ => ?_)
    obtain ⟨tv3, rfl⟩ := hv3
    refine mod_int' (by omega) (sp_nil ?_)
    rw [Int.fmod_eq_emod_of_nonneg _ (by omega)]
    generalize hD : text.getD a 0 = d at hc ⊢
    obtain ⟨c1, c2⟩ := hc
    have hq : ((NumText.digitsVal [d] : Nat) : Int) + 1 + (j : Int) = ((d - 48 + 1 + j : Nat) : Int) := by simp [NumText.digitsVal]
    rw [hq, show ((d - 48 + 1 + j : Nat) : Int) % 10 = (((d - 48 + 1 + j) % 10 : Nat) : Int) by omega]
    generalize hQ : (d - 48 + 1 + j) % 10 = q
    have hq10 : q < 10 := by omega
    refine P.str_of_int (smallN.log (n := q) (by unfold smallN; omega)) ?_
    rw [text_shN, shN_dig q hq10]
    refine SB.add (fun t' k' => ?_) (by rw [S_len, S_len, sizeLine_eq, List.length_take]; simp; omega)
    rw [S_append]
    refine pe_run (At.toks (H₁₃.toks _) _) (pe_slice_sn (a := a + 1) (pe_locT (l := text) (t := tt) (by kernel_rfl) (by exact m3)) ((pe_add_int (a := (a : Int)) (b := 1) (pe_locI (t := t) (by kernel_rfl) (by exact m1)) pe_int).convI (by omega)) (by omega)) fun v4 s₁₄ hv4 H₁₄ => ?_
    obtain ⟨tv4, rfl⟩ := hv4
    refine SB.add (fun t' k' => ?_) (by rw [S_len, S_len, sizeLine_eq, List.length_append, List.length_take, List.length_drop]; simp; omega)
    rw [S_append]
    refine kk _ _ g₃ o₃ ((u₁.trans u₂).trans u₃) ⟨_, .inr (.inr ⟨text.take a, d, 48 + q, text.drop (a + 1), ?_, ⟨c1, c2⟩, ⟨by omega, by omega⟩, by omega, by rw [List.append_assoc]; rfl⟩), _, rfl⟩ hp₃ (At.toks H₁₄ _).gl
    rw [← hD, List.getD_eq_getElem?_getD, List.getElem?_eq_getElem ha]
    show text = text.take a ++ text[a] :: text.drop (a + 1)
    rw [← List.drop_eq_getElem_cons ha, List.take_append_drop]
  · rw [Bool.eq_false_iff.mpr fun q => hc (isD_dig.mp q), if_pos (by decide)]
    have hne : a ≠ jd := fun q => hc (by rw [q, hjd']; exact hdig)
    have em : ((a : Int) + 1) % (text.length : Int) = (((a + 1) % text.length : Nat) : Int) := by rw [Int.natCast_emod, Int.natCast_add]; rfl
    refine ex_assign H₈ (P := VI (((a + 1) % text.length : Nat) : Int)) ((pe_mod_int (pe_add_int (a := (a : Int)) (b := 1) (pe_locI (t := t) (by kernel_rfl) (by exact m1)) pe_int) (pe_len_str (pe_locT (l := text) (t := tt) (by kernel_rfl) (by exact m3)) hz62) (Int.ofNat_lt.mpr h0)).convI em) (by kernel_rfl) fun v s₉ hv H₉ => ?_
    obtain ⟨t6, rfl⟩ := hv
    refine ex_nil ⟨if (a + 1) % text.length ≤ jd then jd - (a + 1) % text.length else jd + text.length - (a + 1) % text.length, ?_, (a + 1) % text.length, t6, _, by rfl, by exact m2, by exact m3, H₉, Nat.mod_lt _ h0, rfl⟩
    exact meas ha hjd hne
end Mine
end
section
open PySem PySem.W PyProof.Rows PySem.Calls PySem.Builtin PySem.Builtin.Str PySem.NumText
namespace Mine
set_option maxRecDepth 100000

theorem shN_step {n : Nat} (h : ¬ n < 10) : shN n = shN (n / 10) ++ shN (n % 10) := by
  have hm : n % 10 < 10 := Nat.mod_lt n (by decide)
  have t : Nat.toDigits 10 (n / 10) ++ Nat.toDigits 10 (n % 10) = Nat.toDigits 10 (10 * (n / 10) + n % 10) := Nat.toDigits_append_toDigits (by decide) (by omega) hm
  rw [Nat.div_add_mod] at t
  unfold shN
  rw [← t, List.map_append]
theorem shN_lead {n : Nat} (h : 0 < n) : (shN n).getD 0 0 ≠ 48 := by
  induction n using Nat.strongRecOn with
  | _ n ih =>
    by_cases h10 : n < 10
    · have : ∀ d : Fin 10, 0 < d.1 → (shN d.1).getD 0 0 ≠ 48 := by decide +kernel
      exact this ⟨n, h10⟩ h
    · have h1 := ih (n / 10) (by omega) (by omega)
      have h2 := shN_ne (n / 10)
      rw [shN_step h10]
      cases hh : shN (n / 10) with
      | nil => exact absurd hh h2
      | cons a t => rw [hh] at h1; exact h1
theorem figs_shN {n : Nat} (h : smallN n) : figs (shN n) = true := by
  have h1 := shN18 h
  have h2 := shN_ne n
  have h3 := shN_all n
  have e1 : (shN n).isEmpty = false := by simpa using h2
  have e2 : (shN n).all isD = true := List.all_eq_true.mpr fun c hc => by have := h3 c hc; simp [isD, this.1, this.2]
  unfold figs
  rw [e1, e2]
  rcases Nat.eq_zero_or_pos n with rfl | hn
  · decide +kernel
  · have := shN_lead hn
    simp only [Bool.false_or, Bool.and_true, Bool.and_eq_true, Bool.or_eq_true, Bool.not_eq_true', decide_eq_false_iff_not, beq_eq_false_iff_ne]
    exact ⟨by omega, .inr this⟩
noncomputable def allW (w : List Nat) : Prop := ∀ c ∈ w, isW c = true
noncomputable def bnd (r : List Nat) : Prop := ∀ c t, r = c :: t → isW c = false
theorem bnd32 (r : List Nat) : bnd (32 :: r) := fun c t h => by cases h; rfl
theorem bnd10 (r : List Nat) : bnd (10 :: r) := fun c t h => by cases h; rfl
theorem bnd41 (r : List Nat) : bnd (41 :: r) := fun c t h => by cases h; rfl
theorem W_dig (n : Nat) : allW (shN n) := fun c hc => by have := shN_all n c hc; simp [isW]; omega
theorem allW.cons {c : Nat} {w : List Nat} (h : isW c = true) (hw : allW w) : allW (c :: w) := fun d hd => by
  rcases List.mem_cons.mp hd with rfl | hd
  · exact h
  · exact hw d hd
theorem tw_app {w r : List Nat} (hw : allW w) (hr : bnd r) : (w ++ r).takeWhile isW = w := by
  induction w with
  | nil =>
    cases r with
    | nil => rfl
    | cons c t => rw [List.nil_append, List.takeWhile_cons, if_neg (by rw [hr c t rfl]; simp)]
  | cons c w ih => rw [List.cons_append, List.takeWhile_cons, if_pos (hw c (.head _)), ih fun d hd => hw d (.tail _ hd)]
theorem skip32 (r : List Nat) : skipB (32 :: r) = skipB r := rfl
theorem skip_ne {c : Nat} {r : List Nat} (h : c ≠ 32) : skipB (c :: r) = c :: r := by
  unfold skipB
  rw [List.dropWhile_cons, if_neg (by simp [isB, h])]
theorem skip_w {w r : List Nat} (hw : allW w) (h0 : w ≠ []) : skipB (w ++ r) = w ++ r := by
  cases w with
  | nil => exact absurd rfl h0
  | cons c w => exact skip_ne fun q => by have := hw c (.head _); rw [q] at this; cases this
theorem wordAt_w {w r : List Nat} (hw : allW w) (h0 : w ≠ []) (hr : bnd r) : wordAt (w ++ r) = w := by
  have h := tw_app hw hr
  cases w with
  | nil => exact absurd rfl h0
  | cons c w =>
    rw [List.cons_append] at h ⊢
    unfold wordAt
    dsimp only
    rw [if_neg ?_, h]
    have := hw c (.head _)
    simp [isW] at this
    omega
theorem word_w {w r : List Nat} (hw : allW w) (h0 : w ≠ []) (hr : bnd r) : pWord (w ++ r) = some (w, r) := by
  unfold pWord
  rw [skip_w hw h0, wordAt_w hw h0 hr, if_neg h0, List.drop_left]
theorem word_32 (r : List Nat) : pWord (32 :: r) = pWord r := by unfold pWord; rw [skip32]
theorem need_32 (x r : List Nat) : pNeed x (32 :: r) = pNeed x r := by unfold pNeed; rw [word_32]
theorem count_32 (r : List Nat) : pCount (32 :: r) = pCount r := by unfold pCount; rw [word_32]
theorem let_32 (c : Nat) (r : List Nat) : pLet c (32 :: r) = pLet c r := by unfold pLet; rw [word_32]
theorem told_32 (r : List Nat) : pTold (32 :: r) = pTold r := by unfold pTold; rw [count_32]
theorem takes_32 (x r : List Nat) : pTakes x (32 :: r) = pTakes x r := by unfold pTakes; rw [skip32]
theorem need_w {w r : List Nat} (hw : allW w) (h0 : w ≠ []) (hr : bnd r) : pNeed w (w ++ r) = some ((), r) := by
  unfold pNeed
  rw [word_w hw h0 hr]
  simp
theorem count_w {n : Nat} {r : List Nat} (hn : smallN n) (hr : bnd r) : pCount (shN n ++ r) = some (n, r) := by
  unfold pCount
  rw [word_w (W_dig n) (shN_ne n) hr]
  simp only [Option.bind, figs_shN hn, if_true, val_shN]
theorem let_w {c n : Nat} {r : List Nat} (hc : isW c = true) (hn : smallN n) (hr : bnd r) : pLet c (c :: shN n ++ r) = some (n, r) := by
  unfold pLet
  rw [word_w (w := c :: shN n) (.cons hc (W_dig n)) (by simp) hr]
  simp [Option.bind, figs_shN hn, val_shN]
theorem takes_w {w r : List Nat} (hw : allW w) (h0 : w ≠ []) (hr : bnd r) : pTakes w (w ++ r) = some (true, r) := by
  unfold pTakes
  rw [skip_w hw h0, wordAt_w hw h0 hr, if_pos rfl, List.drop_left]
theorem takes_no {x w r : List Nat} (hw : allW w) (h0 : w ≠ []) (hr : bnd r) (hx : w ≠ x) : pTakes x (w ++ r) = some (false, w ++ r) := by
  unfold pTakes
  rw [skip_w hw h0, wordAt_w hw h0 hr, if_neg hx]
theorem end_w (r : List Nat) : pEnd (10 :: r) = some ((), r) := by
  unfold pEnd
  rw [skip_ne (by decide)]
  rfl
theorem told_w {x r : List Nat} (hx : smallN x.length) : pTold (shN x.length ++ 32 :: (x ++ r)) = some (x, r) := by
  unfold pTold
  rw [count_w hx (bnd32 _)]
  simp [Option.bind]
theorem joinB_cons (x : List Nat) : ∀ xs : List (List Nat), joinB (x :: xs) = x ++ (xs.map (32 :: ·)).flatten
  | [] => by simp [joinB]
  | y :: r => by rw [joinB, joinB_cons y r]; simp
theorem regsLoop_w : ∀ (l : List Nat) (k : Nat) (acc r : List Nat), l.length < k → (∀ n ∈ l, smallN n) → pRegsLoop k acc ((l.map fun n => 32 :: regT n).flatten ++ 41 :: r) = some (acc ++ l, r)
  | [], 0, _, _, h, _ => absurd h (by simp)
  | [], k + 1, acc, r, _, _ => by
    rw [pRegsLoop]
    show (if wordAt (skipB (41 :: r)) = [41] then some (acc, (skipB (41 :: r)).drop 1) else _) = _
    rw [skip_ne (by decide), if_pos (by rfl)]
    simp
  | _ :: _, 0, _, _, h, _ => absurd h (by simp)
  | n :: l, k + 1, acc, r, h, hs => by
    rw [pRegsLoop]
    have hb : bnd ((l.map fun n => 32 :: regT n).flatten ++ 41 :: r) := by
      cases l with
      | nil => exact bnd41 _
      | cons a l => exact bnd32 _
    have e : ((n :: l).map fun n => 32 :: regT n).flatten ++ 41 :: r = 32 :: ((114 :: shN n) ++ ((l.map fun n => 32 :: regT n).flatten ++ 41 :: r)) := by simp [regT]
    have hw : allW (114 :: shN n) := .cons (by rfl) (W_dig n)
    rw [e, skip32, skip_w hw (by simp), wordAt_w hw (by simp) hb, if_neg (by simp), let_w (by rfl) (hs n (.head _)) hb]
    simp only [Option.bind]
    rw [regsLoop_w l k (acc ++ [n]) r (by simp at h; omega) fun m hm => hs m (.tail _ hm)]
    simp
theorem regsLoop_32 (k : Nat) (acc r : List Nat) : pRegsLoop k acc (32 :: r) = pRegsLoop k acc r := by
  cases k with
  | zero => rfl
  | succ k => rw [pRegsLoop, pRegsLoop, skip32]
theorem flat_len {α : Type} (f : α → List Nat) (hf : ∀ x, 1 ≤ (f x).length) : ∀ l : List α, l.length ≤ (l.map f).flatten.length
  | [] => by simp
  | x :: l => by have := flat_len f hf l; have := hf x; simp at *; omega
theorem regs_w (l : List Nat) (r : List Nat) (hs : ∀ n ∈ l, smallN n) : pRegs (regsT l ++ r) = some (l, r) := by
  have hn : ∀ t, pNeed [40] (40 :: t) = some ((), t) := fun t => by unfold pNeed pWord; rw [skip_ne (by decide)]; rfl
  cases l with
  | nil =>
    show pRegs (40 :: 41 :: r) = _
    unfold pRegs
    rw [hn]
    exact regsLoop_w [] _ [] r (by simp) hs
  | cons n l =>
    have e : regsT (n :: l) ++ r = 40 :: ((114 :: shN n) ++ ((l.map fun n => 32 :: regT n).flatten ++ 41 :: r)) := by
      unfold regsT
      rw [List.map_cons, joinB_cons]
      simp [regT, List.map_map]
      rfl
    have e2 : ((n :: l).map fun n => 32 :: regT n).flatten ++ 41 :: r = 32 :: ((114 :: shN n) ++ ((l.map fun n => 32 :: regT n).flatten ++ 41 :: r)) := by simp [regT]
    rw [e]
    unfold pRegs
    rw [hn]
    show pRegsLoop _ [] _ = _
    rw [← regsLoop_32, ← e2]
    refine regsLoop_w (n :: l) _ [] r ?_ hs
    have := flat_len (fun n => 32 :: regT n) (fun x => by simp) l
    simp only [List.length_append, List.length_cons]
    omega
theorem regs_32 (r : List Nat) : pRegs (32 :: r) = pRegs r := by unfold pRegs; rw [need_32]
theorem rowsLoop_w : ∀ (l : List Row) (k : Nat) (acc : List Row) (r : List Nat), l.length < k → (∀ e ∈ l, rowOK e) → pRowsLoop k acc ((l.map fun e => 32 :: rowT e).flatten ++ 10 :: r) = some (acc ++ l, 10 :: r)
  | [], 0, _, _, h, _ => absurd h (by simp)
  | [], k + 1, acc, r, _, _ => by
    rw [pRowsLoop]
    show (if wordAt (skipB (10 :: r)) = [] then some (acc, skipB (10 :: r)) else _) = _
    rw [skip_ne (by decide), if_pos (by rfl)]
    simp
  | _ :: _, 0, _, _, h, _ => absurd h (by simp)
  | x :: l, k + 1, acc, r, h, hs => by
    rw [pRowsLoop]
    obtain ⟨a, b, c⟩ := x
    obtain ⟨h1, h2, h3⟩ := hs _ (.head _)
    have e : (((a, b, c) :: l).map fun e => 32 :: rowT e).flatten ++ 10 :: r = 32 :: ((114 :: shN a) ++ 32 :: ((112 :: shN b) ++ 32 :: (regsT c ++ ((l.map fun e => 32 :: rowT e).flatten ++ 10 :: r)))) := by simp [rowT]
    have hw : allW (114 :: shN a) := .cons (by rfl) (W_dig a)
    rw [e, skip32, skip_w hw (by simp), wordAt_w hw (by simp) (bnd32 _), if_neg (by simp), let_w (by rfl) h1 (bnd32 _)]
    simp only [Option.bind]
    rw [let_32, let_w (by rfl) h2 (bnd32 _)]
    simp only
    rw [regs_32, regs_w c _ h3.2]
    simp only
    rw [rowsLoop_w l k _ r (by simp at h; omega) fun m hm => hs m (.tail _ hm)]
    simp
theorem rowsLoop_32 (k : Nat) (acc : List Row) (r : List Nat) : pRowsLoop k acc (32 :: r) = pRowsLoop k acc r := by
  cases k with
  | zero => rfl
  | succ k => rw [pRowsLoop, pRowsLoop, skip32]
theorem rows_w (l : List Row) (r : List Nat) (hs : ∀ e ∈ l, rowOK e) : pRows (32 :: (joinB (l.map rowT) ++ 10 :: r)) = some (l, 10 :: r) := by
  unfold pRows
  have e : pRowsLoop ((32 :: (joinB (l.map rowT) ++ 10 :: r)).length + 1) [] (32 :: (joinB (l.map rowT) ++ 10 :: r)) = pRowsLoop ((32 :: (joinB (l.map rowT) ++ 10 :: r)).length + 1) [] ((l.map fun e => 32 :: rowT e).flatten ++ 10 :: r) := by
    cases l with
    | nil => exact rowsLoop_32 _ _ _
    | cons x l => rw [List.map_cons, joinB_cons]; simp [List.map_map]; rfl
  rw [e]
  have := flat_len (fun e => 32 :: rowT e) (fun x => by simp) l
  have e3 : (joinB (l.map rowT)).length + 1 ≥ l.length := by
    cases l with
    | nil => simp
    | cons x l =>
      rw [List.map_cons, joinB_cons, List.map_map]
      have := flat_len (fun e => 32 :: rowT e) (fun x => by simp) l
      simp only [List.length_append, List.length_cons]
      show _ + (l.map fun e => 32 :: rowT e).flatten.length + 1 ≥ _
      omega
  refine rowsLoop_w l _ [] r ?_ hs
  simp only [List.length_append, List.length_cons]
  omega
theorem opd_w {srt : Srt} {o : Opd} {r : List Nat} (hf : fits srt o = true) (ho : opdOK o) (hr : bnd r) (hnr : srt ≠ .rows) : pOpd srt (32 :: (opdT srt o ++ r)) = some (o, r) := by
  unfold pOpd
  by_cases h1 : srt = .sources
  · subst h1
    rw [if_pos rfl]
    cases o with
    | num n => cases hf
    | rows l => cases hf
    | regs l => rw [regs_32]; show (pRegs (regsT l ++ r)).bind _ = _; rw [regs_w l r ho.2]; rfl
  · rw [if_neg h1, if_neg hnr]
    by_cases h3 : srt = .prim
    · subst h3
      rw [if_pos rfl, word_32]
      cases o with
      | regs l => cases hf
      | rows l => cases hf
      | num n =>
        have hn : n < 6 := of_decide_eq_true hf
        show (pWord (primNames.getD n [] ++ r)).bind _ = _
        have hp : ∀ n : Fin 6, (primNames.getD n.1 []).all isW = true ∧ (primNames.getD n.1 []).isEmpty = false ∧ primOf (primNames.getD n.1 []) = some n.1 := by
          intro n
          match n with
          | ⟨0, _⟩ | ⟨1, _⟩ | ⟨2, _⟩ | ⟨3, _⟩ | ⟨4, _⟩ | ⟨5, _⟩ => exact ⟨by kernel_rfl, by kernel_rfl, by kernel_rfl⟩
        obtain ⟨p1, p2, p3⟩ := hp ⟨n, hn⟩
        rw [word_w (fun c hc => List.all_eq_true.mp p1 c hc) (by simpa using p2) hr]
        simp only [Option.bind]
        rw [p3]
    · rw [if_neg h3, let_32]
      cases o with
      | regs l => cases srt <;> first | exact absurd hf Bool.false_ne_true | exact absurd rfl h1 | exact absurd rfl hnr | exact absurd rfl h3
      | rows l => cases srt <;> first | exact absurd hf Bool.false_ne_true | exact absurd rfl h1 | exact absurd rfl hnr | exact absurd rfl h3
      | num n =>
        show (pLet srt.letter ((if srt = .prim then primNames.getD n [] else srt.letter :: shN n) ++ r)).bind _ = _
        rw [if_neg h3]
        rw [let_w (by cases srt <;> first | rfl | exact absurd rfl h1 | exact absurd rfl hnr | exact absurd rfl h3) ho hr]
        rfl
theorem bnd_ops (ss : List (List Nat)) (r : List Nat) : bnd ((ss.map (32 :: ·)).flatten ++ 10 :: r) := by
  cases ss with
  | nil => exact bnd10 _
  | cons a l => exact bnd32 _
theorem opds_w : ∀ {ss : List Srt} {os : List Opd} {r : List Nat}, fitsAll ss os = true → (∀ o ∈ os, opdOK o) → (∀ x ∈ ss, x ≠ .rows) → pOpds ss (((opdsT ss os).map (32 :: ·)).flatten ++ 10 :: r) = some (os, 10 :: r)
  | [], [], r, _, _, _ => rfl
  | [], _ :: _, _, h, _, _ => by cases h
  | _ :: _, [], _, h, _, _ => by cases h
  | s :: ss, o :: os, r, h, ho, hs => by
    have h := fitsAll_cons.mp h
    have e : ((opdsT (s :: ss) (o :: os)).map (32 :: ·)).flatten ++ 10 :: r = 32 :: (opdT s o ++ (((opdsT ss os).map (32 :: ·)).flatten ++ 10 :: r)) := by simp [opdsT]
    rw [pOpds, e, opd_w h.1 (ho o (.head _)) (bnd_ops _ _) (hs s (.head _))]
    simp only [Option.bind]
    rw [opds_w h.2 (fun x hx => ho x (.tail _ hx)) fun x hx => hs x (.tail _ hx)]
theorem opsTab_words : (opsTab.all fun e => e.1.all isW && !e.1.isEmpty && !decide (e.1 = [101, 110, 100]) && !decide (e.1.take 1 = [76])) = true := by kernel_rfl
theorem sorts_word {w : List Nat} {ss : List Srt} (h : sortsOf w = some ss) : allW w ∧ w ≠ [] ∧ w ≠ [101, 110, 100] ∧ w.take 1 ≠ [76] := by
  unfold sortsOf opsRow at h
  obtain ⟨e, he, rfl⟩ := Option.map_eq_some_iff.mp h
  have h1 := List.find?_some he
  have h2 := List.mem_of_find?_eq_some he
  have h3 := List.all_eq_true.mp opsTab_words e h2
  have h4 : e.1 = w := of_decide_eq_true h1
  rw [h4] at h3
  simp only [Bool.and_eq_true, Bool.not_eq_true', decide_eq_false_iff_not] at h3
  exact ⟨fun c hc => List.all_eq_true.mp h3.1.1.1 c hc, by simpa using h3.1.1.2, h3.1.2, h3.2⟩
theorem opsTab_rows : (opsTab.all fun e => decide (e.2.2 = [.rows]) || e.2.2.all fun x => !decide (x = .rows)) = true := by kernel_rfl
theorem sorts_rows {w : List Nat} {ss : List Srt} (h : sortsOf w = some ss) : ss = [.rows] ∨ ∀ x ∈ ss, x ≠ .rows := by
  unfold sortsOf opsRow at h
  obtain ⟨e, he, rfl⟩ := Option.map_eq_some_iff.mp h
  rcases Bool.or_eq_true_iff.mp (List.all_eq_true.mp opsTab_rows e (List.mem_of_find?_eq_some he)) with q | q
  · exact .inl (of_decide_eq_true q)
  · exact .inr fun x hx hr => by
      have := List.all_eq_true.mp q x hx
      rw [decide_eq_true hr] at this
      cases this
theorem ins_w {i : Ins} {r : List Nat} (h : insFine i) : pIns (insT i ++ 10 :: r) = some (i, r) := by
  obtain ⟨w, os⟩ := i
  obtain ⟨⟨ss, hs, hf⟩, ho⟩ := h
  obtain ⟨h1, h2, _, _⟩ := sorts_word hs
  unfold insT
  simp only at hs hf ho ⊢
  rw [hs, Option.getD_some, joinB_cons, List.append_assoc]
  unfold pIns
  rw [word_w h1 h2 (bnd_ops _ _)]
  simp only [Option.bind]
  rw [hs]
  simp only
  have hops : pOpds ss (((opdsT ss os).map (32 :: ·)).flatten ++ 10 :: r) = some (os, 10 :: r) := by
    rcases sorts_rows hs with rfl | hnr
    · cases os with
      | nil => cases hf
      | cons o os =>
        have hf := fitsAll_cons.mp hf
        cases os with
        | cons _ _ => cases hf.2
        | nil =>
          cases o with
          | num n => cases hf.1
          | regs l => cases hf.1
          | rows l =>
            have e : ((opdsT [.rows] [.rows l]).map (32 :: ·)).flatten ++ 10 :: r = 32 :: (joinB (l.map rowT) ++ 10 :: r) := by simp [opdsT, opdT]
            rw [e, pOpds, pOpd, if_neg (by simp), if_pos rfl, rows_w l r (ho _ (.head _)).2]
            rfl
    · exact opds_w hf ho hnr
  rw [hops]
  simp only
  rw [end_w]
end Mine
end
section
open PySem PySem.W PyProof.Rows PySem.Calls PySem.Builtin PySem.Builtin.Str PySem.NumText
namespace Mine
set_option maxRecDepth 100000

theorem ins_32 (r : List Nat) : pIns (32 :: r) = pIns r := by unfold pIns; rw [word_32]
theorem insT_word {i : Ins} (h : insFine i) (r : List Nat) : ∃ X, insT i ++ 10 :: r = i.w ++ X ∧ bnd X := by
  unfold insT
  rw [joinB_cons, List.append_assoc]
  exact ⟨_, rfl, bnd_ops _ _⟩
noncomputable def linesT (met : Nat → Bool) (j : Nat) (l : List Ins) (r : List Nat) : List Nat := ((insLs met j l).map (· ++ [10])).flatten ++ ([101, 110, 100] ++ 10 :: r)
theorem linesT_cons (met : Nat → Bool) (j : Nat) (i : Ins) (l : List Ins) (r : List Nat) : linesT met j (i :: l) r = aheadT (met j) j ++ (insT i ++ 10 :: linesT met (j + 1) l r) := by
  unfold linesT
  rw [insLs]
  simp
theorem inssLoop_w {met : Nat → Bool} {all : List Ins} (hm : met = metB all) (hz : smallN all.length) : ∀ (l : List Ins) (k : Nat) (acc : List Ins) (told r : List Nat), l.length < k → (∀ i ∈ l, insFine i) → acc ++ l = all → told = (List.range acc.length).filter met → pInssLoop k acc told (linesT met acc.length l r) = some (all, r)
  | [], 0, _, _, _, h, _, _, _ => absurd h (by simp)
  | _ :: _, 0, _, _, _, h, _, _, _ => absurd h (by simp)
  | [], k + 1, acc, told, r, _, _, ha, ht => by
    rw [pInssLoop]
    have e : linesT met acc.length [] r = [101, 110, 100] ++ 10 :: r := by simp [linesT, insLs]
    have hw : allW [101, 110, 100] := fun c hc => by simp at hc; rcases hc with rfl | rfl | rfl <;> rfl
    rw [e, skip_w hw (by simp), wordAt_w hw (by simp) (bnd10 _), if_pos rfl]
    unfold pInssEnd
    rw [List.append_nil] at ha
    rw [if_pos (by rw [ht, hm, ha]; rfl)]
    show (pEnd (10 :: r)).bind _ = _
    rw [end_w, ha]; rfl
  | i :: l, k + 1, acc, told, r, h, hs, ha, ht => by
    have hi := hs i (.head _)
    obtain ⟨⟨ss, hss, _⟩, _⟩ := hi
    obtain ⟨w1, w2, w3, w4⟩ := sorts_word hss
    have ih := inssLoop_w hm hz l k (acc ++ [i]) (if met acc.length = true then told ++ [acc.length] else told) r (by simp at h; omega) (fun j hj => hs j (.tail _ hj)) (by rw [List.append_assoc]; exact ha) (by
      rw [List.length_append, List.length_singleton, List.range_succ, List.filter_append, ← ht]
      cases hq : met acc.length <;> simp [List.filter_cons, hq])
    rw [List.length_append, List.length_singleton] at ih
    have hj : smallN acc.length := by
      have : all.length = acc.length + (l.length + 1) := by rw [← ha]; simp
      unfold smallN at hz ⊢; omega
    obtain ⟨X, hX, hXb⟩ := insT_word (hs i (.head _)) (linesT met (acc.length + 1) l r)
    rw [pInssLoop, linesT_cons]
    cases hmj : met acc.length with
    | true =>
      rw [hmj] at ih
      have e : aheadT true acc.length ++ (insT i ++ 10 :: linesT met (acc.length + 1) l r) = (76 :: shN acc.length) ++ (32 :: (insT i ++ 10 :: linesT met (acc.length + 1) l r)) := by simp [aheadT]
      have hw : allW (76 :: shN acc.length) := .cons (by rfl) (W_dig _)
      rw [e, skip_w hw (by simp), wordAt_w hw (by simp) (bnd32 _), if_neg (by simp), if_neg (by simp)]
      have hl : pLabel acc.length ((76 :: shN acc.length) ++ (32 :: (insT i ++ 10 :: linesT met (acc.length + 1) l r))) = some (true, 32 :: (insT i ++ 10 :: linesT met (acc.length + 1) l r)) := by
        unfold pLabel
        rw [skip_w hw (by simp), wordAt_w hw (by simp) (bnd32 _), if_pos (by rfl), let_w (by rfl) hj (bnd32 _)]
        simp [Option.bind]
      rw [hl]
      simp only [Option.bind]
      rw [ins_32, ins_w (hs i (.head _))]
      exact ih
    | false =>
      rw [hmj] at ih
      have e : skipB (aheadT false acc.length ++ (insT i ++ 10 :: linesT met (acc.length + 1) l r)) = i.w ++ X := by
        rw [hX]
        show skipB (32 :: 32 :: 32 :: (i.w ++ X)) = _
        rw [skip32, skip32, skip32, skip_w w1 w2]
      have e2 : (i.w ++ X).isEmpty = false := by
        cases hh : i.w with
        | nil => exact absurd hh w2
        | cons => rfl
      rw [e, wordAt_w w1 w2 hXb, if_neg w3, e2, if_neg (by simp)]
      have hl : pLabel acc.length (i.w ++ X) = some (false, i.w ++ X) := by
        unfold pLabel
        rw [skip_w w1 w2, wordAt_w w1 w2 hXb, if_neg w4]
      rw [hl]
      simp only [Option.bind]
      rw [← hX, ins_w (hs i (.head _))]
      exact ih
theorem inss_w {l : List Ins} (hz : smallN l.length) (hs : ∀ i ∈ l, insFine i) (r : List Nat) : pInss (linesT (metB l) 0 l r) = some (l, r) := by
  unfold pInss
  refine inssLoop_w rfl hz l _ [] [] r ?_ hs rfl rfl
  have : l.length ≤ ((insLs (metB l) 0 l).map (· ++ [10])).flatten.length := by
    have := flat_len (fun x : List Nat => x ++ [10]) (fun x => by simp) (insLs (metB l) 0 l)
    rwa [insLs_len] at this
  unfold linesT
  rw [List.length_append]
  omega
theorem W_of {w : List Nat} (h : w.all isW = true) : allW w := fun c hc => List.all_eq_true.mp h c hc
theorem ne_of {w : List Nat} (h : w.isEmpty = false) : w ≠ [] := by simpa using h
theorem bs {α β : Type} {x : Option α} {a : α} {f : α → Option β} {y : Option β} (e : x = some a) (h : f a = y) : x.bind f = y := by subst e; exact h
theorem need32 {w r : List Nat} (hw : allW w) (h0 : w ≠ []) (hr : bnd r) : pNeed w (32 :: (w ++ r)) = some ((), r) := (need_32 _ _).trans (need_w hw h0 hr)
theorem count32 {n : Nat} {r : List Nat} (hn : smallN n) (hr : bnd r) : pCount (32 :: (shN n ++ r)) = some (n, r) := (count_32 _).trans (count_w hn hr)
theorem told32 {x r : List Nat} (hx : smallN x.length) : pTold (32 :: (shN x.length ++ 32 :: (x ++ r))) = some (x, r) := (told_32 _).trans (told_w hx)
theorem proc_w {p : Proc} (hp : procOK p) (r : List Nat) : pProc p.number ((joinB (headW p)).drop (cs "procedure").length ++ 10 :: linesT (metB p.ins) 0 p.ins r) = some (p, r) := by
  have hz : smallN p.ins.length := by have := hp.len; unfold smallN; omega
  have ht : smallN p.title.length := by have := hp.ti; unfold smallN; omega
  have hI := inss_w hz hp.ins r
  generalize hT : linesT (metB p.ins) 0 p.ins r = T at hI ⊢
  have e : joinB (headW p) = cs "procedure" ++ (((headW p).drop 1).map (32 :: ·)).flatten := by
    unfold headW
    simp only [List.cons_append, joinB_cons]
    rfl
  rw [e, List.drop_left]
  obtain ⟨num, title, need, rest, cont, regs, free, ins⟩ := p
  have n1 := hp.num
  have n2 := hp.need
  have n3 := hp.regs
  have n4 := hp.free
  simp only at n1 n2 n3 n4 ht hI ⊢
  generalize hY : 32 :: (cs "free" ++ 32 :: (shN free ++ 32 :: (cs "title" ++ 32 :: (shN title.length ++ 32 :: (title ++ 10 :: T))))) = Y
  have kY : (pNeed (cs "free") Y).bind (fun a₃ => (pCount a₃.2).bind fun fr =>
    (pNeed (cs "title") fr.2).bind fun a₄ => (pTold a₄.2).bind fun ti => (pEnd ti.2).bind fun a₅ => (pInss a₅.2).bind fun is => some ((⟨num, ti.1, need, rest, cont, regs, fr.1, is.1⟩ : Proc), is.2)) = some (⟨num, title, need, rest, cont, regs, free, ins⟩, r) := by
    subst hY
    exact bs (need32 (W_of (by kernel_rfl)) (ne_of (by kernel_rfl)) (bnd32 _)) (bs (count32 n4 (bnd32 _)) (bs (need32 (W_of (by kernel_rfl)) (ne_of (by kernel_rfl)) (bnd32 _)) (bs (told32 ht) (bs (end_w _) (bs hI rfl)))))
  generalize hZ : cs "registers" ++ 32 :: (shN regs ++ Y) = Z
  have hYb : bnd Y := by rw [← hY]; exact bnd32 _
  have kZ : (pNeed (cs "registers") Z).bind (fun a₂ => (pCount a₂.2).bind fun rg => (pNeed (cs "free") rg.2).bind fun a₃ => (pCount a₃.2).bind fun fr =>
    (pNeed (cs "title") fr.2).bind fun a₄ => (pTold a₄.2).bind fun ti => (pEnd ti.2).bind fun a₅ => (pInss a₅.2).bind fun is => some ((⟨num, ti.1, need, rest, cont, rg.1, fr.1, is.1⟩ : Proc), is.2)) = some (⟨num, title, need, rest, cont, regs, free, ins⟩, r) := by
    subst hZ
    exact bs (need_w (W_of (by kernel_rfl)) (ne_of (by kernel_rfl)) (bnd32 _)) (bs (count32 n3 hYb) kY)
  have hZ32 : pNeed (cs "registers") (32 :: Z) = pNeed (cs "registers") Z := need_32 _ _
  have hZno : ∀ x, cs "registers" ≠ x → pTakes x Z = some (false, Z) := fun x hx => by
    rw [← hZ]; exact takes_no (W_of (by kernel_rfl)) (ne_of (by kernel_rfl)) (bnd32 _) hx
  have hne1 : cs "registers" ≠ cs "rest" := by decide +kernel
  have hne2 : cs "registers" ≠ cs "continuation" := by decide +kernel
  have hne3 : cs "continuation" ≠ cs "rest" := by decide +kernel
  have eT : (((headW ⟨num, title, need, rest, cont, regs, free, ins⟩).drop 1).map (32 :: ·)).flatten ++ 10 :: T = 32 :: (shN num ++ 32 :: (cs "needed" ++ 32 :: (shN need ++ ((if rest = true then 32 :: cs "rest" else []) ++ ((if cont = true then 32 :: cs "continuation" else []) ++ 32 :: Z))))) := by
    rw [← hZ, ← hY]
    unfold headW
    cases rest <;> cases cont <;> simp
  rw [eT]
  unfold pProc
  refine bs (count32 n1 (bnd32 _)) ((if_pos rfl).trans (bs (need32 (W_of (by kernel_rfl)) (ne_of (by kernel_rfl)) (bnd32 _)) ?_))
  have wR : allW (cs "rest") := W_of (by kernel_rfl)
  have nR : cs "rest" ≠ [] := ne_of (by kernel_rfl)
  have wC : allW (cs "continuation") := W_of (by kernel_rfl)
  have nC : cs "continuation" ≠ [] := ne_of (by kernel_rfl)
  cases rest <;> cases cont <;> simp only [Bool.false_eq_true, if_false, if_true, List.nil_append, List.cons_append]
  · exact bs (count32 n2 (bnd32 _)) (bs ((takes_32 _ _).trans (hZno _ hne1)) (bs (hZno _ hne2) kZ))
  · exact bs (count32 n2 (bnd32 _)) (bs ((takes_32 _ _).trans (takes_no wC nC (bnd32 _) hne3)) (bs (takes_w wC nC (bnd32 _)) ((congrArg (fun q => Option.bind q _) hZ32).trans kZ)))
  · exact bs (count32 n2 (bnd32 _)) (bs ((takes_32 _ _).trans (takes_w wR nR (bnd32 _))) (bs ((takes_32 _ _).trans (hZno _ hne2)) kZ))
  · exact bs (count32 n2 (bnd32 _)) (bs ((takes_32 _ _).trans (takes_w wR nR (bnd32 _))) (bs ((takes_32 _ _).trans (takes_w wC nC (bnd32 _))) ((congrArg (fun q => Option.bind q _) hZ32).trans kZ)))
theorem codeT_cons (p : Proc) (ps : List Proc) : codeT (p :: ps) = joinB (headW p) ++ 10 :: linesT (metB p.ins) 0 p.ins (codeT ps) := by
  unfold codeT linesT procLs
  have : cs "end" = [101, 110, 100] := by kernel_rfl
  rw [List.flatMap_cons, this]
  simp
theorem procsLoop_w : ∀ (l : List Proc) (k : Nat) (acc : List Proc), l.length < k → (∀ p ∈ l, procOK p) → (∀ (i : Nat) (p : Proc), l[i]? = some p → p.number = acc.length + i) → pProcsLoop k acc (codeT l) = some (acc ++ l, [])
  | [], 0, _, h, _, _ => absurd h (by simp)
  | _ :: _, 0, _, h, _, _ => absurd h (by simp)
  | [], k + 1, acc, _, _, _ => by
    rw [pProcsLoop]
    show (if wordAt [] = cs "procedure" then _ else some (acc, [])) = _
    rw [if_neg (by decide +kernel), List.append_nil]
  | p :: ps, k + 1, acc, h, hp, hn => by
    have hpp := hp p (.head _)
    have hn0 := hn 0 p rfl
    rw [pProcsLoop, codeT_cons]
    have e : joinB (headW p) = cs "procedure" ++ (joinB (headW p)).drop (cs "procedure").length := by
      unfold headW
      simp only [List.cons_append, joinB_cons]
      rw [List.drop_left]
    have eb : bnd ((joinB (headW p)).drop (cs "procedure").length ++ 10 :: linesT (metB p.ins) 0 p.ins (codeT ps)) := by
      unfold headW
      simp only [List.cons_append, joinB_cons, List.nil_append]
      rw [List.drop_left]
      exact bnd_ops _ _
    have hw : allW (cs "procedure") := W_of (by kernel_rfl)
    have h0 : cs "procedure" ≠ [] := ne_of (by kernel_rfl)
    have e2 : joinB (headW p) ++ 10 :: linesT (metB p.ins) 0 p.ins (codeT ps) = cs "procedure" ++ ((joinB (headW p)).drop (cs "procedure").length ++ 10 :: linesT (metB p.ins) 0 p.ins (codeT ps)) := by
      rw [← List.append_assoc, ← e]
    rw [e2, skip_w hw h0, wordAt_w hw h0 eb, if_pos rfl, List.drop_left]
    have := proc_w hpp (codeT ps)
    rw [hn0, Nat.add_zero] at this
    rw [this]
    simp only [Option.bind]
    rw [procsLoop_w ps k (acc ++ [p]) (by simp at h; omega) (fun q hq => hp q (.tail _ hq)) fun i q hq => by
      have := hn (i + 1) q (by simpa using hq)
      rw [List.length_append, List.length_singleton]; omega]
    simp
theorem code_w {ps : List Proc} (hp : ∀ p ∈ ps, procOK p) (hn : ∀ (i : Nat) (p : Proc), ps[i]? = some p → p.number = i) : pCode (codeT ps) = some ps := by
  unfold pCode pProcs
  have hl : ps.length ≤ (codeT ps).length := by
    clear hp hn
    induction ps with
    | nil => simp
    | cons p ps ih =>
      rw [codeT_cons]
      unfold linesT
      simp only [List.length_append, List.length_cons]
      omega
  rw [procsLoop_w ps _ [] (by omega) hp fun i p h => by simpa using hn i p h]
  simp
end Mine
end
section
open PySem PySem.W PyProof.Rows PySem.Calls PySem.Builtin PySem.Builtin.Str PySem.NumText
namespace Mine
set_option maxRecDepth 100000

noncomputable def opdSm : Opd → Prop
  | .num n => smallN n
  | .regs l => ∀ n ∈ l, smallN n
  | .rows rs => ∀ e ∈ rs, smallN e.1 ∧ smallN e.2.1 ∧ ∀ n ∈ e.2.2, smallN n
theorem figs_small {w : List Nat} (h : figs w = true) : smallN (digitsVal w) := by
  obtain ⟨h1, h2, h3, _⟩ := figs_all h
  have : ∀ (w : List Nat) (a : Nat), AllDigits w → w.foldl (fun acc c => acc * 10 + (c - 48)) a < (a + 1) * 10 ^ w.length := by
    intro w
    induction w with
    | nil => intro a _; simp
    | cons c w ih =>
      intro a hw
      have hc := hw c (.head _)
      have := ih (a * 10 + (c - 48)) fun d hd => hw d (.tail _ hd)
      rw [List.foldl_cons, List.length_cons, Nat.pow_succ]
      refine Nat.lt_of_lt_of_le this ?_
      rw [Nat.mul_comm (10 ^ w.length) 10, ← Nat.mul_assoc]
      exact Nat.mul_le_mul_right _ (by omega)
  have h4 := this w 0 h1
  unfold smallN digitsVal
  refine Nat.lt_of_lt_of_le h4 ?_
  rw [Nat.zero_add, Nat.one_mul]
  exact Nat.pow_le_pow_right (by decide) h3
theorem count_small {n : Nat} {r r' : List Nat} (h : pCount r = some (n, r')) : smallN n := by
  unfold pCount at h
  obtain ⟨wr, hw, h⟩ := obs h
  split at h
  · rename_i e
    obtain ⟨rfl, rfl⟩ := some_inj2 h
    exact figs_small e
  · (first | subst h | cases h)
theorem let_small {c n : Nat} {r r' : List Nat} (h : pLet c r = some (n, r')) : smallN n := by
  unfold pLet at h
  obtain ⟨wr, hw, h⟩ := obs h
  split at h
  · rename_i e
    obtain ⟨rfl, rfl⟩ := some_inj2 h
    exact figs_small e.2
  · (first | subst h | cases h)
theorem regsLoop_small : ∀ {k : Nat} {acc l r r' : List Nat}, pRegsLoop k acc r = some (l, r') → (∀ n ∈ acc, smallN n) → ∀ n ∈ l, smallN n
  | 0, _, _, _, _, h, _ => by cases h
  | k + 1, acc, l, r, r', h, ha => by
    rw [pRegsLoop] at h
    split at h
    · obtain ⟨rfl, rfl⟩ := some_inj2 h
      exact ha
    · cases hl : pLet 114 (skipB r) with
      | none => rw [hl] at h; (first | subst h | cases h)
      | some nr =>
        rw [hl] at h
        have h1 := let_small (n := nr.1) (r' := nr.2) hl
        refine regsLoop_small (k := k) (show pRegsLoop k (acc ++ [nr.1]) nr.2 = some (l, r') from h) fun n hn => ?_
        rcases List.mem_append.mp hn with hn | hn
        · exact ha n hn
        · rw [List.mem_singleton.mp hn]; exact h1
theorem regs_small {l r r' : List Nat} (h : pRegs r = some (l, r')) : ∀ n ∈ l, smallN n := by
  unfold pRegs at h
  obtain ⟨ur, hn, h⟩ := obs h
  exact regsLoop_small (show pRegsLoop (ur.2.length + 1) [] ur.2 = some (l, r') from h) (by simp)
theorem rowsLoop_small : ∀ {k : Nat} {acc l : List Row} {r r' : List Nat}, pRowsLoop k acc r = some (l, r') → opdSm (.rows acc) → opdSm (.rows l)
  | 0, _, _, _, _, h, _ => by cases h
  | k + 1, acc, l, r, r', h, hacc => by
    rw [pRowsLoop] at h
    split at h
    · obtain ⟨rfl, rfl⟩ := some_inj2 h
      exact hacc
    · cases ha : pLet 114 (skipB r) with
      | none => rw [ha] at h; (first | subst h | cases h)
      | some a =>
        rw [ha] at h
        dsimp only [Option.bind] at h
        obtain ⟨b, hb, h⟩ := obs h
        obtain ⟨q, hl, h⟩ := obs h
        refine rowsLoop_small (k := k) h fun e he => ?_
        rcases List.mem_append.mp he with he | he
        · exact hacc e he
        · rw [List.mem_singleton.mp he]
          exact ⟨let_small (n := a.1) (r' := a.2) ha, let_small (n := b.1) (r' := b.2) hb, regs_small (l := q.1) (r' := q.2) hl⟩
theorem opd_small {srt : Srt} {o : Opd} {r r' : List Nat} (h : pOpd srt r = some (o, r')) : opdSm o := by
  unfold pOpd at h
  split at h
  · cases hr : pRegs r with
    | none => rw [hr] at h; (first | subst h | cases h)
    | some x =>
      rw [hr] at h
      obtain ⟨rfl, rfl⟩ := some_inj2 h
      exact regs_small (l := x.1) (r' := x.2) hr
  · split at h
    · cases hr : pRows r with
      | none => rw [hr] at h; (first | subst h | cases h)
      | some x =>
        rw [hr] at h
        obtain ⟨rfl, rfl⟩ := some_inj2 h
        unfold pRows at hr
        exact rowsLoop_small (l := x.1) (r' := x.2) hr (by simp [opdSm])
    · split at h
      · cases hr : pWord r with
        | none => rw [hr] at h; (first | subst h | cases h)
        | some x =>
          rw [hr] at h
          dsimp only [Option.bind] at h
          obtain ⟨n, hp, h⟩ := obs h
          obtain ⟨rfl, rfl⟩ := some_inj2 h
          have := (prim_get hp).1
          show smallN n
          unfold smallN; omega
      · cases hr : pLet srt.letter r with
        | none => rw [hr] at h; (first | subst h | cases h)
        | some x =>
          rw [hr] at h
          obtain ⟨rfl, rfl⟩ := some_inj2 h
          exact let_small (n := x.1) (r' := x.2) hr
theorem opds_small : ∀ {ss : List Srt} {os : List Opd} {r r' : List Nat}, pOpds ss r = some (os, r') → ∀ o ∈ os, opdSm o
  | [], os, r, r', h => by rw [pOpds] at h; obtain ⟨rfl, rfl⟩ := some_inj2 h; simp
  | s :: ss, os, r, r', h => by
    rw [pOpds] at h
    obtain ⟨x, hx, h⟩ := obs h
    obtain ⟨y, hy, h⟩ := obs h
    obtain ⟨rfl, rfl⟩ := some_inj2 h
    intro o ho
    rcases List.mem_cons.mp ho with rfl | ho
    · exact opd_small (o := x.1) (r' := x.2) hx
    · exact opds_small (os := y.1) (r' := y.2) hy o ho
noncomputable def insP (i : Ins) : Prop := insOK i ∧ ∀ o ∈ i.ops, opdSm o
theorem ins_small {i : Ins} {r r' : List Nat} (h : pIns r = some (i, r')) : insP i := by
  refine ⟨(ins_nb h).2, ?_⟩
  unfold pIns at h
  obtain ⟨wr, hw, h⟩ := obs h
  obtain ⟨ss, hs, h⟩ := obs h
  obtain ⟨x, hx, h⟩ := obs h
  obtain ⟨y, hy, h⟩ := obs h
  obtain ⟨rfl, rfl⟩ := some_inj2 h
  exact opds_small (os := x.1) (r' := x.2) hx
theorem nb_ahead (b : Bool) (j : Nat) : nb (aheadT b j) = if b = true then 76 :: shN j else [] := by
  cases b
  · rfl
  · show nb (76 :: (shN j ++ [32])) = _
    rw [nb_cons _ _ (by decide), nb_app, nb_shN]; simp [nb]
theorem end_word {r : List Nat} (h : wordAt (skipB r) = [101, 110, 100]) : nb r = [101, 110, 100] ++ nb ((skipB r).drop 3) := by
  obtain ⟨h1, h2⟩ := wordAt_pre r
  rw [h] at h2
  rw [← nb_skip r]
  conv => lhs; rw [← h2]
  rw [nb_app]; rfl
theorem inssLoop_nb : ∀ {k : Nat} {acc is : List Ins} {told r r' : List Nat}, pInssLoop k acc told r = some (is, r') → (∀ x ∈ told, x < acc.length) → (∀ i ∈ acc, insP i) →
    Ex2 fun l t' => An5 (is = acc ++ l) (toldOf is = told ++ t') ((∀ x ∈ t', acc.length ≤ x)) (nb r = nb (linesT (fun j => decide (j ∈ toldOf is)) acc.length l r')) (∀ i ∈ is, insP i)
  | 0, _, _, _, _, _, h, _, _ => by cases h
  | k + 1, acc, is, told, r, r', h, ht, ha => by
    rw [pInssLoop] at h
    split at h
    · rename_i hw
      unfold pInssEnd at h
      split at h
      · rename_i e
        obtain ⟨y, hy, h⟩ := obs h
        obtain ⟨rfl, rfl⟩ := some_inj2 h
        refine ⟨[], [], by simp, by simp [e], by simp, ?_, ha⟩
        rw [end_word hw, end_nb (u := y.1) (r' := y.2) hy]
        unfold linesT
        rw [insLs]
        simp only [List.map_nil, List.flatten_nil, List.nil_append]
        rw [nb_app, nb_cons 10 _ (by decide)]; rfl
      · (first | subst h | cases h)
    · split at h
      · (first | subst h | cases h)
      · cases hl : pLabel acc.length (skipB r) with
        | none => rw [hl] at h; (first | subst h | cases h)
        | some b =>
          rw [hl] at h
          dsimp only [Option.bind] at h
          obtain ⟨i, hi, h⟩ := obs h
          have ht1 : ∀ x ∈ (if b.1 = true then told ++ [acc.length] else told), x < (acc ++ [i.1]).length := by
            intro x hx
            rw [List.length_append, List.length_singleton]
            cases hb : b.1 with
            | true =>
              rw [hb, if_pos rfl] at hx
              rcases List.mem_append.mp hx with hx | hx
              · have := ht x hx; omega
              · rw [List.mem_singleton.mp hx]; omega
            | false =>
              rw [hb, if_neg (by simp)] at hx
              have := ht x hx; omega
          have ha1 : ∀ j ∈ acc ++ [i.1], insP j := by
            intro j hj
            rcases List.mem_append.mp hj with hj | hj
            · exact ha j hj
            · rw [List.mem_singleton.mp hj]; exact ins_small (i := i.1) (r' := i.2) hi
          obtain ⟨l, t', e1, e2, e3, e4, e5⟩ := inssLoop_nb (k := k) h ht1 ha1
          rw [List.length_append, List.length_singleton] at e3 e4
          have hmet : decide (acc.length ∈ toldOf is) = b.1 := by
            rw [e2]
            cases hb : b.1 with
            | true => simp
            | false =>
              simp only [Bool.false_eq_true, if_false, decide_eq_false_iff_not]
              intro hx
              rcases List.mem_append.mp hx with hx | hx
              · have := ht _ hx; omega
              · have := e3 _ hx; omega
          refine ⟨i.1 :: l, (if b.1 = true then [acc.length] else []) ++ t', by rw [e1, List.append_assoc]; rfl, ?_, ?_, ?_, e5⟩
          · rw [e2]; cases b.1 <;> simp
          · intro x hx
            rcases List.mem_append.mp hx with hx | hx
            · cases hb : b.1 with
              | true => rw [hb, if_pos rfl] at hx; rw [List.mem_singleton.mp hx]; exact Nat.le_refl _
              | false => rw [hb, if_neg (by simp)] at hx; cases hx
            · have := e3 x hx; omega
          · rw [linesT_cons, nb_app, nb_app, nb_cons 10 _ (by decide), ← e4, hmet, nb_ahead, ← nb_skip r, label_nb (b := b.1) (r' := b.2) hl, (ins_nb (i := i.1) (r' := i.2) hi).1]
theorem insLs_congr {f g : Nat → Bool} : ∀ (l : List Ins) (j : Nat), (∀ k, j ≤ k → k < j + l.length → f k = g k) → insLs f j l = insLs g j l
  | [], _, _ => rfl
  | i :: l, j, h => by
    simp only [List.length_cons] at h
    rw [insLs, insLs, h j (by omega) (by omega), insLs_congr l (j + 1) fun k h1 h2 => h k (by omega) (by omega)]
theorem inss_nb {is : List Ins} {r r' : List Nat} (h : pInss r = some (is, r')) : nb r = nb (linesT (metB is) 0 is r') ∧ ∀ i ∈ is, insP i := by
  obtain ⟨l, t', e1, e2, e3, e4, e5⟩ := inssLoop_nb h (by simp) (by simp)
  rw [List.nil_append] at e1
  subst e1
  refine ⟨?_, e5⟩
  rw [e4]
  unfold linesT
  simp only [List.nil_append] at e2 e4 ⊢
  show nb ((List.map (fun x => x ++ [10]) (insLs (fun j => decide (j ∈ toldOf is)) 0 is)).flatten ++ _) = _
  rw [insLs_congr (g := metB is) is 0 fun k zz hk => ?_]
  rw [Bool.eq_iff_iff, decide_eq_true_eq, toldOf, List.mem_filter, List.mem_range]
  constructor
  · exact fun h => h.2
  · exact fun h => ⟨by omega, h⟩
structure procP (p : Proc) : Prop where
  num : smallN p.number
  need : smallN p.needed
  regs : smallN p.regs
  free : smallN p.free
  ins : ∀ i ∈ p.ins, insP i
theorem inss_len {is : List Ins} {r r' : List Nat} (h : pInss r = some (is, r')) : r'.length ≤ r.length := inssLoop_len h
theorem told_lenT {x r r' : List Nat} (h : pTold r = some (x, r')) : x.length + r'.length ≤ r.length := by
  unfold pTold at h
  obtain ⟨nr, hc, h⟩ := obs h
  split at h
  · rename_i e
    obtain ⟨rfl, rfl⟩ := some_inj2 h
    have := count_len (n := nr.1) (r' := nr.2) hc
    rw [List.length_take, List.length_drop, List.length_drop]; omega
  · (first | subst h | cases h)
theorem proc_nb {n : Nat} {p : Proc} {r r' : List Nat} (h : pProc n r = some (p, r')) : cs "procedure" ++ nb r = nb (joinB (headW p) ++ 10 :: linesT (metB p.ins) 0 p.ins r') ∧ procP p ∧ p.title.length + r'.length ≤ r.length := by
  unfold pProc at h
  obtain ⟨c, hc, h⟩ := obs h
  split at h
  rotate_left
  · (first | subst h | cases h)
  rename_i en
  obtain ⟨a1, h1, h⟩ := obs h
  obtain ⟨nd, h2, h⟩ := obs h
  obtain ⟨rs, h3, h⟩ := obs h
  obtain ⟨ct, h4, h⟩ := obs h
  obtain ⟨a2, h5, h⟩ := obs h
  obtain ⟨rg, h6, h⟩ := obs h
  obtain ⟨a3, h7, h⟩ := obs h
  obtain ⟨fr, h8, h⟩ := obs h
  obtain ⟨a4, h9, h⟩ := obs h
  obtain ⟨ti, h10, h⟩ := obs h
  obtain ⟨a5, h11, h⟩ := obs h
  obtain ⟨is, h12, h⟩ := obs h
  obtain ⟨rfl, rfl⟩ := some_inj2 h
  obtain ⟨i1, i2⟩ := inss_nb (is := is.1) (r' := is.2) h12
  refine ⟨?_, ⟨en ▸ count_small (n := c.1) (r' := c.2) hc, count_small (n := nd.1) (r' := nd.2) h2, count_small (n := rg.1) (r' := rg.2) h6, count_small (n := fr.1) (r' := fr.2) h8, i2⟩, ?_⟩
  · rw [count_nb (n := c.1) (r' := c.2) hc, need_nb (u := a1.1) (r' := a1.2) h1, count_nb (n := nd.1) (r' := nd.2) h2, takes_nb (b := rs.1) (r' := rs.2) h3, takes_nb (b := ct.1) (r' := ct.2) h4, need_nb (u := a2.1) (r' := a2.2) h5,
      count_nb (n := rg.1) (r' := rg.2) h6, need_nb (u := a3.1) (r' := a3.2) h7, count_nb (n := fr.1) (r' := fr.2) h8, need_nb (u := a4.1) (r' := a4.2) h9, told_nb (x := ti.1) (r' := ti.2) h10, end_nb (u := a5.1) (r' := a5.2) h11, i1, en]
    rw [nb_app, nb_joinB, nb_cons 10 _ (by decide)]
    have w : ∀ x : String, (cs x).all (fun c => !(c == 32)) = true → nb (cs x) = cs x := fun x hx => nb_id fun c hc => by simpa using List.all_eq_true.mp hx c hc
    have w1 := w "procedure" (by kernel_rfl)
    have w2 := w "needed" (by kernel_rfl)
    have w3 := w "rest" (by kernel_rfl)
    have w4 := w "continuation" (by kernel_rfl)
    have w5 := w "registers" (by kernel_rfl)
    have w6 := w "free" (by kernel_rfl)
    have w7 := w "title" (by kernel_rfl)
    unfold headW
    cases rs.1 <;> cases ct.1 <;> simp [w1, w2, w3, w4, w5, w6, w7, nb_shN]
  · have l0 := count_len (n := c.1) (r' := c.2) hc
    have l1 := need_len (u := a1.1) (r' := a1.2) h1
    have l2 := count_len (n := nd.1) (r' := nd.2) h2
    have l3 := takes_len (b := rs.1) (r' := rs.2) h3
    have l4 := takes_len (b := ct.1) (r' := ct.2) h4
    have l5 := need_len (u := a2.1) (r' := a2.2) h5
    have l6 := count_len (n := rg.1) (r' := rg.2) h6
    have l7 := need_len (u := a3.1) (r' := a3.2) h7
    have l8 := count_len (n := fr.1) (r' := fr.2) h8
    have l9 := need_len (u := a4.1) (r' := a4.2) h9
    have l10 := told_lenT (x := ti.1) (r' := ti.2) h10
    have l11 := end_len (u := a5.1) (r' := a5.2) h11
    have l12 := inss_len (is := is.1) (r' := is.2) h12
    show ti.1.length + is.2.length ≤ r.length
    omega
theorem word_nbW {x r : List Nat} (h : wordAt (skipB r) = x) : nb r = x ++ nb ((skipB r).drop x.length) := by
  obtain ⟨h1, h2⟩ := wordAt_pre r
  rw [h] at h1 h2
  rw [← nb_skip r]
  conv => lhs; rw [← h2]
  rw [nb_app, nb_id fun c hc => (h1 c hc).1]
theorem linesT_app (met : Nat → Bool) (j : Nat) (l : List Ins) (r : List Nat) : linesT met j l r = linesT met j l [] ++ r := by unfold linesT; simp
theorem procsLoop_nb : ∀ {k : Nat} {acc ps : List Proc} {r r' : List Nat}, pProcsLoop k acc r = some (ps, r') → ∃ l, An4 (ps = acc ++ l) (nb r = nb (codeT l) ++ nb r') ((∀ p ∈ l, procP p)) ((l.map fun p => p.title.length).sum + r'.length ≤ r.length)
  | 0, _, _, _, _, h => by cases h
  | k + 1, acc, ps, r, r', h => by
    rw [pProcsLoop] at h
    split at h
    · rename_i hw
      obtain ⟨p, hp, h⟩ := obs h
      obtain ⟨l, e1, e2, e3, e4⟩ := procsLoop_nb (k := k) h
      obtain ⟨q1, q2, q3⟩ := proc_nb (p := p.1) (r' := p.2) hp
      refine ⟨p.1 :: l, by rw [e1, List.append_assoc]; rfl, ?_, ?_, ?_⟩
      · rw [word_nbW hw, q1, codeT_cons]
        rw [linesT_app _ _ _ p.2, linesT_app _ _ _ (codeT l)]
        have e : ∀ (a b c : List Nat), a ++ 10 :: (b ++ c) = (a ++ 10 :: b) ++ c := fun a b c => by simp
        rw [e, e, nb_app _ p.2, nb_app _ (codeT l), e2, List.append_assoc]
      · intro q hq
        rcases List.mem_cons.mp hq with rfl | hq
        · exact q2
        · exact e3 q hq
      · have := skip_len r
        rw [List.length_drop] at q3
        simp only [List.map_cons, List.sum_cons]
        omega
    · obtain ⟨rfl, rfl⟩ := some_inj2 h
      refine ⟨[], by simp, ?_, by simp, by simpa using skip_len r⟩
      rw [nb_skip]; rfl
theorem code_nb {r : List Nat} {ps : List Proc} (h : pCode r = some ps) : nb r = nb (codeT ps) ∧ (∀ p ∈ ps, procP p) ∧ (ps.map fun p => p.title.length).sum ≤ r.length := by
  unfold pCode at h
  obtain ⟨p, hp, h⟩ := obs h
  split at h
  · rename_i e
    (first | subst h | cases h)
    obtain ⟨l, e1, e2, e3, e4⟩ := procsLoop_nb (ps := p.1) (r' := p.2) hp
    have e0 : p.2 = [] := by simpa using e
    rw [List.nil_append] at e1
    rw [e0] at e2 e4
    rw [e1]
    exact ⟨by rw [e2]; simp [nb], e3, by simpa using e4⟩
  · (first | subst h | cases h)
end Mine
end
section
open PySem PySem.W PyProof.Rows PySem.Calls PySem.Builtin PySem.Builtin.Str PySem.NumText
namespace Mine
set_option maxRecDepth 100000

mutual
inductive Tr where
  | i (n : Nat)
  | s (l : List Nat)
  | b (x : Bool)
  | q (tup : Bool) (xs : Trs)
inductive Trs where
  | nil
  | cons (x : Tr) (xs : Trs)
end
noncomputable def okC (c : Nat) : Prop := (c = 10 ∨ (32 ≤ c ∧ c ≤ 126)) ∧ c ≠ 39
noncomputable def escT (c : Nat) : List Nat := if c = 92 then [92, 92] else if c = 10 then [92, 110] else [c]
noncomputable def closeT (tup : Bool) : Nat := if tup then 41 else 93
noncomputable def openT (tup : Bool) : Nat := if tup then 40 else 91
noncomputable def Trs.isNil : Trs → Bool
  | .nil => true
  | .cons _ _ => false
mutual
noncomputable def Tr.D : Tr → PyData
  | .i n => .int (n : Int)
  | .s l => .str (S l)
  | .b x => .bool x
  | .q true xs => .tuple xs.D
  | .q false xs => .list xs.D
noncomputable def Trs.D : Trs → List PyData
  | .nil => []
  | .cons x xs => x.D :: xs.D
end
mutual
noncomputable def Tr.T : Tr → List Nat
  | .i n => shN n
  | .s l => 39 :: (l.flatMap escT ++ [39])
  | .b x => if x then [84, 114, 117, 101] else [70, 97, 108, 115, 101]
  | .q tup xs => openT tup :: xs.U tup
noncomputable def Trs.U (tup : Bool) : Trs → List Nat
  | .nil => [closeT tup]
  | .cons x xs => x.T ++ (if (tup && xs.isNil) = true then [44, 41] else xs.V tup)
noncomputable def Trs.V (tup : Bool) : Trs → List Nat
  | .nil => [closeT tup]
  | .cons x xs => 44 :: 32 :: (x.T ++ xs.V tup)
end
mutual
noncomputable def Tr.ok : Tr → Prop
  | .i n => smallN n
  | .s l => ∀ c ∈ l, okC c
  | .b _ => True
  | .q _ xs => xs.ok
noncomputable def Trs.ok : Trs → Prop
  | .nil => True
  | .cons x xs => x.ok ∧ xs.ok
end
noncomputable def Tr.kind : Tr → Nat
  | .i _ => 0
  | .s _ => 1
  | .b _ => 2
  | .q _ _ => 3
noncomputable def kindC (c : Nat) : Nat := if 48 ≤ c ∧ c ≤ 57 then 0 else if c = 39 then 1 else if c = 84 ∨ c = 70 then 2 else if c = 40 ∨ c = 91 then 3 else 4
theorem Tr.head (x : Tr) : Ex2 fun c t => x.T = c :: t ∧ kindC c = x.kind := by
  cases x with
  | i n =>
    cases hh : shN n with
    | nil => exact absurd hh (shN_ne n)
    | cons c t =>
      have := shN_all n c (by rw [hh]; exact .head _)
      exact ⟨c, t, by simp only [Tr.T, hh], by simp [kindC, this.1, this.2, Tr.kind]⟩
  | s l => exact ⟨39, l.flatMap escT ++ [39], by simp only [Tr.T], rfl⟩
  | b x => cases x <;> exact ⟨_, _, by simp only [Tr.T]; rfl, rfl⟩
  | q tup xs => cases tup <;> exact ⟨_, _, by simp only [Tr.T]; rfl, rfl⟩
noncomputable def del (r : List Nat) : Prop := ∀ c t, r = c :: t → ¬ (48 ≤ c ∧ c ≤ 57)
theorem tw_dig {w r : List Nat} (hw : ∀ c ∈ w, 48 ≤ c ∧ c ≤ 57) (hr : del r) : (w ++ r).takeWhile isD = w := by
  induction w with
  | nil =>
    cases r with
    | nil => rfl
    | cons c t => rw [List.nil_append, List.takeWhile_cons, if_neg (by have := hr c t rfl; simp [isD]; omega)]
  | cons c w ih => rw [List.cons_append, List.takeWhile_cons, if_pos (by have := hw c (.head _); simp [isD, this.1, this.2]), ih fun d hd => hw d (.tail _ hd)]
theorem shN_inj {n m : Nat} (h : shN n = shN m) : n = m := by rw [← val_shN n, h, val_shN]
theorem int_pre {n m : Nat} {r r' : List Nat} (hr : del r) (hr' : del r') (h : shN n ++ r = shN m ++ r') : n = m ∧ r = r' := by
  have h1 := tw_dig (shN_all n) hr
  rw [h, tw_dig (shN_all m) hr'] at h1
  rw [h1] at h
  exact ⟨(shN_inj h1).symm, List.append_cancel_left h⟩
theorem esc_head (c : Nat) (h : okC c) : Ex2 fun d t => escT c = d :: t ∧ d ≠ 39 := by
  unfold escT
  split
  · exact ⟨_, _, rfl, by decide⟩
  · split
    · exact ⟨_, _, rfl, by decide⟩
    · exact ⟨_, _, rfl, h.2⟩
theorem str_pre : ∀ (l l' r r' : List Nat), (∀ c ∈ l, okC c) → (∀ c ∈ l', okC c) → l.flatMap escT ++ 39 :: r = l'.flatMap escT ++ 39 :: r' → l = l' ∧ r = r'
  | [], [], r, r', _, _, h => by simpa using h
  | [], c :: l', r, r', _, h', h => by
    obtain ⟨d, t, e1, e2⟩ := esc_head c (h' c (.head _))
    rw [List.flatMap_cons, e1] at h
    simp at h
    exact absurd h.1.symm e2
  | c :: l, [], r, r', h', _, h => by
    obtain ⟨d, t, e1, e2⟩ := esc_head c (h' c (.head _))
    rw [List.flatMap_cons, e1] at h
    simp at h
    exact absurd h.1 e2
  | c :: l, c' :: l', r, r', h1, h2, h => by
    rw [List.flatMap_cons, List.flatMap_cons, List.append_assoc, List.append_assoc] at h
    have key : c = c' ∧ l.flatMap escT ++ 39 :: r = l'.flatMap escT ++ 39 :: r' := by
      generalize l.flatMap escT ++ 39 :: r = A at h ⊢
      generalize l'.flatMap escT ++ 39 :: r' = B at h ⊢
      unfold escT at h
      by_cases a1 : c = 92 <;> by_cases a2 : c = 10 <;> by_cases b1 : c' = 92 <;> by_cases b2 : c' = 10 <;> simp_all <;> omega
    obtain ⟨e1, e2⟩ := key
    obtain ⟨e3, e4⟩ := str_pre l l' r r' (fun c hc => h1 c (.tail _ hc)) (fun c hc => h2 c (.tail _ hc)) e2
    exact ⟨by rw [e1, e3], e4⟩
theorem del_V (tup : Bool) (xs : Trs) (r : List Nat) : del (xs.V tup ++ r) := by
  intro c t h
  cases xs with
  | nil =>
    simp only [Trs.V, List.cons_append] at h
    injection h with h1 _
    cases tup <;> simp [closeT] at h1 <;> omega
  | cons x xs => simp only [Trs.V] at h; (first | subst h | cases h); omega
theorem del_W (tup : Bool) (xs : Trs) (r : List Nat) : del ((if (tup && xs.isNil) = true then [44, 41] else xs.V tup) ++ r) := by
  split
  · intro c t h; (first | subst h | cases h); omega
  · exact del_V tup xs r
theorem Tr.off (x y : Tr) (r r' : List Nat) (hk : x.kind ≠ y.kind) (h : x.T ++ r = y.T ++ r') : False := by
  obtain ⟨c, t, e1, e2⟩ := x.head
  obtain ⟨c', t', e1', e2'⟩ := y.head
  rw [e1, e1'] at h
  injection h with h _
  rw [h] at e2
  exact hk (e2.symm.trans e2')
mutual
theorem Tr.pre : ∀ (x y : Tr) (r r' : List Nat), x.ok → y.ok → del r → del r' → x.T ++ r = y.T ++ r' → x = y ∧ r = r'
  | .i n, .i m, r, r', _, _, hr, hr', h => by
    simp only [Tr.T] at h
    obtain ⟨e1, e2⟩ := int_pre hr hr' h
    exact ⟨by rw [e1], e2⟩
  | .s l, .s l', r, r', o, o', _, _, h => by
    simp only [Tr.T, List.cons_append, List.append_assoc, List.singleton_append, List.nil_append] at h
    injection h with _ h
    simp only [Tr.ok] at o o'
    obtain ⟨e1, e2⟩ := str_pre l l' r r' o o' h
    exact ⟨by rw [e1], e2⟩
  | .b x, .b y, r, r', _, _, _, _, h => by
    simp only [Tr.T] at h
    cases x <;> cases y <;> simp_all
  | .q tup xs, .q tup' ys, r, r', o, o', hr, hr', h => by
    simp only [Tr.T, List.cons_append] at h
    injection h with h1 h2
    simp only [Tr.ok] at o o'
    have : tup = tup' := by cases tup <;> cases tup' <;> simp_all [openT]
    subst this
    obtain ⟨e1, e2⟩ := Trs.preU tup xs ys r r' o o' h2
    exact ⟨by rw [e1], e2⟩
  | .i n, .s l, r, r', _, _, _, _, h => by exact (Tr.off (.i n) (.s l) r r' (by simp [Tr.kind]) h).elim
  | .i n, .b l, r, r', _, _, _, _, h => by exact (Tr.off (.i n) (.b l) r r' (by simp [Tr.kind]) h).elim
  | .i n, .q l k, r, r', _, _, _, _, h => by exact (Tr.off (.i n) (.q l k) r r' (by simp [Tr.kind]) h).elim
  | .s n, .i l, r, r', _, _, _, _, h => by exact (Tr.off (.s n) (.i l) r r' (by simp [Tr.kind]) h).elim
  | .s n, .b l, r, r', _, _, _, _, h => by exact (Tr.off (.s n) (.b l) r r' (by simp [Tr.kind]) h).elim
  | .s n, .q l k, r, r', _, _, _, _, h => by exact (Tr.off (.s n) (.q l k) r r' (by simp [Tr.kind]) h).elim
  | .b n, .i l, r, r', _, _, _, _, h => by exact (Tr.off (.b n) (.i l) r r' (by simp [Tr.kind]) h).elim
  | .b n, .s l, r, r', _, _, _, _, h => by exact (Tr.off (.b n) (.s l) r r' (by simp [Tr.kind]) h).elim
  | .b n, .q l k, r, r', _, _, _, _, h => by exact (Tr.off (.b n) (.q l k) r r' (by simp [Tr.kind]) h).elim
  | .q n k, .i l, r, r', _, _, _, _, h => by exact (Tr.off (.q n k) (.i l) r r' (by simp [Tr.kind]) h).elim
  | .q n k, .s l, r, r', _, _, _, _, h => by exact (Tr.off (.q n k) (.s l) r r' (by simp [Tr.kind]) h).elim
  | .q n k, .b l, r, r', _, _, _, _, h => by exact (Tr.off (.q n k) (.b l) r r' (by simp [Tr.kind]) h).elim
theorem Trs.preU (tup : Bool) : ∀ (xs ys : Trs) (r r' : List Nat), xs.ok → ys.ok → xs.U tup ++ r = ys.U tup ++ r' → xs = ys ∧ r = r'
  | .nil, .nil, r, r', _, _, h => by simpa [Trs.U] using h
  | .nil, .cons y ys, r, r', _, _, h => by
    obtain ⟨c, t, e1, e2⟩ := y.head
    simp only [Trs.U, e1, List.cons_append, List.append_assoc] at h
    injection h with h1 _
    rw [← h1] at e2
    cases tup <;> cases y <;> simp [closeT, kindC, Tr.kind] at e2
  | .cons y ys, .nil, r, r', _, _, h => by
    obtain ⟨c, t, e1, e2⟩ := y.head
    simp only [Trs.U, e1, List.cons_append, List.append_assoc] at h
    injection h with h1 _
    rw [h1] at e2
    cases tup <;> cases y <;> simp [closeT, kindC, Tr.kind] at e2
  | .cons x xs, .cons y ys, r, r', o, o', h => by
    simp only [Trs.U, List.append_assoc] at h
    simp only [Trs.ok] at o o'
    obtain ⟨e1, e2⟩ := Tr.pre x y _ _ o.1 o'.1 (del_W tup xs r) (del_W tup ys r') h
    subst e1
    have : xs = ys ∧ r = r' := by
      cases tup with
      | true =>
        cases xs with
        | nil =>
          cases ys with
          | nil => simpa [Trs.isNil] using e2
          | cons z zs => simp [Trs.isNil, Trs.V] at e2
        | cons a as =>
          cases ys with
          | nil => simp [Trs.isNil, Trs.V] at e2
          | cons z zs =>
            simp only [Trs.isNil, Bool.and_false, Bool.false_eq_true, if_false] at e2
            exact Trs.preV true (.cons a as) (.cons z zs) r r' o.2 o'.2 e2
      | false =>
        simp only [Bool.false_and, Bool.false_eq_true, if_false] at e2
        exact Trs.preV false xs ys r r' o.2 o'.2 e2
    exact ⟨by rw [this.1], this.2⟩
theorem Trs.preV (tup : Bool) : ∀ (xs ys : Trs) (r r' : List Nat), xs.ok → ys.ok → xs.V tup ++ r = ys.V tup ++ r' → xs = ys ∧ r = r'
  | .nil, .nil, r, r', _, _, h => by simpa [Trs.V] using h
  | .nil, .cons y ys, r, r', _, _, h => by
    cases tup <;> simp [Trs.V, closeT] at h
  | .cons y ys, .nil, r, r', _, _, h => by
    cases tup <;> simp [Trs.V, closeT] at h
  | .cons x xs, .cons y ys, r, r', o, o', h => by
    simp only [Trs.V, List.cons_append, List.append_assoc] at h
    injection h with _ h
    injection h with _ h
    simp only [Trs.ok] at o o'
    obtain ⟨e1, e2⟩ := Tr.pre x y _ _ o.1 o'.1 (del_V tup xs r) (del_V tup ys r') h
    obtain ⟨e3, e4⟩ := Trs.preV tup xs ys r r' o.2 o'.2 e2
    exact ⟨by rw [e1, e3], e4⟩
end
end Mine
end
section
open PySem PySem.W PyProof.Rows PySem.Calls PySem.Builtin PySem.Builtin.Str PySem.NumText
namespace Mine
set_option maxRecDepth 100000

theorem strjoin_S (sep : List Nat) (xs : List (List Nat)) : Str.join (S sep) (xs.map S) = S (joinS sep xs) := by
  rw [← PySem.StrLaws.glued_eq_join]; exact join_S sep xs
noncomputable def Trs.Ts : Trs → List (List Nat)
  | .nil => []
  | .cons x xs => x.T :: xs.Ts
theorem Trs.V_eq (tup : Bool) : ∀ (x : List Nat) (xs : Trs), x ++ xs.V tup = joinS [44, 32] (x :: xs.Ts) ++ [closeT tup]
  | x, .nil => by simp only [Trs.V, Trs.Ts, joinS]
  | x, .cons y ys => by
    have := Trs.V_eq tup y.T ys
    simp only [Trs.V, Trs.Ts, joinS]
    rw [show x ++ 44 :: 32 :: (y.T ++ ys.V tup) = x ++ [44, 32] ++ (y.T ++ ys.V tup) by simp, this, List.append_assoc (x ++ [44, 32])]
theorem Trs.len_D : ∀ xs : Trs, xs.D.length = xs.Ts.length
  | .nil => rfl
  | .cons x xs => by simp only [Trs.D, Trs.Ts, List.length_cons, Trs.len_D xs]
theorem Trs.U_eq (tup : Bool) (xs : Trs) : xs.U tup = joinS [44, 32] xs.Ts ++ (if (tup && xs.D.length == 1) = true then [44, 41] else [closeT tup]) := by
  cases xs with
  | nil => cases tup <;> simp [Trs.U, Trs.Ts, joinS, Trs.D]
  | cons x xs =>
    rw [Trs.U]
    cases xs with
    | nil => cases tup <;> simp [Trs.Ts, joinS, Trs.D, Trs.isNil, Trs.V]
    | cons y ys =>
      simp only [Trs.isNil, Bool.and_false, Bool.false_eq_true, if_false]
      rw [Trs.V_eq, if_neg (by simp [Trs.D])]
      simp only [Trs.Ts]
theorem printable_ok : ∀ c : Fin 127, 32 ≤ c.1 → Unicode.isPrintable c.1 = true := by decide +kernel
theorem reprChar_ok {c : Nat} (h : okC c) : reprChar 39 c = escT c := by
  obtain ⟨h1, h2⟩ := h
  unfold reprChar escT
  by_cases h92 : c = 92
  · subst h92; rfl
  · by_cases h10 : c = 10
    · subst h10; rfl
    · have h3 : 32 ≤ c ∧ c ≤ 126 := h1.resolve_left h10
      have hp := printable_ok ⟨c, by omega⟩ h3.1
      simp only at hp
      have e1 : (c == 39 || c == 92) = false := by simp [h2, h92]
      have e2 : (c == 10) = false := by simp [h10]
      have e3 : (c == 13) = false := by simp; omega
      have e4 : (c == 9) = false := by simp; omega
      simp only [e1, e2, e3, e4, hp, Bool.false_eq_true, if_false, if_true, h92, h10]
theorem repr_S {l : List Nat} (h : ∀ c ∈ l, okC c) : reprText (S l) = S (39 :: (l.flatMap escT ++ [39])) := by
  have hq : reprQuote (S l) = 39 := by
    unfold reprQuote
    rw [if_neg]
    have : (S l).cps.contains 39 = false := by
      rw [Bool.eq_false_iff]
      intro hc
      have : 39 ∈ l := by simpa using hc
      exact (h 39 this).2 rfl
    rw [this]; simp
  unfold reprText
  rw [hq]
  have : ∀ (l : List Nat) (a : Array Nat), (∀ c ∈ l, okC c) → l.foldl (fun out c => out ++ (reprChar 39 c).toArray) a = a ++ (l.flatMap escT).toArray := by
    intro l
    induction l with
    | nil => intro a _; simp
    | cons c l ih =>
      intro a hh
      rw [List.foldl_cons, ih _ fun d hd => hh d (.tail _ hd), reprChar_ok (hh c (.head _)), List.flatMap_cons]
      apply Array.ext'
      simp
  rw [← Array.foldl_toList, this _ _ (by simpa using h)]
  unfold S
  congr 1
  apply Array.ext'
  simp
mutual
theorem Tr.shown : ∀ x : Tr, x.ok → x.D.shown = S x.T
  | .i n, _ => by rw [Tr.D, PyData.shown_int, Tr.T]; exact text_shN n
  | .s l, h => by rw [Tr.D, PyData.shown_str, Tr.T]; exact repr_S (by simpa only [Tr.ok] using h)
  | .b x, _ => by rw [Tr.D, PyData.shown_bool]; cases x <;> (simp only [Tr.T]; decide +kernel)
  | .q true xs, h => by
    have hs := Trs.shown xs (by simpa only [Tr.ok] using h)
    rw [Tr.D, PyData.shown_tuple, Tr.T, hs, Trs.U_eq]
    have e : (Str.ofString ", ") = S [44, 32] := by decide +kernel
    have e1 : (Str.ofString "(") = S [40] := by decide +kernel
    have e2 : (Str.ofString ")") = S [41] := by decide +kernel
    have e3 : (Str.ofString ",)") = S [44, 41] := by decide +kernel
    show Str.ofString "(" ++ Str.join (Str.ofString ", ") (xs.Ts.map S) ++ Str.ofString (if _ then _ else _) = _
    rw [e, strjoin_S, e1, S_append]
    split
    · rename_i hl; rw [e3, S_append, hl]; rfl
    · rename_i hl; rw [e2, S_append, Bool.eq_false_iff.mpr hl]; rfl
  | .q false xs, h => by
    have hs := Trs.shown xs (by simpa only [Tr.ok] using h)
    rw [Tr.D, PyData.shown_list, Tr.T, hs, Trs.U_eq]
    have e : (Str.ofString ", ") = S [44, 32] := by decide +kernel
    have e1 : (Str.ofString "[") = S [91] := by decide +kernel
    have e2 : (Str.ofString "]") = S [93] := by decide +kernel
    show Str.ofString "[" ++ Str.join (Str.ofString ", ") (xs.Ts.map S) ++ Str.ofString "]" = _
    rw [e, strjoin_S, e1, S_append, e2, S_append]; rfl
theorem Trs.shown : ∀ xs : Trs, xs.ok → PyData.shownAll xs.D = xs.Ts.map S
  | .nil, _ => by simp only [Trs.D, PyData.shownAll_nil, Trs.Ts, List.map_nil]
  | .cons x xs, h => by
    simp only [Trs.ok] at h
    rw [Trs.D, PyData.shownAll_cons, Tr.shown x h.1, Trs.shown xs h.2, Trs.Ts, List.map_cons]
end
mutual
theorem Tr.showable : ∀ x : Tr, x.ok → x.D.showable = true
  | .i n, h => by simp only [Tr.ok] at h; simp only [Tr.D, PyData.showable, decide_eq_true_eq]; exact smallN.log h
  | .s l, h => by simp only [Tr.D, PyData.showable]
  | .b x, _ => by simp only [Tr.D, PyData.showable]
  | .q true xs, h => by simp only [Tr.D, PyData.showable]; exact Trs.showable xs (by simpa only [Tr.ok] using h)
  | .q false xs, h => by simp only [Tr.D, PyData.showable]; exact Trs.showable xs (by simpa only [Tr.ok] using h)
theorem Trs.showable : ∀ xs : Trs, xs.ok → PyData.showableAll xs.D = true
  | .nil, _ => by simp only [Trs.D, PyData.showableAll]
  | .cons x xs, h => by
    simp only [Trs.ok] at h
    simp only [Trs.D, PyData.showableAll, Tr.showable x h.1, Trs.showable xs h.2, Bool.and_self]
end
noncomputable def ofL : List Tr → Trs
  | [] => .nil
  | x :: l => .cons x (ofL l)
theorem ofL_inj : ∀ {a b : List Tr}, ofL a = ofL b → a = b
  | [], [], _ => rfl
  | [], _ :: _, h => by cases h
  | _ :: _, [], h => by cases h
  | x :: a, y :: b, h => by injection h with h1 h2; rw [h1, ofL_inj h2]
theorem ofL_D : ∀ l : List Tr, (ofL l).D = l.map Tr.D
  | [] => by simp only [ofL, Trs.D, List.map_nil]
  | x :: l => by simp only [ofL, Trs.D, List.map_cons, ofL_D l]
theorem ofL_ok : ∀ {l : List Tr}, (∀ x ∈ l, x.ok) → (ofL l).ok
  | [], _ => by simp only [ofL, Trs.ok]
  | x :: l, h => by simp only [ofL, Trs.ok]; exact ⟨h x (.head _), ofL_ok fun y hy => h y (.tail _ hy)⟩
theorem V_pos (tup : Bool) (xs : Trs) : 1 ≤ (xs.V tup).length := by cases xs <;> simp [Trs.V]
theorem V_len (tup : Bool) : ∀ l : List Tr, ((ofL l).V tup).length = 1 + (l.map fun x => 2 + x.T.length).sum
  | [] => by simp [ofL, Trs.V]
  | x :: l => by simp only [ofL, Trs.V, List.length_cons, List.length_append, V_len tup l, List.map_cons, List.sum_cons]; omega
theorem q_len (tup : Bool) (l : List Tr) : (Tr.q tup (ofL l)).T.length ≤ 2 + (l.map fun x => 2 + x.T.length).sum := by
  rw [Tr.T, List.length_cons]
  have : ((ofL l).U tup).length ≤ ((ofL l).V tup).length := by
    cases l with
    | nil => simp [ofL, Trs.U, Trs.V]
    | cons x l =>
      simp only [ofL, Trs.U, Trs.V, List.length_append, List.length_cons]
      have := V_pos tup (ofL l)
      split
      · simp only [List.length_cons, List.length_nil]; omega
      · omega
  rw [V_len] at this
  omega
noncomputable def regsR (l : List Nat) : Tr := .q true (ofL (l.map Tr.i))
noncomputable def rowR (e : Row) : Tr := .q true (ofL [.i e.1, .i e.2.1, regsR e.2.2])
noncomputable def opdR : Opd → Tr
  | .num n => .i n
  | .regs l => regsR l
  | .rows rs => .q true (ofL (rs.map rowR))
noncomputable def insR (i : Ins) : Tr := .q true (ofL (.s i.w :: i.ops.map opdR))
noncomputable def headR (p : Proc) : Tr := .q true (ofL [.i p.number, .s p.title, .i p.needed, .b p.rest, .b p.cont, .i p.regs, .i p.free])
noncomputable def procR (p : Proc) : Tr := .q false (ofL [headR p, .q false (ofL (p.ins.map insR))])
noncomputable def wholeR (ps : List Proc) : Tr := .q false (ofL (ps.map procR))
theorem regsR_D (l : List Nat) : (regsR l).D = regsD l := by
  unfold regsR regsD
  rw [Tr.D, ofL_D, List.map_map]
  rfl
theorem rowR_D (e : Row) : (rowR e).D = rowD e := by
  unfold rowR rowD
  rw [Tr.D, ofL_D]
  simp only [List.map_cons, List.map_nil, regsR_D, Tr.D]
theorem opdR_D (o : Opd) : (opdR o).D = opdD o := by
  cases o with
  | num n => simp only [opdR, opdD, Tr.D]
  | regs l => exact regsR_D l
  | rows rs =>
    unfold opdR opdD rowsD
    rw [Tr.D, ofL_D, List.map_map]
    congr 1
    exact List.map_congr_left fun n zz => rowR_D n
theorem insR_D (i : Ins) : (insR i).D = insD i := by
  unfold insR insD
  rw [Tr.D, ofL_D, List.map_cons, List.map_map]
  have e : i.ops.map (Tr.D ∘ opdR) = i.ops.map opdD := List.map_congr_left fun n zz => opdR_D n
  rw [e, Tr.D]
theorem procR_D (p : Proc) : (procR p).D = procD p := by
  unfold procR procD headR headD
  rw [Tr.D, ofL_D]
  have e : p.ins.map (Tr.D ∘ insR) = p.ins.map insD := List.map_congr_left fun n zz => insR_D n
  simp only [List.map_cons, List.map_nil, Tr.D, ofL_D, List.map_map, e]
theorem wholeR_D (ps : List Proc) : (wholeR ps).D = wholeD ps := by
  unfold wholeR wholeD
  rw [Tr.D, ofL_D, List.map_map]
  congr 1
  exact List.map_congr_left fun n zz => procR_D n
theorem wholeT_eq {ps : List Proc} (h : (wholeR ps).ok) : wholeT ps = (wholeR ps).T := by
  unfold wholeT
  rw [← wholeR_D, Tr.shown _ h]
end Mine
end
section
open PySem PySem.W PyProof.Rows PySem.Calls PySem.Builtin PySem.Builtin.Str PySem.NumText
namespace Mine
set_option maxRecDepth 100000

theorem map_inj_on {α β : Type} {f : α → β} : ∀ {a b : List α}, (∀ x ∈ a, ∀ y ∈ b, f x = f y → x = y) → a.map f = b.map f → a = b
  | [], [], _, _ => rfl
  | [], _ :: _, _, h => by simp at h
  | _ :: _, [], _, h => by simp at h
  | x :: a, y :: b, hf, h => by
    rw [List.map_cons, List.map_cons] at h
    injection h with h1 h2
    rw [hf x (.head _) y (.head _) h1, map_inj_on (fun u hu v hv => hf u (.tail _ hu) v (.tail _ hv)) h2]
theorem q_inj {t t' : Bool} {a b : List Tr} (h : Tr.q t (ofL a) = Tr.q t' (ofL b)) : a = b := by
  injection h with _ h
  exact ofL_inj h
theorem i_inj {n m : Nat} (h : Tr.i n = Tr.i m) : n = m := by injection h
theorem s_inj {n m : List Nat} (h : Tr.s n = Tr.s m) : n = m := by injection h
theorem b_inj {n m : Bool} (h : Tr.b n = Tr.b m) : n = m := by injection h
theorem regsR_inj {l l' : List Nat} (h : regsR l = regsR l') : l = l' := map_inj_on (fun x zz y zz e => i_inj e) (q_inj h)
theorem rowR_inj {e e' : Row} (h : rowR e = rowR e') : e = e' := by
  obtain ⟨a, b, c⟩ := e
  obtain ⟨a', b', c'⟩ := e'
  have := q_inj h
  simp only [List.cons.injEq, and_true] at this
  rw [i_inj this.1, i_inj this.2.1, regsR_inj this.2.2]
theorem opdR_inj {s : Srt} {o o' : Opd} (h1 : fits s o = true) (h2 : fits s o' = true) (h : opdR o = opdR o') : o = o' := by
  cases o with
  | num n =>
    cases o' with
    | num m => rw [i_inj h]
    | regs l => (first | subst h | cases h)
    | rows l => (first | subst h | cases h)
  | regs l =>
    cases o' with
    | num m => (first | subst h | cases h)
    | regs l' => rw [regsR_inj h]
    | rows l' => cases s <;> first | exact absurd h1 Bool.false_ne_true | exact absurd h2 Bool.false_ne_true
  | rows l =>
    cases o' with
    | num m => (first | subst h | cases h)
    | regs l' => cases s <;> first | exact absurd h1 Bool.false_ne_true | exact absurd h2 Bool.false_ne_true
    | rows l' => rw [map_inj_on (fun x zz y zz e => rowR_inj e) (q_inj h)]
theorem opds_inj : ∀ {ss : List Srt} {os os' : List Opd}, fitsAll ss os = true → fitsAll ss os' = true → os.map opdR = os'.map opdR → os = os'
  | _, [], [], _, _, _ => rfl
  | _, [], _ :: _, _, _, h => by simp at h
  | _, _ :: _, [], _, _, h => by simp at h
  | [], _ :: _, _ :: _, h, _, _ => by cases h
  | s :: ss, o :: os, o' :: os', h1, h2, h => by
    have h1 := fitsAll_cons.mp h1
    have h2 := fitsAll_cons.mp h2
    rw [List.map_cons, List.map_cons] at h
    injection h with a b
    rw [opdR_inj h1.1 h2.1 a, opds_inj h1.2 h2.2 b]
theorem insR_inj {i i' : Ins} (h1 : insOK i) (h2 : insOK i') (h : insR i = insR i') : i = i' := by
  obtain ⟨w, os⟩ := i
  obtain ⟨w', os'⟩ := i'
  have := q_inj h
  injection this with a b
  have a := s_inj a
  simp only at a b
  subst a
  obtain ⟨ss, e, f⟩ := h1
  obtain ⟨ss', e', f'⟩ := h2
  simp only at e f e' f'
  rw [e] at e'
  (first | subst e' | cases e')
  rw [opds_inj f f' b]
theorem procR_inj {p p' : Proc} (h1 : ∀ i ∈ p.ins, insOK i) (h2 : ∀ i ∈ p'.ins, insOK i) (h : procR p = procR p') : p = p' := by
  obtain ⟨a1, a2, a3, a4, a5, a6, a7, a8⟩ := p
  obtain ⟨b1, b2, b3, b4, b5, b6, b7, b8⟩ := p'
  have := q_inj h
  simp only [List.cons.injEq, and_true] at this
  obtain ⟨e, f⟩ := this
  have e := q_inj e
  simp only [List.cons.injEq, and_true] at e
  obtain ⟨e1, e2, e3, e4, e5, e6, e7⟩ := e
  have f := map_inj_on (fun x hx y hy e => insR_inj (h1 x hx) (h2 y hy) e) (q_inj f)
  simp only at f
  rw [i_inj e1, s_inj e2, i_inj e3, b_inj e4, b_inj e5, i_inj e6, i_inj e7, f]
theorem wholeR_inj {ps ps' : List Proc} (h1 : ∀ p ∈ ps, ∀ i ∈ p.ins, insOK i) (h2 : ∀ p ∈ ps', ∀ i ∈ p.ins, insOK i) (h : wholeR ps = wholeR ps') : ps = ps' :=
  map_inj_on (fun x hx y hy e => procR_inj (h1 x hx) (h2 y hy) e) (q_inj h)
theorem del_nil : del [] := fun c t h => by cases h
theorem wholeT_inj {ps ps' : List Proc} (o : (wholeR ps).ok) (o' : (wholeR ps').ok) (h1 : ∀ p ∈ ps, ∀ i ∈ p.ins, insOK i) (h2 : ∀ p ∈ ps', ∀ i ∈ p.ins, insOK i) (h : wholeT ps = wholeT ps') : ps = ps' := by
  rw [wholeT_eq o, wholeT_eq o'] at h
  exact wholeR_inj h1 h2 (Tr.pre _ _ [] [] o o' del_nil del_nil (by rw [h])).1
noncomputable def okCb (c : Nat) : Bool := (c == 10 || (decide (32 ≤ c) && decide (c ≤ 126))) && !(c == 39)
theorem okC_of {c : Nat} (h : okCb c = true) : okC c := by
  simp only [okCb, Bool.and_eq_true, Bool.or_eq_true, beq_iff_eq, decide_eq_true_eq, Bool.not_eq_true', beq_eq_false_iff_ne] at h
  exact h
theorem opsTab_small : (opsTab.all fun e => e.1.all okCb && decide (3 ≤ e.1.length) && decide (e.2.2.length ≤ 3)) = true := by kernel_rfl
theorem sorts_ok {w : List Nat} {ss : List Srt} (h : sortsOf w = some ss) : (∀ c ∈ w, okC c) ∧ 3 ≤ w.length ∧ ss.length ≤ 3 := by
  unfold sortsOf opsRow at h
  obtain ⟨e, he, rfl⟩ := Option.map_eq_some_iff.mp h
  have h1 := List.find?_some he
  have h2 := List.mem_of_find?_eq_some he
  have h3 := List.all_eq_true.mp opsTab_small e h2
  have h4 : e.1 = w := of_decide_eq_true h1
  rw [h4] at h3
  simp only [Bool.and_eq_true, decide_eq_true_eq] at h3
  exact ⟨fun c hc => okC_of (List.all_eq_true.mp h3.1.1 c hc), h3.1.2, h3.2⟩
theorem regsR_ok {l : List Nat} (h : ∀ n ∈ l, smallN n) : (regsR l).ok := by
  unfold regsR; rw [Tr.ok]
  exact ofL_ok fun x hx => by obtain ⟨n, hn, rfl⟩ := List.mem_map.mp hx; rw [Tr.ok]; exact h n hn
theorem rowR_ok {e : Row} (h : smallN e.1 ∧ smallN e.2.1 ∧ ∀ n ∈ e.2.2, smallN n) : (rowR e).ok := by
  unfold rowR; rw [Tr.ok]
  refine ofL_ok fun x hx => ?_
  simp only [List.mem_cons, List.not_mem_nil, or_false] at hx
  rcases hx with rfl | rfl | rfl
  · rw [Tr.ok]; exact h.1
  · rw [Tr.ok]; exact h.2.1
  · exact regsR_ok h.2.2
theorem opdR_ok {o : Opd} (h : opdSm o) : (opdR o).ok := by
  cases o with
  | num n => unfold opdR; rw [Tr.ok]; exact h
  | regs l => exact regsR_ok h
  | rows rs =>
    unfold opdR; rw [Tr.ok]
    exact ofL_ok fun x hx => by obtain ⟨e, he, rfl⟩ := List.mem_map.mp hx; exact rowR_ok (h e he)
theorem insR_ok {i : Ins} (h : insP i) : (insR i).ok := by
  unfold insR; rw [Tr.ok]
  refine ofL_ok fun x hx => ?_
  rcases List.mem_cons.mp hx with rfl | hx
  · obtain ⟨ss, e, _⟩ := h.1
    rw [Tr.ok]; exact (sorts_ok e).1
  · obtain ⟨o, ho, rfl⟩ := List.mem_map.mp hx
    exact opdR_ok (h.2 o ho)
theorem procR_ok {p : Proc} (h : procP p) (ht : ∀ c ∈ p.title, okC c) : (procR p).ok := by
  unfold procR; rw [Tr.ok]
  refine ofL_ok fun x hx => ?_
  simp only [List.mem_cons, List.not_mem_nil, or_false] at hx
  rcases hx with rfl | rfl
  · unfold headR; rw [Tr.ok]
    refine ofL_ok fun x hx => ?_
    simp only [List.mem_cons, List.not_mem_nil, or_false] at hx
    rcases hx with rfl | rfl | rfl | rfl | rfl | rfl | rfl <;> rw [Tr.ok]
    · exact h.num
    · exact ht
    · exact h.need
    · trivial
    · trivial
    · exact h.regs
    · exact h.free
  · rw [Tr.ok]
    exact ofL_ok fun x hx => by obtain ⟨i, hi, rfl⟩ := List.mem_map.mp hx; exact insR_ok (h.ins i hi)
theorem wholeR_ok {ps : List Proc} (h : ∀ p ∈ ps, procP p) (ht : ∀ p ∈ ps, ∀ c ∈ p.title, okC c) : (wholeR ps).ok := by
  unfold wholeR; rw [Tr.ok]
  exact ofL_ok fun x hx => by obtain ⟨p, hp, rfl⟩ := List.mem_map.mp hx; exact procR_ok (h p hp) (ht p hp)
theorem sum_le {α : Type} {f g : α → Nat} {k : Nat} : ∀ {l : List α}, (∀ x ∈ l, f x ≤ k * g x) → (l.map f).sum ≤ k * (l.map g).sum
  | [], _ => by simp
  | x :: l, h => by
    have h1 := h x (.head _)
    have h2 := sum_le (l := l) fun y hy => h y (.tail _ hy)
    simp only [List.map_cons, List.sum_cons, Nat.mul_add]
    omega
theorem flat_sum (l : List (List Nat)) : l.flatten.length = (l.map List.length).sum := List.length_flatten
theorem i_len {n : Nat} (h : smallN n) : (Tr.i n).T.length ≤ 18 := by rw [Tr.T]; exact shN18 h
theorem shN_pos (n : Nat) : 1 ≤ (shN n).length := by
  have := shN_ne n
  cases h : shN n with
  | nil => exact absurd h this
  | cons => simp
theorem regsR_len {l : List Nat} (h : ∀ n ∈ l, smallN n) : 2 + (regsR l).T.length ≤ 4 + 20 * (nb (regsT l)).length ∧ (regsR l).T.length ≤ 20 * (nb (regsT l)).length := by
  have h1 := q_len true (l.map Tr.i)
  rw [List.map_map] at h1
  have h2 : (l.map ((fun x : Tr => 2 + x.T.length) ∘ Tr.i)).sum ≤ 20 * (l.map fun n => (regT n).length).sum := sum_le fun n hn => by
    have := i_len (h n hn)
    have := shN_pos n
    simp only [Function.comp, regT, List.length_cons]
    omega
  have h3 : (nb (regsT l)).length = 2 + (l.map fun n => (regT n).length).sum := by
    rw [nb_regsT, List.length_cons, List.length_append, flat_sum, List.map_map]
    simp only [List.length_singleton]
    show (l.map fun n => (regT n).length).sum + 1 + 1 = _
    omega
  unfold regsR
  omega
theorem rowR_len {e : Row} (h : smallN e.1 ∧ smallN e.2.1 ∧ ∀ n ∈ e.2.2, smallN n) : 2 + (rowR e).T.length ≤ 20 * (nb (rowT e)).length := by
  have h1 := q_len true [.i e.1, .i e.2.1, regsR e.2.2]
  have h2 := i_len h.1
  have h3 := i_len h.2.1
  have h4 := (regsR_len h.2.2).2
  have h5 : (nb (rowT e)).length = 2 + (shN e.1).length + (shN e.2.1).length + (nb (regsT e.2.2)).length := by
    unfold rowT
    rw [nb_cons _ _ (by decide), nb_app, nb_blank, nb_cons _ _ (by decide), nb_app, nb_blank, nb_shN, nb_shN]
    simp only [List.length_cons, List.length_append]; omega
  have := shN_pos e.1
  have := shN_pos e.2.1
  simp only [List.map_cons, List.map_nil, List.sum_cons, List.sum_nil] at h1
  unfold rowR
  omega
theorem prim_pos : ∀ n : Fin 6, ((primNames.getD n.1 []).any fun c => !(c == 32)) = true := by decide +kernel
theorem opdR_len {s : Srt} {o : Opd} (hf : fits s o = true) (h : opdSm o) : 2 + (opdR o).T.length ≤ 4 + 20 * (nb (opdT s o)).length := by
  cases o with
  | num n =>
    have h1 := i_len h
    have h2 : 1 ≤ (nb (opdT s (.num n))).length := by
      have hx : ∃ c ∈ opdT s (.num n), (!(c == 32)) = true := by
        show ∃ c ∈ (if s = .prim then primNames.getD n [] else s.letter :: shN n), _
        split
        · rename_i e
          subst e
          have hn : n < 6 := of_decide_eq_true hf
          exact List.any_eq_true.mp (prim_pos ⟨n, hn⟩)
        · rename_i e
          cases hh : shN n with
          | nil => exact absurd hh (shN_ne n)
          | cons c t =>
            have := shN_all n c (by rw [hh]; exact .head _)
            exact ⟨c, .tail _ (.head _), by simp; omega⟩
      obtain ⟨c, hc, e⟩ := hx
      exact List.length_pos_of_mem (a := c) (List.mem_filter.mpr ⟨hc, e⟩)
    show 2 + (Tr.i n).T.length ≤ _
    omega
  | regs l => exact (regsR_len h).1
  | rows rs =>
    have h1 := q_len true (rs.map rowR)
    rw [List.map_map] at h1
    have h2 : (rs.map ((fun x : Tr => 2 + x.T.length) ∘ rowR)).sum ≤ 20 * (rs.map fun n => (nb (rowT n)).length).sum := sum_le fun n hn => rowR_len (h n hn)
    have h3 : (nb (opdT s (.rows rs))).length = (rs.map fun n => (nb (rowT n)).length).sum := by
      unfold opdT
      rw [nb_joinB, flat_sum, List.map_map, List.map_map]; rfl
    show 2 + (Tr.q true (ofL (rs.map rowR))).T.length ≤ _
    omega
theorem opdsR_len : ∀ {ss : List Srt} {os : List Opd}, fitsAll ss os = true → (∀ o ∈ os, opdSm o) → (os.map fun o => 2 + (opdR o).T.length).sum ≤ 4 * ss.length + 20 * ((opdsT ss os).map nb).flatten.length
  | [], [], _, _ => by simp
  | [], _ :: _, h, _ => by cases h
  | _ :: _, [], h, _ => by cases h
  | s :: ss, o :: os, h, hs => by
    have h := fitsAll_cons.mp h
    have h1 := opdR_len h.1 (hs o (.head _))
    have h2 := opdsR_len h.2 fun x hx => hs x (.tail _ hx)
    simp only [opdsT, List.map_cons, List.sum_cons, List.flatten_cons, List.length_append, List.length_cons]
    omega
theorem esc_len (c : Nat) : (escT c).length ≤ 2 := by 
  unfold escT
  split
  · simp
  · split <;> simp
theorem s_len (l : List Nat) : (Tr.s l).T.length ≤ 2 + 2 * l.length := by
  have : ∀ l : List Nat, (l.flatMap escT).length ≤ 2 * l.length := by
    intro l
    induction l with
    | nil => simp
    | cons c l ih =>
      have := esc_len c
      rw [List.flatMap_cons, List.length_append, List.length_cons]; omega
  have := this l
  rw [Tr.T, List.length_cons, List.length_append, List.length_singleton]; omega
theorem insR_len {i : Ins} (h : insP i) : 2 + (insR i).T.length ≤ 20 * (nb (insT i)).length := by
  obtain ⟨⟨ss, e, f⟩, hs⟩ := h
  obtain ⟨_, w3, s3⟩ := sorts_ok e
  obtain ⟨hw, _⟩ := sorts_word e
  have h1 := q_len true (.s i.w :: i.ops.map opdR)
  rw [List.map_cons, List.sum_cons, List.map_map] at h1
  have h2 := s_len i.w
  have h3 := opdsR_len f hs
  have h4 : (nb (insT i)).length = i.w.length + ((opdsT ss i.ops).map nb).flatten.length := by
    unfold insT
    rw [nb_joinB, List.map_cons, List.flatten_cons, List.length_append, e, Option.getD_some, nb_id (l := i.w)]
    intro c hc h32
    have := hw c hc
    rw [h32] at this
    cases this
  have h5 : (i.ops.map ((fun x : Tr => 2 + x.T.length) ∘ opdR)).sum = (i.ops.map fun o => 2 + (opdR o).T.length).sum := rfl
  unfold insR
  omega
theorem lines_sum (met : Nat → Bool) (r : List Nat) : ∀ (l : List Ins) (j : Nat), (l.map fun i => (nb (insT i)).length).sum + (nb r).length ≤ (nb (linesT met j l r)).length
  | [], j => by
    unfold linesT
    rw [insLs]
    simp only [List.map_nil, List.flatten_nil, List.nil_append, List.sum_nil, Nat.zero_add]
    rw [nb_app, nb_cons 10 _ (by decide), List.length_append, List.length_cons]; omega
  | i :: l, j => by
    have := lines_sum met r l (j + 1)
    rw [linesT_cons, nb_app, nb_app, nb_cons 10 _ (by decide)]
    simp only [List.length_append, List.length_cons, List.map_cons, List.sum_cons]
    omega
theorem head_sum (p : Proc) : 9 ≤ (nb (joinB (headW p))).length := by
  have w1 : nb (cs "procedure") = cs "procedure" := nb_id fun c hc => by
    have : (cs "procedure").all (fun c => !(c == 32)) = true := by kernel_rfl
    simpa using List.all_eq_true.mp this c hc
  have w2 : (cs "procedure").length = 9 := by kernel_rfl
  unfold headW
  rw [nb_joinB]
  simp only [List.cons_append, List.map_cons, List.flatten_cons, List.length_append, w1, w2]
  omega
theorem procR_len {p : Proc} (h : procP p) : 2 + (procR p).T.length ≤ 180 + 2 * p.title.length + 20 * (p.ins.map fun i => (nb (insT i)).length).sum := by
  have h1 := q_len false [headR p, .q false (ofL (p.ins.map insR))]
  have h2 := q_len true [.i p.number, .s p.title, .i p.needed, .b p.rest, .b p.cont, .i p.regs, .i p.free]
  have h3 := q_len false (p.ins.map insR)
  rw [List.map_map] at h3
  have h4 : (p.ins.map ((fun x : Tr => 2 + x.T.length) ∘ insR)).sum ≤ 20 * (p.ins.map fun i => (nb (insT i)).length).sum := sum_le fun i hi => insR_len (h.ins i hi)
  have a1 := i_len h.num
  have a2 := i_len h.need
  have a3 := i_len h.regs
  have a4 := i_len h.free
  have a5 := s_len p.title
  have bl : ∀ b : Bool, (Tr.b b).T.length ≤ 5 := fun b => by cases b <;> (rw [Tr.T]; decide)
  have a6 := bl p.rest
  have a7 := bl p.cont
  simp only [List.map_cons, List.map_nil, List.sum_cons, List.sum_nil] at h1 h2
  have h5 : (headR p).T.length = (Tr.q true (ofL [.i p.number, .s p.title, .i p.needed, .b p.rest, .b p.cont, .i p.regs, .i p.free])).T.length := rfl
  unfold procR
  omega
theorem procsR_len : ∀ {ps : List Proc}, (∀ p ∈ ps, procP p) → (ps.map fun p => 2 + (procR p).T.length).sum ≤ 20 * (nb (codeT ps)).length + 2 * (ps.map fun p => p.title.length).sum
  | [], _ => by simp
  | p :: ps, h => by
    have h1 := procR_len (h p (.head _))
    have h2 := procsR_len fun q hq => h q (.tail _ hq)
    have h3 := lines_sum (metB p.ins) (codeT ps) p.ins 0
    have h4 := head_sum p
    rw [codeT_cons, nb_app, nb_cons 10 _ (by decide)]
    simp only [List.length_append, List.length_cons, List.map_cons, List.sum_cons]
    omega
theorem wholeR_len {ps : List Proc} (h : ∀ p ∈ ps, procP p) : (wholeR ps).T.length ≤ 2 + 20 * (nb (codeT ps)).length + 2 * (ps.map fun p => p.title.length).sum := by
  have h1 := q_len false (ps.map procR)
  rw [List.map_map] at h1
  have h2 := procsR_len h
  have h5 : (ps.map ((fun x : Tr => 2 + x.T.length) ∘ procR)).sum = (ps.map fun o => 2 + (procR o).T.length).sum := rfl
  unfold wholeR
  omega
theorem lines_count (met : Nat → Bool) (r : List Nat) : ∀ (l : List Ins) (j : Nat), l.length + (nb r).length ≤ (nb (linesT met j l r)).length ∧ ∀ c ∈ nb r, c ∈ nb (linesT met j l r)
  | [], j => by
    unfold linesT
    rw [insLs]
    simp only [List.map_nil, List.flatten_nil, List.nil_append, List.length_nil, Nat.zero_add]
    rw [nb_app, nb_cons 10 _ (by decide), List.length_append, List.length_cons]
    exact ⟨by omega, fun c hc => List.mem_append.mpr (.inr (.tail _ hc))⟩
  | i :: l, j => by
    obtain ⟨a, b⟩ := lines_count met r l (j + 1)
    rw [linesT_cons, nb_app, nb_app, nb_cons 10 _ (by decide)]
    simp only [List.length_append, List.length_cons]
    exact ⟨by omega, fun c hc => List.mem_append.mpr (.inr (List.mem_append.mpr (.inr (.tail _ (b c hc)))))⟩
theorem title_head (p : Proc) : ∀ c ∈ nb p.title, c ∈ nb (joinB (headW p)) := fun c hc => by
  unfold headW
  rw [nb_joinB]
  simp only [List.map_append, List.flatten_append, List.map_cons, List.flatten_cons, List.mem_append, List.map_nil, List.flatten_nil]
  exact .inr (.inr (.inr (.inl hc)))
theorem ins_count {p : Proc} : ∀ {ps : List Proc}, p ∈ ps → p.ins.length ≤ (nb (codeT ps)).length ∧ ∀ c ∈ nb p.title, c ∈ nb (codeT ps)
  | [], h => by cases h
  | q :: ps, h => by
    rw [codeT_cons, nb_app, nb_cons 10 _ (by decide)]
    obtain ⟨a, b⟩ := lines_count (metB q.ins) (codeT ps) q.ins 0
    simp only [List.length_append, List.length_cons]
    rcases List.mem_cons.mp h with rfl | h
    · exact ⟨by omega, fun c hc => List.mem_append.mpr (.inl (title_head _ c hc))⟩
    · obtain ⟨a', b'⟩ := ins_count h
      exact ⟨by omega, fun c hc => List.mem_append.mpr (.inr (.tail _ (b c (b' c hc))))⟩
theorem ps_count : ∀ ps : List Proc, ps.length ≤ (nb (codeT ps)).length
  | [] => by simp
  | q :: ps => by
    rw [codeT_cons, nb_app, nb_cons 10 _ (by decide)]
    obtain ⟨a, b⟩ := lines_count (metB q.ins) (codeT ps) q.ins 0
    have := ps_count ps
    simp only [List.length_append, List.length_cons]
    omega
theorem read_ok {t : List Nat} {ps : List Proc} (h : pCode t = some ps) (hz : t.length ≤ 20000) (hc : ∀ c ∈ t, okC c) : wholeOK ps ∧ (wholeR ps).ok ∧ ∀ p ∈ ps, ∀ i ∈ p.ins, insOK i := by
  obtain ⟨e, hp, hl⟩ := code_nb h
  have hn : (nb (codeT ps)).length ≤ 20000 := by rw [← e]; exact Nat.le_trans (nb_len t) hz
  have ht : ∀ p ∈ ps, ∀ c ∈ p.title, okC c := by
    intro p hpp c hcc
    by_cases h32 : c = 32
    · subst h32; exact ⟨.inr ⟨by omega, by omega⟩, by omega⟩
    · have : c ∈ nb (codeT ps) := (ins_count hpp).2 c (List.mem_filter.mpr ⟨hcc, by simp [h32]⟩)
      rw [← e] at this
      exact hc c (List.mem_filter.mp this).1
  have hok := wholeR_ok hp ht
  refine ⟨⟨?_, ?_, ?_, ?_⟩, hok, fun p hpp i hi => ((hp p hpp).ins i hi).1⟩
  · rw [← wholeR_D]; exact Tr.showable _ hok
  · rw [wholeT_eq hok]
    have := wholeR_len hp
    omega
  · have := ps_count ps; omega
  · intro p hpp
    have := (ins_count hpp).1; omega
end Mine
end
section
open PySem PySem.W PyProof.Rows PySem.Calls PySem.Builtin PySem.Builtin.Str PySem.NumText
namespace Mine
set_option maxRecDepth 100000

structure Drawn (ps : List Proc) : Prop where
  ok : ∀ p ∈ ps, procOK p
  title : ∀ p ∈ ps, TitleOK p.title
  num : ∀ (i : Nat) (p : Proc), ps[i]? = some p → p.number = i
  pos : ps ≠ []
  two : ps.length ≤ 2
noncomputable def lineC (c : Nat) : Prop := okC c ∧ c ≠ 10
noncomputable def linC (l : List Nat) : Prop := ∀ c ∈ l, lineC c
noncomputable def txtC (l : List Nat) : Prop := ∀ c ∈ l, okC c
theorem linC.txt {l : List Nat} (h : linC l) : txtC l := fun c hc => (h c hc).1
theorem linC_shN (n : Nat) : linC (shN n) := fun c hc => by
  have := shN_all n c hc
  exact ⟨⟨.inr ⟨by omega, by omega⟩, by omega⟩, by omega⟩
theorem lineC_of {c : Nat} (h : (okCb c && !(c == 10)) = true) : lineC c := by
  simp only [Bool.and_eq_true, Bool.not_eq_true', beq_eq_false_iff_ne] at h
  exact ⟨okC_of h.1, h.2⟩
theorem linC_of {l : List Nat} (h : (l.all fun c => okCb c && !(c == 10)) = true) : linC l := fun c hc => lineC_of (List.all_eq_true.mp h c hc)
theorem linC.cons {c : Nat} {l : List Nat} (h : lineC c) (hl : linC l) : linC (c :: l) := fun d hd => by
  rcases List.mem_cons.mp hd with rfl | hd
  · exact h
  · exact hl d hd
theorem linC.app {a b : List Nat} (h : linC a) (hl : linC b) : linC (a ++ b) := fun d hd => by
  rcases List.mem_append.mp hd with hd | hd
  · exact h d hd
  · exact hl d hd
theorem txtC.cons {c : Nat} {l : List Nat} (h : okC c) (hl : txtC l) : txtC (c :: l) := fun d hd => by
  rcases List.mem_cons.mp hd with rfl | hd
  · exact h
  · exact hl d hd
theorem txtC.app {a b : List Nat} (h : txtC a) (hl : txtC b) : txtC (a ++ b) := fun d hd => by
  rcases List.mem_append.mp hd with hd | hd
  · exact h d hd
  · exact hl d hd
theorem linC.nil : linC [] := fun c h => by cases h
theorem txtC.nil : txtC [] := fun c h => by cases h
theorem linC_joinB : ∀ {xs : List (List Nat)}, (∀ x ∈ xs, linC x) → linC (joinB xs)
  | [], _ => .nil
  | [x], h => h x (.head _)
  | x :: y :: r, h => by
    rw [joinB]
    exact (h x (.head _)).app (.cons (lineC_of (by rfl)) (linC_joinB fun z hz => h z (.tail _ hz)))
theorem txtC_joinB : ∀ {xs : List (List Nat)}, (∀ x ∈ xs, txtC x) → txtC (joinB xs)
  | [], _ => .nil
  | [x], h => h x (.head _)
  | x :: y :: r, h => by
    rw [joinB]
    exact (h x (.head _)).app (.cons (lineC_of (by rfl)).1 (txtC_joinB fun z hz => h z (.tail _ hz)))
theorem linC_regsT (l : List Nat) : linC (regsT l) := by
  unfold regsT
  refine .cons (lineC_of (by rfl)) (.app (linC_joinB fun x hx => ?_) (.cons (lineC_of (by rfl)) .nil))
  obtain ⟨n, _, rfl⟩ := List.mem_map.mp hx
  exact .cons (lineC_of (by rfl)) (linC_shN n)
theorem linC_rowT (e : Row) : linC (rowT e) := by
  unfold rowT
  exact .cons (lineC_of (by rfl)) (.app (linC_shN _) (.cons (lineC_of (by rfl)) (.cons (lineC_of (by rfl)) (.app (linC_shN _) (.cons (lineC_of (by rfl)) (linC_regsT _))))))
theorem prim_line : ∀ n : Fin 6, ((primNames.getD n.1 []).all fun c => okCb c && !(c == 10)) = true := by decide +kernel
theorem linC_opdT {s : Srt} {o : Opd} (h : fits s o = true) : linC (opdT s o) := by
  cases o with
  | num n =>
    show linC (if s = .prim then primNames.getD n [] else s.letter :: shN n)
    split
    · rename_i e
      subst e
      exact linC_of (prim_line ⟨n, of_decide_eq_true h⟩)
    · rename_i e
      refine .cons ?_ (linC_shN n)
      cases s <;> first | exact lineC_of (by rfl) | exact absurd rfl e | (first | subst h | cases h)
  | regs l => exact linC_regsT l
  | rows l =>
    refine linC_joinB fun x hx => ?_
    obtain ⟨n, _, rfl⟩ := List.mem_map.mp hx
    exact linC_rowT n
theorem linC_opdsT : ∀ {ss : List Srt} {os : List Opd}, fitsAll ss os = true → ∀ x ∈ opdsT ss os, linC x
  | [], [], _ => fun x hx => by cases hx
  | [], _ :: _, h => by cases h
  | _ :: _, [], h => by cases h
  | s :: ss, o :: os, h => by
    have h := fitsAll_cons.mp h
    intro x hx
    rcases List.mem_cons.mp hx with rfl | hx
    · exact linC_opdT h.1
    · exact linC_opdsT h.2 x hx
theorem linC_insT {i : Ins} (h : insOK i) : linC (insT i) := by
  obtain ⟨ss, e, f⟩ := h
  unfold insT
  rw [e, Option.getD_some]
  refine linC_joinB fun x hx => ?_
  rcases List.mem_cons.mp hx with rfl | hx
  · intro c hc
    refine ⟨(sorts_ok e).1 c hc, fun q => ?_⟩
    have := (sorts_word e).1 c hc
    rw [q] at this
    cases this
  · exact linC_opdsT f x hx
theorem linC_ahead (b : Bool) (j : Nat) : linC (aheadT b j) := by
  cases b
  · exact linC_of (by rfl)
  · exact .cons (lineC_of (by rfl)) (.app (linC_shN j) (.cons (lineC_of (by rfl)) .nil))
theorem lineC_end : linC [101, 110, 100] := linC_of (by rfl)
theorem okC10 : okC 10 := ⟨.inl rfl, by decide⟩
theorem lines_txt (met : Nat → Bool) {r : List Nat} (hr : txtC r) : ∀ (l : List Ins) (j : Nat), (∀ i ∈ l, insOK i) → txtC (linesT met j l r)
  | [], j, _ => by
    unfold linesT
    rw [insLs]
    exact .app .nil (.app lineC_end.txt (.cons okC10 hr))
  | i :: l, j, h => by
    rw [linesT_cons]
    exact .app (linC_ahead _ _).txt (.app (linC_insT (h i (.head _))).txt (.cons okC10 (lines_txt met hr l (j + 1) fun k hk => h k (.tail _ hk))))
theorem linC.count {l : List Nat} (h : linC l) : l.count 10 = 0 := List.count_eq_zero.mpr fun hc => (h 10 hc).2 rfl
theorem lines_ten (met : Nat → Bool) (r : List Nat) : ∀ (l : List Ins) (j : Nat), (∀ i ∈ l, insOK i) → (linesT met j l r).count 10 = l.length + 1 + r.count 10
  | [], j, _ => by
    unfold linesT
    rw [insLs]
    simp only [List.map_nil, List.flatten_nil, List.nil_append]
    rw [List.count_append, List.count_cons_self, lineC_end.count]
    simp; omega
  | i :: l, j, h => by
    rw [linesT_cons, List.count_append, List.count_append, List.count_cons_self, (linC_ahead _ _).count, (linC_insT (h i (.head _))).count, lines_ten met r l (j + 1) fun k hk => h k (.tail _ hk)]
    simp; omega
theorem title_txt {t : List Nat} (h : TitleOK t) : txtC t := fun c hc => by
  have : signs.all okCb = true := by rfl
  exact okC_of (List.all_eq_true.mp this c (h.2 c hc))
theorem head_words (p : Proc) : ∀ x ∈ headW p, linC x ∨ x = p.title := by
  have w : ∀ x : String, ((cs x).all fun c => okCb c && !(c == 10)) = true → linC (cs x) := fun x hx => linC_of hx
  have w1 := w "procedure" (by kernel_rfl)
  have w2 := w "needed" (by kernel_rfl)
  have w3 := w "rest" (by kernel_rfl)
  have w4 := w "continuation" (by kernel_rfl)
  have w5 := w "registers" (by kernel_rfl)
  have w6 := w "free" (by kernel_rfl)
  have w7 := w "title" (by kernel_rfl)
  intro x hx
  unfold headW at hx
  simp only [List.mem_append, List.mem_cons, List.not_mem_nil, or_false] at hx
  rcases hx with (((( rfl | rfl | rfl | rfl) | hx) | hx) | (rfl | rfl | rfl | rfl)) | (rfl | rfl | rfl)
  · exact .inl w1
  · exact .inl (linC_shN _)
  · exact .inl w2
  · exact .inl (linC_shN _)
  · split at hx
    · rw [List.mem_singleton.mp hx]; exact .inl w3
    · cases hx
  · split at hx
    · rw [List.mem_singleton.mp hx]; exact .inl w4
    · cases hx
  · exact .inl w5
  · exact .inl (linC_shN _)
  · exact .inl w6
  · exact .inl (linC_shN _)
  · exact .inl w7
  · exact .inl (linC_shN _)
  · exact .inr rfl
theorem joinB_ten : ∀ xs : List (List Nat), (joinB xs).count 10 = (xs.map (·.count 10)).sum
  | [] => rfl
  | [x] => by simp [joinB]
  | x :: y :: r => by
    rw [joinB, List.count_append, List.count_cons, joinB_ten (y :: r)]
    simp
theorem head_ten (p : Proc) : (joinB (headW p)).count 10 ≤ p.title.length := by
  have w : ∀ x : String, ((cs x).all fun c => okCb c && !(c == 10)) = true → (cs x).count 10 = 0 := fun x hx => (linC_of hx).count
  have w1 := w "procedure" (by kernel_rfl)
  have w2 := w "needed" (by kernel_rfl)
  have w3 := w "rest" (by kernel_rfl)
  have w4 := w "continuation" (by kernel_rfl)
  have w5 := w "registers" (by kernel_rfl)
  have w6 := w "free" (by kernel_rfl)
  have w7 := w "title" (by kernel_rfl)
  have n := fun k => (linC_shN k).count
  rw [joinB_ten]
  unfold headW
  have := List.count_le_length (a := 10) (l := p.title)
  cases p.rest <;> cases p.cont <;> simp [w1, w2, w3, w4, w5, w6, w7, n] <;> exact this
theorem code_txt : ∀ {ps : List Proc}, (∀ p ∈ ps, procOK p) → (∀ p ∈ ps, TitleOK p.title) → txtC (codeT ps)
  | [], _, _ => .nil
  | p :: ps, h, ht => by
    rw [codeT_cons]
    refine .app (txtC_joinB fun x hx => ?_) (.cons okC10 (lines_txt _ (code_txt (fun q hq => h q (.tail _ hq)) fun q hq => ht q (.tail _ hq)) _ _ fun i hi => ((h p (.head _)).ins i hi).1))
    rcases head_words p x hx with q | rfl
    · exact q.txt
    · exact title_txt (ht p (.head _))
theorem code_ten : ∀ {ps : List Proc}, (∀ p ∈ ps, procOK p) → (codeT ps).count 10 ≤ 9 * ps.length
  | [], _ => by simp [codeT]
  | p :: ps, h => by
    have h0 := h p (.head _)
    have h1 := head_ten p
    have h2 := code_ten fun q hq => h q (.tail _ hq)
    have h3 := h0.ti
    have h4 := h0.len
    rw [codeT_cons, List.count_append, List.count_cons_self, lines_ten _ _ _ _ fun i hi => (h0.ins i hi).1]
    simp only [List.length_cons]
    omega
theorem lines_end (met : Nat → Bool) (j : Nat) (l : List Ins) (r : List Nat) : ∃ X, linesT met j l r = X ++ 10 :: r := by
  unfold linesT
  exact ⟨((insLs met j l).map (· ++ [10])).flatten ++ [101, 110, 100], by simp⟩
theorem code_end : ∀ {ps : List Proc}, ps ≠ [] → ∃ X, codeT ps = X ++ [10]
  | [], h => absurd rfl h
  | p :: ps, _ => by
    obtain ⟨Y, hY⟩ := lines_end (metB p.ins) 0 p.ins (codeT ps)
    rw [codeT_cons, hY]
    cases ps with
    | nil => exact ⟨joinB (headW p) ++ 10 :: Y, by simp [codeT]⟩
    | cons q qs =>
      obtain ⟨X, hX⟩ := code_end (ps := q :: qs) (by simp)
      rw [hX]
      exact ⟨joinB (headW p) ++ 10 :: (Y ++ 10 :: X), by simp⟩
theorem code_dig {ps : List Proc} (h : ps ≠ []) : ∃ c ∈ codeT ps, dig c := by
  cases ps with
  | nil => exact absurd rfl h
  | cons p ps =>
    cases hh : shN p.number with
    | nil => exact absurd hh (shN_ne _)
    | cons c t =>
      refine ⟨c, ?_, shN_all p.number c (by rw [hh]; exact .head _)⟩
      have h1 : c ∈ nb (joinB (headW p)) := by
        unfold headW
        rw [nb_joinB]
        simp only [List.cons_append, List.map_cons, List.flatten_cons, nb_shN, List.mem_append]
        exact .inr (.inl (by rw [hh]; exact .head _))
      rw [codeT_cons]
      exact List.mem_append.mpr (.inl (List.mem_filter.mp h1).1)
theorem nb_ten (l : List Nat) : (nb l).count 10 = l.count 10 := by
  induction l with
  | nil => rfl
  | cons c l ih =>
    by_cases h : c = 32
    · subst h; rw [nb_blank, ih, List.count_cons]; simp
    · rw [nb_cons _ _ h, List.count_cons, List.count_cons, ih]
theorem Drawn.len {ps : List Proc} (d : Drawn ps) : (codeT ps).length ≤ 20000 := Nat.le_trans (codeT_len d.ok d.two) (by decide)
theorem Drawn.ten {ps : List Proc} (d : Drawn ps) : (codeT ps).count 10 ≤ 63 := by have := code_ten d.ok; have := d.two; omega
theorem Drawn.has10 {ps : List Proc} (d : Drawn ps) : 10 ∈ codeT ps := by obtain ⟨X, hX⟩ := code_end d.pos; rw [hX]; simp
theorem Drawn.len0 {ps : List Proc} (d : Drawn ps) : 0 < (codeT ps).length := List.length_pos_of_mem d.has10
theorem Drawn.read {ps : List Proc} (d : Drawn ps) : pCode (codeT ps) = some ps := code_w d.ok d.num
theorem Drawn.whole {ps : List Proc} (d : Drawn ps) : wholeOK ps ∧ (wholeR ps).ok ∧ ∀ p ∈ ps, ∀ i ∈ p.ins, insOK i := read_ok d.read d.len (code_txt d.ok d.title)
theorem Drawn.nl {ps : List Proc} (d : Drawn ps) : nl (codeT ps) < 64 := by unfold Mine.nl; rw [nb_ten]; have := d.ten; omega
theorem Spoilt.facts {ps : List Proc} {t : List Nat} (d : Drawn ps) (h : Spoilt (codeT ps) t) : t.length ≤ 20000 ∧ Mine.nl t < 64 ∧ txtC t ∧ nb t ≠ nb (codeT ps) := by
  have h1 := d.len
  have h2 := d.ten
  have h3 := code_txt d.ok d.title
  unfold Mine.nl
  rw [nb_ten]
  rcases h with ⟨k, hk, rfl⟩ | ⟨a, b, c⟩ | ⟨a, x, x', b, e, hx, hx', hne, rfl⟩
  · obtain ⟨X, hX⟩ := code_end d.pos
    have e : (codeT ps).take k = X.take k := by
      rw [hX, List.length_append, List.length_singleton] at hk
      rw [hX, List.take_append_of_le_length (by omega)]
    have hc : ((codeT ps).take k).count 10 < (codeT ps).count 10 := by
      rw [e, hX, List.count_append, List.count_cons_self]
      have := (List.take_sublist k X).count_le 10
      omega
    refine ⟨by rw [List.length_take]; omega, by omega, fun c hc => h3 c (List.mem_of_mem_take hc), fun q => ?_⟩
    have := congrArg (List.count 10) q
    rw [nb_ten, nb_ten] at this
    omega
  · refine ⟨by omega, by omega, fun y hy => h3 y (c y hy), fun q => ?_⟩
    have := congrArg (List.count 10) q
    rw [nb_ten, nb_ten] at this
    omega
  · rw [e] at h1 h2 h3 ⊢
    have hd : ∀ y, dig y → y ≠ 10 ∧ y ≠ 32 := fun y hy => by unfold dig at hy; omega
    have ok : okC x' := by unfold dig at hx'; exact ⟨.inr ⟨by omega, by omega⟩, by omega⟩
    refine ⟨by simpa using h1, ?_, ?_, ?_⟩
    · rw [List.count_append, List.count_cons, if_neg (by simp [(hd x' hx').1])]
      rw [List.count_append, List.count_cons, if_neg (by simp [(hd x hx).1])] at h2
      omega
    · exact .app (fun y hy => h3 y (List.mem_append.mpr (.inl hy))) (.cons ok fun y hy => h3 y (List.mem_append.mpr (.inr (.tail _ hy))))
    · rw [nb_app, nb_app, nb_cons _ _ (hd x hx).2, nb_cons _ _ (hd x' hx').2]
      intro q
      have := List.append_cancel_left q
      injection this with q1 _
      exact hne q1.symm
theorem Spoilt.found {ps ps' : List Proc} {t : List Nat} (d : Drawn ps) (h : Spoilt (codeT ps) t) (hp : pCode t = some ps') : wholeOK ps' ∧ wholeT ps' ≠ wholeT ps := by
  obtain ⟨h1, h2, h3, h4⟩ := h.facts d
  obtain ⟨w1, w2, w3⟩ := read_ok hp h1 h3
  obtain ⟨v1, v2, v3⟩ := d.whole
  refine ⟨w1, fun e => h4 ?_⟩
  have := wholeT_inj w2 v2 w3 v3 e
  rw [(code_nb hp).1, this]
end Mine
end
section
open PySem PySem.W PyProof.Rows PySem.Calls PySem.Builtin PySem.Builtin.Str PySem.NumText
namespace Mine
set_option maxRecDepth 100000

theorem fn_law (P : Params) : FnOK P fi_law := ⟨by kernel_rfl, by kernel_rfl, by kernel_rfl⟩
theorem read_code_at (G : Gh) {A : Around} {env : Env} {g : Heap} {m : Str → Option Value} {mu : List (Addr × Obj)} {s : Shared} {Q E : Value → Shared → Prop} {n : Nat} (l : List Nat) (ps : List Proc) (vt vn : Value) (hz : l.length ≤ 16777216) (hn : nl l < 64) (hvt : VT l vt) (hvn : RD g namesD vn) (hp : pCode l = some ps)
    (H : At ⟨G, A, env, g, m, mu⟩ s) (R : Rm A n) (hn15 : 15 ≤ n) (hA : A.frames = some [env]) (hf : env.frame = some env.locals) (hk : env.scope.kind ≠ .module) (hmu : ∀ p ∈ mu, ∀ vs, p.2.data ≠ .fields vs)
    (k : ∀ v s' g', Up g g' → PrL g' ps v → At ⟨G, A, env, g', m, mu⟩ s' → Q v s') : wpAny G.M A (call (.ref 282) [vt, vn]) Q E s := by
  obtain ⟨oL, co, ll, kc, gl⟩ := H
  have hcd : ∀ {cl : List (Str × Addr)} {co : List (Addr × Obj)}, CellsAre m cl co → ∀ p ∈ co, ∀ vs, p.2.data ≠ .fields vs := by
    intro cl co h
    induction h with
    | nil => intro p hp; cases hp
    | cons hd r ih =>
      intro p hp vs e
      rcases List.mem_cons.mp hp with rfl | hp
      · rw [hd] at e; (first | subst e | cases e)
      · exact ih p hp vs e
  have hLd : ∀ vs, oL.data ≠ .fields vs := fun vs e => by obtain ⟨es, ep, hd, _⟩ := ll; rw [hd] at e; (first | subst e | cases e)
  have hall : ∀ p ∈ ((env.locals, oL) :: (co ++ mu)), ∀ vs, p.2.data ≠ .fields vs := fun p hp => by
    rcases List.mem_cons.mp hp with rfl | hp
    · exact hLd
    rcases List.mem_append.mp hp with hp | hp
    · exact hcd kc p hp
    · exact hmu p hp
  refine read_code_spec G ⟨g, (env.locals, oL) :: (co ++ mu), G.os⟩ rfl (outer := [env]) l vt vn hz hn hvt hvn gl (R.less hn15) hA ⟨fun env' he => ?_, fun p hp => ⟨p.2.slots, hp, hall p hp⟩⟩ Up.rfl (fun ps' v s₅ g₂ hps u₂ hv gl₅ => ?_) (fun e s₅ hnone hfly => ?_)
  · rw [List.mem_singleton.mp he]
    exact ⟨hk, _, oL, hf, .head _, hLd⟩
  · rw [hp] at hps
    cases hps
    exact k v s₅ g₂ u₂ hv ⟨oL, co, ll, kc, gl₅⟩
  · rw [hp] at hnone; cases hnone
theorem pot_data {g : Heap} {o : Obj} (h : Pot g o) : ∃ vs n, o.data = .seq vs n := by
  obtain ⟨l, vs, ns, i, ti, sd, ts, ⟨a, n, b⟩, _⟩ := h
  exact ⟨_, n, b⟩
set_option maxHeartbeats 4000000 in
theorem law_spec (G : Gh) {A : Around} {g : Heap} {mu : List (Addr × Obj)} {s : Shared} {Q E : Value → Shared → Prop} {a : Addr} {vs : List Value} {ns : List Int} (hl : g.IsList a vs.toArray) (hi : IntsAre vs ns) (hz : vs.length ≤ 63) (H : Gl G g mu s) (hmu : ∀ p ∈ mu, ∀ vs, p.2.data ≠ .fields vs) (R : Rm A 24) (hA : A.frames = some [])
    (k : ∀ s' g' mu', Up g g' → Gl G g' mu' s' → Q (.bool true) s') : wpAny G.M A (call (.ref 347) [.ref a]) Q E s := by
  refine enter0 (i := fi_law) (binds := [("script", .ref a)]) (n := 23) fn_law H R (by rfl) (by kernel_rfl) fun L s' W H' => ?_
  have hfr : (A.deeper (fi_law.env L)).frames = some [fi_law.env L] := Around.frames_deeper hA
  show wpAny _ _ (execs (List.cons _ _) _) _ _ _
  -- the pot
  refine ex_assign_any (c_def (f := 287) (P := P1 (VE (.ref a))) H' (pe_glob (by kernel_rfl) rfl (by kernel_rfl)) (by kernel_rfl) (pa_one (pe_local (by kernel_rfl) (by rfl))) fun vs₁ s₁ ⟨v, e, e1⟩ H₁ => ?_)
  subst e; (first | subst e1 | cases e1)
  obtain ⟨oL, co, ll, kc, gl⟩ := H₁
  refine law_pot_spec G hl hi hz gl (W.less (by decide)) fun Pt o g₁ s₂ u₁ hp gl₂ => ?_
  have H₂ : At ⟨G, A.deeper (fi_law.env L), fi_law.env L, g₁, loc [("script", .ref a)], (Pt, o) :: mu⟩ s₂ := ⟨oL, co, ll, kc, gl₂.perm (perm_front ..).symm⟩
  refine H₂.store (by kernel_rfl) fun s₃ H₃ => ?_
  obtain ⟨M, m1, H₃⟩ : ∃ M : Str → Option Value, M (Str.ofString "pot") = some (.ref Pt) ∧ At ⟨G, A.deeper (fi_law.env L), fi_law.env L, g₁, M, (Pt, o) :: mu⟩ s₃ := ⟨_, by rfl, H₃⟩
  -- the procedures
  refine ex_assign_comp (by rfl) (cl := [("pot", L + 1)]) (by rfl) (.refl _) (by kernel_rfl) (by kernel_rfl) (c_ty_any (T := "range") H₃ (by decide +kernel) (by kernel_rfl) fun s₄ H₄ => sp_cons (wpAny_BinOp (pe_run H₄ (pe_int (i := 1)) fun c s₅ hc H₅ => g_dip (k := 2) H₅ hp (by kernel_rfl) rfl (pe_local (by kernel_rfl) (by exact m1)) (by decide) W (by decide) fun j t s₆ g₂ o₂ hj u₂ hp₂ H₆ => ?_)))
  obtain ⟨tc, rfl⟩ := hc
  refine add_int ?_
  have H₆ := H₆.toks (s₆.toks + 1)
  have e0 : (1 : Int) + (j : Int) = ((1 + j : Nat) : Int) := by omega
  rw [e0]
  refine sp_nil (at_range W.h H₆ (by omega) fun v g₃ s₇ u₃ hit H₇ => ?_)
  refine ⟨g₃, _, _, 1 + j, _, fun i g mu' ys => An3 (i ≤ 1 + j) (Up g₃ g) (Ex2 fun o ps => An6 (mu' = (Pt, o) :: mu) (Pot g o) (ps.length = i) ((∀ p ∈ ps, procOK p ∧ TitleOK p.title)) ((∀ (k : Nat) (p : Proc), ps[k]? = some p → p.number = k)) (PrDs g ps ys)), H₇, hit, by rw [sizeLine_eq]; omega, ⟨Nat.zero_le _, Up.rfl, o₂, [], rfl, hp₂.up u₃, rfl, by simp, by simp, PrDs.nil⟩, ?_, ?_, ?_⟩
  · rintro i C g₄ mc mu' ψ w ys s₈ hin hw ⟨_, u₄, o₄, ps, rfl, hp₄, hn, hok, hnum, hy⟩ _ hm H₈
    have q1 : mc (Str.ofString "pot") = some (.ref Pt) := (hm _ (by kernel_rfl)).trans m1
    obtain ⟨tw, rfl⟩ := hw
    refine wpAny_assign_Name (At.store (c := ⟨G, _, _, g₄, mc, _⟩) H₈ (by kernel_rfl) fun s₉ H₉ => tests_yes ?_)
    refine g_def (V := ProcV i) (ρ := mu ++ ψ) (P := P2 (VE (.ref Pt)) (VI (i : Int))) H₉ hp₄ (pe_glob (by kernel_rfl) rfl (by kernel_rfl)) (by kernel_rfl) (pa_two (pe_local (by kernel_rfl) (by exact q1)) (pe_locI (t := tw) (by kernel_rfl) (by rfl))) (fun vs ⟨a, b, e, e1, e2⟩ => by subst e; (first | subst e1 | cases e1); exact law_procedure_spec G g₄ Pt i b (by omega) e2) W (by decide) fun v s₁₀ g₅ o₅ u₅ hV hp₅ H₁₀ => ?_
    obtain ⟨p, hpo, hpt, hpn, _, hpd⟩ := hV
    refine ⟨g₅, _, (Pt, o₅) :: mu, u₅, H₁₀, free_put (by kernel_rfl), hin, u₄.trans u₅, o₅, ps ++ [p], rfl, hp₅, by simp [hn], fun c hc => ?_, fun kk q hq => ?_, (hy.up u₅).snoc hpd⟩
    · rcases List.mem_append.mp hc with hc | hc
      · exact hok c hc
      · rw [List.mem_singleton.mp hc]; exact ⟨hpo, hpt⟩
    · rcases Nat.lt_or_ge kk ps.length with h | h
      · rw [List.getElem?_append_left h] at hq; exact hnum kk q hq
      · rw [List.getElem?_append_right h] at hq
        have hk0 : kk - ps.length = 0 := by
          rcases Nat.eq_zero_or_pos (kk - ps.length) with z | z
          · exact z
          · rw [List.getElem?_eq_none (by simp; omega)] at hq; cases hq
        rw [hk0] at hq
        cases hq
        rw [hpn]; omega
  · rintro i g₄ mu' ys ⟨_, _, o₄, ps, _, _, hn, _, _, hy⟩ _
    rw [hy.1]; omega
  rintro D g₄ mu' ys kk s₈ ⟨_, u₄, o₄, ps, rfl, hp₄, hn, hok, hnum, hy⟩ _ H₈
  obtain ⟨g₅, u₅, hD, H₉⟩ := At.freeze (c := ⟨G, _, _, g₄, put M (Str.ofString "procedures") (.ref D), (D, lstO ys kk) :: (Pt, o₄) :: mu⟩) H₈
  have hps : PrL g₅ ps (.ref D) := ⟨D, ys, kk, rfl, hD, hy.up u₅⟩
  have d : Drawn ps := ⟨fun p hp => (hok p hp).1, fun p hp => (hok p hp).2, hnum, by intro q; rw [q] at hn; simp at hn; omega, by omega⟩
  have hwo := d.whole.1
  have hlen := d.len
  have hpot := hp₄.up u₅
  have ug₅ : Up g g₅ := (((u₁.trans u₂).trans u₃).trans u₄).trans u₅
  clear hp hp₂ H₂ H₃ H₇ H₈ hit
  obtain ⟨M1, n1, n2, H₁₀⟩ : ∃ M' : Str → Option Value, An3 (M' (Str.ofString "pot") = some (.ref Pt)) (M' (Str.ofString "procedures") = some (.ref D)) (At ⟨G, A.deeper (fi_law.env L), fi_law.env L, g₅, M', (Pt, o₄) :: mu⟩ s₈) := ⟨_, (by exact m1), by rfl, H₉⟩
  -- told, text
  refine ex_assign2s W.h (Tuple_ (sp_cons (c_fdef (f := 328) (P := P1 (VE (.ref D))) H₁₀ (pe_glob (by kernel_rfl) rfl (by kernel_rfl)) (by kernel_rfl) (pa_one (pe_local (by kernel_rfl) (by exact n2))) (fun vs ⟨v, e, e1⟩ => by subst e; (first | subst e1 | cases e1); exact law_whole_spec G g₅ ps _ hps hwo) W (by decide) fun v s₁₁ g₆ u₆ hv H₁₁ => ?_))) (by kernel_rfl) (by kernel_rfl)
  obtain ⟨tt, rfl⟩ := hv
  refine sp_cons (c_fdef_any (f := 118) H₁₁ (pe_glob (by kernel_rfl) rfl (by kernel_rfl)) (by kernel_rfl) fun s₁₂ H₁₂ => sp_pe H₁₂ (pe_local (by kernel_rfl) (by exact n2)) fun v s₁₃ hv H₁₃ => sp_cons (c_fdef0 (f := 301) H₁₃ (pe_glob (by kernel_rfl) rfl (by kernel_rfl)) (by kernel_rfl) (law_names_spec G g₆) W (by decide) fun vn s₁₄ g₇ u₇ hvn H₁₄ => sp_nil ⟨H₁₄.X, ?_⟩))
  (first | subst hv | cases hv)
  refine fspec_at (code_text_spec G g₇ ps _ vn (hps.up (u₆.trans u₇)) hvn d.ok d.two) H₁₄ W (by decide) fun v s₁₅ g₈ u₈ hv H₁₅ => ?_
  obtain ⟨tx, rfl⟩ := hv
  refine sp_nil (at_tuple H₁₅ (by simp) fun T g₉ s₁₆ u₉ hT H₁₆ => ⟨T, _, _, g₉, _, _, rfl, ⟨_, H₁₆.up _ _ hT, rfl, _, rfl⟩, H₁₆, fun s₁₇ H₁₇ => ?_⟩)
  have u59 : Up g₅ g₉ := ((u₆.trans u₇).trans u₈).trans u₉
  obtain ⟨M2, p1, p2, p3, p4, H₁₈⟩ : ∃ M' : Str → Option Value, An5 (M' (Str.ofString "pot") = some (.ref Pt)) (M' (Str.ofString "procedures") = some (.ref D)) (M' (Str.ofString "told") = some (.str (S (wholeT ps)) tt)) (M' (Str.ofString "text") = some (.str (S (codeT ps)) tx)) (At ⟨G, A.deeper (fi_law.env L), fi_law.env L, g₉, M', (Pt, o₄) :: mu⟩ s₁₇) := ⟨_, (by exact n1), (by exact n2), by rfl, by rfl, H₁₇⟩
  have hpot := hpot.up u59
  have hps := hps.up u59
  have hmu' : ∀ p ∈ (Pt, o₄) :: mu, ∀ vs, p.2.data ≠ .fields vs := fun p hp vs e => by
    rcases List.mem_cons.mp hp with rfl | hp
    · obtain ⟨x, n, hx⟩ := pot_data hpot
      rw [hx] at e; (first | subst e | cases e)
    · exact hmu p hp vs e
  -- again
  refine ex_assign_any (c_fdef_any (f := 282) H₁₈ (pe_glob (by kernel_rfl) rfl (by kernel_rfl)) (by kernel_rfl) fun s₁₉ H₁₉ => sp_pe H₁₉ (pe_local (by kernel_rfl) (by exact p4)) fun v s₂₀ hv H₂₀ => sp_cons (c_fdef0 (f := 301) H₂₀ (pe_glob (by kernel_rfl) rfl (by kernel_rfl)) (by kernel_rfl) (law_names_spec G g₉) W (by decide) fun vn₂ s₂₁ g₁₀ u₁₀ hvn₂ H₂₁ => sp_nil ⟨H₂₁.X, ?_⟩))
  (first | subst hv | cases hv)
  refine read_code_at G (codeT ps) ps _ vn₂ (by omega) d.nl ⟨tx, rfl⟩ hvn₂ d.read H₂₁ W (by decide) hfr rfl (by show sc_law.kind ≠ _; decide +kernel) hmu' fun va s₂₂ g₁₁ u₁₁ hva H₂₂ => ?_
  refine H₂₂.store (by kernel_rfl) fun s₂₃ H₂₃ => ?_
  obtain ⟨M3, r1, r2, r3, r4, r5, H₂₄⟩ : ∃ M' : Str → Option Value, An6 (M' (Str.ofString "pot") = some (.ref Pt)) (M' (Str.ofString "procedures") = some (.ref D)) (M' (Str.ofString "told") = some (.str (S (wholeT ps)) tt)) (M' (Str.ofString "text") = some (.str (S (codeT ps)) tx)) (M' (Str.ofString "again") = some va) (At ⟨G, A.deeper (fi_law.env L), fi_law.env L, g₁₁, M', (Pt, o₄) :: mu⟩ s₂₃) := ⟨_, (by exact p1), (by exact p2), (by exact p3), (by exact p4), by rfl, H₂₃⟩
  have u911 := u₁₀.trans u₁₁
  have hpot := hpot.up u911
  have hps := hps.up u911
  refine ex_if_any (isTrue_or (wpAny_isTrue_Compare1 (c_fdef (f := 328) (P := P1 (VE va)) H₂₄ (pe_glob (by kernel_rfl) rfl (by kernel_rfl)) (by kernel_rfl) (pa_one (pe_local (by kernel_rfl) (by exact r5))) (fun vs ⟨v, e, e1⟩ => by subst e; (first | subst e1 | cases e1); exact law_whole_spec G g₁₁ ps _ hva hwo) W (by decide) fun v s₂₅ g₁₂ u₁₂ hv H₂₅ => pe_run H₂₅ (pe_locT (l := wholeT ps) (t := tt) (by kernel_rfl) (by exact r3)) fun v' s₂₆ hv' H₂₆ => ?_) (by rfl)))
  obtain ⟨t1, rfl⟩ := hv
  obtain ⟨t2, rfl⟩ := hv'
  refine ne_str (wpAny_truthy_bool ?_)
  rw [ne_S, decide_eq_true rfl]
  simp only [Bool.not_true, Bool.false_eq_true, if_false]
  refine isTrue_or (wpAny_isTrue_Compare1 (c_fdef_any (f := 118) H₂₆ (pe_glob (by kernel_rfl) rfl (by kernel_rfl)) (by kernel_rfl) fun s₂₇ H₂₇ => sp_pe H₂₇ (pe_local (by kernel_rfl) (by exact r5)) fun v s₂₈ hv H₂₈ => sp_cons (c_fdef0 (f := 301) H₂₈ (pe_glob (by kernel_rfl) rfl (by kernel_rfl)) (by kernel_rfl) (law_names_spec G g₁₂) W (by decide) fun vn₃ s₂₉ g₁₃ u₁₃ hvn₃ H₂₉ => sp_nil ⟨H₂₉.X, ?_⟩)) (by rfl))
  (first | subst hv | cases hv)
  refine fspec_at (code_text_spec G g₁₃ ps _ vn₃ (hva.up (u₁₂.trans u₁₃)) hvn₃ d.ok d.two) H₂₉ W (by decide) fun v s₃₀ g₁₄ u₁₄ hv H₃₀ => ?_
  obtain ⟨t3, rfl⟩ := hv
  refine pe_run H₃₀ (pe_locT (l := codeT ps) (t := tx) (by kernel_rfl) (by exact r4)) fun v' s₃₁ hv' H₃₁ => ?_
  obtain ⟨t4, rfl⟩ := hv'
  refine ne_str (wpAny_truthy_bool ?_)
  rw [ne_S, decide_eq_true rfl]
  simp only [Bool.not_true, Bool.false_eq_true, if_false]
  refine isTrue_or_nil ?_
  simp only [Bool.false_eq_true, if_false]
  refine ex_nil ?_
  have u1114 := (u₁₂.trans u₁₃).trans u₁₄
  have hpot := hpot.up u1114
  have hps := hps.up u1114
  -- found
  refine ex_assign_any (c_fdef_any (f := 335) H₃₁ (pe_glob (by kernel_rfl) rfl (by kernel_rfl)) (by kernel_rfl) fun s₃₂ H₃₂ => sp_cons (g_def (V := SpoiltV (codeT ps)) (P := P2 (VE (.ref Pt)) (VT (codeT ps))) H₃₂ hpot (pe_glob (by kernel_rfl) rfl (by kernel_rfl)) (by kernel_rfl) (pa_two (pe_local (by kernel_rfl) (by exact r1)) (pe_locT (t := tx) (by kernel_rfl) (by exact r4))) (fun vs ⟨a, b, e, e1, e2⟩ => by subst e; (first | subst e1 | cases e1); exact law_spoilt_spec G _ Pt (codeT ps) b e2 d.len0 hlen d.has10 d.ten (code_dig d.pos)) W (by decide) fun vs₁ s₃₃ g₁₅ o₁₅ u₁₅ hV hp₁₅ H₃₃ => sp_nil ⟨H₃₃.X, ?_⟩))
  obtain ⟨t', hsp, hvt'⟩ := hV
  obtain ⟨f1, f2, f3, _⟩ := hsp.facts d
  have hmu15 : ∀ p ∈ (Pt, o₁₅) :: mu, ∀ vs, p.2.data ≠ .fields vs := fun p hp vs e => by
    rcases List.mem_cons.mp hp with rfl | hp
    · obtain ⟨x, n, hx⟩ := pot_data hp₁₅
      rw [hx] at e; (first | subst e | cases e)
    · exact hmu p hp vs e
  refine law_back_at G t' vs₁ (by omega) f2 hvt' H₃₃ (W.less (by decide)) hfr rfl (by show sc_law.kind ≠ _; decide +kernel) hmu15 fun vf s₃₄ g₁₆ mu16 u₁₆ hnone hsome zz H₃₄ => ?_
  refine H₃₄.store (by kernel_rfl) fun s₃₅ H₃₅ => ?_
  have u1416 := u₁₅.trans u₁₆
  have hps := hps.up u1416
  obtain ⟨M4, w1, w2, w3, H₃₆⟩ : ∃ M' : Str → Option Value, An4 (M' (Str.ofString "procedures") = some (.ref D)) (M' (Str.ofString "told") = some (.str (S (wholeT ps)) tt)) (M' (Str.ofString "found") = some vf) (At ⟨G, A.deeper (fi_law.env L), fi_law.env L, g₁₆, M', mu16⟩ s₃₅) := ⟨_, (by exact r2), (by exact r3), by rfl, H₃₅⟩
  refine ex_if_mid (R := fun s' => ∃ g', Up g₁₆ g' ∧ At ⟨G, A.deeper (fi_law.env L), fi_law.env L, g', M4, mu16⟩ s') (isTrue_and (pt_run H₃₆ (pt_isnot_none (pe_local (by kernel_rfl) (by exact w3))) fun s₃₇ H₃₇ => ?_)) ?_
  · cases hc : pCode t' with
    | none =>
      rw [hnone hc]
      exact ⟨g₁₆, Up.rfl, H₃₇⟩
    | some ps' =>
      have hv' := hsome ps' hc
      obtain ⟨h1, h2⟩ := hsp.found d hc
      have hne : (!(vf == .none)) = true := by
        obtain ⟨D', vs', n', rfl, _⟩ := hv'
        rfl
      rw [hne]
      simp only [if_true]
      refine isTrue_and (wpAny_isTrue_Compare1 (c_fdef (f := 328) (P := P1 (VE vf)) H₃₇ (pe_glob (by kernel_rfl) rfl (by kernel_rfl)) (by kernel_rfl) (pa_one (pe_local (by kernel_rfl) (by exact w3))) (fun vs ⟨v, e, e1⟩ => by subst e; (first | subst e1 | cases e1); exact law_whole_spec G g₁₆ ps' _ hv' h1) W (by decide) fun v s₃₈ g₁₇ u₁₇ hv H₃₈ => pe_run H₃₈ (pe_locT (l := wholeT ps) (t := tt) (by kernel_rfl) (by exact w2)) fun v' s₃₉ hv' H₃₉ => ?_) (by rfl))
      obtain ⟨t5, rfl⟩ := hv
      obtain ⟨t6, rfl⟩ := hv'
      refine eq_str (wpAny_truthy_bool ?_)
      rw [eq_S, decide_eq_false h2]
      simp only [Bool.false_eq_true, if_false]
      exact ⟨g₁₇, u₁₇, H₃₉⟩
  · rintro s₄₀ ⟨g₁₇, u₁₇, H₄₀⟩
    refine ex_ret_any (wpAny_Compare1 (c_fdef (f := 328) (P := P1 (VE (.ref D))) H₄₀ (pe_glob (by kernel_rfl) rfl (by kernel_rfl)) (by kernel_rfl) (pa_one (pe_local (by kernel_rfl) (by exact w1))) (fun vs ⟨v, e, e1⟩ => by subst e; (first | subst e1 | cases e1); exact law_whole_spec G g₁₇ ps _ (hps.up u₁₇) hwo) W (by decide) fun v s₄₁ g₁₈ u₁₈ hv H₄₁ => pe_run H₄₁ (pe_locT (l := wholeT ps) (t := tt) (by kernel_rfl) (by exact w2)) fun v' s₄₂ hv' H₄₂ => ?_) (by rfl))
    obtain ⟨t5, rfl⟩ := hv
    obtain ⟨t6, rfl⟩ := hv'
    refine eq_str ?_
    rw [eq_S, decide_eq_true rfl]
    exact k _ g₁₈ _ ((((((ug₅.trans u59).trans u911).trans u1114).trans u1416).trans u₁₇).trans u₁₈) H₄₂.gl
end Mine
end
section
open PySem PySem.W PyProof.Rows PySem.Calls PySem.Builtin PySem.Builtin.Str PySem.NumText
namespace Mine
set_option maxRecDepth 100000

theorem int_of {x : WData} {R : WRecords} (h : WShape.has R x .int = true) : ∃ n, x = .int n := by
  cases x <;> first | exact ⟨_, rfl⟩ | exact absurd h Bool.false_ne_true
theorem list_of {x : WData} {R : WRecords} (h : WShape.has R x (.list .int) = true) : ∃ xs, x = .list xs ∧ WShape.hasItems R xs .int = true := by
  cases x with
  | list xs => exact ⟨xs, rfl, (Bool.or_false _).symm.trans h⟩
  | _ => exact absurd h Bool.false_ne_true
theorem ints_read {R : WRecords} {cl : Str → Option Addr} {h : Heap} {xs : List WData} : ∀ {vs : List Value} {as : List Addr}, ReadsAllW R cl h vs xs as → WShape.hasItems R xs .int = true → ∃ ns, IntsAre vs ns ∧ vs.length = xs.length := by
  induction xs with
  | nil => intro vs as r _; cases r; exact ⟨[], .nil, rfl⟩
  | cons x xs ih =>
    intro vs as r hh
    obtain ⟨h1, h2⟩ := Bool.and_eq_true_iff.mp (show (WShape.has R x .int && WShape.hasItems R xs .int) = true from hh)
    obtain ⟨n, rfl⟩ := int_of h1
    cases r with
    | cons r1 r2 =>
      obtain ⟨ns, h3, e⟩ := ih r2 h2
      cases r1
      exact ⟨n :: ns, .cons _ _ h3, congrArg (· + 1) e⟩
theorem not_lit (c : WCtx) : ∀ b : Bool, WTm.holds [] (.and (.not (.lit (.bool b))) (.lit (.bool true))) c = !b
  | true => rfl
  | false => rfl
theorem arg_of {args : List WData} (h : PySem.Challenge.rw_pc0351_01.row.toRowW.claim.pre args = true) : ∃ xs, An3 (args = [.list xs]) (WShape.hasItems [] xs .int = true) (xs.length ≤ 63) := by
  have h : (WShape.hasAll [] args [.list .int] && WTm.holds [] PySem.Challenge.rw_pc0351_01.pre { args := args }) = true := h
  obtain ⟨h1, h2⟩ := Bool.and_eq_true_iff.mp h
  cases args with
  | nil => exact absurd h1 Bool.false_ne_true
  | cons x r =>
    obtain ⟨h3, h4⟩ := Bool.and_eq_true_iff.mp (show (WShape.has [] x (.list .int) && WShape.hasAll [] r []) = true from h1)
    obtain ⟨xs, rfl, hx⟩ := list_of h3
    cases r with
    | cons _ _ => exact absurd h4 Bool.false_ne_true
    | nil =>
      have h5 : WTm.holds [] (.and (.not (.lit (.bool (decide ((63 : Int) < (xs.length : Int)))))) (.lit (.bool true))) { args := [.list xs] } = true := h2
      rw [not_lit] at h5
      refine ⟨xs, rfl, hx, Nat.not_lt.mp fun q => ?_⟩
      have e : decide ((63 : Int) < (xs.length : Int)) = true := decide_eq_true (Int.ofNat_lt.mpr q)
      rw [e] at h5
      exact absurd h5 Bool.false_ne_true
theorem lit_true (c : WCtx) : WTm.holds [] (.lit (.bool true)) c = true := rfl
theorem post_of (xs : List WData) : PySem.Challenge.rw_pc0351_01.row.toRowW.claim.post [WData.list xs] (WData.bool true) [WData.list xs] = true := by
  have e : same (.bool true) (.bool true) = true := by decide +kernel
  have h : WTm.holds [] (.lit (.bool (same (.bool true) (.bool true)))) { args := [.list xs], res := some (.bool true), after := [.list xs] } = true := by rw [e]; rfl
  exact h
theorem law_at (mg : Str → Option Value) {w : World} {h : Heap} (X : (KF w.params).In h) (g : h.Ns mainGlobals mg) : mg (Str.ofString "law") = some (.ref 347) := mg_of X g (by kernel_rfl)
theorem walk1 {d : DefRec} {kwd : List (Str × PySem.Expr)} (hd : defOf q1 PySem.Challenge.rw_pc0351_01.row.name = some (d, kwd)) : WalkO q1 lo1 (XL q1 []) HK1.says PySem.Challenge.rw_pc0351_01.row.toRowW d kwd (fun f vs => PySem.call f vs) := by
  intro w s₀ s₁ mg mb G Y fa o pm cd doc dV kV ho hod hcd hD hmg hg args vals as hpre hlay hrd hwl hlo
  have KX : (KF w.params).In s₁.heap := kIn_of Y
  have hn : d.name = Str.ofString "law" := defOf_name hd
  rw [hn, law_at mg KX G.T.g] at hmg
  cases hmg
  obtain ⟨xs, rfl, hx, hlen⟩ := arg_of hpre
  cases hrd with
  | cons r1 r2 =>
  cases r2
  cases r1 with
  | list h1 h2 h3 h4 =>
  rename_i a o' vs n as
  obtain ⟨ns, hi, hvl⟩ := ints_read h4 hx
  have gl : Gl ⟨w, s₁.heap, s₁.os⟩ s₁.heap [] s₁ := ⟨⟨KX, ⟨_, _, _, _, _, G.T⟩⟩, Up.rfl, Up.rfl, by simp, by simp, hg, rfl⟩
  refine law_spec ⟨w, s₁.heap, s₁.os⟩ (ns := ns) (vs := vs.toList) ⟨o', h1, h2, n, by simpa using h3⟩ hi (by omega) gl (by simp) ⟨by decide +kernel, by decide +kernel, rfl, rfl⟩ rfl fun s' g' mu' u gl' => ?_
  refine ⟨.inl ⟨_, .bool true, [], rfl, fun zz => rfl, .bool true, post_of xs, fun zz => ⟨.nil, by simp⟩⟩, .of_keep fun b o e => gl'.up b o (u b o e), gl'.os, .of_eq gl'.gens⟩
end Mine
end
section
open PySem PySem.W PyProof.Rows
namespace Mine
set_option maxRecDepth 100000
set_option maxHeartbeats 0
theorem said1 : PySem.Challenge.rw_pc0351_01.wellSaid = true := by decide +kernel
theorem has1 : (defOf q1 PySem.Challenge.rw_pc0351_01.row.name).isSome = true := by kernel_rfl
noncomputable def x1 : DefRec × List (Str × PySem.Expr) := (defOf q1 PySem.Challenge.rw_pc0351_01.row.name).get has1
theorem def1 : defOf q1 PySem.Challenge.rw_pc0351_01.row.name = some (x1.1, x1.2) := (Option.some_get has1).symm
theorem the1 : PySem.Challenge.rw_pc0351_01.row.prog.theDef PySem.Challenge.rw_pc0351_01.row.name = some (x1.1.params, x1.1.body, x1.1.scope) := by kernel_rfl
theorem kw1 : kwWritten? x1.1.params.kwonlyargs x1.1.params.kw_defaults = some x1.2 := by kernel_rfl
theorem holds1 : PySem.Challenge.rw_pc0351_01.Holds := by
  refine holds_law said1 fun said => ?_
  refine holds_open (q := q1) (loose := lo1) (Xt := Xt1) (XP := XL q1 []) (Yf := Hook.obs HK1) (Ya := Hook.val HK1) (YP := Hook.says HK1) (N := 4702) left1 (Hook.of HK1) (Hook.keeps HK1) (fun s e => xl_of s (Bool.and_eq_true_iff.mp e).1) XL.keeps def1 the1 kw1 (fun s e => recFacts_of (Bool.and_eq_true_iff.mp e).2) (by rfl) said (by decide +kernel) ⟨rfl, rfl, rfl, rfl, rfl, by decide +kernel⟩ ?hw (walk1 def1)
  case hw => w_witness2
end Mine
end
theorem PySem.Challenge.cw_pc0351_01_holds : PySem.Challenge.rw_pc0351_01.Holds :=
  Mine.holds1
