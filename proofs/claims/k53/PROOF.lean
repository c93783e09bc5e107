import PyProof.Rows.All
import Wide.All
import OpenK.AllK
import Wide.FinOn
import KE.KStateDown
import PyProof.ReprRoads
import HandS.ForMost
import HandS.More
import HandS.Conv
import HandS.Exc
import HandS.IsInst
import HandS.StrMore
import HandS.RaiseMore
import HandS.TupLe
import HandS.Defaults
import HandS.Evl
import HandS.Head0
import HandS.Head1
import HandS.Head2
import HandS.HeadEnd
import HandS.HeadHook1
import HandS.HeadHook2
import PySem.Challenge.RW_messageways_k53_recovery_from_a_cut
/-! MwA -/
set_option Elab.async false
set_option linter.all false
set_option maxRecDepth 100000
set_option maxHeartbeats 4000000
namespace Mw
open PySem PySem.Spec PyProof.Rows L2
def top (i : Nat) : Stmt := PySem.Challenge.pw_messageways_k53_recovery_from_a_cut.main.body.getD i (.Pass ⟨0, 0, 0, 0⟩)
/-! ### the text by places -/
abbrev s_cases_of : Stmt := top 17
abbrev s_other_of : Stmt := top 18
abbrev s_plain_node : Stmt := top 19
abbrev s_plain : Stmt := top 20
abbrev s_Book_init : Stmt := inClass (top 26) 0
abbrev s_Book_messages : Stmt := inClass (top 26) 1
abbrev s_Book_put : Stmt := inClass (top 26) 2
abbrev s_Book_drop : Stmt := inClass (top 26) 3
abbrev s_Book_undo : Stmt := inClass (top 26) 5
abbrev s_format_text : Stmt := top 37
abbrev s_format_key : Stmt := top 38
abbrev s_format_choice : Stmt := top 39
abbrev s_format_node : Stmt := top 40
abbrev s_format_message : Stmt := top 41
abbrev s_is_sign : Stmt := top 42
abbrev s_Reader_init : Stmt := inClass (top 43) 0
abbrev s_Reader_sign : Stmt := inClass (top 43) 1
abbrev s_Reader_skip : Stmt := inClass (top 43) 2
abbrev s_Reader_expect : Stmt := inClass (top 43) 3
abbrev s_Reader_run : Stmt := inClass (top 43) 4
abbrev s_Reader_word : Stmt := inClass (top 43) 5
abbrev s_Reader_natural : Stmt := inClass (top 43) 6
abbrev s_Reader_offset : Stmt := inClass (top 43) 7
abbrev s_Reader_key : Stmt := inClass (top 43) 8
abbrev s_Reader_choice : Stmt := inClass (top 43) 9
abbrev s_Reader_braces : Stmt := inClass (top 43) 10
abbrev s_Reader_escape : Stmt := inClass (top 43) 11
abbrev s_Reader_node : Stmt := inClass (top 43) 12
abbrev s_Reader_message : Stmt := inClass (top 43) 13
abbrev s_parse_message : Stmt := top 44
abbrev s_octets_of : Stmt := top 52
abbrev s_text_of : Stmt := top 53
abbrev s_body_of : Stmt := top 54
abbrev s_record_of : Stmt := top 55
abbrev s_key_of : Stmt := top 56
abbrev s_message_of : Stmt := top 57
abbrev s_deed_of : Stmt := top 58
abbrev s_recovered : Stmt := top 59
abbrev s_perform : Stmt := top 60
abbrev s_Device_init : Stmt := inClass (top 62) 0
abbrev s_Device_append : Stmt := inClass (top 62) 1
abbrev s_JournaledBook_init : Stmt := inClass (top 63) 0
abbrev s_JournaledBook_perform : Stmt := inClass (top 63) 1
abbrev s_opened : Stmt := top 64
abbrev s_law_cell : Stmt := top 66
abbrev s_law_row : Stmt := top 67
abbrev s_law_box : Stmt := top 68
abbrev s_law_draw : Stmt := top 69
abbrev s_law_same : Stmt := top 70
abbrev s_law_message : Stmt := top 71
abbrev s_law_plain : Stmt := top 72
abbrev s_law_notation : Stmt := top 73
abbrev s_law_word : Stmt := top 74
abbrev s_law_key_at : Stmt := top 75
abbrev s_law_choice : Stmt := top 76
abbrev s_law_node : Stmt := top 77
abbrev s_law_parsed : Stmt := top 78
abbrev s_law_signs : Stmt := top 79
abbrev s_law_body_told : Stmt := top 80
abbrev s_law_read : Stmt := top 81
abbrev s_law_record : Stmt := top 82
abbrev s_law_some : Stmt := top 83
abbrev s_law_world : Stmt := top 84
abbrev s_law_due : Stmt := top 85
abbrev s_law_deed : Stmt := top 86
abbrev s_law_alike : Stmt := top 87
abbrev s_law_rows : Stmt := top 88
abbrev s_law_plainly : Stmt := top 89
abbrev s_law_octets : Stmt := top 90
abbrev s_law_goes_on : Stmt := top 91
abbrev s_law : Stmt := top 92
/-! ### the defs, for the head -/
def d_cases_of : He.DefD := ⟨("cases_of", none), "cases_of", "cases_of", defArgs s_cases_of, defBody s_cases_of, defScope s_cases_of, [], []⟩
def d_other_of : He.DefD := ⟨("other_of", none), "other_of", "other_of", defArgs s_other_of, defBody s_other_of, defScope s_other_of, [], []⟩
def d_plain_node : He.DefD := ⟨("plain_node", none), "plain_node", "plain_node", defArgs s_plain_node, defBody s_plain_node, defScope s_plain_node, [], []⟩
def d_plain : He.DefD := ⟨("plain", none), "plain", "plain", defArgs s_plain, defBody s_plain, defScope s_plain, [], []⟩
def d_Book_init : He.DefD := ⟨("Book", some "__init__"), "__init__", "Book.__init__", defArgs s_Book_init, defBody s_Book_init, defScope s_Book_init, [], []⟩
def d_Book_messages : He.DefD := ⟨("Book", some "messages"), "messages", "Book.messages", defArgs s_Book_messages, defBody s_Book_messages, defScope s_Book_messages, [], []⟩
def d_Book_put : He.DefD := ⟨("Book", some "put"), "put", "Book.put", defArgs s_Book_put, defBody s_Book_put, defScope s_Book_put, [], []⟩
def d_Book_drop : He.DefD := ⟨("Book", some "drop"), "drop", "Book.drop", defArgs s_Book_drop, defBody s_Book_drop, defScope s_Book_drop, [], []⟩
def d_Book_undo : He.DefD := ⟨("Book", some "undo"), "undo", "Book.undo", defArgs s_Book_undo, defBody s_Book_undo, defScope s_Book_undo, [], []⟩
def d_format_text : He.DefD := ⟨("format_text", none), "format_text", "format_text", defArgs s_format_text, defBody s_format_text, defScope s_format_text, [], []⟩
def d_format_key : He.DefD := ⟨("format_key", none), "format_key", "format_key", defArgs s_format_key, defBody s_format_key, defScope s_format_key, [], []⟩
def d_format_choice : He.DefD := ⟨("format_choice", none), "format_choice", "format_choice", defArgs s_format_choice, defBody s_format_choice, defScope s_format_choice, [], []⟩
def d_format_node : He.DefD := ⟨("format_node", none), "format_node", "format_node", defArgs s_format_node, defBody s_format_node, defScope s_format_node, [], []⟩
def d_format_message : He.DefD := ⟨("format_message", none), "format_message", "format_message", defArgs s_format_message, defBody s_format_message, defScope s_format_message, [], []⟩
def d_is_sign : He.DefD := ⟨("is_sign", none), "is_sign", "is_sign", defArgs s_is_sign, defBody s_is_sign, defScope s_is_sign, [], []⟩
def d_Reader_init : He.DefD := ⟨("Reader", some "__init__"), "__init__", "Reader.__init__", defArgs s_Reader_init, defBody s_Reader_init, defScope s_Reader_init, [], []⟩
def d_Reader_sign : He.DefD := ⟨("Reader", some "sign"), "sign", "Reader.sign", defArgs s_Reader_sign, defBody s_Reader_sign, defScope s_Reader_sign, [], []⟩
def d_Reader_skip : He.DefD := ⟨("Reader", some "skip"), "skip", "Reader.skip", defArgs s_Reader_skip, defBody s_Reader_skip, defScope s_Reader_skip, [], []⟩
def d_Reader_expect : He.DefD := ⟨("Reader", some "expect"), "expect", "Reader.expect", defArgs s_Reader_expect, defBody s_Reader_expect, defScope s_Reader_expect, [], []⟩
def d_Reader_run : He.DefD := ⟨("Reader", some "run"), "run", "Reader.run", defArgs s_Reader_run, defBody s_Reader_run, defScope s_Reader_run, [], []⟩
def d_Reader_word : He.DefD := ⟨("Reader", some "word"), "word", "Reader.word", defArgs s_Reader_word, defBody s_Reader_word, defScope s_Reader_word, [], []⟩
def d_Reader_natural : He.DefD := ⟨("Reader", some "natural"), "natural", "Reader.natural", defArgs s_Reader_natural, defBody s_Reader_natural, defScope s_Reader_natural, [], []⟩
def d_Reader_offset : He.DefD := ⟨("Reader", some "offset"), "offset", "Reader.offset", defArgs s_Reader_offset, defBody s_Reader_offset, defScope s_Reader_offset, [], []⟩
def d_Reader_key : He.DefD := ⟨("Reader", some "key"), "key", "Reader.key", defArgs s_Reader_key, defBody s_Reader_key, defScope s_Reader_key, [], []⟩
def d_Reader_choice : He.DefD := ⟨("Reader", some "choice"), "choice", "Reader.choice", defArgs s_Reader_choice, defBody s_Reader_choice, defScope s_Reader_choice, [], []⟩
def d_Reader_braces : He.DefD := ⟨("Reader", some "braces"), "braces", "Reader.braces", defArgs s_Reader_braces, defBody s_Reader_braces, defScope s_Reader_braces, [], []⟩
def d_Reader_escape : He.DefD := ⟨("Reader", some "escape"), "escape", "Reader.escape", defArgs s_Reader_escape, defBody s_Reader_escape, defScope s_Reader_escape, [], []⟩
def d_Reader_node : He.DefD := ⟨("Reader", some "node"), "node", "Reader.node", defArgs s_Reader_node, defBody s_Reader_node, defScope s_Reader_node, [], []⟩
def d_Reader_message : He.DefD := ⟨("Reader", some "message"), "message", "Reader.message", defArgs s_Reader_message, defBody s_Reader_message, defScope s_Reader_message, [], []⟩
def d_parse_message : He.DefD := ⟨("parse_message", none), "parse_message", "parse_message", defArgs s_parse_message, defBody s_parse_message, defScope s_parse_message, [], []⟩
def d_octets_of : He.DefD := ⟨("octets_of", none), "octets_of", "octets_of", defArgs s_octets_of, defBody s_octets_of, defScope s_octets_of, [], []⟩
def d_text_of : He.DefD := ⟨("text_of", none), "text_of", "text_of", defArgs s_text_of, defBody s_text_of, defScope s_text_of, [], []⟩
def d_body_of : He.DefD := ⟨("body_of", none), "body_of", "body_of", defArgs s_body_of, defBody s_body_of, defScope s_body_of, [], []⟩
def d_record_of : He.DefD := ⟨("record_of", none), "record_of", "record_of", defArgs s_record_of, defBody s_record_of, defScope s_record_of, [], []⟩
def d_key_of : He.DefD := ⟨("key_of", none), "key_of", "key_of", defArgs s_key_of, defBody s_key_of, defScope s_key_of, [], []⟩
def d_message_of : He.DefD := ⟨("message_of", none), "message_of", "message_of", defArgs s_message_of, defBody s_message_of, defScope s_message_of, [], []⟩
def d_deed_of : He.DefD := ⟨("deed_of", none), "deed_of", "deed_of", defArgs s_deed_of, defBody s_deed_of, defScope s_deed_of, [], []⟩
def d_recovered : He.DefD := ⟨("recovered", none), "recovered", "recovered", defArgs s_recovered, defBody s_recovered, defScope s_recovered, [], []⟩
def d_perform : He.DefD := ⟨("perform", none), "perform", "perform", defArgs s_perform, defBody s_perform, defScope s_perform, [], []⟩
def d_Device_init : He.DefD := ⟨("Device", some "__init__"), "__init__", "Device.__init__", defArgs s_Device_init, defBody s_Device_init, defScope s_Device_init, [], []⟩
def d_Device_append : He.DefD := ⟨("Device", some "append"), "append", "Device.append", defArgs s_Device_append, defBody s_Device_append, defScope s_Device_append, [], []⟩
def d_JournaledBook_init : He.DefD := ⟨("JournaledBook", some "__init__"), "__init__", "JournaledBook.__init__", defArgs s_JournaledBook_init, defBody s_JournaledBook_init, defScope s_JournaledBook_init, [], []⟩
def d_JournaledBook_perform : He.DefD := ⟨("JournaledBook", some "perform"), "perform", "JournaledBook.perform", defArgs s_JournaledBook_perform, defBody s_JournaledBook_perform, defScope s_JournaledBook_perform, [], []⟩
def d_opened : He.DefD := ⟨("opened", none), "opened", "opened", defArgs s_opened, defBody s_opened, defScope s_opened, [], []⟩
def d_law_cell : He.DefD := ⟨("_law_cell", none), "_law_cell", "_law_cell", defArgs s_law_cell, defBody s_law_cell, defScope s_law_cell, [], []⟩
def d_law_row : He.DefD := ⟨("_law_row", none), "_law_row", "_law_row", defArgs s_law_row, defBody s_law_row, defScope s_law_row, [], []⟩
def d_law_box : He.DefD := ⟨("_law_box", none), "_law_box", "_law_box", defArgs s_law_box, defBody s_law_box, defScope s_law_box, [], []⟩
def d_law_draw : He.DefD := ⟨("_law_draw", none), "_law_draw", "_law_draw", defArgs s_law_draw, defBody s_law_draw, defScope s_law_draw, [], []⟩
def d_law_same : He.DefD := ⟨("_law_same", none), "_law_same", "_law_same", defArgs s_law_same, defBody s_law_same, defScope s_law_same, [], []⟩
def d_law_message : He.DefD := ⟨("_law_message", none), "_law_message", "_law_message", defArgs s_law_message, defBody s_law_message, defScope s_law_message, [], []⟩
def d_law_plain : He.DefD := ⟨("_law_plain", none), "_law_plain", "_law_plain", defArgs s_law_plain, defBody s_law_plain, defScope s_law_plain, [], []⟩
def d_law_notation : He.DefD := ⟨("_law_notation", none), "_law_notation", "_law_notation", defArgs s_law_notation, defBody s_law_notation, defScope s_law_notation, [], []⟩
def d_law_word : He.DefD := ⟨("_law_word", none), "_law_word", "_law_word", defArgs s_law_word, defBody s_law_word, defScope s_law_word, [], []⟩
def d_law_key_at : He.DefD := ⟨("_law_key_at", none), "_law_key_at", "_law_key_at", defArgs s_law_key_at, defBody s_law_key_at, defScope s_law_key_at, [], []⟩
def d_law_choice : He.DefD := ⟨("_law_choice", none), "_law_choice", "_law_choice", defArgs s_law_choice, defBody s_law_choice, defScope s_law_choice, [], []⟩
def d_law_node : He.DefD := ⟨("_law_node", none), "_law_node", "_law_node", defArgs s_law_node, defBody s_law_node, defScope s_law_node, [], []⟩
def d_law_parsed : He.DefD := ⟨("_law_parsed", none), "_law_parsed", "_law_parsed", defArgs s_law_parsed, defBody s_law_parsed, defScope s_law_parsed, [], []⟩
def d_law_signs : He.DefD := ⟨("_law_signs", none), "_law_signs", "_law_signs", defArgs s_law_signs, defBody s_law_signs, defScope s_law_signs, [], []⟩
def d_law_body_told : He.DefD := ⟨("_law_body_told", none), "_law_body_told", "_law_body_told", defArgs s_law_body_told, defBody s_law_body_told, defScope s_law_body_told, [], []⟩
def d_law_read : He.DefD := ⟨("_law_read", none), "_law_read", "_law_read", defArgs s_law_read, defBody s_law_read, defScope s_law_read, [], []⟩
def d_law_record : He.DefD := ⟨("_law_record", none), "_law_record", "_law_record", defArgs s_law_record, defBody s_law_record, defScope s_law_record, [], []⟩
def d_law_some : He.DefD := ⟨("_law_some", none), "_law_some", "_law_some", defArgs s_law_some, defBody s_law_some, defScope s_law_some, [], []⟩
def d_law_world : He.DefD := ⟨("_law_world", none), "_law_world", "_law_world", defArgs s_law_world, defBody s_law_world, defScope s_law_world, [], []⟩
def d_law_due : He.DefD := ⟨("_law_due", none), "_law_due", "_law_due", defArgs s_law_due, defBody s_law_due, defScope s_law_due, [], []⟩
def d_law_deed : He.DefD := ⟨("_law_deed", none), "_law_deed", "_law_deed", defArgs s_law_deed, defBody s_law_deed, defScope s_law_deed, [], []⟩
def d_law_alike : He.DefD := ⟨("_law_alike", none), "_law_alike", "_law_alike", defArgs s_law_alike, defBody s_law_alike, defScope s_law_alike, [], []⟩
def d_law_rows : He.DefD := ⟨("_law_rows", none), "_law_rows", "_law_rows", defArgs s_law_rows, defBody s_law_rows, defScope s_law_rows, [], []⟩
def d_law_plainly : He.DefD := ⟨("_law_plainly", none), "_law_plainly", "_law_plainly", defArgs s_law_plainly, defBody s_law_plainly, defScope s_law_plainly, [], []⟩
def d_law_octets : He.DefD := ⟨("_law_octets", none), "_law_octets", "_law_octets", defArgs s_law_octets, defBody s_law_octets, defScope s_law_octets, [], []⟩
def d_law_goes_on : He.DefD := ⟨("_law_goes_on", none), "_law_goes_on", "_law_goes_on", defArgs s_law_goes_on, defBody s_law_goes_on, defScope s_law_goes_on, [], []⟩
def d_law : He.DefD := ⟨("law", none), "law", "law", defArgs s_law, defBody s_law, defScope s_law, [], []⟩
def fnl : List He.DefD := ([d_cases_of, d_other_of, d_plain_node, d_plain, d_Book_init, d_Book_messages, d_Book_put, d_Book_drop, d_Book_undo, d_format_text, d_format_key, d_format_choice, d_format_node, d_format_message, d_is_sign, d_Reader_init, d_Reader_sign, d_Reader_skip, d_Reader_expect, d_Reader_run] : List He.DefD) ++ ([d_Reader_word, d_Reader_natural, d_Reader_offset, d_Reader_key, d_Reader_choice, d_Reader_braces, d_Reader_escape, d_Reader_node, d_Reader_message, d_parse_message, d_octets_of, d_text_of, d_body_of, d_record_of, d_key_of, d_message_of, d_deed_of, d_recovered, d_perform, d_Device_init] : List He.DefD) ++ ([d_Device_append, d_JournaledBook_init, d_JournaledBook_perform, d_opened, d_law_cell, d_law_row, d_law_box, d_law_draw, d_law_same, d_law_message, d_law_plain, d_law_notation, d_law_word, d_law_key_at, d_law_choice, d_law_node, d_law_parsed, d_law_signs, d_law_body_told, d_law_read] : List He.DefD) ++ ([d_law_record, d_law_some, d_law_world, d_law_due, d_law_deed, d_law_alike, d_law_rows, d_law_plainly, d_law_octets, d_law_goes_on, d_law] : List He.DefD)
def fal : List He.Fa := ([.glo "cases_of", .glo "other_of", .glo "plain_node", .glo "plain", .glo "format_text", .glo "format_key", .glo "format_choice", .glo "format_node", .glo "format_message", .glo "is_sign", .glo "parse_message", .glo "octets_of", .glo "text_of", .glo "body_of", .glo "record_of", .glo "key_of", .glo "message_of", .glo "deed_of", .glo "recovered", .glo "perform"] : List He.Fa) ++ ([.glo "opened", .glo "_law_cell", .glo "_law_row", .glo "_law_box", .glo "_law_draw", .glo "_law_same", .glo "_law_message", .glo "_law_plain", .glo "_law_notation", .glo "_law_word", .glo "_law_key_at", .glo "_law_choice", .glo "_law_node", .glo "_law_parsed", .glo "_law_signs", .glo "_law_body_told", .glo "_law_read", .glo "_law_record", .glo "_law_some", .glo "_law_world"] : List He.Fa) ++ ([.glo "_law_due", .glo "_law_deed", .glo "_law_alike", .glo "_law_rows", .glo "_law_plainly", .glo "_law_octets", .glo "_law_goes_on", .glo "law", .str "TEXT" "text", .str "SHOW" "show", .str "NUMBER" "number", .str "SELECT" "select", .str "PLURAL" "plural", .str "OTHER" "other", .glo "CATEGORIES", .glo "CHOICES", .str "LETTERS_notation" "abcdefghijklmnopqrstuvwxyz", .str "FIGURES" "0123456789", .int "NAME_MOST" 8, .int "OFFSET_MOST" 9] : List He.Fa) ++ ([.int "EXACT_MOST" 999, .str "QUOTE" "'", .str "ESCAPED" "{}#'", .str "SPACES" " \n", .str "OFFSET" "offset:", .int "MARK" 170, .int "PUT" 1, .int "DROP" 2, .int "UNDO" 3, .str "LETTERS_journal" "abcdefghijklmnopqrstuvwxyz", .str "PRINTED" " !\"#$&'()*+,-./0123456789:;<=>?@ABCDEFGHIJKLMNOPQRSTUVWXYZ[\\]^_`abcdefghijklmnopqrstuvwxyz{|}~", .glo "perform_journal", .cls "Book", .glo "Book", .mkr "Book", .noat "Book" "past", .meth "Book" "messages", .meth "Book" "put", .meth "Book" "drop", .meth "Book" "undo"] : List He.Fa) ++ ([.cls "Reader", .glo "Reader", .mkr "Reader", .noat "Reader" "text", .noat "Reader" "place", .noat "Reader" "inside", .meth "Reader" "sign", .meth "Reader" "skip", .meth "Reader" "expect", .meth "Reader" "run", .meth "Reader" "word", .meth "Reader" "natural", .meth "Reader" "offset", .meth "Reader" "key", .meth "Reader" "choice", .meth "Reader" "braces", .meth "Reader" "escape", .meth "Reader" "node", .meth "Reader" "message", .cls "Device"] : List He.Fa) ++ ([.glo "Device", .mkr "Device", .noat "Device" "octets", .noat "Device" "power", .meth "Device" "append", .cls "JournaledBook", .glo "JournaledBook", .mkr "JournaledBook", .noat "JournaledBook" "book", .noat "JournaledBook" "device", .noat "JournaledBook" "shut", .meth "JournaledBook" "perform", .free "len", .free "isinstance", .free "str", .free "int", .free "repr", .free "ord", .free "sum", .free "list"] : List He.Fa) ++ ([.free "dict", .free "range", .free "sorted", .free "max", .free "min"] : List He.Fa)
/-- the tuples of the top, and the one def of two names -/
def exB (K : PySem.W.Frag) : Bool := He.tupB K "CATEGORIES" [.str "zero", .str "one", .str "two", .str "few", .str "many"] && (He.tupB K "CHOICES" [.str "select", .str "plural"] && decide (He.ga K "perform_journal" = He.ga K "perform"))
/-- what the top has left -/
structure Tx (K : PySem.W.Frag) (mg : Str → Option Value) : Prop where
  at_ : ∃ h : Heap, K.In h ∧ h.Ns mainGlobals mg
  says : He.SaysD fal fnl K
  ex : exB K = true
section
variable {K : PySem.W.Frag} {mg : Str → Option Value}
theorem Tx.glo (T : Tx K mg) {x : Str} (i : Nat) (h : fal[i]? = some (.glo x)) : mg x = some (.ref (He.ga K x)) := by
  obtain ⟨_, X, G⟩ := T.at_
  exact He.glo_ok X G (T.says.fact i h)
theorem Tx.str (T : Tx K mg) {x z : Str} (i : Nat) (h : fal[i]? = some (.str x z)) : ∃ t, mg x = some (.str z t) := by
  obtain ⟨_, X, G⟩ := T.at_
  exact He.str_ok X G (T.says.fact i h)
theorem Tx.int (T : Tx K mg) {x : Str} {z : Int} (i : Nat) (h : fal[i]? = some (.int x z)) : ∃ t, mg x = some (.int z t) := by
  obtain ⟨_, X, G⟩ := T.at_
  exact He.int_ok X G (T.says.fact i h)
theorem Tx.free (T : Tx K mg) {x : Str} (i : Nat) (h : fal[i]? = some (.free x)) : mg x = none := by
  obtain ⟨_, X, G⟩ := T.at_
  exact He.free_ok X G (T.says.fact i h)
theorem Tx.cls (T : Tx K mg) {x : Str} (i : Nat) (h : fal[i]? = some (.cls x)) : Cls K (He.ga K x) := He.cls_ok (T.says.fact i h)
theorem Tx.noat (T : Tx K mg) {x f : Str} (i : Nat) (h : fal[i]? = some (.noat x f)) : NoAttr K (He.ga K x) f := He.noat_ok (T.says.fact i h)
theorem Tx.meth (T : Tx K mg) {x m : Str} (i : Nat) (h : fal[i]? = some (.meth x m)) : Meth K (He.ga K x) m (He.ma K (He.ga K x) m) := He.meth_ok (T.says.fact i h)
theorem Tx.mkr (T : Tx K mg) {x : Str} (i : Nat) (h : fal[i]? = some (.mkr x)) : Mk K (He.ga K x) (He.ma K (He.ga K x) "__init__") := He.mkr_ok (T.says.fact i h)
theorem Tx.tupC (T : Tx K mg) (H : Hp) : SqT K H (He.ga K "CATEGORIES") [.str "zero", .str "one", .str "two", .str "few", .str "many"] := by
  obtain ⟨h1, _⟩ := He.ba (show (_ && _) = true from T.ex)
  exact He.tupB_ok h1 H
theorem Tx.tupH (T : Tx K mg) (H : Hp) : SqT K H (He.ga K "CHOICES") [.str "select", .str "plural"] := by
  obtain ⟨_, h2⟩ := He.ba (show (_ && _) = true from T.ex)
  obtain ⟨h1, _⟩ := He.ba h2
  exact He.tupB_ok h1 H
theorem Tx.alias (T : Tx K mg) : mg "perform_journal" = some (.ref (He.fAd K d_perform.at_)) := by
  obtain ⟨_, h2⟩ := He.ba (show (_ && _) = true from T.ex)
  obtain ⟨_, h3⟩ := He.ba h2
  have e : He.ga K "perform_journal" = He.ga K "perform" := of_decide_eq_true h3
  have g : mg "perform_journal" = some (.ref (He.ga K "perform_journal")) := T.glo (fal.length - 54) rfl
  rw [e] at g
  exact g
theorem Tx.g_cases_of (T : Tx K mg) : mg "cases_of" = some (.ref (He.fAd K d_cases_of.at_)) := T.glo 0 rfl
theorem Tx.g_other_of (T : Tx K mg) : mg "other_of" = some (.ref (He.fAd K d_other_of.at_)) := T.glo 1 rfl
theorem Tx.g_plain_node (T : Tx K mg) : mg "plain_node" = some (.ref (He.fAd K d_plain_node.at_)) := T.glo 2 rfl
theorem Tx.g_plain (T : Tx K mg) : mg "plain" = some (.ref (He.fAd K d_plain.at_)) := T.glo 3 rfl
theorem Tx.g_format_text (T : Tx K mg) : mg "format_text" = some (.ref (He.fAd K d_format_text.at_)) := T.glo 4 rfl
theorem Tx.g_format_key (T : Tx K mg) : mg "format_key" = some (.ref (He.fAd K d_format_key.at_)) := T.glo 5 rfl
theorem Tx.g_format_choice (T : Tx K mg) : mg "format_choice" = some (.ref (He.fAd K d_format_choice.at_)) := T.glo 6 rfl
theorem Tx.g_format_node (T : Tx K mg) : mg "format_node" = some (.ref (He.fAd K d_format_node.at_)) := T.glo 7 rfl
theorem Tx.g_format_message (T : Tx K mg) : mg "format_message" = some (.ref (He.fAd K d_format_message.at_)) := T.glo 8 rfl
theorem Tx.g_is_sign (T : Tx K mg) : mg "is_sign" = some (.ref (He.fAd K d_is_sign.at_)) := T.glo 9 rfl
theorem Tx.g_parse_message (T : Tx K mg) : mg "parse_message" = some (.ref (He.fAd K d_parse_message.at_)) := T.glo 10 rfl
theorem Tx.g_octets_of (T : Tx K mg) : mg "octets_of" = some (.ref (He.fAd K d_octets_of.at_)) := T.glo 11 rfl
theorem Tx.g_text_of (T : Tx K mg) : mg "text_of" = some (.ref (He.fAd K d_text_of.at_)) := T.glo 12 rfl
theorem Tx.g_body_of (T : Tx K mg) : mg "body_of" = some (.ref (He.fAd K d_body_of.at_)) := T.glo 13 rfl
theorem Tx.g_record_of (T : Tx K mg) : mg "record_of" = some (.ref (He.fAd K d_record_of.at_)) := T.glo 14 rfl
theorem Tx.g_key_of (T : Tx K mg) : mg "key_of" = some (.ref (He.fAd K d_key_of.at_)) := T.glo 15 rfl
theorem Tx.g_message_of (T : Tx K mg) : mg "message_of" = some (.ref (He.fAd K d_message_of.at_)) := T.glo 16 rfl
theorem Tx.g_deed_of (T : Tx K mg) : mg "deed_of" = some (.ref (He.fAd K d_deed_of.at_)) := T.glo 17 rfl
theorem Tx.g_recovered (T : Tx K mg) : mg "recovered" = some (.ref (He.fAd K d_recovered.at_)) := T.glo 18 rfl
theorem Tx.g_perform (T : Tx K mg) : mg "perform" = some (.ref (He.fAd K d_perform.at_)) := T.glo 19 rfl
theorem Tx.g_opened (T : Tx K mg) : mg "opened" = some (.ref (He.fAd K d_opened.at_)) := T.glo 20 rfl
theorem Tx.g__law_cell (T : Tx K mg) : mg "_law_cell" = some (.ref (He.fAd K d_law_cell.at_)) := T.glo 21 rfl
theorem Tx.g__law_row (T : Tx K mg) : mg "_law_row" = some (.ref (He.fAd K d_law_row.at_)) := T.glo 22 rfl
theorem Tx.g__law_box (T : Tx K mg) : mg "_law_box" = some (.ref (He.fAd K d_law_box.at_)) := T.glo 23 rfl
theorem Tx.g__law_draw (T : Tx K mg) : mg "_law_draw" = some (.ref (He.fAd K d_law_draw.at_)) := T.glo 24 rfl
theorem Tx.g__law_same (T : Tx K mg) : mg "_law_same" = some (.ref (He.fAd K d_law_same.at_)) := T.glo 25 rfl
theorem Tx.g__law_message (T : Tx K mg) : mg "_law_message" = some (.ref (He.fAd K d_law_message.at_)) := T.glo 26 rfl
theorem Tx.g__law_plain (T : Tx K mg) : mg "_law_plain" = some (.ref (He.fAd K d_law_plain.at_)) := T.glo 27 rfl
theorem Tx.g__law_notation (T : Tx K mg) : mg "_law_notation" = some (.ref (He.fAd K d_law_notation.at_)) := T.glo 28 rfl
theorem Tx.g__law_word (T : Tx K mg) : mg "_law_word" = some (.ref (He.fAd K d_law_word.at_)) := T.glo 29 rfl
theorem Tx.g__law_key_at (T : Tx K mg) : mg "_law_key_at" = some (.ref (He.fAd K d_law_key_at.at_)) := T.glo 30 rfl
theorem Tx.g__law_choice (T : Tx K mg) : mg "_law_choice" = some (.ref (He.fAd K d_law_choice.at_)) := T.glo 31 rfl
theorem Tx.g__law_node (T : Tx K mg) : mg "_law_node" = some (.ref (He.fAd K d_law_node.at_)) := T.glo 32 rfl
theorem Tx.g__law_parsed (T : Tx K mg) : mg "_law_parsed" = some (.ref (He.fAd K d_law_parsed.at_)) := T.glo 33 rfl
theorem Tx.g__law_signs (T : Tx K mg) : mg "_law_signs" = some (.ref (He.fAd K d_law_signs.at_)) := T.glo 34 rfl
theorem Tx.g__law_body_told (T : Tx K mg) : mg "_law_body_told" = some (.ref (He.fAd K d_law_body_told.at_)) := T.glo 35 rfl
theorem Tx.g__law_read (T : Tx K mg) : mg "_law_read" = some (.ref (He.fAd K d_law_read.at_)) := T.glo 36 rfl
theorem Tx.g__law_record (T : Tx K mg) : mg "_law_record" = some (.ref (He.fAd K d_law_record.at_)) := T.glo 37 rfl
theorem Tx.g__law_some (T : Tx K mg) : mg "_law_some" = some (.ref (He.fAd K d_law_some.at_)) := T.glo 38 rfl
theorem Tx.g__law_world (T : Tx K mg) : mg "_law_world" = some (.ref (He.fAd K d_law_world.at_)) := T.glo 39 rfl
theorem Tx.g__law_due (T : Tx K mg) : mg "_law_due" = some (.ref (He.fAd K d_law_due.at_)) := T.glo 40 rfl
theorem Tx.g__law_deed (T : Tx K mg) : mg "_law_deed" = some (.ref (He.fAd K d_law_deed.at_)) := T.glo 41 rfl
theorem Tx.g__law_alike (T : Tx K mg) : mg "_law_alike" = some (.ref (He.fAd K d_law_alike.at_)) := T.glo 42 rfl
theorem Tx.g__law_rows (T : Tx K mg) : mg "_law_rows" = some (.ref (He.fAd K d_law_rows.at_)) := T.glo 43 rfl
theorem Tx.g__law_plainly (T : Tx K mg) : mg "_law_plainly" = some (.ref (He.fAd K d_law_plainly.at_)) := T.glo 44 rfl
theorem Tx.g__law_octets (T : Tx K mg) : mg "_law_octets" = some (.ref (He.fAd K d_law_octets.at_)) := T.glo 45 rfl
theorem Tx.g__law_goes_on (T : Tx K mg) : mg "_law_goes_on" = some (.ref (He.fAd K d_law_goes_on.at_)) := T.glo 46 rfl
theorem Tx.g_law (T : Tx K mg) : mg "law" = some (.ref (He.fAd K d_law.at_)) := T.glo 47 rfl
theorem Tx.c_TEXT (T : Tx K mg) : ∃ t, mg "TEXT" = some (.str "text" t) := T.str 48 rfl
theorem Tx.c_SHOW (T : Tx K mg) : ∃ t, mg "SHOW" = some (.str "show" t) := T.str 49 rfl
theorem Tx.c_NUMBER (T : Tx K mg) : ∃ t, mg "NUMBER" = some (.str "number" t) := T.str 50 rfl
theorem Tx.c_SELECT (T : Tx K mg) : ∃ t, mg "SELECT" = some (.str "select" t) := T.str 51 rfl
theorem Tx.c_PLURAL (T : Tx K mg) : ∃ t, mg "PLURAL" = some (.str "plural" t) := T.str 52 rfl
theorem Tx.c_OTHER (T : Tx K mg) : ∃ t, mg "OTHER" = some (.str "other" t) := T.str 53 rfl
theorem Tx.c_CATEGORIES (T : Tx K mg) : mg "CATEGORIES" = some (.ref (He.ga K "CATEGORIES")) := T.glo 54 rfl
theorem Tx.c_CHOICES (T : Tx K mg) : mg "CHOICES" = some (.ref (He.ga K "CHOICES")) := T.glo 55 rfl
theorem Tx.c_LETTERS_notation (T : Tx K mg) : ∃ t, mg "LETTERS_notation" = some (.str "abcdefghijklmnopqrstuvwxyz" t) := T.str 56 rfl
theorem Tx.c_FIGURES (T : Tx K mg) : ∃ t, mg "FIGURES" = some (.str "0123456789" t) := T.str 57 rfl
theorem Tx.c_NAME_MOST (T : Tx K mg) : ∃ t, mg "NAME_MOST" = some (.int 8 t) := T.int 58 rfl
theorem Tx.c_OFFSET_MOST (T : Tx K mg) : ∃ t, mg "OFFSET_MOST" = some (.int 9 t) := T.int 59 rfl
theorem Tx.c_EXACT_MOST (T : Tx K mg) : ∃ t, mg "EXACT_MOST" = some (.int 999 t) := T.int 60 rfl
theorem Tx.c_QUOTE (T : Tx K mg) : ∃ t, mg "QUOTE" = some (.str "'" t) := T.str 61 rfl
theorem Tx.c_ESCAPED (T : Tx K mg) : ∃ t, mg "ESCAPED" = some (.str "{}#'" t) := T.str 62 rfl
theorem Tx.c_SPACES (T : Tx K mg) : ∃ t, mg "SPACES" = some (.str " \n" t) := T.str 63 rfl
theorem Tx.c_OFFSET (T : Tx K mg) : ∃ t, mg "OFFSET" = some (.str "offset:" t) := T.str 64 rfl
theorem Tx.c_MARK (T : Tx K mg) : ∃ t, mg "MARK" = some (.int 170 t) := T.int 65 rfl
theorem Tx.c_PUT (T : Tx K mg) : ∃ t, mg "PUT" = some (.int 1 t) := T.int 66 rfl
theorem Tx.c_DROP (T : Tx K mg) : ∃ t, mg "DROP" = some (.int 2 t) := T.int 67 rfl
theorem Tx.c_UNDO (T : Tx K mg) : ∃ t, mg "UNDO" = some (.int 3 t) := T.int 68 rfl
theorem Tx.c_LETTERS_journal (T : Tx K mg) : ∃ t, mg "LETTERS_journal" = some (.str "abcdefghijklmnopqrstuvwxyz" t) := T.str 69 rfl
theorem Tx.c_PRINTED (T : Tx K mg) : ∃ t, mg "PRINTED" = some (.str " !\"#$&'()*+,-./0123456789:;<=>?@ABCDEFGHIJKLMNOPQRSTUVWXYZ[\\]^_`abcdefghijklmnopqrstuvwxyz{|}~" t) := T.str 70 rfl
theorem Tx.g_perform_journal (T : Tx K mg) : mg "perform_journal" = some (.ref (He.fAd K d_perform.at_)) := T.alias
theorem Tx.cls_Book (T : Tx K mg) : Cls K (He.ga K "Book") := T.cls 72 rfl
theorem Tx.k_Book (T : Tx K mg) : mg "Book" = some (.ref (He.ga K "Book")) ∧ Mk K (He.ga K "Book") (He.fAd K d_Book_init.at_) := ⟨T.glo 73 rfl, T.mkr 74 rfl⟩
theorem Tx.n_Book_past (T : Tx K mg) : NoAttr K (He.ga K "Book") "past" := T.noat 75 rfl
theorem Tx.m_Book_messages (T : Tx K mg) : Cls K (He.ga K "Book") ∧ Meth K (He.ga K "Book") "messages" (He.fAd K d_Book_messages.at_) := ⟨T.cls_Book, T.meth 76 rfl⟩
theorem Tx.m_Book_put (T : Tx K mg) : Cls K (He.ga K "Book") ∧ Meth K (He.ga K "Book") "put" (He.fAd K d_Book_put.at_) := ⟨T.cls_Book, T.meth 77 rfl⟩
theorem Tx.m_Book_drop (T : Tx K mg) : Cls K (He.ga K "Book") ∧ Meth K (He.ga K "Book") "drop" (He.fAd K d_Book_drop.at_) := ⟨T.cls_Book, T.meth 78 rfl⟩
theorem Tx.m_Book_undo (T : Tx K mg) : Cls K (He.ga K "Book") ∧ Meth K (He.ga K "Book") "undo" (He.fAd K d_Book_undo.at_) := ⟨T.cls_Book, T.meth 79 rfl⟩
theorem Tx.cls_Reader (T : Tx K mg) : Cls K (He.ga K "Reader") := T.cls 80 rfl
theorem Tx.k_Reader (T : Tx K mg) : mg "Reader" = some (.ref (He.ga K "Reader")) ∧ Mk K (He.ga K "Reader") (He.fAd K d_Reader_init.at_) := ⟨T.glo 81 rfl, T.mkr 82 rfl⟩
theorem Tx.n_Reader_text (T : Tx K mg) : NoAttr K (He.ga K "Reader") "text" := T.noat 83 rfl
theorem Tx.n_Reader_place (T : Tx K mg) : NoAttr K (He.ga K "Reader") "place" := T.noat 84 rfl
theorem Tx.n_Reader_inside (T : Tx K mg) : NoAttr K (He.ga K "Reader") "inside" := T.noat 85 rfl
theorem Tx.m_Reader_sign (T : Tx K mg) : Cls K (He.ga K "Reader") ∧ Meth K (He.ga K "Reader") "sign" (He.fAd K d_Reader_sign.at_) := ⟨T.cls_Reader, T.meth 86 rfl⟩
theorem Tx.m_Reader_skip (T : Tx K mg) : Cls K (He.ga K "Reader") ∧ Meth K (He.ga K "Reader") "skip" (He.fAd K d_Reader_skip.at_) := ⟨T.cls_Reader, T.meth 87 rfl⟩
theorem Tx.m_Reader_expect (T : Tx K mg) : Cls K (He.ga K "Reader") ∧ Meth K (He.ga K "Reader") "expect" (He.fAd K d_Reader_expect.at_) := ⟨T.cls_Reader, T.meth 88 rfl⟩
theorem Tx.m_Reader_run (T : Tx K mg) : Cls K (He.ga K "Reader") ∧ Meth K (He.ga K "Reader") "run" (He.fAd K d_Reader_run.at_) := ⟨T.cls_Reader, T.meth 89 rfl⟩
theorem Tx.m_Reader_word (T : Tx K mg) : Cls K (He.ga K "Reader") ∧ Meth K (He.ga K "Reader") "word" (He.fAd K d_Reader_word.at_) := ⟨T.cls_Reader, T.meth 90 rfl⟩
theorem Tx.m_Reader_natural (T : Tx K mg) : Cls K (He.ga K "Reader") ∧ Meth K (He.ga K "Reader") "natural" (He.fAd K d_Reader_natural.at_) := ⟨T.cls_Reader, T.meth 91 rfl⟩
theorem Tx.m_Reader_offset (T : Tx K mg) : Cls K (He.ga K "Reader") ∧ Meth K (He.ga K "Reader") "offset" (He.fAd K d_Reader_offset.at_) := ⟨T.cls_Reader, T.meth 92 rfl⟩
theorem Tx.m_Reader_key (T : Tx K mg) : Cls K (He.ga K "Reader") ∧ Meth K (He.ga K "Reader") "key" (He.fAd K d_Reader_key.at_) := ⟨T.cls_Reader, T.meth 93 rfl⟩
theorem Tx.m_Reader_choice (T : Tx K mg) : Cls K (He.ga K "Reader") ∧ Meth K (He.ga K "Reader") "choice" (He.fAd K d_Reader_choice.at_) := ⟨T.cls_Reader, T.meth 94 rfl⟩
theorem Tx.m_Reader_braces (T : Tx K mg) : Cls K (He.ga K "Reader") ∧ Meth K (He.ga K "Reader") "braces" (He.fAd K d_Reader_braces.at_) := ⟨T.cls_Reader, T.meth 95 rfl⟩
theorem Tx.m_Reader_escape (T : Tx K mg) : Cls K (He.ga K "Reader") ∧ Meth K (He.ga K "Reader") "escape" (He.fAd K d_Reader_escape.at_) := ⟨T.cls_Reader, T.meth 96 rfl⟩
theorem Tx.m_Reader_node (T : Tx K mg) : Cls K (He.ga K "Reader") ∧ Meth K (He.ga K "Reader") "node" (He.fAd K d_Reader_node.at_) := ⟨T.cls_Reader, T.meth 97 rfl⟩
theorem Tx.m_Reader_message (T : Tx K mg) : Cls K (He.ga K "Reader") ∧ Meth K (He.ga K "Reader") "message" (He.fAd K d_Reader_message.at_) := ⟨T.cls_Reader, T.meth 98 rfl⟩
theorem Tx.cls_Device (T : Tx K mg) : Cls K (He.ga K "Device") := T.cls 99 rfl
theorem Tx.k_Device (T : Tx K mg) : mg "Device" = some (.ref (He.ga K "Device")) ∧ Mk K (He.ga K "Device") (He.fAd K d_Device_init.at_) := ⟨T.glo 100 rfl, T.mkr 101 rfl⟩
theorem Tx.n_Device_octets (T : Tx K mg) : NoAttr K (He.ga K "Device") "octets" := T.noat 102 rfl
theorem Tx.n_Device_power (T : Tx K mg) : NoAttr K (He.ga K "Device") "power" := T.noat 103 rfl
theorem Tx.m_Device_append (T : Tx K mg) : Cls K (He.ga K "Device") ∧ Meth K (He.ga K "Device") "append" (He.fAd K d_Device_append.at_) := ⟨T.cls_Device, T.meth 104 rfl⟩
theorem Tx.cls_JournaledBook (T : Tx K mg) : Cls K (He.ga K "JournaledBook") := T.cls 105 rfl
theorem Tx.k_JournaledBook (T : Tx K mg) : mg "JournaledBook" = some (.ref (He.ga K "JournaledBook")) ∧ Mk K (He.ga K "JournaledBook") (He.fAd K d_JournaledBook_init.at_) := ⟨T.glo 106 rfl, T.mkr 107 rfl⟩
theorem Tx.n_JournaledBook_book (T : Tx K mg) : NoAttr K (He.ga K "JournaledBook") "book" := T.noat 108 rfl
theorem Tx.n_JournaledBook_device (T : Tx K mg) : NoAttr K (He.ga K "JournaledBook") "device" := T.noat 109 rfl
theorem Tx.n_JournaledBook_shut (T : Tx K mg) : NoAttr K (He.ga K "JournaledBook") "shut" := T.noat 110 rfl
theorem Tx.m_JournaledBook_perform (T : Tx K mg) : Cls K (He.ga K "JournaledBook") ∧ Meth K (He.ga K "JournaledBook") "perform" (He.fAd K d_JournaledBook_perform.at_) := ⟨T.cls_JournaledBook, T.meth 111 rfl⟩
theorem Tx.z_len (T : Tx K mg) : mg "len" = none := T.free 112 rfl
theorem Tx.z_isinstance (T : Tx K mg) : mg "isinstance" = none := T.free 113 rfl
theorem Tx.z_str (T : Tx K mg) : mg "str" = none := T.free 114 rfl
theorem Tx.z_int (T : Tx K mg) : mg "int" = none := T.free 115 rfl
theorem Tx.z_repr (T : Tx K mg) : mg "repr" = none := T.free 116 rfl
theorem Tx.z_ord (T : Tx K mg) : mg "ord" = none := T.free 117 rfl
theorem Tx.z_sum (T : Tx K mg) : mg "sum" = none := T.free 118 rfl
theorem Tx.z_list (T : Tx K mg) : mg "list" = none := T.free 119 rfl
theorem Tx.z_dict (T : Tx K mg) : mg "dict" = none := T.free 120 rfl
theorem Tx.z_range (T : Tx K mg) : mg "range" = none := T.free 121 rfl
theorem Tx.z_sorted (T : Tx K mg) : mg "sorted" = none := T.free 122 rfl
theorem Tx.z_max (T : Tx K mg) : mg "max" = none := T.free 123 rfl
theorem Tx.z_min (T : Tx K mg) : mg "min" = none := T.free 124 rfl
end

/-! ### a def's promise, by its place in the text -/
structure OkF (P : Program) (w : World) (K : PySem.W.Frag) (mg : Str → Option Value) (base : Heap) (d : He.DefD) (ps : List Str) (k : Nat) (sp : Sp) : Prop where
  ex : ∃ fd, FnOk P w K mg base CX0 k (He.fAd K d.at_) fd ps sp ∧ Binds K fd ps []
  kp : PySem.W.keepIn K (.ref (He.fAd K d.at_)) = true
section
variable {P : Program} {w : World} {K : PySem.W.Frag} {mg : Str → Option Value} {base : Heap}
theorem OkF.mono {d : He.DefD} {ps : List Str} {j k : Nat} {sp : Sp} (O : OkF P w K mg base d ps j sp) (h : j ≤ k) : OkF P w K mg base d ps k sp := by
  obtain ⟨fd, F, b⟩ := O.ex
  exact ⟨⟨fd, F.mono h, b⟩, O.kp⟩
theorem okF (T : Tx K mg) (i : Nat) {d : He.DefD} {N ps : List Str} {k : Nat} {sp : Sp} (hd : fnl[i]? = some d) (S : FnScope N ps d.scope)
    (hb : ∀ (kV doc pm : Value) (an : Option Addr) (cdv ct : Value) (us : List Value), us.length = ps.length → bindArgs (PySem.W.fnOf d.name d.qual d.params d.body d.scope .none kV doc pm an cdv ct) ⟨us, []⟩ = pure (ps.zip us))
    (he : d.dfl = [] ∧ d.kwd = [])
    (len : ∀ vs H Q E, sp vs H Q E → vs.length = ps.length)
    (hbody : ∀ (cdv : Value) (A : Around) (outer : List Env) (s : Shared) (H : Hp) (vs : List V) (Q : VK) (E : XK), Room k (A.deeper (envOfC d.qual d.scope s.heap.objs.size (He.fAd K d.at_) cdv)) → sp vs H Q E →
      ∃ t, PSs (cxOf CX0 P w K mg base N d.qual d.scope (He.fAd K d.at_) cdv A outer s H E).nox d.body t ∧ t { nx := fun _ H' => Q .non H', rt := Q } (start N vs) H) : OkF P w K mg base d ps (k + 1) sp := by
  obtain ⟨fd, F⟩ := T.says.def_ i hd
  have e1 : d.dvs K = [] := by unfold He.DefD.dvs; rw [he.1]; rfl
  rw [e1] at F
  refine ⟨⟨fd, FunD.ok F S len fun cdv A outer s H vs Q E hr hsp => ?_, FunD.bindsN F hb⟩, F.kp⟩
  obtain ⟨t, h, q⟩ := hbody cdv A outer s H vs Q E hr hsp
  exact ⟨t, h.nox, q⟩
end
section
variable {X : Cx} {k : Nat} {d : He.DefD} {ps : List Str} {sp : Sp} {x m : Str} {p pos apos : Pos} {e o : Expr} {es : List Expr} {ta : TE} {t : TA} {C : Addr}
theorem cg (O : OkF X.prog X.w X.K X.mg X.base d ps k sp) (hm : X.mg x = some (.ref (He.fAd X.K d.at_))) (hr : Room k X.A) (ha : PA X (e :: es) t) (hg : Gl X x := by rfl) (hdb : (x == ("__debug__" : Str)) = false := by decide)
    (he : starEach (e :: es) X.env = (false, eval e X.env) :: starEach es X.env := by rfl) (hpl : (backTo pos (starEach es X.env)).any (·.1) = false := by rfl) :
    PE X (.Call (.Name x p) (e :: es) [] pos) (tCall sp [] E0 t) := by
  obtain ⟨fd, F, b⟩ := O.ex
  exact pe_call F hr hg hm O.kp b .nil pass0 ha hdb he hpl
theorem cm (O : OkF X.prog X.w X.K X.mg X.base d ps k sp) (hM : Cls X.K C ∧ Meth X.K C m (He.fAd X.K d.at_)) (hr : Room k X.A) {pl : Sem Bool} (ho : PE X o ta) (ha : PA X (e :: es) t)
    (hst : starEach (e :: es) X.env = (false, eval e X.env) :: starEach es X.env := by rfl) (hpl : (backTo pos (starEach es X.env)).any (·.1) = false := by rfl)
    (ht : eval (.Call (.Attribute o m apos) (e :: es) [] pos) X.env = (do
      let ov ← eval o X.env
      standAt apos.atName
      let (f, first) ← holding [ov] (getMethod ov m pl)
      callWith pos f first (backTo pos (starEach (e :: es) X.env)) (backToKw pos (keywordEach [] X.env))) := by rfl) :
    PE X (.Call (.Attribute o m apos) (e :: es) [] pos) (tMeth C m sp [] E0 ta t) := by
  obtain ⟨fd, F, b⟩ := O.ex
  exact pe_meth ho hM.1 hM.2 F hr b .nil pass0 ha hst hpl ht
theorem cm0 (O : OkF X.prog X.w X.K X.mg X.base d ps k sp) (hM : Cls X.K C ∧ Meth X.K C m (He.fAd X.K d.at_)) (hr : Room k X.A) {pl : Sem Bool} (ho : PE X o ta)
    (ht : eval (.Call (.Attribute o m apos) [] [] pos) X.env = (do
      let ov ← eval o X.env
      standAt apos.atName
      let (f, first) ← holding [ov] (getMethod ov m pl)
      callWith pos f first (backTo pos (starEach [] X.env)) (backToKw pos (keywordEach [] X.env))) := by rfl) :
    PE X (.Call (.Attribute o m apos) [] [] pos) (tMeth C m sp [] E0 ta tNil) := by
  obtain ⟨fd, F, b⟩ := O.ex
  exact pe_meth0 ho hM.1 hM.2 F hr b .nil pass0 ht
theorem cmk (O : OkF X.prog X.w X.K X.mg X.base d ps k sp) (hM : X.mg x = some (.ref C) ∧ Mk X.K C (He.fAd X.K d.at_)) (hr : Room (k + 1) X.A) (ha : PA X (e :: es) t) (hg : Gl X x := by rfl) (hdb : (x == ("__debug__" : Str)) = false := by decide)
    (he : starEach (e :: es) X.env = (false, eval e X.env) :: starEach es X.env := by rfl) (hpl : (backTo pos (starEach es X.env)).any (·.1) = false := by rfl) :
    PE X (.Call (.Name x p) (e :: es) [] pos) (tMake C sp [] E0 t) := by
  obtain ⟨fd, F, b⟩ := O.ex
  exact pe_make hM.2 F hr hg hM.1 b .nil pass0 ha hdb he hpl
theorem cmk0 (O : OkF X.prog X.w X.K X.mg X.base d ps k sp) (hM : X.mg x = some (.ref C) ∧ Mk X.K C (He.fAd X.K d.at_)) (hr : Room (k + 1) X.A) (hg : Gl X x := by rfl) (hdb : (x == ("__debug__" : Str)) = false := by decide) :
    PE X (.Call (.Name x p) [] [] pos) (tMake C sp [] E0 tNil) := by
  obtain ⟨fd, F, b⟩ := O.ex
  exact pe_make0 hM.2 F hr hg hM.1 b .nil pass0 hdb
/-! ### names of the top -/
theorem pe_gS {z : Str} (h : ∃ t, X.mg x = some (.str z t)) (hg : Gl X x := by rfl) (hdb : (x == ("__debug__" : Str)) = false := by decide) : PE X (.Name x pos) (tC (.str z)) := by
  obtain ⟨t, h⟩ := h
  exact pe_glob hg h ⟨t, rfl⟩ hdb
theorem pe_gI {z : Int} (h : ∃ t, X.mg x = some (.int z t)) (hg : Gl X x := by rfl) (hdb : (x == ("__debug__" : Str)) = false := by decide) : PE X (.Name x pos) (tC (.int z)) := by
  obtain ⟨t, h⟩ := h
  exact pe_glob hg h ⟨t, rfl⟩ hdb
theorem pe_gR {a : Addr} (h : X.mg x = some (.ref a)) (hg : Gl X x := by rfl) (hdb : (x == ("__debug__" : Str)) = false := by decide) : PE X (.Name x pos) (tC (.ref a)) := pe_glob hg h rfl hdb
/-! ### further rules -/
theorem ip_str : PIp X .Add (fun x y H Q => ∃ i j, x = .str i ∧ y = .str j ∧ i.length + j.length ≤ sizeLine ∧ Q (.str (i ++ j)) H) := fun pins s σ H x y v u Q I r1 r2 h => iop_add_str pins s σ H x y v u Q I r1 r2 h
/-- xs[i] of a tracked list (no written part in the reading) -/
def rIxH : R2 := fun x y H Q => ∃ p xs i v, x = .ref p ∧ y = .int i ∧ H p = some (.lst xs) ∧ atI xs i = some v ∧ Q v H
theorem ix_listH : IxR X rIxH := fun value slice pins s σ H x y v u Q I rx ry h hs => by
  obtain ⟨p, xs, i, z, e1, e2, e3, e4, q⟩ := h
  exact ix_list value slice pins s σ H x y v u Q I rx ry ⟨p, xs, i, z, e1, e2, .inl (.inl e3), e4, q⟩ hs
def rLenH : List V → Hp → VK → Prop := fun xs H Q => ∃ p ys, xs = [.ref p] ∧ H p = some (.lst ys) ∧ Q (.int ys.length) H
theorem call_lenH : CallR X (.builtin "len") rLenH := fun pins s σ H xs us Q I r h => by
  obtain ⟨p, ys, e, hp, q⟩ := h
  exact call_len_seq pins s σ H xs us Q I r ⟨p, ys, e, .inl (.inl (.inl hp)), q⟩
def rStrKey : List V → Hp → VK → Prop := fun xs H Q => (∃ i, xs = [.int i] ∧ i.natAbs.log2 < 1920 ∧ Q (.str (toString i)) H) ∨ ∃ a, xs = [.str a] ∧ Q (.str a) H
theorem call_str_key : CallR X (.type "str") rStrKey := CallR.or call_str_int SkE.call_str_str
end
end Mw
/-! MwB -/
set_option Elab.async false
set_option linter.all false
set_option maxRecDepth 100000
set_option maxHeartbeats 4000000
namespace Mw
/-! ## Mathematics: messages, plain form, notation -/
inductive Ky where
  | num (n : Nat)
  | wd (w : List Nat)
  deriving DecidableEq
inductive Nd (α : Type) where
  | text (s : List Nat)
  | shw (n : List Nat)
  | num
  | ch (pl : Option Nat) (name : List Nat) (cs : List (Ky × α)) (ot : α)
def Nd.map {α β : Type} (f : α → β) : Nd α → Nd β
  | .text s => .text s
  | .shw n => .shw n
  | .num => .num
  | .ch pl name cs ot => .ch pl name (cs.map fun c => (c.1, f c.2)) (f ot)
/-- messages by depth: no message of depth 0 -/
@[reducible] def Sub : Nat → Type
  | 0 => Empty
  | k + 1 => List (Nd (Sub k))
theorem Nd.map_map {α β γ : Type} (f : α → β) (g : β → γ) (nd : Nd α) : (nd.map f).map g = nd.map (fun x => g (f x)) := by
  cases nd <;> simp [Nd.map, List.map_map, Function.comp_def]
theorem Nd.map_congr {α β : Type} {f g : α → β} : ∀ nd : Nd α, (∀ x, f x = g x) → nd.map f = nd.map g
  | .text _, _ => rfl
  | .shw _, _ => rfl
  | .num, _ => rfl
  | .ch pl name cs ot, h => by simp [Nd.map, h]
/-! ### plain form -/
def stp {β : Type} (acc : List (Nd β)) : Nd β → List (Nd β)
  | .text s => match acc.getLast? with
    | some (.text t) => acc.dropLast ++ [.text (t ++ s)]
    | _ => if s = [] then acc else acc ++ [.text s]
  | .shw n => acc ++ [.shw n]
  | .num => acc ++ [.num]
  | .ch pl name cs ot => acc ++ [.ch pl name cs ot]
def plain : (k : Nat) → Sub k → Sub k
  | 0, e => nomatch e
  | k + 1, m => (List.foldl (fun acc nd => stp acc (nd.map (plain k))) [] m : List (Nd (Sub k)))
section
variable {β : Type}
theorem last_split {γ : Type} {l : List γ} {x : γ} (h : l.getLast? = some x) : l = l.dropLast ++ [x] := by
  have hne : l ≠ [] := by
    intro e
    rw [e] at h
    simp at h
  have e2 : l.getLast hne = x := by
    rw [List.getLast?_eq_some_getLast hne] at h
    exact Option.some.inj h
  have := List.dropLast_concat_getLast hne
  rw [e2] at this
  exact this.symm
theorem stp_text_text {acc : List (Nd β)} {t s : List Nat} (h : acc.getLast? = some (.text t)) : stp acc (.text s) = acc.dropLast ++ [.text (t ++ s)] := by
  unfold stp
  rw [h]
theorem stp_text_no {acc : List (Nd β)} {s : List Nat} (h : ∀ t, acc.getLast? ≠ some (.text t)) (hs : s ≠ []) : stp acc (.text s) = acc ++ [.text s] := by
  unfold stp
  cases e : acc.getLast? with
  | none => simp [hs]
  | some x =>
    cases x with
    | text t => exact absurd e (h t)
    | _ => simp [hs]
theorem stp_nil (acc : List (Nd β)) : stp acc (.text []) = acc := by
  cases e : acc.getLast? with
  | none =>
    unfold stp
    rw [e]
    simp
  | some x =>
    cases x with
    | text t =>
      rw [stp_text_text e, List.append_nil]
      exact (last_split e).symm
    | _ =>
      unfold stp
      rw [e]
      simp
theorem getLast?_snoc {γ : Type} (l : List γ) (x : γ) : (l ++ [x]).getLast? = some x := by simp
theorem stp_two (acc : List (Nd β)) (a b : List Nat) : stp (stp acc (.text a)) (.text b) = stp acc (.text (a ++ b)) := by
  by_cases ht : ∃ t, acc.getLast? = some (.text t)
  · obtain ⟨t, e⟩ := ht
    rw [stp_text_text e, stp_text_text e, stp_text_text (getLast?_snoc _ _), List.dropLast_concat, List.append_assoc]
  · have hn : ∀ t, acc.getLast? ≠ some (.text t) := fun t e => ht ⟨t, e⟩
    by_cases ha : a = []
    · subst ha
      rw [stp_nil, List.nil_append]
    · rw [stp_text_no hn ha, stp_text_text (getLast?_snoc _ _), List.dropLast_concat, stp_text_no hn (by simp [ha])]
/-- a text as single signs -/
def units {α : Type} (m : List (Nd α)) : List (Nd α) := m.flatMap fun nd => match nd with
  | .text s => s.map fun c => .text [c]
  | nd => [nd]
theorem fold_signs (s : List Nat) : ∀ acc : List (Nd β), (s.map fun c => (Nd.text [c] : Nd β)).foldl stp acc = stp acc (.text s) := by
  induction s with
  | nil => intro acc; rw [stp_nil]; rfl
  | cons c r ih =>
    intro acc
    show ((r.map fun c => (Nd.text [c] : Nd β)).foldl stp (stp acc (.text [c]))) = _
    rw [ih, stp_two]
    rfl
theorem fold_units : ∀ (m acc : List (Nd β)), (units m).foldl stp acc = m.foldl stp acc := by
  intro m
  induction m with
  | nil => intro acc; rfl
  | cons nd r ih =>
    intro acc
    have e : units (nd :: r) = (match nd with
      | .text s => s.map fun c => .text [c]
      | nd => [nd]) ++ units r := by simp [units]
    rw [e, List.foldl_append, ih]
    cases nd with
    | text s =>
      show List.foldl stp ((s.map fun c => (Nd.text [c] : Nd β)).foldl stp acc) r = _
      rw [fold_signs]
      rfl
    | _ => rfl
theorem units_map {α : Type} (f : α → β) (m : List (Nd α)) : (units m).map (Nd.map f) = units (m.map (Nd.map f)) := by
  induction m with
  | nil => rfl
  | cons nd r ih =>
    have e1 : units (nd :: r) = (match nd with
      | .text s => s.map fun c => .text [c]
      | nd => [nd]) ++ units r := by simp [units]
    have e2 : units ((nd :: r).map (Nd.map f)) = (match nd.map f with
      | .text s => s.map fun c => .text [c]
      | nd => [nd]) ++ units (r.map (Nd.map f)) := by simp [units]
    rw [e1, e2, List.map_append, ih]
    congr 1
    cases nd with
    | text s =>
      show (s.map fun c => (Nd.text [c] : Nd α)).map (Nd.map f) = s.map fun c => (Nd.text [c] : Nd β)
      rw [List.map_map]
      rfl
    | _ => rfl
/-- no empty text, no two texts side by side -/
inductive Nf : List (Nd β) → Prop
  | nil : Nf []
  | snoc {L : List (Nd β)} {nd : Nd β} : Nf L → stp L nd = L ++ [nd] → Nf (L ++ [nd])
theorem Nf.fold {L : List (Nd β)} (h : Nf L) : L.foldl stp [] = L := by
  induction h with
  | nil => rfl
  | snoc h1 h2 ih => rw [List.foldl_append, ih]; exact h2
theorem snoc_inj {γ : Type} {a b : List γ} {x y : γ} (h : a ++ [x] = b ++ [y]) : a = b ∧ x = y := by
  have h1 := congrArg List.dropLast h
  have h2 := congrArg List.getLast? h
  simp at h1 h2
  exact ⟨h1, h2⟩
theorem Nf.inv {L : List (Nd β)} {nd : Nd β} (h : Nf (L ++ [nd])) : Nf L ∧ stp L nd = L ++ [nd] := by
  generalize e : L ++ [nd] = M at h
  cases h with
  | nil => simp at e
  | snoc h1 h2 =>
    obtain ⟨e1, e2⟩ := snoc_inj e
    subst e1
    subst e2
    exact ⟨h1, h2⟩
theorem stp_grow {L : List (Nd β)} {t : List Nat} (h : stp L (.text t) = L ++ [.text t]) : (∀ u, L.getLast? ≠ some (.text u)) ∧ t ≠ [] := by
  constructor
  · intro u e
    rw [stp_text_text e] at h
    have h2 := congrArg List.length h
    have h3 := congrArg List.length (last_split e)
    simp at h2 h3
    omega
  · intro e
    subst e
    rw [stp_nil] at h
    have h2 := congrArg List.length h
    simp at h2
theorem Nf.stp {L : List (Nd β)} (h : Nf L) (nd : Nd β) : Nf (stp L nd) := by
  cases nd with
  | text s =>
    by_cases ht : ∃ t, L.getLast? = some (.text t)
    · obtain ⟨t, e⟩ := ht
      rw [stp_text_text e]
      have e2 := last_split e
      rw [e2] at h
      obtain ⟨h1, h2⟩ := h.inv
      obtain ⟨h3, h4⟩ := stp_grow h2
      exact .snoc h1 (stp_text_no h3 (by simp [h4]))
    · have hn : ∀ t, L.getLast? ≠ some (.text t) := fun t e => ht ⟨t, e⟩
      by_cases hs : s = []
      · subst hs
        rw [stp_nil]
        exact h
      · have e := stp_text_no hn hs
        rw [e]
        exact .snoc h e
  | _ => exact .snoc h rfl
theorem Nf.foldl : ∀ (m acc : List (Nd β)), Nf acc → Nf (m.foldl Mw.stp acc)
  | [], _, h => h
  | nd :: r, acc, h => Nf.foldl r (Mw.stp acc nd) (h.stp nd)
/-- what stp leaves: old nodes, texts, the new node -/
theorem stp_mem {acc : List (Nd β)} {nd x : Nd β} (h : x ∈ stp acc nd) : x ∈ acc ∨ x = nd ∨ (∃ t s, Nd.text t ∈ acc ∧ nd = .text s ∧ x = .text (t ++ s)) := by
  cases nd with
  | text s =>
    by_cases ht : ∃ t, acc.getLast? = some (.text t)
    · obtain ⟨t, e⟩ := ht
      rw [stp_text_text e] at h
      rcases List.mem_append.mp h with h | h
      · exact .inl (List.dropLast_subset _ h)
      · have := List.mem_singleton.mp h
        exact .inr (.inr ⟨t, s, List.mem_of_getLast? e, rfl, this⟩)
    · have hn : ∀ t, acc.getLast? ≠ some (.text t) := fun t e => ht ⟨t, e⟩
      by_cases hs : s = []
      · subst hs
        rw [stp_nil] at h
        exact .inl h
      · rw [stp_text_no hn hs] at h
        rcases List.mem_append.mp h with h | h
        · exact .inl h
        · exact .inr (.inl (List.mem_singleton.mp h))
  | _ =>
    rcases List.mem_append.mp (show x ∈ acc ++ [_] from h) with h | h
    · exact .inl h
    · exact .inr (.inl (List.mem_singleton.mp h))
theorem fold_mem {P : Nd β → Prop} (hj : ∀ t s, P (.text t) → P (.text s) → P (.text (t ++ s))) : ∀ (m acc : List (Nd β)), (∀ x ∈ m, P x) → (∀ x ∈ acc, P x) → ∀ x ∈ m.foldl stp acc, P x
  | [], acc, _, h, x, hx => h x hx
  | nd :: r, acc, hm, h, x, hx => by
    refine fold_mem hj r (stp acc nd) (fun y hy => hm y (List.mem_cons_of_mem _ hy)) (fun y hy => ?_) x hx
    rcases stp_mem hy with h1 | h1 | ⟨t, s, h1, h2, h3⟩
    · exact h y h1
    · rw [h1]; exact hm nd List.mem_cons_self
    · rw [h3]
      refine hj t s (h _ h1) ?_
      rw [← h2]
      exact hm nd List.mem_cons_self
theorem stp_len (acc : List (Nd β)) (nd : Nd β) : (stp acc nd).length ≤ acc.length + 1 := by
  cases nd with
  | text s =>
    by_cases ht : ∃ t, acc.getLast? = some (.text t)
    · obtain ⟨t, e⟩ := ht
      rw [stp_text_text e]
      simp
    · have hn : ∀ t, acc.getLast? ≠ some (.text t) := fun t e => ht ⟨t, e⟩
      by_cases hs : s = []
      · subst hs
        rw [stp_nil]
        exact Nat.le_succ _
      · rw [stp_text_no hn hs]
        simp
  | _ => exact Nat.le_of_eq (by show (acc ++ [_]).length = _; simp)
theorem fold_len : ∀ (m acc : List (Nd β)), (m.foldl stp acc).length ≤ acc.length + m.length
  | [], acc => Nat.le_refl _
  | nd :: r, acc => by
    have h1 := fold_len r (stp acc nd)
    have h2 := stp_len acc nd
    simp only [List.foldl_cons, List.length_cons]
    omega
end
theorem plain_eq (k : Nat) (m : List (Nd (Sub k))) : plain (k + 1) m = (List.foldl stp [] (m.map (Nd.map (plain k))) : List (Nd (Sub k))) := by
  show List.foldl (fun acc nd => stp acc (nd.map (plain k))) [] m = _
  rw [List.foldl_map]
/-- plain twice is plain -/
theorem plain_idem : ∀ (k : Nat) (m : Sub k), plain k (plain k m) = plain k m
  | 0, e => nomatch e
  | k + 1, m => by
    have ih := plain_idem k
    have hm : ∀ x ∈ (plain (k + 1) m : List (Nd (Sub k))), x.map (plain k) = x := by
      rw [plain_eq]
      refine fold_mem (P := fun x => x.map (plain k) = x) (fun _ _ _ _ => rfl) _ _ (fun x hx => ?_) (fun x hx => by simp at hx)
      obtain ⟨y, _, rfl⟩ := List.mem_map.mp hx
      rw [Nd.map_map]
      exact Nd.map_congr y fun z => ih z
    have hn : Nf (plain (k + 1) m : List (Nd (Sub k))) := by
      rw [plain_eq]
      exact Nf.foldl _ _ .nil
    rw [plain_eq k (plain (k + 1) m)]
    have e : (List.map (Nd.map (plain k)) (plain (k + 1) m : List (Nd (Sub k)))) = (plain (k + 1) m : List (Nd (Sub k))) := by
      conv => rhs; rw [← List.map_id (plain (k + 1) m : List (Nd (Sub k)))]
      exact List.map_congr_left hm
    rw [e]
    exact hn.fold
/-- what is plain has plain messages within, and is in normal form -/
theorem plain_inner {k : Nat} {m : List (Nd (Sub k))} (h : plain (k + 1) m = m) : (∀ x ∈ m, x.map (plain k) = x) ∧ Nf m := by
  have hn : Nf (plain (k + 1) m : List (Nd (Sub k))) := by
    rw [plain_eq]
    exact Nf.foldl _ _ .nil
  have hm : ∀ x ∈ (plain (k + 1) m : List (Nd (Sub k))), x.map (plain k) = x := by
    rw [plain_eq]
    refine fold_mem (P := fun x => x.map (plain k) = x) (fun _ _ _ _ => rfl) _ _ (fun x hx => ?_) (fun x hx => by simp at hx)
    obtain ⟨y, _, rfl⟩ := List.mem_map.mp hx
    rw [Nd.map_map]
    exact Nd.map_congr y fun z => plain_idem k z
  rw [h] at hn hm
  exact ⟨hm, hn⟩
/-- what a reader makes of a notation, ahead of plain: each sign a text of its own -/
def expl : (k : Nat) → Sub k → Sub k
  | 0, e => nomatch e
  | k + 1, m => (List.map (Nd.map (expl k)) (units m) : List (Nd (Sub k)))
theorem plain_expl : ∀ (k : Nat) (m : Sub k), plain k (expl k m) = plain k m
  | 0, e => nomatch e
  | k + 1, m => by
    have ih := plain_expl k
    rw [plain_eq k (expl (k + 1) m), plain_eq k m]
    show List.foldl stp [] (List.map (Nd.map (plain k)) (List.map (Nd.map (expl k)) (units m))) = _
    rw [List.map_map]
    have e : (Nd.map (plain k) ∘ Nd.map (expl k)) = Nd.map (plain k) := by
      funext x
      show (x.map (expl k)).map (plain k) = x.map (plain k)
      rw [Nd.map_map]
      exact Nd.map_congr x fun z => ih z
    rw [e, units_map, fold_units]
/-! ### notation -/
def esc (c : Nat) : List Nat := if c = 39 then [39, 39] else if c = 123 ∨ c = 125 ∨ c = 35 then [39, c, 39] else [c]
def cOther : List Nat := [111, 116, 104, 101, 114]
def cSelect : List Nat := [115, 101, 108, 101, 99, 116]
def cPlural : List Nat := [112, 108, 117, 114, 97, 108]
def cOffset : List Nat := [111, 102, 102, 115, 101, 116, 58]
def fKy : Ky → List Nat
  | .num n => [61, 48 + n]
  | .wd w => w
def fOff : Option Nat → List Nat
  | none => []
  | some o => if o = 0 then [] else cOffset ++ [48 + o, 32]
def cKind : Option Nat → List Nat
  | none => cSelect
  | some _ => cPlural
def fCase {α : Type} (f : α → List Nat) (c : Ky × α) : List Nat := fKy c.1 ++ [32, 123] ++ f c.2 ++ [125, 32]
def fNd {α : Type} (f : α → List Nat) : Nd α → List Nat
  | .text s => s.flatMap esc
  | .shw n => 123 :: n ++ [125]
  | .num => [35]
  | .ch pl name cs ot => 123 :: name ++ [44, 32] ++ cKind pl ++ [44, 32] ++ fOff pl ++ cs.flatMap (fCase f) ++ cOther ++ [32, 123] ++ f ot ++ [125, 125]
def fmt : (k : Nat) → Sub k → List Nat
  | 0, e => nomatch e
  | k + 1, m => m.flatMap (fNd (fmt k))
theorem fmt_eq (k : Nat) (m : List (Nd (Sub k))) : fmt (k + 1) m = m.flatMap (fNd (fmt k)) := rfl
theorem fNd_map {α β : Type} (f : β → List Nat) (g : α → β) (nd : Nd α) : fNd f (nd.map g) = fNd (fun x => f (g x)) nd := by
  cases nd with
  | ch pl name cs ot =>
    simp only [fNd, Nd.map, List.flatMap_map]
    rfl
  | _ => rfl
theorem fNd_congr {α : Type} {f g : α → List Nat} (h : ∀ x, f x = g x) (nd : Nd α) : fNd f nd = fNd g nd := by
  have : f = g := funext h
  rw [this]
theorem fmt_stp {β : Type} (f : β → List Nat) (acc : List (Nd β)) (nd : Nd β) : (stp acc nd).flatMap (fNd f) = acc.flatMap (fNd f) ++ fNd f nd := by
  cases nd with
  | text s =>
    by_cases ht : ∃ t, acc.getLast? = some (.text t)
    · obtain ⟨t, e⟩ := ht
      rw [stp_text_text e]
      conv => rhs; rw [last_split e]
      simp [fNd, List.flatMap_append]
    · have hn : ∀ t, acc.getLast? ≠ some (.text t) := fun t e => ht ⟨t, e⟩
      by_cases hs : s = []
      · subst hs
        rw [stp_nil]
        simp [fNd]
      · rw [stp_text_no hn hs]
        simp [List.flatMap_append]
  | _ => show (acc ++ [_]).flatMap (fNd f) = _; simp [List.flatMap_append]
theorem fmt_fold {β : Type} (f : β → List Nat) : ∀ (m acc : List (Nd β)), (m.foldl stp acc).flatMap (fNd f) = acc.flatMap (fNd f) ++ m.flatMap (fNd f)
  | [], acc => by simp
  | nd :: r, acc => by
    rw [List.foldl_cons, fmt_fold f r, fmt_stp]
    simp
theorem fmt_plain : ∀ (k : Nat) (m : Sub k), fmt k (plain k m) = fmt k m
  | 0, e => nomatch e
  | k + 1, m => by
    have ih := fmt_plain k
    rw [plain_eq, fmt_eq, fmt_fold]
    rw [List.flatMap_nil, List.nil_append, List.flatMap_map, fmt_eq]
    congr 1
    funext x
    rw [fNd_map]
    exact fNd_congr ih x
theorem fmt_units {α : Type} (f : α → List Nat) (m : List (Nd α)) : (units m).flatMap (fNd f) = m.flatMap (fNd f) := by
  induction m with
  | nil => rfl
  | cons nd r ih =>
    have e1 : units (nd :: r) = (match nd with
      | .text s => s.map fun c => .text [c]
      | nd => [nd]) ++ units r := by simp [units]
    rw [e1, List.flatMap_append, ih, List.flatMap_cons]
    congr 1
    cases nd with
    | text s =>
      show (s.map fun c => (Nd.text [c] : Nd α)).flatMap (fNd f) = s.flatMap esc
      rw [List.flatMap_map]
      congr 1
      funext c
      simp [fNd]
    | _ => simp
end Mw
/-! MwC -/
set_option Elab.async false
set_option linter.all false
set_option maxRecDepth 100000
set_option maxHeartbeats 4000000
namespace Mw
open PySem PySem.Spec PyProof.Rows L2
/-! ## texts by their codes -/
abbrev S (l : List Nat) : Str := ⟨l.toArray⟩
theorem S_app (a b : List Nat) : S a ++ S b = S (a ++ b) := by
  show Str.append (S a) (S b) = S (a ++ b)
  unfold Str.append
  simp
theorem S_len (a : List Nat) : (S a).length = a.length := by simp [Str.length]
theorem S_inj {a b : List Nat} (h : S a = S b) : a = b := by
  have h1 := congrArg (fun z : Str => z.cps.toList) h
  simpa using h1
theorem S_eq {a b : List Nat} : S a = S b ↔ a = b := ⟨S_inj, fun h => by rw [h]⟩
theorem S_list (s : Str) : S s.cps.toList = s := by cases s; simp
theorem dec_S (a b : List Nat) : decide (V.str (S a) = V.str (S b)) = decide (a = b) := by
  by_cases h : a = b
  · subst h; simp
  · have : ¬ V.str (S a) = V.str (S b) := fun e => h (S_inj (V.str.inj e))
    rw [decide_eq_false h, decide_eq_false this]
/-! ## heaps: what may still change is hidden -/
abbrev Fz := Addr → Bool
def Av (F : Fz) (H : Hp) : Hp := fun a => if F a = true then none else H a
def add (F : Fz) (p : Addr) : Fz := fun a => decide (a = p) || F a
theorem add_self (F : Fz) (p : Addr) : add F p p = true := by simp [add]
theorem add_of {F : Fz} {p a : Addr} (h : F a = true) : add F p a = true := by simp [add, h]
theorem add_no {F : Fz} {p a : Addr} (h : a ≠ p) (h2 : F a = false) : add F p a = false := by simp [add, h, h2]
theorem Av_some {F : Fz} {H : Hp} {a : Addr} {o : HO} (h : Av F H a = some o) : F a = false ∧ H a = some o := by
  unfold Av at h
  by_cases e : F a = true
  · rw [if_pos e] at h; cases h
  · rw [if_neg e] at h
    exact ⟨by simpa using e, h⟩
theorem Av_get {F : Fz} {H : Hp} {a : Addr} (h : F a = false) : Av F H a = H a := by
  unfold Av
  rw [if_neg (by rw [h]; decide)]
theorem Av_same (F : Fz) (H : Hp) : Same (Av F H) H := fun _ _ h => (Av_some h).2
theorem Av_upd {F : Fz} {H : Hp} {p : Addr} {o : HO} (h : F p = true) : Av F (upd H p o) = Av F H := by
  funext a
  unfold Av
  by_cases e : F a = true
  · rw [if_pos e, if_pos e]
  · rw [if_neg e, if_neg e, upd_ne (fun z => e (by rw [z]; exact h))]
/-- what F does not hide stands -/
def Kp (F : Fz) (H H' : Hp) : Prop := ∀ a o, F a = false → H a = some o → H' a = some o
theorem Kp.refl (F : Fz) (H : Hp) : Kp F H H := fun _ _ _ h => h
theorem Kp.trans {F : Fz} {H H1 H2 : Hp} (a : Kp F H H1) (b : Kp F H1 H2) : Kp F H H2 := fun x o hf h => b x o hf (a x o hf h)
theorem Kp.of {F : Fz} {H H' : Hp} (s : Same H H') : Kp F H H' := fun a o _ h => s a o h
theorem Kp.mono {F G : Fz} {H H' : Hp} (k : Kp F H H') (h : ∀ a, F a = true → G a = true) : Kp G H H' := fun a o hg e => k a o (by
  cases e2 : F a with
  | false => rfl
  | true => rw [h a e2] at hg; cases hg) e
theorem Kp.av {F : Fz} {H H' : Hp} (k : Kp F H H') : Same (Av F H) (Av F H') := fun a o h => by
  obtain ⟨h1, h2⟩ := Av_some h
  rw [Av_get h1]
  exact k a o h1 h2
theorem Kp.upd {F : Fz} {H H' : Hp} {p : Addr} {o : HO} (k : Kp F H H') (h : F p = true) : Kp F H (upd H' p o) := fun a u hf e => by
  rw [upd_ne (fun z => by rw [z, h] at hf; cases hf)]
  exact k a u hf e
theorem _root_.L2.Same.av {F : Fz} {H H' : Hp} (s : Same H H') : Same (Av F H) (Av F H') := (Kp.of s).av
theorem same_new {H : Hp} {p : Addr} (h : H p = none) (o : HO) : Same H (upd H p o) := fun b u q => by rw [upd_ne (ne_of_none q h)]; exact q
/-- an object that H does not know may change -/
theorem same_mut {H H' : Hp} {p : Addr} {o : HO} (e : Same H H') (h : H p = none) : Same H (upd H' p o) := fun a u ha => by
  rw [upd_ne (ne_of_none ha h)]
  exact e a u ha
/-- the hidden ones live -/
def Live (F : Fz) (H : Hp) : Prop := ∀ a, F a = true → H a ≠ none
theorem Live.same {F : Fz} {H H' : Hp} (l : Live F H) (s : Same H H') : Live F H' := fun a h e => by
  cases q : H a with
  | none => exact l a h q
  | some o => rw [s a o q] at e; cases e
theorem Live.new {F : Fz} {H : Hp} {p : Addr} (l : Live F H) (h : H p = none) : F p = false := by
  cases e : F p with
  | false => rfl
  | true => exact absurd h (l p e)
theorem Live.upd {F : Fz} {H : Hp} {p : Addr} {o : HO} (l : Live F H) : Live F (upd H p o) := fun a h e => by
  by_cases q : a = p
  · subst q; rw [upd_same] at e; cases e
  · rw [upd_ne q] at e; exact l a h e
theorem Live.add {F : Fz} {H : Hp} {p : Addr} (l : Live F H) (h : H p ≠ none) : Live (add F p) H := fun a ha => by
  by_cases q : a = p
  · subst q; exact h
  · refine l a ?_
    simpa [Mw.add, q] using ha
theorem live0 (H : Hp) : Live (fun _ => false) H := fun _ h => by cases h
theorem _root_.L2.Same.seqT {K : PySem.W.Frag} {H H' : Hp} {a : Addr} {xs : List V} (e : Same H H') (h : SqT K H a xs) : SqT K H' a xs := by
  rcases h with (h | ⟨o, h⟩) | h
  · exact .inl (.inl (e _ _ h))
  · exact .inl (.inr ⟨o, e _ _ h⟩)
  · exact .inr h
mutual
/-- data at tracked lists and tuples (K is only carried along) -/
inductive Dp (K : PySem.W.Frag) (H : Hp) : V → PyData → Prop
  | non : Dp K H .non .none
  | bl (b : Bool) : Dp K H (.bl b) (.bool b)
  | int (i : Int) : Dp K H (.int i) (.int i)
  | str (x : Str) : Dp K H (.str x) (.str x)
  | lst {a : Addr} {xs : List V} {ds : List PyData} : H a = some (.lst xs) → DpAll K H xs ds → Dp K H (.ref a) (.list ds)
  | tup {a : Addr} {xs : List V} {ds : List PyData} : H a = some (.tup xs) → DpAll K H xs ds → Dp K H (.ref a) (.tuple ds)
inductive DpAll (K : PySem.W.Frag) (H : Hp) : List V → List PyData → Prop
  | nil : DpAll K H [] []
  | cons {v : V} {vs : List V} {d : PyData} {ds : List PyData} : Dp K H v d → DpAll K H vs ds → DpAll K H (v :: vs) (d :: ds)
end
mutual
theorem Dp.to {K : PySem.W.Frag} {H : Hp} : ∀ (d : PyData) (v : V), Dp K H v d → L2.Dp K H v d
  | .none, _, h => by cases h; exact .non
  | .bool b, _, h => by cases h; exact .bl b
  | .int i, _, h => by cases h; exact .int i
  | .str x, _, h => by cases h; exact .str x
  | .list ds, _, h => by
    cases h with
    | lst hs ha => exact .lst (SqL.of hs) (DpAll.to ds _ ha)
  | .tuple ds, _, h => by
    cases h with
    | tup hs ha => exact .tup (SqT.of hs) (DpAll.to ds _ ha)
  | .dict _, _, h => by cases h
theorem DpAll.to {K : PySem.W.Frag} {H : Hp} : ∀ (ds : List PyData) (vs : List V), DpAll K H vs ds → L2.DpAll K H vs ds
  | [], _, h => by cases h; exact .nil
  | d :: ds, _, h => by
    cases h with
    | cons h1 h2 => exact .cons (Dp.to d _ h1) (DpAll.to ds _ h2)
end
mutual
theorem Dp.same {K : PySem.W.Frag} {H H' : Hp} (e : Same H H') : ∀ (d : PyData) (v : V), Dp K H v d → Dp K H' v d
  | .none, _, h => by cases h; exact .non
  | .bool b, _, h => by cases h; exact .bl b
  | .int i, _, h => by cases h; exact .int i
  | .str x, _, h => by cases h; exact .str x
  | .list ds, _, h => by
    cases h with
    | lst hs ha => exact .lst (e _ _ hs) (DpAll.same e ds _ ha)
  | .tuple ds, _, h => by
    cases h with
    | tup hs ha => exact .tup (e _ _ hs) (DpAll.same e ds _ ha)
  | .dict _, _, h => by cases h
theorem DpAll.same {K : PySem.W.Frag} {H H' : Hp} (e : Same H H') : ∀ (ds : List PyData) (vs : List V), DpAll K H vs ds → DpAll K H' vs ds
  | [], _, h => by cases h; exact .nil
  | d :: ds, _, h => by
    cases h with
    | cons h1 h2 => exact .cons (Dp.same e d _ h1) (DpAll.same e ds _ h2)
end
/-- data that leans on nothing hidden -/
abbrev Dh (K : PySem.W.Frag) (F : Fz) (H : Hp) (v : V) (d : PyData) : Prop := Dp K (Av F H) v d
abbrev DhA (K : PySem.W.Frag) (F : Fz) (H : Hp) (vs : List V) (ds : List PyData) : Prop := DpAll K (Av F H) vs ds
section
variable {K : PySem.W.Frag} {F G : Fz} {H H' : Hp} {v : V} {vs : List V} {d : PyData} {ds : List PyData}
theorem Dh.same (h : Dh K F H v d) (s : Same H H') : Dh K F H' v d := Dp.same (Same.av s) d v h
theorem Dh.kp (h : Dh K F H v d) (k : Kp F H H') : Dh K F H' v d := Dp.same k.av d v h
theorem DhA.same (h : DhA K F H vs ds) (s : Same H H') : DhA K F H' vs ds := DpAll.same (Same.av s) ds vs h
theorem DhA.kp (h : DhA K F H vs ds) (k : Kp F H H') : DhA K F H' vs ds := DpAll.same k.av ds vs h
theorem av_weak (h : ∀ a, F a = true → G a = true) : Same (Av G H) (Av F H) := fun a o e => by
  obtain ⟨h1, h2⟩ := Av_some e
  rw [Av_get (by
    cases e2 : F a with
    | false => rfl
    | true => rw [h a e2] at h1; cases h1)]
  exact h2
theorem Dh.weak (h : Dh K G H v d) (hf : ∀ a, F a = true → G a = true) : Dh K F H v d := Dp.same (av_weak hf) d v h
theorem DhA.weak (h : DhA K G H vs ds) (hf : ∀ a, F a = true → G a = true) : DhA K F H vs ds := DpAll.same (av_weak hf) ds vs h
theorem Dh.out (h : Dh K F H v d) : Dp K H v d := Dp.same (Av_same F H) d v h
theorem DhA.out (h : DhA K F H vs ds) : DpAll K H vs ds := DpAll.same (Av_same F H) ds vs h
theorem Dh.new {p : Addr} (h : Dh K F H v d) (hp : H p = none) : Dh K (add F p) H v d := by
  refine Dp.same (fun a o e => ?_) d v h
  obtain ⟨h1, h2⟩ := Av_some e
  rw [Av_get (add_no (ne_of_none h2 hp) h1)]
  exact h2
theorem DhA.new {p : Addr} (h : DhA K F H vs ds) (hp : H p = none) : DhA K (add F p) H vs ds := by
  refine DpAll.same (fun a o e => ?_) ds vs h
  obtain ⟨h1, h2⟩ := Av_some e
  rw [Av_get (add_no (ne_of_none h2 hp) h1)]
  exact h2
theorem Dh.updF {p : Addr} {o : HO} (h : Dh K F H v d) (hp : F p = true) : Dh K F (upd H p o) v d := by
  show Dp K (Av F (upd H p o)) v d
  rw [Av_upd hp]
  exact h
theorem DhA.updF {p : Addr} {o : HO} (h : DhA K F H vs ds) (hp : F p = true) : DhA K F (upd H p o) vs ds := by
  show DpAll K (Av F (upd H p o)) vs ds
  rw [Av_upd hp]
  exact h
theorem add_sub {p : Addr} : ∀ a, F a = true → add F p a = true := fun _ h => add_of h
end
section
variable {K : PySem.W.Frag} {H : Hp} {v : V} {vs ws : List V} {d : PyData} {ds es : List PyData}
theorem DpAll.len : ∀ {vs : List V} {ds : List PyData}, DpAll K H vs ds → vs.length = ds.length
  | _, _, .nil => rfl
  | _, _, .cons _ h => by simp [DpAll.len h]
theorem DpAll.snoc : ∀ {vs : List V} {ds : List PyData}, DpAll K H vs ds → Dp K H v d → DpAll K H (vs ++ [v]) (ds ++ [d])
  | _, _, .nil, h => .cons h .nil
  | _, _, .cons h1 h2, h => .cons h1 (DpAll.snoc h2 h)
theorem DpAll.app : ∀ {vs : List V} {ds : List PyData}, DpAll K H vs ds → DpAll K H ws es → DpAll K H (vs ++ ws) (ds ++ es)
  | _, _, .nil, h => h
  | _, _, .cons h1 h2, h => .cons h1 (DpAll.app h2 h)
theorem DpAll.at_ : ∀ {vs : List V} {ds : List PyData} {i : Nat}, DpAll K H vs ds → vs[i]? = some v → ∃ d, ds[i]? = some d ∧ Dp K H v d
  | _, _, _, .nil, e => by simp at e
  | _, _, 0, .cons h1 _, e => by
    simp at e
    subst e
    exact ⟨_, rfl, h1⟩
  | _, _, i + 1, .cons _ h2, e => DpAll.at_ (i := i) h2 (by simpa using e)
theorem DpAll.get : ∀ {vs : List V} {ds : List PyData} {i : Nat}, DpAll K H vs ds → ds[i]? = some d → ∃ v, vs[i]? = some v ∧ Dp K H v d
  | _, _, _, .nil, e => by simp at e
  | _, _, 0, .cons h1 _, e => by
    simp at e
    subst e
    exact ⟨_, rfl, h1⟩
  | _, _, i + 1, .cons _ h2, e => DpAll.get (i := i) h2 (by simpa using e)
theorem DpAll.dropLast : ∀ {vs : List V} {ds : List PyData}, DpAll K H vs ds → DpAll K H vs.dropLast ds.dropLast
  | _, _, .nil => .nil
  | _, _, .cons _ .nil => .nil
  | _, _, .cons h1 (.cons h2 h3) => .cons h1 (DpAll.dropLast (.cons h2 h3))
theorem DpAll.snocInv : ∀ {vs : List V} {ds : List PyData}, DpAll K H vs (ds ++ [d]) → ∃ vs0 v0, vs = vs0 ++ [v0] ∧ DpAll K H vs0 ds ∧ Dp K H v0 d
  | _, [], .cons h1 .nil => ⟨[], _, rfl, .nil, h1⟩
  | _, _ :: ds, .cons h1 h2 => by
    obtain ⟨vs0, v0, e, h3, h4⟩ := DpAll.snocInv (ds := ds) h2
    exact ⟨_ :: vs0, v0, by rw [e]; rfl, .cons h1 h3, h4⟩
theorem DpAll.take : ∀ {vs : List V} {ds : List PyData} (n : Nat), DpAll K H vs ds → DpAll K H (vs.take n) (ds.take n)
  | _, _, 0, _ => .nil
  | _, _, _ + 1, .nil => .nil
  | _, _, n + 1, .cons h1 h2 => .cons h1 (DpAll.take n h2)
theorem DpAll.drop : ∀ {vs : List V} {ds : List PyData} (n : Nat), DpAll K H vs ds → DpAll K H (vs.drop n) (ds.drop n)
  | _, _, 0, h => h
  | _, _, _ + 1, .nil => .nil
  | _, _, n + 1, .cons _ h2 => DpAll.drop n h2
theorem Dp.lstInv (h : Dp K H v (.list ds)) : ∃ a xs, v = .ref a ∧ SqL K H a xs ∧ DpAll K H xs ds := by
  cases h with
  | lst hs ha => exact ⟨_, _, rfl, SqL.of hs, ha⟩
theorem Dp.lstGet (h : Dp K H v (.list ds)) : ∃ a xs, v = .ref a ∧ H a = some (.lst xs) ∧ DpAll K H xs ds := by
  cases h with
  | lst hs ha => exact ⟨_, _, rfl, hs, ha⟩
theorem Dp.tupInv (h : Dp K H v (.tuple ds)) : ∃ a xs, v = .ref a ∧ SqT K H a xs ∧ DpAll K H xs ds := by
  cases h with
  | tup hs ha => exact ⟨_, _, rfl, SqT.of hs, ha⟩
theorem Dp.tupGet (h : Dp K H v (.tuple ds)) : ∃ a xs, v = .ref a ∧ H a = some (.tup xs) ∧ DpAll K H xs ds := by
  cases h with
  | tup hs ha => exact ⟨_, _, rfl, hs, ha⟩
theorem Dp.strInv {x : Str} (h : Dp K H v (.str x)) : v = .str x := by cases h; rfl
theorem Dp.intInv {i : Int} (h : Dp K H v (.int i)) : v = .int i := by cases h; rfl
end
/-! ## messages as data -/
def kD : Ky → PyData
  | .num n => .int n
  | .wd w => .str (S w)
def kW : Ky → V
  | .num n => .int n
  | .wd w => .str (S w)
def dCase {α : Type} (f : α → PyData) (c : Ky × α) : PyData := .tuple [kD c.1, f c.2]
def dNd {α : Type} (f : α → PyData) : Nd α → PyData
  | .text s => .tuple [.str "text", .str (S s)]
  | .shw n => .tuple [.str "show", .str (S n)]
  | .num => .tuple [.str "number"]
  | .ch none name cs ot => .tuple [.str "select", .str (S name), .list (cs.map (dCase f)), f ot]
  | .ch (some o) name cs ot => .tuple [.str "plural", .str (S name), .int o, .list (cs.map (dCase f)), f ot]
def dat : (k : Nat) → Sub k → PyData
  | 0, e => nomatch e
  | k + 1, m => .list (m.map (dNd (dat k)))
theorem dat_eq (k : Nat) (m : List (Nd (Sub k))) : dat (k + 1) m = .list (m.map (dNd (dat k))) := rfl
section
variable {K : PySem.W.Frag} {H : Hp} {v : V}
theorem dp_key {k : Ky} : Dp K H v (kD k) ↔ v = kW k := by
  cases k with
  | num n => exact ⟨fun h => Dp.intInv h, fun h => by rw [h]; exact .int _⟩
  | wd w => exact ⟨fun h => Dp.strInv h, fun h => by rw [h]; exact .str _⟩
theorem dp_text {α : Type} {f : α → PyData} {s : List Nat} (h : Dp K H v (dNd f (.text s))) : ∃ a, v = .ref a ∧ SqT K H a [.str "text", .str (S s)] := by
  obtain ⟨a, xs, rfl, hs, ha⟩ := Dp.tupInv h
  cases ha with
  | cons h1 h2 =>
    cases h2 with
    | cons h3 h4 =>
      cases h4
      cases h1
      cases h3
      exact ⟨a, rfl, hs⟩
theorem dp_shw {α : Type} {f : α → PyData} {s : List Nat} (h : Dp K H v (dNd f (.shw s))) : ∃ a, v = .ref a ∧ SqT K H a [.str "show", .str (S s)] := by
  obtain ⟨a, xs, rfl, hs, ha⟩ := Dp.tupInv h
  cases ha with
  | cons h1 h2 =>
    cases h2 with
    | cons h3 h4 =>
      cases h4
      cases h1
      cases h3
      exact ⟨a, rfl, hs⟩
theorem dp_num {α : Type} {f : α → PyData} (h : Dp K H v (dNd f .num)) : ∃ a, v = .ref a ∧ SqT K H a [.str "number"] := by
  obtain ⟨a, xs, rfl, hs, ha⟩ := Dp.tupInv h
  cases ha with
  | cons h1 h2 =>
    cases h2
    cases h1
    exact ⟨a, rfl, hs⟩
theorem dp_sel {α : Type} {f : α → PyData} {name : List Nat} {cs : List (Ky × α)} {ot : α} (h : Dp K H v (dNd f (.ch none name cs ot))) :
    ∃ a c q, v = .ref a ∧ SqT K H a [.str "select", .str (S name), c, q] ∧ Dp K H c (.list (cs.map (dCase f))) ∧ Dp K H q (f ot) := by
  obtain ⟨a, xs, rfl, hs, ha⟩ := Dp.tupInv h
  cases ha with
  | cons h1 h2 =>
    cases h2 with
    | cons h3 h4 =>
      cases h4 with
      | cons h5 h6 =>
        cases h6 with
        | cons h7 h8 =>
          cases h8
          cases h1
          cases h3
          exact ⟨a, _, _, rfl, hs, h5, h7⟩
theorem dp_plu {α : Type} {f : α → PyData} {o : Nat} {name : List Nat} {cs : List (Ky × α)} {ot : α} (h : Dp K H v (dNd f (.ch (some o) name cs ot))) :
    ∃ a c q, v = .ref a ∧ SqT K H a [.str "plural", .str (S name), .int o, c, q] ∧ Dp K H c (.list (cs.map (dCase f))) ∧ Dp K H q (f ot) := by
  obtain ⟨a, xs, rfl, hs, ha⟩ := Dp.tupInv h
  cases ha with
  | cons h1 h2 =>
    cases h2 with
    | cons h3 h4 =>
      cases h4 with
      | cons h5 h6 =>
        cases h6 with
        | cons h7 h8 =>
          cases h8 with
          | cons h9 h10 =>
            cases h10
            cases h1
            cases h3
            cases h5
            exact ⟨a, _, _, rfl, hs, h7, h9⟩
theorem dp_case {α : Type} {f : α → PyData} {c : Ky × α} (h : Dp K H v (dCase f c)) : ∃ a q, v = .ref a ∧ SqT K H a [kW c.1, q] ∧ Dp K H q (f c.2) := by
  obtain ⟨a, xs, rfl, hs, ha⟩ := Dp.tupInv h
  cases ha with
  | cons h1 h2 =>
    cases h2 with
    | cons h3 h4 =>
      cases h4
      rw [dp_key] at h1
      subst h1
      exact ⟨a, _, rfl, hs, h3⟩
/-- the tag of a node, and that it is a tuple -/
def tagOf {α : Type} : Nd α → Str
  | .text _ => "text"
  | .shw _ => "show"
  | .num => "number"
  | .ch none _ _ _ => "select"
  | .ch (some _) _ _ _ => "plural"
theorem tag_no {α : Type} {nd : Nd α} (h : ¬ ∃ t, nd = .text t) : tagOf nd ≠ "text" := by
  cases nd with
  | text u => exact absurd ⟨u, rfl⟩ h
  | shw u => show ("show" : Str) ≠ "text"; decide +kernel
  | num => show ("number" : Str) ≠ "text"; decide +kernel
  | ch pl name cs ot =>
    cases pl with
    | none => show ("select" : Str) ≠ "text"; decide +kernel
    | some o => show ("plural" : Str) ≠ "text"; decide +kernel
theorem dp_node {α : Type} {f : α → PyData} {nd : Nd α} (h : Dp K H v (dNd f nd)) : ∃ a xs, v = .ref a ∧ SqT K H a (.str (tagOf nd) :: xs) := by
  cases nd with
  | text s => obtain ⟨a, e, h⟩ := dp_text h; exact ⟨a, _, e, h⟩
  | shw s => obtain ⟨a, e, h⟩ := dp_shw h; exact ⟨a, _, e, h⟩
  | num => obtain ⟨a, e, h⟩ := dp_num h; exact ⟨a, _, e, h⟩
  | ch pl name cs ot =>
    cases pl with
    | none => obtain ⟨a, c, q, e, h, _⟩ := dp_sel h; exact ⟨a, _, e, h⟩
    | some o => obtain ⟨a, c, q, e, h, _⟩ := dp_plu h; exact ⟨a, _, e, h⟩
end
theorem take_more {α : Type} : ∀ {l : List α} {i : Nat} {x : α}, l[i]? = some x → l.take (i + 1) = l.take i ++ [x]
  | [], i, x, h => by simp at h
  | a :: l, 0, x, h => by
    have e : a = x := Option.some.inj h
    subst e
    rfl
  | a :: l, i + 1, x, h => by
    have ih := take_more (l := l) (i := i) (x := x) h
    show a :: l.take (i + 1) = a :: l.take i ++ [x]
    rw [ih]
    rfl
theorem map_at {α β : Type} {f : α → β} {l : List α} {i : Nat} {y : β} (h : (l.map f)[i]? = some y) : ∃ x, l[i]? = some x ∧ y = f x := by
  rw [List.getElem?_map] at h
  cases e : l[i]? with
  | none => rw [e] at h; cases h
  | some x => rw [e] at h; exact ⟨x, rfl, (Option.some.inj h).symm⟩
theorem lt_of_at {α : Type} {l : List α} {i : Nat} {x : α} (h : l[i]? = some x) : i < l.length := (List.getElem?_eq_some_iff.mp h).1
/-! ## what is asked of a message -/
def chOk (c : Nat) : Prop := c = 10 ∨ (32 ≤ c ∧ c ≤ 126 ∧ c ≠ 37)
def ltr (c : Nat) : Prop := 97 ≤ c ∧ c ≤ 122
def nmOk (n : List Nat) : Prop := 1 ≤ n.length ∧ n.length ≤ 8 ∧ ∀ c ∈ n, ltr c
def cats : List (List Nat) := [[122, 101, 114, 111], [111, 110, 101], [116, 119, 111], [102, 101, 119], [109, 97, 110, 121]]
def kyOk (pl : Bool) : Ky → Prop
  | .num n => pl = true ∧ n ≤ 9
  | .wd w => nmOk w ∧ w ≠ cOther ∧ (pl = true → w ∈ cats)
def ndOk {α : Type} (i : Bool) (P : Bool → α → Prop) : Nd α → Prop
  | .text s => ∀ c ∈ s, chOk c
  | .shw n => nmOk n
  | .num => i = true
  | .ch pl name cs ot => nmOk name ∧ (∀ o, pl = some o → o ≤ 9) ∧ cs.length ≤ 100 ∧ (cs.map (·.1)).Nodup ∧ (∀ c ∈ cs, kyOk pl.isSome c.1 ∧ P (i || pl.isSome) c.2) ∧ P (i || pl.isSome) ot
def ok : (k : Nat) → Bool → Sub k → Prop
  | 0, _, _ => True
  | k + 1, i, m => m.length ≤ 5000 ∧ ∀ nd ∈ m, ndOk i (ok k) nd
theorem okp : ∀ (k : Nat) (i : Bool) (m : Sub k), ok k i m → ok k i (plain k m)
  | 0, _, _, _ => trivial
  | k + 1, i, m, h => by
    have ih := okp k
    obtain ⟨h1, h2⟩ := h
    rw [plain_eq]
    refine ⟨?_, ?_⟩
    · have := fold_len (List.map (Nd.map (plain k)) m) []
      simp only [List.length_map, List.length_nil] at this
      show (List.foldl stp [] (List.map (Nd.map (plain k)) m)).length ≤ 5000
      have h1' : (m : List (Nd (Sub k))).length ≤ 5000 := h1
      omega
    · refine fold_mem (P := ndOk i (ok k)) (fun t s ht hs => ?_) _ _ (fun x hx => ?_) (fun x hx => by simp at hx)
      · intro c hc
        rcases List.mem_append.mp hc with hc | hc
        · exact ht c hc
        · exact hs c hc
      · obtain ⟨y, hy, rfl⟩ := List.mem_map.mp hx
        have hy := h2 y hy
        cases y with
        | ch pl name cs ot =>
          obtain ⟨g1, g2, g3, g4, g5, g6⟩ := hy
          refine ⟨g1, g2, by simpa using g3, by simpa [List.map_map, Function.comp_def] using g4, fun c hc => ?_, ih _ _ g6⟩
          obtain ⟨c0, hc0, rfl⟩ := List.mem_map.mp hc
          exact ⟨(g5 c0 hc0).1, ih _ _ (g5 c0 hc0).2⟩
        | _ => exact hy
end Mw
namespace Mw
open PySem PySem.Spec PyProof.Rows L2
theorem ixN_m1 {α : Type} (l : List α) (x : α) : ixN (l ++ [x]).length (-1) = some l.length := by
  unfold ixN
  rw [if_neg (by omega), if_pos (by simp; omega)]
  simp
  omega
theorem set_last {α : Type} (l : List α) (x y : α) : (l ++ [x]).set l.length y = l ++ [y] := by
  rw [List.set_append_right _ _ (Nat.le_refl _)]
  simp
theorem ite_t {c : Bool} {A B : Prop} (hc : c = true) (h : A) : if c = true then A else B := by
  rw [if_pos hc]; exact h
theorem ite_f {c : Bool} {A B : Prop} (hc : c = false) (h : B) : if c = true then A else B := by
  rw [hc, if_neg Bool.false_ne_true]; exact h
theorem yes_t {σ : L2.St} {H : Hp} {f g : Hp → Prop} (h : f H) : tYes σ H (fun b H3 => if b = true then f H3 else g H3) := by
  show if true = true then f H else g H
  rw [if_pos rfl]; exact h
theorem small_le {n : Nat} (h : n ≤ 100000) : n ≤ sizeLine := Nat.le_trans h (by decide)
theorem small_lt {n : Nat} (h : n ≤ 100000) : n < sizeLine := Nat.lt_of_le_of_lt h (by decide)
end Mw
/-! MwE -/
set_option Elab.async false
set_option linter.all false
set_option maxRecDepth 100000
set_option maxHeartbeats 4000000
namespace Mw
open PySem PySem.Spec PyProof.Rows L2
/-! ## data: no dicts, how deep, how long its repr is -/
theorem clAll : ∀ {l : List PyData}, (∀ x ∈ l, x.canLay0 = true) → PyData.canLayAll0 l = true
  | [], _ => rfl
  | x :: r, h => by
    simp only [PyData.canLayAll0, Bool.and_eq_true]
    exact ⟨h x List.mem_cons_self, clAll fun y hy => h y (List.mem_cons_of_mem _ hy)⟩
theorem depAll {N : Nat} : ∀ {l : List PyData}, (∀ x ∈ l, x.depth ≤ N) → PyData.depthAll l ≤ N
  | [], _ => Nat.zero_le _
  | x :: r, h => by
    simp only [PyData.depthAll]
    exact Nat.max_le.mpr ⟨h x List.mem_cons_self, depAll fun y hy => h y (List.mem_cons_of_mem _ hy)⟩
theorem strOk_S {l : List Nat} (h : ∀ c ∈ l, c < 1114112) : PyData.strOk (S l) = true := by
  unfold PyData.strOk
  rw [← Array.all_toList]
  simp only [List.all_eq_true, decide_eq_true_eq]
  exact h
theorem ltr_lt {c : Nat} (h : ltr c) : c < 1114112 := by unfold ltr at h; omega
theorem ch_lt {c : Nat} (h : chOk c) : c < 1114112 := by unfold chOk at h; omega
theorem nm_lt {n : List Nat} (h : nmOk n) : ∀ c ∈ n, c < 1114112 := fun c hc => ltr_lt (h.2.2 c hc)
theorem nd_lay {α : Type} {f : α → PyData} {P : Bool → α → Prop} {N : Nat} (hP : ∀ i x, P i x → (f x).canLay0 = true ∧ (f x).depth ≤ N) {i : Bool} {nd : Nd α} (h : ndOk i P nd) : (dNd f nd).canLay0 = true ∧ (dNd f nd).depth ≤ N + 3 := by
  have hs : ∀ {x : Str}, PyData.strOk x = true → (PyData.str x).canLay0 = true := fun h => h
  cases nd with
  | text s =>
    refine ⟨?_, ?_⟩
    · show PyData.canLayAll0 [.str "text", .str (S s)] = true
      refine clAll fun x hx => ?_
      rcases List.mem_cons.mp hx with rfl | hx
      · decide +kernel
      · rw [List.mem_singleton.mp hx]
        exact hs (strOk_S fun c hc => ch_lt (h c hc))
    · show PyData.depthAll [.str "text", .str (S s)] + 1 ≤ _
      simp [PyData.depthAll, PyData.depth]
  | shw s =>
    refine ⟨?_, ?_⟩
    · show PyData.canLayAll0 [.str "show", .str (S s)] = true
      refine clAll fun x hx => ?_
      rcases List.mem_cons.mp hx with rfl | hx
      · decide +kernel
      · rw [List.mem_singleton.mp hx]
        exact hs (strOk_S (nm_lt h))
    · show PyData.depthAll [.str "show", .str (S s)] + 1 ≤ _
      simp [PyData.depthAll, PyData.depth]
  | num =>
    refine ⟨show PyData.canLayAll0 [.str "number"] = true by decide +kernel, ?_⟩
    show PyData.depthAll [.str "number"] + 1 ≤ _
    simp [PyData.depthAll, PyData.depth]
  | ch pl name cs ot =>
    obtain ⟨g1, g2, g3, g4, g5, g6⟩ := h
    have hc : ∀ x ∈ cs.map (dCase f), x.canLay0 = true ∧ x.depth ≤ N + 1 := fun x hx => by
      obtain ⟨c, hc, rfl⟩ := List.mem_map.mp hx
      obtain ⟨k1, k2⟩ := g5 c hc
      obtain ⟨p1, p2⟩ := hP _ _ k2
      have kk : (kD c.1).canLay0 = true ∧ (kD c.1).depth = 0 := by
        cases e : c.1 with
        | num n => exact ⟨rfl, rfl⟩
        | wd w =>
          rw [e] at k1
          exact ⟨hs (strOk_S (nm_lt k1.1)), rfl⟩
      refine ⟨?_, ?_⟩
      · show PyData.canLayAll0 [kD c.1, f c.2] = true
        simp only [PyData.canLayAll0, kk.1, p1, Bool.and_self]
      · show PyData.depthAll [kD c.1, f c.2] + 1 ≤ N + 1
        simp only [PyData.depthAll, kk.2]
        omega
    have hl : (PyData.list (cs.map (dCase f))).canLay0 = true ∧ (PyData.list (cs.map (dCase f))).depth ≤ N + 2 := by
      refine ⟨clAll fun x hx => (hc x hx).1, ?_⟩
      show PyData.depthAll _ + 1 ≤ N + 2
      have := depAll (N := N + 1) fun x hx => (hc x hx).2
      omega
    obtain ⟨p1, p2⟩ := hP _ _ g6
    have hn := hs (strOk_S (nm_lt g1))
    cases pl with
    | none =>
      refine ⟨?_, ?_⟩
      · show PyData.canLayAll0 [.str "select", .str (S name), .list (cs.map (dCase f)), f ot] = true
        simp only [PyData.canLayAll0, hn, hl.1, p1, Bool.and_self, Bool.and_true]
        decide +kernel
      · show PyData.depthAll [.str "select", .str (S name), .list (cs.map (dCase f)), f ot] + 1 ≤ N + 3
        simp only [PyData.depthAll]
        have := hl.2
        simp only [PyData.depth] at this ⊢
        omega
    | some o =>
      refine ⟨?_, ?_⟩
      · show PyData.canLayAll0 [.str "plural", .str (S name), .int o, .list (cs.map (dCase f)), f ot] = true
        simp only [PyData.canLayAll0, hn, hl.1, p1, Bool.and_self, Bool.and_true]
        show (PyData.canLay0 (.str "plural") && true) = true
        decide +kernel
      · show PyData.depthAll [.str "plural", .str (S name), .int o, .list (cs.map (dCase f)), f ot] + 1 ≤ N + 3
        simp only [PyData.depthAll]
        have := hl.2
        simp only [PyData.depth] at this ⊢
        omega
theorem dat_lay : ∀ (k : Nat) (i : Bool) (m : Sub k), ok k i m → (dat k m).canLay0 = true ∧ (dat k m).depth ≤ 4 * k
  | 0, _, e, _ => nomatch e
  | k + 1, i, m, h => by
    have ih := dat_lay k
    have hx : ∀ x ∈ m.map (dNd (dat k)), x.canLay0 = true ∧ x.depth ≤ 4 * k + 3 := fun x hx => by
      obtain ⟨nd, hnd, rfl⟩ := List.mem_map.mp hx
      exact nd_lay ih (h.2 nd hnd)
    refine ⟨clAll fun x h => (hx x h).1, ?_⟩
    show PyData.depthAll _ + 1 ≤ _
    have := depAll (N := 4 * k + 3) fun x h => (hx x h).2
    omega
theorem nd_shaped {k : Nat} {i : Bool} {nd : Nd (Sub k)} (hk : k ≤ 10) (h : ndOk i (ok k) nd) : SeqAt.shaped (dNd (dat k) nd) = true := by
  obtain ⟨h1, h2⟩ := nd_lay (fun i x => dat_lay k i x) h
  unfold SeqAt.shaped
  rw [h1, decide_eq_true (by omega)]
  rfl
end Mw
/-! MwD -/
set_option Elab.async false
set_option linter.all false
set_option maxRecDepth 100000
set_option maxHeartbeats 4000000
namespace Mw
open PySem PySem.Spec PyProof.Rows L2
section
variable {P : Program} {w : World} {K : PySem.W.Frag} {mg : Str → Option Value} {base : Heap}
/-! ## plain -/
def spNeg (K : PySem.W.Frag) (j : Int) : Sp := fun vs H Q _ => ∃ (a : Addr) (xs : List V) (v : V), vs = [.ref a] ∧ SqT K H a xs ∧ atI xs j = some v ∧ Q v H
theorem sc_cases_of : FnScope ["node"] ["node"] (defScope s_cases_of) := ⟨rfl, rfl, rfl, by decide +kernel, rfl, by decide +kernel, by decide +kernel⟩
theorem ok_cases_of (T : Tx K mg) : OkF P w K mg base d_cases_of ["node"] 1 (spNeg K (-2)) := by
  refine (okF T 0 (d := d_cases_of) rfl sc_cases_of (fun _ _ _ _ _ _ us hl => match us, hl with | [_], _ => rfl) ⟨rfl, rfl⟩ (fun vs H Q E h => ?_) (fun cdv A outer s H vs Q E hr h => ?_))
  · obtain ⟨a, xs, v, rfl, _⟩ := h; rfl
  · obtain ⟨a, xs, v, rfl, hs, hv, k⟩ := h
    refine ⟨_, (pss_one (ps_ret (pe_ix ix_tup (pv 0) (pe_un un_neg pe_int) (fun _ _ => rfl)))), ?_⟩
    exact ⟨_, rfl, _, rfl, a, xs, _, v, rfl, rfl, hs, hv, k⟩
theorem sc_other_of : FnScope ["node"] ["node"] (defScope s_other_of) := ⟨rfl, rfl, rfl, by decide +kernel, rfl, by decide +kernel, by decide +kernel⟩
theorem ok_other_of (T : Tx K mg) : OkF P w K mg base d_other_of ["node"] 1 (spNeg K (-1)) := by
  refine (okF T 1 (d := d_other_of) rfl sc_other_of (fun _ _ _ _ _ _ us hl => match us, hl with | [_], _ => rfl) ⟨rfl, rfl⟩ (fun vs H Q E h => ?_) (fun cdv A outer s H vs Q E hr h => ?_))
  · obtain ⟨a, xs, v, rfl, _⟩ := h; rfl
  · obtain ⟨a, xs, v, rfl, hs, hv, k⟩ := h
    refine ⟨_, (pss_one (ps_ret (pe_ix ix_tup (pv 0) (pe_un un_neg pe_int) (fun _ _ => rfl)))), ?_⟩
    exact ⟨_, rfl, _, rfl, a, xs, _, v, rfl, rfl, hs, hv, k⟩
def spPlain (K : PySem.W.Frag) (n : Nat) : Sp := fun vs H Q _ => ∃ (F : Fz) (a : Addr) (m : Sub n) (i : Bool), vs = [.ref a] ∧ Dh K F H (.ref a) (dat n m) ∧ Live F H ∧ ok n i m ∧ (fmt n m).length ≤ 4000 ∧
  ∀ r H', Same H H' → Dh K F H' (.ref r) (dat n (plain n m)) → Q (.ref r) H'
def spPlainNode (K : PySem.W.Frag) (n : Nat) : Sp := fun vs H Q _ => ∃ (F : Fz) (a : Addr) (nd : Nd (Sub n)) (i : Bool), vs = [.ref a] ∧ Dh K F H (.ref a) (dNd (dat n) nd) ∧ Live F H ∧ ndOk i (ok n) nd ∧ (fNd (fmt n) nd).length ≤ 4000 ∧
  ∀ r H', Same H H' → Dh K F H' (.ref r) (dNd (dat n) (nd.map (plain n))) → Q (.ref r) H'
theorem fmt_case_le {n : Nat} {pl : Option Nat} {name : List Nat} {cs : List (Ky × Sub n)} {ot : Sub n} {c : Ky × Sub n} (h : c ∈ cs) : (fmt n c.2).length ≤ (fNd (fmt n) (.ch pl name cs ot)).length := by
  have h1 : (fCase (fmt n) c).length ≤ (cs.flatMap (fCase (fmt n))).length := by
    induction cs with
    | nil => simp at h
    | cons c0 r ih =>
      rw [List.flatMap_cons, List.length_append]
      rcases List.mem_cons.mp h with e | e
      · subst e; omega
      · have := ih e; omega
  have h2 : (fmt n c.2).length ≤ (fCase (fmt n) c).length := by simp [fCase]; omega
  simp only [fNd, List.length_append, List.length_cons]
  omega
theorem fmt_ot_le {n : Nat} {pl : Option Nat} {name : List Nat} {cs : List (Ky × Sub n)} {ot : Sub n} : (fmt n ot).length ≤ (fNd (fmt n) (.ch pl name cs ot)).length := by
  simp only [fNd, List.length_append, List.length_cons]
  omega
theorem atI_m2 (l : List V) (c q : V) : atI (l ++ [c, q]) (-2) = some c := by
  have h : ixN (l ++ [c, q]).length (-2) = some l.length := by
    unfold ixN
    rw [if_neg (by omega), if_pos (by simp; omega)]
    simp
    omega
  unfold atI
  rw [h]
  simp
theorem atI_m1 (l : List V) (c q : V) : atI (l ++ [c, q]) (-1) = some q := by
  have e : l ++ [c, q] = (l ++ [c]) ++ [q] := by simp
  rw [e]
  exact atI_last _ _
theorem cut_m2 (l : List V) (c q : V) : cutV (l ++ [c, q]) none (some (-2)) = l := by
  have h : HT.sIx (l ++ [c, q]).length (l ++ [c, q]).length (some (-2)) = l.length := by
    unfold HT.sIx
    dsimp only
    rw [if_pos (by decide)]
    simp
    omega
  unfold cutV
  rw [h, HT.sIx_none]
  simp
theorem six_m2 (l : List V) (c q : V) : HT.sIx (l ++ [c, q]).length (l ++ [c, q]).length (some (-2)) ≠ (l ++ [c, q]).length := by
  unfold HT.sIx
  dsimp only
  rw [if_pos (by decide)]
  simp
  omega
theorem dat_ref {n : Nat} {m : Sub n} {H : Hp} {v : V} {K : PySem.W.Frag} (h : Dp K H v (dat n m)) : ∃ a, v = .ref a := by
  cases n with
  | zero => exact nomatch m
  | succ n =>
    obtain ⟨a, _, e, _⟩ := Dp.lstInv h
    exact ⟨a, e⟩
theorem sc_plain_node : FnScope ["node", "cases", "key", "message"] ["node"] (defScope s_plain_node) := ⟨rfl, rfl, rfl, by decide +kernel, rfl, by decide +kernel, by decide +kernel⟩
theorem ok_plain_node (T : Tx K mg) {n : Nat} (o_plain : OkF P w K mg base d_plain ["message"] (2 * n + 1) (spPlain K n)) : OkF P w K mg base d_plain_node ["node"] (2 * n + 2) (spPlainNode K n) := by
  have o_cases_of : OkF P w K mg base d_cases_of ["node"] 1 (spNeg K (-2)) := ok_cases_of T
  have o_other_of : OkF P w K mg base d_other_of ["node"] 1 (spNeg K (-1)) := ok_other_of T
  refine (okF T 2 (d := d_plain_node) rfl sc_plain_node (fun _ _ _ _ _ _ us hl => match us, hl with | [_], _ => rfl) ⟨rfl, rfl⟩ (fun vs H Q E h => ?_) (fun cdv A outer s H vs Q E hr h => ?_))
  · obtain ⟨F, a, nd, i, rfl, _⟩ := h; rfl
  · obtain ⟨F, a, nd, i, rfl, hd, hl, hk, hz, k⟩ := h
    refine ⟨_, (pss_cons (ps_if (pt_cmpR op_notIn_seq (pe_ix ix_tup (pv 0) pe_int (fun _ _ => rfl)) (pe_gR T.c_CHOICES) rfl)
  (pss_one (ps_ret (pv 0)))
  pss_nil)
  (pss_cons (ps_setLc (i := 1) (own := [("key", 2), ("message", 3)]) (g := gTup K 2 (gCons (gName 2) (gCons (gName 3) gNil))) (tt := tYes) rfl sc_plain_node.nd rfl rfl (sw_true rfl rfl rfl (by decide +kernel)) (pi_list (cg o_cases_of T.g_cases_of (hr.mono (by omega)) (pa_cons (pv 0) pa_nil))) (blkOk_by (N := ["node", "cases", "key", "message"]) (sc := defScope s_plain_node) (by decide +kernel)) (fun _ _ _ _ _ => (pg_tup rfl (pgs_cons (pg_name (i := 2) sc_plain_node.nd rfl (Or.inl rfl)) (pgs_cons (pg_name (i := 3) sc_plain_node.nd rfl (Or.inl rfl)) pgs_nil)))) (fun _ _ _ _ _ => pts_nil) (fun _ _ _ _ _ => (pe_tup (pa_cons (pv 2) (pa_cons (cg o_plain T.g_plain (hr.mono (by omega)) (pa_cons (pv 3) pa_nil)) pa_nil)))))
  (pss_one (ps_ret (pe_op op_catT (pe_slice sl_tup (pv 0) po_none (po_some (pe_un un_neg pe_int))) (pe_tup (pa_cons (pv 1) (pa_cons (cg o_plain T.g_plain (hr.mono (by omega)) (pa_cons (cg o_other_of T.g_other_of (hr.mono (by omega)) (pa_cons (pv 0) pa_nil)) pa_nil)) pa_nil)))))))), ?_⟩
    cases nd with
    | text t =>
      obtain ⟨a', e, hs⟩ := dp_text hd.out
      cases e
      refine ⟨_, rfl, a, _, _, _, rfl, rfl, hs, rfl, _, _, rfl, .inr (T.tupH _), rfl, rfl, _, rfl, ?_⟩
      refine ite_t (by decide +kernel) ?_
      exact ⟨_, rfl, k a H (Same.refl H) hd⟩
    | shw t =>
      obtain ⟨a', e, hs⟩ := dp_shw hd.out
      cases e
      refine ⟨_, rfl, a, _, _, _, rfl, rfl, hs, rfl, _, _, rfl, .inr (T.tupH _), rfl, rfl, _, rfl, ?_⟩
      refine ite_t (by decide +kernel) ?_
      exact ⟨_, rfl, k a H (Same.refl H) hd⟩
    | num =>
      obtain ⟨a', e, hs⟩ := dp_num hd.out
      cases e
      refine ⟨_, rfl, a, _, _, _, rfl, rfl, hs, rfl, _, _, rfl, .inr (T.tupH _), rfl, rfl, _, rfl, ?_⟩
      refine ite_t (by decide +kernel) ?_
      exact ⟨_, rfl, k a H (Same.refl H) hd⟩
    | ch pl name cs ot =>
      have key : ∃ (hd0 : List V) (tag : Str) (c q : V), hd0.length ≤ 2 ∧ SqT K H a (.str tag :: hd0 ++ [c, q]) ∧ (tag = "select" ∨ tag = "plural") ∧ Dh K F H c (.list (cs.map (dCase (dat n)))) ∧ Dh K F H q (dat n ot) ∧
          ∀ (H' : Hp) (p : Addr) (c' q' : V), Dh K F H' c' (.list ((cs.map fun x => (x.1, plain n x.2)).map (dCase (dat n)))) → Dh K F H' q' (dat n (plain n ot)) → F p = false → H' p = some (.tup (.str tag :: hd0 ++ [c', q'])) →
            Dh K F H' (.ref p) (dNd (dat n) ((Nd.ch pl name cs ot).map (plain n))) := by
        cases pl with
        | none =>
          obtain ⟨a', c, q, e, hs, h1, h2⟩ := dp_sel hd
          cases e
          refine ⟨[.str (S name)], "select", c, q, by simp, Same.seqT (Av_same F H) hs, .inl rfl, h1, h2, fun H' p c' q' h3 h4 h5 h6 => ?_⟩
          exact .tup ((Av_get h5).trans h6) (.cons (.str _) (.cons (.str _) (.cons h3 (.cons h4 .nil))))
        | some o =>
          obtain ⟨a', c, q, e, hs, h1, h2⟩ := dp_plu hd
          cases e
          refine ⟨[.str (S name), .int o], "plural", c, q, by simp, Same.seqT (Av_same F H) hs, .inr rfl, h1, h2, fun H' p c' q' h3 h4 h5 h6 => ?_⟩
          exact .tup ((Av_get h5).trans h6) (.cons (.str _) (.cons (.str _) (.cons (.int _) (.cons h3 (.cons h4 .nil)))))
      obtain ⟨hd0, tag, c, q, hlen, hs, ht, hc, hq, mk⟩ := key
      obtain ⟨g1, g2, g3, g4, g5, g6⟩ := hk
      have tin : inV (.str tag) [.str "select", .str "plural"] = true := by rcases ht with rfl | rfl <;> decide +kernel
      refine ⟨_, rfl, a, _, _, _, rfl, rfl, hs, atI_nat (j := 0) rfl, _, _, rfl, .inr (T.tupH _), rfl, rfl, _, rfl, ?_⟩
      refine ite_f (by show (!inV (.str tag) [.str "select", .str "plural"]) = false; rw [tin]; rfl) ?_
      -- cases = [(key, plain(message)) for key, message in cases_of(node)]
      obtain ⟨ca, cvs, rfl, hcs, hca⟩ := Dp.lstInv hc
      have hcs' : SqL K H ca cvs := Same.seq (Av_same F H) hcs
      have ncv : cvs.length = cs.length := by rw [DpAll.len hca, List.length_map]
      refine ⟨_, rfl, a, _, _, rfl, hs, atI_m2 _ _ _, ca, rfl, ⟨_, hcs'⟩, fun D hD => ?_⟩
      refine lc_list (K := K) (a := ca) (xs := cvs) (fun i H' => ∃ vs, H' D = some (.lst vs) ∧ Same H H' ∧ DhA K (add F D) H' vs (((cs.take i).map fun x => (x.1, plain n x.2)).map (dCase (dat n))))
        ⟨[], upd_same, same_new hD _, .nil⟩ (fun i H' _ ⟨_, _, s2, _⟩ => s2.seq hcs') ?_ ?_
      · rintro i x H' hi ⟨vs, hDv, s2, hvs⟩
        obtain ⟨d0, hd1, hd2⟩ := DpAll.at_ hca hi
        obtain ⟨ci, hci, rfl⟩ := map_at hd1
        obtain ⟨t, q0, rfl, hts, hq0⟩ := dp_case hd2
        obtain ⟨qa, rfl⟩ := dat_ref hq0
        have hmem : ci ∈ cs := List.mem_of_getElem? hci
        have il : i < cs.length := lt_of_at hci
        refine ⟨t, _, rfl, s2.seqT (Same.seqT (Av_same F H) hts), rfl, _, _, rfl, _, _, rfl, rfl, rfl, ?_⟩
        refine yes_t ?_
        have lv : Live (add F D) H' := (hl.same s2).add (by rw [hDv]; simp)
        refine ⟨_, rfl, _, rfl, add F D, qa, ci.2, _, rfl, ((show Dh K F H (.ref qa) (dat n ci.2) from hq0).new hD).same s2, lv, (g5 ci hmem).2, Nat.le_trans (fmt_case_le hmem) hz, fun r H2 s3 hr2 => ?_⟩
        refine ⟨by show 2 ≤ sizeLine; decide, fun p hp => ?_⟩
        have hD2 : H2 D = some (.lst vs) := s3 _ _ hDv
        have nDp : D ≠ p := ne_of_none hD2 hp
        have fp : F p = false := ((hl.same s2).same s3).new hp
        have fp2 : add F D p = false := add_no (Ne.symm nDp) fp
        refine ⟨vs, by rw [upd_ne nDp]; exact hD2, small_lt (by have := DpAll.len hvs; simp only [List.length_map, List.length_take] at this; omega), _, upd_same, same_mut ((s2.trans s3).trans (same_new hp _)) hD, ?_⟩
        refine DhA.updF ?_ (add_self _ _)
        have e : ((cs.take (i + 1)).map fun x => (x.1, plain n x.2)).map (dCase (dat n)) = ((cs.take i).map fun x => (x.1, plain n x.2)).map (dCase (dat n)) ++ [dCase (dat n) (ci.1, plain n ci.2)] := by
          rw [take_more hci, List.map_append, List.map_append]
          rfl
        rw [e]
        refine DpAll.snoc ((hvs.same s3).same (same_new hp _)) ?_
        exact .tup ((Av_get fp2).trans upd_same) (.cons (dp_key.mpr rfl) (.cons (hr2.same (same_new hp _)) .nil))
      · rintro H' ⟨vs, hDv, s2, hvs⟩
        have fD : F D = false := hl.new hD
        rw [ncv, List.take_length] at hvs
        -- return node[:-2] + (cases, plain(other_of(node)))
        refine ⟨_, rfl, _, rfl, _, rfl, a, _, rfl, s2.seqT hs, fun hh => six_m2 _ _ _ hh.2, fun p1 hp1 => ?_⟩
        rw [cut_m2]
        have s3 : Same H (upd H' p1 (.tup (.str tag :: hd0))) := s2.trans (same_new hp1 _)
        have hD1 : (upd H' p1 (.tup (.str tag :: hd0))) D = some (.lst vs) := same_new hp1 _ _ _ hDv
        obtain ⟨qa, rfl⟩ := dat_ref hq
        refine ⟨_, rfl, _, rfl, a, _, _, rfl, s3.seqT hs, atI_m1 _ _ _, add F D, qa, ot, _, rfl, (hq.new hD).same s3, (hl.same s3).add (by rw [hD1]; simp), g6, Nat.le_trans fmt_ot_le hz, fun r H2 s4 hr2 => ?_⟩
        refine ⟨by show 2 ≤ sizeLine; decide, fun p2 hp2 => ?_⟩
        have e1 : (upd H2 p2 (.tup [.ref D, .ref r])) p1 = some (.tup (.str tag :: hd0)) := same_new hp2 _ _ _ (s4 _ _ upd_same)
        refine ⟨p1, p2, _, _, rfl, rfl, .inl (.inl e1), .inl (.inl upd_same), by simp, small_le (by simp; omega), fun z => by simp at z, fun _ p3 hp3 => ?_⟩
        have s5 : Same H' (upd (upd H2 p2 (.tup [.ref D, .ref r])) p3 (.tup (.str tag :: hd0 ++ [.ref D, .ref r]))) := (((same_new hp1 _).trans s4).trans (same_new hp2 _)).trans (same_new hp3 _)
        refine k p3 _ (s2.trans s5) (mk _ p3 _ _ ?_ ?_ ?_ upd_same)
        · exact .lst ((Av_get fD).trans (s5 _ _ hDv)) ((hvs.same s5).weak add_sub)
        · exact ((hr2.same (same_new hp2 _)).same (same_new hp3 _)).weak add_sub
        · exact ((((hl.same s3).same s4).same (same_new hp2 _))).new hp3
theorem eqv_first {x y : PyData} {xs ys : List PyData} (h : PyData.eqv x y = false) : PyData.eqv (.tuple (x :: xs)) (.tuple (y :: ys)) = false := by
  simp only [PyData.eqv, PyData.eqvAll, h, Bool.false_and]
theorem sc_plain : FnScope ["message", "found", "node"] ["message"] (defScope s_plain) := ⟨rfl, rfl, rfl, by decide +kernel, rfl, by decide +kernel, by decide +kernel⟩
theorem ok_plain0 (T : Tx K mg) : OkF P w K mg base d_plain ["message"] 1 (spPlain K 0) := by
  refine (okF T 3 (d := d_plain) rfl sc_plain (fun _ _ _ _ _ _ us hl => match us, hl with | [_], _ => rfl) ⟨rfl, rfl⟩ (fun vs H Q E h => ?_) (fun cdv A outer s H vs Q E hr h => ?_))
  · obtain ⟨_, _, m, _⟩ := h; exact nomatch m
  · obtain ⟨_, _, m, _⟩ := h; exact nomatch m
theorem fmt_nd_le {n : Nat} {m : List (Nd (Sub n))} {nd : Nd (Sub n)} (h : nd ∈ m) : (fNd (fmt n) nd).length ≤ (fmt (n + 1) m).length := by
  rw [fmt_eq]
  induction m with
  | nil => simp at h
  | cons c0 r ih =>
    rw [List.flatMap_cons, List.length_append]
    rcases List.mem_cons.mp h with e | e
    · subst e; omega
    · have := ih e; omega
theorem len_fmt_text (s : List Nat) : s.length ≤ (s.flatMap esc).length := by
  induction s with
  | nil => simp
  | cons c r ih =>
    rw [List.flatMap_cons, List.length_append, List.length_cons]
    have : 1 ≤ (esc c).length := by
      unfold esc
      split
      · simp
      · split <;> simp
    omega
theorem ok_plain_step (T : Tx K mg) {n : Nat} (hn : n ≤ 10) (o_plain_node : OkF P w K mg base d_plain_node ["node"] (2 * n + 2) (spPlainNode K n)) : OkF P w K mg base d_plain ["message"] (2 * (n + 1) + 1) (spPlain K (n + 1)) := by
  refine (okF T 3 (d := d_plain) rfl sc_plain (fun _ _ _ _ _ _ us hl => match us, hl with | [_], _ => rfl) ⟨rfl, rfl⟩ (fun vs H Q E h => ?_) (fun cdv A outer s H vs Q E hr h => ?_))
  · obtain ⟨F, a, m, i, rfl, _⟩ := h; rfl
  · obtain ⟨F, a, m, ib, rfl, hd, hl, ⟨hk1, hk⟩, hz, k⟩ := h
    refine ⟨_, (pss_cons (ps_set (i := 1) sc_plain.nd rfl (Or.inl rfl) (pe_lst pa_nil))
  (pss_cons (ps_for PassesOwn.never rfl (pi_list (pv 0)) (pg_name (i := 2) sc_plain.nd rfl (Or.inl rfl))
  (pss_one (ps_if (PW.pt (pw_and (pt_cmpR op_eq (pe_ix ix_tup (pv 2) pe_int (fun _ _ => rfl)) (pe_gS T.c_TEXT) (nomark _)) (pw_and (pt_truth (pv 1) (by intro _; rfl)) (pw_and1 (pt_cmpR op_eq (pe_ix ix_tup (pe_ix ix_list (pv 1) (pe_un un_neg pe_int) (fun _ _ => rfl)) pe_int (fun _ _ => rfl)) (pe_gS T.c_TEXT) (nomark _))))))
  (pss_one (ps_asg (pe_tup (pa_cons (pe_gS T.c_TEXT) (pa_cons (pe_op op_add_str (pe_ix ix_tup (pe_ix ix_list (pv 1) (pe_un un_neg pe_int) (fun _ _ => rfl)) pe_int (fun _ _ => rfl)) (pe_ix ix_tup (pv 2) pe_int (fun _ _ => rfl))) pa_nil))) (pg_sub (pv 1) (pe_un un_neg pe_int) set_list)))
  (pss_one (ps_if (pt_cmpR (op_neD hr.units) (pv 2) (pe_tup (pa_cons (pe_gS T.c_TEXT) (pa_cons pe_str pa_nil))) (nomark _))
  (pss_one (ps_expr (pe_bm PySem.F.plainAttrs_list PySem.F.slot_list_append PySem.F.type_list_append mt_append (pv 1) (pa_cons (cg o_plain_node T.g_plain_node (hr.mono (by omega)) (pa_cons (pv 2) pa_nil)) pa_nil))))
  pss_nil)))))
  (pss_one (ps_ret (pv 1))))), ?_⟩
    have hz0 : ∀ (L : List (Nd (Sub n))) , True := fun _ => trivial
    obtain ⟨a', ms, e, hS, hm⟩ := Dp.lstInv hd
    cases e
    have hS' : SqL K H a ms := Same.seq (Av_same F H) hS
    have nm : ms.length = m.length := by rw [DpAll.len hm, List.length_map]
    refine ⟨Nat.zero_le _, fun p hp => ?_⟩
    refine ⟨_, rfl, a, rfl, ⟨_, (same_new hp _).seq hS'⟩, for_list (K := K) (a := a) (xs := ms) (fun i σ H' => ∃ (vs : List V) (v : Option V), σ = [some (.ref a), some (.ref p), v] ∧ H' p = some (.lst vs) ∧ Same H H' ∧
        DhA K (add F p) H' vs ((((m.take i).map (Nd.map (plain n))).foldl stp []).map (dNd (dat n))))
      ⟨[], none, rfl, upd_same, same_new hp _, .nil⟩ (fun i σ H' _ ⟨_, _, _, _, s2, _⟩ => s2.seq hS') ?_ ?_⟩
    · rintro i x σ H' hi ⟨vs, v, rfl, hpv, s2, hvs⟩
      obtain ⟨d0, hd1, hd2⟩ := DpAll.at_ hm hi
      obtain ⟨nd, hnd, rfl⟩ := map_at hd1
      have hmem : nd ∈ m := List.mem_of_getElem? hnd
      have e : ((m.take (i + 1)).map (Nd.map (plain n))).foldl stp [] = stp (((m.take i).map (Nd.map (plain n))).foldl stp []) (nd.map (plain n)) := by
        rw [take_more hnd, List.map_append, List.foldl_append]
        rfl
      have il : i < m.length := lt_of_at hnd
      have zL : (((m.take i).map (Nd.map (plain n))).foldl stp []).length ≤ 5000 := by
        have := fold_len ((m.take i).map (Nd.map (plain n))) []
        simp only [List.length_map, List.length_nil, List.length_take] at this
        have h1000 : (m : List (Nd (Sub n))).length ≤ 5000 := hk1
        omega
      -- how long the joined texts may be
      have zT : ∀ u, Nd.text u ∈ ((m.take i).map (Nd.map (plain n))).foldl stp [] → u.length ≤ 4000 := fun u hu => by
        have h1 : (fNd (fmt n) (.text u)).length ≤ ((((m.take i).map (Nd.map (plain n))).foldl stp []).flatMap (fNd (fmt n))).length := fmt_nd_le hu
        rw [fmt_fold, List.flatMap_nil, List.nil_append, List.flatMap_map] at h1
        have h2 : ((m.take i).flatMap fun x => fNd (fmt n) (x.map (plain n))).length ≤ (fmt (n + 1) m).length := by
          have e2 : ((m.take i).flatMap fun x => fNd (fmt n) (x.map (plain n))) = (m.take i).flatMap (fNd (fmt n)) := by
            congr 1
            funext x
            rw [fNd_map]
            exact fNd_congr (fmt_plain n) x
          rw [e2, fmt_eq]
          conv => rhs; rw [← List.take_append_drop i m, List.flatMap_append, List.length_append]
          omega
        have h3 := len_fmt_text u
        have h4 : (fNd (fmt n) (.text u)).length = (u.flatMap esc).length := rfl
        omega
      generalize hL : ((m.take i).map (Nd.map (plain n))).foldl stp [] = L at *
      rw [e]
      have lvs : vs.length = L.length := by rw [DpAll.len hvs, List.length_map]
      have lv : Live (add F p) H' := (hl.same s2).add (by rw [hpv]; simp)
      have hnp : p ≠ a → True := fun _ => trivial
      -- the second branch: node != (TEXT, "")
      have elif : ∀ (D : Ends) (u : TS), (nd = .text [] → ∀ H2, Same H' H2 → D.nx [some (.ref a), some (.ref p), some x] H2) → (nd ≠ .text [] → ∀ r H2, Same H' H2 → Dh K (add F p) H2 (.ref r) (dNd (dat n) (nd.map (plain n))) → D.nx [some (.ref a), some (.ref p), some x] (upd H2 p (.lst (vs ++ [.ref r])))) →
          tIfS (tTest (tOp (rNeD K) (tVar 2) (tTup (tCons (tC (.str "text")) (tCons (tC (.str "")) tNil))))) (tDrop (tBM K "list" rAppend (tVar 1) (tCons (tCall (spPlainNode K n) [] E0 (tCons (tVar 2) tNil)) tNil))) tNext D [some (.ref a), some (.ref p), some x] H' := by
        intro D u h1 h2
        obtain ⟨xa, xs, rfl, _⟩ := dp_node hd2
        refine ⟨_, rfl, by show 2 ≤ sizeLine; decide, fun p2 hp2 => ?_⟩
        have s3 : Same H' (upd H' p2 (.tup [.str "text", .str ""])) := same_new hp2 _
        refine ⟨_, .tuple [.str "text", .str ""], (Dh.same (F := F) (show Dh K F H (.ref xa) (dNd (dat n) nd) from hd2) (s2.trans s3)).out |> Dp.to _ _, .tup (.inl (.inl upd_same)) (.cons (.str _) (.cons (.str _) .nil)), nd_shaped hn (hk nd hmem), by decide +kernel, _, rfl, ?_⟩
        by_cases hc : nd = .text []
        · subst hc
          refine ite_f (by show (!PyData.eqvAll [.str "text", .str (S [])] [.str "text", .str ""]) = false; decide +kernel) ?_
          exact h1 rfl _ s3
        · refine ite_t ?_ ?_
          · have : PyData.eqv (dNd (dat n) nd) (.tuple [.str "text", .str ""]) = false := by
              cases nd with
              | text t =>
                show PyData.eqvAll [.str "text", .str (S t)] [.str "text", .str ""] = false
                have ht : t ≠ [] := fun e => hc (by rw [e])
                have hq : (S t == ("" : Str)) = false := by
                  cases q : (S t == ("" : Str)) with
                  | false => rfl
                  | true =>
                    have e : S t = S [] := eq_of_beq q
                    exact absurd (S_inj e) ht
                simp only [PyData.eqvAll, PyData.eqv, hq, Bool.false_and, Bool.and_false]
              | shw t => exact eqv_first (by decide +kernel)
              | num => exact eqv_first (by decide +kernel)
              | ch pl name cs ot =>
                cases pl with
                | none => exact eqv_first (by decide +kernel)
                | some o => exact eqv_first (by decide +kernel)
            rw [this]; rfl
          · have hp3 : (upd H' p2 (.tup [.str "text", .str ""])) p = some (.lst vs) := s3 _ _ hpv
            refine ⟨_, rfl, .inl ⟨rfl, _, SqL.of hp3⟩, _, rfl, add F p, xa, nd, ib, rfl, ?_, lv.same s3, hk nd hmem, ?_, fun r H2 s4 hr2 => ?_⟩
            · exact Dh.same (Dh.new (show Dh K F H (.ref xa) (dNd (dat n) nd) from hd2) hp) (s2.trans s3)
            · exact Nat.le_trans (fmt_nd_le hmem) hz
            · exact ⟨p, vs, _, rfl, rfl, s4 _ _ hp3, small_lt (by omega), h2 hc r H2 (s3.trans s4) hr2⟩
      obtain ⟨xa, xs, rfl, hxs⟩ := dp_node hd2
      have hxs' : SqT K H' xa (.str (tagOf nd) :: xs) := s2.seqT (Same.seqT (Av_same F H) hxs)
      -- what follows the turn
      have fin : ∀ (vs' : List V) (H2 : Hp), H2 p = some (.lst vs') → Same H H2 → DhA K (add F p) H2 vs' ((stp L (nd.map (plain n))).map (dNd (dat n))) →
          ∃ (vs : List V) (v : Option V), [some (.ref a), some (.ref p), some (V.ref xa)] = [some (V.ref a), some (V.ref p), v] ∧ H2 p = some (.lst vs) ∧ Same H H2 ∧ DhA K (add F p) H2 vs ((stp L (nd.map (plain n))).map (dNd (dat n))) := fun vs' H2 h1 h2 h3 => ⟨vs', _, rfl, h1, h2, h3⟩
      have fin1 : nd = .text [] → ∀ H2, Same H' H2 → ∃ (vs : List V) (v : Option V), [some (.ref a), some (.ref p), some (V.ref xa)] = [some (V.ref a), some (V.ref p), v] ∧ H2 p = some (.lst vs) ∧ Same H H2 ∧ DhA K (add F p) H2 vs ((stp L (nd.map (plain n))).map (dNd (dat n))) := fun e1 H2 s3 =>
        fin vs H2 (s3 _ _ hpv) (s2.trans s3) (by rw [e1]; show DhA K (add F p) H2 vs ((stp L (.text [])).map (dNd (dat n))); rw [stp_nil]; exact hvs.same s3)
      have fin2 : stp L (nd.map (plain n)) = L ++ [nd.map (plain n)] → ∀ r H2, Same H' H2 → Dh K (add F p) H2 (.ref r) (dNd (dat n) (nd.map (plain n))) → ∃ (vs' : List V) (v : Option V), [some (.ref a), some (.ref p), some (V.ref xa)] = [some (V.ref a), some (V.ref p), v] ∧ (upd H2 p (.lst (vs ++ [.ref r]))) p = some (.lst vs') ∧ Same H (upd H2 p (.lst (vs ++ [.ref r]))) ∧ DhA K (add F p) (upd H2 p (.lst (vs ++ [.ref r]))) vs' ((stp L (nd.map (plain n))).map (dNd (dat n))) := fun e2 r H2 s3 hr2 =>
        fin _ _ upd_same (same_mut (s2.trans s3) hp) (by rw [e2, List.map_append]; exact DhA.updF (DpAll.snoc (hvs.same s3) hr2) (add_self _ _))
      refine ⟨_, rfl, xa, _, _, _, rfl, rfl, hxs', atI_nat (j := 0) rfl, rfl, _, rfl, ?_⟩
      by_cases hT : ∃ t, nd = .text t
      · obtain ⟨t, rfl⟩ := hT
        refine ite_t (decide_eq_true rfl) ?_
        refine ⟨_, rfl, _, .inl ⟨vs, .inl (.inl hpv), rfl⟩, ?_⟩
        obtain ⟨xa', e', hxt⟩ := dp_text hd2
        cases e'
        have hxt' : SqT K H' xa [.str "text", .str (S t)] := s2.seqT (Same.seqT (Av_same F H) hxt)
        have ht : t.length ≤ 4000 := Nat.le_trans (len_fmt_text t) (Nat.le_trans (fmt_nd_le (n := n) hmem) hz)
        rcases hlast : L.getLast? with _ | y
        · have e0 : L = [] := List.getLast?_eq_none_iff.mp hlast
          have e1 : vs = [] := by rw [e0] at lvs; exact List.length_eq_zero_iff.mp lvs
          refine ite_f (by rw [e1]; rfl) ?_
          refine iteF ?_
          refine elif _ tNext fin1 fun hne => fin2 (stp_text_no (fun u e => by rw [hlast] at e; cases e) (fun e => hne (by rw [e])))
        · have eL := last_split hlast
          have hvs2 := hvs
          rw [eL, List.map_append] at hvs2
          obtain ⟨vs0, v0, ev, hv1, hv2⟩ := DpAll.snocInv hvs2
          refine ite_t (by rw [ev]; simp) ?_
          obtain ⟨la, ls, rfl, hla⟩ := dp_node (Dh.out hv2)
          refine ⟨_, rfl, _, rfl, p, vs, _, .ref la, rfl, rfl, .inl (.inl hpv), by rw [ev]; exact atI_last _ _, _, _, _, _, rfl, rfl, hla, atI_nat (j := 0) rfl, rfl, _, rfl, ?_⟩
          by_cases hu : ∃ u, y = .text u
          · obtain ⟨u, rfl⟩ := hu
            refine ite_t (decide_eq_true rfl) ?_
            obtain ⟨la', e', hlt⟩ := dp_text (Dh.out hv2)
            cases e'
            have hu4 := zT u (List.mem_of_getLast? hlast)
            refine ⟨_, rfl, _, rfl, p, vs, _, .ref la, rfl, rfl, .inl (.inl hpv), by rw [ev]; exact atI_last _ _, _, _, _, _, rfl, rfl, hlt, rfl, _, rfl, xa, _, _, _, rfl, rfl, hxt', rfl, _, _, rfl, rfl, small_le (by rw [S_len, S_len]; omega), by show 2 ≤ sizeLine; decide, fun p2 hp2 => ?_⟩
            have np2 : p ≠ p2 := ne_of_none hpv hp2
            have s3 : Same H' (upd H' p2 (.tup [.str "text", .str (S u ++ S t)])) := same_new hp2 _
            refine ⟨_, rfl, _, rfl, p, vs, _, vs0.length, rfl, rfl, s3 _ _ hpv, by rw [ev]; exact ixN_m1 _ _, ?_⟩
            refine fin _ _ upd_same (same_mut (s2.trans s3) hp) ?_
            refine DhA.updF ?_ (add_self _ _)
            rw [show (Nd.text t : Nd (Sub n)).map (plain n) = .text t from rfl, stp_text_text hlast, ev, set_last, List.map_append]
            refine DpAll.snoc (DhA.same hv1 s3) ?_
            have f2 : add F p p2 = false := add_no (Ne.symm np2) ((hl.same s2).new hp2)
            rw [S_app]
            rw [S_app] at s3
            exact .tup ((Av_get f2).trans upd_same) (.cons (.str _) (.cons (.str _) .nil))
          · refine ite_f ?_ ?_
            · exact decide_eq_false fun e => tag_no hu (V.str.inj e)
            · refine elif _ tNext fin1 fun hne => fin2 (stp_text_no (fun u e => hu ⟨u, by rw [hlast] at e; exact Option.some.inj e⟩) (fun e => hne (by rw [e])))
      · refine ite_f ?_ (iteF ?_)
        · exact decide_eq_false fun e => tag_no hT (V.str.inj e)
        · refine elif _ tNext fin1 fun hne => fin2 ?_
          cases nd with
          | text u => exact absurd ⟨u, rfl⟩ hT
          | _ => rfl
    · rintro σ H' ⟨vs, v, rfl, hpv, s2, hvs⟩
      have fp : F p = false := hl.new hp
      refine ⟨_, rfl, k p H' s2 ?_⟩
      rw [nm, List.take_length] at hvs
      rw [plain_eq, dat_eq]
      exact .lst ((Av_get fp).trans hpv) (hvs.weak add_sub)
theorem ok_plain (T : Tx K mg) : ∀ n : Nat, n ≤ 10 → OkF P w K mg base d_plain ["message"] (2 * n + 1) (spPlain K n)
  | 0, _ => ok_plain0 T
  | n + 1, h => ok_plain_step T (by omega) (ok_plain_node T (ok_plain T n (by omega)))
end
end Mw
/-! MwF -/
set_option Elab.async false
set_option linter.all false
set_option maxRecDepth 100000
set_option maxHeartbeats 4000000
namespace Mw
open PySem PySem.Spec PyProof.Rows L2
/-! ## loops over a text -/
theorem for_S {l : List Nat} {g : TG} {tb : TS} {D : Ends} {σ : L2.St} {H : Hp} (Pv : Nat → L2.St → Hp → Prop) (h0 : Pv 0 σ H)
    (hs : ∀ i c σ H, l[i]? = some c → Pv i σ H → g (.str (S [c])) σ H fun σ2 H2 => tb { D with nx := Pv (i + 1), ct := Pv (i + 1), bk := D.nx } σ2 H2) (hd : ∀ σ H, Pv l.length σ H → D.nx σ H) :
    ∃ W : Nat → Nat → L2.St → Hp → Prop, (∃ m, W 0 m σ H) ∧ ∀ i m σ H, W i m σ H →
      ((Its (S l)).stop i H ∧ D.nx σ H) ∨ ((Its (S l)).go i H ∧ ∃ N : L2.St → Hp → Prop, (∀ σ' H', N σ' H' → ∃ m', m' < m ∧ W (i + 1) m' σ' H') ∧ ∀ x H', (Its (S l)).yld i H x H' → g x σ H' fun σ2 H2 => tb { D with nx := N, ct := N, bk := D.nx } σ2 H2) := by
  refine ⟨fun i m σ H => m = l.length - i ∧ i ≤ l.length ∧ Pv i σ H, ⟨l.length, by simp, Nat.zero_le _, h0⟩, ?_⟩
  rintro i m σ H ⟨rfl, hi, p⟩
  by_cases hlt : i < l.length
  · refine .inr ⟨by show i < (S l).cps.size; simpa using hlt, Pv (i + 1), fun σ' H' p' => ⟨l.length - (i + 1), by omega, rfl, hlt, p'⟩, fun x H' y => ?_⟩
    obtain ⟨e, c, hc, ev⟩ := y
    subst e
    subst ev
    exact hs i c σ _ (by simpa using hc) p
  · have e : i = l.length := by omega
    subst e
    exact .inl ⟨by show (S l).cps.size ≤ _; simp, hd σ H p⟩
theorem lc_S {l : List Nat} {g : TG} {tt : TT} {te : TE} {vs : List Nat} {σ : L2.St} {H1 : Hp} {D : Addr} {Qd : Hp → Prop} (Pv : Nat → Hp → Prop) (h0 : Pv 0 (upd H1 D (.lst [])))
    (hs : ∀ i c H, l[i]? = some c → Pv i H → g (.str (S [c])) (wipe σ vs) H fun σ2 H2 => wipe σ2 vs = wipe σ vs ∧ tt σ2 H2 fun b H3 =>
      if b = true then te σ2 H3 fun y H4 => ∃ acc, H4 D = some (.lst acc) ∧ acc.length < sizeLine ∧ Pv (i + 1) (upd H4 D (.lst (acc ++ [y]))) else Pv (i + 1) H3) (hd : ∀ H, Pv l.length H → Qd H) :
    ∃ W : Nat → Nat → Hp → Prop, (∃ m, W 0 m (upd H1 D (.lst []))) ∧ ∀ i m H, W i m H →
      ((Its (S l)).stop i H ∧ Qd H) ∨ ((Its (S l)).go i H ∧ ∃ Nx : Hp → Prop, (∀ H', Nx H' → ∃ m', m' < m ∧ W (i + 1) m' H') ∧ ∀ x H', (Its (S l)).yld i H x H' → g x (wipe σ vs) H' fun σ2 H2 => wipe σ2 vs = wipe σ vs ∧ tt σ2 H2 fun b H3 =>
        if b = true then te σ2 H3 fun y H4 => ∃ acc, H4 D = some (.lst acc) ∧ acc.length < sizeLine ∧ Nx (upd H4 D (.lst (acc ++ [y]))) else Nx H3) := by
  refine ⟨fun i m H => m = l.length - i ∧ i ≤ l.length ∧ Pv i H, ⟨l.length, by simp, Nat.zero_le _, h0⟩, ?_⟩
  rintro i m H ⟨rfl, hi, p⟩
  by_cases hlt : i < l.length
  · refine .inr ⟨by show i < (S l).cps.size; simpa using hlt, Pv (i + 1), fun H' p' => ⟨l.length - (i + 1), by omega, rfl, hlt, p'⟩, fun x H' y => ?_⟩
    obtain ⟨e, c, hc, ev⟩ := y
    subst e
    subst ev
    exact hs i c _ (by simpa using hc) p
  · have e : i = l.length := by omega
    subst e
    exact .inl ⟨by show (S l).cps.size ≤ _; simp, hd H p⟩
/-! ## the notation, by the program -/
theorem flat_take {α β : Type} {f : α → List β} {l : List α} {i : Nat} {x : α} (h : l[i]? = some x) : (l.take (i + 1)).flatMap f = (l.take i).flatMap f ++ f x := by
  rw [take_more h, List.flatMap_append]
  simp
theorem flat_take_le {α β : Type} (f : α → List β) (l : List α) (i : Nat) : ((l.take i).flatMap f).length ≤ (l.flatMap f).length := by
  conv => rhs; rw [← List.take_append_drop i l, List.flatMap_append, List.length_append]
  omega
section
variable {P : Program} {w : World} {K : PySem.W.Frag} {mg : Str → Option Value} {base : Heap}
def spFText : Sp := fun vs H Q _ => ∃ t : List Nat, vs = [.str (S t)] ∧ (t.flatMap esc).length ≤ 4000 ∧ Q (.str (S (t.flatMap esc))) H
theorem esc_len (c : Nat) : (esc c).length ≤ 3 := by
  unfold esc
  split
  · simp
  · split <;> simp
theorem sc_format_text : FnScope ["text", "found", "sign"] ["text"] (defScope s_format_text) := ⟨rfl, rfl, rfl, by decide +kernel, rfl, by decide +kernel, by decide +kernel⟩
theorem ok_format_text (T : Tx K mg) : OkF P w K mg base d_format_text ["text"] 1 spFText := by
  refine (okF T 9 (d := d_format_text) rfl sc_format_text (fun _ _ _ _ _ _ us hl => match us, hl with | [_], _ => rfl) ⟨rfl, rfl⟩ (fun vs H Q E h => ?_) (fun cdv A outer s H vs Q E hr h => ?_))
  · obtain ⟨t, rfl, _⟩ := h; rfl
  · obtain ⟨t, rfl, hz, k⟩ := h
    refine ⟨_, (pss_cons (ps_set (i := 1) sc_format_text.nd rfl (Or.inl rfl) pe_str)
  (pss_cons (ps_for PassesOwn.never rfl (pi_str (pv 0)) (pg_name (i := 2) sc_format_text.nd rfl (Or.inl rfl))
  (pss_one (ps_if (pt_cmpR op_eq (pv 2) (pe_gS T.c_QUOTE) (nomark _))
  (pss_one (ps_aug (i := 1) sc_format_text.nd rfl (Or.inl rfl) (pe_op op_add_str (pe_gS T.c_QUOTE) (pe_gS T.c_QUOTE)) ip_str))
  (pss_one (ps_if (pt_cmpR op_in_sign (pv 2) (pe_gS T.c_ESCAPED) rfl)
  (pss_one (ps_aug (i := 1) sc_format_text.nd rfl (Or.inl rfl) (pe_op op_add_str (pe_op op_add_str (pe_gS T.c_QUOTE) (pv 2)) (pe_gS T.c_QUOTE)) ip_str))
  (pss_one (ps_aug (i := 1) sc_format_text.nd rfl (Or.inl rfl) (pv 2) ip_str)))))))
  (pss_one (ps_ret (pv 1))))), ?_⟩
    refine ⟨_, rfl, _, rfl, for_S (l := t) (fun i σ H' => ∃ v : Option V, σ = [some (.str (S t)), some (.str (S ((t.take i).flatMap esc))), v] ∧ H' = H) ⟨none, rfl, rfl⟩ ?_ ?_⟩
    · rintro i c σ H' hi ⟨v, rfl, rfl⟩
      have hzi : ((t.take i).flatMap esc).length ≤ 4000 := Nat.le_trans (flat_take_le _ _ _) hz
      have fin : ∀ z : Str, z = S (esc c) → ∃ v : Option V, [some (V.str (S t)), some (V.str (S ((t.take i).flatMap esc) ++ z)), some (V.str (S [c]))] = [some (.str (S t)), some (.str (S ((t.take (i + 1)).flatMap esc))), v] ∧ H' = H' := fun z hz => by
        subst hz
        exact ⟨_, by rw [S_app, ← flat_take hi], rfl⟩
      refine ⟨_, rfl, rfl, _, rfl, ?_⟩
      by_cases h1 : c = 39
      · subst h1
        refine ite_t (by decide +kernel) ?_
        refine ⟨_, rfl, _, _, rfl, rfl, by decide +kernel, _, _, rfl, rfl, small_le (by rw [S_len]; show _ + 2 ≤ _; omega), fin _ (by decide +kernel)⟩
      · refine ite_f (decide_eq_false fun e => h1 ?_) ?_
        · have e1 : S [c] = S [39] := V.str.inj e
          simpa using S_inj e1
        refine ⟨_, rfl, c, _, rfl, rfl, _, rfl, ?_⟩
        by_cases h2 : c = 123 ∨ c = 125 ∨ c = 35
        · have he : esc c = [39, c, 39] := by unfold esc; rw [if_neg h1, if_pos h2]
          refine ite_t (decide_eq_true ?_) ?_
          · show c ∈ [123, 125, 35, 39]
            rcases h2 with rfl | rfl | rfl <;> simp
          refine ⟨_, rfl, _, rfl, _, _, rfl, rfl, ?_, _, _, rfl, rfl, ?_, _, _, rfl, rfl, ?_, fin _ ?_⟩
          · exact small_le (by show 1 + 1 ≤ _; omega)
          · exact small_le (by show 2 + 1 ≤ _; omega)
          · exact small_le (by rw [S_len]; show _ + 3 ≤ _; omega)
          · rw [he]; rfl
        · have he : esc c = [c] := by unfold esc; rw [if_neg h1, if_neg h2]
          refine ite_f (decide_eq_false ?_) ?_
          · show c ∉ [123, 125, 35, 39]
            simp only [List.mem_cons, List.not_mem_nil, or_false]
            omega
          refine ⟨_, rfl, _, rfl, _, _, rfl, rfl, ?_, fin _ ?_⟩
          · exact small_le (by rw [S_len, S_len]; show _ + 1 ≤ _; omega)
          · rw [he]
    · rintro σ H' ⟨v, rfl, rfl⟩
      rw [List.take_length]
      exact ⟨_, rfl, k⟩
def spFKey : Sp := fun vs H Q _ => ∃ (k : Ky), vs = [kW k] ∧ (∀ n, k = .num n → n ≤ 9) ∧ Q (.str (S (fKy k))) H
theorem dig : ∀ n : Nat, n ≤ 9 → ((toString (n : Int) : String) : Str) = S [48 + n] := by
  intro n h
  match n, h with
  | 0, _ | 1, _ | 2, _ | 3, _ | 4, _ | 5, _ | 6, _ | 7, _ | 8, _ | 9, _ => decide +kernel
theorem sc_format_key : FnScope ["key"] ["key"] (defScope s_format_key) := ⟨rfl, rfl, rfl, by decide +kernel, rfl, by decide +kernel, by decide +kernel⟩
theorem ok_format_key (T : Tx K mg) : OkF P w K mg base d_format_key ["key"] 1 spFKey := by
  refine (okF T 10 (d := d_format_key) rfl sc_format_key (fun _ _ _ _ _ _ us hl => match us, hl with | [_], _ => rfl) ⟨rfl, rfl⟩ (fun vs H Q E h => ?_) (fun cdv A outer s H vs Q E hr h => ?_))
  · obtain ⟨t, rfl, _⟩ := h; rfl
  · obtain ⟨ky, rfl, hk, k⟩ := h
    refine ⟨_, (pss_cons (ps_if (pt_val (pe_callB call_isi (by rfl) T.z_isinstance (by decide +kernel) (pa_cons (pv 0) (pa_cons (pe_bltn (v := .ty "int") (u := .type "int") (by rfl) T.z_int (by decide +kernel) rfl) pa_nil))))
  (pss_one (ps_ret (pe_op op_add_str pe_str (pe_callTy call_str_key (by rfl) T.z_str (by decide +kernel) (pa_cons (pv 0) pa_nil)))))
  pss_nil)
  (pss_one (ps_ret (pv 0)))), ?_⟩
    cases ky with
    | num n =>
      refine ⟨_, rfl, _, .ty "int", .type "int", .type "int", true, rfl, ?_, .base (.int _), kit_ty (by decide +kernel), _, rfl, ?_⟩
      · first | exact .ty _ | exact rfl | constructor
      · refine iteT ?_
        have hn : n ≤ 9 := hk n rfl
        refine ⟨_, rfl, .inl ⟨_, rfl, ?_, _, _, rfl, rfl, ?_, ?_⟩⟩
        · have := Nat.log2_le_self n
          show Nat.log2 n < 1920
          omega
        · rw [dig n hn, S_len]
          exact small_le (by show 1 + 1 ≤ _; omega)
        · rw [dig n hn]
          exact k
    | wd w =>
      refine ⟨_, rfl, _, .ty "int", .type "str", .type "int", false, rfl, ?_, .base (.str _), kit_ty (by decide +kernel), _, rfl, ?_⟩
      · first | exact .ty _ | exact rfl | constructor
      · refine iteF ?_
        exact ⟨_, rfl, k⟩
/-! joined texts -/
def jn (sep : List Nat) : List (List Nat) → List Nat
  | [] => []
  | [x] => x
  | x :: y :: r => x ++ sep ++ jn sep (y :: r)
theorem join_S (sep : List Nat) : ∀ ls : List (List Nat), Txt.join (S sep) (ls.map S) = S (jn sep ls)
  | [] => by rw [TL.join_eq]; rfl
  | [x] => by rw [TL.join_eq]; rfl
  | x :: y :: r => by
    have ih := join_S sep (y :: r)
    rw [TL.join_eq] at ih ⊢
    show S x ++ S sep ++ Str.join (S sep) ((y :: r).map S) = _
    rw [ih, S_app, S_app]
    rfl
theorem jn_nil : ∀ ls : List (List Nat), jn [] ls = ls.flatten
  | [] => rfl
  | [x] => by simp [jn]
  | x :: y :: r => by
    have ih := jn_nil (y :: r)
    show x ++ [] ++ jn [] (y :: r) = _
    rw [ih]
    simp
theorem jn_snoc (sep x : List Nat) : ∀ ls : List (List Nat), jn sep (ls ++ [x]) = ls.flatMap (fun l => l ++ sep) ++ x
  | [] => by simp [jn]
  | [y] => by simp [jn]
  | y :: z :: r => by
    have ih := jn_snoc sep x (z :: r)
    show y ++ sep ++ jn sep ((z :: r) ++ [x]) = _
    rw [ih]
    simp
theorem jn_len (sep : List Nat) : ∀ ls : List (List Nat), (jn sep ls).length ≤ (ls.map List.length).sum + ls.length * sep.length
  | [] => by simp [jn]
  | [x] => by simp [jn]
  | x :: y :: r => by
    have ih := jn_len sep (y :: r)
    show (x ++ sep ++ jn sep (y :: r)).length ≤ _
    simp only [List.length_append, List.map_cons, List.sum_cons, List.length_cons, Nat.add_mul] at ih ⊢
    omega
def spFMsg (K : PySem.W.Frag) (n : Nat) : Sp := fun vs H Q _ => ∃ (a : Addr) (m : Sub n) (i : Bool), vs = [.ref a] ∧ Dp K H (.ref a) (dat n m) ∧ ok n i m ∧ (fmt n m).length ≤ 4000 ∧ ∀ H', Same H H' → Q (.str (S (fmt n m))) H'
def spFNode (K : PySem.W.Frag) (n : Nat) : Sp := fun vs H Q _ => ∃ (a : Addr) (nd : Nd (Sub n)) (i : Bool), vs = [.ref a] ∧ Dp K H (.ref a) (dNd (dat n) nd) ∧ ndOk i (ok n) nd ∧ (fNd (fmt n) nd).length ≤ 4000 ∧ ∀ H', Same H H' → Q (.str (S (fNd (fmt n) nd))) H'
def spFChoice (K : PySem.W.Frag) (n : Nat) : Sp := fun vs H Q _ => ∃ (a : Addr) (pl : Option Nat) (name : List Nat) (cs : List (Ky × Sub n)) (ot : Sub n) (i : Bool), vs = [.ref a] ∧ Dp K H (.ref a) (dNd (dat n) (.ch pl name cs ot)) ∧ ndOk i (ok n) (.ch pl name cs ot) ∧
  (fNd (fmt n) (.ch pl name cs ot)).length ≤ 4000 ∧ ∀ H', Same H H' → Q (.str (S (fNd (fmt n) (.ch pl name cs ot)))) H'
theorem sc_format_message : FnScope ["message", "node"] ["message"] (defScope s_format_message) := ⟨rfl, rfl, rfl, by decide +kernel, rfl, by decide +kernel, by decide +kernel⟩
theorem ok_format_message0 (T : Tx K mg) : OkF P w K mg base d_format_message ["message"] 1 (spFMsg K 0) := by
  refine (okF T 13 (d := d_format_message) rfl sc_format_message (fun _ _ _ _ _ _ us hl => match us, hl with | [_], _ => rfl) ⟨rfl, rfl⟩ (fun vs H Q E h => ?_) (fun cdv A outer s H vs Q E hr h => ?_))
  · obtain ⟨_, m, _⟩ := h; exact nomatch m
  · obtain ⟨_, m, _⟩ := h; exact nomatch m
theorem sum_map_len {α : Type} (f : α → List Nat) (l : List α) : ((l.map f).map List.length).sum = (l.flatMap f).length := by
  rw [List.length_flatMap, List.map_map]
  rfl
theorem ok_format_message_step (T : Tx K mg) {n : Nat} (o_format_node : OkF P w K mg base d_format_node ["node"] (3 * n + 3) (spFNode K n)) : OkF P w K mg base d_format_message ["message"] (3 * (n + 1) + 1) (spFMsg K (n + 1)) := by
  refine (okF T 13 (d := d_format_message) rfl sc_format_message (fun _ _ _ _ _ _ us hl => match us, hl with | [_], _ => rfl) ⟨rfl, rfl⟩ (fun vs H Q E h => ?_) (fun cdv A outer s H vs Q E hr h => ?_))
  · obtain ⟨a, m, i, rfl, _⟩ := h; rfl
  · obtain ⟨a, m, ib, rfl, hd, ⟨hk1, hk⟩, hz, k⟩ := h
    refine ⟨_, (pss_one (ps_ret (pe_join pe_str (pe_lc (own := [("node", 1)]) (g := gName 1) (tt := tYes) rfl sc_format_message.nd (pi_list (pv 0)) (blkOk_by (N := ["message", "node"]) (sc := defScope s_format_message) (by decide +kernel)) (fun _ _ _ _ _ => (pg_name (i := 1) sc_format_message.nd rfl (Or.inl rfl))) (fun _ _ _ _ _ => pts_nil) (fun _ _ _ _ _ => (cg o_format_node T.g_format_node (hr.mono (by omega)) (pa_cons (pv 1) pa_nil))))))), ?_⟩
    obtain ⟨a', ms, e, hS, hm⟩ := Dp.lstInv hd
    cases e
    have nm : ms.length = m.length := by rw [DpAll.len hm, List.length_map]
    refine ⟨⟨_, rfl⟩, _, rfl, a, rfl, ⟨_, hS⟩, fun D hD => ?_⟩
    refine lc_list (K := K) (a := a) (xs := ms) (fun i H' => H' D = some (.lst (((m.take i).map (fNd (fmt n))).map fun l => V.str (S l))) ∧ Same H H') ⟨upd_same, same_new hD _⟩ (fun i H' _ p => p.2.seq hS) ?_ ?_
    · rintro i x H' hi ⟨hDv, s2⟩
      obtain ⟨d0, hd1, hd2⟩ := DpAll.at_ hm hi
      obtain ⟨nd, hnd, rfl⟩ := map_at hd1
      have hmem : nd ∈ m := List.mem_of_getElem? hnd
      obtain ⟨xa, xs, rfl, _⟩ := dp_node hd2
      refine ⟨rfl, yes_t ?_⟩
      refine ⟨_, rfl, xa, nd, ib, rfl, Dp.same s2 _ _ hd2, hk nd hmem, Nat.le_trans (fmt_nd_le hmem) hz, fun H2 s3 => ?_⟩
      refine ⟨_, s3 _ _ hDv, small_lt ?_, ?_, same_mut (s2.trans s3) hD⟩
      · simp only [List.length_map, List.length_take]
        have h1000 : (m : List (Nd (Sub n))).length ≤ 5000 := hk1
        omega
      · rw [upd_same, take_more hnd]
        simp
    · rintro H' ⟨hDv, s2⟩
      rw [nm, List.take_length] at hDv
      have ej : Txt.join ("" : Str) ((m.map (fNd (fmt n))).map S) = S (fmt (n + 1) m) := by
        show Txt.join (S []) _ = _
        rw [join_S, jn_nil, fmt_eq]
        rw [List.flatMap_def]
      refine ⟨_, D, (m.map (fNd (fmt n))).map S, rfl, rfl, .inl (.inl (.inl (by rw [hDv]; simp [List.map_map, Function.comp_def]))), ?_, ?_⟩
      · have e1 : (((m.map (fNd (fmt n))).map S).map (·.length)).sum = (fmt (n + 1) m).length := by
          rw [List.map_map]
          have : ((fun x : Str => x.length) ∘ S) = List.length := by funext l; exact S_len l
          rw [this, sum_map_len, fmt_eq]
        rw [e1]
        show _ + _ * 0 ≤ _
        omega
      · rw [ej]
        exact k H' s2
theorem sc_format_node : FnScope ["node"] ["node"] (defScope s_format_node) := ⟨rfl, rfl, rfl, by decide +kernel, rfl, by decide +kernel, by decide +kernel⟩
theorem ok_format_node (T : Tx K mg) {n : Nat} (o_format_choice : OkF P w K mg base d_format_choice ["node"] (3 * n + 2) (spFChoice K n)) : OkF P w K mg base d_format_node ["node"] (3 * n + 3) (spFNode K n) := by
  have o_format_text : OkF P w K mg base d_format_text ["text"] 1 spFText := ok_format_text T
  refine (okF T 12 (d := d_format_node) rfl sc_format_node (fun _ _ _ _ _ _ us hl => match us, hl with | [_], _ => rfl) ⟨rfl, rfl⟩ (fun vs H Q E h => ?_) (fun cdv A outer s H vs Q E hr h => ?_))
  · obtain ⟨a, nd, i, rfl, _⟩ := h; rfl
  · obtain ⟨a, nd, ib, rfl, hd, hk, hz, k⟩ := h
    refine ⟨_, (pss_cons (ps_if (pt_cmpR op_eq (pe_ix ix_tup (pv 0) pe_int (fun _ _ => rfl)) (pe_gS T.c_TEXT) (nomark _))
  (pss_one (ps_ret (cg o_format_text T.g_format_text (hr.mono (by omega)) (pa_cons (pe_ix ix_tup (pv 0) pe_int (fun _ _ => rfl)) pa_nil))))
  pss_nil)
  (pss_cons (ps_if (pt_cmpR op_eq (pe_ix ix_tup (pv 0) pe_int (fun _ _ => rfl)) (pe_gS T.c_SHOW) (nomark _))
  (pss_one (ps_ret (pe_op op_add_str (pe_op op_add_str pe_str (pe_ix ix_tup (pv 0) pe_int (fun _ _ => rfl))) pe_str)))
  pss_nil)
  (pss_cons (ps_if (pt_cmpR op_eq (pe_ix ix_tup (pv 0) pe_int (fun _ _ => rfl)) (pe_gS T.c_NUMBER) (nomark _))
  (pss_one (ps_ret pe_str))
  pss_nil)
  (pss_one (ps_ret (cg o_format_choice T.g_format_choice (hr.mono (by omega)) (pa_cons (pv 0) pa_nil))))))), ?_⟩
    obtain ⟨a', xs, e, hs⟩ := dp_node hd
    cases e
    refine ⟨_, rfl, a, _, _, _, rfl, rfl, hs, atI_nat (j := 0) rfl, rfl, _, rfl, ?_⟩
    cases nd with
    | text t =>
      refine ite_t (decide_eq_true rfl) ?_
      obtain ⟨a', e, hs⟩ := dp_text hd
      cases e
      exact ⟨_, rfl, a, _, _, _, rfl, rfl, hs, rfl, t, rfl, hz, k H (Same.refl H)⟩
    | shw t =>
      refine ite_f (decide_eq_false fun e => tag_no (nd := (Nd.shw t : Nd (Sub n))) (fun ⟨_, z⟩ => nomatch z) (V.str.inj e)) ?_
      refine ⟨_, rfl, a, _, _, _, rfl, rfl, hs, atI_nat (j := 0) rfl, rfl, _, rfl, ?_⟩
      refine ite_t (decide_eq_true rfl) ?_
      obtain ⟨a', e, hs⟩ := dp_shw hd
      cases e
      have hl : t.length ≤ 8 := hk.2.1
      refine ⟨_, rfl, a, _, _, _, rfl, rfl, hs, rfl, _, _, rfl, rfl, small_le (by show 1 + (S t).length ≤ _; rw [S_len]; omega), _, _, rfl, rfl, small_le ?_, ?_⟩
      · rw [show (("{" : Str) ++ S t) = S (123 :: t) from S_app [123] t, S_len]
        show _ + 1 + 1 ≤ _
        omega
      · have e : (("{" : Str) ++ S t ++ ("}" : Str)) = S (fNd (fmt n) (.shw t)) := by
          show S [123] ++ S t ++ S [125] = _
          rw [S_app, S_app]
          rfl
        rw [e]
        exact k H (Same.refl H)
    | num =>
      refine ite_f (decide_eq_false fun e => tag_no (nd := (Nd.num : Nd (Sub n))) (fun ⟨_, z⟩ => nomatch z) (V.str.inj e)) ?_
      refine ⟨_, rfl, a, _, _, _, rfl, rfl, hs, atI_nat (j := 0) rfl, rfl, _, rfl, ?_⟩
      refine ite_f (show decide (V.str "number" = V.str "show") = false by decide +kernel) ?_
      refine ⟨_, rfl, a, _, _, _, rfl, rfl, hs, atI_nat (j := 0) rfl, rfl, _, rfl, ?_⟩
      refine ite_t (decide_eq_true rfl) ?_
      exact k H (Same.refl H)
    | ch pl name cs ot =>
      refine ite_f (decide_eq_false fun e => tag_no (nd := (Nd.ch pl name cs ot : Nd (Sub n))) (fun ⟨_, z⟩ => nomatch z) (V.str.inj e)) ?_
      have t1 : ∀ z : Str, z = "show" ∨ z = "number" → decide (V.str (tagOf (Nd.ch pl name cs ot : Nd (Sub n))) = V.str z) = false := fun z hq => by
        cases pl with
        | none => rcases hq with rfl | rfl <;> (show decide (V.str "select" = V.str _) = false; decide +kernel)
        | some o => rcases hq with rfl | rfl <;> (show decide (V.str "plural" = V.str _) = false; decide +kernel)
      refine ⟨_, rfl, a, _, _, _, rfl, rfl, hs, atI_nat (j := 0) rfl, rfl, _, rfl, ?_⟩
      refine ite_f (t1 _ (.inl rfl)) ?_
      refine ⟨_, rfl, a, _, _, _, rfl, rfl, hs, atI_nat (j := 0) rfl, rfl, _, rfl, ?_⟩
      refine ite_f (t1 _ (.inr rfl)) ?_
      exact ⟨_, rfl, a, pl, name, cs, ot, ib, rfl, hd, hk, hz, k⟩
/-- the words of a choice -/
def wrd {n : Nat} (c : Ky × Sub n) : List Nat := fKy c.1 ++ [32, 123] ++ fmt n c.2 ++ [125]
def ofw : Option Nat → List (List Nat)
  | none => []
  | some o => if o = 0 then [] else [cOffset ++ [48 + o]]
theorem words_fmt {n : Nat} (pl : Option Nat) (name : List Nat) (cs : List (Ky × Sub n)) (ot : Sub n) :
    123 :: name ++ [44, 32] ++ cKind pl ++ [44, 32] ++ jn [32] (ofw pl ++ (cs ++ [(Ky.wd cOther, ot)]).map wrd) ++ [125] = fNd (fmt n) (.ch pl name cs ot) := by
  have e1 : ofw pl ++ (cs ++ [(Ky.wd cOther, ot)]).map wrd = (ofw pl ++ cs.map wrd) ++ [wrd (Ky.wd cOther, ot)] := by simp
  have e2 : (ofw pl).flatMap (fun l => l ++ [32]) = fOff pl := by
    cases pl with
    | none => rfl
    | some o =>
      unfold ofw fOff
      by_cases h : o = 0
      · simp [h]
      · simp [h]
  have e3 : (cs.map wrd).flatMap (fun l => l ++ [32]) = cs.flatMap (fCase (fmt n)) := by
    rw [List.flatMap_map]
    congr 1
    funext c
    simp [wrd, fCase]
  rw [e1, jn_snoc, List.flatMap_append, e2, e3]
  simp [fNd, wrd, fKy]
theorem words_len {n : Nat} {pl : Option Nat} {name : List Nat} {cs : List (Ky × Sub n)} {ot : Sub n} (h : (fNd (fmt n) (.ch pl name cs ot)).length ≤ 4000) :
    (jn [32] (ofw pl ++ (cs ++ [(Ky.wd cOther, ot)]).map wrd)).length + name.length ≤ 4000 ∧ ((ofw pl ++ (cs ++ [(Ky.wd cOther, ot)]).map wrd).map List.length).sum ≤ 4000 := by
  rw [← words_fmt] at h
  simp only [List.length_append, List.length_cons] at h
  refine ⟨by omega, ?_⟩
  have h2 : ∀ ls : List (List Nat), (ls.map List.length).sum ≤ (jn [32] ls).length := by
    intro ls
    induction ls with
    | nil => simp [jn]
    | cons x r ih =>
      cases r with
      | nil => simp [jn]
      | cons y r =>
        show x.length + ((y :: r).map List.length).sum ≤ (x ++ [32] ++ jn [32] (y :: r)).length
        rw [List.length_append, List.length_append]
        omega
  have := h2 (ofw pl ++ (cs ++ [(Ky.wd cOther, ot)]).map wrd)
  omega
theorem mem_sum {l : List Nat} {x : Nat} (h : x ∈ l) : x ≤ l.sum := by
  induction l with
  | nil => simp at h
  | cons y r ih =>
    rw [List.sum_cons]
    rcases List.mem_cons.mp h with e | e
    · omega
    · have := ih e; omega
theorem sc_format_choice : FnScope ["node", "words", "key", "message"] ["node"] (defScope s_format_choice) := ⟨rfl, rfl, rfl, by decide +kernel, rfl, by decide +kernel, by decide +kernel⟩
theorem ok_format_choice (T : Tx K mg) {n : Nat} (o_format_message : OkF P w K mg base d_format_message ["message"] (3 * n + 1) (spFMsg K n)) : OkF P w K mg base d_format_choice ["node"] (3 * n + 2) (spFChoice K n) := by
  have o_format_key : OkF P w K mg base d_format_key ["key"] 1 spFKey := ok_format_key T
  have o_cases_of : OkF P w K mg base d_cases_of ["node"] 1 (spNeg K (-2)) := ok_cases_of T
  have o_other_of : OkF P w K mg base d_other_of ["node"] 1 (spNeg K (-1)) := ok_other_of T
  refine (okF T 11 (d := d_format_choice) rfl sc_format_choice (fun _ _ _ _ _ _ us hl => match us, hl with | [_], _ => rfl) ⟨rfl, rfl⟩ (fun vs H Q E h => ?_) (fun cdv A outer s H vs Q E hr h => ?_))
  · obtain ⟨a, pl, name, cs, ot, i, rfl, _⟩ := h; rfl
  · obtain ⟨a, pl, name, cs, ot, ib, rfl, hd, hk, hz, k⟩ := h
    refine ⟨_, (pss_cons (ps_set (i := 1) sc_format_choice.nd rfl (Or.inl rfl) (pe_lst pa_nil))
  (Evl.pss_cut (ps_if (PW.pt (pw_and (pt_cmpR op_eq (pe_ix ix_tup (pv 0) pe_int (fun _ _ => rfl)) (pe_gS T.c_PLURAL) (nomark _)) (pw_and1 (pt_cmpR op_gt (pe_ix ix_tup (pv 0) pe_int (fun _ _ => rfl)) pe_int (nomark _)))))
  (pss_one (ps_expr (pe_bm PySem.F.plainAttrs_list PySem.F.slot_list_append PySem.F.type_list_append mt_append (pv 1) (pa_cons (pe_op op_add_str (pe_gS T.c_OFFSET) (pe_callTy call_str_int (by rfl) T.z_str (by decide +kernel) (pa_cons (pe_ix ix_tup (pv 0) pe_int (fun _ _ => rfl)) pa_nil))) pa_nil))))
  pss_nil)
  (pss_cons (ps_for PassesOwn.never rfl (pi_list (pe_op op_cat (cg o_cases_of T.g_cases_of (hr.mono (by omega)) (pa_cons (pv 0) pa_nil)) (pe_lst (pa_cons (pe_tup (pa_cons (pe_gS T.c_OTHER) (pa_cons (cg o_other_of T.g_other_of (hr.mono (by omega)) (pa_cons (pv 0) pa_nil)) pa_nil))) pa_nil)))) (pg_tup rfl (pgs_cons (pg_name (i := 2) sc_format_choice.nd rfl (Or.inl rfl)) (pgs_cons (pg_name (i := 3) sc_format_choice.nd rfl (Or.inl rfl)) pgs_nil)))
  (pss_one (ps_expr (pe_bm PySem.F.plainAttrs_list PySem.F.slot_list_append PySem.F.type_list_append mt_append (pv 1) (pa_cons (pe_op op_add_str (pe_op op_add_str (pe_op op_add_str (cg o_format_key T.g_format_key (hr.mono (by omega)) (pa_cons (pv 2) pa_nil)) pe_str) (cg o_format_message T.g_format_message (hr.mono (by omega)) (pa_cons (pv 3) pa_nil))) pe_str) pa_nil)))))
  (pss_one (ps_ret (pe_op op_add_str (pe_op op_add_str (pe_op op_add_str (pe_op op_add_str (pe_op op_add_str (pe_op op_add_str pe_str (pe_ix ix_tup (pv 0) pe_int (fun _ _ => rfl))) pe_str) (pe_ix ix_tup (pv 0) pe_int (fun _ _ => rfl))) pe_str) (pe_join pe_str (pv 1))) pe_str)))))), ?_⟩
    obtain ⟨g1, g2, g3, g4, g5, g6⟩ := hk
    obtain ⟨zj, zs⟩ := words_len hz
    have key : ∃ (mid : List V) (tag : List Nat) (ca : Addr) (cvs : List V) (qa : Addr), H a = some (.tup (.str (S tag) :: .str (S name) :: mid ++ [.ref ca, .ref qa])) ∧ cKind pl = tag ∧ H ca = some (.lst cvs) ∧ DpAll K H cvs (cs.map (dCase (dat n))) ∧ Dp K H (.ref qa) (dat n ot) ∧ (∀ o, pl = some o → mid = [.int o]) := by
      cases pl with
      | none =>
        obtain ⟨a', xs, e, h1, h2⟩ := Dp.tupGet hd
        cases e
        cases h2 with
        | cons p1 p2 => cases p2 with
          | cons p3 p4 => cases p4 with
            | cons p5 p6 => cases p6 with
              | cons p7 p8 =>
                cases p8; cases p1; cases p3
                obtain ⟨ca, cvs, rfl, h3, h4⟩ := Dp.lstGet p5
                obtain ⟨qa, rfl⟩ := dat_ref p7
                exact ⟨[], cSelect, ca, cvs, qa, h1, rfl, h3, h4, p7, fun o e => by cases e⟩
      | some o =>
        obtain ⟨a', xs, e, h1, h2⟩ := Dp.tupGet hd
        cases e
        cases h2 with
        | cons p1 p2 => cases p2 with
          | cons p3 p4 => cases p4 with
            | cons p5 p6 => cases p6 with
              | cons p7 p8 => cases p8 with
                | cons p9 p10 =>
                  cases p10; cases p1; cases p3; cases p5
                  obtain ⟨ca, cvs, rfl, h3, h4⟩ := Dp.lstGet p7
                  obtain ⟨qa, rfl⟩ := dat_ref p9
                  exact ⟨[.int o], cPlural, ca, cvs, qa, h1, rfl, h3, h4, p9, fun o' e => by cases e; rfl⟩
    obtain ⟨mid, tag, ca, cvs, qa, hs, htag, hca, hcv, hq, hmid⟩ := key
    have lcv : cvs.length = cs.length := by rw [DpAll.len hcv, List.length_map]
    refine ⟨Nat.zero_le _, fun p hp => ?_⟩
    have npa : p ≠ a := fun e => by rw [e, hs] at hp; cases hp
    refine ⟨fun σ H' => σ = [some (.ref a), some (.ref p), none, none] ∧ H' p = some (.lst ((ofw pl).map fun l => V.str (S l))) ∧ Same H H', ?_, ?_⟩
    · -- if node[0] == PLURAL and node[2] > 0
      refine ⟨_, rfl, a, _, _, _, rfl, rfl, SqT.of ((same_new hp _) _ _ hs), atI_nat (j := 0) rfl, rfl, _, rfl, ?_⟩
      cases pl with
      | none =>
        have e : tag = cSelect := htag.symm
        subst e
        refine ite_f (by decide +kernel) (iteF ?_)
        exact ⟨rfl, upd_same, same_new hp _⟩
      | some o =>
        have e : tag = cPlural := htag.symm
        subst e
        have em := hmid o rfl
        subst em
        have ho : o ≤ 9 := g2 o rfl
        refine ite_t (by decide +kernel) ?_
        refine ⟨_, rfl, a, _, _, _, rfl, rfl, SqT.of ((same_new hp _) _ _ hs), rfl, _, _, rfl, rfl, _, rfl, ?_⟩
        by_cases h0 : o = 0
        · subst h0
          refine ite_f (by decide +kernel) ?_
          exact ⟨rfl, upd_same, same_new hp _⟩
        · refine ite_t (decide_eq_true (by omega)) ?_
          refine ⟨_, rfl, .inl ⟨rfl, _, SqL.of upd_same⟩, _, rfl, a, _, _, _, rfl, rfl, SqT.of ((same_new hp _) _ _ hs), rfl, _, rfl, ?_, _, _, rfl, rfl, ?_, p, _, _, rfl, rfl, upd_same, by decide, ?_⟩
          · have := Nat.log2_le_self o
            show Nat.log2 o < 1920
            omega
          · rw [dig o ho, S_len]
            exact small_le (by show 7 + 1 ≤ _; omega)
          · refine ⟨rfl, ?_, same_mut (same_new hp _) hp⟩
            rw [upd_same, dig o ho]
            have e : ofw (some o) = [cOffset ++ [48 + o]] := if_neg h0
            rw [e]
            show some (HO.lst [V.str (S cOffset ++ S [48 + o])]) = _
            rw [S_app]
            rfl
    · rintro σ H' ⟨rfl, hpv, s1⟩
      generalize hF : add (fun _ => false) p = F1
      have fp : F1 p = true := by rw [← hF]; exact add_self _ _
      have fn : ∀ b, b ≠ p → F1 b = false := fun b hb => by rw [← hF]; exact add_no hb rfl
      have av : Same H (Av F1 H') := fun b o e => by rw [Av_get (fn b (ne_of_none e hp))]; exact s1 b o e
      refine ⟨_, rfl, a, _, _, rfl, SqT.of (s1 _ _ hs), atI_m2 _ _ _, _, rfl, a, _, _, rfl, SqT.of (s1 _ _ hs), atI_m1 _ _ _, by show 2 ≤ sizeLine; decide, fun t ht => ⟨by show 1 ≤ sizeLine; decide, fun l hl => ?_⟩⟩
      have s2 : Same H' (upd (upd H' t (.tup [.str "other", .ref qa])) l (.lst [.ref t])) := (same_new ht _).trans (same_new hl _)
      refine ⟨ca, l, cvs, [.ref t], rfl, rfl, s2 _ _ (s1 _ _ hca), upd_same, small_le (by rw [lcv]; simp; omega), fun p2 hp2 => ?_⟩
      generalize hH3 : upd (upd (upd H' t (.tup [.str "other", .ref qa])) l (.lst [.ref t])) p2 (.lst (cvs ++ [.ref t])) = H3
      have s3 : Same H' H3 := by rw [← hH3]; exact s2.trans (same_new hp2 _)
      have ht3 : H3 t = some (.tup [.str "other", .ref qa]) := by rw [← hH3]; exact (same_new hp2 _) _ _ ((same_new hl _) _ _ upd_same)
      have hp23 : H3 p2 = some (.lst (cvs ++ [.ref t])) := by rw [← hH3]; exact upd_same
      have np2 : p2 ≠ p := fun e => by rw [e, s2 _ _ hpv] at hp2; cases hp2
      have nt : t ≠ p := fun e => by rw [e, hpv] at ht; cases ht
      have hp3 := s3 _ _ hpv
      have av3 : Same H (Av F1 H3) := av.trans (Same.av s3)
      have hall : DhA K F1 H3 (cvs ++ [.ref t]) ((cs ++ [(Ky.wd cOther, ot)]).map (dCase (dat n))) := by
        rw [List.map_append]
        refine DpAll.snoc (DpAll.same av3 _ _ hcv) ?_
        exact .tup ((Av_get (fn t nt)).trans ht3) (.cons (.str _) (.cons (Dp.same av3 _ _ hq) .nil))
      have facts : ∀ c ∈ cs ++ [(Ky.wd cOther, ot)], (∀ z, c.1 = .num z → z ≤ 9) ∧ ok n (ib || pl.isSome) c.2 ∧ (fmt n c.2).length ≤ 4000 := fun c hc => by
        rcases List.mem_append.mp hc with hc | hc
        · refine ⟨fun z e => ?_, (g5 c hc).2, Nat.le_trans (fmt_case_le hc) hz⟩
          have := (g5 c hc).1
          rw [e] at this
          exact this.2
        · rw [List.mem_singleton.mp hc]
          exact ⟨fun z e => (by cases e), g6, Nat.le_trans fmt_ot_le hz⟩
      generalize hcs2 : cs ++ [(Ky.wd cOther, ot)] = cs2 at hall facts zj zs
      have lcs2 : (cvs ++ [V.ref t]).length = cs2.length := by rw [DpAll.len hall, List.length_map]
      refine ⟨p2, rfl, ⟨_, SqL.of hp23⟩, for_list (K := K) (a := p2) (xs := cvs ++ [.ref t]) (fun i σ H'' => ∃ v2 v3 : Option V, σ = [some (.ref a), some (.ref p), v2, v3] ∧ H'' p = some (.lst ((ofw pl ++ (cs2.take i).map wrd).map fun l => V.str (S l))) ∧ Kp F1 H3 H'' ∧ Same H H'')
        ⟨none, none, rfl, by rw [List.take_zero, List.map_nil, List.append_nil]; exact hp3, Kp.refl _ _, s1.trans s3⟩ (fun i σ H'' _ ⟨_, _, _, _, kp, _⟩ => SqL.of (kp _ _ (fn p2 np2) hp23)) ?_ ?_⟩
      · rintro i x σ H'' hi ⟨v2, v3, rfl, hpv2, kp, s4⟩
        obtain ⟨d0, hd1, hd2⟩ := DpAll.at_ hall hi
        obtain ⟨ci, hci, rfl⟩ := map_at hd1
        have hmem : ci ∈ cs2 := List.mem_of_getElem? hci
        obtain ⟨f1, f2, f3⟩ := facts ci hmem
        obtain ⟨t', q0, rfl, hts, hq0⟩ := dp_case hd2
        obtain ⟨q1, rfl⟩ := dat_ref hq0
        have hwl : (wrd ci).length ≤ 4000 := by
          refine Nat.le_trans (mem_sum ?_) zs
          refine List.mem_map.mpr ⟨wrd ci, List.mem_append_right _ (List.mem_map.mpr ⟨ci, hmem, rfl⟩), rfl⟩
        have hwl2 : (fKy ci.1).length + 2 + (fmt n ci.2).length + 1 = (wrd ci).length := by
          unfold wrd
          simp only [List.length_append, List.length_cons, List.length_nil]
        refine ⟨t', _, rfl, (kp.av.trans (Av_same F1 H'')).seqT hts, rfl, _, _, rfl, _, _, rfl, rfl, ?_⟩
        refine ⟨_, rfl, .inl ⟨rfl, _, SqL.of hpv2⟩, _, rfl, ci.1, rfl, f1, _, _, rfl, rfl, small_le ?_, _, rfl, q1, ci.2, _, rfl, (Dp.same (kp.av.trans (Av_same F1 H'')) _ _ hq0), f2, f3, fun H4 s5 => ?_⟩
        · rw [S_len]
          show _ + 2 ≤ _
          omega
        refine ⟨_, _, rfl, rfl, small_le ?_, _, _, rfl, rfl, small_le ?_, p, _, _, rfl, rfl, s5 _ _ hpv2, small_lt ?_, _, _, rfl, ?_, ?_, same_mut (s4.trans s5) hp⟩
        · show (S (fKy ci.1) ++ S [32, 123]).length + _ ≤ _
          rw [S_app, S_len, S_len, List.length_append]
          show _ + 2 + _ ≤ _
          omega
        · show (S (fKy ci.1) ++ S [32, 123] ++ S (fmt n ci.2)).length + 1 ≤ _
          rw [S_app, S_app, S_len, List.length_append, List.length_append]
          show _ + 2 + _ + 1 ≤ _
          omega
        · simp only [List.length_map, List.length_append, List.length_take]
          have : (ofw pl).length ≤ 1 := by cases pl <;> simp [ofw]; split <;> simp
          have : cs2.length ≤ 101 := by rw [← hcs2]; simp; omega
          omega
        · have e : (" {" : Str) = S [32, 123] := rfl
          have e2 : ("}" : Str) = S [125] := rfl
          rw [upd_same, take_more hci, e, e2, S_app, S_app, S_app]
          simp [wrd]
        · exact (kp.trans (Kp.of s5)).upd fp
      · rintro σ H'' ⟨v2, v3, rfl, hpv2, kp, s4⟩
        rw [lcs2, List.take_length] at hpv2
        have hs4 := SqT.of (K := K) (s4 _ _ hs)
        have ht9 : tag.length ≤ 6 := by rw [← htag]; cases pl <;> simp [cKind, cSelect, cPlural]
        have ej : Txt.join (" " : Str) ((ofw pl ++ cs2.map wrd).map S) = S (jn [32] (ofw pl ++ cs2.map wrd)) := join_S [32] _
        refine ⟨_, rfl, a, _, _, _, rfl, rfl, hs4, atI_nat (j := 1) rfl, _, _, rfl, rfl, small_le ?_, _, _, rfl, rfl, small_le ?_, _, rfl, a, _, _, _, rfl, rfl, hs4, atI_nat (j := 0) rfl, _, _, rfl, rfl, small_le ?_, _, _, rfl, rfl, small_le ?_, ⟨_, rfl⟩, _, rfl, _, p, (ofw pl ++ cs2.map wrd).map S, rfl, rfl, .inl (SqL.of ?_), ?_, _, _, rfl, rfl, ?_, _, _, rfl, rfl, ?_, ?_⟩
        · show 1 + (S name).length ≤ _
          rw [S_len]
          omega
        · show (S [123] ++ S name).length + 2 ≤ _
          rw [S_app, S_len, List.length_append]
          show 1 + _ + 2 ≤ _
          omega
        · show (S [123] ++ S name ++ S [44, 32]).length + _ ≤ _
          rw [S_app, S_app, S_len, S_len, List.length_append, List.length_append]
          show 1 + _ + 2 + _ ≤ _
          omega
        · show (S [123] ++ S name ++ S [44, 32] ++ S tag).length + 2 ≤ _
          rw [S_app, S_app, S_app, S_len, List.length_append, List.length_append, List.length_append]
          show 1 + _ + 2 + _ + 2 ≤ _
          omega
        · rw [hpv2, List.map_map]
          rfl
        · have e1 : (((ofw pl ++ cs2.map wrd).map S).map (·.length)) = (ofw pl ++ cs2.map wrd).map List.length := by
            rw [List.map_map]
            exact List.map_congr_left fun l _ => S_len l
          rw [e1]
          have h1 : (ofw pl).length ≤ 1 := by
            cases pl with
            | none => decide
            | some o => unfold ofw; simp only; split <;> simp
          have h2 : cs2.length ≤ 101 := by rw [← hcs2]; simp; omega
          simp only [List.length_map, List.length_append]
          show _ + _ * 1 ≤ _
          omega
        · rw [ej]
          refine small_le ?_
          show (S [123] ++ S name ++ S [44, 32] ++ S tag ++ S [44, 32]).length + _ ≤ _
          rw [S_app, S_app, S_app, S_app, S_len, S_len, List.length_append, List.length_append, List.length_append, List.length_append]
          show 1 + _ + 2 + _ + 2 + _ ≤ _
          omega
        · rw [ej]
          refine small_le ?_
          show (S [123] ++ S name ++ S [44, 32] ++ S tag ++ S [44, 32] ++ S _).length + 1 ≤ _
          rw [S_app, S_app, S_app, S_app, S_app, S_len, List.length_append, List.length_append, List.length_append, List.length_append, List.length_append]
          show 1 + _ + 2 + _ + 2 + _ + 1 ≤ _
          omega
        · rw [ej]
          have e : S [123] ++ S name ++ S [44, 32] ++ S tag ++ S [44, 32] ++ S (jn [32] (ofw pl ++ cs2.map wrd)) ++ S [125] = S (fNd (fmt n) (.ch pl name cs ot)) := by
            rw [← words_fmt, hcs2, htag]
            simp only [S_app]
            rfl
          show Q (V.str (S [123] ++ S name ++ S [44, 32] ++ S tag ++ S [44, 32] ++ S (jn [32] (ofw pl ++ cs2.map wrd)) ++ S [125])) H''
          rw [e]
          exact k H'' s4
theorem ok_format_message (T : Tx K mg) : ∀ n : Nat, OkF P w K mg base d_format_message ["message"] (3 * n + 1) (spFMsg K n)
  | 0 => ok_format_message0 T
  | n + 1 => ok_format_message_step T (ok_format_node T (ok_format_choice T (ok_format_message T n)))
end
end Mw
/-! MwG -/
set_option Elab.async false
set_option linter.all false
set_option maxRecDepth 100000
set_option maxHeartbeats 4000000
namespace Mw
open PySem PySem.Spec PyProof.Rows L2
/-! ## the book -/
abbrev Bk := List (List Nat × Sub 3)
def getB (bk : Bk) (k : List Nat) : Option (Sub 3) := (bk.find? fun x => decide (x.1 = k)).map (·.2)
def putB (bk : Bk) (k : List Nat) (m : Sub 3) : Bk := if (bk.any fun x => decide (x.1 = k)) = true then bk.map (fun x => if x.1 = k then (x.1, m) else x) else bk ++ [(k, m)]
def dropB (bk : Bk) (k : List Nat) : Bk := bk.filter fun x => decide (x.1 ≠ k)
abbrev kk (k : List Nat) : Key := Sum.inr (S k)
theorem kk_eq {a b : List Nat} : kk a = kk b ↔ a = b := ⟨fun h => S_inj (Sum.inr.inj h), fun h => by rw [h]⟩
inductive Ent (K : PySem.W.Frag) (H : Hp) : List (Key × V) → Bk → Prop
  | nil : Ent K H [] []
  | cons {k : List Nat} {v : V} {m : Sub 3} {kvs : List (Key × V)} {bk : Bk} : Dp K H v (dat 3 m) → Ent K H kvs bk → Ent K H ((kk k, v) :: kvs) ((k, m) :: bk)
section
variable {K : PySem.W.Frag} {H H' : Hp} {kvs : List (Key × V)} {bk : Bk} {k : List Nat} {v : V} {m : Sub 3}
theorem Ent.same (s : Same H H') : ∀ {kvs : List (Key × V)} {bk : Bk}, Ent K H kvs bk → Ent K H' kvs bk
  | _, _, .nil => .nil
  | _, _, .cons h1 h2 => .cons (Dp.same s _ _ h1) (Ent.same s h2)
theorem Ent.len : ∀ {kvs : List (Key × V)} {bk : Bk}, Ent K H kvs bk → kvs.length = bk.length
  | _, _, .nil => rfl
  | _, _, .cons _ h => by simp [Ent.len h]
theorem Ent.keys : ∀ {kvs : List (Key × V)} {bk : Bk}, Ent K H kvs bk → kvs.map (·.1) = (bk.map (·.1)).map kk
  | _, _, .nil => rfl
  | _, _, .cons _ h => by simp [Ent.keys h]
theorem Ent.snoc (hv : Dp K H v (dat 3 m)) : ∀ {kvs : List (Key × V)} {bk : Bk}, Ent K H kvs bk → Ent K H (kvs ++ [(kk k, v)]) (bk ++ [(k, m)])
  | _, _, .nil => .cons hv .nil
  | _, _, .cons h1 h2 => .cons h1 (Ent.snoc hv h2)
theorem Ent.any : ∀ {kvs : List (Key × V)} {bk : Bk}, Ent K H kvs bk → (kvs.any fun kv => decide (kv.1 = kk k)) = (bk.any fun x => decide (x.1 = k))
  | _, _, .nil => rfl
  | _, _, .cons h1 h2 => by
    simp only [List.any_cons, kk_eq, Ent.any h2]
theorem Ent.put (h : Ent K H kvs bk) (hv : Dp K H v (dat 3 m)) : Ent K H (putK kvs (kk k) v) (putB bk k m) := by
  unfold putK putB
  rw [Ent.any h]
  split
  · rename_i hh
    clear hh
    induction h with
    | nil => exact .nil
    | cons h1 h2 ih =>
      rename_i k' v' m' kvs' bk'
      simp only [List.map_cons, kk_eq]
      by_cases e : k' = k
      · rw [if_pos e, if_pos e]
        exact .cons hv ih
      · rw [if_neg e, if_neg e]
        exact .cons h1 ih
  · exact Ent.snoc hv h
theorem Ent.drop (h : Ent K H kvs bk) : Ent K H (dropK kvs (kk k)) (dropB bk k) := by
  unfold dropK dropB
  induction h with
  | nil => exact .nil
  | cons h1 h2 ih =>
    rename_i k' v' m' kvs' bk'
    by_cases e : k' = k
    · rw [List.filter_cons_of_neg (by simp [kk_eq, e]), List.filter_cons_of_neg (by simp [e])]
      exact ih
    · rw [List.filter_cons_of_pos (by simp [kk_eq, e]), List.filter_cons_of_pos (by simp [e])]
      exact .cons h1 ih
theorem Ent.get (h : Ent K H kvs bk) : (getB bk k = none ∧ valV kvs (kk k) = none) ∨ ∃ m v, getB bk k = some m ∧ valV kvs (kk k) = some v ∧ Dp K H v (dat 3 m) := by
  induction h with
  | nil => exact .inl ⟨rfl, rfl⟩
  | cons h1 h2 ih =>
    rename_i k' v' m' kvs' bk'
    by_cases e : k' = k
    · refine .inr ⟨m', v', ?_, valV_pos (by rw [e]), h1⟩
      simp [getB, List.find?_cons, e]
    · have e1 : getB ((k', m') :: bk') k = getB bk' k := by simp [getB, List.find?_cons, e]
      rw [e1, valV_neg (by rw [kk_eq]; exact e)]
      exact ih
theorem Ent.isSome (h : Ent K H kvs bk) : (valV kvs (kk k)).isSome = (getB bk k).isSome := by
  rcases h.get (k := k) with ⟨h1, h2⟩ | ⟨m, v, h1, h2, _⟩
  · rw [h1, h2]; rfl
  · rw [h1, h2]; rfl
theorem Ent.deln (h : Ent K H kvs bk) {n : Nat} (hn : bk.length ≤ n) : kvs.length ≤ n := by rw [h.len]; exact hn
end
theorem putB_len (bk : Bk) (k : List Nat) (m : Sub 3) : (putB bk k m).length ≤ bk.length + 1 := by
  unfold putB
  split
  · simp
  · simp
theorem dropB_len (bk : Bk) (k : List Nat) : (dropB bk k).length ≤ bk.length := List.length_filter_le _ _
/-- a dict that holds the messages bk, and will not change -/
def DkAt (K : PySem.W.Frag) (F : Fz) (H : Hp) (d : Addr) (bk : Bk) : Prop := ∃ kvs, Av F H d = some (.dK kvs) ∧ Ent K (Av F H) kvs bk
def Dks (K : PySem.W.Frag) (F : Fz) (H : Hp) : List Addr → List Bk → Prop
  | [], [] => True
  | d :: ds, bk :: st => DkAt K F H d bk ∧ Dks K F H ds st
  | _, _ => False
def only (l : Addr) : Fz := fun a => decide (a = l)
theorem only_self (l : Addr) : only l l = true := by simp [only]
theorem only_no {l a : Addr} (h : a ≠ l) : only l a = false := by simp [only, h]
section
variable {K : PySem.W.Frag} {F G : Fz} {H H' : Hp} {d : Addr} {bk : Bk}
theorem DkAt.kp (h : DkAt K F H d bk) (k : Kp F H H') : DkAt K F H' d bk := by
  obtain ⟨kvs, h1, h2⟩ := h
  exact ⟨kvs, k.av _ _ h1, h2.same k.av⟩
theorem Dks.kp (k : Kp F H H') : ∀ {ds : List Addr} {st : List Bk}, Dks K F H ds st → Dks K F H' ds st
  | [], [], _ => trivial
  | _ :: _, _ :: _, h => ⟨h.1.kp k, Dks.kp k h.2⟩
  | [], _ :: _, h => h.elim
  | _ :: _, [], h => h.elim
theorem DkAt.weak (h : DkAt K G H d bk) (hf : ∀ a, F a = true → G a = true) : DkAt K F H d bk := by
  obtain ⟨kvs, h1, h2⟩ := h
  exact ⟨kvs, av_weak hf _ _ h1, h2.same (av_weak hf)⟩
theorem Dks.weak (hf : ∀ a, F a = true → G a = true) : ∀ {ds : List Addr} {st : List Bk}, Dks K G H ds st → Dks K F H ds st
  | [], [], _ => trivial
  | _ :: _, _ :: _, h => ⟨h.1.weak hf, Dks.weak hf h.2⟩
  | [], _ :: _, h => h.elim
  | _ :: _, [], h => h.elim
theorem DkAt.new (h : DkAt K F H d bk) {p : Addr} (hp : H p = none) : DkAt K (add F p) H d bk := by
  have s : Same (Av F H) (Av (add F p) H) := fun a o e => by
    obtain ⟨h1, h2⟩ := Av_some e
    rw [Av_get (add_no (ne_of_none h2 hp) h1)]
    exact h2
  obtain ⟨kvs, h1, h2⟩ := h
  exact ⟨kvs, s _ _ h1, h2.same s⟩
theorem Dks.new {p : Addr} (hp : H p = none) : ∀ {ds : List Addr} {st : List Bk}, Dks K F H ds st → Dks K (add F p) H ds st
  | [], [], _ => trivial
  | _ :: _, _ :: _, h => ⟨h.1.new hp, Dks.new hp h.2⟩
  | [], _ :: _, h => h.elim
  | _ :: _, [], h => h.elim
theorem Dks.len : ∀ {ds : List Addr} {st : List Bk}, Dks K F H ds st → ds.length = st.length
  | [], [], _ => rfl
  | _ :: _, _ :: _, h => by simp [Dks.len h.2]
  | [], _ :: _, h => h.elim
  | _ :: _, [], h => h.elim
theorem Dks.snoc (hd : DkAt K F H d bk) : ∀ {ds : List Addr} {st : List Bk}, Dks K F H ds st → Dks K F H (ds ++ [d]) (st ++ [bk])
  | [], [], _ => ⟨hd, trivial⟩
  | _ :: _, _ :: _, h => ⟨h.1, Dks.snoc hd h.2⟩
  | [], _ :: _, h => h.elim
  | _ :: _, [], h => h.elim
theorem Dks.inv : ∀ {ds : List Addr} {st : List Bk}, Dks K F H ds (st ++ [bk]) → ∃ ds0 d, ds = ds0 ++ [d] ∧ Dks K F H ds0 st ∧ DkAt K F H d bk
  | [d], [], h => ⟨[], d, rfl, trivial, h.1⟩
  | _ :: _ :: _, [], h => h.2.elim
  | [], [], h => h.elim
  | [], _ :: _, h => h.elim
  | d0 :: ds, b0 :: st, h => by
    obtain ⟨ds0, d, e, h1, h2⟩ := Dks.inv (st := st) h.2
    exact ⟨d0 :: ds0, d, by rw [e]; rfl, ⟨h.1, h1⟩, h2⟩
end
/-- the book at b, its list of states at l -/
structure BookAt (K : PySem.W.Frag) (F : Fz) (H : Hp) (b l : Addr) (st : List Bk) : Prop where
  ob : ∃ dx, H b = some (.ins (He.ga K "Book") dx [("past", .ref l)])
  ls : ∃ ds : List Addr, H l = some (.lst (ds.map V.ref)) ∧ Dks K F H ds st
theorem BookAt.kp {K : PySem.W.Frag} {F : Fz} {H H' : Hp} {b l : Addr} {st : List Bk} (h : BookAt K F H b l st) (k : Kp F H H') (hb : ∀ o, H b = some o → H' b = some o) (hl : ∀ o, H l = some o → H' l = some o) : BookAt K F H' b l st := by
  obtain ⟨⟨dx, h1⟩, ds, h2, h3⟩ := h
  exact ⟨⟨dx, hb _ h1⟩, ds, hl _ h2, h3.kp k⟩
theorem BookAt.same {K : PySem.W.Frag} {F : Fz} {H H' : Hp} {b l : Addr} {st : List Bk} (h : BookAt K F H b l st) (s : Same H H') : BookAt K F H' b l st := h.kp (Kp.of s) (s b) (s l)
theorem book_past (l : Addr) : ([("past", V.ref l)] : List (Str × V)).lookup ("past" : Str) = some (.ref l) := by
  show (putF "past" (V.ref l) []).lookup ("past" : Str) = _
  rw [lookup_putF, if_pos rfl]
theorem book_no {l : Addr} {m : Str} (h : ¬ m = "past") : ([("past", V.ref l)] : List (Str × V)).lookup m = none := by
  show (putF "past" (V.ref l) []).lookup m = _
  rw [lookup_putF, if_neg h]
  rfl
section
variable {P : Program} {w : World} {K : PySem.W.Frag} {mg : Str → Option Value} {base : Heap}
def spBInit (K : PySem.W.Frag) : Sp := fun vs H Q _ => ∃ (b dx : Addr), vs = [.ref b] ∧ H b = some (.ins (He.ga K "Book") dx []) ∧
  ∀ d l, H d = none → (upd H d (.dK [])) l = none → Q .non (upd (upd (upd H d (.dK [])) l (.lst [.ref d])) b (.ins (He.ga K "Book") dx [("past", .ref l)]))
theorem sc_Book_init : FnScope ["self"] ["self"] (defScope s_Book_init) := ⟨rfl, rfl, rfl, by decide +kernel, rfl, by decide +kernel, by decide +kernel⟩
theorem ok_Book_init (T : Tx K mg) : OkF P w K mg base d_Book_init ["self"] 1 (spBInit K) := by
  refine (okF T 4 (d := d_Book_init) rfl sc_Book_init (fun _ _ _ _ _ _ us hl => match us, hl with | [_], _ => rfl) ⟨rfl, rfl⟩ (fun vs H Q E h => ?_) (fun cdv A outer s H vs Q E hr h => ?_))
  · obtain ⟨b, dx, rfl, _⟩ := h; rfl
  · obtain ⟨b, dx, rfl, hb, k⟩ := h
    refine ⟨_, (pss_one (ps_fld (pv 0) (pe_lst (pa_cons pe_dnewK pa_nil)) rfl)), ?_⟩
    refine fun d hd => ⟨by show 1 ≤ sizeLine; decide, fun l hl => ?_⟩
    exact ⟨_, rfl, b, _, dx, [], rfl, ((same_new hd _).trans (same_new hl _)) _ _ hb, T.cls_Book, T.n_Book_past, by decide, k d l hd hl⟩
def spBMsgs (K : PySem.W.Frag) : Sp := fun vs H Q _ => ∃ (b l dx d : Addr) (ds : List V) (kvs : List (Key × V)), vs = [.ref b] ∧ H b = some (.ins (He.ga K "Book") dx [("past", .ref l)]) ∧ H l = some (.lst (ds ++ [.ref d])) ∧ H d = some (.dK kvs) ∧
  ∀ p, H p = none → Q (.ref p) (upd H p (.dK kvs))
theorem sc_Book_messages : FnScope ["self"] ["self"] (defScope s_Book_messages) := ⟨rfl, rfl, rfl, by decide +kernel, rfl, by decide +kernel, by decide +kernel⟩
theorem ok_Book_messages (T : Tx K mg) : OkF P w K mg base d_Book_messages ["self"] 1 (spBMsgs K) := by
  refine (okF T 5 (d := d_Book_messages) rfl sc_Book_messages (fun _ _ _ _ _ _ us hl => match us, hl with | [_], _ => rfl) ⟨rfl, rfl⟩ (fun vs H Q E h => ?_) (fun cdv A outer s H vs Q E hr h => ?_))
  · obtain ⟨b, l, dx, d, ds, kvs, rfl, _⟩ := h; rfl
  · obtain ⟨b, l, dx, d, ds, kvs, rfl, hb, hl, hd, k⟩ := h
    refine ⟨_, (pss_one (ps_ret (pe_callTy call_dictD (by rfl) T.z_dict (by decide +kernel) (pa_cons (pe_ix ix_list (pe_fld (pv 0) rfl) (pe_un un_neg pe_int) (fun _ _ => rfl)) pa_nil)))), ?_⟩
    exact ⟨_, rfl, b, _, dx, _, _, rfl, hb, T.cls_Book, T.n_Book_past, book_past l, _, rfl, l, _, _, .ref d, rfl, rfl, SqL.of hl, atI_last _ _, d, kvs, rfl, .inl hd, k⟩
def spBPut (K : PySem.W.Frag) : Sp := fun vs H Q _ => ∃ (F : Fz) (b l a : Addr) (st : List Bk) (bk : Bk) (k : List Nat) (m : Sub 3) (i : Bool), vs = [.ref b, .str (S k), .ref a] ∧ BookAt K F H b l (st ++ [bk]) ∧ F l = true ∧ Live F H ∧
  Dh K F H (.ref a) (dat 3 m) ∧ ok 3 i m ∧ (fmt 3 m).length ≤ 4000 ∧ bk.length ≤ 1000 ∧ st.length ≤ 1000 ∧
  ∀ H', Kp (only l) H H' → BookAt K F H' b l (st ++ [bk] ++ [putB bk k (plain 3 m)]) → Q (.bl (getB bk k).isSome) H'
theorem sc_Book_put : FnScope ["self", "key", "message", "now", "before"] ["self", "key", "message"] (defScope s_Book_put) := ⟨rfl, rfl, rfl, by decide +kernel, rfl, by decide +kernel, by decide +kernel⟩
theorem ok_Book_put (T : Tx K mg) : OkF P w K mg base d_Book_put ["self", "key", "message"] 8 (spBPut K) := by
  have o_plain : OkF P w K mg base d_plain ["message"] 7 (spPlain K 3) := ok_plain T 3 (by decide)
  have o_Book_messages : OkF P w K mg base d_Book_messages ["self"] 1 (spBMsgs K) := ok_Book_messages T
  refine (okF T 6 (d := d_Book_put) rfl sc_Book_put (fun _ _ _ _ _ _ us hl => match us, hl with | [_, _, _], _ => rfl) ⟨rfl, rfl⟩ (fun vs H Q E h => ?_) (fun cdv A outer s H vs Q E hr h => ?_))
  · obtain ⟨F, b, l, a, st, bk, k, m, i, rfl, _⟩ := h; rfl
  · obtain ⟨F, b, l, a, st, bk, kx, m, ib, rfl, ⟨⟨dx, hb⟩, ds1, hl, hds⟩, hF, lv, hm, hk, hz, zb, zs, k⟩ := h
    refine ⟨_, (pss_cons (ps_set (i := 3) sc_Book_put.nd rfl (Or.inl rfl) (cm0 o_Book_messages T.m_Book_messages (hr.mono (by omega)) (pv 0)))
  (pss_cons (ps_set (i := 4) sc_Book_put.nd rfl (Or.inl rfl) (pe_cmp (pc_din (hu_of hr) (pv 1) (pv 3)) rfl))
  (pss_cons (ps_dput (hu_of hr) (pv 3) (pv 1) (cg o_plain T.g_plain (hr.mono (by omega)) (pa_cons (pv 2) pa_nil)) rfl)
  (pss_cons (ps_expr (pe_bm PySem.F.plainAttrs_list PySem.F.slot_list_append PySem.F.type_list_append mt_append (pe_fld (pv 0) rfl) (pa_cons (pv 3) pa_nil)))
  (pss_one (ps_ret (pv 4))))))), ?_⟩
    obtain ⟨ds, d, rfl, hd1, hd2⟩ := Dks.inv hds
    obtain ⟨kvs, hd, he⟩ := hd2
    have hd' : H d = some (.dK kvs) := (Av_some hd).2
    rw [List.map_append] at hl
    -- now = self.messages()
    refine ⟨_, rfl, b, dx, _, rfl, hb, book_no (by decide +kernel), b, l, dx, d, ds.map V.ref, kvs, rfl, hb, hl, hd', fun p hp => ?_⟩
    have s1 : Same H (upd H p (.dK kvs)) := same_new hp _
    -- before = key in now
    refine ⟨_, rfl, _, rfl, p, _, rfl, DGet.k (k := kk kx) upd_same, ?_⟩
    -- now[key] = plain(message)
    refine ⟨_, rfl, add F p, a, m, ib, rfl, (hm.new hp).same s1, (lv.same s1).add (by rw [upd_same]; simp), hk, hz, fun r H2 s2 hr2 => ?_⟩
    have hp2 : H2 p = some (.dK kvs) := s2 _ _ upd_same
    refine ⟨_, rfl, _, rfl, p, _, rfl, DPut.k (k := kk kx) hp2 (small_lt (by rw [he.len]; omega)), ?_⟩
    generalize hH3 : upd H2 p (.dK (putK kvs (kk kx) (.ref r))) = H3
    have s3 : Same H H3 := by rw [← hH3]; exact same_mut (s1.trans s2) hp
    have hp3 : H3 p = some (.dK (putK kvs (kk kx) (.ref r))) := by rw [← hH3]; exact upd_same
    have fp : F p = false := lv.new hp
    have hr3 : Dh K F H3 (.ref r) (dat 3 (plain 3 m)) := by
      rw [← hH3]
      exact (Dh.updF hr2 (add_self F p)).weak add_sub
    -- self.past.append(now)
    refine ⟨_, rfl, b, _, dx, _, _, rfl, s3 _ _ hb, T.cls_Book, T.n_Book_past, book_past l, .inl ⟨rfl, _, SqL.of (s3 _ _ hl)⟩, _, rfl, l, _, _, rfl, rfl, s3 _ _ hl, small_lt ?_, _, rfl, ?_⟩
    · have := hd1.len
      simp
      omega
    · have kl : Kp (only l) H (upd H3 l (.lst (ds.map V.ref ++ [.ref d] ++ [.ref p]))) := (Kp.of s3).upd (only_self l)
      have kF : Kp F H (upd H3 l (.lst (ds.map V.ref ++ [.ref d] ++ [.ref p]))) := (Kp.of s3).upd hF
      have nbl : b ≠ l := fun e => by rw [e, hl] at hb; cases hb
      have npl : p ≠ l := fun e => by rw [e, hl] at hp; cases hp
      rw [Ent.isSome he]
      refine k _ kl ⟨⟨dx, by rw [upd_ne nbl]; exact s3 _ _ hb⟩, ds ++ [d] ++ [p], ?_, ?_⟩
      · rw [upd_same]
        simp
      · refine Dks.snoc ?_ (Dks.snoc ?_ (hd1.kp kF))
        · refine ⟨putK kvs (kk kx) (.ref r), ?_, Ent.put (he.same kF.av) (Dh.updF hr3 hF)⟩
          rw [Av_get fp, upd_ne npl]
          exact hp3
        · exact DkAt.kp ⟨kvs, hd, he⟩ kF
def spBDrop (K : PySem.W.Frag) : Sp := fun vs H Q _ => ∃ (F : Fz) (b l : Addr) (st : List Bk) (bk : Bk) (k : List Nat) (m : Sub 3), vs = [.ref b, .str (S k)] ∧ BookAt K F H b l (st ++ [bk]) ∧ F l = true ∧ Live F H ∧
  getB bk k = some m ∧ bk.length ≤ 1000 ∧ st.length ≤ 1000 ∧
  ∀ r H', Kp (only l) H H' → BookAt K F H' b l (st ++ [bk] ++ [dropB bk k]) → Dh K F H' (.ref r) (dat 3 m) → Q (.ref r) H'
theorem sc_Book_drop : FnScope ["self", "key", "now", "message"] ["self", "key"] (defScope s_Book_drop) := ⟨rfl, rfl, rfl, by decide +kernel, rfl, by decide +kernel, by decide +kernel⟩
theorem ok_Book_drop (T : Tx K mg) : OkF P w K mg base d_Book_drop ["self", "key"] 2 (spBDrop K) := by
  have o_Book_messages : OkF P w K mg base d_Book_messages ["self"] 1 (spBMsgs K) := ok_Book_messages T
  refine (okF T 7 (d := d_Book_drop) rfl sc_Book_drop (fun _ _ _ _ _ _ us hl => match us, hl with | [_, _], _ => rfl) ⟨rfl, rfl⟩ (fun vs H Q E h => ?_) (fun cdv A outer s H vs Q E hr h => ?_))
  · obtain ⟨F, b, l, st, bk, k, m, rfl, _⟩ := h; rfl
  · obtain ⟨F, b, l, st, bk, kx, m, rfl, ⟨⟨dx, hb⟩, ds1, hl, hds⟩, hF, lv, hg, zb, zs, k⟩ := h
    refine ⟨_, (pss_cons (ps_set (i := 2) sc_Book_drop.nd rfl (Or.inl rfl) (cm0 o_Book_messages T.m_Book_messages (hr.mono (by omega)) (pv 0)))
  (pss_cons (ps_if (pt_cmp (pc_dnotin (hu_of hr) (pv 1) (pv 2)))
  (pss_one ps_never)
  pss_nil)
  (pss_cons (ps_set (i := 3) sc_Book_drop.nd rfl (Or.inl rfl) (pe_dget (hu_of hr) (pv 2) (pv 1) (fun _ _ => rfl)))
  (pss_cons (ps_ddel (pv 2) (pv 1))
  (pss_cons (ps_expr (pe_bm PySem.F.plainAttrs_list PySem.F.slot_list_append PySem.F.type_list_append mt_append (pe_fld (pv 0) rfl) (pa_cons (pv 2) pa_nil)))
  (pss_one (ps_ret (pv 3)))))))), ?_⟩
    obtain ⟨ds, d, rfl, hd1, hd2⟩ := Dks.inv hds
    obtain ⟨kvs, hd, he⟩ := hd2
    have hd' : H d = some (.dK kvs) := (Av_some hd).2
    rw [List.map_append] at hl
    obtain ⟨v0, hv0, hv1⟩ : ∃ v, valV kvs (kk kx) = some v ∧ Dh K F H v (dat 3 m) := by
      rcases he.get (k := kx) with ⟨h1, _⟩ | ⟨m', v, h1, h2, h3⟩
      · rw [hg] at h1; cases h1
      · rw [hg] at h1
        cases h1
        exact ⟨v, h2, h3⟩
    obtain ⟨r, rfl⟩ := dat_ref hv1
    refine ⟨_, rfl, b, dx, _, rfl, hb, book_no (by decide +kernel), b, l, dx, d, ds.map V.ref, kvs, rfl, hb, hl, hd', fun p hp => ?_⟩
    have s1 : Same H (upd H p (.dK kvs)) := same_new hp _
    refine ⟨_, rfl, _, rfl, p, _, rfl, DGet.k (k := kk kx) upd_same, _, rfl, ?_⟩
    refine ite_f (by rw [hv0]; rfl) ?_
    refine ⟨_, rfl, _, rfl, p, .ref r, rfl, by rw [← hv0]; exact DGet.k (k := kk kx) upd_same, ?_⟩
    refine ⟨_, rfl, _, rfl, p, kvs, kk kx, rfl, upd_same, rfl, by rw [hv0]; rfl, ?_⟩
    generalize hH3 : upd (upd H p (.dK kvs)) p (.dK (dropK kvs (kk kx))) = H3
    have s3 : Same H H3 := by rw [← hH3]; exact same_mut s1 hp
    have hp3 : H3 p = some (.dK (dropK kvs (kk kx))) := by rw [← hH3]; exact upd_same
    have fp : F p = false := lv.new hp
    refine ⟨_, rfl, b, _, dx, _, _, rfl, s3 _ _ hb, T.cls_Book, T.n_Book_past, book_past l, .inl ⟨rfl, _, SqL.of (s3 _ _ hl)⟩, _, rfl, l, _, _, rfl, rfl, s3 _ _ hl, small_lt ?_, _, rfl, ?_⟩
    · have := hd1.len
      simp
      omega
    · have kl : Kp (only l) H (upd H3 l (.lst (ds.map V.ref ++ [.ref d] ++ [.ref p]))) := (Kp.of s3).upd (only_self l)
      have kF : Kp F H (upd H3 l (.lst (ds.map V.ref ++ [.ref d] ++ [.ref p]))) := (Kp.of s3).upd hF
      have nbl : b ≠ l := fun e => by rw [e, hl] at hb; cases hb
      have npl : p ≠ l := fun e => by rw [e, hl] at hp; cases hp
      refine k r _ kl ⟨⟨dx, by rw [upd_ne nbl]; exact s3 _ _ hb⟩, ds ++ [d] ++ [p], ?_, ?_⟩ (hv1.kp kF)
      · rw [upd_same]
        simp
      · refine Dks.snoc ?_ (Dks.snoc ?_ (hd1.kp kF))
        · refine ⟨dropK kvs (kk kx), ?_, Ent.drop (he.same kF.av)⟩
          rw [Av_get fp, upd_ne npl]
          exact hp3
        · exact DkAt.kp ⟨kvs, hd, he⟩ kF
def spBUndo (K : PySem.W.Frag) : Sp := fun vs H Q _ => ∃ (F : Fz) (b l : Addr) (st : List Bk) (bk : Bk), vs = [.ref b] ∧ BookAt K F H b l (st ++ [bk]) ∧ F l = true ∧
  ∀ H', Kp (only l) H H' → BookAt K F H' b l (if st = [] then [bk] else st) → Q (.bl (!decide (st = []))) H'
theorem sc_Book_undo : FnScope ["self"] ["self"] (defScope s_Book_undo) := ⟨rfl, rfl, rfl, by decide +kernel, rfl, by decide +kernel, by decide +kernel⟩
theorem ok_Book_undo (T : Tx K mg) : OkF P w K mg base d_Book_undo ["self"] 1 (spBUndo K) := by
  refine (okF T 8 (d := d_Book_undo) rfl sc_Book_undo (fun _ _ _ _ _ _ us hl => match us, hl with | [_], _ => rfl) ⟨rfl, rfl⟩ (fun vs H Q E h => ?_) (fun cdv A outer s H vs Q E hr h => ?_))
  · obtain ⟨F, b, l, st, bk, rfl, _⟩ := h; rfl
  · obtain ⟨F, b, l, st, bk, rfl, hB, hF, k⟩ := h
    refine ⟨_, (pss_cons (ps_if (pt_cmpR op_eq (pe_callB call_len_seq (by rfl) T.z_len (by decide +kernel) (pa_cons (pe_fld (pv 0) rfl) pa_nil)) pe_int (nomark _))
  (pss_one (ps_ret pe_bl))
  pss_nil)
  (pss_cons (ps_expr (pe_bm0 PySem.F.plainAttrs_list PySem.F.slot_list_pop PySem.F.type_list_pop mt_pop (pe_fld (pv 0) rfl)))
  (pss_one (ps_ret pe_bl)))), ?_⟩
    obtain ⟨⟨dx, hb⟩, ds1, hl, hds⟩ := id hB
    obtain ⟨ds, d, rfl, hd1, hd2⟩ := Dks.inv hds
    have ln := hd1.len
    refine ⟨_, rfl, b, _, dx, _, _, rfl, hb, T.cls_Book, T.n_Book_past, book_past l, l, _, rfl, .inl (SqL.of hl), rfl, _, rfl, ?_⟩
    have e1 : ((List.map V.ref (ds ++ [d])).length : Int) = (st.length : Int) + 1 := by simp [ln]
    rw [e1]
    by_cases h0 : st = []
    · subst h0
      refine ite_t (by decide) ?_
      have := k H (Kp.refl _ _) hB
      exact this
    · have hne : st.length ≠ 0 := fun e => h0 (List.length_eq_zero_iff.mp e)
      refine ite_f (decide_eq_false fun e => hne ?_) ?_
      · have := V.int.inj e
        omega
      have e2 : (ds ++ [d]).map V.ref = ds.map V.ref ++ [.ref d] := by simp
      refine ⟨_, rfl, b, _, dx, _, _, rfl, hb, T.cls_Book, T.n_Book_past, book_past l, .inl ⟨rfl, _, SqL.of hl⟩, l, _, .ref d, rfl, rfl, hl, by rw [e2]; simp, ?_⟩
      have nbl : b ≠ l := fun e => by rw [e, hl] at hb; cases hb
      have kF : Kp F H (upd H l (.lst ((ds ++ [d]).map V.ref).dropLast)) := (Kp.refl F H).upd hF
      have := k (upd H l (.lst ((ds ++ [d]).map V.ref).dropLast)) ((Kp.refl _ _).upd (only_self l)) (by
        rw [if_neg h0]
        refine ⟨⟨dx, by rw [upd_ne nbl]; exact hb⟩, ds, ?_, hd1.kp kF⟩
        rw [upd_same, e2, List.dropLast_concat])
      rw [decide_eq_false h0] at this
      exact this
/-! ## deeds -/
inductive Deed where
  | put (k : List Nat) (m : Sub 3)
  | drop (k : List Nat)
  | undo
def dD : Deed → PyData
  | .put k m => .tuple [.str "put", .str (S k), dat 3 m]
  | .drop k => .tuple [.str "drop", .str (S k)]
  | .undo => .tuple [.str "undo"]
def okD : Deed → Prop
  | .put k m => nmOk k ∧ ok 3 false m ∧ (fmt 3 m).length ≤ 4000
  | .drop k => nmOk k
  | .undo => True
def can (bk : Bk) : Deed → Prop
  | .put _ _ => True
  | .drop k => (getB bk k).isSome = true
  | .undo => True
/-- the states behind a deed: st below, bk on top -/
def stepS (st : List Bk) (bk : Bk) : Deed → List Bk
  | .put k m => st ++ [bk] ++ [putB bk k (plain 3 m)]
  | .drop k => st ++ [bk] ++ [dropB bk k]
  | .undo => if st = [] then [bk] else st
def retD (st : List Bk) (bk : Bk) : Deed → PyData
  | .put k _ => .bool (getB bk k).isSome
  | .drop k => match getB bk k with
    | some m => dat 3 m
    | none => .none
  | .undo => .bool (!decide (st = []))
theorem dp_deed {K : PySem.W.Frag} {H : Hp} {v : V} {d : Deed} (h : Dp K H v (dD d)) : ∃ a, v = .ref a ∧ match d with
    | .put k m => ∃ r, H a = some (.tup [.str "put", .str (S k), .ref r]) ∧ Dp K H (.ref r) (dat 3 m)
    | .drop k => H a = some (.tup [.str "drop", .str (S k)])
    | .undo => H a = some (.tup [.str "undo"]) := by
  cases d with
  | put k m =>
    obtain ⟨a, xs, rfl, h1, h2⟩ := Dp.tupGet h
    cases h2 with
    | cons p1 p2 => cases p2 with
      | cons p3 p4 => cases p4 with
        | cons p5 p6 =>
          cases p6; cases p1; cases p3
          obtain ⟨r, rfl⟩ := dat_ref p5
          exact ⟨a, rfl, r, h1, p5⟩
  | drop k =>
    obtain ⟨a, xs, rfl, h1, h2⟩ := Dp.tupGet h
    cases h2 with
    | cons p1 p2 => cases p2 with
      | cons p3 p4 =>
        cases p4; cases p1; cases p3
        exact ⟨a, rfl, h1⟩
  | undo =>
    obtain ⟨a, xs, rfl, h1, h2⟩ := Dp.tupGet h
    cases h2 with
    | cons p1 p2 =>
      cases p2; cases p1
      exact ⟨a, rfl, h1⟩
def tagD : Deed → Str
  | .put _ _ => "put"
  | .drop _ => "drop"
  | .undo => "undo"
theorem dp_tagD {K : PySem.W.Frag} {H : Hp} {v : V} {d : Deed} (h : Dp K H v (dD d)) : ∃ a xs, v = .ref a ∧ H a = some (.tup (.str (tagD d) :: xs)) := by
  obtain ⟨a, e, h⟩ := dp_deed h
  cases d with
  | put k m => obtain ⟨r, h1, _⟩ := h; exact ⟨a, _, e, h1⟩
  | drop k => exact ⟨a, _, e, h⟩
  | undo => exact ⟨a, _, e, h⟩
def spPerform (K : PySem.W.Frag) : Sp := fun vs H Q _ => ∃ (F : Fz) (b l a : Addr) (st : List Bk) (bk : Bk) (d : Deed), vs = [.ref b, .ref a] ∧ BookAt K F H b l (st ++ [bk]) ∧ F l = true ∧ Live F H ∧ Dh K F H (.ref a) (dD d) ∧ okD d ∧ can bk d ∧
  bk.length ≤ 1000 ∧ st.length ≤ 1000 ∧ ∀ v H', Kp (only l) H H' → BookAt K F H' b l (stepS st bk d) → Dh K F H' v (retD st bk d) → Q v H'
theorem sc_perform : FnScope ["book", "deed"] ["book", "deed"] (defScope s_perform) := ⟨rfl, rfl, rfl, by decide +kernel, rfl, by decide +kernel, by decide +kernel⟩
theorem ok_perform (T : Tx K mg) : OkF P w K mg base d_perform ["book", "deed"] 9 (spPerform K) := by
  have o_Book_put : OkF P w K mg base d_Book_put ["self", "key", "message"] 8 (spBPut K) := ok_Book_put T
  have o_Book_drop : OkF P w K mg base d_Book_drop ["self", "key"] 2 (spBDrop K) := ok_Book_drop T
  have o_Book_undo : OkF P w K mg base d_Book_undo ["self"] 1 (spBUndo K) := ok_Book_undo T
  refine (okF T 38 (d := d_perform) rfl sc_perform (fun _ _ _ _ _ _ us hl => match us, hl with | [_, _], _ => rfl) ⟨rfl, rfl⟩ (fun vs H Q E h => ?_) (fun cdv A outer s H vs Q E hr h => ?_))
  · obtain ⟨F, b, l, a, st, bk, d, rfl, _⟩ := h; rfl
  · obtain ⟨F, b, l, a, st, bk, d, rfl, hB, hF, lv, hd, hk, hc, zb, zs, k⟩ := h
    refine ⟨_, (pss_cons (ps_if (pt_cmpR op_eq (pe_ix ix_tup (pv 1) pe_int (fun _ _ => rfl)) pe_str (nomark _))
  (pss_one (ps_ret (cm o_Book_put T.m_Book_put (hr.mono (by omega)) (pv 0) (pa_cons (pe_ix ix_tup (pv 1) pe_int (fun _ _ => rfl)) (pa_cons (pe_ix ix_tup (pv 1) pe_int (fun _ _ => rfl)) pa_nil)))))
  pss_nil)
  (pss_cons (ps_if (pt_cmpR op_eq (pe_ix ix_tup (pv 1) pe_int (fun _ _ => rfl)) pe_str (nomark _))
  (pss_one (ps_ret (cm o_Book_drop T.m_Book_drop (hr.mono (by omega)) (pv 0) (pa_cons (pe_ix ix_tup (pv 1) pe_int (fun _ _ => rfl)) pa_nil))))
  pss_nil)
  (pss_one (ps_ret (cm0 o_Book_undo T.m_Book_undo (hr.mono (by omega)) (pv 0)))))), ?_⟩
    obtain ⟨⟨dx, hb⟩, _⟩ := id hB
    obtain ⟨a', e, hd2⟩ := dp_deed hd
    cases e
    cases d with
    | put kx m =>
      obtain ⟨r, h1, h2⟩ := hd2
      have h1' := SqT.of (K := K) (Av_same F H _ _ h1)
      refine ⟨_, rfl, a, _, _, _, rfl, rfl, h1', rfl, rfl, _, rfl, ?_⟩
      refine ite_t (decide_eq_true rfl) ?_
      refine ⟨_, rfl, b, dx, _, rfl, hb, book_no (by decide +kernel), _, rfl, a, _, _, _, rfl, rfl, h1', rfl, _, rfl, a, _, _, _, rfl, rfl, h1', rfl, ?_⟩
      exact ⟨F, b, l, r, st, bk, kx, m, false, rfl, hB, hF, lv, h2, hk.2.1, hk.2.2, zb, zs, fun H' k1 k2 => k _ H' k1 k2 (.bl _)⟩
    | drop kx =>
      have h1' := SqT.of (K := K) (Av_same F H _ _ hd2)
      refine ⟨_, rfl, a, _, _, _, rfl, rfl, h1', rfl, rfl, _, rfl, ?_⟩
      refine ite_f (by decide +kernel) ?_
      refine ⟨_, rfl, a, _, _, _, rfl, rfl, h1', rfl, rfl, _, rfl, ?_⟩
      refine ite_t (decide_eq_true rfl) ?_
      obtain ⟨m, hm⟩ := Option.isSome_iff_exists.mp (show (getB bk kx).isSome = true from hc)
      refine ⟨_, rfl, b, dx, _, rfl, hb, book_no (by decide +kernel), _, rfl, a, _, _, _, rfl, rfl, h1', rfl, ?_⟩
      refine ⟨F, b, l, st, bk, kx, m, rfl, hB, hF, lv, hm, zb, zs, fun r H' k1 k2 k3 => k _ H' k1 k2 ?_⟩
      show Dh K F H' (.ref r) (match getB bk kx with
        | some m => dat 3 m
        | none => .none)
      rw [hm]
      exact k3
    | undo =>
      have h1' := SqT.of (K := K) (Av_same F H _ _ hd2)
      refine ⟨_, rfl, a, _, _, _, rfl, rfl, h1', rfl, rfl, _, rfl, ?_⟩
      refine ite_f (by decide +kernel) ?_
      refine ⟨_, rfl, a, _, _, _, rfl, rfl, h1', rfl, rfl, _, rfl, ?_⟩
      refine ite_f (by decide +kernel) ?_
      refine ⟨_, rfl, b, dx, _, rfl, hb, book_no (by decide +kernel), ?_⟩
      exact ⟨F, b, l, st, bk, rfl, hB, hF, fun H' k1 k2 => k _ H' k1 k2 (.bl _)⟩
end
end Mw
/-! MwR -/
set_option Elab.async false
set_option linter.all false
set_option maxRecDepth 100000
set_option maxHeartbeats 4000000
namespace Mw
open PySem PySem.Spec PyProof.Rows L2
/-! ## the reader -/
def rf (T : List Nat) (p : Nat) (b : Bool) : List (Str × V) := [("text", .str (S T)), ("place", .int p), ("inside", .bl b)]
theorem tp_ : ¬ (("text" : Str) = "place") := by decide +kernel
theorem ti_ : ¬ (("text" : Str) = "inside") := by decide +kernel
theorem pi_ : ¬ (("place" : Str) = "inside") := by decide +kernel
theorem rf_put (T : List Nat) (p : Nat) (b : Bool) : rf T p b = putF "inside" (.bl b) (putF "place" (.int p) (putF "text" (.str (S T)) [])) := by
  show _ = putF "inside" (.bl b) (if ("text" : Str) = "place" then _ else (("text" : Str), V.str (S T)) :: [(("place" : Str), V.int p)])
  rw [if_neg tp_]
  show _ = (if ("text" : Str) = "inside" then _ else (("text" : Str), V.str (S T)) :: (if ("place" : Str) = "inside" then _ else (("place" : Str), V.int p) :: [(("inside" : Str), V.bl b)]))
  rw [if_neg ti_, if_neg pi_]
  rfl
theorem rf_text (T : List Nat) (p : Nat) (b : Bool) : (rf T p b).lookup ("text" : Str) = some (.str (S T)) := by
  rw [rf_put, lookup_putF, if_neg ti_, lookup_putF, if_neg tp_, lookup_putF, if_pos rfl]
theorem rf_place (T : List Nat) (p : Nat) (b : Bool) : (rf T p b).lookup ("place" : Str) = some (.int p) := by
  rw [rf_put, lookup_putF, if_neg pi_, lookup_putF, if_pos rfl]
theorem rf_inside (T : List Nat) (p : Nat) (b : Bool) : (rf T p b).lookup ("inside" : Str) = some (.bl b) := by
  rw [rf_put, lookup_putF, if_pos rfl]
theorem rf_no {T : List Nat} {p : Nat} {b : Bool} {m : Str} (h1 : ¬ m = "inside") (h2 : ¬ m = "place") (h3 : ¬ m = "text") : (rf T p b).lookup m = none := by
  rw [rf_put, lookup_putF, if_neg h1, lookup_putF, if_neg h2, lookup_putF, if_neg h3]
  rfl
theorem rf_setp (T : List Nat) (p q : Nat) (b : Bool) : putF "place" (.int q) (rf T p b) = rf T q b := by
  show (if ("text" : Str) = "place" then _ else (("text" : Str), V.str (S T)) :: (if ("place" : Str) = "place" then (("place" : Str), V.int q) :: [(("inside" : Str), V.bl b)] else _)) = _
  rw [if_neg tp_, if_pos rfl]
  rfl
theorem rf_seti (T : List Nat) (p : Nat) (b c : Bool) : putF "inside" (.bl c) (rf T p b) = rf T p c := by
  show (if ("text" : Str) = "inside" then _ else (("text" : Str), V.str (S T)) :: (if ("place" : Str) = "inside" then _ else (("place" : Str), V.int p) :: (if ("inside" : Str) = "inside" then [(("inside" : Str), V.bl c)] else _))) = _
  rw [if_neg ti_, if_neg pi_, if_pos rfl]
  rfl
theorem rf_len {T : List Nat} {p : Nat} {b : Bool} : (rf T p b).length < 1000 := by show 3 < 1000; decide
abbrev RC (K : PySem.W.Frag) : Addr := He.ga K "Reader"
theorem at_drop {T : List Nat} {p : Nat} {c : Nat} {r : List Nat} (h : T.drop p = c :: r) : T[p]? = some c ∧ p < T.length ∧ T.drop (p + 1) = r := by
  have hl : p < T.length := by
    by_cases e : p < T.length
    · exact e
    · rw [List.drop_eq_nil_of_le (by omega)] at h; cases h
  rw [List.drop_eq_getElem_cons hl] at h
  injection h with h1 h2
  exact ⟨by rw [List.getElem?_eq_getElem hl, h1], hl, h2⟩
theorem drop_add {T w r : List Nat} {p : Nat} (h : T.drop p = w ++ r) : T.drop (p + w.length) = r := by
  rw [← List.drop_drop, h]
  simp
theorem at_S {T : List Nat} {q : Nat} {c : Nat} (h : T[q]? = some c) : atI (S T).cps.toList ((q : Nat) : Int) = some c := atI_nat (by simpa using h)
/-- how far a row of signs goes -/
theorem row_end {T w r cs : List Nat} {p q : Nat} (hT : T.drop p = w ++ r) (hw : ∀ c ∈ w, c ∈ cs) (hr : ∀ c r', r = c :: r' → c ∉ cs) (h1 : p ≤ q) (h2 : q ≤ T.length) (hq : ∀ j, p ≤ j → j < q → ∃ c, T[j]? = some c ∧ c ∈ cs)
    (he : ∀ c, T[q]? = some c → c ∉ cs) : q = p + w.length := by
  have hat : ∀ j, T[p + j]? = (w ++ r)[j]? := fun j => by rw [← hT, List.getElem?_drop]
  have hlen : T.length - p = w.length + r.length := by rw [← List.length_append, ← hT, List.length_drop]
  rcases Nat.lt_trichotomy q (p + w.length) with h | h | h
  · exfalso
    have e := hat (q - p)
    rw [show p + (q - p) = q by omega, List.getElem?_append_left (by omega)] at e
    have hl : q - p < w.length := by omega
    rw [List.getElem?_eq_getElem hl] at e
    exact he _ e (hw _ (List.getElem_mem hl))
  · exact h
  · exfalso
    obtain ⟨c, e, hc⟩ := hq (p + w.length) (by omega) h
    rw [hat, List.getElem?_append_right (Nat.le_refl _), Nat.sub_self] at e
    cases r with
    | nil => simp at e
    | cons c' r' =>
      simp at e
      subst e
      exact hr _ _ rfl hc
section
variable {P : Program} {w : World} {K : PySem.W.Frag} {mg : Str → Option Value} {base : Heap}
def spRInit (K : PySem.W.Frag) : Sp := fun vs H Q _ => ∃ (x dx : Addr) (T : List Nat), vs = [.ref x, .str (S T)] ∧ H x = some (.ins (RC K) dx []) ∧ ∀ H', Kp (only x) H H' → H' x = some (.ins (RC K) dx (rf T 0 false)) → Q .non H'
theorem sc_Reader_init : FnScope ["self", "text"] ["self", "text"] (defScope s_Reader_init) := ⟨rfl, rfl, rfl, by decide +kernel, rfl, by decide +kernel, by decide +kernel⟩
theorem ok_Reader_init (T : Tx K mg) : OkF P w K mg base d_Reader_init ["self", "text"] 1 (spRInit K) := by
  refine (okF T 15 (d := d_Reader_init) rfl sc_Reader_init (fun _ _ _ _ _ _ us hl => match us, hl with | [_, _], _ => rfl) ⟨rfl, rfl⟩ (fun vs H Q E h => ?_) (fun cdv A outer s H vs Q E hr h => ?_))
  · obtain ⟨x, dx, T, rfl, _⟩ := h; rfl
  · obtain ⟨x, dx, tx, rfl, hx, k⟩ := h
    refine ⟨_, (pss_cons (ps_fld (pv 0) (pv 1) rfl)
  (pss_cons (ps_fld (pv 0) pe_int rfl)
  (pss_one (ps_fld (pv 0) pe_bl rfl)))), ?_⟩
    refine ⟨_, rfl, _, rfl, x, _, dx, _, rfl, hx, T.cls_Reader, T.n_Reader_text, by decide, _, rfl, x, _, dx, _, rfl, upd_same, T.cls_Reader, T.n_Reader_place, by show 1 < 1000; decide, _, rfl, x, _, dx, _, rfl, upd_same, T.cls_Reader, T.n_Reader_inside, ?_, ?_⟩
    · have := rf_put tx 0 false
      show (putF "place" (.int 0) (putF "text" (.str (S tx)) [])).length < 1000
      show (if ("text" : Str) = "place" then _ else (("text" : Str), V.str (S tx)) :: [(("place" : Str), V.int 0)]).length < 1000
      rw [if_neg tp_]
      show 2 < 1000
      decide
    · refine k _ ((((Kp.refl _ _).upd (only_self x)).upd (only_self x)).upd (only_self x)) ?_
      rw [upd_same]
      show some (HO.ins (RC K) dx (putF "inside" (.bl false) (putF "place" (.int 0) (putF "text" (.str (S tx)) [])))) = _
      rw [rf_put]
      rfl
def spRSign (K : PySem.W.Frag) : Sp := fun vs H Q _ => ∃ (x dx : Addr) (T : List Nat) (p : Nat) (b : Bool) (c : Nat), vs = [.ref x] ∧ H x = some (.ins (RC K) dx (rf T p b)) ∧ T.length ≤ 5000 ∧ T[p]? = some c ∧ Q (.str (S [c])) H
theorem sc_Reader_sign : FnScope ["self"] ["self"] (defScope s_Reader_sign) := ⟨rfl, rfl, rfl, by decide +kernel, rfl, by decide +kernel, by decide +kernel⟩
theorem ok_Reader_sign (T : Tx K mg) : OkF P w K mg base d_Reader_sign ["self"] 1 (spRSign K) := by
  refine (okF T 16 (d := d_Reader_sign) rfl sc_Reader_sign (fun _ _ _ _ _ _ us hl => match us, hl with | [_], _ => rfl) ⟨rfl, rfl⟩ (fun vs H Q E h => ?_) (fun cdv A outer s H vs Q E hr h => ?_))
  · obtain ⟨x, dx, T, p, b, c, rfl, _⟩ := h; rfl
  · obtain ⟨x, dx, tx, p, b, c, rfl, hx, hz, hc, k⟩ := h
    refine ⟨_, (pss_cons (ps_if (pt_cmpR op_ge (pe_fld (pv 0) rfl) (pe_callB call_len_str (by rfl) T.z_len (by decide +kernel) (pa_cons (pe_fld (pv 0) rfl) pa_nil)) (nomark _))
  (pss_one ps_never)
  pss_nil)
  (pss_one (ps_ret (pe_ix ix_str (pe_fld (pv 0) rfl) (pe_fld (pv 0) rfl) (fun _ _ => rfl))))), ?_⟩
    have hl := lt_of_at hc
    refine ⟨_, rfl, x, _, dx, _, _, rfl, hx, T.cls_Reader, T.n_Reader_place, rf_place _ _ _, _, rfl, x, _, dx, _, _, rfl, hx, T.cls_Reader, T.n_Reader_text, rf_text _ _ _, _, rfl, small_le (by rw [S_len]; omega), _, _, rfl, rfl, _, rfl, ?_⟩
    refine ite_f (decide_eq_false ?_) ?_
    · rw [S_len]
      omega
    exact ⟨_, rfl, x, _, dx, _, _, rfl, hx, T.cls_Reader, T.n_Reader_text, rf_text _ _ _, _, rfl, x, _, dx, _, _, rfl, hx, T.cls_Reader, T.n_Reader_place, rf_place _ _ _, _, _, c, rfl, rfl, small_le (by rw [S_len]; omega), at_S hc, k⟩
/-- the loop of skip, run and natural: what it wants and what it leaves -/
def isSp : List Nat := [32, 10]
def spRSkip (K : PySem.W.Frag) : Sp := fun vs H Q _ => ∃ (x dx : Addr) (T : List Nat) (p : Nat) (b : Bool) (sp r : List Nat), vs = [.ref x] ∧ H x = some (.ins (RC K) dx (rf T p b)) ∧ T.length ≤ 5000 ∧ p ≤ T.length ∧ T.drop p = sp ++ r ∧ (∀ c ∈ sp, c ∈ isSp) ∧ (∀ c r', r = c :: r' → c ∉ isSp) ∧
  Q .non (upd H x (.ins (RC K) dx (rf T (p + sp.length) b)))
theorem loop_row {K : PySem.W.Frag} {x dx : Addr} {T w r cs : List Nat} {p : Nat} {b : Bool} {H : Hp} {σ : L2.St} {c : TT} {tb : TS} {D : Ends} (hT : T.drop p = w ++ r) (hp : p ≤ T.length) (hw : ∀ c ∈ w, c ∈ cs) (hr : ∀ c r', r = c :: r' → c ∉ cs)
    (hx : H x = some (.ins (RC K) dx (rf T p b)))
    (ht : ∀ q, p ≤ q → q ≤ T.length → ∀ Q : Bool → Hp → Prop, (q = T.length → Q false (upd H x (.ins (RC K) dx (rf T q b)))) → (∀ c, T[q]? = some c → Q (decide (c ∈ cs)) (upd H x (.ins (RC K) dx (rf T q b)))) → c σ (upd H x (.ins (RC K) dx (rf T q b))) Q)
    (hb : ∀ q, q < T.length → ∀ D : Ends, D.nx σ (upd H x (.ins (RC K) dx (rf T (q + 1) b))) → tb D σ (upd H x (.ins (RC K) dx (rf T q b))))
    (hd : D.nx σ (upd H x (.ins (RC K) dx (rf T (p + w.length) b)))) : tWhile c tb D σ H := by
  refine ⟨fun m σ' H' => ∃ q, m = T.length - q ∧ p ≤ q ∧ q ≤ T.length ∧ σ' = σ ∧ H' = upd H x (.ins (RC K) dx (rf T q b)) ∧ ∀ j, p ≤ j → j < q → ∃ c, T[j]? = some c ∧ c ∈ cs, ⟨_, p, rfl, Nat.le_refl _, hp, rfl, ?_, fun j h1 h2 => by omega⟩, ?_⟩
  · funext a
    by_cases e : a = x
    · rw [e, upd_same]; exact hx
    · rw [upd_ne e]
  · rintro m σ' H' ⟨q, rfl, h1, h2, rfl, rfl, hq⟩
    refine ht q h1 h2 _ (fun e => ?_) (fun c hc => ?_)
    · refine iteF ?_
      have : q = p + w.length := row_end hT hw hr h1 h2 hq (fun c hc => by
        have := lt_of_at hc
        omega)
      rw [this]
      exact hd
    · by_cases hin : c ∈ cs
      · refine ite_t (decide_eq_true hin) ?_
        have hl := lt_of_at hc
        refine ⟨fun σ2 H2 => σ2 = σ' ∧ H2 = upd H x (.ins (RC K) dx (rf T (q + 1) b)), ?_, hb q hl _ ⟨rfl, rfl⟩⟩
        rintro σ2 H2 ⟨rfl, rfl⟩
        refine ⟨T.length - (q + 1), by omega, q + 1, rfl, by omega, hl, rfl, rfl, fun j j1 j2 => ?_⟩
        by_cases e : j = q
        · rw [e]; exact ⟨c, hc, hin⟩
        · exact hq j j1 (by omega)
      · refine ite_f (decide_eq_false hin) ?_
        have : q = p + w.length := row_end hT hw hr h1 h2 hq (fun c' hc' => by
          rw [hc] at hc'
          cases hc'
          exact hin)
        rw [this]
        exact hd
theorem drop_le {T l : List Nat} {p : Nat} (h : T.drop p = l) (hl : l ≠ []) : p ≤ T.length := by
  by_cases e : p ≤ T.length
  · exact e
  · rw [List.drop_eq_nil_of_le (by omega)] at h
    exact absurd h.symm hl
theorem step_place {x C dx : Addr} {T : List Nat} {q : Nat} {b : Bool} {H : Hp} : upd (upd H x (.ins C dx (rf T q b))) x (.ins C dx (putF "place" (.int ((q : Int) + 1)) (rf T q b))) = upd H x (.ins C dx (rf T (q + 1) b)) := by
  rw [upd_upd]
  have e : putF "place" (.int ((q : Int) + 1)) (rf T q b) = rf T (q + 1) b := rf_setp T q (q + 1) b
  rw [e]
theorem sc_Reader_skip : FnScope ["self"] ["self"] (defScope s_Reader_skip) := ⟨rfl, rfl, rfl, by decide +kernel, rfl, by decide +kernel, by decide +kernel⟩
theorem ok_Reader_skip (T : Tx K mg) : OkF P w K mg base d_Reader_skip ["self"] 1 (spRSkip K) := by
  refine (okF T 17 (d := d_Reader_skip) rfl sc_Reader_skip (fun _ _ _ _ _ _ us hl => match us, hl with | [_], _ => rfl) ⟨rfl, rfl⟩ (fun vs H Q E h => ?_) (fun cdv A outer s H vs Q E hr h => ?_))
  · obtain ⟨x, dx, T, p, b, sp, r, rfl, _⟩ := h; rfl
  · obtain ⟨x, dx, tx, p, b, sp, r, rfl, hx, hz, hp, hT, h1, h2, k⟩ := h
    refine ⟨_, (pss_one (ps_while PassesOwn.never (PW.pt (pw_and (pt_cmpR op_lt (pe_fld (pv 0) rfl) (pe_callB call_len_str (by rfl) T.z_len (by decide +kernel) (pa_cons (pe_fld (pv 0) rfl) pa_nil)) (nomark _)) (pw_and1 (pt_cmpR op_in_sign (pe_ix ix_str (pe_fld (pv 0) rfl) (pe_fld (pv 0) rfl) (fun _ _ => rfl)) (pe_gS T.c_SPACES) rfl))))
  (pss_one (ps_fldaug (pv 0) pe_int in_add)))), ?_⟩
    refine loop_row (K := K) (x := x) (dx := dx) (T := tx) (w := sp) (r := r) (cs := isSp) (p := p) (b := b) hT hp h1 h2 hx ?_ ?_ k
    · intro q hq1 hq2 Q' k1 k2
      refine ⟨_, rfl, x, _, dx, _, _, rfl, upd_same, T.cls_Reader, T.n_Reader_place, rf_place _ _ _, _, rfl, x, _, dx, _, _, rfl, upd_same, T.cls_Reader, T.n_Reader_text, rf_text _ _ _, _, rfl, small_le (by rw [S_len]; omega), _, _, rfl, rfl, _, rfl, ?_⟩
      by_cases e : q = tx.length
      · exact ite_f (decide_eq_false (by rw [S_len]; omega)) (k1 e)
      · have hl : q < tx.length := by omega
        refine ite_t (decide_eq_true (by rw [S_len]; omega)) ?_
        have hc := List.getElem?_eq_getElem hl
        exact ⟨_, rfl, x, _, dx, _, _, rfl, upd_same, T.cls_Reader, T.n_Reader_text, rf_text _ _ _, _, rfl, x, _, dx, _, _, rfl, upd_same, T.cls_Reader, T.n_Reader_place, rf_place _ _ _, _, _, _, rfl, rfl, small_le (by rw [S_len]; omega), at_S hc, _, _, rfl, rfl, _, rfl, k2 _ hc⟩
    · intro q hq D' k1
      refine ⟨_, rfl, x, _, dx, _, _, rfl, upd_same, T.cls_Reader, T.n_Reader_place, rf_place _ _ _, _, _, rfl, rfl, dx, _, upd_same, rf_len, ?_⟩
      rw [step_place]
      exact k1
def spRExpect (K : PySem.W.Frag) : Sp := fun vs H Q _ => ∃ (x dx : Addr) (T : List Nat) (p : Nat) (b : Bool) (sp r : List Nat) (c : Nat), vs = [.ref x, .str (S [c])] ∧ H x = some (.ins (RC K) dx (rf T p b)) ∧ T.length ≤ 5000 ∧ T.drop p = sp ++ c :: r ∧ (∀ c ∈ sp, c ∈ isSp) ∧ c ∉ isSp ∧
  Q .non (upd H x (.ins (RC K) dx (rf T (p + sp.length + 1) b)))
theorem app_ne {sp r : List Nat} {c : Nat} : sp ++ c :: r ≠ [] := by simp
theorem sc_Reader_expect : FnScope ["self", "sign"] ["self", "sign"] (defScope s_Reader_expect) := ⟨rfl, rfl, rfl, by decide +kernel, rfl, by decide +kernel, by decide +kernel⟩
theorem ok_Reader_expect (T : Tx K mg) : OkF P w K mg base d_Reader_expect ["self", "sign"] 2 (spRExpect K) := by
  have o_Reader_skip : OkF P w K mg base d_Reader_skip ["self"] 1 (spRSkip K) := ok_Reader_skip T
  have o_Reader_sign : OkF P w K mg base d_Reader_sign ["self"] 1 (spRSign K) := ok_Reader_sign T
  refine (okF T 18 (d := d_Reader_expect) rfl sc_Reader_expect (fun _ _ _ _ _ _ us hl => match us, hl with | [_, _], _ => rfl) ⟨rfl, rfl⟩ (fun vs H Q E h => ?_) (fun cdv A outer s H vs Q E hr h => ?_))
  · obtain ⟨x, dx, T, p, b, sp, r, c, rfl, _⟩ := h; rfl
  · obtain ⟨x, dx, tx, p, b, sp, r, c, rfl, hx, hz, hT, h1, h2, k⟩ := h
    refine ⟨_, (pss_cons (ps_expr (cm0 o_Reader_skip T.m_Reader_skip (hr.mono (by omega)) (pv 0)))
  (pss_cons (ps_if (pt_cmpR op_ne (cm0 o_Reader_sign T.m_Reader_sign (hr.mono (by omega)) (pv 0)) (pv 1) (nomark _))
  (pss_one ps_never)
  pss_nil)
  (pss_one (ps_fldaug (pv 0) pe_int in_add)))), ?_⟩
    have hp := drop_le hT app_ne
    have hc := at_drop (drop_add hT)
    refine ⟨_, rfl, x, dx, _, rfl, hx, rf_no (by decide +kernel) (by decide +kernel) (by decide +kernel), x, dx, tx, p, b, sp, c :: r, rfl, hx, hz, hp, hT, h1, (fun c' r' e => by cases e; exact h2), ?_⟩
    refine ⟨_, rfl, x, dx, _, rfl, upd_same, rf_no (by decide +kernel) (by decide +kernel) (by decide +kernel), x, dx, tx, _, b, c, rfl, upd_same, hz, hc.1, _, rfl, rfl, _, rfl, ?_⟩
    refine ite_f (by rw [decide_eq_true rfl]; rfl) ?_
    refine ⟨_, rfl, x, _, dx, _, _, rfl, upd_same, T.cls_Reader, T.n_Reader_place, rf_place _ _ _, _, _, rfl, rfl, dx, _, upd_same, rf_len, ?_⟩
    rw [step_place]
    exact k
/-- a row of signs and the place where it begins -/
def spRRun (K : PySem.W.Frag) : Sp := fun vs H Q _ => ∃ (x dx : Addr) (T : List Nat) (p : Nat) (b : Bool) (sp w r cs : List Nat), vs = [.ref x, .str (S cs)] ∧ H x = some (.ins (RC K) dx (rf T p b)) ∧ T.length ≤ 5000 ∧ p ≤ T.length ∧ T.drop p = sp ++ (w ++ r) ∧ (∀ c ∈ sp, c ∈ isSp) ∧
  (∀ c r', w ++ r = c :: r' → c ∉ isSp) ∧ (∀ c ∈ w, c ∈ cs) ∧ (∀ c r', r = c :: r' → c ∉ cs) ∧
  ∀ t, H t = none → Q (.ref t) (upd (upd H x (.ins (RC K) dx (rf T (p + sp.length + w.length) b))) t (.tup [.str (S w), .int ((p + sp.length : Nat) : Int)]))
theorem cutS_S {T w r : List Nat} {p : Nat} (hT : T.drop p = w ++ r) (hp : p ≤ T.length) : cutS (S T) (some (p : Int)) (some ((p + w.length : Nat) : Int)) = S w := by
  have hl : w.length + r.length = T.length - p := by rw [← List.length_append, ← hT, List.length_drop]
  unfold cutS
  rw [HT.sIx_nat, HT.sIx_nat, S_len]
  have e1 : min p T.length = p := by omega
  have e2 : min (p + w.length) T.length = p + w.length := by omega
  rw [e1, e2, show (S T).cps.toList = T from rfl, hT, show p + w.length - p = w.length by omega]
  simp
theorem sc_Reader_run : FnScope ["self", "signs", "begin"] ["self", "signs"] (defScope s_Reader_run) := ⟨rfl, rfl, rfl, by decide +kernel, rfl, by decide +kernel, by decide +kernel⟩
theorem ok_Reader_run (T : Tx K mg) : OkF P w K mg base d_Reader_run ["self", "signs"] 2 (spRRun K) := by
  have o_Reader_skip : OkF P w K mg base d_Reader_skip ["self"] 1 (spRSkip K) := ok_Reader_skip T
  refine (okF T 19 (d := d_Reader_run) rfl sc_Reader_run (fun _ _ _ _ _ _ us hl => match us, hl with | [_, _], _ => rfl) ⟨rfl, rfl⟩ (fun vs H Q E h => ?_) (fun cdv A outer s H vs Q E hr h => ?_))
  · obtain ⟨x, dx, T, p, b, sp, wd, r, cs, rfl, _⟩ := h; rfl
  · obtain ⟨x, dx, tx, p, b, sp, wd, r, cs, rfl, hx, hz, hp, hT, h1, h2, h3, h4, k⟩ := h
    refine ⟨_, (pss_cons (ps_expr (cm0 o_Reader_skip T.m_Reader_skip (hr.mono (by omega)) (pv 0)))
  (pss_cons (ps_set (i := 2) sc_Reader_run.nd rfl (Or.inl rfl) (pe_fld (pv 0) rfl))
  (pss_cons (ps_while PassesOwn.never (PW.pt (pw_and (pt_cmpR op_lt (pe_fld (pv 0) rfl) (pe_callB call_len_str (by rfl) T.z_len (by decide +kernel) (pa_cons (pe_fld (pv 0) rfl) pa_nil)) (nomark _)) (pw_and1 (pt_cmpR op_in_sign (pe_ix ix_str (pe_fld (pv 0) rfl) (pe_fld (pv 0) rfl) (fun _ _ => rfl)) (pv 1) rfl))))
  (pss_one (ps_fldaug (pv 0) pe_int in_add)))
  (pss_one (ps_ret (pe_tup (pa_cons (pe_slice sl_str (pe_fld (pv 0) rfl) (po_some (pv 2)) (po_some (pe_fld (pv 0) rfl))) (pa_cons (pv 2) pa_nil)))))))), ?_⟩
    have hT2 := drop_add hT
    have hp2 : p + sp.length ≤ tx.length := by
      have := congrArg List.length hT
      simp only [List.length_drop, List.length_append] at this
      omega
    refine ⟨_, rfl, x, dx, _, rfl, hx, rf_no (by decide +kernel) (by decide +kernel) (by decide +kernel), x, dx, tx, p, b, sp, wd ++ r, rfl, hx, hz, hp, hT, h1, h2, ?_⟩
    refine ⟨_, rfl, x, _, dx, _, _, rfl, upd_same, T.cls_Reader, T.n_Reader_place, rf_place _ _ _, ?_⟩
    refine loop_row (K := K) (x := x) (dx := dx) (T := tx) (w := wd) (r := r) (cs := cs) (p := p + sp.length) (b := b) hT2 hp2 h3 h4 upd_same ?_ ?_ ?_
    · intro q hq1 hq2 Q' k1 k2
      refine ⟨_, rfl, x, _, dx, _, _, rfl, upd_same, T.cls_Reader, T.n_Reader_place, rf_place _ _ _, _, rfl, x, _, dx, _, _, rfl, upd_same, T.cls_Reader, T.n_Reader_text, rf_text _ _ _, _, rfl, small_le (by rw [S_len]; omega), _, _, rfl, rfl, _, rfl, ?_⟩
      by_cases e : q = tx.length
      · exact ite_f (decide_eq_false (by rw [S_len]; omega)) (k1 e)
      · have hl : q < tx.length := by omega
        refine ite_t (decide_eq_true (by rw [S_len]; omega)) ?_
        have hc := List.getElem?_eq_getElem hl
        exact ⟨_, rfl, x, _, dx, _, _, rfl, upd_same, T.cls_Reader, T.n_Reader_text, rf_text _ _ _, _, rfl, x, _, dx, _, _, rfl, upd_same, T.cls_Reader, T.n_Reader_place, rf_place _ _ _, _, _, _, rfl, rfl, small_le (by rw [S_len]; omega), at_S hc, _, rfl, _, _, rfl, rfl, _, rfl, k2 _ hc⟩
    · intro q hq D' k1
      refine ⟨_, rfl, x, _, dx, _, _, rfl, upd_same, T.cls_Reader, T.n_Reader_place, rf_place _ _ _, _, _, rfl, rfl, dx, _, upd_same, rf_len, ?_⟩
      rw [step_place]
      exact k1
    · rw [upd_upd]
      refine ⟨_, rfl, x, _, dx, _, _, rfl, upd_same, T.cls_Reader, T.n_Reader_text, rf_text _ _ _, _, rfl, _, rfl, _, rfl, x, _, dx, _, _, rfl, upd_same, T.cls_Reader, T.n_Reader_place, rf_place _ _ _, _, rfl, _, rfl, small_le (by rw [S_len]; omega), _, rfl, by show 2 ≤ sizeLine; decide, fun t ht => ?_⟩
      rw [cutS_S hT2 hp2]
      refine k t ?_
      by_cases e : t = x
      · rw [e, upd_same] at ht; cases ht
      · rw [upd_ne e] at ht; exact ht
def lts : List Nat := [97, 98, 99, 100, 101, 102, 103, 104, 105, 106, 107, 108, 109, 110, 111, 112, 113, 114, 115, 116, 117, 118, 119, 120, 121, 122]
theorem lts_eq : ("abcdefghijklmnopqrstuvwxyz" : Str) = S lts := by decide +kernel
theorem mem_lts {c : Nat} : c ∈ lts ↔ ltr c := by
  unfold ltr
  constructor
  · intro h
    have : ∀ c ∈ lts, 97 ≤ c ∧ c ≤ 122 := by decide
    exact this c h
  · rintro ⟨h1, h2⟩
    have : ∀ n, n < 26 → 97 + n ∈ lts := by decide
    have := this (c - 97) (by omega)
    rwa [show 97 + (c - 97) = c by omega] at this
def digs : List Nat := [48, 49, 50, 51, 52, 53, 54, 55, 56, 57]
theorem digs_eq : ("0123456789" : Str) = S digs := by decide +kernel
theorem mem_digs {c : Nat} : c ∈ digs ↔ 48 ≤ c ∧ c ≤ 57 := by
  constructor
  · intro h
    have : ∀ c ∈ digs, 48 ≤ c ∧ c ≤ 57 := by decide
    exact this c h
  · rintro ⟨h1, h2⟩
    have : ∀ n, n < 10 → 48 + n ∈ digs := by decide
    have := this (c - 48) (by omega)
    rwa [show 48 + (c - 48) = c by omega] at this
theorem str_ne {w : List Nat} (h : w ≠ []) : decide (V.str (S w) = V.str ("" : Str)) = false := decide_eq_false fun e => h (S_inj (V.str.inj e : S w = S []))
def spRWord (K : PySem.W.Frag) : Sp := fun vs H Q _ => ∃ (x dx : Addr) (T : List Nat) (p : Nat) (b : Bool) (sp w r : List Nat), vs = [.ref x] ∧ H x = some (.ins (RC K) dx (rf T p b)) ∧ T.length ≤ 5000 ∧ T.drop p = sp ++ (w ++ r) ∧ (∀ c ∈ sp, c ∈ isSp) ∧ nmOk w ∧ (∀ c r', r = c :: r' → ¬ ltr c) ∧
  ∀ t H', Kp (only x) H H' → H' x = some (.ins (RC K) dx (rf T (p + sp.length + w.length) b)) → H' t = some (.tup [.str (S w), .int ((p + sp.length : Nat) : Int)]) → Q (.ref t) H'
theorem sp_ltr {c : Nat} (h : ltr c) : c ∉ isSp := by
  unfold ltr at h
  unfold isSp
  simp only [List.mem_cons, List.not_mem_nil, or_false]
  omega
theorem sc_Reader_word : FnScope ["self", "word", "begin"] ["self"] (defScope s_Reader_word) := ⟨rfl, rfl, rfl, by decide +kernel, rfl, by decide +kernel, by decide +kernel⟩
theorem ok_Reader_word (T : Tx K mg) : OkF P w K mg base d_Reader_word ["self"] 3 (spRWord K) := by
  have o_Reader_run : OkF P w K mg base d_Reader_run ["self", "signs"] 2 (spRRun K) := ok_Reader_run T
  have o_Reader_sign : OkF P w K mg base d_Reader_sign ["self"] 1 (spRSign K) := ok_Reader_sign T
  refine (okF T 20 (d := d_Reader_word) rfl sc_Reader_word (fun _ _ _ _ _ _ us hl => match us, hl with | [_], _ => rfl) ⟨rfl, rfl⟩ (fun vs H Q E h => ?_) (fun cdv A outer s H vs Q E hr h => ?_))
  · obtain ⟨x, dx, T, p, b, sp, wd, r, rfl, _⟩ := h; rfl
  · obtain ⟨x, dx, tx, p, b, sp, wd, r, rfl, hx, hz, hT, h1, h2, h3, k⟩ := h
    refine ⟨_, (pss_cons (ps_asg (cm o_Reader_run T.m_Reader_run (hr.mono (by omega)) (pv 0) (pa_cons (pe_gS T.c_LETTERS_notation) pa_nil)) (pg_tup rfl (pgs_cons (pg_name (i := 1) sc_Reader_word.nd rfl (Or.inl rfl)) (pgs_cons (pg_name (i := 2) sc_Reader_word.nd rfl (Or.inl rfl)) pgs_nil))))
  (pss_cons (ps_if (pt_cmpR op_eq (pv 1) pe_str (nomark _))
  (pss_one (ps_expr (cm0 o_Reader_sign T.m_Reader_sign (hr.mono (by omega)) (pv 0))))
  pss_nil)
  (pss_cons (ps_if (pt_not (pt_chain op_le op_le pe_int (pe_callB call_len_str (by rfl) T.z_len (by decide +kernel) (pa_cons (pv 1) pa_nil)) (pe_gI T.c_NAME_MOST)))
  (pss_one ps_never)
  pss_nil)
  (pss_one (ps_ret (pe_tup (pa_cons (pv 1) (pa_cons (pv 2) pa_nil)))))))), ?_⟩
    have hne : wd ≠ [] := fun e => by have := h2.1; rw [e] at this; simp at this
    have hp : p ≤ tx.length := drop_le hT (by simp [hne])
    refine ⟨_, rfl, x, dx, _, rfl, hx, rf_no (by decide +kernel) (by decide +kernel) (by decide +kernel), x, dx, tx, p, b, sp, wd, r, lts, by rw [lts_eq]; rfl, hx, hz, hp, hT, h1, ?_, fun c hc => mem_lts.mpr (h2.2.2 c hc), fun c r' e => fun hm => h3 c r' e (mem_lts.mp hm), fun t ht => ?_⟩
    · intro c r' e
      cases wd with
      | nil => exact absurd rfl hne
      | cons c0 wr =>
        cases e
        exact sp_ltr (h2.2.2 _ List.mem_cons_self)
    refine ⟨t, _, rfl, SqT.of upd_same, rfl, _, _, rfl, _, _, rfl, rfl, ?_⟩
    refine ⟨_, rfl, rfl, _, rfl, ?_⟩
    refine ite_f (str_ne hne) ?_
    have hl1 := h2.1
    have hl2 := h2.2.1
    refine ⟨_, rfl, _, rfl, small_le (by rw [S_len]; omega), _, _, rfl, rfl, _, rfl, ?_⟩
    refine ite_t (decide_eq_true (by rw [S_len]; omega)) ?_
    refine ⟨_, _, rfl, rfl, _, rfl, ?_⟩
    refine ite_f (by rw [decide_eq_true (by rw [S_len]; omega)]; rfl) ?_
    refine ⟨_, rfl, _, rfl, by show 2 ≤ sizeLine; decide, fun t2 ht2 => ?_⟩
    have nx : x ≠ t := fun e => by rw [← e, hx] at ht; cases ht
    have hx2 : (upd (upd H x (.ins (RC K) dx (rf tx (p + sp.length + wd.length) b))) t (.tup [.str (S wd), .int ((p + sp.length : Nat) : Int)])) x = some (.ins (RC K) dx (rf tx (p + sp.length + wd.length) b)) := by
      rw [upd_ne nx]; exact upd_same
    have k1 : Kp (only x) H (upd H x (.ins (RC K) dx (rf tx (p + sp.length + wd.length) b))) := (Kp.refl _ _).upd (only_self x)
    have ht' : (upd H x (.ins (RC K) dx (rf tx (p + sp.length + wd.length) b))) t = none := by
      rw [upd_ne (Ne.symm nx)]
      exact ht
    exact k t2 _ ((k1.trans (Kp.of (same_new ht' _))).trans (Kp.of (same_new ht2 _))) (same_new ht2 _ _ _ hx2) upd_same
def spRNat (K : PySem.W.Frag) : Sp := fun vs H Q _ => ∃ (x dx : Addr) (T : List Nat) (p : Nat) (b : Bool) (n : Nat) (most : Int) (r : List Nat), vs = [.ref x, .int most] ∧ H x = some (.ins (RC K) dx (rf T p b)) ∧ T.length ≤ 5000 ∧ T.drop p = (48 + n) :: r ∧ n ≤ 9 ∧ (n : Int) ≤ most ∧ (∀ c r', r = c :: r' → c ∉ digs) ∧
  Q (.int n) (upd H x (.ins (RC K) dx (rf T (p + 1) b)))
theorem int_dig : ∀ n : Nat, n ≤ 9 → PySem.intText? (S [48 + n]) = some (n : Int) := by
  intro n h
  match n, h with
  | 0, _ | 1, _ | 2, _ | 3, _ | 4, _ | 5, _ | 6, _ | 7, _ | 8, _ | 9, _ => decide +kernel
theorem sc_Reader_natural : FnScope ["self", "most", "begin", "word"] ["self", "most"] (defScope s_Reader_natural) := ⟨rfl, rfl, rfl, by decide +kernel, rfl, by decide +kernel, by decide +kernel⟩
theorem ok_Reader_natural (T : Tx K mg) : OkF P w K mg base d_Reader_natural ["self", "most"] 2 (spRNat K) := by
  have o_Reader_sign : OkF P w K mg base d_Reader_sign ["self"] 1 (spRSign K) := ok_Reader_sign T
  refine (okF T 21 (d := d_Reader_natural) rfl sc_Reader_natural (fun _ _ _ _ _ _ us hl => match us, hl with | [_, _], _ => rfl) ⟨rfl, rfl⟩ (fun vs H Q E h => ?_) (fun cdv A outer s H vs Q E hr h => ?_))
  · obtain ⟨x, dx, T, p, b, n, most, r, rfl, _⟩ := h; rfl
  · obtain ⟨x, dx, tx, p, b, n, most, r, rfl, hx, hz, hT, hn, hm, h4, k⟩ := h
    refine ⟨_, (pss_cons (ps_set (i := 2) sc_Reader_natural.nd rfl (Or.inl rfl) (pe_fld (pv 0) rfl))
  (pss_cons (ps_while PassesOwn.never (PW.pt (pw_and (pt_cmpR op_lt (pe_fld (pv 0) rfl) (pe_callB call_len_str (by rfl) T.z_len (by decide +kernel) (pa_cons (pe_fld (pv 0) rfl) pa_nil)) (nomark _)) (pw_and1 (pt_cmpR op_in_sign (pe_ix ix_str (pe_fld (pv 0) rfl) (pe_fld (pv 0) rfl) (fun _ _ => rfl)) (pe_gS T.c_FIGURES) rfl))))
  (pss_one (ps_fldaug (pv 0) pe_int in_add)))
  (pss_cons (ps_set (i := 3) sc_Reader_natural.nd rfl (Or.inl rfl) (pe_slice sl_str (pe_fld (pv 0) rfl) (po_some (pv 2)) (po_some (pe_fld (pv 0) rfl))))
  (pss_cons (ps_if (pt_cmpR op_eq (pv 3) pe_str (nomark _))
  (pss_one (ps_expr (cm0 o_Reader_sign T.m_Reader_sign (hr.mono (by omega)) (pv 0))))
  pss_nil)
  (pss_cons (ps_if (PW.pt (pw_or (pt_cmpR op_eq (pv 3) pe_str (nomark _)) (pw_or (pt_cmpR op_gt (pe_callB call_len_str (by rfl) T.z_len (by decide +kernel) (pa_cons (pv 3) pa_nil)) pe_int (nomark _)) (pw_or (PW.pt (pw_and (pt_cmpR op_eq (pe_ix ix_str (pv 3) pe_int (fun _ _ => rfl)) pe_str (nomark _)) (pw_and1 (pt_cmpR op_ne (pv 3) pe_str (nomark _))))) (pw_or1 (pt_cmpR op_gt (pe_callTy call_int_str (by rfl) T.z_int (by decide +kernel) (pa_cons (pv 3) pa_nil)) (pv 1) (nomark _)))))))
  (pss_one ps_never)
  pss_nil)
  (pss_one (ps_ret (pe_callTy call_int_str (by rfl) T.z_int (by decide +kernel) (pa_cons (pv 3) pa_nil))))))))), ?_⟩
    have hT' : tx.drop p = [48 + n] ++ r := hT
    have hp := (at_drop hT).2.1
    refine ⟨_, rfl, x, _, dx, _, _, rfl, hx, T.cls_Reader, T.n_Reader_place, rf_place _ _ _, ?_⟩
    refine loop_row (K := K) (x := x) (dx := dx) (T := tx) (w := [48 + n]) (r := r) (cs := digs) (p := p) (b := b) hT' (by omega) (fun c hc => by rw [List.mem_singleton.mp hc]; exact mem_digs.mpr (by omega)) h4 hx ?_ ?_ ?_
    · intro q hq1 hq2 Q' k1 k2
      refine ⟨_, rfl, x, _, dx, _, _, rfl, upd_same, T.cls_Reader, T.n_Reader_place, rf_place _ _ _, _, rfl, x, _, dx, _, _, rfl, upd_same, T.cls_Reader, T.n_Reader_text, rf_text _ _ _, _, rfl, small_le (by rw [S_len]; omega), _, _, rfl, rfl, _, rfl, ?_⟩
      by_cases e : q = tx.length
      · exact ite_f (decide_eq_false (by rw [S_len]; omega)) (k1 e)
      · have hl : q < tx.length := by omega
        refine ite_t (decide_eq_true (by rw [S_len]; omega)) ?_
        have hc := List.getElem?_eq_getElem hl
        exact ⟨_, rfl, x, _, dx, _, _, rfl, upd_same, T.cls_Reader, T.n_Reader_text, rf_text _ _ _, _, rfl, x, _, dx, _, _, rfl, upd_same, T.cls_Reader, T.n_Reader_place, rf_place _ _ _, _, _, _, rfl, rfl, small_le (by rw [S_len]; omega), at_S hc, _, _, rfl, rfl, _, rfl, k2 _ hc⟩
    · intro q hq D' k1
      refine ⟨_, rfl, x, _, dx, _, _, rfl, upd_same, T.cls_Reader, T.n_Reader_place, rf_place _ _ _, _, _, rfl, rfl, dx, _, upd_same, rf_len, ?_⟩
      rw [step_place]
      exact k1
    · refine ⟨_, rfl, x, _, dx, _, _, rfl, upd_same, T.cls_Reader, T.n_Reader_text, rf_text _ _ _, _, rfl, _, rfl, _, rfl, x, _, dx, _, _, rfl, upd_same, T.cls_Reader, T.n_Reader_place, rf_place _ _ _, _, rfl, _, rfl, small_le (by rw [S_len]; omega), ?_⟩
      rw [cutS_S hT' (by omega)]
      refine ⟨_, rfl, rfl, _, rfl, ?_⟩
      refine ite_f (str_ne (by simp)) ?_
      refine ⟨_, rfl, rfl, _, rfl, ?_⟩
      refine ite_f (str_ne (by simp)) ?_
      refine ⟨_, rfl, _, rfl, small_le (by rw [S_len]; simp), _, _, rfl, rfl, _, rfl, ?_⟩
      refine ite_f (decide_eq_false (by rw [S_len]; simp)) ?_
      refine ⟨_, rfl, _, _, 48 + n, rfl, rfl, small_le (by rw [S_len]; simp), at_S (q := 0) rfl, rfl, _, rfl, ?_⟩
      have eI : (tCB (fun xs H Q => ∃ a n, xs = [.str a] ∧ PySem.intText? a = some n ∧ a.length ≤ 640 ∧ Q (.int n) H) (tCons (tVar 3) tNil)) = (tCB (fun xs H Q => ∃ a n, xs = [.str a] ∧ PySem.intText? a = some n ∧ a.length ≤ 640 ∧ Q (.int n) H) (tCons (tVar 3) tNil)) := rfl
      have fin : ∀ Hx : Hp, True := fun _ => trivial
      by_cases h0 : n = 0
      · subst h0
        refine ite_t (by decide +kernel) ?_
        refine ⟨_, rfl, rfl, _, rfl, ?_⟩
        refine ite_f (by decide +kernel) ?_
        refine ⟨_, rfl, _, _, rfl, int_dig 0 hn, by rw [S_len]; decide, _, rfl, _, _, rfl, rfl, _, rfl, ?_⟩
        refine ite_f (decide_eq_false (by omega)) ?_
        exact ⟨_, rfl, _, _, rfl, int_dig 0 hn, by rw [S_len]; decide, k⟩
      · refine ite_f (decide_eq_false fun e => h0 ?_) ?_
        · have := S_inj (V.str.inj e : S [48 + n] = S [48])
          simpa using this
        refine iteF ?_
        refine ⟨_, rfl, _, _, rfl, int_dig n hn, by rw [S_len]; simp, _, rfl, _, _, rfl, rfl, _, rfl, ?_⟩
        refine ite_f (decide_eq_false (by omega)) ?_
        exact ⟨_, rfl, _, _, rfl, int_dig n hn, by rw [S_len]; simp, k⟩
theorem sw3 {T b : List Nat} {p : Nat} (hp : p ≤ T.length) : Txt.startswith3 (S T) (S b) (p : Int) = ((T.drop p).take b.length == b) := by
  have e1 : fromIndex (S T).length (p : Int) = p := by
    unfold fromIndex
    rw [if_neg (by omega)]
    omega
  unfold Txt.startswith3
  rw [e1, StrLaws.subAt_eq]
  show (decide (p + (S b).length ≤ (S T).length) && ((T.drop p).take (S b).length == b)) = _
  rw [S_len, S_len]
  by_cases h : (T.drop p).take b.length = b
  · have h2 := congrArg List.length h
    rw [List.length_take, List.length_drop] at h2
    rw [decide_eq_true (by omega)]
    rfl
  · have : ((T.drop p).take b.length == b) = false := by simpa using h
    rw [this, Bool.and_false]
def spROffset (K : PySem.W.Frag) : Sp := fun vs H Q _ => ∃ (x dx : Addr) (T : List Nat) (p : Nat) (b : Bool) (o : Nat) (sp r : List Nat), vs = [.ref x] ∧ H x = some (.ins (RC K) dx (rf T p b)) ∧ T.length ≤ 5000 ∧ (∀ c ∈ sp, c ∈ isSp) ∧
  ((o = 0 ∧ T.drop p = sp ++ r ∧ r ≠ [] ∧ (∀ c r', r = c :: r' → c ∉ isSp) ∧ r.take 7 ≠ cOffset ∧ Q (.int 0) (upd H x (.ins (RC K) dx (rf T (p + sp.length) b)))) ∨
   (o ≠ 0 ∧ o ≤ 9 ∧ T.drop p = sp ++ (cOffset ++ (48 + o) :: r) ∧ (∀ c r', r = c :: r' → c ∉ digs) ∧ Q (.int o) (upd H x (.ins (RC K) dx (rf T (p + sp.length + 8) b)))))
theorem sc_Reader_offset : FnScope ["self"] ["self"] (defScope s_Reader_offset) := ⟨rfl, rfl, rfl, by decide +kernel, rfl, by decide +kernel, by decide +kernel⟩
theorem ok_Reader_offset (T : Tx K mg) : OkF P w K mg base d_Reader_offset ["self"] 3 (spROffset K) := by
  have o_Reader_skip : OkF P w K mg base d_Reader_skip ["self"] 1 (spRSkip K) := ok_Reader_skip T
  have o_Reader_natural : OkF P w K mg base d_Reader_natural ["self", "most"] 2 (spRNat K) := ok_Reader_natural T
  refine (okF T 22 (d := d_Reader_offset) rfl sc_Reader_offset (fun _ _ _ _ _ _ us hl => match us, hl with | [_], _ => rfl) ⟨rfl, rfl⟩ (fun vs H Q E h => ?_) (fun cdv A outer s H vs Q E hr h => ?_))
  · obtain ⟨x, dx, T, p, b, o, sp, r, rfl, _⟩ := h; rfl
  · obtain ⟨x, dx, tx, p, b, o, sp, r, rfl, hx, hz, h1, h⟩ := h
    refine ⟨_, (pss_cons (ps_expr (cm0 o_Reader_skip T.m_Reader_skip (hr.mono (by omega)) (pv 0)))
  (pss_cons (ps_if (pt_not (pt_val (pe_bm PySem.F.plainAttrs_str PySem.F.slot_str_startswith PySem.F.type_str_startswith mt_startswith3 (pe_fld (pv 0) rfl) (pa_cons (pe_gS T.c_OFFSET) (pa_cons (pe_fld (pv 0) rfl) pa_nil)))))
  (pss_one (ps_ret pe_int))
  pss_nil)
  (pss_cons (ps_fldaug (pv 0) (pe_callB call_len_str (by rfl) T.z_len (by decide +kernel) (pa_cons (pe_gS T.c_OFFSET) pa_nil)) in_add)
  (pss_one (ps_ret (cm o_Reader_natural T.m_Reader_natural (hr.mono (by omega)) (pv 0) (pa_cons (pe_gI T.c_OFFSET_MOST) pa_nil))))))), ?_⟩
    rcases h with ⟨rfl, hT, hne, h2, h3, k⟩ | ⟨h0, h9, hT, h2, k⟩
    · have hp : p ≤ tx.length := drop_le hT (by simp [hne])
      have hp2 := drop_le (drop_add hT) hne
      refine ⟨_, rfl, x, dx, _, rfl, hx, rf_no (by decide +kernel) (by decide +kernel) (by decide +kernel), x, dx, tx, p, b, sp, r, rfl, hx, hz, hp, hT, h1, h2, ?_⟩
      refine ⟨_, rfl, x, _, dx, _, _, rfl, upd_same, T.cls_Reader, T.n_Reader_text, rf_text _ _ _, rfl, _, rfl, x, _, dx, _, _, rfl, upd_same, T.cls_Reader, T.n_Reader_place, rf_place _ _ _, _, _, _, rfl, rfl, _, rfl, ?_⟩
      refine ite_t ?_ k
      have e : Txt.startswith3 (S tx) ("offset:" : Str) ((p + sp.length : Nat) : Int) = false := by
        rw [show (("offset:" : Str)) = S cOffset from rfl, sw3 hp2, drop_add hT]
        have h3' : ¬ List.take cOffset.length r = cOffset := h3
        simpa using h3'
      rw [e]
      rfl
    · have hp : p ≤ tx.length := drop_le hT (by simp)
      have hp2 := drop_le (drop_add hT) (by simp)
      refine ⟨_, rfl, x, dx, _, rfl, hx, rf_no (by decide +kernel) (by decide +kernel) (by decide +kernel), x, dx, tx, p, b, sp, _, rfl, hx, hz, hp, hT, h1, ?_, ?_⟩
      · intro c r' e
        cases e
        decide
      refine ⟨_, rfl, x, _, dx, _, _, rfl, upd_same, T.cls_Reader, T.n_Reader_text, rf_text _ _ _, rfl, _, rfl, x, _, dx, _, _, rfl, upd_same, T.cls_Reader, T.n_Reader_place, rf_place _ _ _, _, _, _, rfl, rfl, _, rfl, ?_⟩
      refine ite_f ?_ ?_
      · have e : Txt.startswith3 (S tx) ("offset:" : Str) ((p + sp.length : Nat) : Int) = true := by
          rw [show (("offset:" : Str)) = S cOffset from rfl, sw3 hp2, drop_add hT]
          simp
        rw [e]
        rfl
      refine ⟨_, rfl, x, _, dx, _, _, rfl, upd_same, T.cls_Reader, T.n_Reader_place, rf_place _ _ _, _, rfl, by decide, _, _, rfl, rfl, dx, _, upd_same, rf_len, ?_⟩
      have e7 : upd (upd H x (.ins (RC K) dx (rf tx (p + sp.length) b))) x (.ins (RC K) dx (putF "place" (.int (((p + sp.length : Nat) : Int) + (("offset:" : Str).length : Int))) (rf tx (p + sp.length) b))) = upd H x (.ins (RC K) dx (rf tx (p + sp.length + 7) b)) := by
        rw [upd_upd]
        have e : putF "place" (.int (((p + sp.length : Nat) : Int) + (("offset:" : Str).length : Int))) (rf tx (p + sp.length) b) = rf tx (p + sp.length + 7) b := rf_setp tx (p + sp.length) (p + sp.length + 7) b
        rw [e]
      rw [e7]
      have hT2 := drop_add (drop_add hT)
      refine ⟨_, rfl, x, dx, _, rfl, upd_same, rf_no (by decide +kernel) (by decide +kernel) (by decide +kernel), x, dx, tx, _, b, o, 9, r, rfl, upd_same, hz, hT2, h9, by omega, h2, ?_⟩
      rw [upd_upd]
      exact k
def kyR (pl : Option Nat) : Ky → Prop
  | .num n => pl.isSome = true ∧ n ≤ 9
  | .wd w => nmOk w ∧ (pl.isSome = true → w ∈ cats ∨ w = cOther)
def spRKey (K : PySem.W.Frag) : Sp := fun vs H Q _ => ∃ (x dx : Addr) (T : List Nat) (p : Nat) (b : Bool) (pl : Option Nat) (ky : Ky) (sp r : List Nat), vs = [.ref x, .str (S (cKind pl))] ∧ H x = some (.ins (RC K) dx (rf T p b)) ∧ T.length ≤ 5000 ∧ (∀ c ∈ sp, c ∈ isSp) ∧
  T.drop p = sp ++ (fKy ky ++ 32 :: r) ∧ kyR pl ky ∧ ∀ t H', Kp (only x) H H' → H' x = some (.ins (RC K) dx (rf T (p + sp.length + (fKy ky).length) b)) → H' t = some (.tup [kW ky, .int ((p + sp.length : Nat) : Int)]) → Q (.ref t) H'
theorem cats_in {w : List Nat} : inV (.str (S w)) [.str "zero", .str "one", .str "two", .str "few", .str "many"] = decide (w ∈ cats) := by
  have e : ([.str "zero", .str "one", .str "two", .str "few", .str "many"] : List V) = cats.map fun c => V.str (S c) := by decide +kernel
  rw [e]
  have h : ∀ l : List (List Nat), inV (.str (S w)) (l.map fun c => V.str (S c)) = decide (w ∈ l) := by
    intro l
    induction l with
    | nil => rfl
    | cons c r ih =>
      have e1 : inV (.str (S w)) ((c :: r).map fun c => V.str (S c)) = (eqV (V.str (S c)) (.str (S w)) || inV (.str (S w)) (r.map fun c => V.str (S c))) := rfl
      have e2 : eqV (V.str (S c)) (.str (S w)) = decide (c = w) := by
        show decide (S c = S w) = _
        by_cases h : c = w
        · subst h; simp
        · rw [decide_eq_false h, decide_eq_false fun e => h (S_inj e)]
      rw [e1, ih, e2]
      by_cases h : c = w
      · subst h; simp
      · simp [h, Ne.symm h, eq_comm]
  exact h cats
theorem sc_Reader_key : FnScope ["self", "kind", "begin", "word"] ["self", "kind"] (defScope s_Reader_key) := ⟨rfl, rfl, rfl, by decide +kernel, rfl, by decide +kernel, by decide +kernel⟩
theorem ok_Reader_key (T : Tx K mg) : OkF P w K mg base d_Reader_key ["self", "kind"] 4 (spRKey K) := by
  have o_Reader_skip : OkF P w K mg base d_Reader_skip ["self"] 1 (spRSkip K) := ok_Reader_skip T
  have o_Reader_sign : OkF P w K mg base d_Reader_sign ["self"] 1 (spRSign K) := ok_Reader_sign T
  have o_Reader_natural : OkF P w K mg base d_Reader_natural ["self", "most"] 2 (spRNat K) := ok_Reader_natural T
  have o_Reader_word : OkF P w K mg base d_Reader_word ["self"] 3 (spRWord K) := ok_Reader_word T
  refine (okF T 23 (d := d_Reader_key) rfl sc_Reader_key (fun _ _ _ _ _ _ us hl => match us, hl with | [_, _], _ => rfl) ⟨rfl, rfl⟩ (fun vs H Q E h => ?_) (fun cdv A outer s H vs Q E hr h => ?_))
  · obtain ⟨x, dx, T, p, b, pl, ky, sp, r, rfl, _⟩ := h; rfl
  · obtain ⟨x, dx, tx, p, b, pl, ky, sp, r, rfl, hx, hz, h1, hT, hk, k⟩ := h
    refine ⟨_, (pss_cons (ps_expr (cm0 o_Reader_skip T.m_Reader_skip (hr.mono (by omega)) (pv 0)))
  (pss_cons (ps_set (i := 2) sc_Reader_key.nd rfl (Or.inl rfl) (pe_fld (pv 0) rfl))
  (Evl.pss_cut (ps_if (PW.pt (pw_and (pt_cmpR op_eq (pv 1) (pe_gS T.c_PLURAL) (nomark _)) (pw_and1 (pt_cmpR op_eq (cm0 o_Reader_sign T.m_Reader_sign (hr.mono (by omega)) (pv 0)) pe_str (nomark _)))))
  (pss_cons (ps_fldaug (pv 0) pe_int in_add)
  (pss_one (ps_ret (pe_tup (pa_cons (cm o_Reader_natural T.m_Reader_natural (hr.mono (by omega)) (pv 0) (pa_cons (pe_gI T.c_EXACT_MOST) pa_nil)) (pa_cons (pv 2) pa_nil))))))
  pss_nil)
  (pss_cons (ps_asg (cm0 o_Reader_word T.m_Reader_word (hr.mono (by omega)) (pv 0)) (pg_tup rfl (pgs_cons (pg_name (i := 3) sc_Reader_key.nd rfl (Or.inl rfl)) (pgs_cons (pg_name (i := 2) sc_Reader_key.nd rfl (Or.inl rfl)) pgs_nil))))
  (pss_cons (ps_if (PW.pt (pw_and (pt_cmpR op_eq (pv 1) (pe_gS T.c_PLURAL) (nomark _)) (pw_and (pt_cmpR op_notIn_seq (pv 3) (pe_gR T.c_CATEGORIES) rfl) (pw_and1 (pt_cmpR op_ne (pv 3) (pe_gS T.c_OTHER) (nomark _))))))
  (pss_one ps_never)
  pss_nil)
  (pss_one (ps_ret (pe_tup (pa_cons (pv 3) (pa_cons (pv 2) pa_nil)))))))))), ?_⟩
    have hp : p ≤ tx.length := drop_le hT (by simp)
    have hT2 := drop_add hT
    have hhd : ∀ c r', fKy ky ++ 32 :: r = c :: r' → c ∉ isSp := by
      intro c r' e
      cases ky with
      | num n => cases e; decide
      | wd w =>
        have hw := hk.1
        cases w with
        | nil => have := hw.1; simp at this
        | cons c0 wr => cases e; exact sp_ltr (hw.2.2 _ List.mem_cons_self)
    refine ⟨_, rfl, x, dx, _, rfl, hx, rf_no (by decide +kernel) (by decide +kernel) (by decide +kernel), x, dx, tx, p, b, sp, _, rfl, hx, hz, hp, hT, h1, hhd, ?_⟩
    refine ⟨_, rfl, x, _, dx, _, _, rfl, upd_same, T.cls_Reader, T.n_Reader_place, rf_place _ _ _, ?_⟩
    have k1 : Kp (only x) H (upd H x (.ins (RC K) dx (rf tx (p + sp.length) b))) := (Kp.refl _ _).upd (only_self x)
    refine ⟨fun σ H' => σ = [some (.ref x), some (.str (S (cKind pl))), some (.int ((p + sp.length : Nat) : Int)), none] ∧ H' = upd H x (.ins (RC K) dx (rf tx (p + sp.length) b)) ∧ ∃ w, ky = .wd w, ?_, ?_⟩
    · cases pl with
      | none =>
        refine ⟨_, rfl, rfl, _, rfl, ?_⟩
        refine ite_f (by decide +kernel) (iteF ?_)
        refine ⟨rfl, rfl, ?_⟩
        cases ky with
        | num n => exact absurd hk.1 (by decide)
        | wd w => exact ⟨w, rfl⟩
      | some o =>
        refine ⟨_, rfl, rfl, _, rfl, ?_⟩
        refine ite_t (show decide (V.str (S cPlural) = V.str "plural") = true by decide +kernel) ?_
        cases ky with
        | num n =>
          have hc := at_drop (show tx.drop (p + sp.length) = 61 :: ((48 + n) :: 32 :: r) from hT2)
          refine ⟨_, rfl, x, dx, _, rfl, upd_same, rf_no (by decide +kernel) (by decide +kernel) (by decide +kernel), x, dx, tx, _, b, 61, rfl, upd_same, hz, hc.1, rfl, _, rfl, ?_⟩
          refine ite_t (by decide +kernel) ?_
          refine ⟨_, rfl, x, _, dx, _, _, rfl, upd_same, T.cls_Reader, T.n_Reader_place, rf_place _ _ _, _, _, rfl, rfl, dx, _, upd_same, rf_len, ?_⟩
          rw [step_place]
          have h9 : n ≤ 9 := hk.2
          refine ⟨_, rfl, x, dx, _, rfl, upd_same, rf_no (by decide +kernel) (by decide +kernel) (by decide +kernel), x, dx, tx, _, b, n, 999, 32 :: r, rfl, upd_same, hz, hc.2.2, h9, by omega, (fun c r' e => by cases e; decide), _, rfl, by show 2 ≤ sizeLine; decide, fun t ht => ?_⟩
          rw [upd_upd] at ht ⊢
          have k2 : Kp (only x) H (upd H x (.ins (RC K) dx (rf tx (p + sp.length + 1 + 1) b))) := (Kp.refl _ _).upd (only_self x)
          exact k t _ (k2.trans (Kp.of (same_new ht _))) (same_new ht _ _ _ upd_same) upd_same
        | wd wd =>
          have hw := hk.1
          cases wd with
          | nil => have := hw.1; simp at this
          | cons c0 wr =>
            have hc := at_drop (show tx.drop (p + sp.length) = c0 :: (wr ++ 32 :: r) from hT2)
            have hl := hw.2.2 c0 List.mem_cons_self
            refine ⟨_, rfl, x, dx, _, rfl, upd_same, rf_no (by decide +kernel) (by decide +kernel) (by decide +kernel), x, dx, tx, _, b, c0, rfl, upd_same, hz, hc.1, rfl, _, rfl, ?_⟩
            refine ite_f (decide_eq_false fun e => ?_) ⟨rfl, rfl, _, rfl⟩
            have := S_inj (V.str.inj e : S [c0] = S [61])
            simp at this
            unfold ltr at hl
            omega
    · rintro σ H' ⟨rfl, rfl, wd, rfl⟩
      have hw : nmOk wd := hk.1
      refine ⟨_, rfl, x, dx, _, rfl, upd_same, rf_no (by decide +kernel) (by decide +kernel) (by decide +kernel), x, dx, tx, _, b, [], wd, 32 :: r, rfl, upd_same, hz, hT2, (fun c hc => by simp at hc), hw, (fun c r' e => by cases e; unfold ltr; omega), fun t H2 k2 hx2 ht2 => ?_⟩
      refine ⟨t, _, rfl, SqT.of ht2, rfl, _, _, rfl, _, _, rfl, rfl, ?_⟩
      have fin : ∀ t3, H2 t3 = none → Q (.ref t3) (upd H2 t3 (.tup [.str (S wd), .int ((p + sp.length + ([] : List Nat).length : Nat) : Int)])) := fun t3 ht3 =>
        k t3 _ ((k1.trans k2).trans (Kp.of (same_new ht3 _))) (same_new ht3 _ _ _ hx2) upd_same
      cases pl with
      | none =>
        refine ⟨_, rfl, rfl, _, rfl, ?_⟩
        refine ite_f (by decide +kernel) (iteF ?_)
        exact ⟨_, rfl, _, rfl, by show 2 ≤ sizeLine; decide, fin⟩
      | some o =>
        refine ⟨_, rfl, rfl, _, rfl, ?_⟩
        refine ite_t (show decide (V.str (S cPlural) = V.str "plural") = true by decide +kernel) ?_
        refine ⟨_, rfl, _, _, rfl, .inr (T.tupC _), rfl, rfl, _, rfl, ?_⟩
        rcases hk.2 rfl with hc | hc
        · refine ite_f ?_ (iteF ?_)
          · show (!inV (.str (S wd)) [.str "zero", .str "one", .str "two", .str "few", .str "many"]) = false
            rw [cats_in, decide_eq_true hc]
            rfl
          · exact ⟨_, rfl, _, rfl, by show 2 ≤ sizeLine; decide, fin⟩
        · subst hc
          refine ite_t (by decide +kernel) ?_
          refine ⟨_, rfl, rfl, _, rfl, ?_⟩
          refine ite_f (by decide +kernel) ?_
          exact ⟨_, rfl, _, rfl, by show 2 ≤ sizeLine; decide, fin⟩
def spREsc (K : PySem.W.Frag) : Sp := fun vs H Q _ => ∃ (x dx : Addr) (T : List Nat) (p : Nat) (b : Bool) (c : Nat) (r : List Nat), vs = [.ref x] ∧ H x = some (.ins (RC K) dx (rf T p b)) ∧ T.length ≤ 5000 ∧ T.drop p = esc c ++ r ∧ (c = 39 ∨ c = 123 ∨ c = 125 ∨ c = 35) ∧
  Q (.str (S [c])) (upd H x (.ins (RC K) dx (rf T (p + (esc c).length) b)))
def escs : List Nat := [123, 125, 35, 39]
theorem esc_two {c d : Nat} {r : List Nat} (hc : c ∈ escs) (hd : d ∈ escs) : ((esc c ++ r).take (esc d).length == esc d) = decide (d = c) := by
  have : ∀ c ∈ escs, ∀ d ∈ escs, ∀ r : List Nat, ((esc c ++ r).take (esc d).length == esc d) = decide (d = c) := by
    intro c hc d hd r
    unfold escs at hc hd
    simp only [List.mem_cons, List.not_mem_nil, or_false] at hc hd
    rcases hc with rfl | rfl | rfl | rfl <;> rcases hd with rfl | rfl | rfl | rfl <;> simp [esc]
  exact this c hc d hd r
theorem sc_Reader_escape : FnScope ["self", "sign", "written"] ["self"] (defScope s_Reader_escape) := ⟨rfl, rfl, rfl, by decide +kernel, rfl, by decide +kernel, by decide +kernel⟩
theorem ok_Reader_escape (T : Tx K mg) : OkF P w K mg base d_Reader_escape ["self"] 2 (spREsc K) := by
  have o_format_text : OkF P w K mg base d_format_text ["text"] 1 spFText := ok_format_text T
  refine (okF T 26 (d := d_Reader_escape) rfl sc_Reader_escape (fun _ _ _ _ _ _ us hl => match us, hl with | [_], _ => rfl) ⟨rfl, rfl⟩ (fun vs H Q E h => ?_) (fun cdv A outer s H vs Q E hr h => ?_))
  · obtain ⟨x, dx, T, p, b, c, r, rfl, _⟩ := h; rfl
  · obtain ⟨x, dx, tx, p, b, c, r, rfl, hx, hz, hT, hc, k⟩ := h
    refine ⟨_, (pss_cons (ps_for PassesOwn.never rfl (pi_str (pe_gS T.c_ESCAPED)) (pg_name (i := 1) sc_Reader_escape.nd rfl (Or.inl rfl))
  (pss_cons (ps_set (i := 2) sc_Reader_escape.nd rfl (Or.inl rfl) (cg o_format_text T.g_format_text (hr.mono (by omega)) (pa_cons (pv 1) pa_nil)))
  (pss_one (ps_if (pt_val (pe_bm PySem.F.plainAttrs_str PySem.F.slot_str_startswith PySem.F.type_str_startswith mt_startswith3 (pe_fld (pv 0) rfl) (pa_cons (pv 2) (pa_cons (pe_fld (pv 0) rfl) pa_nil))))
  (pss_cons (ps_fldaug (pv 0) (pe_callB call_len_str (by rfl) T.z_len (by decide +kernel) (pa_cons (pv 2) pa_nil)) in_add)
  (pss_one (ps_ret (pv 1))))
  pss_nil))))
  (pss_one ps_never)), ?_⟩
    have hp : p ≤ tx.length := drop_le hT (by
      rcases hc with rfl | rfl | rfl | rfl <;> simp [esc])
    have hce : c ∈ escs := by
      unfold escs
      rcases hc with rfl | rfl | rfl | rfl <;> simp
    have ee : ("{}#'" : Str) = S escs := by decide +kernel
    refine ⟨_, congrArg V.str ee, for_S (l := escs) (fun i σ H' => ∃ v1 v2 : Option V, σ = [some (.ref x), v1, v2] ∧ H' = H ∧ ∀ j, j < i → escs[j]? ≠ some c) ⟨none, none, rfl, rfl, fun j h => by omega⟩ ?_ ?_⟩
    · rintro i d σ H' hi ⟨v1, v2, rfl, rfl, hj⟩
      have hd : d ∈ escs := List.mem_of_getElem? hi
      refine ⟨_, rfl, [d], rfl, by simp; have := esc_len d; omega, ?_⟩
      have ed : ([d] : List Nat).flatMap esc = esc d := by simp
      rw [ed]
      refine ⟨_, rfl, x, _, dx, _, _, rfl, hx, T.cls_Reader, T.n_Reader_text, rf_text _ _ _, rfl, _, rfl, _, rfl, x, _, dx, _, _, rfl, hx, T.cls_Reader, T.n_Reader_place, rf_place _ _ _, _, _, _, rfl, rfl, _, rfl, ?_⟩
      rw [sw3 hp, hT, esc_two hce hd]
      by_cases e : d = c
      · subst e
        refine ite_t (decide_eq_true rfl) ?_
        refine ⟨_, rfl, x, _, dx, _, _, rfl, hx, T.cls_Reader, T.n_Reader_place, rf_place _ _ _, _, rfl, _, rfl, small_le (by rw [S_len]; have := esc_len d; omega), _, _, rfl, rfl, dx, _, hx, rf_len, ?_⟩
        have e7 : putF "place" (.int ((p : Int) + ((S (esc d)).length : Int))) (rf tx p b) = rf tx (p + (esc d).length) b := by
          rw [S_len]
          exact rf_setp tx p (p + (esc d).length) b
        rw [e7]
        exact ⟨_, rfl, k⟩
      · refine ite_f (decide_eq_false e) ?_
        refine ⟨_, _, rfl, rfl, fun j hji he => ?_⟩
        by_cases e2 : j = i
        · subst e2
          rw [hi] at he
          exact e (Option.some.inj he)
        · exact hj j (by omega) he
    · rintro σ H' ⟨v1, v2, rfl, rfl, hj⟩
      exfalso
      obtain ⟨j, hj1, hj2⟩ := List.mem_iff_getElem.mp hce
      exact hj j hj1 (by rw [List.getElem?_eq_getElem hj1, hj2])
def spIsSign : Sp := fun vs H Q _ => ∃ c : Nat, vs = [.str (S [c])] ∧ chOk c ∧ Q (.bl true) H
theorem lt_one {a b : Nat} : decide ((S [a]).cps.toList < (S [b]).cps.toList) = decide (a < b) := by
  show decide ([a] < [b]) = _
  by_cases h : a < b
  · rw [decide_eq_true h]
    exact decide_eq_true (List.cons_lt_cons_iff.mpr (.inl h))
  · rw [decide_eq_false h]
    refine decide_eq_false fun e => ?_
    rcases List.cons_lt_cons_iff.mp e with e | ⟨_, e⟩
    · exact h e
    · exact absurd e (by decide)
theorem sc_is_sign : FnScope ["sign"] ["sign"] (defScope s_is_sign) := ⟨rfl, rfl, rfl, by decide +kernel, rfl, by decide +kernel, by decide +kernel⟩
theorem ok_is_sign (T : Tx K mg) : OkF P w K mg base d_is_sign ["sign"] 1 spIsSign := by
  refine (okF T 14 (d := d_is_sign) rfl sc_is_sign (fun _ _ _ _ _ _ us hl => match us, hl with | [_], _ => rfl) ⟨rfl, rfl⟩ (fun vs H Q E h => ?_) (fun cdv A outer s H vs Q E hr h => ?_))
  · obtain ⟨c, rfl, _⟩ := h; rfl
  · obtain ⟨c, rfl, hc, k⟩ := h
    refine ⟨_, (pss_one (ps_ret (pe_or (pe_cmpR op_eq (pv 0) pe_str (nomark _)) (pe_one (pe_chain op_le_str op_le_str pe_str (pv 0) pe_str))))), ?_⟩
    refine ⟨_, rfl, rfl, _, rfl, ?_⟩
    by_cases h0 : c = 10
    · subst h0
      exact ite_t (by decide +kernel) k
    · refine ite_f (decide_eq_false fun e => h0 ?_) ?_
      · have := S_inj (V.str.inj e : S [c] = S [10])
        simpa using this
      have h1 : 32 ≤ c ∧ c ≤ 126 := by unfold chOk at hc; omega
      have e1 : (!decide ((S [c]).cps.toList < (" " : Str).cps.toList)) = true := by
        rw [show (" " : Str) = S [32] from rfl, lt_one, decide_eq_false (by omega)]
        rfl
      have e2 : (!decide (("~" : Str).cps.toList < (S [c]).cps.toList)) = true := by
        rw [show ("~" : Str) = S [126] from rfl, lt_one, decide_eq_false (by omega)]
        rfl
      refine ⟨_, rfl, _, _, rfl, rfl, _, rfl, ?_⟩
      refine ite_t e1 ?_
      refine ⟨_, _, rfl, rfl, ?_⟩
      rw [e2]
      exact k
end
end Mw
/-! MwS -/
set_option Elab.async false
set_option linter.all false
set_option maxRecDepth 100000
set_option maxHeartbeats 4000000
namespace Mw
open PySem PySem.Spec PyProof.Rows L2
/-! ## the reader's recursion -/
theorem Live.kp {F : Fz} {H H' : Hp} {x : Addr} (l : Live F H) (k : Kp (only x) H H') (hx : H' x ≠ none) : Live F H' := fun a ha => by
  by_cases e : a = x
  · rw [e]; exact hx
  · intro hn
    cases q : H a with
    | none => exact l a ha q
    | some o => rw [k a o (only_no e) q] at hn; cases hn
theorem Kp.toF {F : Fz} {H H' : Hp} {x : Addr} (k : Kp (only x) H H') (hF : F x = true) : Kp F H H' := k.mono fun a h => by
  have e : a = x := by simpa [only] using h
  rw [e]; exact hF
theorem Kp.mut {F : Fz} {H H' : Hp} {p : Addr} {o : HO} (k : Kp F H H') (h : H p = none) : Kp F H (L2.upd H' p o) := fun a u hf ha => by
  rw [upd_ne (ne_of_none ha h)]
  exact k a u hf ha
theorem Kp.at_ {H H' : Hp} {x a : Addr} {o : HO} (k : Kp (only x) H H') (h : a ≠ x) (ha : H a = some o) : H' a = some o := k a o (only_no h) ha
section
variable {P : Program} {w : World} {K : PySem.W.Frag} {mg : Str → Option Value} {base : Heap}
/-- what a message's text is followed by -/
def endR (r : List Nat) : Prop := ∀ c r', r = c :: r' → c = 125
def one {α : Type} (nd : Nd α) : Prop := ∀ s, nd = .text s → ∃ c, s = [c]
def spRMsg (K : PySem.W.Frag) (n : Nat) : Sp := fun vs H Q _ => ∃ (F : Fz) (x dx : Addr) (T : List Nat) (p : Nat) (b i : Bool) (m : Sub n) (r : List Nat), vs = [.ref x, .bl i] ∧ H x = some (.ins (RC K) dx (rf T p b)) ∧ T.length ≤ 5000 ∧
  T.drop p = fmt n m ++ r ∧ endR r ∧ ok n i m ∧ F x = true ∧ Live F H ∧
  ∀ a H', Kp (only x) H H' → H' x = some (.ins (RC K) dx (rf T (p + (fmt n m).length) b)) → Dh K F H' (.ref a) (dat n (expl n m)) → Q (.ref a) H'
def spRNode (K : PySem.W.Frag) (n : Nat) : Sp := fun vs H Q _ => ∃ (F : Fz) (x dx : Addr) (T : List Nat) (p : Nat) (b : Bool) (nd : Nd (Sub n)) (r : List Nat), vs = [.ref x] ∧ H x = some (.ins (RC K) dx (rf T p b)) ∧ T.length ≤ 5000 ∧
  T.drop p = fNd (fmt n) nd ++ r ∧ ndOk b (ok n) nd ∧ one nd ∧ F x = true ∧ Live F H ∧
  ∀ a H', Kp (only x) H H' → H' x = some (.ins (RC K) dx (rf T (p + (fNd (fmt n) nd).length) b)) → Dh K F H' (.ref a) (dNd (dat n) (nd.map (expl n))) → Q (.ref a) H'
def spRBr (K : PySem.W.Frag) (n : Nat) : Sp := fun vs H Q _ => ∃ (F : Fz) (x dx : Addr) (T : List Nat) (p : Nat) (b : Bool) (nd : Nd (Sub n)) (r : List Nat), vs = [.ref x] ∧ H x = some (.ins (RC K) dx (rf T p b)) ∧ T.length ≤ 5000 ∧
  T.drop p = fNd (fmt n) nd ++ r ∧ ndOk b (ok n) nd ∧ (∀ s, nd ≠ .text s) ∧ nd ≠ .num ∧ F x = true ∧ Live F H ∧
  ∀ a H', Kp (only x) H H' → H' x = some (.ins (RC K) dx (rf T (p + (fNd (fmt n) nd).length) b)) → Dh K F H' (.ref a) (dNd (dat n) (nd.map (expl n))) → Q (.ref a) H'
def chTail {n : Nat} (cs : List (Ky × Sub n)) (ot : Sub n) : List Nat := cs.flatMap (fCase (fmt n)) ++ cOther ++ [32, 123] ++ fmt n ot ++ [125, 125]
def spRChoice (K : PySem.W.Frag) (n : Nat) : Sp := fun vs H Q _ => ∃ (F : Fz) (x dx : Addr) (T : List Nat) (p : Nat) (b : Bool) (pl : Option Nat) (name : List Nat) (cs : List (Ky × Sub n)) (ot : Sub n) (r : List Nat), vs = [.ref x, .str (S name), .str (S (cKind pl))] ∧
  H x = some (.ins (RC K) dx (rf T p b)) ∧ T.length ≤ 5000 ∧ T.drop p = [44, 32] ++ (fOff pl ++ (chTail cs ot ++ r)) ∧ ndOk b (ok n) (.ch pl name cs ot) ∧ F x = true ∧ Live F H ∧
  ∀ a H', Kp (only x) H H' → H' x = some (.ins (RC K) dx (rf T (p + 2 + (fOff pl).length + (chTail cs ot).length) b)) → Dh K F H' (.ref a) (dNd (dat n) (Nd.map (expl n) (.ch pl name cs ot))) → Q (.ref a) H'
theorem units_ok {n : Nat} {i : Bool} {m : List (Nd (Sub n))} (h : ∀ nd ∈ m, ndOk i (ok n) nd) : ∀ nd ∈ units m, ndOk i (ok n) nd ∧ one nd := by
  intro nd hnd
  unfold units at hnd
  obtain ⟨y, hy, hm⟩ := List.mem_flatMap.mp hnd
  have hy2 := h y hy
  cases y with
  | text s =>
    obtain ⟨c, hc, rfl⟩ := List.mem_map.mp hm
    refine ⟨fun c' hc' => ?_, fun s' e => by cases e; exact ⟨_, rfl⟩⟩
    rw [List.mem_singleton.mp hc']
    exact hy2 c hc
  | _ =>
    have e := List.mem_singleton.mp hm
    subst e
    exact ⟨hy2, fun s' e => by cases e⟩
/-- a node's notation has a first sign, and that is no closing brace -/
theorem node_first {n : Nat} {i : Bool} {nd : Nd (Sub n)} (h1 : ndOk i (ok n) nd) (h2 : one nd) : ∃ c w, fNd (fmt n) nd = c :: w ∧ c ≠ 125 := by
  cases nd with
  | text s =>
    obtain ⟨c, rfl⟩ := h2 s rfl
    have e : fNd (fmt n) (.text [c]) = esc c := by simp [fNd]
    rw [e]
    unfold esc
    split
    · exact ⟨_, _, rfl, by decide⟩
    · split
      · exact ⟨_, _, rfl, by decide⟩
      · rename_i h; exact ⟨_, _, rfl, fun e => h (.inr (.inl e))⟩
  | shw s => exact ⟨_, _, rfl, by decide⟩
  | num => exact ⟨_, _, rfl, by decide⟩
  | ch pl name cs ot => exact ⟨_, _, rfl, by decide⟩
theorem len_flat {α : Type} {f : α → List Nat} : ∀ {l : List α}, (∀ x ∈ l, f x ≠ []) → l.length ≤ (l.flatMap f).length
  | [], _ => by simp
  | x :: r, h => by
    have ih := len_flat (f := f) (l := r) fun y hy => h y (List.mem_cons_of_mem _ hy)
    have h1 : 1 ≤ (f x).length := List.length_pos_iff.mpr (h x List.mem_cons_self)
    rw [List.flatMap_cons, List.length_append, List.length_cons]
    omega
theorem sc_Reader_message : FnScope ["self", "inside", "before", "found"] ["self", "inside"] (defScope s_Reader_message) := ⟨rfl, rfl, rfl, by decide +kernel, rfl, by decide +kernel, by decide +kernel⟩
theorem ok_Reader_message0 (T : Tx K mg) : OkF P w K mg base d_Reader_message ["self", "inside"] 4 (spRMsg K 0) := by
  refine OkF.mono (j := 1) (k := 4) ?_ (by decide)
  refine (okF T 28 (d := d_Reader_message) rfl sc_Reader_message (fun _ _ _ _ _ _ us hl => match us, hl with | [_, _], _ => rfl) ⟨rfl, rfl⟩ (fun vs H Q E h => ?_) (fun cdv A outer s H vs Q E hr h => ?_))
  · obtain ⟨_, _, _, _, _, _, _, m, _⟩ := h; exact nomatch m
  · obtain ⟨_, _, _, _, _, _, _, m, _⟩ := h; exact nomatch m
theorem ok_Reader_message_step (T : Tx K mg) {n : Nat} (o_Reader_node : OkF P w K mg base d_Reader_node ["self"] (4 * n + 7) (spRNode K n)) : OkF P w K mg base d_Reader_message ["self", "inside"] (4 * (n + 1) + 4) (spRMsg K (n + 1)) := by
  refine (okF T 28 (d := d_Reader_message) rfl sc_Reader_message (fun _ _ _ _ _ _ us hl => match us, hl with | [_, _], _ => rfl) ⟨rfl, rfl⟩ (fun vs H Q E h => ?_) (fun cdv A outer s H vs Q E hr h => ?_))
  · obtain ⟨F, x, dx, tx, p, b, i, m, r, rfl, _⟩ := h; rfl
  · obtain ⟨F, x, dx, tx, p, b, i, m, r, rfl, hx, hz, hT, hr0, ⟨hk1, hk⟩, hF, lv, k⟩ := h
    refine ⟨_, (pss_cons (ps_set (i := 2) sc_Reader_message.nd rfl (Or.inl rfl) (pe_fld (pv 0) rfl))
  (pss_cons (ps_fld (pv 0) (pv 1) rfl)
  (pss_cons (ps_set (i := 3) sc_Reader_message.nd rfl (Or.inl rfl) (pe_lst pa_nil))
  (pss_cons (ps_while PassesOwn.never (PW.pt (pw_and (pt_cmpR op_lt (pe_fld (pv 0) rfl) (pe_callB call_len_str (by rfl) T.z_len (by decide +kernel) (pa_cons (pe_fld (pv 0) rfl) pa_nil)) (nomark _)) (pw_and1 (pt_cmpR op_ne (pe_ix ix_str (pe_fld (pv 0) rfl) (pe_fld (pv 0) rfl) (fun _ _ => rfl)) pe_str (nomark _)))))
  (pss_one (ps_expr (pe_bm PySem.F.plainAttrs_list PySem.F.slot_list_append PySem.F.type_list_append mt_append (pv 3) (pa_cons (cm0 o_Reader_node T.m_Reader_node (hr.mono (by omega)) (pv 0)) pa_nil)))))
  (pss_cons (ps_fld (pv 0) (pv 2) rfl)
  (pss_one (ps_ret (pv 3)))))))), ?_⟩
    have hU := units_ok hk
    have eU : fmt (n + 1) m = (units m).flatMap (fNd (fmt n)) := by rw [fmt_units]; rfl
    rw [eU] at hT k
    have eX : expl (n + 1) m = ((units m).map (Nd.map (expl n)) : List (Nd (Sub n))) := rfl
    have zU : (units m).length ≤ 5000 := by
      have h1 := len_flat (f := fNd (fmt n)) (l := units m) fun nd hnd => by
        obtain ⟨c, w, e, _⟩ := node_first (hU nd hnd).1 (hU nd hnd).2
        rw [e]; simp
      have h2 := congrArg List.length hT
      rw [List.length_drop, List.length_append] at h2
      omega
    generalize hUe : units m = U at *
    -- before, inside, found
    refine ⟨_, rfl, x, _, dx, _, _, rfl, hx, T.cls_Reader, T.n_Reader_inside, rf_inside _ _ _, _, rfl, _, rfl, x, _, dx, _, rfl, hx, T.cls_Reader, T.n_Reader_inside, rf_len, ?_⟩
    rw [rf_seti]
    refine ⟨Nat.zero_le _, fun f hf => ?_⟩
    have nfx : f ≠ x := fun e => by rw [e, upd_same] at hf; cases hf
    have hfH : H f = none := by rw [upd_ne nfx] at hf; exact hf
    refine ⟨fun mm σ' H' => ∃ j vs, mm = U.length - j ∧ j ≤ U.length ∧ σ' = [some (.ref x), some (.bl i), some (.bl b), some (.ref f)] ∧ H' x = some (.ins (RC K) dx (rf tx (p + ((U.take j).flatMap (fNd (fmt n))).length) i)) ∧ H' f = some (.lst vs) ∧
      Kp (only x) H H' ∧ DhA K (add F f) H' vs ((U.take j).map fun nd => dNd (dat n) (nd.map (expl n))), ⟨_, 0, [], rfl, Nat.zero_le _, rfl, ?_, upd_same, ((Kp.refl _ _).upd (only_self x)).mut hfH, .nil⟩, ?_⟩
    · rw [upd_ne (Ne.symm nfx), upd_same]
      rfl
    · rintro mm σ' H' ⟨j, vs, rfl, hj, rfl, hx', hf', hkp, hvs⟩
      have hTj : tx.drop (p + ((U.take j).flatMap (fNd (fmt n))).length) = (U.drop j).flatMap (fNd (fmt n)) ++ r := by
        refine drop_add ?_
        rw [hT]
        conv => lhs; rw [← List.take_append_drop j U, List.flatMap_append, List.append_assoc]
      generalize hq : p + ((U.take j).flatMap (fNd (fmt n))).length = q at *
      refine ⟨_, rfl, x, _, dx, _, _, rfl, hx', T.cls_Reader, T.n_Reader_place, rf_place _ _ _, _, rfl, x, _, dx, _, _, rfl, hx', T.cls_Reader, T.n_Reader_text, rf_text _ _ _, _, rfl, small_le (by rw [S_len]; omega), _, _, rfl, rfl, _, rfl, ?_⟩
      have lv' : Live (add F f) H' := (lv.kp hkp (by rw [hx']; simp)).add (by rw [hf']; simp)
      by_cases hend : j = U.length
      · rw [hend, List.drop_length, List.flatMap_nil, List.nil_append] at hTj
        rw [hend, List.take_length] at hvs hq
        have hlt : q < tx.length → tx[q]? = some 125 := fun hl => by
          rw [List.drop_eq_getElem_cons hl] at hTj
          have := hr0 _ _ hTj.symm
          rw [List.getElem?_eq_getElem hl, this]
        have fin : ∀ Q0 : VK, (∀ a H', Kp (only x) H H' → H' x = some (.ins (RC K) dx (rf tx q b)) → Dh K F H' (.ref a) (dat (n + 1) (expl (n + 1) m)) → Q0 (.ref a) H') → Q0 (.ref f) (upd H' x (.ins (RC K) dx (rf tx q b))) := fun Q0 k0 => by
          refine k0 f _ (hkp.upd (only_self x)) upd_same ?_
          have fF : F f = false := lv.new hfH
          have hvs2 := (DhA.updF (o := HO.ins (RC K) dx (rf tx q b)) hvs (add_of hF)).weak add_sub
          rw [eX, dat_eq, List.map_map]
          refine .lst ?_ hvs2
          rw [Av_get fF, upd_ne nfx]
          exact hf'
        have fin2 := fin Q (by rw [← hq]; exact k)
        by_cases hl : q < tx.length
        · refine ite_t (decide_eq_true (by rw [S_len]; omega)) ?_
          refine ⟨_, rfl, x, _, dx, _, _, rfl, hx', T.cls_Reader, T.n_Reader_text, rf_text _ _ _, _, rfl, x, _, dx, _, _, rfl, hx', T.cls_Reader, T.n_Reader_place, rf_place _ _ _, _, _, 125, rfl, rfl, small_le (by rw [S_len]; omega), at_S (hlt hl), rfl, _, rfl, ?_⟩
          refine ite_f (by decide +kernel) ?_
          refine ⟨_, rfl, _, rfl, x, _, dx, _, rfl, hx', T.cls_Reader, T.n_Reader_inside, rf_len, ?_⟩
          rw [rf_seti]
          exact ⟨_, rfl, fin2⟩
        · refine ite_f (decide_eq_false (by rw [S_len]; omega)) (iteF ?_)
          refine ⟨_, rfl, _, rfl, x, _, dx, _, rfl, hx', T.cls_Reader, T.n_Reader_inside, rf_len, ?_⟩
          rw [rf_seti]
          exact ⟨_, rfl, fin2⟩
      · have hjl : j < U.length := by omega
        have hnd := List.getElem?_eq_getElem hjl
        generalize hnde : U[j] = nd at hnd
        have hm2 := hU nd (List.mem_of_getElem? hnd)
        obtain ⟨c, wr, ec, hc⟩ := node_first hm2.1 hm2.2
        rw [List.drop_eq_getElem_cons hjl, hnde, List.flatMap_cons, List.append_assoc] at hTj
        have hc2 := at_drop (hTj.trans (by rw [ec]; rfl))
        refine ite_t (decide_eq_true (by rw [S_len]; omega)) ?_
        refine ⟨_, rfl, x, _, dx, _, _, rfl, hx', T.cls_Reader, T.n_Reader_text, rf_text _ _ _, _, rfl, x, _, dx, _, _, rfl, hx', T.cls_Reader, T.n_Reader_place, rf_place _ _ _, _, _, c, rfl, rfl, small_le (by rw [S_len]; omega), at_S hc2.1, rfl, _, rfl, ?_⟩
        refine ite_t ?_ ?_
        · have : decide (V.str (S [c]) = V.str "}") = false := decide_eq_false fun e => hc (by
            have := S_inj (V.str.inj e : S [c] = S [125])
            simpa using this)
          rw [this]; rfl
        refine ⟨fun σ2 H2 => ∃ vs, σ2 = [some (.ref x), some (.bl i), some (.bl b), some (.ref f)] ∧ H2 x = some (.ins (RC K) dx (rf tx (p + ((U.take (j + 1)).flatMap (fNd (fmt n))).length) i)) ∧ H2 f = some (.lst vs) ∧
          Kp (only x) H H2 ∧ DhA K (add F f) H2 vs ((U.take (j + 1)).map fun nd => dNd (dat n) (nd.map (expl n))), fun σ2 H2 ⟨vs, h1, h2, h3, h4, h5⟩ => ⟨U.length - (j + 1), by omega, j + 1, vs, rfl, hjl, h1, h2, h3, h4, h5⟩, ?_⟩
        have lvs : vs.length = j := by
          have := DpAll.len hvs
          rw [List.length_map, List.length_take] at this
          omega
        refine ⟨_, rfl, .inl ⟨rfl, _, SqL.of hf'⟩, _, rfl, x, dx, _, rfl, hx', rf_no (by decide +kernel) (by decide +kernel) (by decide +kernel), add F f, x, dx, tx, q, i, nd, _, rfl, hx', hz, hTj, hm2.1, hm2.2, add_of hF, lv', fun t H2 k2 hx2 ht => ?_⟩
        have hf2 : H2 f = some (.lst vs) := k2.at_ nfx hf'
        refine ⟨f, vs, _, rfl, rfl, hf2, small_lt (by omega), ?_⟩
        refine ⟨vs ++ [.ref t], rfl, ?_, upd_same, (hkp.trans k2).mut hfH, ?_⟩
        · rw [upd_ne (Ne.symm nfx), hx2, flat_take hnd, List.length_append, ← hq, Nat.add_assoc]
        · rw [take_more hnd, List.map_append]
          exact DhA.updF (DpAll.snoc (hvs.kp (k2.toF (add_of hF))) ht) (add_self _ _)
theorem sgn (c d : Nat) : decide (V.str (S [c]) = V.str (S [d])) = decide (c = d) := by
  rw [dec_S]
  by_cases h : c = d
  · subst h; simp
  · simp [h]
theorem sc_Reader_node : FnScope ["self", "sign"] ["self"] (defScope s_Reader_node) := ⟨rfl, rfl, rfl, by decide +kernel, rfl, by decide +kernel, by decide +kernel⟩
theorem ok_Reader_node (T : Tx K mg) {n : Nat} (o_Reader_braces : OkF P w K mg base d_Reader_braces ["self"] (4 * n + 6) (spRBr K n)) : OkF P w K mg base d_Reader_node ["self"] (4 * n + 7) (spRNode K n) := by
  have o_Reader_sign : OkF P w K mg base d_Reader_sign ["self"] 1 (spRSign K) := ok_Reader_sign T
  have o_Reader_escape : OkF P w K mg base d_Reader_escape ["self"] 2 (spREsc K) := ok_Reader_escape T
  have o_is_sign : OkF P w K mg base d_is_sign ["sign"] 1 spIsSign := ok_is_sign T
  refine (okF T 27 (d := d_Reader_node) rfl sc_Reader_node (fun _ _ _ _ _ _ us hl => match us, hl with | [_], _ => rfl) ⟨rfl, rfl⟩ (fun vs H Q E h => ?_) (fun cdv A outer s H vs Q E hr h => ?_))
  · obtain ⟨F, x, dx, tx, p, b, nd, r, rfl, _⟩ := h; rfl
  · obtain ⟨F, x, dx, tx, p, b, nd, r, rfl, hx, hz, hT, hk, h1, hF, lv, k⟩ := h
    refine ⟨_, (pss_cons (ps_set (i := 1) sc_Reader_node.nd rfl (Or.inl rfl) (cm0 o_Reader_sign T.m_Reader_sign (hr.mono (by omega)) (pv 0)))
  (pss_cons (ps_if (pt_cmpR op_eq (pv 1) pe_str (nomark _))
  (pss_one (ps_ret (cm0 o_Reader_braces T.m_Reader_braces (hr.mono (by omega)) (pv 0))))
  pss_nil)
  (pss_cons (ps_if (pt_cmpR op_eq (pv 1) (pe_gS T.c_QUOTE) (nomark _))
  (pss_one (ps_ret (pe_tup (pa_cons (pe_gS T.c_TEXT) (pa_cons (cm0 o_Reader_escape T.m_Reader_escape (hr.mono (by omega)) (pv 0)) pa_nil)))))
  pss_nil)
  (pss_cons (ps_if (PW.pt (pw_and (pt_cmpR op_eq (pv 1) pe_str (nomark _)) (pw_and1 (pt_val (pe_fld (pv 0) rfl)))))
  (pss_cons (ps_fldaug (pv 0) pe_int in_add)
  (pss_one (ps_ret (pe_tup (pa_cons (pe_gS T.c_NUMBER) pa_nil)))))
  pss_nil)
  (pss_cons (ps_if (PW.pt (pw_or (pt_cmpR op_in_sign (pv 1) (pe_gS T.c_ESCAPED) rfl) (pw_or1 (pt_not (pt_val (cg o_is_sign T.g_is_sign (hr.mono (by omega)) (pa_cons (pv 1) pa_nil)))))))
  (pss_one ps_never)
  pss_nil)
  (pss_cons (ps_fldaug (pv 0) pe_int in_add)
  (pss_one (ps_ret (pe_tup (pa_cons (pe_gS T.c_TEXT) (pa_cons (pv 1) pa_nil))))))))))), ?_⟩
    obtain ⟨c, wr, ec, hc⟩ := node_first hk h1
    have hc2 := at_drop (hT.trans (by rw [ec]; rfl))
    refine ⟨_, rfl, x, dx, _, rfl, hx, rf_no (by decide +kernel) (by decide +kernel) (by decide +kernel), x, dx, tx, p, b, c, rfl, hx, hz, hc2.1, ?_⟩
    refine ⟨_, rfl, rfl, _, rfl, ?_⟩
    by_cases hbr : (∀ s, nd ≠ .text s) ∧ nd ≠ .num
    · have e : c = 123 := by
        cases nd with
        | text s => exact absurd rfl (hbr.1 s)
        | num => exact absurd rfl hbr.2
        | shw s => injection ec with e1 _; exact e1.symm
        | ch pl name cs ot => injection ec with e1 _; exact e1.symm
      subst e
      refine ite_t (by decide +kernel) ?_
      exact ⟨_, rfl, x, dx, _, rfl, hx, rf_no (by decide +kernel) (by decide +kernel) (by decide +kernel), F, x, dx, tx, p, b, nd, r, rfl, hx, hz, hT, hk, hbr.1, hbr.2, hF, lv, k⟩
    · cases nd with
      | shw s => exact absurd ⟨fun s' e => (nomatch e), fun e => (nomatch e)⟩ hbr
      | ch pl name cs ot => exact absurd ⟨fun s' e => (nomatch e), fun e => (nomatch e)⟩ hbr
      | num =>
        injection ec with e1 e2
        subst e1
        refine ite_f (by decide +kernel) ?_
        refine ⟨_, rfl, rfl, _, rfl, ?_⟩
        refine ite_f (by decide +kernel) ?_
        refine ⟨_, rfl, rfl, _, rfl, ?_⟩
        refine ite_t (by decide +kernel) ?_
        have hb : b = true := hk
        subst hb
        refine ⟨_, rfl, x, _, dx, _, _, rfl, hx, T.cls_Reader, T.n_Reader_inside, rf_inside _ _ _, _, rfl, ?_⟩
        refine iteT ?_
        refine ⟨_, rfl, x, _, dx, _, _, rfl, hx, T.cls_Reader, T.n_Reader_place, rf_place _ _ _, _, _, rfl, rfl, dx, _, hx, rf_len, ?_⟩
        have e7 : putF "place" (.int ((p : Int) + 1)) (rf tx p true) = rf tx (p + 1) true := rf_setp tx p (p + 1) true
        rw [e7]
        refine ⟨by show 1 ≤ sizeLine; decide, fun t ht => ?_⟩
        have nt : t ≠ x := fun e => by rw [e, upd_same] at ht; cases ht
        have htH : H t = none := by rw [upd_ne nt] at ht; exact ht
        refine k t _ (((Kp.refl _ _).upd (only_self x)).mut htH) ?_ ?_
        · rw [upd_ne (Ne.symm nt), upd_same]; rfl
        · exact .tup ((Av_get (lv.new htH)).trans upd_same) (.cons (.str _) .nil)
      | text s =>
        obtain ⟨c', rfl⟩ := h1 s rfl
        have hch : chOk c' := hk c' (List.mem_singleton.mpr rfl)
        have ee : fNd (fmt n) (.text [c']) = esc c' := by simp [fNd]
        rw [ee] at ec hT k
        by_cases hes : c' = 39 ∨ c' = 123 ∨ c' = 125 ∨ c' = 35
        · have e : c = 39 := by
            rcases hes with rfl | rfl | rfl | rfl <;> (injection ec with e1 _; exact e1.symm)
          subst e
          refine ite_f (by decide +kernel) ?_
          refine ⟨_, rfl, rfl, _, rfl, ?_⟩
          refine ite_t (by decide +kernel) ?_
          refine ⟨_, rfl, x, dx, _, rfl, hx, rf_no (by decide +kernel) (by decide +kernel) (by decide +kernel), x, dx, tx, p, b, c', r, rfl, hx, hz, hT, hes, ?_⟩
          refine ⟨by show 2 ≤ sizeLine; decide, fun t ht => ?_⟩
          have nt : t ≠ x := fun e => by rw [e, upd_same] at ht; cases ht
          have htH : H t = none := by rw [upd_ne nt] at ht; exact ht
          refine k t _ (((Kp.refl _ _).upd (only_self x)).mut htH) ?_ ?_
          · rw [upd_ne (Ne.symm nt), upd_same]
          · exact .tup ((Av_get (lv.new htH)).trans upd_same) (.cons (.str _) (.cons (.str _) .nil))
        · have h39 : c' ≠ 39 := fun e => hes (.inl e)
          have he : esc c' = [c'] := by
            unfold esc
            rw [if_neg h39, if_neg fun h => hes (.inr h)]
          rw [he] at ec k
          injection ec with e1 _
          subst e1
          refine ite_f ((sgn c' 123).trans (decide_eq_false fun e => hes (.inr (.inl e)))) ?_
          refine ⟨_, rfl, rfl, _, rfl, ?_⟩
          refine ite_f ((sgn c' 39).trans (decide_eq_false h39)) ?_
          refine ⟨_, rfl, rfl, _, rfl, ?_⟩
          refine ite_f ((sgn c' 35).trans (decide_eq_false fun e => hes (.inr (.inr (.inr e))))) (iteF ?_)
          refine ⟨_, rfl, c', _, rfl, rfl, _, rfl, ?_⟩
          refine ite_f (decide_eq_false ?_) ?_
          · show c' ∉ [123, 125, 35, 39]
            simp only [List.mem_cons, List.not_mem_nil, or_false]
            omega
          refine ⟨_, rfl, c', rfl, hch, _, rfl, ?_⟩
          refine ite_f rfl ?_
          refine ⟨_, rfl, x, _, dx, _, _, rfl, hx, T.cls_Reader, T.n_Reader_place, rf_place _ _ _, _, _, rfl, rfl, dx, _, hx, rf_len, ?_⟩
          have e7 : putF "place" (.int ((p : Int) + 1)) (rf tx p b) = rf tx (p + 1) b := rf_setp tx p (p + 1) b
          rw [e7]
          refine ⟨_, rfl, by show 2 ≤ sizeLine; decide, fun t ht => ?_⟩
          have nt : t ≠ x := fun e => by rw [e, upd_same] at ht; cases ht
          have htH : H t = none := by rw [upd_ne nt] at ht; exact ht
          refine k t _ (((Kp.refl _ _).upd (only_self x)).mut htH) ?_ ?_
          · rw [upd_ne (Ne.symm nt), upd_same]; rfl
          · exact .tup ((Av_get (lv.new htH)).trans upd_same) (.cons (.str _) (.cons (.str _) .nil))
theorem kind_nm (pl : Option Nat) : nmOk (cKind pl) := by
  cases pl with
  | none => exact ⟨by decide, by decide, by unfold ltr; decide⟩
  | some o => exact (show nmOk cPlural from ⟨by decide, by decide, by unfold ltr; decide⟩)
theorem kind_in (pl : Option Nat) : (!inV (.str (S (cKind pl))) [.str "select", .str "plural"]) = false := by
  cases pl with
  | none => show (!inV (.str (S cSelect)) [.str "select", .str "plural"]) = false; decide +kernel
  | some o => show (!inV (.str (S cPlural)) [.str "select", .str "plural"]) = false; decide +kernel
theorem sc_Reader_braces : FnScope ["self", "name", "begin", "kind"] ["self"] (defScope s_Reader_braces) := ⟨rfl, rfl, rfl, by decide +kernel, rfl, by decide +kernel, by decide +kernel⟩
theorem ok_Reader_braces (T : Tx K mg) {n : Nat} (o_Reader_choice : OkF P w K mg base d_Reader_choice ["self", "name", "kind"] (4 * n + 5) (spRChoice K n)) : OkF P w K mg base d_Reader_braces ["self"] (4 * n + 6) (spRBr K n) := by
  have o_Reader_sign : OkF P w K mg base d_Reader_sign ["self"] 1 (spRSign K) := ok_Reader_sign T
  have o_Reader_skip : OkF P w K mg base d_Reader_skip ["self"] 1 (spRSkip K) := ok_Reader_skip T
  have o_Reader_expect : OkF P w K mg base d_Reader_expect ["self", "sign"] 2 (spRExpect K) := ok_Reader_expect T
  have o_Reader_word : OkF P w K mg base d_Reader_word ["self"] 3 (spRWord K) := ok_Reader_word T
  refine (okF T 25 (d := d_Reader_braces) rfl sc_Reader_braces (fun _ _ _ _ _ _ us hl => match us, hl with | [_], _ => rfl) ⟨rfl, rfl⟩ (fun vs H Q E h => ?_) (fun cdv A outer s H vs Q E hr h => ?_))
  · obtain ⟨F, x, dx, tx, p, b, nd, r, rfl, _⟩ := h; rfl
  · obtain ⟨F, x, dx, tx, p, b, nd, r, rfl, hx, hz, hT, hk, h1, h2, hF, lv, k⟩ := h
    refine ⟨_, (pss_cons (ps_expr (cm o_Reader_expect T.m_Reader_expect (hr.mono (by omega)) (pv 0) (pa_cons pe_str pa_nil)))
  (pss_cons (ps_asg (cm0 o_Reader_word T.m_Reader_word (hr.mono (by omega)) (pv 0)) (pg_tup rfl (pgs_cons (pg_name (i := 1) sc_Reader_braces.nd rfl (Or.inl rfl)) (pgs_cons (pg_name (i := 2) sc_Reader_braces.nd rfl (Or.inl rfl)) pgs_nil))))
  (pss_cons (ps_expr (cm0 o_Reader_skip T.m_Reader_skip (hr.mono (by omega)) (pv 0)))
  (pss_cons (ps_if (pt_cmpR op_eq (cm0 o_Reader_sign T.m_Reader_sign (hr.mono (by omega)) (pv 0)) pe_str (nomark _))
  (pss_cons (ps_fldaug (pv 0) pe_int in_add)
  (pss_one (ps_ret (pe_tup (pa_cons (pe_gS T.c_SHOW) (pa_cons (pv 1) pa_nil))))))
  pss_nil)
  (pss_cons (ps_expr (cm o_Reader_expect T.m_Reader_expect (hr.mono (by omega)) (pv 0) (pa_cons pe_str pa_nil)))
  (pss_cons (ps_asg (cm0 o_Reader_word T.m_Reader_word (hr.mono (by omega)) (pv 0)) (pg_tup rfl (pgs_cons (pg_name (i := 3) sc_Reader_braces.nd rfl (Or.inl rfl)) (pgs_cons (pg_name (i := 2) sc_Reader_braces.nd rfl (Or.inl rfl)) pgs_nil))))
  (pss_cons (ps_if (pt_cmpR op_notIn_seq (pv 3) (pe_tup (pa_cons (pe_gS T.c_SELECT) (pa_cons (pe_gS T.c_PLURAL) pa_nil))) rfl)
  (pss_one ps_never)
  pss_nil)
  (pss_one (ps_ret (cm o_Reader_choice T.m_Reader_choice (hr.mono (by omega)) (pv 0) (pa_cons (pv 1) (pa_cons (pv 3) pa_nil)))))))))))), ?_⟩
    obtain ⟨name, rr, hT1, hnm, hrr, hcs⟩ : ∃ name rr, tx.drop p = 123 :: (name ++ rr) ∧ nmOk name ∧ (∀ c r', rr = c :: r' → ¬ ltr c ∧ c ∉ isSp) ∧
        ((nd = .shw name ∧ rr = 125 :: r) ∨ (∃ pl cs ot, nd = .ch pl name cs ot ∧ rr = 44 :: ([32] ++ (cKind pl ++ ([44, 32] ++ (fOff pl ++ (chTail cs ot ++ r))))))) := by
      cases nd with
      | text s => exact absurd rfl (h1 s)
      | num => exact absurd rfl h2
      | shw s =>
        refine ⟨s, 125 :: r, ?_, hk, fun c r' e => by cases e; exact ⟨by unfold ltr; decide, by decide⟩, .inl ⟨rfl, rfl⟩⟩
        rw [hT]
        simp [fNd]
      | ch pl name cs ot =>
        refine ⟨name, _, ?_, hk.1, fun c r' e => by cases e; exact ⟨by unfold ltr; decide, by decide⟩, .inr ⟨pl, cs, ot, rfl, rfl⟩⟩
        rw [hT]
        simp [fNd, chTail]
    have no : ∀ {q m}, m = ("expect" : Str) ∨ m = ("word" : Str) ∨ m = ("skip" : Str) ∨ m = ("sign" : Str) ∨ m = ("choice" : Str) → (rf tx q b).lookup m = none := by
      rintro q m (rfl | rfl | rfl | rfl | rfl) <;> exact rf_no (by decide +kernel) (by decide +kernel) (by decide +kernel)
    refine ⟨_, rfl, x, dx, _, rfl, hx, no (.inl rfl), x, dx, tx, p, b, [], name ++ rr, 123, rfl, hx, hz, hT1, (fun c hc => by simp at hc), by decide, ?_⟩
    have hT2 : tx.drop (p + ([] : List Nat).length + 1) = [] ++ (name ++ rr) := (at_drop hT1).2.2
    generalize hq1 : p + ([] : List Nat).length + 1 = q1 at *
    have k1 : Kp (only x) H (upd H x (.ins (RC K) dx (rf tx q1 b))) := (Kp.refl _ _).upd (only_self x)
    refine ⟨_, rfl, x, dx, _, rfl, upd_same, no (.inr (.inl rfl)), x, dx, tx, q1, b, [], name, rr, rfl, upd_same, hz, hT2, (fun c hc => by simp at hc), hnm, (fun c r' e => (hrr c r' e).1), fun t H2 k2 hx2 ht2 => ?_⟩
    refine ⟨t, _, rfl, SqT.of ht2, rfl, _, _, rfl, _, _, rfl, rfl, ?_⟩
    have hT3 : tx.drop (q1 + ([] : List Nat).length + name.length) = rr := drop_add (drop_add hT2)
    generalize hq2 : q1 + ([] : List Nat).length + name.length = q2 at *
    have hp2 : q2 ≤ tx.length := drop_le hT3 (by rcases hcs with ⟨_, e⟩ | ⟨_, _, _, _, e⟩ <;> rw [e] <;> simp)
    refine ⟨_, rfl, x, dx, _, rfl, hx2, no (.inr (.inr (.inl rfl))), x, dx, tx, q2, b, [], rr, rfl, hx2, hz, hp2, hT3, (fun c hc => by simp at hc), (fun c r' e => (hrr c r' e).2), ?_⟩
    have k3 : Kp (only x) H (upd H2 x (.ins (RC K) dx (rf tx q2 b))) := (k1.trans k2).upd (only_self x)
    have eq2 : q2 + ([] : List Nat).length = q2 := rfl
    rw [eq2]
    rcases hcs with ⟨rfl, rfl⟩ | ⟨pl, cs, ot, rfl, rfl⟩
    · have hc := at_drop hT3
      refine ⟨_, rfl, x, dx, _, rfl, upd_same, no (.inr (.inr (.inr (.inl rfl)))), x, dx, tx, q2, b, 125, rfl, upd_same, hz, hc.1, rfl, _, rfl, ?_⟩
      refine ite_t (by decide +kernel) ?_
      refine ⟨_, rfl, x, _, dx, _, _, rfl, upd_same, T.cls_Reader, T.n_Reader_place, rf_place _ _ _, _, _, rfl, rfl, dx, _, upd_same, rf_len, ?_⟩
      rw [step_place]
      refine ⟨_, rfl, by show 2 ≤ sizeLine; decide, fun t3 ht3 => ?_⟩
      have nt : t3 ≠ x := fun e => by rw [e, upd_same] at ht3; cases ht3
      have htH : H2 t3 = none := by rw [upd_ne nt] at ht3; exact ht3
      have htH0 : H t3 = none := by
        cases q : H t3 with
        | none => rfl
        | some o =>
          have := (k1.trans k2).at_ nt q
          rw [htH] at this
          cases this
      refine k t3 _ ((((k1.trans k2).upd (only_self x))).mut htH0) ?_ ?_
      · rw [upd_ne (Ne.symm nt), upd_same]
        have : q2 + 1 = p + (fNd (fmt n) (.shw name)).length := by
          rw [← hq2, ← hq1]
          simp [fNd]
          omega
        rw [this]
      · exact .tup ((Av_get (lv.new htH0)).trans upd_same) (.cons (.str _) (.cons (.str _) .nil))
    · have hc := at_drop hT3
      refine ⟨_, rfl, x, dx, _, rfl, upd_same, no (.inr (.inr (.inr (.inl rfl)))), x, dx, tx, q2, b, 44, rfl, upd_same, hz, hc.1, rfl, _, rfl, ?_⟩
      refine ite_f (by decide +kernel) ?_
      refine ⟨_, rfl, x, dx, _, rfl, upd_same, no (.inl rfl), x, dx, tx, q2, b, [], _, 44, rfl, upd_same, hz, hT3, (fun c hc => by simp at hc), by decide, ?_⟩
      rw [upd_upd]
      have eq3 : q2 + ([] : List Nat).length + 1 = q2 + 1 := rfl
      rw [eq3]
      have hT4 := hc.2.2
      have k4 : Kp (only x) H (upd H2 x (.ins (RC K) dx (rf tx (q2 + 1) b))) := (k1.trans k2).upd (only_self x)
      refine ⟨_, rfl, x, dx, _, rfl, upd_same, no (.inr (.inl rfl)), x, dx, tx, q2 + 1, b, [32], cKind pl, _, rfl, upd_same, hz, hT4, (fun c hc => by rw [List.mem_singleton.mp hc]; decide), kind_nm pl, (fun c r' e => by cases e; unfold ltr; decide), fun t3 H3 k5 hx3 ht3 => ?_⟩
      refine ⟨t3, _, rfl, SqT.of ht3, rfl, _, _, rfl, _, _, rfl, rfl, ?_⟩
      have hT5 := drop_add (drop_add hT4)
      generalize hq3 : q2 + 1 + [32].length + (cKind pl).length = q3 at *
      refine ⟨_, rfl, by show 2 ≤ sizeLine; decide, fun t4 ht4 => ?_⟩
      refine ⟨_, _, rfl, .inr (SqT.of upd_same), rfl, rfl, _, rfl, ?_⟩
      refine ite_f (kind_in pl) ?_
      have k6 : Kp (only x) H (upd H3 t4 (.tup [.str "select", .str "plural"])) := (k4.trans k5).trans (Kp.of (same_new ht4 _))
      have hx6 := same_new (o := HO.tup [.str "select", .str "plural"]) ht4 _ _ hx3
      refine ⟨_, rfl, x, dx, _, rfl, hx6, no (.inr (.inr (.inr (.inr rfl)))), _, rfl, _, rfl, F, x, dx, tx, q3, b, pl, name, cs, ot, r, rfl, hx6, hz, hT5, hk, hF, lv.kp k6 (by rw [hx6]; simp), fun a H7 k7 hx7 ha => ?_⟩
      refine k a H7 (k6.trans k7) ?_ ha
      rw [hx7]
      have : q3 + 2 + (fOff pl).length + (chTail cs ot).length = p + (fNd (fmt n) (.ch pl name cs ot)).length := by
        rw [← hq3, ← hq2, ← hq1]
        simp [fNd, chTail]
        omega
      rw [this]
theorem eqV_key (a b : Ky) : eqV (kW a) (kW b) = decide (a = b) := by
  cases a with
  | num n =>
    cases b with
    | num m =>
      show decide ((n : Int) = m) = _
      by_cases h : n = m
      · subst h; simp
      · rw [decide_eq_false (by omega), decide_eq_false (fun e => h (Ky.num.inj e))]
    | wd v =>
      rw [decide_eq_false (fun e => nomatch e)]
      rfl
  | wd u =>
    cases b with
    | num m =>
      rw [decide_eq_false (fun e => nomatch e)]
      rfl
    | wd v =>
      show decide (S u = S v) = _
      by_cases h : u = v
      · subst h; simp
      · rw [decide_eq_false (fun e => h (S_inj e)), decide_eq_false (fun e => h (Ky.wd.inj e))]
theorem inV_key (k : Ky) : ∀ l : List Ky, inV (kW k) (l.map kW) = decide (k ∈ l)
  | [] => rfl
  | a :: r => by
    have e1 : inV (kW k) ((a :: r).map kW) = (eqV (kW a) (kW k) || inV (kW k) (r.map kW)) := rfl
    rw [e1, inV_key k r, eqV_key]
    by_cases h : a = k
    · subst h; simp
    · simp [h, Ne.symm h, eq_comm]
theorem flat_key (k : Ky) : flatV (kW k) = true := by cases k <;> rfl
theorem kyR_of {pl : Option Nat} {k : Ky} (h : kyOk pl.isSome k) : kyR pl k := by
  cases k with
  | num n => exact h
  | wd w => exact ⟨h.1, fun e => .inl (h.2.2 e)⟩
theorem kyR_other (pl : Option Nat) : kyR pl (.wd cOther) := ⟨⟨by decide, by decide, by unfold ltr; decide⟩, fun _ => .inr rfl⟩
theorem ky_first {pl : Option Nat} {k : Ky} (h : kyR pl k) (rest : List Nat) : ∀ c r', fKy k ++ 32 :: rest = c :: r' → c ∉ isSp := by
  intro c r' e
  cases k with
  | num n => cases e; decide
  | wd w =>
    cases w with
    | nil => have := h.1.1; simp at this
    | cons c0 wr => cases e; exact sp_ltr (h.1.2.2 _ List.mem_cons_self)
theorem ky_take {o : Nat} {k : Ky} (h : kyR (some o) k) (rest : List Nat) : (fKy k ++ 32 :: rest).take 7 ≠ cOffset := by
  cases k with
  | num n =>
    intro e
    cases e
  | wd w =>
    have key : ∀ w : List Nat, w ∈ cats ∨ w = cOther → (w ++ 32 :: rest).take 7 ≠ cOffset := by
      intro w h
      simp only [cats, List.mem_cons, List.not_mem_nil, or_false, cOther] at h
      rcases h with (rfl | rfl | rfl | rfl | rfl) | rfl <;> (intro e; simp [cOffset] at e)
    exact key w (h.2 rfl)
theorem fOff_pos {o : Nat} (h : o ≠ 0) : fOff (some o) = cOffset ++ [48 + o, 32] := by
  show (if o = 0 then [] else _) = _
  rw [if_neg h]
theorem ch_first {n : Nat} {b : Bool} {pl : Option Nat} {name : List Nat} {cs : List (Ky × Sub n)} {ot : Sub n} (h : ndOk b (ok n) (.ch pl name cs ot)) (r : List Nat) : ∃ ky rest, kyR pl ky ∧ chTail cs ot ++ r = fKy ky ++ 32 :: rest := by
  cases cs with
  | nil => exact ⟨.wd cOther, _, kyR_other pl, by simp [chTail, fKy]; rfl⟩
  | cons c cr => exact ⟨c.1, _, kyR_of (h.2.2.2.2.1 c List.mem_cons_self).1, by simp [chTail, fCase]; rfl⟩
def hdV (pl : Option Nat) (name : List Nat) : List V := match pl with
  | none => [.str "select", .str (S name)]
  | some o => [.str "plural", .str (S name), .int o]
theorem sc_Reader_choice : FnScope ["self", "name", "kind", "head", "cases", "key", "begin", "message", "other"] ["self", "name", "kind"] (defScope s_Reader_choice) := ⟨rfl, rfl, rfl, by decide +kernel, rfl, by decide +kernel, by decide +kernel⟩
theorem ok_Reader_choice (T : Tx K mg) {n : Nat} (o_Reader_message : OkF P w K mg base d_Reader_message ["self", "inside"] (4 * n + 4) (spRMsg K n)) : OkF P w K mg base d_Reader_choice ["self", "name", "kind"] (4 * n + 5) (spRChoice K n) := by
  have o_Reader_expect : OkF P w K mg base d_Reader_expect ["self", "sign"] 2 (spRExpect K) := ok_Reader_expect T
  have o_Reader_offset : OkF P w K mg base d_Reader_offset ["self"] 3 (spROffset K) := ok_Reader_offset T
  have o_Reader_key : OkF P w K mg base d_Reader_key ["self", "kind"] 4 (spRKey K) := ok_Reader_key T
  refine (okF T 24 (d := d_Reader_choice) rfl sc_Reader_choice (fun _ _ _ _ _ _ us hl => match us, hl with | [_, _, _], _ => rfl) ⟨rfl, rfl⟩ (fun vs H Q E h => ?_) (fun cdv A outer s H vs Q E hr h => ?_))
  · obtain ⟨F, x, dx, tx, p, b, pl, name, cs, ot, r, rfl, _⟩ := h; rfl
  · obtain ⟨F, x, dx, tx, p, b, pl, name, cs, ot, r, rfl, hx, hz, hT, hk, hF, lv, k⟩ := h
    refine ⟨_, (pss_cons (ps_expr (cm o_Reader_expect T.m_Reader_expect (hr.mono (by omega)) (pv 0) (pa_cons pe_str pa_nil)))
  (pss_cons (ps_set (i := 3) sc_Reader_choice.nd rfl (Or.inl rfl) (pe_tup (pa_cons (pv 2) (pa_cons (pv 1) pa_nil))))
  (Evl.pss_cut (ps_if (pt_cmpR op_eq (pv 2) (pe_gS T.c_PLURAL) (nomark _))
  (pss_one (ps_set (i := 3) sc_Reader_choice.nd rfl (Or.inl rfl) (pe_tup (pa_cons (pv 2) (pa_cons (pv 1) (pa_cons (cm0 o_Reader_offset T.m_Reader_offset (hr.mono (by omega)) (pv 0)) pa_nil))))))
  pss_nil)
  (pss_cons (ps_set (i := 4) sc_Reader_choice.nd rfl (Or.inl rfl) (pe_lst pa_nil))
  (pss_one (ps_while PassesOwn.never (pt_val pe_bl)
  (pss_cons (ps_asg (cm o_Reader_key T.m_Reader_key (hr.mono (by omega)) (pv 0) (pa_cons (pv 2) pa_nil)) (pg_tup rfl (pgs_cons (pg_name (i := 5) sc_Reader_choice.nd rfl (Or.inl rfl)) (pgs_cons (pg_name (i := 6) sc_Reader_choice.nd rfl (Or.inl rfl)) pgs_nil))))
  (pss_cons (ps_if (pt_cmpR op_in_seq (pv 5) (pe_lc (own := [("other", 8), ("message", 7)]) (g := gTup K 2 (gCons (gName 8) (gCons (gName 7) gNil))) (tt := tYes) rfl sc_Reader_choice.nd (pi_list (pv 4)) (blkOk_by (N := ["self", "name", "kind", "head", "cases", "key", "begin", "message", "other"]) (sc := defScope s_Reader_choice) (by decide +kernel)) (fun _ _ _ _ _ => (pg_tup rfl (pgs_cons (pg_name (i := 8) sc_Reader_choice.nd rfl (Or.inl rfl)) (pgs_cons (pg_name (i := 7) sc_Reader_choice.nd rfl (Or.inl rfl)) pgs_nil)))) (fun _ _ _ _ _ => pts_nil) (fun _ _ _ _ _ => (pv 8))) rfl)
  (pss_one ps_never)
  pss_nil)
  (pss_cons (ps_expr (cm o_Reader_expect T.m_Reader_expect (hr.mono (by omega)) (pv 0) (pa_cons pe_str pa_nil)))
  (pss_cons (ps_set (i := 7) sc_Reader_choice.nd rfl (Or.inl rfl) (cm o_Reader_message T.m_Reader_message (hr.mono (by omega)) (pv 0) (pa_cons (pe_or (pe_cmpR op_eq (pv 2) (pe_gS T.c_PLURAL) (nomark _)) (pe_one (pe_fld (pv 0) rfl))) pa_nil)))
  (pss_cons (ps_expr (cm o_Reader_expect T.m_Reader_expect (hr.mono (by omega)) (pv 0) (pa_cons pe_str pa_nil)))
  (pss_cons (ps_if (pt_cmpR op_eq (pv 5) (pe_gS T.c_OTHER) (nomark _))
  (pss_cons (ps_expr (cm o_Reader_expect T.m_Reader_expect (hr.mono (by omega)) (pv 0) (pa_cons pe_str pa_nil)))
  (pss_one (ps_ret (pe_op op_catT (pv 3) (pe_tup (pa_cons (pv 4) (pa_cons (pv 7) pa_nil)))))))
  pss_nil)
  (pss_one (ps_expr (pe_bm PySem.F.plainAttrs_list PySem.F.slot_list_append PySem.F.type_list_append mt_append (pv 4) (pa_cons (pe_tup (pa_cons (pv 5) (pa_cons (pv 7) pa_nil))) pa_nil)))))))))))))))), ?_⟩
    have no : ∀ {q m}, m = ("expect" : Str) ∨ m = ("offset" : Str) ∨ m = ("key" : Str) ∨ m = ("message" : Str) → (rf tx q b).lookup m = none := by
      rintro q m (rfl | rfl | rfl | rfl) <;> exact rf_no (by decide +kernel) (by decide +kernel) (by decide +kernel)
    refine ⟨_, rfl, x, dx, _, rfl, hx, no (.inl rfl), x, dx, tx, p, b, [], _, 44, rfl, hx, hz, hT, (fun c hc => by simp at hc), by decide, ?_⟩
    have hT2 := (at_drop (show tx.drop p = 44 :: ([32] ++ (fOff pl ++ (chTail cs ot ++ r))) from hT)).2.2
    have eq1 : p + ([] : List Nat).length + 1 = p + 1 := rfl
    rw [eq1]
    have k1 : Kp (only x) H (upd H x (.ins (RC K) dx (rf tx (p + 1) b))) := (Kp.refl _ _).upd (only_self x)
    refine ⟨_, rfl, _, rfl, by show 2 ≤ sizeLine; decide, fun hd hhd => ?_⟩
    have nhd : hd ≠ x := fun e => by rw [e, upd_same] at hhd; cases hhd
    have hhdH : H hd = none := by rw [upd_ne nhd] at hhd; exact hhd
    obtain ⟨ky0, rest0, hky0, hct⟩ := ch_first hk r
    refine ⟨fun σ H' => ∃ hd sp q, σ = [some (.ref x), some (.str (S name)), some (.str (S (cKind pl))), some (.ref hd), none, none, none, none, none] ∧ H' x = some (.ins (RC K) dx (rf tx q b)) ∧ H' hd = some (.tup (hdV pl name)) ∧ Kp (only x) H H' ∧ (∀ c ∈ sp, c ∈ isSp) ∧
      tx.drop q = sp ++ (chTail cs ot ++ r) ∧ q + sp.length = p + 2 + (fOff pl).length ∧ hd ≠ x, ?_, ?_⟩
    · cases pl with
      | none =>
        refine ⟨_, rfl, rfl, _, rfl, ?_⟩
        refine ite_f (by decide +kernel) ?_
        refine ⟨hd, [32], p + 1, rfl, ?_, upd_same, k1.mut hhdH, (fun c hc => by rw [List.mem_singleton.mp hc]; decide), hT2, rfl, nhd⟩
        rw [upd_ne (Ne.symm nhd), upd_same]
      | some o =>
        refine ⟨_, rfl, rfl, _, rfl, ?_⟩
        refine ite_t (show decide (V.str (S cPlural) = V.str "plural") = true by decide +kernel) ?_
        have hx2 : (upd (upd H x (.ins (RC K) dx (rf tx (p + 1) b))) hd (.tup [.str (S (cKind (some o))), .str (S name)])) x = some (.ins (RC K) dx (rf tx (p + 1) b)) := by
          rw [upd_ne (Ne.symm nhd), upd_same]
        have k2 : Kp (only x) H (upd (upd H x (.ins (RC K) dx (rf tx (p + 1) b))) hd (.tup [.str (S (cKind (some o))), .str (S name)])) := k1.mut hhdH
        generalize upd (upd H x (.ins (RC K) dx (rf tx (p + 1) b))) hd (.tup [.str (S (cKind (some o))), .str (S name)]) = H2 at *
        have ho : o ≤ 9 := hk.2.1 o rfl
        have fin : ∀ q0 sp0, (∀ c ∈ sp0, c ∈ isSp) → tx.drop q0 = sp0 ++ (chTail cs ot ++ r) → q0 + sp0.length = p + 2 + (fOff (some o)).length → ∀ hd2, upd H2 x (.ins (RC K) dx (rf tx q0 b)) hd2 = none → ∃ hd sp q, [some (V.ref x), some (.str (S name)), some (.str (S (cKind (some o)))), some (.ref hd2), none, none, none, none, none] = [some (.ref x), some (.str (S name)), some (.str (S (cKind (some o)))), some (.ref hd), none, none, none, none, none] ∧
            (upd (upd H2 x (.ins (RC K) dx (rf tx q0 b))) hd2 (.tup [.str (S (cKind (some o))), .str (S name), .int o])) x = some (.ins (RC K) dx (rf tx q b)) ∧ (upd (upd H2 x (.ins (RC K) dx (rf tx q0 b))) hd2 (.tup [.str (S (cKind (some o))), .str (S name), .int o])) hd = some (.tup (hdV (some o) name)) ∧
            Kp (only x) H (upd (upd H2 x (.ins (RC K) dx (rf tx q0 b))) hd2 (.tup [.str (S (cKind (some o))), .str (S name), .int o])) ∧ (∀ c ∈ sp, c ∈ isSp) ∧ tx.drop q = sp ++ (chTail cs ot ++ r) ∧ q + sp.length = p + 2 + (fOff (some o)).length ∧ hd ≠ x := fun q sp g1 g2 g3 hd2 hh => by
          have n2 : hd2 ≠ x := fun e => by rw [e, upd_same] at hh; cases hh
          refine ⟨hd2, sp, q, rfl, ?_, upd_same, (k2.upd (only_self x)).trans (Kp.of (same_new hh _)), g1, g2, g3, n2⟩
          rw [upd_ne (Ne.symm n2), upd_same]
        by_cases h0 : o = 0
        · subst h0
          have hT2' : tx.drop (p + 1) = [32] ++ (chTail cs ot ++ r) := hT2
          refine ⟨_, rfl, _, rfl, _, rfl, x, dx, _, rfl, hx2, no (.inr (.inl rfl)), x, dx, tx, p + 1, b, 0, [32], chTail cs ot ++ r, rfl, hx2, hz, (fun c hc => by rw [List.mem_singleton.mp hc]; decide), .inl ⟨rfl, hT2', ?_, ?_, ?_, ?_⟩⟩
          · rw [hct]; simp
          · rw [hct]; exact ky_first hky0 _
          · rw [hct]; exact ky_take hky0 _
          · refine ⟨by show 3 ≤ sizeLine; decide, fun hd2 hh => ?_⟩
            have e0 : V.int 0 = V.int ((0 : Nat) : Int) := rfl
            rw [e0]
            exact fin (p + 1 + [32].length) [] (fun c hc => by simp at hc) (drop_add hT2') rfl hd2 hh
        · have hT2' : tx.drop (p + 1) = [32] ++ (cOffset ++ (48 + o) :: ([32] ++ (chTail cs ot ++ r))) := by
            rw [hT2, fOff_pos h0]
            simp
          have hf := fOff_pos h0
          refine ⟨_, rfl, _, rfl, _, rfl, x, dx, _, rfl, hx2, no (.inr (.inl rfl)), x, dx, tx, p + 1, b, o, [32], _, rfl, hx2, hz, (fun c hc => by rw [List.mem_singleton.mp hc]; decide), .inr ⟨h0, ho, hT2', (fun c r' e => by cases e; decide), ?_⟩⟩
          refine ⟨by show 3 ≤ sizeLine; decide, fun hd2 hh => ?_⟩
          refine fin (p + 1 + [32].length + 8) [32] (fun c hc => by rw [List.mem_singleton.mp hc]; decide) ?_ ?_ hd2 hh
          · exact (at_drop (drop_add (drop_add hT2'))).2.2
          · rw [hf]; rfl
    · rintro σ H1 ⟨hd, sp, q, rfl, hx1, hhd1, k2, hsp, hTq, hq, nhd1⟩
      refine ⟨Nat.zero_le _, fun D hD => ?_⟩
      have nDx : D ≠ x := fun e => by rw [e, hx1] at hD; cases hD
      have nDh : D ≠ hd := fun e => by rw [e, hhd1] at hD; cases hD
      have hDH : H D = none := by
        cases e : H D with
        | none => rfl
        | some o => rw [k2.at_ nDx e] at hD; cases hD
      refine ⟨fun mm σ' H' => ∃ j vs sp q v1 v2 v3, mm = cs.length - j ∧ j ≤ cs.length ∧ σ' = [some (.ref x), some (.str (S name)), some (.str (S (cKind pl))), some (.ref hd), some (.ref D), v1, v2, v3, none] ∧ H' x = some (.ins (RC K) dx (rf tx q b)) ∧ H' hd = some (.tup (hdV pl name)) ∧ H' D = some (.lst vs) ∧
        Kp (only x) H H' ∧ DhA K (add F D) H' vs ((cs.take j).map fun c => dCase (dat n) (c.1, expl n c.2)) ∧ (∀ c ∈ sp, c ∈ isSp) ∧ tx.drop q = sp ++ ((cs.drop j).flatMap (fCase (fmt n)) ++ (cOther ++ [32, 123] ++ fmt n ot ++ [125, 125] ++ r)) ∧
        q + sp.length = p + 2 + (fOff pl).length + ((cs.take j).flatMap (fCase (fmt n))).length, ⟨_, 0, [], sp, q, none, none, none, rfl, Nat.zero_le _, rfl, ?_, ?_, upd_same, k2.mut hDH, .nil, hsp, ?_, hq⟩, ?_⟩
      · rw [upd_ne (Ne.symm nDx)]; exact hx1
      · rw [upd_ne (Ne.symm nDh)]; exact hhd1
      · rw [hTq]; simp [chTail]
      · rintro mm σ' H' ⟨j, vs, sp, q, v1, v2, v3, rfl, hj, rfl, hx', hh', hD', hkp, hvs, hsp, hTq, hq⟩
        refine ⟨_, rfl, iteT ?_⟩
        obtain ⟨ky, mg0, rest, hTq2, hky, hmk, hnot, hend⟩ : ∃ (ky : Ky) (m : Sub n) (rest : List Nat), tx.drop q = sp ++ (fKy ky ++ 32 :: (123 :: (fmt n m ++ 125 :: rest))) ∧ kyR pl ky ∧ ok n (b || pl.isSome) m ∧ ky ∉ (cs.take j).map (·.1) ∧
            ((cs[j]? = some (ky, m) ∧ ky ≠ .wd cOther ∧ rest = 32 :: ((cs.drop (j + 1)).flatMap (fCase (fmt n)) ++ (cOther ++ [32, 123] ++ fmt n ot ++ [125, 125] ++ r))) ∨ (j = cs.length ∧ ky = .wd cOther ∧ m = ot ∧ rest = 125 :: r)) := by
          obtain ⟨g1, g2, g3, g4, g5, g6⟩ := hk
          by_cases hjl : j < cs.length
          · have hc := List.getElem?_eq_getElem hjl
            obtain ⟨⟨ky, m⟩, hcj⟩ : ∃ z, cs[j] = z := ⟨_, rfl⟩
            have hmem : (ky, m) ∈ cs := by rw [← hcj]; exact List.getElem_mem hjl
            rw [hcj] at hc
            refine ⟨ky, m, _, ?_, kyR_of (g5 _ hmem).1, (g5 _ hmem).2, ?_, .inl ⟨hc, ?_, rfl⟩⟩
            · rw [hTq, List.drop_eq_getElem_cons hjl, hcj, List.flatMap_cons]
              simp [fCase]
            · have h1 : cs.map (·.1) = (cs.take j).map (·.1) ++ ky :: (cs.drop (j + 1)).map (·.1) := by
                conv => lhs; rw [← List.take_append_drop j cs, List.map_append, List.drop_eq_getElem_cons hjl, hcj]
                rfl
              rw [h1] at g4
              intro hin
              exact (List.nodup_append.mp g4).2.2 _ hin _ List.mem_cons_self rfl
            · intro e
              subst e
              exact (g5 _ hmem).1.2.1 rfl
          · have hjl' : j = cs.length := by omega
            refine ⟨.wd cOther, ot, 125 :: r, ?_, kyR_other pl, g6, ?_, .inr ⟨hjl', rfl, rfl, rfl⟩⟩
            · rw [hTq, hjl', List.drop_length]
              simp [fKy]
            · rw [hjl', List.take_length]
              intro hin
              obtain ⟨c, hc, e⟩ := List.mem_map.mp hin
              have := (g5 c hc).1
              rw [e] at this
              exact this.2.1 rfl
        refine ⟨fun σ2 H2 => ∃ vs sp q v1 v2 v3, j + 1 ≤ cs.length ∧ σ2 = [some (.ref x), some (.str (S name)), some (.str (S (cKind pl))), some (.ref hd), some (.ref D), v1, v2, v3, none] ∧ H2 x = some (.ins (RC K) dx (rf tx q b)) ∧ H2 hd = some (.tup (hdV pl name)) ∧ H2 D = some (.lst vs) ∧
          Kp (only x) H H2 ∧ DhA K (add F D) H2 vs ((cs.take (j + 1)).map fun c => dCase (dat n) (c.1, expl n c.2)) ∧ (∀ c ∈ sp, c ∈ isSp) ∧ tx.drop q = sp ++ ((cs.drop (j + 1)).flatMap (fCase (fmt n)) ++ (cOther ++ [32, 123] ++ fmt n ot ++ [125, 125] ++ r)) ∧
          q + sp.length = p + 2 + (fOff pl).length + ((cs.take (j + 1)).flatMap (fCase (fmt n))).length, fun σ2 H2 ⟨vs, sp, q, v1, v2, v3, h0, h⟩ => ⟨cs.length - (j + 1), by omega, j + 1, vs, sp, q, v1, v2, v3, rfl, h0, h⟩, ?_⟩
        -- key, begin = self.key(kind)
        refine ⟨_, rfl, x, dx, _, rfl, hx', no (.inr (.inr (.inl rfl))), _, rfl, x, dx, tx, q, b, pl, ky, sp, _, rfl, hx', hz, hsp, hTq2, hky, fun t H2 k3 hx2 ht2 => ?_⟩
        refine ⟨t, _, rfl, SqT.of ht2, rfl, _, _, rfl, _, _, rfl, rfl, ?_⟩
        have hD2 := k3.at_ nDx hD'
        have hh2 := k3.at_ nhd1 hh'
        have hvs2 := hvs.kp (k3.toF (add_of hF))
        have hT3 := drop_add (drop_add hTq2)
        have lvs : vs.length = j := by
          have := DpAll.len hvs
          rw [List.length_map, List.length_take] at this
          omega
        have z100 : cs.length ≤ 100 := hk.2.2.1
        -- key in the keys so far
        refine ⟨_, rfl, _, rfl, D, rfl, ⟨_, SqL.of hD2⟩, fun L hL => ?_⟩
        refine lc_list (K := K) (a := D) (xs := vs) (fun i H' => H' L = some (.lst (((cs.take i).map (·.1)).map kW)) ∧ Same H2 H') ⟨upd_same, same_new hL _⟩ (fun i H' _ p => p.2.seq (SqL.of hD2)) ?_ ?_
        · rintro i v H' hi ⟨hLv, s2⟩
          obtain ⟨d0, hd1, hd2⟩ := DpAll.at_ (DhA.out hvs2) hi
          obtain ⟨ci, hci, rfl⟩ := map_at hd1
          obtain ⟨t', q0, rfl, hts, hq0⟩ := dp_case hd2
          have hil : i < j := by rw [← lvs]; exact lt_of_at hi
          have hcs : cs[i]? = some ci := by rw [List.getElem?_take_of_lt hil] at hci; exact hci
          refine ⟨t', _, rfl, s2.seqT hts, rfl, _, _, rfl, _, _, rfl, rfl, rfl, ?_⟩
          refine yes_t ?_
          refine ⟨_, rfl, _, hLv, small_lt (by simp only [List.length_map, List.length_take]; omega), ?_, same_mut s2 hL⟩
          rw [upd_same, take_more hcs]
          simp
        · rintro H3 ⟨hLv, s2⟩
          rw [lvs] at hLv
          refine ⟨_, _, rfl, .inl (SqL.of hLv), flat_key ky, ?_, _, rfl, ?_⟩
          · rw [List.all_eq_true]
            intro v hv
            obtain ⟨k0, _, rfl⟩ := List.mem_map.mp hv
            exact flat_key k0
          refine ite_f (by rw [inV_key]; exact decide_eq_false hnot) ?_
          have hx3 := s2 _ _ hx2
          have hD3 := s2 _ _ hD2
          have hh3 := s2 _ _ hh2
          have kp3 : Kp (only x) H H3 := (hkp.trans k3).trans (Kp.of s2)
          have hvs3 := hvs2.same s2
          generalize hq4 : q + sp.length + (fKy ky).length = q4 at *
          -- expect
          refine ⟨_, rfl, x, dx, _, rfl, hx3, no (.inl rfl), x, dx, tx, q4, b, [32], _, 123, rfl, hx3, hz, hT3, (fun c hc => by rw [List.mem_singleton.mp hc]; decide), by decide, ?_⟩
          have hT4 : tx.drop (q4 + [32].length + 1) = fmt n mg0 ++ 125 :: rest := (at_drop (drop_add (w := [32]) hT3)).2.2
          have hx4 : (upd H3 x (.ins (RC K) dx (rf tx (q4 + [32].length + 1) b))) x = some (.ins (RC K) dx (rf tx (q4 + [32].length + 1) b)) := upd_same
          have hD4 : (upd H3 x (.ins (RC K) dx (rf tx (q4 + [32].length + 1) b))) D = some (.lst vs) := by rw [upd_ne nDx]; exact hD3
          have hh4 : (upd H3 x (.ins (RC K) dx (rf tx (q4 + [32].length + 1) b))) hd = some (.tup (hdV pl name)) := by rw [upd_ne nhd1]; exact hh3
          have kp4 : Kp (only x) H (upd H3 x (.ins (RC K) dx (rf tx (q4 + [32].length + 1) b))) := kp3.upd (only_self x)
          have hvs4 : DhA K (add F D) (upd H3 x (.ins (RC K) dx (rf tx (q4 + [32].length + 1) b))) vs ((cs.take j).map fun c => dCase (dat n) (c.1, expl n c.2)) := hvs3.updF (add_of hF)
          generalize upd H3 x (.ins (RC K) dx (rf tx (q4 + [32].length + 1) b)) = H4 at *
          generalize hq5 : q4 + [32].length + 1 = q5 at *
          have lv4 : Live (add F D) H4 := (lv.kp kp4 (by rw [hx4]; simp)).add (by rw [hD4]; simp)
          refine ⟨_, rfl, x, dx, _, rfl, hx4, no (.inr (.inr (.inr rfl))), ?_⟩
          have hkd : decide (V.str (S (cKind pl)) = V.str "plural") = pl.isSome := by
            cases pl with
            | none => decide +kernel
            | some o => exact (show decide (V.str (S cPlural) = V.str "plural") = true by decide +kernel)
          have hcase : pl.isSome = true ∨ pl.isSome = false := by cases pl.isSome <;> simp
          have hmk1 : pl.isSome = true → ok n true mg0 := fun e => by rwa [e, Bool.or_true] at hmk
          have hmk2 : pl.isSome = false → ok n b mg0 := fun e => by rwa [e, Bool.or_false] at hmk
          refine hcase.elim (fun hpl => ?ga) (fun hpl => ?gb)
          case' ga =>
            have hm3 := hmk1 hpl
            refine ⟨_, rfl, rfl, _, rfl, ite_t (hkd.trans hpl) ?_⟩
          case' gb =>
            have hm3 := hmk2 hpl
            refine ⟨_, rfl, rfl, _, rfl, ite_f (hkd.trans hpl) ⟨_, rfl, x, _, dx, _, _, rfl, hx4, T.cls_Reader, T.n_Reader_inside, rf_inside _ _ _, ?_⟩⟩
          all_goals
            refine ⟨add F D, x, dx, tx, q5, b, _, mg0, _, rfl, hx4, hz, hT4, (fun c r' e => by cases e; rfl), hm3, add_of hF, lv4, fun a H5 k5 hx5 ha5 => ?_⟩
            have hT6 := drop_add hT4
            have hD5 := k5.at_ nDx hD4
            have hh5 := k5.at_ nhd1 hh4
            have hvs5 := hvs4.kp (k5.toF (add_of hF))
            have kp5 := kp4.trans k5
            generalize hq6 : q5 + (fmt n mg0).length = q6 at *
            -- expect "}"
            refine ⟨_, rfl, x, dx, _, rfl, hx5, no (.inl rfl), x, dx, tx, q6, b, [], _, 125, rfl, hx5, hz, hT6, (fun c hc => by simp at hc), by decide, ?_⟩
            have eq6 : q6 + ([] : List Nat).length + 1 = q6 + 1 := rfl
            rw [eq6]
            have hT7 := (at_drop hT6).2.2
            have hx6 : (upd H5 x (.ins (RC K) dx (rf tx (q6 + 1) b))) x = some (.ins (RC K) dx (rf tx (q6 + 1) b)) := upd_same
            have hD6 : (upd H5 x (.ins (RC K) dx (rf tx (q6 + 1) b))) D = some (.lst vs) := by rw [upd_ne nDx]; exact hD5
            have hh6 : (upd H5 x (.ins (RC K) dx (rf tx (q6 + 1) b))) hd = some (.tup (hdV pl name)) := by rw [upd_ne nhd1]; exact hh5
            have kp6 : Kp (only x) H (upd H5 x (.ins (RC K) dx (rf tx (q6 + 1) b))) := kp5.upd (only_self x)
            have hvs6 : DhA K (add F D) (upd H5 x (.ins (RC K) dx (rf tx (q6 + 1) b))) vs ((cs.take j).map fun c => dCase (dat n) (c.1, expl n c.2)) := hvs5.updF (add_of hF)
            have ha6 : Dh K (add F D) (upd H5 x (.ins (RC K) dx (rf tx (q6 + 1) b))) (.ref a) (dat n (expl n mg0)) := ha5.updF (add_of hF)
            generalize upd H5 x (.ins (RC K) dx (rf tx (q6 + 1) b)) = H6 at *
            have fD : F D = false := lv.new hDH
            rcases hend with ⟨hcj, hne, hrest⟩ | ⟨hjl, hke, hme, hrest⟩
            · refine ⟨_, rfl, ?_⟩
              refine ⟨?_, _, rfl, ?_⟩
              · cases ky <;> rfl
              refine ite_f (decide_eq_false fun e => hne ?_) ?_
              · cases ky with
                | num n0 => cases e
                | wd w0 => rw [S_inj (V.str.inj e : S w0 = S cOther)]
              refine ⟨_, rfl, .inl ⟨rfl, _, SqL.of hD6⟩, _, rfl, _, rfl, by show 2 ≤ sizeLine; decide, fun t5 ht5 => ?_⟩
              have nD5 : D ≠ t5 := ne_of_none hD6 ht5
              have s7 := same_new (o := HO.tup [kW ky, .ref a]) ht5
              refine ⟨D, vs, _, rfl, rfl, s7 _ _ hD6, small_lt (by omega), ?_⟩
              have hjl := lt_of_at hcj
              have hfl : (cs.take (j + 1)).flatMap (fCase (fmt n)) = (cs.take j).flatMap (fCase (fmt n)) ++ fCase (fmt n) (ky, mg0) := flat_take hcj
              refine ⟨vs ++ [.ref t5], [32], q6 + 1, _, _, _, hjl, rfl, ?_, ?_, upd_same, (kp6.trans (Kp.of s7)).mut hDH, ?_, (fun c hc => by rw [List.mem_singleton.mp hc]; decide), by rw [hT7, hrest]; rfl, ?_⟩
              · rw [upd_ne (Ne.symm nDx)]; exact s7 _ _ hx6
              · rw [upd_ne (Ne.symm nDh)]; exact s7 _ _ hh6
              · rw [take_more hcj, List.map_append]
                refine DhA.updF (DpAll.snoc (hvs6.same s7) ?_) (add_self _ _)
                have lv6 : Live (add F D) H6 := (lv.kp kp6 (by rw [hx6]; simp)).add (by rw [hD6]; simp)
                have f5 : add F D t5 = false := lv6.new ht5
                exact .tup ((Av_get f5).trans upd_same) (.cons (dp_key.mpr rfl) (.cons (ha6.same s7) .nil))
              · rw [hfl, List.length_append, ← Nat.add_assoc, ← hq, ← hq6, ← hq5, ← hq4]
                simp [fCase]
                omega
            · subst hke
              subst hme
              refine ⟨_, rfl, rfl, _, rfl, ?_⟩
              refine ite_t (by decide +kernel) ?_
              rw [hrest] at hT7
              refine ⟨_, rfl, x, dx, _, rfl, hx6, no (.inl rfl), x, dx, tx, q6 + 1, b, [], _, 125, rfl, hx6, hz, hT7, (fun c hc => by simp at hc), by decide, ?_⟩
              have eq7 : q6 + 1 + ([] : List Nat).length + 1 = q6 + 2 := rfl
              rw [eq7]
              refine ⟨_, rfl, _, rfl, _, rfl, by show 2 ≤ sizeLine; decide, fun p2 hp2 => ?_⟩
              have hh7 : (upd H6 x (.ins (RC K) dx (rf tx (q6 + 2) b))) hd = some (.tup (hdV pl name)) := by rw [upd_ne nhd1]; exact hh6
              have hx7 : (upd H6 x (.ins (RC K) dx (rf tx (q6 + 2) b))) x = some (.ins (RC K) dx (rf tx (q6 + 2) b)) := upd_same
              have hD7 : (upd H6 x (.ins (RC K) dx (rf tx (q6 + 2) b))) D = some (.lst vs) := by rw [upd_ne nDx]; exact hD6
              have kp7 : Kp (only x) H (upd H6 x (.ins (RC K) dx (rf tx (q6 + 2) b))) := kp6.upd (only_self x)
              have hvs7 : DhA K (add F D) (upd H6 x (.ins (RC K) dx (rf tx (q6 + 2) b))) vs ((cs.take j).map fun c => dCase (dat n) (c.1, expl n c.2)) := hvs6.updF (add_of hF)
              have ha7 : Dh K (add F D) (upd H6 x (.ins (RC K) dx (rf tx (q6 + 2) b))) (.ref a) (dat n (expl n mg0)) := ha6.updF (add_of hF)
              generalize upd H6 x (.ins (RC K) dx (rf tx (q6 + 2) b)) = H7 at *
              have s8 := same_new (o := HO.tup [.ref D, .ref a]) hp2
              refine ⟨hd, p2, _, _, rfl, rfl, .inl (.inl (s8 _ _ hh7)), .inl (.inl upd_same), by cases pl <;> simp [hdV], small_le (by cases pl <;> simp [hdV]), fun z => by simp at z, fun _ p3 hp3 => ?_⟩
              have s9 := s8.trans (same_new (o := HO.tup (hdV pl name ++ [.ref D, .ref a])) hp3)
              have lv9 : Live F (upd H7 p2 (.tup [.ref D, .ref a])) := lv.kp (kp7.trans (Kp.of s8)) (by rw [s8 _ _ hx7]; simp)
              have f3 : F p3 = false := lv9.new hp3
              rw [hjl, List.take_length] at hvs7 hq
              refine k p3 _ (kp7.trans (Kp.of s9)) ?_ ?_
              · rw [s9 _ _ hx7]
                have e : q6 + 2 = p + 2 + (fOff pl).length + (chTail cs mg0).length := by
                  have hq0 : q = p + 2 + (fOff pl).length + (cs.flatMap (fCase (fmt n))).length - sp.length := by omega
                  rw [← hq6, ← hq5, ← hq4]
                  simp only [chTail, List.length_append, List.length_cons, List.length_nil, fKy]
                  omega
                rw [e]
              · have dD : Dh K F (upd (upd H7 p2 (.tup [.ref D, .ref a])) p3 (.tup (hdV pl name ++ [.ref D, .ref a]))) (.ref D) (.list ((cs.map fun c => (c.1, expl n c.2)).map (dCase (dat n)))) := by
                  rw [List.map_map]
                  exact .lst ((Av_get fD).trans (s9 _ _ hD7)) ((hvs7.weak add_sub).same s9)
                have dA := (ha7.weak add_sub).same s9
                have h3 : Av F (upd (upd H7 p2 (.tup [.ref D, .ref a])) p3 (.tup (hdV pl name ++ [.ref D, .ref a]))) p3 = some (.tup (hdV pl name ++ [.ref D, .ref a])) := (Av_get f3).trans upd_same
                cases pl with
                | none => exact .tup h3 (.cons (.str _) (.cons (.str _) (.cons dD (.cons dA .nil))))
                | some o => exact .tup h3 (.cons (.str _) (.cons (.str _) (.cons (.int _) (.cons dD (.cons dA .nil)))))
theorem ok_Reader_message (T : Tx K mg) : ∀ n : Nat, OkF P w K mg base d_Reader_message ["self", "inside"] (4 * n + 4) (spRMsg K n)
  | 0 => ok_Reader_message0 T
  | n + 1 => ok_Reader_message_step T (ok_Reader_node T (ok_Reader_braces T (ok_Reader_choice T (ok_Reader_message T n))))
end
end Mw
/-! MwJ -/
set_option Elab.async false
set_option linter.all false
set_option maxRecDepth 100000
set_option maxHeartbeats 4000000
namespace Mw
open PySem PySem.Spec PyProof.Rows L2
/-! ## the journal: octets and texts -/
def ocs (l : List Nat) : List V := l.map fun c => .int (c : Nat)
theorem ocs_len (l : List Nat) : (ocs l).length = l.length := by simp [ocs]
theorem ocs_at {l : List Nat} {i : Nat} {v : V} (h : (ocs l)[i]? = some v) : ∃ c : Nat, l[i]? = some c ∧ v = .int c := map_at h
theorem ocs_app (a b : List Nat) : ocs (a ++ b) = ocs a ++ ocs b := by simp [ocs]
theorem ocs_take (n : Nat) (l : List Nat) : (ocs l).take n = ocs (l.take n) := by simp [ocs, List.map_take]
theorem ocs_drop (n : Nat) (l : List Nat) : (ocs l).drop n = ocs (l.drop n) := by simp [ocs, List.map_drop]
def prt : List Nat := [32, 33, 34, 35, 36] ++ (List.range 89).map (· + 38)
theorem prt_eq : (" !\"#$&'()*+,-./0123456789:;<=>?@ABCDEFGHIJKLMNOPQRSTUVWXYZ[\\]^_`abcdefghijklmnopqrstuvwxyz{|}~" : Str) = S prt := by decide +kernel
theorem prt_lo {c : Nat} (h1 : 32 ≤ c) (h2 : c ≤ 36) : prt[c - 32]? = some c := by
  have : ∀ k, k < 5 → prt[k]? = some (k + 32) := by decide
  have := this (c - 32) (by omega)
  rwa [show c - 32 + 32 = c by omega] at this
theorem prt_hi {c : Nat} (h1 : 38 ≤ c) (h2 : c ≤ 126) : prt[c - 33]? = some c := by
  have : ∀ k, k < 89 → prt[k + 5]? = some (k + 38) := by decide
  have := this (c - 38) (by omega)
  rwa [show c - 38 + 5 = c - 33 by omega, show c - 38 + 38 = c by omega] at this
section
variable {P : Program} {w : World} {K : PySem.W.Frag} {mg : Str → Option Value} {base : Heap}
def spOctets : Sp := fun vs H Q _ => ∃ t : List Nat, vs = [.str (S t)] ∧ t.length ≤ 5000 ∧ ∀ p H', Same H H' → H p = none → H' p = some (.lst (ocs t)) → Q (.ref p) H'
theorem sc_octets_of : FnScope ["text", "sign"] ["text"] (defScope s_octets_of) := ⟨rfl, rfl, rfl, by decide +kernel, rfl, by decide +kernel, by decide +kernel⟩
theorem ok_octets_of (T : Tx K mg) : OkF P w K mg base d_octets_of ["text"] 1 spOctets := by
  refine (okF T 30 (d := d_octets_of) rfl sc_octets_of (fun _ _ _ _ _ _ us hl => match us, hl with | [_], _ => rfl) ⟨rfl, rfl⟩ (fun vs H Q E h => ?_) (fun cdv A outer s H vs Q E hr h => ?_))
  · obtain ⟨t, rfl, _⟩ := h; rfl
  · obtain ⟨t, rfl, hz, k⟩ := h
    refine ⟨_, (pss_one (ps_ret (pe_lc (own := [("sign", 1)]) (g := gName 1) (tt := tYes) rfl sc_octets_of.nd (pi_str (pv 0)) (blkOk_by (N := ["text", "sign"]) (sc := defScope s_octets_of) (by decide +kernel)) (fun _ _ _ _ _ => (pg_name (i := 1) sc_octets_of.nd rfl (Or.inl rfl))) (fun _ _ _ _ _ => pts_nil) (fun _ _ _ _ _ => (pe_callB call_ord (by rfl) T.z_ord (by decide +kernel) (pa_cons (pv 1) pa_nil)))))), ?_⟩
    refine ⟨_, rfl, _, rfl, fun D hD => lc_S (l := t) (fun i H' => H' D = some (.lst (ocs (t.take i))) ∧ Same H H') ⟨upd_same, same_new hD _⟩ ?_ ?_⟩
    · rintro i c H' hi ⟨hDv, s2⟩
      refine ⟨rfl, yes_t ?_⟩
      refine ⟨_, rfl, _, rfl, rfl, _, hDv, small_lt ?_, ?_, same_mut s2 hD⟩
      · rw [ocs_len, List.length_take]; omega
      · rw [upd_same, take_more hi, ocs_app]
        rfl
    · rintro H' ⟨hDv, s2⟩
      rw [List.take_length] at hDv
      exact k D H' s2 hD hDv
def spTextOf (K : PySem.W.Frag) : Sp := fun vs H Q _ => ∃ (a : Addr) (l : List Nat), vs = [.ref a] ∧ SqL K H a (ocs l) ∧ l.length ≤ 5000 ∧ (((∀ c ∈ l, chOk c) ∧ Q (.str (S l)) H) ∨ ((∃ c ∈ l, ¬ chOk c) ∧ Q .non H))
theorem sc_text_of : FnScope ["octets", "found", "octet"] ["octets"] (defScope s_text_of) := ⟨rfl, rfl, rfl, by decide +kernel, rfl, by decide +kernel, by decide +kernel⟩
theorem ok_text_of (T : Tx K mg) : OkF P w K mg base d_text_of ["octets"] 1 (spTextOf K) := by
  refine (okF T 31 (d := d_text_of) rfl sc_text_of (fun _ _ _ _ _ _ us hl => match us, hl with | [_], _ => rfl) ⟨rfl, rfl⟩ (fun vs H Q E h => ?_) (fun cdv A outer s H vs Q E hr h => ?_))
  · obtain ⟨a, l, rfl, _⟩ := h; rfl
  · obtain ⟨a, l, rfl, hs, hz, hk⟩ := h
    refine ⟨_, (pss_cons (ps_set (i := 1) sc_text_of.nd rfl (Or.inl rfl) pe_str)
  (pss_cons (ps_for PassesOwn.never rfl (pi_list (pv 0)) (pg_name (i := 2) sc_text_of.nd rfl (Or.inl rfl))
  (pss_one (ps_if (pt_cmpR op_eq (pv 2) pe_int (nomark _))
  (pss_one (ps_aug (i := 1) sc_text_of.nd rfl (Or.inl rfl) pe_str ip_str))
  (pss_one (ps_if (pt_chain op_le op_le pe_int (pv 2) pe_int)
  (pss_one (ps_aug (i := 1) sc_text_of.nd rfl (Or.inl rfl) (pe_ix ix_str (pe_gS T.c_PRINTED) (pe_op op_sub (pv 2) pe_int) (fun _ _ => rfl)) ip_str))
  (pss_one (ps_if (pt_chain op_le op_le pe_int (pv 2) pe_int)
  (pss_one (ps_aug (i := 1) sc_text_of.nd rfl (Or.inl rfl) (pe_ix ix_str (pe_gS T.c_PRINTED) (pe_op op_sub (pv 2) pe_int) (fun _ _ => rfl)) ip_str))
  (pss_one (ps_ret pe_non)))))))))
  (pss_one (ps_ret (pv 1))))), ?_⟩
    refine ⟨_, rfl, a, rfl, ⟨_, hs⟩, for_list (K := K) (a := a) (xs := ocs l) (fun i σ H' => H' = H ∧ (∃ v, σ = [some (.ref a), some (.str (S (l.take i))), v]) ∧ ∀ c ∈ l.take i, chOk c) ⟨rfl, ⟨none, rfl⟩, fun c hc => by simp at hc⟩ (fun i σ H' _ h => by rw [h.1]; exact hs) ?_ ?_⟩
    · rintro i x σ H' hi ⟨rfl, ⟨v, rfl⟩, hall⟩
      obtain ⟨c, hc, rfl⟩ := ocs_at hi
      have zt : (l.take i).length ≤ 5000 := by rw [List.length_take]; omega
      have fin : chOk c → ∀ z : Str, z = S [c] → H' = H' ∧ (∃ v, [some (V.ref a), some (.str (S (l.take i) ++ z)), some (.int c)] = [some (V.ref a), some (.str (S (l.take (i + 1)))), v]) ∧ ∀ c ∈ l.take (i + 1), chOk c := fun h z hz => by
        subst hz
        refine ⟨rfl, ⟨_, by rw [S_app, take_more hc]⟩, fun c' hc' => ?_⟩
        rw [take_more hc] at hc'
        rcases List.mem_append.mp hc' with h2 | h2
        · exact hall c' h2
        · rw [List.mem_singleton.mp h2]; exact h
      refine ⟨_, rfl, rfl, _, rfl, ?_⟩
      by_cases h10 : c = 10
      · subst h10
        refine ite_t (by decide +kernel) ?_
        exact ⟨_, rfl, _, _, rfl, rfl, small_le (by rw [S_len]; show _ + 1 ≤ _; omega), fin (.inl rfl) _ rfl⟩
      refine ite_f (decide_eq_false fun e => h10 (by have := V.int.inj e; omega)) ?_
      refine ⟨_, rfl, _, _, rfl, rfl, ?_⟩
      have two : (38 ≤ c ∧ c ≤ 126) → ∃ d, atI (S prt).cps.toList ((c : Int) - 33) = some d ∧ S [d] = S [c] := fun h => ⟨c, by
        rw [show ((c : Int) - 33) = ((c - 33 : Nat) : Int) by omega]
        exact atI_nat (prt_hi h.1 h.2), rfl⟩
      by_cases hl : 32 ≤ c
      · refine ⟨_, rfl, ite_t (decide_eq_true (by omega)) ⟨_, _, rfl, rfl, _, rfl, ?_⟩⟩
        by_cases hr1 : c ≤ 36
        · refine ite_t (decide_eq_true (by omega)) ?_
          refine ⟨_, rfl, _, rfl, _, _, rfl, rfl, _, _, c, congrArg V.str prt_eq, rfl, by decide +kernel, ?_, _, _, rfl, rfl, small_le (by rw [S_len]; show _ + 1 ≤ _; omega), fin (.inr ⟨hl, by omega, by omega⟩) _ rfl⟩
          rw [show ((c : Int) - 32) = ((c - 32 : Nat) : Int) by omega]
          exact atI_nat (prt_lo hl hr1)
        · refine ite_f (decide_eq_false (by omega)) ?_
          refine ⟨_, rfl, _, _, rfl, rfl, ?_⟩
          by_cases h38 : 38 ≤ c
          · refine ⟨_, rfl, ite_t (decide_eq_true (by omega)) ⟨_, _, rfl, rfl, _, rfl, ?_⟩⟩
            by_cases h126 : c ≤ 126
            · refine ite_t (decide_eq_true (by omega)) ?_
              obtain ⟨d, hd1, hd2⟩ := two ⟨h38, h126⟩
              refine ⟨_, rfl, _, rfl, _, _, rfl, rfl, _, _, d, congrArg V.str prt_eq, rfl, by decide +kernel, hd1, _, _, rfl, rfl, small_le (by rw [S_len]; show _ + 1 ≤ _; omega), fin (.inr ⟨hl, h126, by omega⟩) _ hd2⟩
            · refine ite_f (decide_eq_false (by omega)) ?_
              rcases hk with ⟨h1, q⟩ | ⟨_, q⟩
              · exact absurd (h1 c (List.mem_of_getElem? hc)) (by unfold chOk; omega)
              · exact q
          · refine ⟨_, rfl, ite_f (decide_eq_false (by omega)) ⟨_, rfl, iteF ?_⟩⟩
            rcases hk with ⟨h1, q⟩ | ⟨_, q⟩
            · exact absurd (h1 c (List.mem_of_getElem? hc)) (by unfold chOk; omega)
            · exact q
      · refine ⟨_, rfl, ite_f (decide_eq_false (by omega)) ⟨_, rfl, iteF ?_⟩⟩
        refine ⟨_, rfl, _, _, rfl, rfl, _, rfl, ite_f (decide_eq_false (by omega)) ⟨_, rfl, iteF ?_⟩⟩
        rcases hk with ⟨h1, q⟩ | ⟨_, q⟩
        · exact absurd (h1 c (List.mem_of_getElem? hc)) (by unfold chOk; omega)
        · exact q
    · rintro σ H' ⟨rfl, ⟨v, rfl⟩, hall⟩
      rw [ocs_len, List.take_length] at hall ⊢
      rcases hk with ⟨h1, q⟩ | ⟨⟨c, h1, h2⟩, q⟩
      · exact ⟨_, rfl, q⟩
      · exact absurd (hall c h1) h2
def spKeyOf (K : PySem.W.Frag) : Sp := fun vs H Q _ => ∃ (a : Addr) (l : List Nat), vs = [.ref a] ∧ SqL K H a (ocs l) ∧ l.length ≤ 5000 ∧ ((nmOk l ∧ ∀ H', Same H H' → Q (.str (S l)) H') ∨ ((∃ c ∈ l, ¬ chOk c) ∧ Q .non H))
theorem ltr_ch {c : Nat} (h : ltr c) : chOk c := by unfold ltr at h; unfold chOk; omega
theorem sc_key_of : FnScope ["octets", "text", "sign"] ["octets"] (defScope s_key_of) := ⟨rfl, rfl, rfl, by decide +kernel, rfl, by decide +kernel, by decide +kernel⟩
theorem ok_key_of (T : Tx K mg) : OkF P w K mg base d_key_of ["octets"] 2 (spKeyOf K) := by
  have o_text_of : OkF P w K mg base d_text_of ["octets"] 1 (spTextOf K) := ok_text_of T
  refine (okF T 34 (d := d_key_of) rfl sc_key_of (fun _ _ _ _ _ _ us hl => match us, hl with | [_], _ => rfl) ⟨rfl, rfl⟩ (fun vs H Q E h => ?_) (fun cdv A outer s H vs Q E hr h => ?_))
  · obtain ⟨a, l, rfl, _⟩ := h; rfl
  · obtain ⟨a, l, rfl, hs, hz, hk⟩ := h
    refine ⟨_, (pss_cons (ps_set (i := 1) sc_key_of.nd rfl (Or.inl rfl) (cg o_text_of T.g_text_of (hr.mono (by omega)) (pa_cons (pv 0) pa_nil)))
  (pss_cons (ps_if (PW.pt (pw_or (pt_cmpR op_isN (pv 1) pe_non (nomark _)) (pw_or (pt_not (pt_chain op_le op_le pe_int (pe_callB call_len_str (by rfl) T.z_len (by decide +kernel) (pa_cons (pv 1) pa_nil)) pe_int)) (pw_or1 (pt_truth (pe_lc (own := [("sign", 2)]) (g := gName 2) rfl sc_key_of.nd (pi_str (pv 1)) (blkOk_by (N := ["octets", "text", "sign"]) (sc := defScope s_key_of) (by decide +kernel)) (fun _ _ _ _ _ => (pg_name (i := 2) sc_key_of.nd rfl (Or.inl rfl))) (fun _ _ _ _ _ => (pts_one (pt_cmpR op_notIn_sign (pv 2) (pe_gS T.c_LETTERS_journal) rfl))) (fun _ _ _ _ _ => (pv 2))) (by intro _; rfl))))))
  (pss_one (ps_ret pe_non))
  pss_nil)
  (pss_one (ps_ret (pv 1))))), ?_⟩
    rcases hk with ⟨hn, q⟩ | ⟨hb, q⟩
    · refine ⟨_, rfl, a, l, rfl, hs, hz, .inl ⟨fun c hc => ltr_ch (hn.2.2 c hc), ?_⟩⟩
      refine ⟨_, rfl, rfl, _, rfl, ?_⟩
      refine ite_f (decide_eq_false fun e => nomatch e) ?_
      have h1 := hn.1
      have h2 := hn.2.1
      refine ⟨_, rfl, _, rfl, small_le (by rw [S_len]; omega), _, _, rfl, rfl, ?_⟩
      refine ⟨_, rfl, ite_t (decide_eq_true (by rw [S_len]; omega)) ⟨_, _, rfl, rfl, _, rfl, ?_⟩⟩
      refine ite_f (by rw [decide_eq_true (by rw [S_len]; omega)]; rfl) ?_
      refine ⟨_, rfl, _, rfl, fun D hD => lc_S (l := l) (fun i H' => H' D = some (.lst []) ∧ Same H H') ⟨upd_same, same_new hD _⟩ ?_ ?_⟩
      · rintro i c H' hi ⟨hDv, s2⟩
        refine ⟨rfl, ?_⟩
        refine ⟨_, rfl, c, S lts, rfl, congrArg V.str lts_eq, _, rfl, ?_⟩
        refine ite_f ?_ ⟨hDv, s2⟩
        rw [decide_eq_true (mem_lts.mpr (hn.2.2 c (List.mem_of_getElem? hi)))]
        rfl
      · rintro H' ⟨hDv, s2⟩
        refine ⟨_, .inl ⟨_, .inl (.inl hDv), rfl⟩, ?_⟩
        refine ite_f rfl ?_
        exact ⟨_, rfl, q H' s2⟩
    · refine ⟨_, rfl, a, l, rfl, hs, hz, .inr ⟨hb, ?_⟩⟩
      refine ⟨_, rfl, rfl, _, rfl, ?_⟩
      exact ite_t (decide_eq_true rfl) q
theorem fmt_expl (k : Nat) (m : Sub k) : fmt k (expl k m) = fmt k m := by
  rw [← fmt_plain k (expl k m), plain_expl, fmt_plain]
theorem ok_expl : ∀ (k : Nat) (i : Bool) (m : Sub k), ok k i m → (fmt k m).length ≤ 4000 → ok k i (expl k m)
  | 0, _, _, _, _ => trivial
  | k + 1, i, m, h, hz => by
    have ih := ok_expl k
    have hU := units_ok h.2
    have eU : fmt (k + 1) m = (units m).flatMap (fNd (fmt k)) := by rw [fmt_units]; rfl
    have hz2 := hz
    rw [eU] at hz2
    refine ⟨?_, fun nd hnd => ?_⟩
    · have h1 := len_flat (f := fNd (fmt k)) (l := units m) fun nd hnd => by
        obtain ⟨c, w, e, _⟩ := node_first (hU nd hnd).1 (hU nd hnd).2
        rw [e]; simp
      show ((units m).map (Nd.map (expl k))).length ≤ 5000
      rw [List.length_map]
      omega
    · obtain ⟨y, hy, rfl⟩ := List.mem_map.mp (show nd ∈ (units m).map (Nd.map (expl k)) from hnd)
      have hy2 := (hU y hy).1
      have hyz : (fNd (fmt k) y).length ≤ 4000 := Nat.le_trans (fmt_nd_le (n := k) (m := units m) hy) hz2
      cases y with
      | ch pl name cs ot =>
        obtain ⟨g1, g2, g3, g4, g5, g6⟩ := hy2
        refine ⟨g1, g2, by simpa using g3, by simpa [List.map_map, Function.comp_def] using g4, fun c hc => ?_, ih _ _ g6 (Nat.le_trans fmt_ot_le hyz)⟩
        obtain ⟨c0, hc0, rfl⟩ := List.mem_map.mp hc
        exact ⟨(g5 c0 hc0).1, ih _ _ (g5 c0 hc0).2 (Nat.le_trans (fmt_case_le hc0) hyz)⟩
      | _ => exact hy2
theorem Kp.same_new {H H1 H' : Hp} {x : Addr} (k : Kp (only x) H1 H') (h : H x = none) (s : Same H H1) : Same H H' := fun a o e => k a o (only_no (ne_of_none e h)) (s a o e)
def spParse (K : PySem.W.Frag) : Sp := fun vs H Q _ => ∃ (F : Fz) (m : Sub 3), vs = [.str (S (fmt 3 m))] ∧ Live F H ∧ ok 3 false m ∧ (fmt 3 m).length ≤ 4000 ∧ ∀ r H', Same H H' → Dh K F H' (.ref r) (dat 3 (plain 3 m)) → Q (.ref r) H'
theorem sc_parse_message : FnScope ["text", "reader", "message"] ["text"] (defScope s_parse_message) := ⟨rfl, rfl, rfl, by decide +kernel, rfl, by decide +kernel, by decide +kernel⟩
theorem ok_parse_message (T : Tx K mg) : OkF P w K mg base d_parse_message ["text"] 17 (spParse K) := by
  have o_Reader_init : OkF P w K mg base d_Reader_init ["self", "text"] 1 (spRInit K) := ok_Reader_init T
  have o_Reader_message : OkF P w K mg base d_Reader_message ["self", "inside"] 16 (spRMsg K 3) := ok_Reader_message T 3
  have o_plain : OkF P w K mg base d_plain ["message"] 7 (spPlain K 3) := ok_plain T 3 (by decide)
  refine (okF T 29 (d := d_parse_message) rfl sc_parse_message (fun _ _ _ _ _ _ us hl => match us, hl with | [_], _ => rfl) ⟨rfl, rfl⟩ (fun vs H Q E h => ?_) (fun cdv A outer s H vs Q E hr h => ?_))
  · obtain ⟨F, m, rfl, _⟩ := h; rfl
  · obtain ⟨F, m, rfl, lv, hk, hz, k⟩ := h
    refine ⟨_, (pss_cons (ps_set (i := 1) sc_parse_message.nd rfl (Or.inl rfl) (cmk o_Reader_init T.k_Reader (hr.mono (by omega)) (pa_cons (pv 0) pa_nil)))
  (pss_cons (ps_set (i := 2) sc_parse_message.nd rfl (Or.inl rfl) (cm o_Reader_message T.m_Reader_message (hr.mono (by omega)) (pv 1) (pa_cons pe_bl pa_nil)))
  (pss_cons (ps_if (pt_cmpR op_lt (pe_fld (pv 1) rfl) (pe_callB call_len_str (by rfl) T.z_len (by decide +kernel) (pa_cons (pv 0) pa_nil)) (nomark _))
  (pss_one ps_never)
  pss_nil)
  (pss_one (ps_ret (cg o_plain T.g_plain (hr.mono (by omega)) (pa_cons (pv 2) pa_nil))))))), ?_⟩
    refine ⟨_, rfl, fun x dx hx hdx hne => ⟨x, dx, fmt 3 m, rfl, upd_same, fun H1 k1 hx1 => ⟨rfl, ?_⟩⟩⟩
    have s1 : Same H H1 := k1.same_new hx (((Kp.refl (only x) H).mut hdx).same_new hx (Same.refl H) |>.trans (same_new (by rw [upd_ne (Ne.symm hne)]; exact hx) _))
    have lv1 : Live (add F x) H1 := (lv.same s1).add (by rw [hx1]; simp)
    have hT : (fmt 3 m).drop 0 = fmt 3 m ++ [] := by simp
    refine ⟨_, rfl, x, dx, _, rfl, hx1, rf_no (by decide +kernel) (by decide +kernel) (by decide +kernel), add F x, x, dx, fmt 3 m, 0, false, false, m, [], rfl, hx1, by omega, hT, (fun c r' e => by cases e), hk, add_self _ _, lv1, fun a H2 k2 hx2 ha => ?_⟩
    have s2 : Same H H2 := k2.same_new hx s1
    refine ⟨_, rfl, x, _, dx, _, _, rfl, hx2, T.cls_Reader, T.n_Reader_place, rf_place _ _ _, _, rfl, _, rfl, small_le (by rw [S_len]; omega), _, _, rfl, rfl, _, rfl, ?_⟩
    refine ite_f (decide_eq_false (by rw [S_len]; omega)) ?_
    refine ⟨_, rfl, add F x, a, expl 3 m, false, rfl, ha, (lv.same s2).add (by rw [hx2]; simp), ok_expl 3 false m hk hz, by rw [fmt_expl]; exact hz, fun r H3 s3 hr3 => ?_⟩
    rw [plain_expl] at hr3
    exact k r H3 (s2.trans s3) (hr3.weak add_sub)
def spMsgOf (K : PySem.W.Frag) : Sp := fun vs H Q _ => ∃ (F : Fz) (a : Addr) (l : List Nat), vs = [.ref a] ∧ SqL K H a (ocs l) ∧ Live F H ∧ l.length ≤ 5000 ∧
  ((∃ m : Sub 3, l = fmt 3 m ∧ plain 3 m = m ∧ ok 3 false m ∧ (fmt 3 m).length ≤ 4000 ∧ (∀ c ∈ fmt 3 m, chOk c) ∧ ∀ p r H', Same H H' → H p = none → H' p = some (.lst [.ref r]) → Dh K F H' (.ref r) (dat 3 m) → Q (.ref p) H') ∨
   ((∃ c ∈ l, ¬ chOk c) ∧ ∀ p H', Same H H' → H' p = some (.lst []) → Q (.ref p) H'))
theorem sc_message_of : FnScope ["octets", "text", "message"] ["octets"] (defScope s_message_of) := ⟨rfl, rfl, rfl, by decide +kernel, rfl, by decide +kernel, by decide +kernel⟩
theorem ok_message_of (T : Tx K mg) : OkF P w K mg base d_message_of ["octets"] 18 (spMsgOf K) := by
  have o_text_of : OkF P w K mg base d_text_of ["octets"] 1 (spTextOf K) := ok_text_of T
  have o_parse_message : OkF P w K mg base d_parse_message ["text"] 17 (spParse K) := ok_parse_message T
  have o_format_message : OkF P w K mg base d_format_message ["message"] 10 (spFMsg K 3) := ok_format_message T 3
  refine (okF T 35 (d := d_message_of) rfl sc_message_of (fun _ _ _ _ _ _ us hl => match us, hl with | [_], _ => rfl) ⟨rfl, rfl⟩ (fun vs H Q E h => ?_) (fun cdv A outer s H vs Q E hr h => ?_))
  · obtain ⟨F, a, l, rfl, _⟩ := h; rfl
  · obtain ⟨F, a, l, rfl, hs, lv, hz, hk⟩ := h
    refine ⟨_, (pss_cons (ps_set (i := 1) sc_message_of.nd rfl (Or.inl rfl) (cg o_text_of T.g_text_of (hr.mono (by omega)) (pa_cons (pv 0) pa_nil)))
  (pss_cons (ps_if (pt_cmpR op_isN (pv 1) pe_non (nomark _))
  (pss_one (ps_ret (pe_lst pa_nil)))
  pss_nil)
  (pss_cons (ps_try_thru0 (pss_one (ps_set (i := 2) sc_message_of.nd rfl (Or.inl rfl) (cg o_parse_message T.g_parse_message (hr.mono (by omega)) (pa_cons (pv 1) pa_nil)))))
  (pss_one (ps_ret (pe_ifExp (pt_cmpR op_eq (cg o_format_message T.g_format_message (hr.mono (by omega)) (pa_cons (pv 2) pa_nil)) (pv 1) (nomark _)) (pe_lst (pa_cons (pv 2) pa_nil)) (pe_lst pa_nil))))))), ?_⟩
    rcases hk with ⟨m, rfl, hp, hok, hzm, hch, q⟩ | ⟨hb, q⟩
    · refine ⟨_, rfl, a, _, rfl, hs, hz, .inl ⟨hch, ?_⟩⟩
      refine ⟨_, rfl, rfl, _, rfl, ?_⟩
      refine ite_f (decide_eq_false fun e => nomatch e) ?_
      refine ⟨_, rfl, F, m, rfl, lv, hok, hzm, fun r H1 s1 hr1 => ?_⟩
      rw [hp] at hr1
      refine ⟨_, rfl, r, m, false, rfl, hr1.out, hok, hzm, fun H2 s2 => ?_⟩
      refine ⟨_, rfl, rfl, _, rfl, ?_⟩
      refine ite_t (decide_eq_true rfl) ?_
      refine ⟨_, rfl, by show 1 ≤ sizeLine; decide, fun p hp => ?_⟩
      have s3 := (s1.trans s2).trans (same_new (o := HO.lst [.ref r]) hp)
      have hpH : H p = none := by
        cases e : H p with
        | none => rfl
        | some o => rw [(s1.trans s2) _ _ e] at hp; cases hp
      exact q p r _ s3 hpH upd_same ((hr1.same s2).same (same_new hp _))
    · refine ⟨_, rfl, a, _, rfl, hs, hz, .inr ⟨hb, ?_⟩⟩
      refine ⟨_, rfl, rfl, _, rfl, ?_⟩
      refine ite_t (decide_eq_true rfl) ?_
      exact ⟨Nat.zero_le _, fun p hp => q p _ (same_new hp _) upd_same⟩
def bodyN : Deed → List Nat
  | .put k m => 1 :: k.length :: (k ++ fmt 3 m)
  | .drop k => 2 :: k
  | .undo => [3]
def recN (d : Deed) : List Nat := (bodyN d).length / 256 :: (bodyN d).length % 256 :: (bodyN d ++ [(bodyN d).sum % 256, 170])
theorem body_len {d : Deed} (h : okD d) : (bodyN d).length ≤ 4010 := by
  cases d with
  | put k m =>
    have h1 := h.1.2.1
    have h2 := h.2.2
    simp only [bodyN, List.length_cons, List.length_append]
    omega
  | drop k =>
    have h1 := h.2.1
    simp only [bodyN, List.length_cons]
    omega
  | undo => simp [bodyN]
theorem _root_.L2.Same.hole {H H' : Hp} {p : Addr} (s : Same H H') (h : H' p = none) : H p = none := by
  cases e : H p with
  | none => rfl
  | some o => rw [s _ _ e] at h; cases h
def spBodyOf (K : PySem.W.Frag) : Sp := fun vs H Q _ => ∃ (F : Fz) (a : Addr) (d : Deed), vs = [.ref a] ∧ Live F H ∧ Dh K F H (.ref a) (dD d) ∧ okD d ∧ ∀ p H', Same H H' → H p = none → H' p = some (.lst (ocs (bodyN d))) → Q (.ref p) H'
theorem sc_body_of : FnScope ["deed"] ["deed"] (defScope s_body_of) := ⟨rfl, rfl, rfl, by decide +kernel, rfl, by decide +kernel, by decide +kernel⟩
theorem ok_body_of (T : Tx K mg) : OkF P w K mg base d_body_of ["deed"] 11 (spBodyOf K) := by
  have o_octets_of : OkF P w K mg base d_octets_of ["text"] 1 spOctets := ok_octets_of T
  have o_plain : OkF P w K mg base d_plain ["message"] 7 (spPlain K 3) := ok_plain T 3 (by decide)
  have o_format_message : OkF P w K mg base d_format_message ["message"] 10 (spFMsg K 3) := ok_format_message T 3
  refine (okF T 32 (d := d_body_of) rfl sc_body_of (fun _ _ _ _ _ _ us hl => match us, hl with | [_], _ => rfl) ⟨rfl, rfl⟩ (fun vs H Q E h => ?_) (fun cdv A outer s H vs Q E hr h => ?_))
  · obtain ⟨F, a, d, rfl, _⟩ := h; rfl
  · obtain ⟨F, a, d, rfl, lv, hd, hk, k⟩ := h
    refine ⟨_, (pss_cons (ps_if (pt_cmpR op_eq (pe_ix ix_tup (pv 0) pe_int (fun _ _ => rfl)) pe_str (nomark _))
  (pss_one (ps_ret (pe_lst (pa_cons (pe_gI T.c_UNDO) pa_nil))))
  pss_nil)
  (pss_cons (ps_if (pt_cmpR op_eq (pe_ix ix_tup (pv 0) pe_int (fun _ _ => rfl)) pe_str (nomark _))
  (pss_one (ps_ret (pe_op op_cat (pe_lst (pa_cons (pe_gI T.c_DROP) pa_nil)) (cg o_octets_of T.g_octets_of (hr.mono (by omega)) (pa_cons (pe_ix ix_tup (pv 0) pe_int (fun _ _ => rfl)) pa_nil)))))
  pss_nil)
  (pss_one (ps_ret (pe_op op_cat (pe_op op_cat (pe_lst (pa_cons (pe_gI T.c_PUT) (pa_cons (pe_callB call_len_str (by rfl) T.z_len (by decide +kernel) (pa_cons (pe_ix ix_tup (pv 0) pe_int (fun _ _ => rfl)) pa_nil)) pa_nil))) (cg o_octets_of T.g_octets_of (hr.mono (by omega)) (pa_cons (pe_ix ix_tup (pv 0) pe_int (fun _ _ => rfl)) pa_nil))) (cg o_octets_of T.g_octets_of (hr.mono (by omega)) (pa_cons (cg o_format_message T.g_format_message (hr.mono (by omega)) (pa_cons (cg o_plain T.g_plain (hr.mono (by omega)) (pa_cons (pe_ix ix_tup (pv 0) pe_int (fun _ _ => rfl)) pa_nil)) pa_nil)) pa_nil))))))), ?_⟩
    obtain ⟨a', e, hd2⟩ := dp_deed hd
    cases e
    cases d with
    | put kx m =>
      obtain ⟨r, h1, h2⟩ := hd2
      have h1' := SqT.of (K := K) (Av_same F H _ _ h1)
      have hkl : kx.length ≤ 8 := hk.1.2.1
      refine ⟨_, rfl, a, _, _, _, rfl, rfl, h1', rfl, rfl, _, rfl, ?_⟩
      refine ite_f (by decide +kernel) ?_
      refine ⟨_, rfl, a, _, _, _, rfl, rfl, h1', rfl, rfl, _, rfl, ?_⟩
      refine ite_f (by decide +kernel) ?_
      refine ⟨_, rfl, a, _, _, _, rfl, rfl, h1', rfl, _, rfl, small_le (by rw [S_len]; omega), by show 2 ≤ sizeLine; decide, fun p1 hp1 => ?_⟩
      have s1 := same_new (o := HO.lst [.int 1, .int ((S kx).length : Int)]) hp1
      refine ⟨_, rfl, a, _, _, _, rfl, rfl, s1.seqT h1', rfl, kx, rfl, by omega, fun p2 H2 s2 hp2n hp2 => ?_⟩
      refine ⟨p1, p2, _, _, rfl, rfl, s2 _ _ upd_same, hp2, small_le (by rw [ocs_len]; show 2 + _ ≤ _; omega), fun p3 hp3 => ?_⟩
      have s3 : Same H (upd H2 p3 (.lst ([.int 1, .int ((S kx).length : Int)] ++ ocs kx))) := (s1.trans s2).trans (same_new hp3 _)
      refine ⟨_, rfl, a, _, _, _, rfl, rfl, s3.seqT h1', rfl, F, r, m, false, rfl, (show Dh K F H (.ref r) (dat 3 m) from h2).same s3, lv.same s3, hk.2.1, hk.2.2, fun r2 H3 s4 hr2 => ?_⟩
      refine ⟨r2, plain 3 m, false, rfl, hr2.out, okp 3 false m hk.2.1, by rw [fmt_plain]; exact hk.2.2, fun H4 s5 => ?_⟩
      rw [fmt_plain]
      refine ⟨fmt 3 m, rfl, by have := hk.2.2; omega, fun p4 H5 s6 hp4n hp4 => ?_⟩
      have e3 : H5 p3 = some (.lst ([.int 1, .int ((S kx).length : Int)] ++ ocs kx)) := s6 _ _ (s5 _ _ (s4 _ _ upd_same))
      refine ⟨p3, p4, _, _, rfl, rfl, e3, hp4, small_le (by rw [List.length_append, ocs_len, ocs_len]; have := hk.2.2; show 2 + _ + _ ≤ _; omega), fun p5 hp5 => ?_⟩
      have s7 := (((s3.trans s4).trans s5).trans s6)
      refine k p5 _ (s7.trans (same_new hp5 _)) (s7.hole hp5) ?_
      rw [upd_same, S_len]
      simp [bodyN, ocs]
    | drop kx =>
      have h1' := SqT.of (K := K) (Av_same F H _ _ hd2)
      have hkl : kx.length ≤ 8 := hk.2.1
      refine ⟨_, rfl, a, _, _, _, rfl, rfl, h1', rfl, rfl, _, rfl, ?_⟩
      refine ite_f (by decide +kernel) ?_
      refine ⟨_, rfl, a, _, _, _, rfl, rfl, h1', rfl, rfl, _, rfl, ?_⟩
      refine ite_t (by decide +kernel) ?_
      refine ⟨by show 1 ≤ sizeLine; decide, fun p1 hp1 => ?_⟩
      have s1 := same_new (o := HO.lst [.int 2]) hp1
      refine ⟨_, rfl, a, _, _, _, rfl, rfl, s1.seqT h1', rfl, kx, rfl, by omega, fun p2 H2 s2 hp2n hp2 => ?_⟩
      refine ⟨p1, p2, _, _, rfl, rfl, s2 _ _ upd_same, hp2, small_le (by rw [ocs_len]; show 1 + _ ≤ _; omega), fun p3 hp3 => ?_⟩
      refine k p3 _ ((s1.trans s2).trans (same_new hp3 _)) ((s1.trans s2).hole hp3) ?_
      rw [upd_same]
      rfl
    | undo =>
      have h1' := SqT.of (K := K) (Av_same F H _ _ hd2)
      refine ⟨_, rfl, a, _, _, _, rfl, rfl, h1', rfl, rfl, _, rfl, ?_⟩
      refine ite_t (by decide +kernel) ?_
      exact ⟨by show 1 ≤ sizeLine; decide, fun p1 hp1 => k p1 _ (same_new hp1 _) hp1 upd_same⟩
theorem ocs_int (l : List Nat) : ocs l = (l.map fun c : Nat => (c : Int)).map V.int := by simp [ocs]
theorem ocs_sum (l : List Nat) : (l.map fun c : Nat => (c : Int)).sum = ((l.sum : Nat) : Int) := by
  induction l with
  | nil => rfl
  | cons c r ih => simp [ih]
def spRecOf (K : PySem.W.Frag) : Sp := fun vs H Q _ => ∃ (F : Fz) (a : Addr) (d : Deed), vs = [.ref a] ∧ Live F H ∧ Dh K F H (.ref a) (dD d) ∧ okD d ∧ ∀ p H', Same H H' → H p = none → H' p = some (.lst (ocs (recN d))) → Q (.ref p) H'
theorem sc_record_of : FnScope ["deed", "body"] ["deed"] (defScope s_record_of) := ⟨rfl, rfl, rfl, by decide +kernel, rfl, by decide +kernel, by decide +kernel⟩
theorem ok_record_of (T : Tx K mg) : OkF P w K mg base d_record_of ["deed"] 12 (spRecOf K) := by
  have o_body_of : OkF P w K mg base d_body_of ["deed"] 11 (spBodyOf K) := ok_body_of T
  refine (okF T 33 (d := d_record_of) rfl sc_record_of (fun _ _ _ _ _ _ us hl => match us, hl with | [_], _ => rfl) ⟨rfl, rfl⟩ (fun vs H Q E h => ?_) (fun cdv A outer s H vs Q E hr h => ?_))
  · obtain ⟨F, a, d, rfl, _⟩ := h; rfl
  · obtain ⟨F, a, d, rfl, lv, hd, hk, k⟩ := h
    refine ⟨_, (pss_cons (ps_set (i := 1) sc_record_of.nd rfl (Or.inl rfl) (cg o_body_of T.g_body_of (hr.mono (by omega)) (pa_cons (pv 0) pa_nil)))
  (pss_one (ps_ret (pe_op op_cat (pe_op op_cat (pe_lst (pa_cons (pe_op op_fdiv (pe_callB call_len_seq (by rfl) T.z_len (by decide +kernel) (pa_cons (pv 1) pa_nil)) pe_int) (pa_cons (pe_op op_mod (pe_callB call_len_seq (by rfl) T.z_len (by decide +kernel) (pa_cons (pv 1) pa_nil)) pe_int) pa_nil))) (pv 1)) (pe_lst (pa_cons (pe_op op_mod (pe_callB (cr_sum rfl) (by rfl) T.z_sum (by decide +kernel) (pa_cons (pv 1) pa_nil)) pe_int) (pa_cons (pe_gI T.c_MARK) pa_nil))))))), ?_⟩
    have zb := body_len hk
    refine ⟨_, rfl, F, a, d, rfl, lv, hd, hk, fun p1 H1 s1 hn1 hp1 => ?_⟩
    refine ⟨_, rfl, p1, _, rfl, .inl (SqL.of hp1), _, _, rfl, rfl, ⟨by decide, by decide⟩, ?_⟩
    refine ⟨_, rfl, p1, _, rfl, .inl (SqL.of hp1), _, _, rfl, rfl, show (0 : Int) < 256 by decide, by show 2 ≤ sizeLine; decide, fun p2 hp2 => ?_⟩
    have s2 := same_new (o := HO.lst [.int (((ocs (bodyN d)).length : Int) / 256), .int (((ocs (bodyN d)).length : Int) % 256)]) hp2
    refine ⟨_, rfl, p2, p1, _, _, rfl, rfl, upd_same, s2 _ _ hp1, small_le (by rw [ocs_len]; show 2 + _ ≤ _; omega), fun p3 hp3 => ?_⟩
    have s3 := s2.trans (same_new (o := HO.lst ([.int (((ocs (bodyN d)).length : Int) / 256), .int (((ocs (bodyN d)).length : Int) % 256)] ++ ocs (bodyN d))) hp3)
    refine ⟨_, rfl, p1, (bodyN d).map fun c : Nat => (c : Int), rfl, by rw [← ocs_int]; exact SqL.of (s3 _ _ hp1), _, _, rfl, rfl, show (0 : Int) < 256 by decide, by show 2 ≤ sizeLine; decide, fun p4 hp4 => ?_⟩
    refine ⟨p3, p4, _, _, rfl, rfl, same_new hp4 _ _ _ upd_same, upd_same, small_le (by rw [List.length_append, ocs_len]; show 2 + _ + 2 ≤ _; omega), fun p5 hp5 => ?_⟩
    refine k p5 _ (((s1.trans s3).trans (same_new hp4 _)).trans (same_new hp5 _)) (Same.hole ((s1.trans s3).trans (same_new hp4 _)) hp5) ?_
    rw [upd_same, ocs_sum]
    simp [recN, ocs]
end
end Mw
/-! MwK -/
set_option Elab.async false
set_option linter.all false
set_option maxRecDepth 100000
set_option maxHeartbeats 4000000
namespace Mw
open PySem PySem.Spec PyProof.Rows L2
/-! ## reading records back -/
theorem cutO_to (l : List Nat) (b : Nat) : cutV (ocs l) none (some ((b : Nat) : Int)) = ocs (l.take b) := by
  unfold cutV
  rw [HT.sIx_none, HT.sIx_nat, ocs_len, List.drop_zero, Nat.sub_zero, ocs_take]
  congr 1
  rw [← List.take_take]
  simp
theorem cutO_from (l : List Nat) (a : Nat) : cutV (ocs l) (some ((a : Nat) : Int)) none = ocs (l.drop a) := by
  unfold cutV
  rw [HT.sIx_none, HT.sIx_nat, ocs_len, ocs_drop]
  by_cases h : a ≤ l.length
  · rw [Nat.min_eq_left h, ocs_take, List.take_of_length_le (by simp)]
  · rw [Nat.min_eq_right (by omega), Nat.sub_self, List.take_zero, List.drop_eq_nil_of_le (by omega)]
    rfl
theorem cutO (l : List Nat) (a b : Nat) : cutV (ocs l) (some ((a : Nat) : Int)) (some ((b : Nat) : Int)) = ocs ((l.drop a).take (b - a)) := by
  unfold cutV
  rw [HT.sIx_nat, HT.sIx_nat, ocs_len, ocs_drop]
  by_cases h : a ≤ l.length
  · rw [Nat.min_eq_left h, ocs_take]
    congr 1
    by_cases h2 : b ≤ l.length
    · rw [Nat.min_eq_left h2]
    · rw [Nat.min_eq_right (by omega), List.take_of_length_le (by simp), List.take_of_length_le (by simp; omega)]
  · have e1 : min a l.length = l.length := Nat.min_eq_right (by omega)
    have e2 : l.drop a = [] := List.drop_eq_nil_of_le (by omega)
    rw [e1, e2, List.drop_length]
    simp [ocs]
def iD (l : List Nat) : PyData := .list (l.map fun c : Nat => .int (c : Int))
theorem eqv_ints : ∀ a b : List Nat, PyData.eqvAll (a.map fun c : Nat => PyData.int (c : Int)) (b.map fun c : Nat => PyData.int (c : Int)) = decide (a = b)
  | [], [] => rfl
  | [], _ :: _ => rfl
  | _ :: _, [] => rfl
  | x :: a, y :: b => by
    have ih := eqv_ints a b
    show (((x : Int) == y) && PyData.eqvAll (a.map fun c : Nat => PyData.int (c : Int)) (b.map fun c : Nat => PyData.int (c : Int))) = _
    rw [ih]
    by_cases h : x = y
    · subst h
      simp
    · have : ((x : Int) == y) = false := by simp; omega
      rw [this]
      simp [h]
theorem eqv_iD (a b : List Nat) : PyData.eqv (iD a) (iD b) = decide (a = b) := eqv_ints a b
theorem shaped_iD (l : List Nat) : SeqAt.shaped (iD l) = true := by
  have h1 : (iD l).canLay0 = true := clAll fun x hx => by
    obtain ⟨c, _, rfl⟩ := List.mem_map.mp hx
    rfl
  have h2 : (iD l).depth ≤ 1 := by
    show PyData.depthAll _ + 1 ≤ 1
    have := depAll (N := 0) (l := l.map fun c : Nat => PyData.int (c : Int)) fun x hx => by
      obtain ⟨c, _, rfl⟩ := List.mem_map.mp hx
      exact Nat.le_refl _
    omega
  unfold SeqAt.shaped
  rw [h1, decide_eq_true (by omega)]
  rfl
theorem dpI {K : PySem.W.Frag} {H : Hp} {a : Addr} {l : List Nat} (h : SqL K H a (ocs l)) : L2.Dp K H (.ref a) (iD l) := by
  refine .lst h ?_
  clear h
  induction l with
  | nil => exact .nil
  | cons c r ih => exact .cons (.int _) ih
/-- the notation has only printed signs and line ends -/
theorem nm_ch {n : List Nat} (h : nmOk n) : ∀ c ∈ n, chOk c := fun c hc => ltr_ch (h.2.2 c hc)
theorem esc_ch {c : Nat} (h : chOk c) : ∀ x ∈ esc c, chOk x := by
  intro x hx
  unfold esc at hx
  have h39 : chOk 39 := by unfold chOk; omega
  split at hx
  · simp only [List.mem_cons, List.not_mem_nil, or_false, or_self] at hx
    rw [hx]; exact h39
  · split at hx
    · simp only [List.mem_cons, List.not_mem_nil, or_false] at hx
      rcases hx with rfl | rfl | rfl
      · exact h39
      · exact h
      · exact h39
    · rw [List.mem_singleton.mp hx]; exact h
theorem lit_ch {l : List Nat} (h : (l.all fun c => decide (c = 10 ∨ (32 ≤ c ∧ c ≤ 126 ∧ c ≠ 37))) = true) : ∀ c ∈ l, chOk c := fun c hc => (show c = 10 ∨ (32 ≤ c ∧ c ≤ 126 ∧ c ≠ 37) from of_decide_eq_true (List.all_eq_true.mp h c hc))
theorem ky_ch {pl : Bool} {k : Ky} (h : kyOk pl k) : ∀ c ∈ fKy k, chOk c := by
  cases k with
  | num n =>
    intro c hc
    have hn : n ≤ 9 := h.2
    simp only [fKy, List.mem_cons, List.not_mem_nil, or_false] at hc
    rcases hc with rfl | rfl <;> (unfold chOk; omega)
  | wd w => exact nm_ch h.1
theorem app_ch {a b : List Nat} (ha : ∀ c ∈ a, chOk c) (hb : ∀ c ∈ b, chOk c) : ∀ c ∈ a ++ b, chOk c := fun c hc => by
  rcases List.mem_append.mp hc with h | h
  · exact ha c h
  · exact hb c h
theorem flat_ch {α : Type} {f : α → List Nat} {l : List α} (h : ∀ x ∈ l, ∀ c ∈ f x, chOk c) : ∀ c ∈ l.flatMap f, chOk c := fun c hc => by
  obtain ⟨x, hx, hc2⟩ := List.mem_flatMap.mp hc
  exact h x hx c hc2
theorem fmt_ch : ∀ (k : Nat) (i : Bool) (m : Sub k), ok k i m → ∀ c ∈ fmt k m, chOk c
  | 0, _, e, _ => nomatch e
  | k + 1, i, m, h => by
    have ih := fmt_ch k
    rw [fmt_eq]
    refine flat_ch fun nd hnd => ?_
    have hn := h.2 nd hnd
    cases nd with
    | text s => exact flat_ch fun c hc => esc_ch (hn c hc)
    | shw n => exact app_ch (a := 123 :: n) (app_ch (a := [123]) (lit_ch (by decide)) (nm_ch hn)) (lit_ch (by decide))
    | num => exact lit_ch (l := [35]) (by decide)
    | ch pl name cs ot =>
      obtain ⟨g1, g2, g3, g4, g5, g6⟩ := hn
      have ho : ∀ c ∈ fOff pl, chOk c := by
        cases pl with
        | none => exact fun c hc => by simp [fOff] at hc
        | some o =>
          have h9 := g2 o rfl
          by_cases h0 : o = 0
          · subst h0; exact fun c hc => by simp [fOff] at hc
          · rw [fOff_pos h0]
            refine app_ch (lit_ch (by decide)) fun c hc => ?_
            simp only [List.mem_cons, List.not_mem_nil, or_false] at hc
            rcases hc with rfl | rfl <;> (unfold chOk; omega)
      have hkd : ∀ c ∈ cKind pl, chOk c := nm_ch (kind_nm pl)
      show ∀ c ∈ 123 :: name ++ [44, 32] ++ cKind pl ++ [44, 32] ++ fOff pl ++ cs.flatMap (fCase (fmt k)) ++ cOther ++ [32, 123] ++ fmt k ot ++ [125, 125], chOk c
      refine app_ch (app_ch (app_ch (app_ch (app_ch (app_ch (app_ch (app_ch (app_ch (app_ch (a := [123]) (lit_ch (by decide)) (nm_ch g1)) (lit_ch (by decide))) hkd) (lit_ch (by decide))) ho) (flat_ch fun c hc => ?_)) (lit_ch (by decide))) (lit_ch (by decide))) (ih _ _ g6)) (lit_ch (by decide))
      exact app_ch (app_ch (app_ch (ky_ch (g5 c hc).1) (lit_ch (by decide))) (ih _ _ (g5 c hc).2)) (lit_ch (by decide))
/-! ### bodies -/
def plD : Deed → Prop
  | .put _ m => plain 3 m = m
  | _ => True
/-- the bodies that a reader may meet: a deed's, or one with an octet that no text has -/
inductive Bd : List Nat → Option Deed → Prop
  | good (d : Deed) : okD d → plD d → Bd (bodyN d) (some d)
  | nil : Bd [] none
  | one (b : Nat) : b ≠ 1 → b ≠ 2 → b ≠ 3 → Bd [b] none
  | drop (l : List Nat) : l.length ≤ 5000 → (∃ c ∈ l, ¬ chOk c) → Bd (2 :: l) none
  | put1 (k l : List Nat) : nmOk k → l.length ≤ 5000 → (∃ c ∈ l, ¬ chOk c) → Bd (1 :: k.length :: (k ++ l)) none
  | put2 (k : List Nat) : k.length ≤ 8 → (∃ c ∈ k, ¬ chOk c) → Bd (1 :: k.length :: k) none
section
variable {P : Program} {w : World} {K : PySem.W.Frag} {mg : Str → Option Value} {base : Heap}
def rdO (K : PySem.W.Frag) (F : Fz) (H : Hp) (v : V) : Option Deed → Prop
  | some d => Dh K F H v (dD d)
  | none => v = .non
def spDeedOf (K : PySem.W.Frag) : Sp := fun vs H Q _ => ∃ (F : Fz) (a : Addr) (l : List Nat) (od : Option Deed), vs = [.ref a] ∧ SqL K H a (ocs l) ∧ Live F H ∧ l.length ≤ 5000 ∧ Bd l od ∧ ∀ v H', Same H H' → rdO K F H' v od → Q v H'
theorem sc_deed_of : FnScope ["body", "key", "message"] ["body"] (defScope s_deed_of) := ⟨rfl, rfl, rfl, by decide +kernel, rfl, by decide +kernel, by decide +kernel⟩
theorem ok_deed_of (T : Tx K mg) : OkF P w K mg base d_deed_of ["body"] 19 (spDeedOf K) := by
  have o_key_of : OkF P w K mg base d_key_of ["octets"] 2 (spKeyOf K) := ok_key_of T
  have o_message_of : OkF P w K mg base d_message_of ["octets"] 18 (spMsgOf K) := ok_message_of T
  refine (okF T 36 (d := d_deed_of) rfl sc_deed_of (fun _ _ _ _ _ _ us hl => match us, hl with | [_], _ => rfl) ⟨rfl, rfl⟩ (fun vs H Q E h => ?_) (fun cdv A outer s H vs Q E hr h => ?_))
  · obtain ⟨F, a, l, od, rfl, _⟩ := h; rfl
  · obtain ⟨F, a, l, od, rfl, hs, lv, hz, hb, k⟩ := h
    refine ⟨_, (pss_cons (ps_if (pt_cmpR (op_eqD hr.units) (pv 0) (pe_lst (pa_cons (pe_gI T.c_UNDO) pa_nil)) (nomark _))
  (pss_one (ps_ret (pe_tup (pa_cons pe_str pa_nil))))
  pss_nil)
  (pss_cons (ps_if (PW.pt (pw_and (pt_cmpR (op_eqD hr.units) (pe_slice sl_list (pv 0) po_none (po_some pe_int)) (pe_lst (pa_cons (pe_gI T.c_DROP) pa_nil)) (nomark _)) (pw_and1 (pt_cmpR op_notN (cg o_key_of T.g_key_of (hr.mono (by omega)) (pa_cons (pe_slice sl_list (pv 0) (po_some pe_int) po_none) pa_nil)) pe_non (nomark _)))))
  (pss_one (ps_ret (pe_tup (pa_cons pe_str (pa_cons (cg o_key_of T.g_key_of (hr.mono (by omega)) (pa_cons (pe_slice sl_list (pv 0) (po_some pe_int) po_none) pa_nil)) pa_nil)))))
  pss_nil)
  (pss_cons (ps_if (PW.pt (pw_and (pt_cmpR (op_eqD hr.units) (pe_slice sl_list (pv 0) po_none (po_some pe_int)) (pe_lst (pa_cons (pe_gI T.c_PUT) pa_nil)) (nomark _)) (pw_and1 (pt_cmpR op_gt (pe_callB call_len_seq (by rfl) T.z_len (by decide +kernel) (pa_cons (pv 0) pa_nil)) pe_int (nomark _)))))
  (pss_cons (ps_set (i := 1) sc_deed_of.nd rfl (Or.inl rfl) (cg o_key_of T.g_key_of (hr.mono (by omega)) (pa_cons (pe_slice sl_list (pv 0) (po_some pe_int) (po_some (pe_op op_add pe_int (pe_ix ix_list (pv 0) pe_int (fun _ _ => rfl))))) pa_nil)))
  (pss_cons (ps_set (i := 2) sc_deed_of.nd rfl (Or.inl rfl) (cg o_message_of T.g_message_of (hr.mono (by omega)) (pa_cons (pe_slice sl_list (pv 0) (po_some (pe_op op_add pe_int (pe_ix ix_list (pv 0) pe_int (fun _ _ => rfl)))) po_none) pa_nil)))
  (pss_one (ps_if (PW.pt (pw_and (pt_cmpR op_notN (pv 1) pe_non (nomark _)) (pw_and (pt_cmpR op_eq (pe_callB call_len_str (by rfl) T.z_len (by decide +kernel) (pa_cons (pv 1) pa_nil)) (pe_ix ix_list (pv 0) pe_int (fun _ _ => rfl)) (nomark _)) (pw_and1 (pt_truth (pv 2) (by intro _; rfl))))))
  (pss_one (ps_ret (pe_tup (pa_cons pe_str (pa_cons (pv 1) (pa_cons (pe_ix ix_list (pv 2) pe_int (fun _ _ => rfl)) pa_nil))))))
  pss_nil))))
  pss_nil)
  (pss_one (ps_ret pe_non))))), ?_⟩
    refine ⟨_, rfl, by show 1 ≤ sizeLine; decide, fun p1 hp1 => ?_⟩
    have s1 := same_new (o := HO.lst [.int 3]) hp1
    refine ⟨iD l, iD [3], dpI (s1.seq hs), dpI (SqL.of upd_same), shaped_iD _, shaped_iD _, _, rfl, ?_⟩
    rw [eqv_iD]
    by_cases h3 : l = [3]
    · refine ite_t (decide_eq_true h3) ?_
      refine ⟨by show 1 ≤ sizeLine; decide, fun p2 hp2 => ?_⟩
      have s2 := s1.trans (same_new (o := HO.tup [.str "undo"]) hp2)
      have hp2F : F p2 = false := lv.new (s1.hole hp2)
      cases hb with
      | good d hk hp =>
        cases d with
        | put kx m => cases h3
        | drop kx => cases h3
        | undo => exact k _ _ s2 (.tup ((Av_get hp2F).trans upd_same) (.cons (.str _) .nil))
      | nil => cases h3
      | one b n1 n2 n3 => exact absurd (List.cons.inj h3).1 n3
      | drop l hl hc => exact absurd (List.cons.inj h3).1 (by decide)
      | put1 kx l hn hl hc => exact absurd (List.cons.inj h3).1 (by decide)
      | put2 kx hl hc => exact absurd (List.cons.inj h3).1 (by decide)
    refine ite_f (decide_eq_false h3) ?_
    -- body[:1] == [DROP]
    generalize upd H p1 (.lst [.int 3]) = H1 at *
    refine ⟨_, rfl, _, rfl, a, _, rfl, s1.seq hs, fun p2 hp2 => ?_⟩
    rw [show cutV (ocs l) none (some 1) = ocs (l.take 1) from cutO_to l 1] at *
    have s2 := s1.trans (same_new (o := HO.lst (ocs (l.take 1))) hp2)
    refine ⟨by show 1 ≤ sizeLine; decide, fun p3 hp3 => ?_⟩
    have s3 := s2.trans (same_new (o := HO.lst [.int 2]) hp3)
    refine ⟨iD (l.take 1), iD [2], dpI (SqL.of (same_new hp3 _ _ _ upd_same)), dpI (SqL.of upd_same), shaped_iD _, shaped_iD _, _, rfl, ?_⟩
    rw [eqv_iD]
    generalize upd (upd H1 p2 (.lst (ocs (l.take 1)))) p3 (.lst [.int 2]) = H3 at *
    by_cases h2 : l.take 1 = [2]
    · refine ite_t (decide_eq_true h2) ?_
      obtain ⟨l2, rfl, hz2, hb2⟩ : ∃ l2, l = 2 :: l2 ∧ l2.length ≤ 5000 ∧ ((nmOk l2 ∧ od = some (.drop l2)) ∨ ((∃ c ∈ l2, ¬ chOk c) ∧ od = none)) := by
        cases hb with
        | good d hk hp =>
          cases d with
          | put kx m => cases h2
          | drop kx => exact ⟨kx, rfl, by have := hk.2.1; omega, .inl ⟨hk, rfl⟩⟩
          | undo => cases h2
        | nil => cases h2
        | one b n1 n2 n3 => exact absurd (List.cons.inj h2).1 n2
        | drop l hl hc => exact ⟨l, rfl, hl, .inr ⟨hc, rfl⟩⟩
        | put1 kx l hn hl hc => exact absurd (List.cons.inj h2).1 (by decide)
        | put2 kx hl hc => exact absurd (List.cons.inj h2).1 (by decide)
      refine ⟨_, rfl, _, rfl, a, _, rfl, s3.seq hs, fun p4 hp4 => ?_⟩
      rw [show cutV (ocs (2 :: l2)) (some 1) none = ocs l2 from cutO_from (2 :: l2) 1] at *
      have s4 := s3.trans (same_new (o := HO.lst (ocs l2)) hp4)
      rcases hb2 with ⟨hn, rfl⟩ | ⟨hc, rfl⟩
      · refine ⟨p4, l2, rfl, SqL.of upd_same, hz2, .inl ⟨hn, fun H5 s5 => ?_⟩⟩
        refine ⟨rfl, _, rfl, ?_⟩
        refine ite_t rfl ?_
        refine ⟨_, rfl, _, rfl, a, _, rfl, (s4.trans s5).seq hs, fun p6 hp6 => ?_⟩
        rw [show cutV (ocs (2 :: l2)) (some 1) none = ocs l2 from cutO_from (2 :: l2) 1] at *
        have s6 := (s4.trans s5).trans (same_new (o := HO.lst (ocs l2)) hp6)
        refine ⟨p6, l2, rfl, SqL.of upd_same, hz2, .inl ⟨hn, fun H7 s7 => ?_⟩⟩
        refine ⟨by show 2 ≤ sizeLine; decide, fun p8 hp8 => ?_⟩
        have s8 := (s6.trans s7)
        have f8 : F p8 = false := lv.new (s8.hole hp8)
        exact k _ _ (s8.trans (same_new hp8 _)) (.tup ((Av_get f8).trans upd_same) (.cons (.str _) (.cons (.str _) .nil)))
      · refine ⟨p4, l2, rfl, SqL.of upd_same, hz2, .inr ⟨hc, ?_⟩⟩
        refine ⟨rfl, _, rfl, ?_⟩
        refine ite_f rfl ?_
        refine ⟨_, rfl, _, rfl, a, _, rfl, s4.seq hs, fun p5 hp5 => ?_⟩
        rw [show cutV (ocs (2 :: l2)) none (some 1) = ocs [2] from cutO_to (2 :: l2) 1] at *
        have s5 := s4.trans (same_new (o := HO.lst (ocs [2])) hp5)
        refine ⟨by show 1 ≤ sizeLine; decide, fun p6 hp6 => ?_⟩
        have s6 := s5.trans (same_new (o := HO.lst [.int 1]) hp6)
        refine ⟨iD [2], iD [1], dpI (SqL.of (same_new hp6 _ _ _ upd_same)), dpI (SqL.of upd_same), shaped_iD _, shaped_iD _, _, rfl, ?_⟩
        rw [eqv_iD]
        refine ite_f (by decide) (iteF ?_)
        exact k _ _ s6 rfl
    · refine ite_f (decide_eq_false h2) (iteF ?_)
      refine ⟨_, rfl, _, rfl, a, _, rfl, s3.seq hs, fun p4 hp4 => ?_⟩
      rw [show cutV (ocs l) none (some 1) = ocs (l.take 1) from cutO_to l 1] at *
      have s4 := s3.trans (same_new (o := HO.lst (ocs (l.take 1))) hp4)
      refine ⟨by show 1 ≤ sizeLine; decide, fun p5 hp5 => ?_⟩
      have s5 := s4.trans (same_new (o := HO.lst [.int 1]) hp5)
      refine ⟨iD (l.take 1), iD [1], dpI (SqL.of (same_new hp5 _ _ _ upd_same)), dpI (SqL.of upd_same), shaped_iD _, shaped_iD _, _, rfl, ?_⟩
      rw [eqv_iD]
      generalize upd (upd H3 p4 (.lst (ocs (l.take 1)))) p5 (.lst [.int 1]) = H5 at *
      by_cases h1 : l.take 1 = [1]
      · refine ite_t (decide_eq_true h1) ?_
        obtain ⟨kx, l2, rfl, hzk, hz2, hb2⟩ : ∃ kx l2, l = 1 :: kx.length :: (kx ++ l2) ∧ kx.length ≤ 8 ∧ l2.length ≤ 5000 ∧
            ((nmOk kx ∧ ∃ m, l2 = fmt 3 m ∧ plain 3 m = m ∧ ok 3 false m ∧ (fmt 3 m).length ≤ 4000 ∧ od = some (.put kx m)) ∨ (nmOk kx ∧ (∃ c ∈ l2, ¬ chOk c) ∧ od = none) ∨ ((∃ c ∈ kx, ¬ chOk c) ∧ l2 = [] ∧ od = none)) := by
          cases hb with
          | good d hk hp =>
            cases d with
            | put kx m => exact ⟨kx, fmt 3 m, rfl, hk.1.2.1, by have := hk.2.2; omega, .inl ⟨hk.1, m, rfl, hp, hk.2.1, hk.2.2, rfl⟩⟩
            | drop kx => cases h1
            | undo => cases h1
          | nil => cases h1
          | one b n1 n2 n3 => exact absurd (List.cons.inj h1).1 n1
          | drop l hl hc => exact absurd (List.cons.inj h1).1 (by decide)
          | put1 kx l hn hl hc => exact ⟨kx, l, rfl, hn.2.1, hl, .inr (.inl ⟨hn, hc, rfl⟩)⟩
          | put2 kx hl hc => exact ⟨kx, [], by simp, hl, by simp, .inr (.inr ⟨hc, rfl, rfl⟩)⟩
        refine ⟨_, rfl, a, _, rfl, .inl (s5.seq hs), _, _, rfl, rfl, _, rfl, ?_⟩
        refine ite_t (decide_eq_true (by rw [ocs_len]; simp only [List.length_cons, List.length_append]; omega)) ?_
        have hat : atI (ocs (1 :: kx.length :: (kx ++ l2))) 1 = some (.int ((kx.length : Nat) : Int)) := atI_nat (j := 1) rfl
        have e2 : (2 : Int) + ((kx.length : Nat) : Int) = ((2 + kx.length : Nat) : Int) := by omega
        have ek : cutV (ocs (1 :: kx.length :: (kx ++ l2))) (some 2) (some ((2 : Int) + ((kx.length : Nat) : Int))) = ocs kx := by
          rw [e2, show (2 : Int) = ((2 : Nat) : Int) from rfl, cutO]
          congr 1
          simp
        have el : cutV (ocs (1 :: kx.length :: (kx ++ l2))) (some ((2 : Int) + ((kx.length : Nat) : Int))) none = ocs l2 := by
          rw [e2, cutO_from]
          congr 1
          rw [show 2 + kx.length = kx.length + 2 by omega]
          simp
        refine ⟨_, rfl, _, rfl, _, rfl, a, _, _, _, rfl, rfl, s5.seq hs, hat, _, _, rfl, rfl, _, rfl, a, _, rfl, s5.seq hs, fun p6 hp6 => ?_⟩
        rw [ek] at *
        have s6 := s5.trans (same_new (o := HO.lst (ocs kx)) hp6)
        generalize hH6 : upd H5 p6 (.lst (ocs kx)) = H6 at *
        have hp66 : H6 p6 = some (.lst (ocs kx)) := by rw [← hH6]; exact upd_same
        have go : ∀ (key : V) (H7 : Hp), Same H6 H7 → ((key = .str (S kx) ∧ nmOk kx) ∨ (key = .non ∧ l2 = [] ∧ od = none ∧ ∃ c ∈ kx, ¬ chOk c)) → True := fun _ _ _ _ => trivial
        rcases hb2 with ⟨hn, m, hl2, hpm, hom, hzm, rfl⟩ | ⟨hn, hc, rfl⟩ | ⟨hc, hl2, rfl⟩
        · refine ⟨p6, kx, rfl, SqL.of hp66, by omega, .inl ⟨hn, fun H7 s7 => ?_⟩⟩
          have s8 := s6.trans s7
          refine ⟨_, rfl, _, rfl, a, _, _, _, rfl, rfl, s8.seq hs, hat, _, _, rfl, rfl, _, rfl, a, _, rfl, s8.seq hs, fun p9 hp9 => ?_⟩
          rw [el] at *
          have s9 := s8.trans (same_new (o := HO.lst (ocs l2)) hp9)
          refine ⟨F, p9, l2, rfl, SqL.of upd_same, lv.same s9, hz2, .inl ⟨m, hl2, hpm, hom, hzm, fmt_ch 3 false m hom, fun p r H10 s10 hpn hp10 hr10 => ?_⟩⟩
          have s11 := s9.trans s10
          refine ⟨_, rfl, rfl, _, rfl, ?_⟩
          refine ite_t rfl ?_
          refine ⟨_, rfl, _, rfl, small_le (by rw [S_len]; omega), _, rfl, a, _, _, _, rfl, rfl, s11.seq hs, hat, rfl, _, rfl, ?_⟩
          refine ite_t (by rw [S_len]; exact decide_eq_true rfl) ?_
          refine ⟨_, rfl, _, .inl ⟨_, .inl (.inl hp10), rfl⟩, ?_⟩
          refine ite_t rfl ?_
          refine ⟨_, rfl, _, rfl, p, _, _, _, rfl, rfl, SqL.of hp10, atI_nat (j := 0) rfl, by show 3 ≤ sizeLine; decide, fun p12 hp12 => ?_⟩
          have f12 : F p12 = false := lv.new (s11.hole hp12)
          exact k _ _ (s11.trans (same_new hp12 _)) (.tup ((Av_get f12).trans upd_same) (.cons (.str _) (.cons (.str _) (.cons (hr10.same (same_new hp12 _)) .nil))))
        · refine ⟨p6, kx, rfl, SqL.of hp66, by omega, .inl ⟨hn, fun H7 s7 => ?_⟩⟩
          have s8 := s6.trans s7
          refine ⟨_, rfl, _, rfl, a, _, _, _, rfl, rfl, s8.seq hs, hat, _, _, rfl, rfl, _, rfl, a, _, rfl, s8.seq hs, fun p9 hp9 => ?_⟩
          rw [el] at *
          have s9 := s8.trans (same_new (o := HO.lst (ocs l2)) hp9)
          refine ⟨F, p9, l2, rfl, SqL.of upd_same, lv.same s9, hz2, .inr ⟨hc, fun p H10 s10 hp10 => ?_⟩⟩
          have s11 := s9.trans s10
          refine ⟨_, rfl, rfl, _, rfl, ?_⟩
          refine ite_t rfl ?_
          refine ⟨_, rfl, _, rfl, small_le (by rw [S_len]; omega), _, rfl, a, _, _, _, rfl, rfl, s11.seq hs, hat, rfl, _, rfl, ?_⟩
          refine ite_t (by rw [S_len]; exact decide_eq_true rfl) ?_
          refine ⟨_, rfl, _, .inl ⟨_, .inl (.inl hp10), rfl⟩, ?_⟩
          refine ite_f rfl ?_
          exact k _ _ s11 rfl
        · refine ⟨p6, kx, rfl, SqL.of hp66, by omega, .inr ⟨hc, ?_⟩⟩
          refine ⟨_, rfl, _, rfl, a, _, _, _, rfl, rfl, s6.seq hs, hat, _, _, rfl, rfl, _, rfl, a, _, rfl, s6.seq hs, fun p9 hp9 => ?_⟩
          rw [el] at *
          have s9 := s6.trans (same_new (o := HO.lst (ocs l2)) hp9)
          refine ⟨F, p9, l2, rfl, SqL.of upd_same, lv.same s9, hz2, .inl ⟨([] : List (Nd (Sub 2))), hl2, rfl, ⟨Nat.zero_le _, fun nd h => (by cases h)⟩, Nat.zero_le _, fun c h => (by cases h), fun p r H10 s10 hpn hp10 hr10 => ?_⟩⟩
          have s11 := s9.trans s10
          refine ⟨_, rfl, rfl, _, rfl, ?_⟩
          refine ite_f rfl (iteF ?_)
          exact k _ _ s11 rfl
      · refine ite_f (decide_eq_false h1) (iteF ?_)
        refine k _ _ s5 ?_
        cases hb with
        | good d hk hp =>
          cases d with
          | put kx m => exact absurd rfl h1
          | drop kx => exact absurd rfl h2
          | undo => exact absurd rfl h3
        | nil => rfl
        | one b n1 n2 n3 => rfl
        | drop l hl hc => rfl
        | put1 kx l hn hl hc => rfl
        | put2 kx hl hc => rfl
end
end Mw
/-! MwL -/
set_option Elab.async false
set_option linter.all false
set_option maxRecDepth 100000
set_option maxHeartbeats 4000000
namespace Mw
open PySem PySem.Spec PyProof.Rows L2
/-! ## rows of records, and what may stand behind them -/
inductive Dead : List Nat → Prop
  | short (t : List Nat) : t.length < 2 → Dead t
  | long (a b : Nat) (r : List Nat) : r.length < a * 256 + b + 2 → Dead (a :: b :: r)
  | bad (a b : Nat) (body : List Nat) (s m : Nat) (rest : List Nat) (od : Option Deed) : a * 256 + b = body.length → body.length ≤ 5000 → Bd body od → (m ≠ 170 ∨ s ≠ body.sum % 256 ∨ od = none) → Dead (a :: b :: (body ++ s :: m :: rest))
def recsN (ds : List Deed) : List Nat := ds.flatMap recN
theorem atO {X : List Nat} {i c : Nat} (h : X[i]? = some c) : atI (ocs X) ((i : Nat) : Int) = some (.int (c : Int)) := atI_nat (by rw [ocs, List.getElem?_map, h]; rfl)
theorem drop_at {X r : List Nat} {p i : Nat} (h : X.drop p = r) : X[p + i]? = r[i]? := by rw [← h, List.getElem?_drop]
section
variable {P : Program} {w : World} {K : PySem.W.Frag} {mg : Str → Option Value} {base : Heap}
def spRecovered (K : PySem.W.Frag) : Sp := fun vs H Q _ => ∃ (F : Fz) (a : Addr) (ds : List Deed) (t : List Nat), vs = [.ref a] ∧ SqL K H a (ocs (recsN ds ++ t)) ∧ Live F H ∧ (∀ d ∈ ds, okD d ∧ plD d) ∧ Dead t ∧ ds.length ≤ 1000 ∧ (recsN ds ++ t).length ≤ 90000 ∧
  ∀ p H', Same H H' → Dh K F H' (.ref p) (.tuple [.list (ds.map dD), .int ((recsN ds).length : Nat)]) → Q (.ref p) H'
theorem sc_recovered : FnScope ["octets", "deeds", "place", "end", "body", "deed"] ["octets"] (defScope s_recovered) := ⟨rfl, rfl, rfl, by decide +kernel, rfl, by decide +kernel, by decide +kernel⟩
theorem ok_recovered (T : Tx K mg) : OkF P w K mg base d_recovered ["octets"] 20 (spRecovered K) := by
  have o_deed_of : OkF P w K mg base d_deed_of ["body"] 19 (spDeedOf K) := ok_deed_of T
  refine (okF T 37 (d := d_recovered) rfl sc_recovered (fun _ _ _ _ _ _ us hl => match us, hl with | [_], _ => rfl) ⟨rfl, rfl⟩ (fun vs H Q E h => ?_) (fun cdv A outer s H vs Q E hr h => ?_))
  · obtain ⟨F, a, ds, t, rfl, _⟩ := h; rfl
  · obtain ⟨F, a, ds, t, rfl, hs, lv, hok, hdead, zd, hz, k⟩ := h
    refine ⟨_, (pss_cons (ps_set (i := 1) sc_recovered.nd rfl (Or.inl rfl) (pe_lst pa_nil))
  (pss_cons (ps_set (i := 2) sc_recovered.nd rfl (Or.inl rfl) pe_int)
  (pss_cons (ps_while PassesOwn.never (pt_cmpR op_lt (pe_op op_add (pv 2) pe_int) (pe_callB call_len_seq (by rfl) T.z_len (by decide +kernel) (pa_cons (pv 0) pa_nil)) (nomark _))
  (pss_cons (ps_set (i := 3) sc_recovered.nd rfl (Or.inl rfl) (pe_op op_add (pe_op op_add (pe_op op_add (pv 2) (pe_op op_mul (pe_ix ix_list (pv 0) (pv 2) (fun _ _ => rfl)) pe_int)) (pe_ix ix_list (pv 0) (pe_op op_add (pv 2) pe_int) (fun _ _ => rfl))) pe_int))
  (pss_cons (ps_if (pt_cmpR op_gt (pv 3) (pe_callB call_len_seq (by rfl) T.z_len (by decide +kernel) (pa_cons (pv 0) pa_nil)) (nomark _))
  (pss_one ps_break)
  pss_nil)
  (pss_cons (ps_set (i := 4) sc_recovered.nd rfl (Or.inl rfl) (pe_slice sl_list (pv 0) (po_some (pe_op op_add (pv 2) pe_int)) (po_some (pe_op op_sub (pv 3) pe_int))))
  (pss_cons (ps_set (i := 5) sc_recovered.nd rfl (Or.inl rfl) (cg o_deed_of T.g_deed_of (hr.mono (by omega)) (pa_cons (pv 4) pa_nil)))
  (pss_cons (ps_if (PW.pt (pw_or (pt_cmpR op_ne (pe_ix ix_list (pv 0) (pe_op op_sub (pv 3) pe_int) (fun _ _ => rfl)) (pe_gI T.c_MARK) (nomark _)) (pw_or (pt_cmpR op_ne (pe_ix ix_list (pv 0) (pe_op op_sub (pv 3) pe_int) (fun _ _ => rfl)) (pe_op op_mod (pe_callB (cr_sum rfl) (by rfl) T.z_sum (by decide +kernel) (pa_cons (pv 4) pa_nil)) pe_int) (nomark _)) (pw_or1 (pt_cmpR op_isN (pv 5) pe_non (nomark _))))))
  (pss_one ps_break)
  pss_nil)
  (pss_cons (ps_expr (pe_bm PySem.F.plainAttrs_list PySem.F.slot_list_append PySem.F.type_list_append mt_append (pv 1) (pa_cons (pv 5) pa_nil)))
  (pss_one (ps_set (i := 2) sc_recovered.nd rfl (Or.inl rfl) (pv 3))))))))))
  (pss_one (ps_ret (pe_tup (pa_cons (pv 1) (pa_cons (pv 2) pa_nil)))))))), ?_⟩
    refine ⟨Nat.zero_le _, fun D hD => ?_⟩
    have s0 := same_new (o := HO.lst []) hD
    have fD : F D = false := lv.new hD
    generalize hX : recsN ds ++ t = X at *
    refine ⟨fun mm σ' H' => ∃ j vs v1 v2 v3, mm = ds.length - j ∧ j ≤ ds.length ∧ σ' = [some (.ref a), some (.ref D), some (.int ((recsN (ds.take j)).length : Nat)), v1, v2, v3] ∧ H' D = some (.lst vs) ∧ Same H H' ∧ DhA K (add F D) H' vs ((ds.take j).map dD),
      ⟨_, 0, [], none, none, none, rfl, Nat.zero_le _, rfl, upd_same, s0, .nil⟩, ?_⟩
    rintro mm σ' H' ⟨j, vs, v1, v2, v3, rfl, hj, rfl, hDv, s1, hvs⟩
    have hdr : X.drop (recsN (ds.take j)).length = recsN (ds.drop j) ++ t := by
      have e : recsN ds = recsN (ds.take j) ++ recsN (ds.drop j) := by
        conv => lhs; rw [← List.take_append_drop j ds]
        exact List.flatMap_append
      rw [← hX, e, List.append_assoc, List.drop_left]
    generalize hp : (recsN (ds.take j)).length = p at *
    have hlen : X.length - p = (recsN (ds.drop j)).length + t.length := by rw [← List.length_append, ← hdr, List.length_drop]
    have lvs : vs.length = j := by
      have := DpAll.len hvs
      rw [List.length_map, List.length_take] at this
      omega
    -- what the end of the loop answers
    have fin : j = ds.length → ∀ H2 q, Same H' H2 → H2 D = some (.lst vs) → H2 q = none → Q (.ref q) (upd H2 q (.tup [.ref D, .int (p : Nat)])) := fun hjl H2 q s2 hD2 hq => by
      rw [hjl, List.take_length] at hvs hp
      have s3 := (s1.trans s2)
      have fq : F q = false := lv.new (s3.hole hq)
      have nDq : D ≠ q := ne_of_none hD2 hq
      refine k q _ (s3.trans (same_new hq _)) ?_
      rw [hp]
      refine .tup ((Av_get fq).trans upd_same) (.cons (.lst ((Av_get fD).trans ((same_new hq _) _ _ hD2)) ?_) (.cons (.int _) .nil))
      exact ((hvs.same s2).same (same_new hq _)).weak add_sub
    -- while place + 1 < len(octets)
    refine ⟨_, rfl, _, _, rfl, rfl, _, rfl, a, _, rfl, .inl (s1.seq hs), _, _, rfl, rfl, _, rfl, ?_⟩
    rw [ocs_len]
    -- where no record stands
    by_cases hA : j = ds.length ∧ (t.length < 2 ∨ ∃ a b r, t = a :: b :: r ∧ r.length < a * 256 + b + 2)
    · obtain ⟨hjl, hA⟩ := hA
      rw [hjl, List.drop_length] at hdr hlen
      have e0 : (recsN ([] : List Deed)).length = 0 := rfl
      rw [e0] at hlen
      rcases hA with hA | ⟨x, y, r, rfl, hA⟩
      · refine ite_f (decide_eq_false (by omega)) ?_
        exact ⟨_, rfl, _, rfl, by show 2 ≤ sizeLine; decide, fun q hq => fin hjl H' q (Same.refl _) hDv hq⟩
      · have hdr' : X.drop p = x :: y :: r := hdr
        simp only [List.length_cons] at hlen
        refine ite_t (decide_eq_true (by omega)) ?_
        refine ⟨fun _ _ => False, fun _ _ h => h.elim, ?_⟩
        have h1 : X[p]? = some x := drop_at (i := 0) hdr'
        have h2 : X[p + 1]? = some y := drop_at (i := 1) hdr'
        refine ⟨_, rfl, _, rfl, _, rfl, a, _, _, _, rfl, rfl, s1.seq hs, atO h1, _, _, rfl, rfl, ?_, _, _, rfl, rfl, _, rfl, _, rfl, _, _, rfl, rfl, a, _, _, _, rfl, rfl, s1.seq hs, atO h2, _, _, rfl, rfl, _, _, rfl, rfl, _, rfl, _, rfl, a, _, rfl, .inl (s1.seq hs), _, _, rfl, rfl, _, rfl, ?_⟩
        · exact .inr ⟨by decide, by decide⟩
        refine ite_t (decide_eq_true ?_) ?_
        · rw [ocs_len]
          omega
        exact ⟨_, rfl, _, rfl, by show 2 ≤ sizeLine; decide, fun q hq => fin hjl H' q (Same.refl _) hDv hq⟩
    · obtain ⟨x, y, body, sg, m, rest, od, hdr', hL, hzb, hB, hcs⟩ : ∃ x y body sg m rest od, X.drop p = x :: y :: (body ++ sg :: m :: rest) ∧ x * 256 + y = body.length ∧ body.length ≤ 5000 ∧ Bd body od ∧
          ((j = ds.length ∧ (m ≠ 170 ∨ sg ≠ body.sum % 256 ∨ od = none)) ∨ (∃ d, ds[j]? = some d ∧ od = some d ∧ m = 170 ∧ sg = body.sum % 256 ∧ recN d = x :: y :: (body ++ [sg, m]))) := by
        by_cases hjl : j = ds.length
        · rw [hjl, List.drop_length] at hdr
          cases hdead with
          | short t h => exact absurd ⟨hjl, .inl h⟩ hA
          | long x y r h => exact absurd ⟨hjl, .inr ⟨x, y, r, rfl, h⟩⟩ hA
          | bad x y body sg m rest od h1 h2 h3 h4 => exact ⟨x, y, body, sg, m, rest, od, hdr, h1, h2, h3, .inl ⟨hjl, h4⟩⟩
        · have hjlt : j < ds.length := by omega
          have hg := List.getElem?_eq_getElem hjlt
          generalize ds[j] = d at hg
          have hm := hok d (List.mem_of_getElem? hg)
          have hd2 : ds.drop j = d :: ds.drop (j + 1) := by
            rw [List.drop_eq_getElem?_toList_append, hg]
            rfl
          refine ⟨(bodyN d).length / 256, (bodyN d).length % 256, bodyN d, (bodyN d).sum % 256, 170, recsN (ds.drop (j + 1)) ++ t, some d, ?_, by omega, Nat.le_trans (body_len hm.1) (by decide), .good d hm.1 hm.2, .inr ⟨d, hg, rfl, rfl, rfl, rfl⟩⟩
          rw [hdr, hd2]
          simp [recsN, recN]
      have hlen2 : X.length - p = body.length + rest.length + 4 := by
        have := congrArg List.length hdr'
        simp only [List.length_drop, List.length_cons, List.length_append] at this
        omega
      refine ite_t (decide_eq_true (by omega)) ?_
      refine ⟨fun σ2 H2 => ∃ vs v1 v2 v3, j + 1 ≤ ds.length ∧ σ2 = [some (.ref a), some (.ref D), some (.int ((recsN (ds.take (j + 1))).length : Nat)), v1, v2, v3] ∧ H2 D = some (.lst vs) ∧ Same H H2 ∧ DhA K (add F D) H2 vs ((ds.take (j + 1)).map dD),
        fun σ2 H2 ⟨vs, v1, v2, v3, g0, g⟩ => ⟨ds.length - (j + 1), by omega, j + 1, vs, v1, v2, v3, rfl, g0, g⟩, ?_⟩
      have h1 : X[p]? = some x := drop_at (i := 0) hdr'
      have h2 : X[p + 1]? = some y := drop_at (i := 1) hdr'
      refine ⟨_, rfl, _, rfl, _, rfl, a, _, _, _, rfl, rfl, s1.seq hs, atO h1, _, _, rfl, rfl, .inr ⟨by decide, by decide⟩, _, _, rfl, rfl, _, rfl, _, rfl, _, _, rfl, rfl, a, _, _, _, rfl, rfl, s1.seq hs, atO h2, _, _, rfl, rfl, _, _, rfl, rfl, _, rfl, _, rfl, a, _, rfl, .inl (s1.seq hs), _, _, rfl, rfl, _, rfl, ?_⟩
      have eE : ((p : Nat) : Int) + (x : Int) * 256 + (y : Int) + 4 = ((p + body.length + 4 : Nat) : Int) := by omega
      refine ite_f (decide_eq_false ?_) ?_
      · rw [ocs_len]
        omega
      have e1 : ((p : Nat) : Int) + 2 = ((p + 2 : Nat) : Int) := by omega
      have e2 : ((p : Nat) : Int) + (x : Int) * 256 + (y : Int) + 4 - 2 = ((p + body.length + 2 : Nat) : Int) := by omega
      have e3 : ((p : Nat) : Int) + (x : Int) * 256 + (y : Int) + 4 - 1 = ((p + body.length + 3 : Nat) : Int) := by omega
      have eB : cutV (ocs X) (some (((p : Nat) : Int) + 2)) (some (((p : Nat) : Int) + (x : Int) * 256 + (y : Int) + 4 - 2)) = ocs body := by
        rw [e1, e2, cutO]
        congr 1
        rw [← List.drop_drop, hdr', show p + body.length + 2 - (p + 2) = body.length by omega]
        simp
      have h3 : X[p + body.length + 2]? = some sg := by
        rw [Nat.add_assoc, drop_at hdr']
        show (body ++ sg :: m :: rest)[body.length]? = _
        rw [List.getElem?_append_right (Nat.le_refl _), Nat.sub_self]
        rfl
      have h4 : X[p + body.length + 3]? = some m := by
        rw [Nat.add_assoc, drop_at hdr']
        show (body ++ sg :: m :: rest)[body.length + 1]? = _
        rw [List.getElem?_append_right (by omega), show body.length + 1 - body.length = 1 by omega]
        rfl
      -- body, deed
      refine ⟨_, rfl, _, rfl, _, _, rfl, rfl, _, rfl, _, rfl, _, _, rfl, rfl, _, rfl, a, _, rfl, s1.seq hs, fun q hq => ?_⟩
      rw [eB] at *
      have s2 := s1.trans (same_new (o := HO.lst (ocs body)) hq)
      have s2' := same_new (o := HO.lst (ocs body)) hq
      have hD2 := same_new (o := HO.lst (ocs body)) hq _ _ hDv
      have hvs2 := hvs.same (same_new (o := HO.lst (ocs body)) hq)
      have hq2 : (upd H' q (.lst (ocs body))) q = some (.lst (ocs body)) := upd_same
      generalize upd H' q (.lst (ocs body)) = H2 at *
      have lv2 : Live (add F D) H2 := (lv.same s2).add (by rw [hD2]; simp)
      refine ⟨_, rfl, add F D, q, body, od, rfl, SqL.of hq2, lv2, hzb, hB, fun v H3 s3 hv => ?_⟩
      have s4 := s2.trans s3
      have hD3 := s3 _ _ hD2
      have hq3 := s3 _ _ hq2
      refine ⟨_, rfl, _, rfl, _, _, rfl, rfl, a, _, _, _, rfl, rfl, s4.seq hs, by rw [e3]; exact atO h4, rfl, _, rfl, ?_⟩
      have s12 : Same H' H3 := s2'.trans s3
      by_cases t1 : m = 170
      · subst t1
        refine ite_f (by decide) ?_
        refine ⟨_, rfl, _, rfl, _, _, rfl, rfl, a, _, _, _, rfl, rfl, s4.seq hs, by rw [e2]; exact atO h3, _, rfl, q, body.map fun c : Nat => (c : Int), rfl, by rw [← ocs_int]; exact SqL.of hq3, _, _, rfl, rfl, show (0 : Int) < 256 by decide, rfl, _, rfl, ?_⟩
        rw [ocs_sum]
        by_cases t2 : sg = body.sum % 256
        · refine ite_f ?_ ?_
          · have : decide (V.int (sg : Int) = V.int (((body.sum : Nat) : Int) % 256)) = true := decide_eq_true (by rw [t2]; rfl)
            rw [this]; rfl
          refine ⟨_, rfl, rfl, _, rfl, ?_⟩
          rcases hcs with ⟨hjl, h | h | h⟩ | ⟨d, hg, hod, hm, hsg, hrec⟩
          · exact absurd rfl h
          · exact absurd t2 h
          · subst h
            have hv' : v = .non := hv
            subst hv'
            refine ite_t (decide_eq_true rfl) ?_
            exact ⟨_, rfl, _, rfl, by show 2 ≤ sizeLine; decide, fun q2 hq2 => fin hjl H3 q2 s12 hD3 hq2⟩
          · subst hod
            have hv' : Dh K (add F D) H3 v (dD d) := hv
            obtain ⟨va, _, rfl, _⟩ := dp_tagD hv'
            refine ite_f (decide_eq_false fun e => nomatch e) ?_
            refine ⟨_, rfl, .inl ⟨rfl, _, SqL.of hD3⟩, _, rfl, D, vs, _, rfl, rfl, hD3, small_lt (by omega), ?_⟩
            have hjl := lt_of_at hg
            have hL2 : (recsN (ds.take (j + 1))).length = p + body.length + 4 := by
              have : recsN (ds.take (j + 1)) = recsN (ds.take j) ++ recN d := flat_take hg
              rw [this, List.length_append, hp, hrec]
              simp
              omega
            refine ⟨_, rfl, vs ++ [.ref va], some (.int ((p : Int) + (x : Int) * 256 + (y : Int) + 4)), some (.ref q), some (.ref va), hjl, ?_, upd_same, same_mut s4 hD, ?_⟩
            · rw [hL2, ← eE]
              rfl
            · rw [take_more hg, List.map_append]
              exact DhA.updF (DpAll.snoc (hvs2.same s3) hv') (add_self _ _)
        · refine ite_t ?_ ?_
          · have : decide (V.int (sg : Int) = V.int (((body.sum : Nat) : Int) % 256)) = false := decide_eq_false fun e => t2 (by
              have := V.int.inj e
              omega)
            rw [this]; rfl
          rcases hcs with ⟨hjl, _⟩ | ⟨d, hg, hod, hm, hsg, hrec⟩
          · exact ⟨_, rfl, _, rfl, by show 2 ≤ sizeLine; decide, fun q2 hq2 => fin hjl H3 q2 s12 hD3 hq2⟩
          · exact absurd hsg t2
      · refine ite_t ?_ ?_
        · have : decide (V.int (m : Int) = V.int 170) = false := decide_eq_false fun e => t1 (by
            have := V.int.inj e
            omega)
          rw [this]; rfl
        rcases hcs with ⟨hjl, _⟩ | ⟨d, hg, hod, hm, hsg, hrec⟩
        · exact ⟨_, rfl, _, rfl, by show 2 ≤ sizeLine; decide, fun q2 hq2 => fin hjl H3 q2 s12 hD3 hq2⟩
        · exact absurd hm t1
end
end Mw
/-! MwM -/
set_option Elab.async false
set_option linter.all false
set_option maxRecDepth 100000
set_option maxHeartbeats 4000000
namespace Mw
open PySem PySem.Spec PyProof.Rows L2
/-! ## device and journaled book -/
abbrev DC (K : PySem.W.Frag) : Addr := He.ga K "Device"
abbrev JC (K : PySem.W.Frag) : Addr := He.ga K "JournaledBook"
def df (o : Addr) (pw : Int) : List (Str × V) := [("octets", .ref o), ("power", .int pw)]
def jf (b d : Addr) : List (Str × V) := [("book", .ref b), ("device", .ref d), ("shut", .bl false)]
theorem op_ : ¬ (("octets" : Str) = "power") := by decide +kernel
theorem bd_ : ¬ (("book" : Str) = "device") := by decide +kernel
theorem bs_ : ¬ (("book" : Str) = "shut") := by decide +kernel
theorem ds_ : ¬ (("device" : Str) = "shut") := by decide +kernel
theorem df_put (o : Addr) (pw : Int) : df o pw = putF "power" (.int pw) (putF "octets" (.ref o) []) := by
  show _ = (if ("octets" : Str) = "power" then _ else (("octets" : Str), V.ref o) :: [(("power" : Str), V.int pw)])
  rw [if_neg op_]
  rfl
theorem df_octets (o : Addr) (pw : Int) : (df o pw).lookup ("octets" : Str) = some (.ref o) := by rw [df_put, lookup_putF, if_neg op_, lookup_putF, if_pos rfl]
theorem df_power (o : Addr) (pw : Int) : (df o pw).lookup ("power" : Str) = some (.int pw) := by rw [df_put, lookup_putF, if_pos rfl]
theorem df_no {o : Addr} {pw : Int} {m : Str} (h1 : ¬ m = "octets") (h2 : ¬ m = "power") : (df o pw).lookup m = none := by
  rw [df_put, lookup_putF, if_neg h2, lookup_putF, if_neg h1]
  rfl
theorem df_setp (o : Addr) (p q : Int) : putF "power" (.int q) (df o p) = df o q := by
  show (if ("octets" : Str) = "power" then _ else (("octets" : Str), V.ref o) :: (if ("power" : Str) = "power" then [(("power" : Str), V.int q)] else _)) = _
  rw [if_neg op_, if_pos rfl]
  rfl
theorem jf_put (b d : Addr) : jf b d = putF "shut" (.bl false) (putF "device" (.ref d) (putF "book" (.ref b) [])) := by
  show _ = putF "shut" (.bl false) (if ("book" : Str) = "device" then _ else (("book" : Str), V.ref b) :: [(("device" : Str), V.ref d)])
  rw [if_neg bd_]
  show _ = (if ("book" : Str) = "shut" then _ else (("book" : Str), V.ref b) :: (if ("device" : Str) = "shut" then _ else (("device" : Str), V.ref d) :: [(("shut" : Str), V.bl false)]))
  rw [if_neg bs_, if_neg ds_]
  rfl
theorem jf_book (b d : Addr) : (jf b d).lookup ("book" : Str) = some (.ref b) := by rw [jf_put, lookup_putF, if_neg bs_, lookup_putF, if_neg bd_, lookup_putF, if_pos rfl]
theorem jf_device (b d : Addr) : (jf b d).lookup ("device" : Str) = some (.ref d) := by rw [jf_put, lookup_putF, if_neg ds_, lookup_putF, if_pos rfl]
theorem jf_shut (b d : Addr) : (jf b d).lookup ("shut" : Str) = some (.bl false) := by rw [jf_put, lookup_putF, if_pos rfl]
theorem jf_no {b d : Addr} {m : Str} (h1 : ¬ m = "book") (h2 : ¬ m = "device") (h3 : ¬ m = "shut") : (jf b d).lookup m = none := by
  rw [jf_put, lookup_putF, if_neg h3, lookup_putF, if_neg h2, lookup_putF, if_neg h1]
  rfl
def DevAt (K : PySem.W.Frag) (H : Hp) (x o : Addr) (X : List Nat) (pw : Int) : Prop := (∃ dx, H x = some (.ins (DC K) dx (df o pw))) ∧ H o = some (.lst (ocs X))
def JAt (K : PySem.W.Frag) (H : Hp) (j b d : Addr) : Prop := ∃ dx, H j = some (.ins (JC K) dx (jf b d))
theorem DevAt.ne {K : PySem.W.Frag} {H : Hp} {x o : Addr} {X : List Nat} {pw : Int} (h : DevAt K H x o X pw) : x ≠ o := fun e => by
  obtain ⟨⟨dx, h1⟩, h2⟩ := h
  rw [e, h2] at h1
  cases h1
/-! ### runs of deeds -/
abbrev St' := List Bk × Bk
def stepP (s : St') : Deed → St'
  | .put k m => (s.1 ++ [s.2], putB s.2 k (plain 3 m))
  | .drop k => (s.1 ++ [s.2], dropB s.2 k)
  | .undo => match s.1.getLast? with
    | none => s
    | some b => (s.1.dropLast, b)
def stk (s : St') : List Bk := s.1 ++ [s.2]
theorem stepS_P (s : St') (d : Deed) : stepS s.1 s.2 d = stk (stepP s d) := by
  cases d with
  | put k m => rfl
  | drop k => rfl
  | undo =>
    show (if s.1 = [] then [s.2] else s.1) = _
    unfold stepP
    cases h : s.1.getLast? with
    | none =>
      have e : s.1 = [] := List.getLast?_eq_none_iff.mp h
      rw [if_pos e]
      show [s.2] = s.1 ++ [s.2]
      rw [e]
      rfl
    | some b =>
      have e := last_split h
      have hne : s.1 ≠ [] := fun z => by rw [z] at h; cases h
      rw [if_neg hne]
      exact e
def canD (s : St') (d : Deed) : Prop := okD d ∧ can s.2 d ∧ (d = .undo → s.1 ≠ [])
def runP (s : St') (ds : List Deed) : St' := ds.foldl stepP s
def canR : St' → List Deed → Prop
  | _, [] => True
  | s, d :: ds => canD s d ∧ canR (stepP s d) ds
theorem canR_at : ∀ {ds : List Deed} {s : St'} {i : Nat} {d : Deed}, canR s ds → ds[i]? = some d → canD (runP s (ds.take i)) d
  | [], _, _, _, _, h => by simp at h
  | d0 :: ds, s, 0, d, hc, h => by
    have e : d0 = d := by simpa using h
    subst e
    exact hc.1
  | d0 :: ds, s, i + 1, d, hc, h => canR_at (ds := ds) (s := stepP s d0) (i := i) hc.2 (by simpa using h)
theorem canR_app : ∀ {ds es : List Deed} {s : St'}, canR s (ds ++ es) ↔ canR s ds ∧ canR (runP s ds) es
  | [], _, _ => ⟨fun h => ⟨trivial, h⟩, fun h => h.2⟩
  | d :: ds, es, s => by
    have ih := canR_app (ds := ds) (es := es) (s := stepP s d)
    constructor
    · intro h
      have := ih.mp h.2
      exact ⟨⟨h.1, this.1⟩, this.2⟩
    · intro h
      exact ⟨h.1.1, ih.mpr ⟨h.1.2, h.2⟩⟩
theorem runP_app (s : St') (ds es : List Deed) : runP s (ds ++ es) = runP (runP s ds) es := List.foldl_append
/-- sizes -/
def szS (n : Nat) (s : St') : Prop := s.1.length ≤ n ∧ s.2.length ≤ n ∧ ∀ b ∈ s.1, b.length ≤ n
theorem szS.step {n : Nat} {s : St'} (h : szS n s) (d : Deed) : szS (n + 1) (stepP s d) := by
  obtain ⟨h1, h2, h3⟩ := h
  have base : ∀ b : Bk, b.length ≤ n + 1 → szS (n + 1) (s.1 ++ [s.2], b) := fun b hb => by
    refine ⟨by simp; omega, hb, fun x hx => ?_⟩
    rcases List.mem_append.mp hx with hx | hx
    · have := h3 x hx; omega
    · rw [List.mem_singleton.mp hx]; omega
  cases d with
  | put k m => exact base _ (Nat.le_trans (putB_len _ _ _) (by omega))
  | drop k => exact base _ (Nat.le_trans (dropB_len _ _) (by omega))
  | undo =>
    cases h : s.1.getLast? with
    | none =>
      have e : stepP s .undo = s := by
        unfold stepP
        rw [h]
      rw [e]
      exact ⟨by omega, by omega, fun b hb => by have := h3 b hb; omega⟩
    | some b =>
      have hb := h3 b (List.mem_of_getLast? h)
      have e : stepP s .undo = (s.1.dropLast, b) := by
        unfold stepP
        rw [h]
      rw [e]
      refine ⟨?_, by show b.length ≤ _; omega, fun x hx => ?_⟩
      · show s.1.dropLast.length ≤ _
        rw [List.length_dropLast]; omega
      · have := h3 x (List.dropLast_subset _ hx); omega
theorem szS.run {ds : List Deed} : ∀ {n : Nat} {s : St'}, szS n s → szS (n + ds.length) (runP s ds) := by
  induction ds with
  | nil => intro n s h; exact h
  | cons d r ih =>
    intro n s h
    have := ih (h.step d)
    rw [List.length_cons, show n + (r.length + 1) = n + 1 + r.length by omega]
    exact this
section
variable {P : Program} {w : World} {K : PySem.W.Frag} {mg : Str → Option Value} {base : Heap}
def spDInit (K : PySem.W.Frag) : Sp := fun vs H Q _ => ∃ (x dx a : Addr) (X : List Nat) (pw : Int), vs = [.ref x, .ref a, .int pw] ∧ H x = some (.ins (DC K) dx []) ∧ SqL K H a (ocs X) ∧
  ∀ o H', Kp (only x) H H' → H o = none → H' x = some (.ins (DC K) dx (df o pw)) → H' o = some (.lst (ocs X)) → Q .non H'
theorem sc_Device_init : FnScope ["self", "octets", "power"] ["self", "octets", "power"] (defScope s_Device_init) := ⟨rfl, rfl, rfl, by decide +kernel, rfl, by decide +kernel, by decide +kernel⟩
theorem ok_Device_init (T : Tx K mg) : OkF P w K mg base d_Device_init ["self", "octets", "power"] 1 (spDInit K) := by
  refine (okF T 39 (d := d_Device_init) rfl sc_Device_init (fun _ _ _ _ _ _ us hl => match us, hl with | [_, _, _], _ => rfl) ⟨rfl, rfl⟩ (fun vs H Q E h => ?_) (fun cdv A outer s H vs Q E hr h => ?_))
  · obtain ⟨x, dx, a, X, pw, rfl, _⟩ := h; rfl
  · obtain ⟨x, dx, a, X, pw, rfl, hx, hs, k⟩ := h
    refine ⟨_, (pss_cons (ps_fld (pv 0) (pe_callTy call_list_of (by rfl) T.z_list (by decide +kernel) (pa_cons (pv 1) pa_nil)) rfl)
  (pss_one (ps_fld (pv 0) (pv 2) rfl))), ?_⟩
    refine ⟨_, rfl, a, _, rfl, .inl hs, fun o ho => ?_⟩
    have hx1 := same_new (o := HO.lst (ocs X)) ho _ _ hx
    have nox : o ≠ x := fun e => by rw [e, hx] at ho; cases ho
    refine ⟨_, rfl, x, _, dx, _, rfl, hx1, T.cls_Device, T.n_Device_octets, by decide, _, rfl, _, rfl, x, _, dx, _, rfl, upd_same, T.cls_Device, T.n_Device_power, by show 1 < 1000; decide, ?_⟩
    refine k o _ ((((Kp.refl _ _).mut ho).upd (only_self x)).upd (only_self x)) ho ?_ ?_
    · rw [upd_same]
      show some (HO.ins (DC K) dx (putF "power" (.int pw) (putF "octets" (.ref o) []))) = _
      rw [df_put]
    · rw [upd_ne nox, upd_ne nox, upd_same]
def spDApp (K : PySem.W.Frag) : Sp := fun vs H Q _ => ∃ (x dx o : Addr) (X : List Nat) (pw : Int) (c : Nat), vs = [.ref x, .int c] ∧ H x = some (.ins (DC K) dx (df o pw)) ∧ H o = some (.lst (ocs X)) ∧ 0 < pw ∧ X.length ≤ 99000 ∧
  Q .non (upd (upd H x (.ins (DC K) dx (df o (pw - 1)))) o (.lst (ocs (X ++ [c]))))
theorem sc_Device_append : FnScope ["self", "octet"] ["self", "octet"] (defScope s_Device_append) := ⟨rfl, rfl, rfl, by decide +kernel, rfl, by decide +kernel, by decide +kernel⟩
theorem ok_Device_append (T : Tx K mg) : OkF P w K mg base d_Device_append ["self", "octet"] 1 (spDApp K) := by
  refine (okF T 40 (d := d_Device_append) rfl sc_Device_append (fun _ _ _ _ _ _ us hl => match us, hl with | [_, _], _ => rfl) ⟨rfl, rfl⟩ (fun vs H Q E h => ?_) (fun cdv A outer s H vs Q E hr h => ?_))
  · obtain ⟨x, dx, o, X, pw, c, rfl, _⟩ := h; rfl
  · obtain ⟨x, dx, o, X, pw, c, rfl, hx, ho, hpw, hz, k⟩ := h
    refine ⟨_, (pss_cons (ps_if (pt_cmpR op_le (pe_fld (pv 0) rfl) pe_int (nomark _))
  (pss_one ps_never)
  pss_nil)
  (pss_cons (ps_fldaug (pv 0) pe_int in_sub)
  (pss_one (ps_expr (pe_bm PySem.F.plainAttrs_list PySem.F.slot_list_append PySem.F.type_list_append mt_append (pe_fld (pv 0) rfl) (pa_cons (pv 1) pa_nil)))))), ?_⟩
    have nox : o ≠ x := fun e => by rw [e, hx] at ho; cases ho
    refine ⟨_, rfl, x, _, dx, _, _, rfl, hx, T.cls_Device, T.n_Device_power, df_power _ _, _, _, rfl, rfl, _, rfl, ?_⟩
    refine ite_f (decide_eq_false (by omega)) ?_
    refine ⟨_, rfl, x, _, dx, _, _, rfl, hx, T.cls_Device, T.n_Device_power, df_power _ _, _, _, rfl, rfl, dx, _, hx, by show 2 < 1000; decide, ?_⟩
    rw [df_setp]
    have ho1 : (upd H x (.ins (DC K) dx (df o (pw - 1)))) o = some (.lst (ocs X)) := by rw [upd_ne nox]; exact ho
    refine ⟨_, rfl, x, _, dx, _, _, rfl, upd_same, T.cls_Device, T.n_Device_octets, df_octets _ _, .inl ⟨rfl, _, SqL.of ho1⟩, _, rfl, o, _, _, rfl, rfl, ho1, small_lt (by rw [ocs_len]; omega), ?_⟩
    have e : ocs X ++ [V.int (c : Int)] = ocs (X ++ [c]) := by simp [ocs]
    rw [e]
    exact k
def spJInit (K : PySem.W.Frag) : Sp := fun vs H Q _ => ∃ (x dx b d : Addr), vs = [.ref x, .ref b, .ref d] ∧ H x = some (.ins (JC K) dx []) ∧ ∀ H', Kp (only x) H H' → H' x = some (.ins (JC K) dx (jf b d)) → Q .non H'
theorem sc_JournaledBook_init : FnScope ["self", "book", "device"] ["self", "book", "device"] (defScope s_JournaledBook_init) := ⟨rfl, rfl, rfl, by decide +kernel, rfl, by decide +kernel, by decide +kernel⟩
theorem ok_JB_init (T : Tx K mg) : OkF P w K mg base d_JournaledBook_init ["self", "book", "device"] 1 (spJInit K) := by
  refine (okF T 41 (d := d_JournaledBook_init) rfl sc_JournaledBook_init (fun _ _ _ _ _ _ us hl => match us, hl with | [_, _, _], _ => rfl) ⟨rfl, rfl⟩ (fun vs H Q E h => ?_) (fun cdv A outer s H vs Q E hr h => ?_))
  · obtain ⟨x, dx, b, d, rfl, _⟩ := h; rfl
  · obtain ⟨x, dx, b, d, rfl, hx, k⟩ := h
    refine ⟨_, (pss_cons (ps_fld (pv 0) (pv 1) rfl)
  (pss_cons (ps_fld (pv 0) (pv 2) rfl)
  (pss_one (ps_fld (pv 0) pe_bl rfl)))), ?_⟩
    refine ⟨_, rfl, _, rfl, x, _, dx, _, rfl, hx, T.cls_JournaledBook, T.n_JournaledBook_book, by decide, _, rfl, _, rfl, x, _, dx, _, rfl, upd_same, T.cls_JournaledBook, T.n_JournaledBook_device, by show 1 < 1000; decide, _, rfl, x, _, dx, _, rfl, upd_same, T.cls_JournaledBook, T.n_JournaledBook_shut, ?_, ?_⟩
    · show (putF "device" (.ref d) (putF "book" (.ref b) [])).length < 1000
      show (if ("book" : Str) = "device" then _ else (("book" : Str), V.ref b) :: [(("device" : Str), V.ref d)]).length < 1000
      rw [if_neg bd_]
      show 2 < 1000
      decide
    · refine k _ ((((Kp.refl _ _).upd (only_self x)).upd (only_self x)).upd (only_self x)) ?_
      rw [upd_same]
      show some (HO.ins (JC K) dx (putF "shut" (.bl false) (putF "device" (.ref d) (putF "book" (.ref b) [])))) = _
      rw [jf_put]
abbrev F3 (l o d : Addr) : Fz := add (add (only l) o) d
theorem F3_l (l o d : Addr) : F3 l o d l = true := add_of (add_of (only_self l))
theorem F3_o (l o d : Addr) : F3 l o d o = true := add_of (add_self _ _)
theorem F3_d (l o d : Addr) : F3 l o d d = true := add_self _ _
theorem F3_no {l o d a : Addr} (h1 : a ≠ l) (h2 : a ≠ o) (h3 : a ≠ d) : F3 l o d a = false := add_no h3 (add_no h2 (only_no h1))
theorem F3_sub {F : Fz} {l o d : Addr} (hl : F l = true) (ho : F o = true) (hd : F d = true) : ∀ a, F3 l o d a = true → F a = true := fun a h => by
  by_cases e1 : a = l
  · rw [e1]; exact hl
  · by_cases e2 : a = o
    · rw [e2]; exact ho
    · by_cases e3 : a = d
      · rw [e3]; exact hd
      · rw [F3_no e1 e2 e3] at h; cases h
theorem only_sub {G : Fz} {l : Addr} (h : G l = true) : ∀ a, only l a = true → G a = true := fun a ha => by
  have e : a = l := by simpa [only] using ha
  rw [e]; exact h
/-- the places of a journaled book are apart -/
structure Apart (j b l dv o : Addr) : Prop where
  jl : j ≠ l
  jo : j ≠ o
  jd : j ≠ dv
  bl : b ≠ l
  bo : b ≠ o
  bd : b ≠ dv
  lo : l ≠ o
  ld : l ≠ dv
  od : o ≠ dv
theorem apart {K : PySem.W.Frag} {F : Fz} {H : Hp} {j b l dv o : Addr} {st : List Bk} {bk : Bk} {X : List Nat} {pw : Int} (hj : JAt K H j b dv) (hB : BookAt K F H b l (st ++ [bk])) (hD : DevAt K H dv o X pw) : Apart j b l dv o := by
  obtain ⟨dxj, hj⟩ := hj
  obtain ⟨⟨dxb, hb⟩, ds, hl, hds⟩ := hB
  obtain ⟨⟨dxd, hd⟩, ho⟩ := hD
  refine ⟨fun e => ?_, fun e => ?_, fun e => ?_, fun e => ?_, fun e => ?_, fun e => ?_, fun e => ?_, fun e => ?_, fun e => ?_⟩
  · rw [e, hl] at hj; cases hj
  · rw [e, ho] at hj; cases hj
  · rw [e, hd] at hj
    have h2 := congrArg List.length (HO.ins.inj (Option.some.inj hj)).2.2
    revert h2
    show (2 : Nat) = 3 → False
    decide
  · rw [e, hl] at hb; cases hb
  · rw [e, ho] at hb; cases hb
  · rw [e, hd] at hb
    have h2 := congrArg List.length (HO.ins.inj (Option.some.inj hb)).2.2
    revert h2
    show (2 : Nat) = 1 → False
    decide
  · rw [e, ho] at hl
    have h2 := HO.lst.inj (Option.some.inj hl)
    have h3 := hds.len
    cases ds with
    | nil => simp at h3
    | cons d0 dr =>
      cases X with
      | nil => cases h2
      | cons c r => cases h2
  · rw [e, hd] at hl; cases hl
  · rw [e, hd] at ho; cases ho
def spJPerf (K : PySem.W.Frag) : Sp := fun vs H Q _ => ∃ (F : Fz) (j b l dv o a : Addr) (s : St') (d : Deed) (X : List Nat) (pw : Int), vs = [.ref j, .ref a] ∧ JAt K H j b dv ∧ BookAt K F H b l (stk s) ∧ DevAt K H dv o X pw ∧ F l = true ∧ F o = true ∧ F dv = true ∧ Live F H ∧
  Dh K F H (.ref a) (dD d) ∧ canD s d ∧ szS 900 s ∧ 5000 ≤ pw ∧ X.length ≤ 90000 ∧
  ∀ v H', Kp (F3 l o dv) H H' → BookAt K F H' b l (stk (stepP s d)) → DevAt K H' dv o (X ++ recN d) (pw - (recN d).length) → Dh K F H' v (retD s.1 s.2 d) → Q v H'
theorem rec_len {d : Deed} (h : okD d) : (recN d).length ≤ 4014 := by
  have := body_len h
  simp only [recN, List.length_cons, List.length_append, List.length_nil]
  omega
theorem sc_JournaledBook_perform : FnScope ["self", "deed", "told", "octet"] ["self", "deed"] (defScope s_JournaledBook_perform) := ⟨rfl, rfl, rfl, by decide +kernel, rfl, by decide +kernel, by decide +kernel⟩
theorem ok_JB_perform (T : Tx K mg) : OkF P w K mg base d_JournaledBook_perform ["self", "deed"] 13 (spJPerf K) := by
  have o_perform : OkF P w K mg base d_perform ["book", "deed"] 9 (spPerform K) := ok_perform T
  have o_record_of : OkF P w K mg base d_record_of ["deed"] 12 (spRecOf K) := ok_record_of T
  have o_Device_append : OkF P w K mg base d_Device_append ["self", "octet"] 1 (spDApp K) := ok_Device_append T
  refine (okF T 42 (d := d_JournaledBook_perform) rfl sc_JournaledBook_perform (fun _ _ _ _ _ _ us hl => match us, hl with | [_, _], _ => rfl) ⟨rfl, rfl⟩ (fun vs H Q E h => ?_) (fun cdv A outer s H vs Q E hr h => ?_))
  · obtain ⟨F, j, b, l, dv, o, a, s, d, X, pw, rfl, _⟩ := h; rfl
  · obtain ⟨F, j, b, l, dv, o, a, st, d, X, pw, rfl, hj, hB, hD, hFl, hFo, hFd, lv, hd, hc, hsz, hpw, hz, k⟩ := h
    refine ⟨_, (pss_cons (ps_if (pt_val (pe_fld (pv 0) rfl))
  (pss_one ps_never)
  pss_nil)
  (pss_cons (ps_set (i := 2) sc_JournaledBook_perform.nd rfl (Or.inl rfl) (cg o_perform T.g_perform_journal (hr.mono (by omega)) (pa_cons (pe_fld (pv 0) rfl) (pa_cons (pv 1) pa_nil))))
  (Evl.pss_cut (ps_if (PW.pt (pw_and (pt_cmpR op_eq (pe_ix ix_tup (pv 1) pe_int (fun _ _ => rfl)) pe_str (nomark _)) (pw_and1 (pt_not (pt_truth (pv 2) (by intro _; rfl))))))
  (pss_one (ps_ret (pv 2)))
  pss_nil)
  (pss_cons (ps_try_thru0 (pss_one (ps_for PassesOwn.never rfl (pi_list (cg o_record_of T.g_record_of (hr.mono (by omega)) (pa_cons (pv 1) pa_nil))) (pg_name (i := 3) sc_JournaledBook_perform.nd rfl (Or.inl rfl))
  (pss_one (ps_expr (cm o_Device_append T.m_Device_append (hr.mono (by omega)) (pe_fld (pv 0) rfl) (pa_cons (pv 3) pa_nil)))))))
  (pss_one (ps_ret (pv 2))))))), ?_⟩
    have ap := apart hj hB hD
    obtain ⟨dxj, hj⟩ := hj
    refine ⟨_, rfl, j, _, dxj, _, _, rfl, hj, T.cls_JournaledBook, T.n_JournaledBook_shut, jf_shut _ _, _, rfl, ?_⟩
    refine iteF ?_
    refine ⟨_, rfl, j, _, dxj, _, _, rfl, hj, T.cls_JournaledBook, T.n_JournaledBook_book, jf_book _ _, _, rfl, F, b, l, a, st.1, st.2, d, rfl, hB, hFl, lv, hd, hc.1, hc.2.1, by have := hsz.2.1; omega, by have := hsz.1; omega, fun v H1 k1 hB1 hv1 => ?_⟩
    rw [stepS_P] at hB1
    have hd1 := hd.kp (k1.toF hFl)
    have hj1 := k1.at_ ap.jl hj
    obtain ⟨⟨dxd, hdv⟩, ho⟩ := hD
    have hdv1 := k1.at_ (Ne.symm ap.ld) hdv
    have ho1 := k1.at_ (Ne.symm ap.lo) ho
    obtain ⟨⟨dxb1, hb1⟩, dls, hl1, hdls⟩ := hB1
    obtain ⟨a', txs, e, htag⟩ := dp_tagD hd1
    cases e
    have lv1 : Live F H1 := lv.kp k1 (by rw [hl1]; simp)
    have hz2 := rec_len hc.1
    refine ⟨fun σ H' => σ = [some (.ref j), some (.ref a), some v, none] ∧ H1 = H', ?_, ?_⟩
    · refine ⟨_, rfl, a, _, _, _, rfl, rfl, SqT.of (Av_same F H1 _ _ htag), atI_nat (j := 0) rfl, rfl, _, rfl, ?_⟩
      by_cases hu : d = .undo
      · subst hu
        refine ite_t (by decide +kernel) ?_
        have hv : v = .bl (!decide (st.1 = [])) := by
          have : Dp K (Av F H1) v (.bool (!decide (st.1 = []))) := hv1
          cases this
          rfl
        have hne := hc.2.2 rfl
        rw [decide_eq_false hne] at hv
        subst hv
        refine ⟨_, rfl, true, rfl, ?_⟩
        exact ite_f rfl ⟨rfl, rfl⟩
      · refine ite_f ?_ (iteF ⟨rfl, rfl⟩)
        cases d with
        | put kx m => show decide (V.str "put" = V.str "undo") = false; decide +kernel
        | drop kx => show decide (V.str "drop" = V.str "undo") = false; decide +kernel
        | undo => exact absurd rfl hu
    · rintro σ H' ⟨rfl, rfl⟩
      refine ⟨_, rfl, F, a, d, rfl, lv1, hd1, hc.1, fun r H2 s2 hnr hr2 => ?_⟩
      have hdv2 := s2 _ _ hdv1
      have ho2 := s2 _ _ ho1
      have hj2 := s2 _ _ hj1
      have nro : r ≠ o := fun e => by rw [e, ho1] at hnr; cases hnr
      have nrd : r ≠ dv := fun e => by rw [e, hdv1] at hnr; cases hnr
      refine ⟨r, rfl, ⟨_, SqL.of hr2⟩, for_list (K := K) (a := r) (xs := ocs (recN d)) (fun i σ H' => (∃ v4, σ = [some (.ref j), some (.ref a), some v, v4]) ∧ H' dv = some (.ins (DC K) dxd (df o (pw - (i : Nat)))) ∧ H' o = some (.lst (ocs (X ++ (recN d).take i))) ∧ Kp (add (only o) dv) H2 H')
        ⟨⟨none, rfl⟩, by rw [hdv2]; simp, by rw [ho2]; simp, Kp.refl _ _⟩ (fun i σ H' _ h => SqL.of (h.2.2.2 r _ (add_no nrd (only_no nro)) hr2)) ?_ ?_⟩
      · rintro i x σ H' hi ⟨⟨v4, rfl⟩, hdv', ho', kp'⟩
        obtain ⟨c, hc', rfl⟩ := ocs_at hi
        have hil := lt_of_at hc'
        have hj' := kp' j _ (add_no ap.jd (only_no ap.jo)) hj2
        refine ⟨_, rfl, j, _, dxj, _, _, rfl, hj', T.cls_JournaledBook, T.n_JournaledBook_device, jf_device _ _, dv, dxd, _, rfl, hdv', df_no (by decide +kernel) (by decide +kernel), _, rfl, dv, dxd, o, X ++ (recN d).take i, pw - (i : Nat), c, rfl, hdv', ho', by omega, ?_, ?_⟩
        · rw [List.length_append, List.length_take]; omega
        · refine ⟨⟨_, rfl⟩, ?_, ?_, (kp'.upd (add_self _ _)).upd (add_of (only_self _))⟩
          · rw [upd_ne (Ne.symm ap.od), upd_same]
            have e : pw - ((i : Nat) : Int) - 1 = pw - (((i + 1 : Nat)) : Int) := by omega
            rw [e]
          · rw [upd_same, take_more hc', List.append_assoc]
      · rintro σ H' ⟨⟨v4, rfl⟩, hdv', ho', kp'⟩
        rw [ocs_len, List.take_length] at ho'
        rw [ocs_len] at hdv'
        refine ⟨_, rfl, ?_⟩
        have kF : Kp F H1 H' := (Kp.of s2).trans (kp'.mono (G := F) fun x hx => by
          by_cases e1 : x = o
          · rw [e1]; exact hFo
          · by_cases e2 : x = dv
            · rw [e2]; exact hFd
            · rw [add_no e2 (only_no e1)] at hx; cases hx)
        have kx : ∀ x u, x ≠ o → x ≠ dv → H1 x = some u → H' x = some u := fun x u h1 h2 h => kp' x u (add_no h2 (only_no h1)) (s2 _ _ h)
        refine k v H' ?_ ⟨⟨dxb1, kx _ _ ap.bo ap.bd hb1⟩, dls, kx _ _ ap.lo ap.ld hl1, hdls.kp kF⟩ ⟨⟨dxd, hdv'⟩, ho'⟩ (hv1.kp kF)
        refine ((k1.mono (only_sub (F3_l l o dv))).trans (Kp.of s2)).trans (kp'.mono (G := F3 l o dv) fun x hx => ?_)
        by_cases e1 : x = o
        · rw [e1]; exact F3_o l o dv
        · by_cases e2 : x = dv
          · rw [e2]; exact F3_d l o dv
          · rw [add_no e2 (only_no e1)] at hx; cases hx
abbrev s00 : St' := ([], [])
theorem sz00 : szS 0 s00 := ⟨Nat.le_refl _, Nat.le_refl _, fun b h => by cases h⟩
theorem make_same {H : Hp} {x dx : Addr} {o : HO} (hx : H x = none) (hdx : H dx = none) (hne : dx ≠ x) : Same H (upd (upd H dx (.own x)) x o) := (same_new hdx _).trans (same_new (by rw [upd_ne (Ne.symm hne)]; exact hx) _)
def spOpened (K : PySem.W.Frag) : Sp := fun vs H Q _ => ∃ (F : Fz) (a : Addr) (ds : List Deed) (t : List Nat) (pw : Int), vs = [.ref a, .int pw] ∧ SqL K H a (ocs (recsN ds ++ t)) ∧ Live F H ∧ (∀ d ∈ ds, okD d ∧ plD d) ∧ Dead t ∧ ds.length ≤ 100 ∧ (recsN ds ++ t).length ≤ 90000 ∧ canR s00 ds ∧
  ∀ j b l dv o H', Same H H' → H l = none → H o = none → H dv = none → JAt K H' j b dv → BookAt K (add (add (add F l) o) dv) H' b l (stk (runP s00 ds)) → DevAt K H' dv o (recsN ds) pw → Q (.ref j) H'
theorem sc_opened : FnScope ["octets", "power", "book", "deeds", "end", "deed"] ["octets", "power"] (defScope s_opened) := ⟨rfl, rfl, rfl, by decide +kernel, rfl, by decide +kernel, by decide +kernel⟩
theorem ok_opened (T : Tx K mg) : OkF P w K mg base d_opened ["octets", "power"] 21 (spOpened K) := by
  have o_Book_init : OkF P w K mg base d_Book_init ["self"] 1 (spBInit K) := ok_Book_init T
  have o_recovered : OkF P w K mg base d_recovered ["octets"] 20 (spRecovered K) := ok_recovered T
  have o_perform : OkF P w K mg base d_perform ["book", "deed"] 9 (spPerform K) := ok_perform T
  have o_Device_init : OkF P w K mg base d_Device_init ["self", "octets", "power"] 1 (spDInit K) := ok_Device_init T
  have o_JournaledBook_init : OkF P w K mg base d_JournaledBook_init ["self", "book", "device"] 1 (spJInit K) := ok_JB_init T
  refine (okF T 43 (d := d_opened) rfl sc_opened (fun _ _ _ _ _ _ us hl => match us, hl with | [_, _], _ => rfl) ⟨rfl, rfl⟩ (fun vs H Q E h => ?_) (fun cdv A outer s H vs Q E hr h => ?_))
  · obtain ⟨F, a, ds, t, pw, rfl, _⟩ := h; rfl
  · obtain ⟨F, a, ds, t, pw, rfl, hs, lv, hok, hdead, zd, hz, hcan, k⟩ := h
    refine ⟨_, (pss_cons (ps_set (i := 2) sc_opened.nd rfl (Or.inl rfl) (cmk0 o_Book_init T.k_Book (hr.mono (by omega))))
  (pss_cons (ps_asg (cg o_recovered T.g_recovered (hr.mono (by omega)) (pa_cons (pv 0) pa_nil)) (pg_tup rfl (pgs_cons (pg_name (i := 3) sc_opened.nd rfl (Or.inl rfl)) (pgs_cons (pg_name (i := 4) sc_opened.nd rfl (Or.inl rfl)) pgs_nil))))
  (pss_cons (ps_for PassesOwn.never rfl (pi_list (pv 3)) (pg_name (i := 5) sc_opened.nd rfl (Or.inl rfl))
  (pss_one (ps_expr (cg o_perform T.g_perform_journal (hr.mono (by omega)) (pa_cons (pv 2) (pa_cons (pv 5) pa_nil))))))
  (pss_one (ps_ret (cmk o_JournaledBook_init T.k_JournaledBook (hr.mono (by omega)) (pa_cons (pv 2) (pa_cons (cmk o_Device_init T.k_Device (hr.mono (by omega)) (pa_cons (pe_slice sl_list (pv 0) po_none (po_some (pv 4))) (pa_cons (pv 1) pa_nil))) pa_nil)))))))), ?_⟩
    refine fun b dx hb hdx hne => ⟨b, dx, rfl, upd_same, fun d l hd hl => ⟨rfl, ?_⟩⟩
    have s0 := make_same (o := HO.ins (He.ga K "Book") dx []) hb hdx hne
    have hb0 : (upd (upd H dx (.own b)) b (.ins (He.ga K "Book") dx [])) b = some (.ins (He.ga K "Book") dx []) := upd_same
    generalize upd (upd H dx (.own b)) b (.ins (He.ga K "Book") dx []) = H0 at *
    have sd := s0.trans (same_new (o := HO.dK []) hd)
    have hdl : (upd H0 d (.dK [])) d = some (.dK []) := upd_same
    have ndl : d ≠ l := ne_of_none hdl hl
    have hlH : H l = none := sd.hole hl
    have hdH : H d = none := s0.hole hd
    have hbl : b ≠ l := fun e => by
      have := (same_new (o := HO.dK []) hd) _ _ hb0
      rw [e, hl] at this
      cases this
    have hbd : b ≠ d := fun e => by rw [e, hd] at hb0; cases hb0
    have s1 : Same H (upd (upd (upd H0 d (.dK [])) l (.lst [.ref d])) b (.ins (He.ga K "Book") dx [("past", .ref l)])) := same_mut (sd.trans (same_new hl _)) hb
    have lF : F l = false := lv.new hlH
    have dF : F d = false := lv.new hdH
    have hB1 : BookAt K (add F l) (upd (upd (upd H0 d (.dK [])) l (.lst [.ref d])) b (.ins (He.ga K "Book") dx [("past", .ref l)])) b l (stk s00) := by
      refine ⟨⟨dx, upd_same⟩, [d], ?_, ⟨[], ?_, .nil⟩, trivial⟩
      · rw [upd_ne (Ne.symm hbl), upd_same]
        rfl
      · rw [Av_get (add_no ndl dF), upd_ne (Ne.symm hbd), upd_ne ndl]
        exact hdl
    generalize upd (upd (upd H0 d (.dK [])) l (.lst [.ref d])) b (.ins (He.ga K "Book") dx [("past", .ref l)]) = H1 at *
    obtain ⟨_, _, hl1, _⟩ := id hB1
    have lv1 : Live (add F l) H1 := (lv.same s1).add (by rw [hl1]; simp)
    -- deeds, end = recovered(octets)
    refine ⟨_, rfl, add F l, a, ds, t, rfl, s1.seq hs, lv1, hok, hdead, by omega, hz, fun p H2 s2 hp2 => ?_⟩
    obtain ⟨p', xs, e, hpt, hxs⟩ := Dp.tupGet hp2
    cases e
    obtain ⟨dv0, rfl, hdl0⟩ : ∃ v, xs = [v, .int ((recsN ds).length : Nat)] ∧ Dh K (add F l) H2 v (.list (ds.map dD)) := by
      cases hxs with
      | cons h1 h2 => cases h2 with
        | cons h3 h4 =>
          cases h4
          cases h3
          exact ⟨_, rfl, h1⟩
    obtain ⟨q, vs, rfl, hq, hvs⟩ := Dp.lstGet hdl0
    refine ⟨p, _, rfl, SqT.of (Av_some hpt).2, rfl, _, _, rfl, _, _, rfl, rfl, ?_⟩
    have hB2 := hB1.same s2
    have hq2 := (Av_some hq).2
    have nql : q ≠ l := fun e => by
      have := (Av_some hq).1
      rw [e, add_self] at this
      cases this
    have lvs : vs.length = ds.length := by rw [DpAll.len hvs, List.length_map]
    refine ⟨_, rfl, q, rfl, ⟨_, SqL.of hq2⟩, for_list (K := K) (a := q) (xs := vs) (fun i σ H' => (∃ v5, σ = [some (.ref a), some (.int pw), some (.ref b), some (.ref q), some (.int ((recsN ds).length : Nat)), v5]) ∧ BookAt K (add F l) H' b l (stk (runP s00 (ds.take i))) ∧ Kp (only l) H2 H')
      ⟨⟨none, rfl⟩, hB2, Kp.refl _ _⟩ (fun i σ H' _ h => SqL.of (h.2.2.at_ nql hq2)) ?_ ?_⟩
    · rintro i x σ H' hi ⟨⟨v5, rfl⟩, hB', kp'⟩
      obtain ⟨d0, hd1, hd2⟩ := DpAll.at_ hvs hi
      obtain ⟨di, hdi, rfl⟩ := map_at hd1
      obtain ⟨ai, _, rfl, _⟩ := dp_tagD hd2
      have hcan' := canR_at hcan hdi
      have hil := lt_of_at hdi
      have hszi := sz00.run (ds := ds.take i)
      rw [List.length_take] at hszi
      obtain ⟨_, _, hl', _⟩ := id hB'
      refine ⟨_, rfl, _, rfl, add F l, b, l, ai, (runP s00 (ds.take i)).1, (runP s00 (ds.take i)).2, di, rfl, hB', add_self _ _, (lv1.same s2).kp kp' (by rw [hl']; simp), (show Dh K (add F l) H2 (.ref ai) (dD di) from hd2).kp (kp'.toF (add_self _ _)), (hok di (List.mem_of_getElem? hdi)).1, hcan'.2.1, by have := hszi.2.1; omega, by have := hszi.1; omega, fun v H'' k2 hB'' _ => ?_⟩
      refine ⟨⟨_, rfl⟩, ?_, kp'.trans k2⟩
      rw [take_more hdi, runP_app]
      rw [stepS_P] at hB''
      exact hB''
    · rintro σ H' ⟨⟨v5, rfl⟩, hB', kp'⟩
      rw [lvs, List.take_length] at hB'
      have kpH : ∀ x u, H x = some u → H' x = some u := fun x u h => by
        have nx : x ≠ l := fun e => by rw [e, hlH] at h; cases h
        exact kp'.at_ nx (s2 _ _ (s1 _ _ h))
      have s3 : Same H H' := kpH
      have eC : cutV (ocs (recsN ds ++ t)) none (some ((recsN ds).length : Nat)) = ocs (recsN ds) := by
        rw [cutO_to, List.take_left]
      refine ⟨_, rfl, _, rfl, _, rfl, _, rfl, a, _, rfl, s3.seq hs, fun p2 hp2 => ?_⟩
      rw [eC] at *
      have s4 := s3.trans (same_new (o := HO.lst (ocs (recsN ds))) hp2)
      have s34 := same_new (o := HO.lst (ocs (recsN ds))) hp2
      have hp22 : (upd H' p2 (.lst (ocs (recsN ds)))) p2 = some (.lst (ocs (recsN ds))) := upd_same
      have hB4 := hB'.same s34
      generalize upd H' p2 (.lst (ocs (recsN ds))) = H4 at *
      obtain ⟨_, _, hl4, _⟩ := id hB4
      have lv4 : Live (add F l) H4 := (lv.same s4).add (by rw [hl4]; simp)
      refine ⟨_, rfl, fun x dx hx hdx hne => ⟨x, dx, p2, recsN ds, pw, rfl, upd_same, SqL.of ((make_same hx hdx hne) _ _ hp22), fun o H5 k5 ho hx5 ho5 => ⟨rfl, ?_⟩⟩⟩
      have s45 : Same H4 H5 := k5.same_new hx (make_same hx hdx hne)
      have ho4 : H4 o = none := (make_same (o := HO.ins (He.ga K "Device") dx []) hx hdx hne).hole ho
      have hxo : x ≠ o := fun e => by rw [e, ho5] at hx5; cases hx5
      intro y dy hy hdy hne2
      refine ⟨y, dy, b, x, rfl, upd_same, fun H6 k6 hy6 => ⟨rfl, ?_⟩⟩
      have s56 : Same H5 H6 := k6.same_new hy (make_same hy hdy hne2)
      have s46 := s45.trans s56
      have s6 := s4.trans s46
      refine k y b l x o H6 s6 hlH (s4.hole ho4) (s4.hole hx) ⟨dy, hy6⟩ ?_ ⟨⟨dx, s56 _ _ hx5⟩, s56 _ _ ho5⟩
      obtain ⟨⟨dxb, hb4⟩, dls, hl4', hdls⟩ := hB4
      refine ⟨⟨dxb, s46 _ _ hb4⟩, dls, s46 _ _ hl4', ?_⟩
      exact ((hdls.new ho4).new hx).kp (Kp.of s46)
end
end Mw
/-! MwN -/
set_option Elab.async false
set_option linter.all false
set_option maxRecDepth 100000
set_option maxHeartbeats 4000000
namespace Mw
open PySem PySem.Spec PyProof.Rows L2
/-! ## the law's draws -/
def BoxAt (F : Fz) (H : Hp) (x : Addr) : Prop := ∃ (r : Addr) (zs : List Int) (n : Nat), H x = some (.lst [.ref r, .int (n : Int)]) ∧ F r = false ∧ H r = some (.lst (zs.map V.int))
theorem BoxAt.kp {F G : Fz} {H H' : Hp} {x : Addr} (b : BoxAt F H x) (k : Kp G H H') (hx : G x = false) (hG : ∀ a, G a = true → F a = true) : BoxAt F H' x := by
  obtain ⟨r, zs, n, h1, h2, h3⟩ := b
  refine ⟨r, zs, n, k x _ hx h1, h2, k r _ ?_ h3⟩
  cases e : G r with
  | false => rfl
  | true => rw [hG r e] at h2; cases h2
theorem BoxAt.same {F : Fz} {H H' : Hp} {x : Addr} (b : BoxAt F H x) (s : Same H H') : BoxAt F H' x := by
  obtain ⟨r, zs, n, h1, h2, h3⟩ := b
  exact ⟨r, zs, n, s _ _ h1, h2, s _ _ h3⟩
theorem BoxAt.live {F : Fz} {H : Hp} {x : Addr} (b : BoxAt F H x) : H x ≠ none := by
  obtain ⟨r, zs, n, h1, _⟩ := b
  rw [h1]; simp
section
variable {P : Program} {w : World} {K : PySem.W.Frag} {mg : Str → Option Value} {base : Heap}
def spCell (K : PySem.W.Frag) : Sp := fun vs H Q _ => ∃ (a : Addr) (ns : List Int) (k : Nat), vs = [.ref a, .int (k : Int)] ∧ SqL K H a (ns.map V.int) ∧ ∀ i, Q (.int i) H
theorem sc_law_cell : FnScope ["_law_script", "_law_k"] ["_law_script", "_law_k"] (defScope s_law_cell) := ⟨rfl, rfl, rfl, by decide +kernel, rfl, by decide +kernel, by decide +kernel⟩
theorem ok_law_cell (T : Tx K mg) : OkF P w K mg base d_law_cell ["_law_script", "_law_k"] 1 (spCell K) := by
  refine (okF T 44 (d := d_law_cell) rfl sc_law_cell (fun _ _ _ _ _ _ us hl => match us, hl with | [_, _], _ => rfl) ⟨rfl, rfl⟩ (fun vs H Q E h => ?_) (fun cdv A outer s H vs Q E hr h => ?_))
  · obtain ⟨a, ns, k, rfl, _⟩ := h; rfl
  · obtain ⟨a, ns, kk, rfl, hs, k⟩ := h
    refine ⟨_, (pss_cons (ps_if (pt_cmpR op_lt (pv 1) (pe_callB call_len_seq (by rfl) T.z_len (by decide +kernel) (pa_cons (pv 0) pa_nil)) (nomark _))
  (pss_one (ps_ret (pe_ix ix_list (pv 0) (pv 1) (fun _ _ => rfl))))
  pss_nil)
  (pss_one (ps_ret pe_int))), ?_⟩
    refine ⟨_, rfl, _, rfl, a, _, rfl, .inl hs, _, _, rfl, rfl, _, rfl, ?_⟩
    by_cases h : kk < ns.length
    · refine ite_t (decide_eq_true (by rw [List.length_map]; omega)) ?_
      exact ⟨_, rfl, _, rfl, a, _, _, .int ns[kk], rfl, rfl, hs, atI_nat (by rw [List.getElem?_map, List.getElem?_eq_getElem h]; rfl), k _⟩
    · refine ite_f (decide_eq_false (by rw [List.length_map]; omega)) ?_
      exact k 0
def spRow : Sp := fun vs H Q _ => ∃ (c : Int) (k m : Nat), vs = [.int c, .int (k : Int), .int (m : Int)] ∧ m ≤ 1000 ∧ ∀ p (zs : List Int) H', Same H H' → H p = none → zs.length ≤ m → H' p = some (.lst (zs.map V.int)) → Q (.ref p) H'
theorem sc_law_row : FnScope ["_law_cell_here", "_law_k", "_law_many", "_law_row_here", "_law_turn", "_law_seed"] ["_law_cell_here", "_law_k", "_law_many"] (defScope s_law_row) := ⟨rfl, rfl, rfl, by decide +kernel, rfl, by decide +kernel, by decide +kernel⟩
theorem ok_law_row (T : Tx K mg) : OkF P w K mg base d_law_row ["_law_cell_here", "_law_k", "_law_many"] 1 spRow := by
  refine (okF T 45 (d := d_law_row) rfl sc_law_row (fun _ _ _ _ _ _ us hl => match us, hl with | [_, _, _], _ => rfl) ⟨rfl, rfl⟩ (fun vs H Q E h => ?_) (fun cdv A outer s H vs Q E hr h => ?_))
  · obtain ⟨c, kk, m, rfl, _⟩ := h; rfl
  · obtain ⟨c, kk, m, rfl, hm, k⟩ := h
    refine ⟨_, (pss_cons (ps_set (i := 3) sc_law_row.nd rfl (Or.inl rfl) (pe_lst pa_nil))
  (Evl.pss_cut (ps_if (pt_cmpR op_lt (pv 0) pe_int (nomark _))
  (pss_one (ps_set (i := 0) sc_law_row.nd rfl (Or.inl rfl) (pe_op op_sub pe_int (pe_op op_mul pe_int (pv 0)))))
  pss_nil)
  (pss_cons (ps_if (pt_cmpR op_ge (pv 0) (pe_op op_pow pe_int pe_int) (nomark _))
  (pss_cons (ps_for PassesOwn.never rfl (pi_range1 (by rfl) T.z_range (pa_cons pe_int pa_nil)) (pg_name (i := 4) sc_law_row.nd rfl (Or.inl rfl))
  (pss_one (ps_if (PW.pt (pw_and (pt_cmpR op_gt (pv 0) pe_int (nomark _)) (pw_and1 (pt_cmpR op_lt (pe_callB call_len_seq (by rfl) T.z_len (by decide +kernel) (pa_cons (pv 3) pa_nil)) (pv 2) (nomark _)))))
  (pss_cons (ps_expr (pe_bm PySem.F.plainAttrs_list PySem.F.slot_list_append PySem.F.type_list_append mt_append (pv 3) (pa_cons (pe_op op_mod (pe_callTy call_int1 (by rfl) T.z_int (by decide +kernel) (pa_cons (pv 0) pa_nil)) pe_int) pa_nil)))
  (pss_one (ps_set (i := 0) sc_law_row.nd rfl (Or.inl rfl) (pe_op op_fdiv (pv 0) pe_int))))
  pss_nil)))
  (pss_one (ps_ret (pv 3))))
  pss_nil)
  (pss_cons (ps_set (i := 5) sc_law_row.nd rfl (Or.inl rfl) (pe_op op_mod (pe_callTy call_int1 (by rfl) T.z_int (by decide +kernel) (pa_cons (pe_op op_add (pe_op op_add (pe_op op_mul (pv 0) pe_int) (pe_op op_mul (pv 1) pe_int)) pe_int) pa_nil)) pe_int))
  (pss_cons (ps_for PassesOwn.never rfl (pi_range1 (by rfl) T.z_range (pa_cons (pv 2) pa_nil)) (pg_name (i := 4) sc_law_row.nd rfl (Or.inl rfl))
  (pss_cons (ps_set (i := 5) sc_law_row.nd rfl (Or.inl rfl) (pe_op op_mod (pe_callTy call_int1 (by rfl) T.z_int (by decide +kernel) (pa_cons (pe_op op_add (pe_op op_add (pe_op op_mul (pv 5) pe_int) (pe_op op_mul pe_int (pv 4))) pe_int) pa_nil)) pe_int))
  (pss_one (ps_expr (pe_bm PySem.F.plainAttrs_list PySem.F.slot_list_append PySem.F.type_list_append mt_append (pv 3) (pa_cons (pe_op op_mod (pe_callTy call_int1 (by rfl) T.z_int (by decide +kernel) (pa_cons (pe_op op_fdiv (pv 5) pe_int) pa_nil)) pe_int) pa_nil))))))
  (pss_one (ps_ret (pv 3)))))))), ?_⟩
    refine ⟨Nat.zero_le _, fun p hp => ?_⟩
    have s0 := same_new (o := HO.lst []) hp
    refine ⟨fun σ H' => ∃ c', σ = [some (.int c'), some (.int (kk : Int)), some (.int (m : Int)), some (.ref p), none, none] ∧ H' = upd H p (.lst []), ?_, ?_⟩
    · refine ⟨_, rfl, _, _, rfl, rfl, _, rfl, ?_⟩
      by_cases hc : c < 0
      · refine ite_t (decide_eq_true hc) ?_
        refine ⟨_, rfl, _, _, rfl, rfl, .inl ⟨by decide, by decide⟩, _, _, rfl, rfl, _, rfl, rfl⟩
      · exact ite_f (decide_eq_false hc) ⟨c, rfl, rfl⟩
    · rintro σ H' ⟨c', rfl, rfl⟩
      refine ⟨_, rfl, _, _, rfl, rfl, ⟨by decide, by decide, by decide⟩, _, _, rfl, rfl, _, rfl, ?_⟩
      by_cases hc : (10 : Int) ^ 18 ≤ c'
      · refine ite_t (decide_eq_true hc) ?_
        refine ⟨_, rfl, by decide, by decide, for_range (lo := 0) (n := 60) (fun i σ H' => ∃ c'' v4 v5 zs, σ = [some (.int c''), some (.int (kk : Int)), some (.int (m : Int)), some (.ref p), v4, v5] ∧ H' p = some (.lst (zs.map V.int)) ∧ zs.length ≤ m ∧ Same H H') ⟨c', none, none, [], rfl, upd_same, Nat.zero_le _, s0⟩ ?_ ?_⟩
        · rintro i σ H' hi ⟨c'', v4, v5, zs, rfl, hpv, hz, s1⟩
          refine ⟨_, rfl, _, _, rfl, rfl, _, rfl, ?_⟩
          by_cases h0 : 0 < c''
          · refine ite_t (decide_eq_true h0) ?_
            refine ⟨_, rfl, p, _, rfl, .inl (SqL.of hpv), _, rfl, _, _, rfl, rfl, _, rfl, ?_⟩
            by_cases h1 : zs.length < m
            · refine ite_t (decide_eq_true (by rw [List.length_map]; omega)) ?_
              refine ⟨_, rfl, .inl ⟨rfl, _, SqL.of hpv⟩, _, rfl, .inl ⟨_, rfl, _, _, rfl, rfl, show (0 : Int) < 1000 by decide, p, _, _, rfl, rfl, hpv, small_lt (by rw [List.length_map]; omega), ?_⟩⟩
              refine ⟨_, rfl, _, _, rfl, rfl, ⟨by decide, by decide⟩, _, _, _, zs ++ [c'' % 1000], rfl, ?_, by simp; omega, same_mut s1 hp⟩
              rw [upd_same]
              simp
            · refine ite_f (decide_eq_false (by rw [List.length_map]; omega)) ?_
              exact ⟨_, _, _, zs, rfl, hpv, hz, s1⟩
          · refine ite_f (decide_eq_false h0) (iteF ?_)
            exact ⟨_, _, _, zs, rfl, hpv, hz, s1⟩
        · rintro σ H' ⟨c'', v4, v5, zs, rfl, hpv, hz, s1⟩
          exact ⟨_, rfl, k p zs H' s1 hp hz hpv⟩
      · refine ite_f (decide_eq_false hc) ?_
        refine ⟨_, rfl, _, _, rfl, rfl, .inr ⟨by decide, by decide⟩, _, rfl, _, _, rfl, rfl, .inr ⟨by decide, by decide⟩, _, _, rfl, rfl, _, _, rfl, rfl, .inl ⟨_, rfl, _, _, rfl, rfl, show (0 : Int) < 2147483647 by decide, ?_⟩⟩
        refine ⟨_, rfl, _, rfl, by omega, by omega, for_range (lo := 0) (n := m) (fun i σ H' => ∃ sd v4 zs, σ = [some (.int c'), some (.int (kk : Int)), some (.int (m : Int)), some (.ref p), v4, some (.int sd)] ∧ H' p = some (.lst (zs.map V.int)) ∧ zs.length = i ∧ Same H H') ⟨_, none, [], rfl, upd_same, rfl, s0⟩ ?_ ?_⟩
        · rintro i σ H' hi ⟨sd, v4, zs, rfl, hpv, hz, s1⟩
          refine ⟨_, rfl, _, _, rfl, rfl, .inr ⟨by decide, by decide⟩, _, rfl, _, _, rfl, rfl, .inl ⟨by decide, by decide⟩, _, _, rfl, rfl, _, _, rfl, rfl, .inl ⟨_, rfl, _, _, rfl, rfl, show (0 : Int) < 2147483647 by decide, ?_⟩⟩
          refine ⟨_, rfl, .inl ⟨rfl, _, SqL.of hpv⟩, _, rfl, _, _, rfl, rfl, ⟨by decide, by decide⟩, .inl ⟨_, rfl, _, _, rfl, rfl, show (0 : Int) < 1000 by decide, p, _, _, rfl, rfl, hpv, small_lt (by rw [List.length_map]; omega), ?_⟩⟩
          refine ⟨_, _, zs ++ [((sd * 16807 + 7 * (0 + (i : Int)) + 1) % 2147483647 / 997) % 1000], rfl, ?_, by simp; omega, same_mut s1 hp⟩
          rw [upd_same, List.map_append]
          rfl
        · rintro σ H' ⟨sd, v4, zs, rfl, hpv, hz, s1⟩
          exact ⟨_, rfl, k p zs H' s1 hp (by omega) hpv⟩
def spBox (K : PySem.W.Frag) : Sp := fun vs H Q _ => ∃ (a : Addr) (ns : List Int), vs = [.ref a, .int 0, .int 40] ∧ SqL K H a (ns.map V.int) ∧ ∀ x r (zs : List Int) H', Same H H' → H x = none → H r = none → x ≠ r → H' x = some (.lst [.ref r, .int 0]) → H' r = some (.lst (zs.map V.int)) → Q (.ref x) H'
theorem sc_law_box : FnScope ["_law_script", "_law_first", "_law_last", "_law_row_here", "_law_k"] ["_law_script", "_law_first", "_law_last"] (defScope s_law_box) := ⟨rfl, rfl, rfl, by decide +kernel, rfl, by decide +kernel, by decide +kernel⟩
theorem ok_law_box (T : Tx K mg) : OkF P w K mg base d_law_box ["_law_script", "_law_first", "_law_last"] 2 (spBox K) := by
  have o_law_cell : OkF P w K mg base d_law_cell ["_law_script", "_law_k"] 1 (spCell K) := ok_law_cell T
  have o_law_row : OkF P w K mg base d_law_row ["_law_cell_here", "_law_k", "_law_many"] 1 spRow := ok_law_row T
  refine (okF T 46 (d := d_law_box) rfl sc_law_box (fun _ _ _ _ _ _ us hl => match us, hl with | [_, _, _], _ => rfl) ⟨rfl, rfl⟩ (fun vs H Q E h => ?_) (fun cdv A outer s H vs Q E hr h => ?_))
  · obtain ⟨a, ns, rfl, _⟩ := h; rfl
  · obtain ⟨a, ns, rfl, hs, k⟩ := h
    refine ⟨_, (pss_cons (ps_set (i := 3) sc_law_box.nd rfl (Or.inl rfl) (pe_lst pa_nil))
  (pss_cons (ps_for PassesOwn.never rfl (pi_range2 (by rfl) T.z_range (pa_cons (pv 1) (pa_cons (pv 2) pa_nil))) (pg_name (i := 4) sc_law_box.nd rfl (Or.inl rfl))
  (pss_one (ps_set (i := 3) sc_law_box.nd rfl (Or.inl rfl) (pe_op op_cat (pv 3) (cg o_law_row T.g__law_row (hr.mono (by omega)) (pa_cons (cg o_law_cell T.g__law_cell (hr.mono (by omega)) (pa_cons (pv 0) (pa_cons (pv 4) pa_nil))) (pa_cons (pv 4) (pa_cons pe_int pa_nil))))))))
  (pss_one (ps_ret (pe_lst (pa_cons (pv 3) (pa_cons pe_int pa_nil))))))), ?_⟩
    refine ⟨Nat.zero_le _, fun p hp => ?_⟩
    have s0 := same_new (o := HO.lst []) hp
    refine ⟨_, rfl, _, rfl, _, _, rfl, ⟨by decide, by decide, by decide, by decide⟩, for_range (lo := 0) (n := 40) (fun i σ H' => ∃ (q : Addr) (v4 : Option V) (zs : List Int), σ = [some (.ref a), some (.int 0), some (.int 40), some (.ref q), v4] ∧ H' q = some (.lst (zs.map V.int)) ∧ H q = none ∧ zs.length ≤ 12 * i ∧ Same H H') ⟨p, none, [], rfl, upd_same, hp, Nat.zero_le _, s0⟩ ?_ ?_⟩
    · rintro i σ H' hi ⟨q, v4, zs, rfl, hq, hqn, hz, s1⟩
      refine ⟨_, rfl, _, rfl, _, rfl, a, ns, i, by rw [Int.zero_add]; rfl, s1.seq hs, fun c => ?_⟩
      refine ⟨_, rfl, c, i, 12, by rw [Int.zero_add]; rfl, by decide, fun p2 zs2 H2 s2 hn2 hz2 hp2 => ?_⟩
      refine ⟨q, p2, _, _, rfl, rfl, s2 _ _ hq, hp2, small_le (by rw [List.length_map, List.length_map]; omega), fun p3 hp3 => ?_⟩
      have s3 := s1.trans s2
      refine ⟨p3, _, zs ++ zs2, rfl, ?_, s3.hole hp3, by rw [List.length_append]; omega, s3.trans (same_new hp3 _)⟩
      rw [upd_same, List.map_append]
    · rintro σ H' ⟨q, v4, zs, rfl, hq, hqn, hz, s1⟩
      refine ⟨_, rfl, by show 2 ≤ sizeLine; decide, fun x hx => ?_⟩
      exact k x q zs _ (s1.trans (same_new hx _)) (s1.hole hx) hqn (Ne.symm (ne_of_none hq hx)) upd_same (same_new hx _ _ _ hq)
def spDraw : Sp := fun vs H Q _ => ∃ (F : Fz) (x : Addr) (m : Nat), vs = [.ref x, .int (m : Int)] ∧ 0 < m ∧ BoxAt F H x ∧ F x = true ∧ ∀ (n : Nat) H', n < m → Kp (only x) H H' → BoxAt F H' x → Q (.int (n : Int)) H'
theorem sc_law_draw : FnScope ["_law_box_here", "_law_many", "_law_at"] ["_law_box_here", "_law_many"] (defScope s_law_draw) := ⟨rfl, rfl, rfl, by decide +kernel, rfl, by decide +kernel, by decide +kernel⟩
theorem ok_law_draw (T : Tx K mg) : OkF P w K mg base d_law_draw ["_law_box_here", "_law_many"] 1 spDraw := by
  refine (okF T 47 (d := d_law_draw) rfl sc_law_draw (fun _ _ _ _ _ _ us hl => match us, hl with | [_, _], _ => rfl) ⟨rfl, rfl⟩ (fun vs H Q E h => ?_) (fun cdv A outer s H vs Q E hr h => ?_))
  · obtain ⟨F, x, m, rfl, _⟩ := h; rfl
  · obtain ⟨F, x, m, rfl, hm, ⟨r, zs, n, hx, hFr, hrr⟩, hF, k⟩ := h
    refine ⟨_, (pss_cons (ps_set (i := 2) sc_law_draw.nd rfl (Or.inl rfl) (pe_ix ix_list (pv 0) pe_int (fun _ _ => rfl)))
  (pss_cons (ps_asg (pe_op op_add (pv 2) pe_int) (pg_sub (pv 0) pe_int set_list))
  (pss_cons (ps_if (pt_cmpR op_lt (pv 2) (pe_callB call_len_seq (by rfl) T.z_len (by decide +kernel) (pa_cons (pe_ix ix_list (pv 0) pe_int (fun _ _ => rfl)) pa_nil)) (nomark _))
  (pss_one (ps_ret (pe_op op_mod (pe_callTy call_int1 (by rfl) T.z_int (by decide +kernel) (pa_cons (pe_ix ix_list (pe_ix ix_list (pv 0) pe_int (fun _ _ => rfl)) (pv 2) (fun _ _ => rfl)) pa_nil)) (pv 1))))
  pss_nil)
  (pss_one (ps_ret (pe_op op_mod (pe_callTy call_int1 (by rfl) T.z_int (by decide +kernel) (pa_cons (pe_op op_add (pe_op op_mul (pv 2) pe_int) pe_int) pa_nil)) (pv 1))))))), ?_⟩
    have nrx : r ≠ x := fun e => by rw [e, hF] at hFr; cases hFr
    refine ⟨_, rfl, x, _, _, _, rfl, rfl, SqL.of hx, atI_nat (j := 1) rfl, ?_⟩
    refine ⟨_, rfl, _, _, rfl, rfl, _, rfl, x, _, _, 1, rfl, rfl, hx, rfl, ?_⟩
    have hb : BoxAt F (upd H x (.lst [.ref r, .int ((n : Int) + 1)])) x := ⟨r, zs, n + 1, by rw [upd_same]; rfl, hFr, by rw [upd_ne nrx]; exact hrr⟩
    have kp : Kp (only x) H (upd H x (.lst [.ref r, .int ((n : Int) + 1)])) := (Kp.refl _ _).upd (only_self x)
    have hx2 : (upd H x (.lst [.ref r, .int ((n : Int) + 1)])) x = some (.lst [.ref r, .int ((n : Int) + 1)]) := upd_same
    have hr2 : (upd H x (.lst [.ref r, .int ((n : Int) + 1)])) r = some (.lst (zs.map V.int)) := by rw [upd_ne nrx]; exact hrr
    have fin : ∀ z : Int, Q (.int (z % (m : Int))) (upd H x (.lst [.ref r, .int ((n : Int) + 1)])) := fun z => by
      have h0 : (0 : Int) < (m : Int) := by omega
      have h1 := Int.emod_nonneg z (Int.ne_of_gt h0)
      have h2 := Int.emod_lt_of_pos z h0
      have e : z % (m : Int) = (((z % (m : Int)).toNat : Nat) : Int) := (Int.toNat_of_nonneg h1).symm
      rw [e]
      exact k _ _ (by omega) kp hb
    refine ⟨_, rfl, _, rfl, x, _, _, _, rfl, rfl, SqL.of hx2, atI_nat (j := 0) rfl, r, _, rfl, .inl (SqL.of hr2), _, _, rfl, rfl, _, rfl, ?_⟩
    by_cases hn : n < zs.length
    · refine ite_t (decide_eq_true (by rw [List.length_map]; omega)) ?_
      refine ⟨_, rfl, x, _, _, _, rfl, rfl, SqL.of hx2, atI_nat (j := 0) rfl, _, rfl, r, _, _, .int zs[n], rfl, rfl, SqL.of hr2, atI_nat (by rw [List.getElem?_map, List.getElem?_eq_getElem hn]; rfl), .inl ⟨_, rfl, _, rfl, _, _, rfl, rfl, show (0 : Int) < (m : Int) by omega, fin _⟩⟩
    · refine ite_f (decide_eq_false (by rw [List.length_map]; omega)) ?_
      exact ⟨_, rfl, _, _, rfl, rfl, .inr ⟨by decide, by decide⟩, _, _, rfl, rfl, .inl ⟨_, rfl, _, rfl, _, _, rfl, rfl, show (0 : Int) < (m : Int) by omega, fin _⟩⟩
end
end Mw
/-! MwO -/
set_option Elab.async false
set_option linter.all false
set_option maxRecDepth 100000
set_option maxHeartbeats 4000000
namespace Mw
open PySem PySem.Spec PyProof.Rows L2
/-! ## the law's messages -/
theorem BoxAt.new {F : Fz} {H : Hp} {x p : Addr} (b : BoxAt F H x) (hp : H p = none) : BoxAt (add F p) H x := by
  obtain ⟨r, zs, n, h1, h2, h3⟩ := b
  exact ⟨r, zs, n, h1, add_no (ne_of_none h3 hp) h2, h3⟩
theorem BoxAt.weak {F G : Fz} {H : Hp} {x : Addr} (b : BoxAt G H x) (h : ∀ a, F a = true → G a = true) : BoxAt F H x := by
  obtain ⟨r, zs, n, h1, h2, h3⟩ := b
  refine ⟨r, zs, n, h1, ?_, h3⟩
  cases e : F r with
  | false => rfl
  | true => rw [h r e] at h2; cases h2
theorem BoxAt.mut {F : Fz} {H : Hp} {x p : Addr} {o : HO} (b : BoxAt F H x) (hF : F p = true) (hp : p ≠ x) : BoxAt F (upd H p o) x := by
  obtain ⟨r, zs, n, h1, h2, h3⟩ := b
  have nr : r ≠ p := fun e => by rw [e, hF] at h2; cases h2
  exact ⟨r, zs, n, by rw [upd_ne (Ne.symm hp)]; exact h1, h2, by rw [upd_ne nr]; exact h3⟩
def ndD : (k : Nat) → Sub k → List PyData
  | 0, e => nomatch e
  | k + 1, m => m.map (dNd (dat k))
theorem dat_nd : ∀ (k : Nat) (m : Sub k), dat k m = .list (ndD k m)
  | 0, e => nomatch e
  | _ + 1, _ => rfl
def NB : Nat → Nat
  | 0 => 3
  | k + 1 => 14 * NB k + 78
/-- what the law draws: few nodes, short notation -/
def gd : (k : Nat) → Bool → Sub k → Prop
  | 0, _, _ => True
  | k + 1, i, m => m.length ≤ 2 ∧ ∀ nd ∈ m, ndOk i (ok k) nd ∧ (fNd (fmt k) nd).length ≤ NB k
theorem flat_len {α : Type} {f : α → List Nat} {B : Nat} : ∀ {l : List α}, (∀ x ∈ l, (f x).length ≤ B) → (l.flatMap f).length ≤ l.length * B
  | [], _ => by simp
  | x :: r, h => by
    have ih := flat_len (f := f) (l := r) fun y hy => h y (List.mem_cons_of_mem _ hy)
    have h1 := h x List.mem_cons_self
    rw [List.flatMap_cons, List.length_append, List.length_cons, Nat.add_mul]
    omega
theorem gd.ok {k : Nat} {i : Bool} {m : Sub (k + 1)} (h : gd (k + 1) i m) : ok (k + 1) i m := ⟨Nat.le_trans h.1 (by decide), fun nd hnd => (h.2 nd hnd).1⟩
theorem gd.len {k : Nat} {i : Bool} {m : Sub (k + 1)} (h : gd (k + 1) i m) : (fmt (k + 1) m).length ≤ 2 * NB k := by
  have h1 := flat_len (f := fNd (fmt k)) (l := m) fun nd hnd => (h.2 nd hnd).2
  have h2 : (m : List (Nd (Sub k))).length ≤ 2 := h.1
  have h3 := Nat.mul_le_mul_right (NB k) h2
  rw [fmt_eq]
  omega
/-- a choice of few short cases -/
theorem ch_gd {k : Nat} {i : Bool} {pl : Option Nat} {c0 : Nat} {cs : List (Ky × Sub (k + 1))} {ot : Sub (k + 1)} {keys : List Ky} (hc0 : ltr c0) (ho : ∀ o, pl = some o → o ≤ 9) (hkeys : keys.Nodup) (hkn : keys.length ≤ 6) (hkk : ∀ y ∈ keys, kyOk pl.isSome y ∧ (fKy y).length ≤ 4)
    (hsub : (cs.map (·.1)).Sublist keys) (hcs : ∀ c ∈ cs, gd (k + 1) (i || pl.isSome) c.2) (hot : gd (k + 1) (i || pl.isSome) ot) :
    ndOk i (ok (k + 1)) (.ch pl [c0] cs ot) ∧ (fNd (fmt (k + 1)) (.ch pl [c0] cs ot)).length ≤ NB (k + 1) := by
  have hn : cs.length ≤ 6 := by
    have := hsub.length_le
    rw [List.length_map] at this
    omega
  have hmem : ∀ c ∈ cs, c.1 ∈ keys := fun c hc => hsub.subset (List.mem_map.mpr ⟨c, hc, rfl⟩)
  refine ⟨⟨⟨by simp, by simp, fun c hc => by rw [List.mem_singleton.mp hc]; exact hc0⟩, ho, by omega, hsub.nodup hkeys, fun c hc => ⟨(hkk _ (hmem c hc)).1, (hcs c hc).ok⟩, hot.ok⟩, ?_⟩
  have h1 : (cs.flatMap (fCase (fmt (k + 1)))).length ≤ cs.length * (2 * NB k + 8) := flat_len fun c hc => by
    have a1 := (hkk _ (hmem c hc)).2
    have a2 := (hcs c hc).len
    simp only [fCase, List.length_append, List.length_cons, List.length_nil]
    omega
  have h2 := Nat.mul_le_mul_right (2 * NB k + 8) hn
  have h3 := hot.len
  have h4 : (fOff pl).length ≤ 9 := by
    cases pl with
    | none => simp [fOff]
    | some o =>
      by_cases h0 : o = 0
      · subst h0; simp [fOff]
      · rw [fOff_pos h0]; simp [cOffset]
  have h5 : (cKind pl).length = 6 := by cases pl <;> rfl
  have h6 : cOther.length = 5 := rfl
  have h7 : NB (k + 1) = 14 * NB k + 78 := rfl
  simp only [fNd, List.length_append, List.length_cons, List.length_nil]
  omega
section
variable {P : Program} {w : World} {K : PySem.W.Frag} {mg : Str → Option Value} {base : Heap}
def spLMsg (K : PySem.W.Frag) (k : Nat) : Sp := fun vs H Q _ => ∃ (F : Fz) (x a : Addr) (i : Bool), vs = [.ref x, .int ((k : Int) - 1), .bl i, .ref a] ∧ 0 < k ∧ BoxAt F H x ∧ F x = true ∧ Live F H ∧ H a = some (.lst [.str "m", .str "n"]) ∧
  ∀ p vs (m : Sub k) H', Kp (only x) H H' → BoxAt (add F p) H' x → H p = none → H' p = some (.lst vs) → DhA K (add F p) H' vs (ndD k m) → gd k i m → Q (.ref p) H'
theorem sc_law_message : FnScope ["_law_box_here", "_law_depth", "_law_inside", "_law_numbers", "_law_found", "_law_turn", "_law_kind", "_law_cases", "_law_key", "_law_name", "_law_word_here"] ["_law_box_here", "_law_depth", "_law_inside", "_law_numbers"] (defScope s_law_message) := ⟨rfl, rfl, rfl, by decide +kernel, rfl, by decide +kernel, by decide +kernel⟩
theorem ok_law_message0 (T : Tx K mg) : OkF P w K mg base d_law_message ["_law_box_here", "_law_depth", "_law_inside", "_law_numbers"] 1 (spLMsg K 0) := by
  refine (okF T 49 (d := d_law_message) rfl sc_law_message (fun _ _ _ _ _ _ us hl => match us, hl with | [_, _, _, _], _ => rfl) ⟨rfl, rfl⟩ (fun vs H Q E h => ?_) (fun cdv A outer s H vs Q E hr h => ?_))
  · obtain ⟨F, x, a, i, rfl, _⟩ := h; rfl
  · obtain ⟨F, x, a, i, rfl, h0, _⟩ := h; exact absurd h0 (by decide)
theorem and_f {c1 b : Bool} {A B : Prop} {R : V → Prop} (hR : R (.bl b)) (h : (c1 && b) = false) (hB : B) : (if c1 = true then (∃ v, R v ∧ ∃ k, v = .bl k ∧ if k = true then A else B) else if false = true then A else B) := by
  cases c1 with
  | true => exact ⟨_, hR, b, rfl, by rw [show b = false from h]; exact hB⟩
  | false => exact hB
theorem msg_dh {K : PySem.W.Frag} {F : Fz} {H : Hp} {q : Addr} {k : Nat} {m : Sub k} {qs : List V} (h1 : F q = false) (h2 : H q = some (.lst qs)) (h3 : DhA K (add F q) H qs (ndD k m)) : Dh K F H (.ref q) (dat k m) := by
  rw [dat_nd]
  exact .lst ((Av_get h1).trans h2) (h3.weak add_sub)
def kHe : List Ky := [.wd [104, 101], .wd [115, 104, 101]]
def kPl : List Ky := [.num 0, .num 1, .num 3, .wd [111, 110, 101], .wd [102, 101, 119], .wd [109, 97, 110, 121]]
theorem ok_law_message_step (T : Tx K mg) {k : Nat} (o_law_message : OkF P w K mg base d_law_message ["_law_box_here", "_law_depth", "_law_inside", "_law_numbers"] (k + 1) (spLMsg K k)) : OkF P w K mg base d_law_message ["_law_box_here", "_law_depth", "_law_inside", "_law_numbers"] (k + 2) (spLMsg K (k + 1)) := by
  have o_law_draw : OkF P w K mg base d_law_draw ["_law_box_here", "_law_many"] 1 spDraw := ok_law_draw T
  refine (okF T 49 (d := d_law_message) rfl sc_law_message (fun _ _ _ _ _ _ us hl => match us, hl with | [_, _, _, _], _ => rfl) ⟨rfl, rfl⟩ (fun vs H Q E h => ?_) (fun cdv A outer s H vs Q E hr h => ?_))
  · obtain ⟨F, x, a, i, rfl, _⟩ := h; rfl
  · obtain ⟨F, x, a, ii, rfl, h0, hb, hF, lv, ha, kk⟩ := h
    refine ⟨_, (pss_cons (ps_set (i := 4) sc_law_message.nd rfl (Or.inl rfl) (pe_lst pa_nil))
  (pss_cons (ps_for PassesOwn.never rfl (pi_range1 (by rfl) T.z_range (pa_cons (pe_op op_add pe_int (cg o_law_draw T.g__law_draw (hr.mono (by omega)) (pa_cons (pv 0) (pa_cons pe_int pa_nil)))) pa_nil)) (pg_name (i := 5) sc_law_message.nd rfl (Or.inl rfl))
  (pss_cons (ps_set (i := 6) sc_law_message.nd rfl (Or.inl rfl) (cg o_law_draw T.g__law_draw (hr.mono (by omega)) (pa_cons (pv 0) (pa_cons pe_int pa_nil))))
  (pss_one (ps_if (PW.pt (pw_and (pt_cmpR op_gt (pv 1) pe_int (nomark _)) (pw_and1 (pt_cmpR op_lt (pv 6) pe_int (nomark _)))))
  (pss_cons (ps_setLc (i := 7) (own := [("_law_word_here", 10)]) (g := gName 10) rfl sc_law_message.nd rfl rfl (sw_true rfl rfl rfl (by decide +kernel)) (pi_list (pe_lst (pa_cons pe_str (pa_cons pe_str pa_nil)))) (blkOk_by (N := ["_law_box_here", "_law_depth", "_law_inside", "_law_numbers", "_law_found", "_law_turn", "_law_kind", "_law_cases", "_law_key", "_law_name", "_law_word_here"]) (sc := defScope s_law_message) (by decide +kernel)) (fun _ _ _ _ _ => (pg_name (i := 10) sc_law_message.nd rfl (Or.inl rfl))) (fun _ _ _ _ _ => (pts_one (pt_cmpR op_gt (cg o_law_draw T.g__law_draw (hr.mono (by omega)) (pa_cons (pv 0) (pa_cons pe_int pa_nil))) pe_int (nomark _)))) (fun _ _ _ _ _ => (pe_tup (pa_cons (pv 10) (pa_cons (cg o_law_message T.g__law_message (hr.mono (by omega)) (pa_cons (pv 0) (pa_cons (pe_op op_sub (pv 1) pe_int) (pa_cons (pv 2) (pa_cons (pv 3) pa_nil))))) pa_nil)))))
  (pss_one (ps_expr (pe_bm PySem.F.plainAttrs_list PySem.F.slot_list_append PySem.F.type_list_append mt_append (pv 4) (pa_cons (pe_tup (pa_cons pe_str (pa_cons pe_str (pa_cons (pv 7) (pa_cons (cg o_law_message T.g__law_message (hr.mono (by omega)) (pa_cons (pv 0) (pa_cons (pe_op op_sub (pv 1) pe_int) (pa_cons (pv 2) (pa_cons (pv 3) pa_nil))))) pa_nil))))) pa_nil)))))
  (pss_one (ps_if (PW.pt (pw_and (pt_cmpR op_gt (pv 1) pe_int (nomark _)) (pw_and1 (pt_cmpR op_lt (pv 6) pe_int (nomark _)))))
  (pss_cons (ps_set (i := 7) sc_law_message.nd rfl (Or.inl rfl) (pe_lst pa_nil))
  (pss_cons (ps_for PassesOwn.never rfl (pi_list (pe_lst (pa_cons pe_int (pa_cons pe_int (pa_cons pe_int (pa_cons pe_str (pa_cons pe_str (pa_cons pe_str pa_nil)))))))) (pg_name (i := 8) sc_law_message.nd rfl (Or.inl rfl))
  (pss_one (ps_if (pt_cmpR op_eq (cg o_law_draw T.g__law_draw (hr.mono (by omega)) (pa_cons (pv 0) (pa_cons pe_int pa_nil))) pe_int (nomark _))
  (pss_one (ps_expr (pe_bm PySem.F.plainAttrs_list PySem.F.slot_list_append PySem.F.type_list_append mt_append (pv 7) (pa_cons (pe_tup (pa_cons (pv 8) (pa_cons (cg o_law_message T.g__law_message (hr.mono (by omega)) (pa_cons (pv 0) (pa_cons (pe_op op_sub (pv 1) pe_int) (pa_cons pe_bl (pa_cons (pv 3) pa_nil))))) pa_nil))) pa_nil))))
  pss_nil)))
  (pss_cons (ps_set (i := 9) sc_law_message.nd rfl (Or.inl rfl) (pe_ix ix_list (pv 3) (pe_op op_mod (pe_callTy call_int1 (by rfl) T.z_int (by decide +kernel) (pa_cons (cg o_law_draw T.g__law_draw (hr.mono (by omega)) (pa_cons (pv 0) (pa_cons pe_int pa_nil))) pa_nil)) (pe_callB call_len_seq (by rfl) T.z_len (by decide +kernel) (pa_cons (pv 3) pa_nil))) (fun _ _ => rfl)))
  (pss_one (ps_expr (pe_bm PySem.F.plainAttrs_list PySem.F.slot_list_append PySem.F.type_list_append mt_append (pv 4) (pa_cons (pe_tup (pa_cons pe_str (pa_cons (pv 9) (pa_cons (pe_ix ix_list (pe_lst (pa_cons pe_int (pa_cons pe_int (pa_cons pe_int (pa_cons pe_int pa_nil))))) (cg o_law_draw T.g__law_draw (hr.mono (by omega)) (pa_cons (pv 0) (pa_cons pe_int pa_nil))) (fun _ _ => rfl)) (pa_cons (pv 7) (pa_cons (cg o_law_message T.g__law_message (hr.mono (by omega)) (pa_cons (pv 0) (pa_cons (pe_op op_sub (pv 1) pe_int) (pa_cons pe_bl (pa_cons (pv 3) pa_nil))))) pa_nil)))))) pa_nil)))))))
  (pss_one (ps_if (PW.pt (pw_and (pt_cmpR op_eq (pv 6) pe_int (nomark _)) (pw_and1 (pt_val (pv 2)))))
  (pss_one (ps_expr (pe_bm PySem.F.plainAttrs_list PySem.F.slot_list_append PySem.F.type_list_append mt_append (pv 4) (pa_cons (pe_tup (pa_cons pe_str pa_nil)) pa_nil))))
  (pss_one (ps_if (pt_cmpR op_eq (pv 6) pe_int (nomark _))
  (pss_one (ps_expr (pe_bm PySem.F.plainAttrs_list PySem.F.slot_list_append PySem.F.type_list_append mt_append (pv 4) (pa_cons (pe_tup (pa_cons pe_str (pa_cons (pe_ix ix_list (pe_lst (pa_cons pe_str (pa_cons pe_str (pa_cons pe_str pa_nil)))) (cg o_law_draw T.g__law_draw (hr.mono (by omega)) (pa_cons (pv 0) (pa_cons pe_int pa_nil))) (fun _ _ => rfl)) pa_nil))) pa_nil))))
  (pss_one (ps_expr (pe_bm PySem.F.plainAttrs_list PySem.F.slot_list_append PySem.F.type_list_append mt_append (pv 4) (pa_cons (pe_tup (pa_cons pe_str (pa_cons (pe_ix ix_list (pe_lst (pa_cons pe_str (pa_cons pe_str (pa_cons pe_str (pa_cons pe_str (pa_cons pe_str pa_nil)))))) (cg o_law_draw T.g__law_draw (hr.mono (by omega)) (pa_cons (pv 0) (pa_cons pe_int pa_nil))) (fun _ _ => rfl)) pa_nil))) pa_nil))))))))))))))
  (pss_one (ps_ret (pv 4))))), ?_⟩
    have eD : ((k + 1 : Nat) : Int) - 1 = (k : Int) := by omega
    rw [eD]
    have nax : a ≠ x := fun e => by
      obtain ⟨r, zs, n, h1, _⟩ := hb
      rw [e, h1] at ha
      cases ha
    refine ⟨Nat.zero_le _, fun p hp => ?_⟩
    have npx : p ≠ x := fun e => by rw [e] at hp; exact hb.live hp
    have npa : a ≠ p := ne_of_none ha hp
    have s0 := same_new (o := HO.lst []) hp
    have hb0 := (hb.new hp).same s0
    refine ⟨_, rfl, add F p, x, 2, rfl, by decide, hb0, add_of hF, fun n H1 hn k1 b1 => ?_⟩
    refine ⟨_, _, rfl, rfl, ?_⟩
    have hp1 : H1 p = some (.lst []) := k1.at_ npx upd_same
    refine ⟨_, rfl, by omega, by omega, for_range (lo := 0) (n := (1 + (n : Int)).toNat) (fun j σ H' => ∃ v5 v6 v7 v8 v9 vs, ∃ L : List (Nd (Sub k)), σ = [some (.ref x), some (.int (k : Int)), some (.bl ii), some (.ref a), some (.ref p), v5, v6, v7, v8, v9, none] ∧ H' p = some (.lst vs) ∧ L.length = j ∧
        DhA K (add F p) H' vs (L.map (dNd (dat k))) ∧ (∀ nd ∈ L, ndOk ii (ok k) nd ∧ (fNd (fmt k) nd).length ≤ NB k) ∧ BoxAt (add F p) H' x ∧ Kp (only x) H H')
      ⟨none, none, none, none, none, [], [], rfl, hp1, rfl, .nil, fun nd h => (by cases h), b1, ((Kp.refl (only x) H).trans (Kp.of s0)).trans k1⟩ ?_ ?_⟩
    · rintro j σ H' hj ⟨v5, v6, v7, v8, v9, vs, L, rfl, hpv, hL, hvs, hok, hb', kp⟩
      have lv' : Live (add F p) H' := (lv.kp kp hb'.live).add (by rw [hpv]; simp)
      have ha' := kp.at_ nax ha
      -- kind
      refine ⟨_, rfl, add F p, x, 8, rfl, by decide, hb', add_of hF, fun kd H2 hkd k2 hb2 => ?_⟩
      have hpv2 := k2.at_ npx hpv
      have ha2 := k2.at_ nax ha'
      have hvs2 := hvs.kp (k2.toF (add_of hF))
      have kp2 := kp.trans k2
      have lv2 : Live (add F p) H2 := lv'.kp k2 hb2.live
      have fin : ∀ (nd : Nd (Sub k)) (r : Addr) (H3 : Hp) (v5 v6 v7 v8 v9 : Option V), H3 p = some (.lst vs) → Kp (only x) H H3 → BoxAt (add F p) H3 x → DhA K (add F p) H3 vs (L.map (dNd (dat k))) → Dh K (add F p) H3 (.ref r) (dNd (dat k) nd) → ndOk ii (ok k) nd → (fNd (fmt k) nd).length ≤ NB k →
          ∃ v5' v6' v7' v8' v9' vs', ∃ L' : List (Nd (Sub k)), [some (V.ref x), some (.int (k : Int)), some (.bl ii), some (.ref a), some (.ref p), v5, v6, v7, v8, v9, none] = [some (.ref x), some (.int (k : Int)), some (.bl ii), some (.ref a), some (.ref p), v5', v6', v7', v8', v9', none] ∧ (upd H3 p (.lst (vs ++ [.ref r]))) p = some (.lst vs') ∧ L'.length = j + 1 ∧
            DhA K (add F p) (upd H3 p (.lst (vs ++ [.ref r]))) vs' (L'.map (dNd (dat k))) ∧ (∀ nd ∈ L', ndOk ii (ok k) nd ∧ (fNd (fmt k) nd).length ≤ NB k) ∧ BoxAt (add F p) (upd H3 p (.lst (vs ++ [.ref r]))) x ∧ Kp (only x) H (upd H3 p (.lst (vs ++ [.ref r]))) := fun nd r H3 v5 v6 v7 v8 v9 g1 g2 g3 g4 g5 g6 g7 => by
        refine ⟨v5, v6, v7, v8, v9, _, L ++ [nd], rfl, upd_same, by simp [hL], ?_, fun y hy => ?_, g3.mut (add_self _ _) npx, g2.mut hp⟩
        · rw [List.map_append]
          exact DhA.updF (DpAll.snoc g4 g5) (add_self _ _)
        · rcases List.mem_append.mp hy with h | h
          · exact hok y h
          · rw [List.mem_singleton.mp h]; exact ⟨g6, g7⟩
      have lvs : vs.length ≤ 2 := by
        have := DpAll.len hvs
        rw [List.length_map] at this
        omega
      have nb3 : 3 ≤ NB k := by cases k with
        | zero => exact Nat.le_refl _
        | succ k => show 3 ≤ 14 * NB k + 78; omega
      have hcase : (0 < k ∧ kd < 2) ∨ (0 < k ∧ 2 ≤ kd ∧ kd < 5) ∨ k = 0 ∨ (0 < k ∧ 5 ≤ kd) := by omega
      refine ⟨_, rfl, _, _, rfl, rfl, _, rfl, ?_⟩
      refine hcase.elim (fun hc => ?c1) fun h => h.elim (fun hc => ?c2) fun h => h.elim (fun hc => ?c3) (fun hc => ?c4)
      case c1 =>
        refine ite_t (decide_eq_true (by omega)) ?_
        refine ⟨_, rfl, _, _, rfl, rfl, _, rfl, ?_⟩
        refine ite_t (decide_eq_true (by omega)) ?_
        obtain ⟨k', rfl⟩ : ∃ k', k = k' + 1 := ⟨k - 1, by omega⟩
        have eDp : ((k' + 1 : Nat) : Int) - 1 = ((k' + 1 : Nat) : Int) - 1 := rfl
        refine ⟨by show 2 ≤ sizeLine; decide, fun W hW => ?_⟩
        have sW := same_new (o := HO.lst [.str "he", .str "she"]) hW
        have nWx : W ≠ x := fun e => by rw [e] at hW; exact hb2.live hW
        refine ⟨W, rfl, ⟨_, SqL.of upd_same⟩, fun D hD => ?_⟩
        have hWW : (upd H2 W (.lst [.str "he", .str "she"])) W = some (.lst [.str "he", .str "she"]) := upd_same
        have hpv3 := sW _ _ hpv2
        have ha3 := sW _ _ ha2
        have hvs3 := hvs2.same sW
        have kp3 := kp2.trans (Kp.of sW)
        have lv3 := lv2.same sW
        have hb3 := hb2.same sW
        generalize upd H2 W (.lst [.str "he", .str "she"]) = H3 at *
        have nDx : D ≠ x := fun e => by rw [e] at hD; exact hb3.live hD
        have nDp : D ≠ p := fun e => by rw [e, hpv3] at hD; cases hD
        have fD : add F p D = false := lv3.new hD
        have eW : ([.str "he", .str "she"] : List V) = kHe.map kW := by decide +kernel
        refine lc_list (K := K) (a := W) (xs := [.str "he", .str "she"]) (fun i H' => ∃ cv, ∃ cs : List (Ky × Sub (k' + 1)), H' D = some (.lst cv) ∧ Kp (only x) H3 H' ∧ BoxAt (add (add F p) D) H' x ∧ DhA K (add (add F p) D) H' cv (cs.map (dCase (dat (k' + 1)))) ∧ (cs.map (·.1)).Sublist (kHe.take i) ∧ ∀ c ∈ cs, gd (k' + 1) ii c.2)
          ⟨[], [], upd_same, (Kp.refl _ _).mut hD, (hb3.new hD).same (same_new hD _), .nil, by simp, fun c hc => (by cases hc)⟩ (fun i H' _ ⟨_, _, _, kq, _⟩ => SqL.of (kq.at_ nWx hWW)) ?_ ?_
        · rintro i wv H' hi ⟨cv, cs, hcv, kq, bq, hcs, hsub, hgd⟩
          rw [eW] at hi
          obtain ⟨wy, hwy, rfl⟩ := map_at hi
          have hil := lt_of_at hwy
          have hk2 : kHe.length = 2 := rfl
          refine ⟨rfl, _, rfl, add (add F p) D, x, 3, rfl, by decide, bq, add_of (add_of hF), fun n4 H4 hn4 k4 b4 => ?_⟩
          have hD4 := k4.at_ nDx hcv
          have hcs4 := hcs.kp (k4.toF (add_of (add_of hF)))
          have hsub' : (cs.map (·.1)).Sublist (kHe.take (i + 1)) := by
            rw [take_more hwy]
            exact hsub.trans (List.sublist_append_left _ _)
          refine ⟨_, _, rfl, rfl, _, rfl, ?_⟩
          by_cases h4 : 0 < n4
          · refine ite_t (decide_eq_true (by omega)) ?_
            have kq4 := kq.trans k4
            have lv4 : Live (add (add F p) D) H4 := (lv3.kp kq4 b4.live).add (by rw [hD4]; simp)
            refine ⟨_, rfl, _, rfl, _, rfl, _, _, rfl, rfl, _, rfl, _, rfl, add (add F p) D, x, a, ii, rfl, by omega, b4, add_of (add_of hF), lv4, kq4.at_ nax ha3, fun q qs m' H5 k5 b5' hq hq5 hqs hgm => ?_⟩
            have b5 := b5'.weak add_sub
            have f2q : add (add F p) D q = false := lv4.new hq
            have hqd : Dh K (add (add F p) D) H5 (.ref q) (dat (k' + 1) m') := msg_dh f2q hq5 hqs
            refine ⟨by show 2 ≤ sizeLine; decide, fun t ht => ?_⟩
            have st := same_new (o := HO.tup [kW wy, .ref q]) ht
            have hD5 := k5.at_ nDx hD4
            have kq5 := (kq4.trans k5).trans (Kp.of st)
            have ft : add (add F p) D t = false := (lv4.kp k5 b5.live).new ht
            have lcs : cs.length ≤ 2 := by
              have := hsub.length_le
              rw [List.length_map, List.length_take] at this
              omega
            refine ⟨cv, st _ _ hD5, small_lt (by have := DpAll.len hcs; rw [List.length_map] at this; omega), cv ++ [.ref t], cs ++ [(wy, m')], upd_same, kq5.mut hD, (b5.same st).mut (add_self _ _) nDx, ?_, ?_, fun c hc => ?_⟩
            · rw [List.map_append]
              refine DhA.updF (DpAll.snoc ((hcs4.kp (k5.toF (add_of (add_of hF)))).same st) ?_) (add_self _ _)
              exact .tup ((Av_get ft).trans upd_same) (.cons (dp_key.mpr rfl) (.cons (hqd.same st) .nil))
            · rw [List.map_append, take_more hwy]
              exact hsub.append (List.Sublist.refl _)
            · rcases List.mem_append.mp hc with h | h
              · exact hgd c h
              · rw [List.mem_singleton.mp h]; exact hgm
          · refine ite_f (decide_eq_false (by omega)) ?_
            exact ⟨cv, cs, hD4, kq.trans k4, b4, hcs4, hsub', hgd⟩
        · rintro H' ⟨cv, cs, hcv, kq, bq, hcs, hsub, hgd⟩
          have hpv4 := kq.at_ npx hpv3
          have kp4 := kp3.trans kq
          have lv4 : Live (add F p) H' := lv3.kp kq bq.live
          refine ⟨_, rfl, .inl ⟨rfl, _, SqL.of hpv4⟩, _, rfl, _, rfl, _, rfl, _, _, rfl, rfl, _, rfl, _, rfl, add F p, x, a, ii, rfl, by omega, bq.weak add_sub, add_of hF, lv4, kq.at_ nax ha3, fun q qs m' H5 k5 b5' hq hq5 hqs hgm => ?_⟩
          have b5 := b5'.weak add_sub
          have f1q : add F p q = false := lv4.new hq
          have hqd : Dh K (add F p) H5 (.ref q) (dat (k' + 1) m') := msg_dh f1q hq5 hqs
          have hD5 := k5.at_ nDx hcv
          have hcd : Dh K (add F p) H5 (.ref D) (.list (cs.map (dCase (dat (k' + 1))))) := .lst ((Av_get fD).trans hD5) ((hcs.weak add_sub).kp (k5.toF (add_of hF)))
          have hpv5 := k5.at_ npx hpv4
          have hvs5 := (hvs3.kp (kq.toF (add_of hF))).kp (k5.toF (add_of hF))
          refine ⟨by show 4 ≤ sizeLine; decide, fun t ht => ?_⟩
          have st := same_new (o := HO.tup [.str "select", .str "w", .ref D, .ref q]) ht
          have ft : add F p t = false := (lv4.kp k5 b5.live).new ht
          refine ⟨p, vs, _, rfl, rfl, st _ _ hpv5, small_lt (by omega), ?_⟩
          have hg := ch_gd (k := k') (i := ii) (pl := none) (c0 := 119) (cs := cs) (ot := m') (keys := kHe) (by unfold ltr; omega) (fun o h => by cases h) (by decide) (by decide) (fun y hy => by
            unfold kHe at hy
            simp only [List.mem_cons, List.not_mem_nil, or_false] at hy
            rcases hy with rfl | rfl
            · exact ⟨⟨⟨by decide, by decide, by unfold ltr; decide⟩, by decide, fun h => (by cases h)⟩, by decide⟩
            · exact ⟨⟨⟨by decide, by decide, by unfold ltr; decide⟩, by decide, fun h => (by cases h)⟩, by decide⟩) (by
            have : kHe.take kHe.length = kHe := List.take_length
            exact hsub) (fun c hc => by rw [show (ii || (none : Option Nat).isSome) = ii by simp]; exact hgd c hc) (by rw [show (ii || (none : Option Nat).isSome) = ii by simp]; exact hgm)
          refine fin (.ch none [119] cs m') t _ _ _ _ _ _ (st _ _ hpv5) ((kp4.trans k5).trans (Kp.of st)) (b5.same st) (hvs5.same st) ?_ hg.1 hg.2
          exact .tup ((Av_get ft).trans upd_same) (.cons (.str _) (.cons (.str _) (.cons (hcd.same st) (.cons (hqd.same st) .nil))))
      case c2 =>
        refine ite_t (decide_eq_true (by omega)) ?_
        refine ⟨_, rfl, _, _, rfl, rfl, _, rfl, ?_⟩
        refine ite_f (decide_eq_false (by omega)) ?_
        refine ⟨_, rfl, _, _, rfl, rfl, _, rfl, ?_⟩
        refine ite_t (decide_eq_true (by omega)) ?_
        refine ⟨_, rfl, _, _, rfl, rfl, _, rfl, ?_⟩
        refine ite_t (decide_eq_true (by omega)) ?_
        obtain ⟨k', rfl⟩ : ∃ k', k = k' + 1 := ⟨k - 1, by omega⟩
        refine ⟨Nat.zero_le _, fun D hD => ?_⟩
        have sD := same_new (o := HO.lst []) hD
        have hvsD0 := hvs2.new hD
        have hDH : H D = none := by
          cases e : H D with
          | none => rfl
          | some o =>
            have nDx0 : D ≠ x := fun e => by rw [e] at hD; exact hb2.live hD
            rw [kp2.at_ nDx0 e] at hD
            cases hD
        have nDx : D ≠ x := fun e => by rw [e] at hD; exact hb2.live hD
        have nDp : D ≠ p := fun e => by rw [e, hpv2] at hD; cases hD
        have fD : add F p D = false := lv2.new hD
        have hDD : (upd H2 D (.lst [])) D = some (.lst []) := upd_same
        have hb2' : BoxAt (add (add F p) D) (upd H2 D (.lst [])) x := (hb2.new hD).same sD
        have hpv2' := sD _ _ hpv2
        have ha2' := sD _ _ ha2
        have lv2' := lv2.same sD
        have hvs2' := hvs2.same sD
        have kpD := kp2.trans (Kp.of sD)
        have sD' := sD
        generalize upd H2 D (.lst []) = HD at *
        refine ⟨by show 6 ≤ sizeLine; decide, fun W hW => ?_⟩
        have sW := same_new (o := HO.lst [.int 0, .int 1, .int 3, .str "one", .str "few", .str "many"]) hW
        have nWx : W ≠ x := fun e => by rw [e] at hW; exact hb2'.live hW
        have nWD : W ≠ D := fun e => by rw [e, hDD] at hW; cases hW
        have hWW : (upd HD W (.lst [.int 0, .int 1, .int 3, .str "one", .str "few", .str "many"])) W = some (.lst [.int 0, .int 1, .int 3, .str "one", .str "few", .str "many"]) := upd_same
        have hpv3 := sW _ _ hpv2'
        have ha3 := sW _ _ ha2'
        have hvs3 := hvs2'.same sW
        have kp3 := kpD.trans (Kp.of sW)
        have lv3 := lv2'.same sW
        have hb3 := hb2'.same sW
        have hD3 := sW _ _ hDD
        generalize upd HD W (.lst [.int 0, .int 1, .int 3, .str "one", .str "few", .str "many"]) = H3 at *
        have eW : ([.int 0, .int 1, .int 3, .str "one", .str "few", .str "many"] : List V) = kPl.map kW := by decide +kernel
        have hvsN := (hvsD0.same sD').same sW
        have okD : Live (add (add F p) D) H3 := lv3.add (by rw [hD3]; simp)
        refine ⟨W, rfl, ⟨_, SqL.of hWW⟩, for_list (K := K) (a := W) (xs := [.int 0, .int 1, .int 3, .str "one", .str "few", .str "many"]) (fun i σ H' => ∃ v8, ∃ cv, ∃ cs : List (Ky × Sub (k' + 1)), σ = [some (V.ref x), some (.int ((k' + 1 : Nat) : Int)), some (.bl ii), some (.ref a), some (.ref p), some (.int (0 + (j : Int))), some (.int (kd : Int)), some (.ref D), v8, v9, none] ∧
            H' D = some (.lst cv) ∧ Kp (add (only x) D) H3 H' ∧ BoxAt (add (add F p) D) H' x ∧ DhA K (add (add F p) D) H' cv (cs.map (dCase (dat (k' + 1)))) ∧ (cs.map (·.1)).Sublist (kPl.take i) ∧ ∀ c ∈ cs, gd (k' + 1) true c.2)
          ⟨v8, [], [], rfl, hD3, Kp.refl _ _, hb3, .nil, by simp, fun c hc => (by cases hc)⟩ (fun i σ H' _ ⟨_, _, _, _, _, kq, _⟩ => SqL.of (kq W _ (add_no nWD (only_no nWx)) hWW)) ?_ ?_⟩
        · rintro i wv σ H' hi ⟨v8, cv, cs, rfl, hcv, kq, bq, hcs, hsub, hgd⟩
          rw [eW] at hi
          obtain ⟨wy, hwy, rfl⟩ := map_at hi
          have hil := lt_of_at hwy
          have hk6 : kPl.length = 6 := rfl
          have hp' := kq p _ (add_no (Ne.symm nDp) (only_no npx)) hpv3
          have ha' := kq a _ (add_no (fun e => by rw [e, hD3] at ha3; cases ha3) (only_no nax)) ha3
          have lvq : Live (add (add F p) D) H' := fun z hz => by
            by_cases e1 : z = D
            · rw [e1, hcv]; simp
            · by_cases e2 : z = x
              · rw [e2]; exact bq.live
              · intro hn
                cases hq : H3 z with
                | none => exact okD z hz hq
                | some o => rw [kq z _ (add_no e1 (only_no e2)) hq] at hn; cases hn
          refine ⟨_, rfl, add (add F p) D, x, 4, rfl, by decide, bq, add_of (add_of hF), fun n4 H4 hn4 k4 b4 => ?_⟩
          have hD4 := k4.at_ nDx hcv
          have hcs4 := hcs.kp (k4.toF (add_of (add_of hF)))
          have hsub' : (cs.map (·.1)).Sublist (kPl.take (i + 1)) := by
            rw [take_more hwy]
            exact hsub.trans (List.sublist_append_left _ _)
          have kq4 := kq.trans (k4.mono (G := add (only x) D) add_sub)
          refine ⟨rfl, _, rfl, ?_⟩
          by_cases h4 : n4 = 0
          · refine ite_t (decide_eq_true (by rw [h4]; rfl)) ?_
            have lv4 : Live (add (add F p) D) H4 := lvq.kp k4 b4.live
            have ha4 := k4.at_ nax ha'
            refine ⟨_, rfl, .inl ⟨rfl, _, SqL.of hD4⟩, _, rfl, _, rfl, _, rfl, _, _, rfl, rfl, _, rfl, add (add F p) D, x, a, true, rfl, by omega, b4, add_of (add_of hF), lv4, ha4, fun q qs m' H5 k5 b5' hq hq5 hqs hgm => ?_⟩
            have b5 := b5'.weak add_sub
            have f2q : add (add F p) D q = false := lv4.new hq
            have hqd : Dh K (add (add F p) D) H5 (.ref q) (dat (k' + 1) m') := msg_dh f2q hq5 hqs
            refine ⟨by show 2 ≤ sizeLine; decide, fun t ht => ?_⟩
            have st := same_new (o := HO.tup [kW wy, .ref q]) ht
            have hD5 := k5.at_ nDx hD4
            have kq5 := (kq4.trans (k5.mono (G := add (only x) D) add_sub)).trans (Kp.of st)
            have ft : add (add F p) D t = false := (lv4.kp k5 b5.live).new ht
            have lcs : cs.length ≤ 6 := by
              have := hsub.length_le
              rw [List.length_map, List.length_take] at this
              omega
            refine ⟨D, cv, _, rfl, rfl, st _ _ hD5, small_lt (by have := DpAll.len hcs; rw [List.length_map] at this; omega), _, cv ++ [.ref t], cs ++ [(wy, m')], rfl, upd_same, kq5.upd (add_self _ _), (b5.same st).mut (add_self _ _) nDx, ?_, ?_, fun c hc => ?_⟩
            · rw [List.map_append]
              refine DhA.updF (DpAll.snoc ((hcs4.kp (k5.toF (add_of (add_of hF)))).same st) ?_) (add_self _ _)
              exact .tup ((Av_get ft).trans upd_same) (.cons (dp_key.mpr rfl) (.cons (hqd.same st) .nil))
            · rw [List.map_append, take_more hwy]
              exact hsub.append (List.Sublist.refl _)
            · rcases List.mem_append.mp hc with h | h
              · exact hgd c h
              · rw [List.mem_singleton.mp h]; exact hgm
          · refine ite_f (decide_eq_false fun e => h4 (by have := V.int.inj e; omega)) ?_
            exact ⟨_, cv, cs, rfl, hD4, kq4, b4, hcs4, hsub', hgd⟩
        · rintro σ H' ⟨v8, cv, cs, rfl, hcv, kq, bq, hcs, hsub, hgd⟩
          have hp' := kq p _ (add_no (Ne.symm nDp) (only_no npx)) hpv3
          have ha' := kq a _ (add_no (fun e => by rw [e, hD3] at ha3; cases ha3) (only_no nax)) ha3
          have lvq : Live (add F p) H' := fun z hz => by
            by_cases e2 : z = x
            · rw [e2]; exact bq.live
            · intro hn
              cases hq : H3 z with
              | none => exact lv3 z hz hq
              | some o =>
                have e1 : z ≠ D := fun e => by rw [e, fD] at hz; cases hz
                rw [kq z _ (add_no e1 (only_no e2)) hq] at hn; cases hn
          have hvs2D : DhA K (add (add F p) D) H' vs (L.map (dNd (dat (k' + 1)))) := by
            refine DhA.kp hvsN (kq.mono fun z hz => ?_)
            by_cases e1 : z = D
            · rw [e1]; exact add_self _ _
            · have e2 : z = x := by
                have : add (only x) D z = true := hz
                simpa [add, e1, only] using this
              rw [e2]; exact add_of (add_of hF)
          have kpH : Kp (only x) H H' := fun z o hz ho => kq z o (add_no (ne_of_none ho hDH) hz) (kp3 z o hz ho)
          -- the name
          refine ⟨_, rfl, _, rfl, add F p, x, 900, rfl, by decide, bq.weak add_sub, add_of hF, fun n5 H5 hn5 k5 b5 => .inl ⟨_, rfl, _, rfl, a, _, rfl, .inl (SqL.of (k5.at_ nax ha')), _, _, rfl, rfl, by show (0 : Int) < 2; decide, ?_⟩⟩
          have ha5 := k5.at_ nax ha'
          obtain ⟨c, hc1, hc2⟩ : ∃ c : Nat, atI [V.str "m", .str "n"] ((n5 : Int) % 2) = some (.str (S [c])) ∧ ltr c := by
            rcases (by omega : (n5 : Int) % 2 = ((0 : Nat) : Int) ∨ (n5 : Int) % 2 = ((1 : Nat) : Int)) with e | e
            · exact ⟨109, by rw [e]; exact atI_nat (j := 0) rfl, by unfold ltr; omega⟩
            · exact ⟨110, by rw [e]; exact atI_nat (j := 1) rfl, by unfold ltr; omega⟩
          refine ⟨a, _, _, _, rfl, rfl, SqL.of ha5, hc1, ?_⟩
          have hp5 := k5.at_ npx hp'
          have hD5 := k5.at_ nDx hcv
          have hvs5 := hvs2D.kp (k5.toF (add_of (add_of hF)))
          have hcs5 := hcs.kp (k5.toF (add_of (add_of hF)))
          have lv5 := lvq.kp k5 b5.live
          have kp5 := kpH.trans k5
          -- the node
          refine ⟨_, rfl, .inl ⟨rfl, _, SqL.of hp5⟩, _, rfl, by show 4 ≤ sizeLine; decide, fun O hO => ?_⟩
          have sO := same_new (o := HO.lst [.int 0, .int 0, .int 1, .int 2]) hO
          have nOx : O ≠ x := fun e => by rw [e] at hO; exact b5.live hO
          have nOD : O ≠ D := fun e => by rw [e, hD5] at hO; cases hO
          refine ⟨_, rfl, add F p, x, 4, rfl, by decide, b5.same sO, add_of hF, fun n6 H6 hn6 k6 b6 => ?_⟩
          have hO6 := k6.at_ nOx upd_same
          obtain ⟨of, ho1, ho2⟩ : ∃ of : Nat, atI [V.int 0, .int 0, .int 1, .int 2] (n6 : Int) = some (.int (of : Int)) ∧ of ≤ 9 := by
            match n6, hn6 with
            | 0, _ => exact ⟨0, atI_nat (j := 0) rfl, by decide⟩
            | 1, _ => exact ⟨0, atI_nat (j := 1) rfl, by decide⟩
            | 2, _ => exact ⟨1, atI_nat (j := 2) rfl, by decide⟩
            | 3, _ => exact ⟨2, atI_nat (j := 3) rfl, by decide⟩
          refine ⟨O, _, _, _, rfl, rfl, SqL.of hO6, ho1, ?_⟩
          have hp6 := k6.at_ npx (sO _ _ hp5)
          have hD6 := k6.at_ nDx (sO _ _ hD5)
          have hvs6 := (hvs5.same sO).kp (k6.toF (add_of (add_of hF)))
          have hcs6 := (hcs5.same sO).kp (k6.toF (add_of (add_of hF)))
          have lv6 := (lv5.same sO).kp k6 b6.live
          have kp6 := (kp5.trans (Kp.of sO)).trans k6
          have ha6 := k6.at_ nax (sO _ _ ha5)
          refine ⟨_, rfl, _, rfl, _, rfl, _, _, rfl, rfl, _, rfl, add F p, x, a, true, rfl, by omega, b6, add_of hF, lv6, ha6, fun q qs m' H7 k7 b7' hq hq7 hqs hgm => ?_⟩
          have b7 := b7'.weak add_sub
          have f1q : add F p q = false := lv6.new hq
          have hqd : Dh K (add F p) H7 (.ref q) (dat (k' + 1) m') := msg_dh f1q hq7 hqs
          have hD7 := k7.at_ nDx hD6
          have hcd : Dh K (add F p) H7 (.ref D) (.list (cs.map (dCase (dat (k' + 1))))) := .lst ((Av_get fD).trans hD7) ((hcs6.kp (k7.toF (add_of (add_of hF)))).weak add_sub)
          have hp7 := k7.at_ npx hp6
          have hvs7 := (hvs6.kp (k7.toF (add_of (add_of hF)))).weak add_sub
          refine ⟨by show 5 ≤ sizeLine; decide, fun t ht => ?_⟩
          have st := same_new (o := HO.tup [.str "plural", .str (S [c]), .int (of : Int), .ref D, .ref q]) ht
          have ft : add F p t = false := (lv6.kp k7 b7.live).new ht
          refine ⟨p, vs, _, rfl, rfl, st _ _ hp7, small_lt (by omega), ?_⟩
          have hg := ch_gd (k := k') (i := ii) (pl := some of) (c0 := c) (cs := cs) (ot := m') (keys := kPl) hc2 (fun o h => by cases h; exact ho2) (by decide) (by decide) (fun y hy => by
            unfold kPl at hy
            simp only [List.mem_cons, List.not_mem_nil, or_false] at hy
            rcases hy with rfl | rfl | rfl | rfl | rfl | rfl
            · exact ⟨⟨rfl, by decide⟩, by decide⟩
            · exact ⟨⟨rfl, by decide⟩, by decide⟩
            · exact ⟨⟨rfl, by decide⟩, by decide⟩
            · exact ⟨⟨⟨by decide, by decide, by unfold ltr; decide⟩, by decide, fun h => by decide⟩, by decide⟩
            · exact ⟨⟨⟨by decide, by decide, by unfold ltr; decide⟩, by decide, fun h => by decide⟩, by decide⟩
            · exact ⟨⟨⟨by decide, by decide, by unfold ltr; decide⟩, by decide, fun h => by decide⟩, by decide⟩) (by
            have : kPl.take kPl.length = kPl := List.take_length
            exact hsub) (fun c hc => by rw [show (ii || (some of).isSome) = true by simp]; exact hgd c hc) (by rw [show (ii || (some of).isSome) = true by simp]; exact hgm)
          refine fin (.ch (some of) [c] cs m') t _ _ _ _ _ _ (st _ _ hp7) ((kp6.trans k7).trans (Kp.of st)) (b7.same st) (hvs7.same st) ?_ hg.1 hg.2
          exact .tup ((Av_get ft).trans upd_same) (.cons (.str _) (.cons (.str _) (.cons (.int _) (.cons (hcd.same st) (.cons (hqd.same st) .nil)))))
      case' c3 =>
        refine ite_f (decide_eq_false (by omega)) (iteF ?_)
        refine ⟨_, rfl, _, _, rfl, rfl, _, rfl, ?_⟩
        refine ite_f (decide_eq_false (by omega)) (iteF ?_)
      case' c4 =>
        refine ite_t (decide_eq_true (by omega)) ?_
        refine ⟨_, rfl, _, _, rfl, rfl, _, rfl, ?_⟩
        refine ite_f (decide_eq_false (by omega)) ?_
        refine ⟨_, rfl, _, _, rfl, rfl, _, rfl, ?_⟩
        refine ite_t (decide_eq_true (by omega)) ?_
        refine ⟨_, rfl, _, _, rfl, rfl, _, rfl, ?_⟩
        refine ite_f (decide_eq_false (by omega)) ?_
      all_goals
        refine ⟨_, rfl, rfl, _, rfl, ?_⟩
        by_cases hrest : kd = 5 ∧ ii = true
        · obtain ⟨h5, hi⟩ := hrest
          refine ite_t (decide_eq_true (by rw [h5]; rfl)) ?_
          refine ⟨_, rfl, _, rfl, ?_⟩
          refine ite_t hi ?_
          refine ⟨_, rfl, .inl ⟨rfl, _, SqL.of hpv2⟩, by show 1 ≤ sizeLine; decide, fun t ht => ?_⟩
          have st := same_new (o := HO.tup [.str "number"]) ht
          have ft : add F p t = false := lv2.new ht
          refine ⟨p, vs, _, rfl, rfl, st _ _ hpv2, small_lt (by omega), ?_⟩
          exact fin .num t _ _ _ _ _ _ (st _ _ hpv2) (kp2.trans (Kp.of st)) (hb2.same st) (hvs2.same st) (.tup ((Av_get ft).trans upd_same) (.cons (.str _) .nil)) hi (by show 1 ≤ _; omega)
        · refine and_f (b := ii) rfl ?_ ?_
          · have hc5 : decide (V.int (kd : Int) = V.int 5) = decide (kd = 5) := by
              by_cases e : kd = 5
              · rw [e]; rfl
              · rw [decide_eq_false e]
                exact decide_eq_false fun z => e (by have := V.int.inj z; omega)
            rw [hc5]
            cases ii with
            | true =>
              rw [Bool.and_true]
              exact decide_eq_false fun e => hrest ⟨e, rfl⟩
            | false => rw [Bool.and_false]
          refine ⟨_, rfl, rfl, _, rfl, ?_⟩
          by_cases h6 : kd = 6
          · refine ite_t (decide_eq_true (by rw [h6]; rfl)) ?_
            refine ⟨_, rfl, .inl ⟨rfl, _, SqL.of hpv2⟩, by show 3 ≤ sizeLine; decide, fun W hW => ?_⟩
            have sW := same_new (o := HO.lst [.str "n", .str "x", .str "w"]) hW
            have nWx : W ≠ x := fun e => by rw [e] at hW; exact hb2.live hW
            refine ⟨_, rfl, add F p, x, 3, rfl, by decide, hb2.same sW, add_of hF, fun n3 H3 hn3 k3 b3 => ?_⟩
            have hW3 := k3.at_ nWx upd_same
            obtain ⟨c, hc1, hc2⟩ : ∃ c : Nat, atI [V.str "n", .str "x", .str "w"] (n3 : Int) = some (.str (S [c])) ∧ ltr c := by
              match n3, hn3 with
              | 0, _ => exact ⟨110, atI_nat (j := 0) rfl, by unfold ltr; omega⟩
              | 1, _ => exact ⟨120, atI_nat (j := 1) rfl, by unfold ltr; omega⟩
              | 2, _ => exact ⟨119, atI_nat (j := 2) rfl, by unfold ltr; omega⟩
            refine ⟨W, _, _, _, rfl, rfl, SqL.of hW3, hc1, by show 2 ≤ sizeLine; decide, fun t ht => ?_⟩
            have st := same_new (o := HO.tup [.str "show", .str (S [c])]) ht
            have k4 := (Kp.of sW).trans k3
            have hpv3 := k3.at_ npx (sW _ _ hpv2)
            have ft : add F p t = false := (((lv2.same sW).kp k3 b3.live)).new ht
            refine ⟨p, vs, _, rfl, rfl, st _ _ hpv3, small_lt (by omega), ?_⟩
            exact fin (.shw [c]) t _ _ _ _ _ _ (st _ _ hpv3) ((kp2.trans k4).trans (Kp.of st)) (b3.same st) (((hvs2.same sW).kp (k3.toF (add_of hF))).same st) (.tup ((Av_get ft).trans upd_same) (.cons (.str _) (.cons (.str _) .nil))) ⟨by simp, by simp, fun c' hc' => by rw [List.mem_singleton.mp hc']; exact hc2⟩ (by show 3 ≤ _; omega)
          · refine ite_f (decide_eq_false fun e => h6 (by have := V.int.inj e; omega)) ?_
            refine ⟨_, rfl, .inl ⟨rfl, _, SqL.of hpv2⟩, by show 5 ≤ sizeLine; decide, fun W hW => ?_⟩
            have sW := same_new (o := HO.lst [.str "", .str "a", .str "b", .str "1", .str "2"]) hW
            have nWx : W ≠ x := fun e => by rw [e] at hW; exact hb2.live hW
            refine ⟨_, rfl, add F p, x, 5, rfl, by decide, hb2.same sW, add_of hF, fun n3 H3 hn3 k3 b3 => ?_⟩
            have hW3 := k3.at_ nWx upd_same
            obtain ⟨tx, hc1, hc2, hc3⟩ : ∃ tx : List Nat, atI [V.str "", .str "a", .str "b", .str "1", .str "2"] (n3 : Int) = some (.str (S tx)) ∧ (∀ c ∈ tx, chOk c) ∧ (tx.flatMap esc).length ≤ 1 := by
              match n3, hn3 with
              | 0, _ => exact ⟨[], atI_nat (j := 0) rfl, fun c hc => (by cases hc), by decide⟩
              | 1, _ => exact ⟨[97], atI_nat (j := 1) rfl, lit_ch (by decide), by decide⟩
              | 2, _ => exact ⟨[98], atI_nat (j := 2) rfl, lit_ch (by decide), by decide⟩
              | 3, _ => exact ⟨[49], atI_nat (j := 3) rfl, lit_ch (by decide), by decide⟩
              | 4, _ => exact ⟨[50], atI_nat (j := 4) rfl, lit_ch (by decide), by decide⟩
            refine ⟨W, _, _, _, rfl, rfl, SqL.of hW3, hc1, by show 2 ≤ sizeLine; decide, fun t ht => ?_⟩
            have st := same_new (o := HO.tup [.str "text", .str (S tx)]) ht
            have k4 := (Kp.of sW).trans k3
            have hpv3 := k3.at_ npx (sW _ _ hpv2)
            have ft : add F p t = false := (((lv2.same sW).kp k3 b3.live)).new ht
            refine ⟨p, vs, _, rfl, rfl, st _ _ hpv3, small_lt (by omega), ?_⟩
            exact fin (.text tx) t _ _ _ _ _ _ (st _ _ hpv3) ((kp2.trans k4).trans (Kp.of st)) (b3.same st) (((hvs2.same sW).kp (k3.toF (add_of hF))).same st) (.tup ((Av_get ft).trans upd_same) (.cons (.str _) (.cons (.str _) .nil))) hc2 (by show (tx.flatMap esc).length ≤ _; omega)
    · rintro σ H' ⟨v5, v6, v7, v8, v9, vs, L, rfl, hpv, hL, hvs, hok, hb', kp⟩
      exact ⟨_, rfl, kk p vs L H' kp hb' hp hpv hvs ⟨(by omega : L.length ≤ 2), hok⟩⟩
theorem ok_law_message (T : Tx K mg) : ∀ k : Nat, OkF P w K mg base d_law_message ["_law_box_here", "_law_depth", "_law_inside", "_law_numbers"] (k + 1) (spLMsg K k)
  | 0 => ok_law_message0 T
  | k + 1 => ok_law_message_step T (ok_law_message T k)
end
end Mw
/-! MwP -/
set_option Elab.async false
set_option linter.all false
set_option maxRecDepth 100000
set_option maxHeartbeats 4000000
namespace Mw
open PySem PySem.Spec PyProof.Rows L2
/-! ## the law's plain form and notation -/
theorem nd_okp {k : Nat} {i : Bool} {nd : Nd (Sub k)} (h : ndOk i (ok k) nd) : ndOk i (ok k) (nd.map (plain k)) := by
  cases nd with
  | ch pl name cs ot =>
    obtain ⟨g1, g2, g3, g4, g5, g6⟩ := h
    refine ⟨g1, g2, by simpa using g3, by simpa [List.map_map, Function.comp_def] using g4, fun c hc => ?_, okp _ _ _ g6⟩
    obtain ⟨c0, hc0, rfl⟩ := List.mem_map.mp hc
    exact ⟨(g5 c0 hc0).1, okp _ _ _ (g5 c0 hc0).2⟩
  | _ => exact h
theorem tag_sel {α : Type} {nd : Nd α} (h : tagOf nd = "select") : ∃ name cs ot, nd = .ch none name cs ot := by
  cases nd with
  | text t => exact absurd h (show ¬ ("text" : Str) = "select" by decide +kernel)
  | shw t => exact absurd h (show ¬ ("show" : Str) = "select" by decide +kernel)
  | num => exact absurd h (show ¬ ("number" : Str) = "select" by decide +kernel)
  | ch pl name cs ot =>
    cases pl with
    | none => exact ⟨name, cs, ot, rfl⟩
    | some o => exact absurd h (show ¬ ("plural" : Str) = "select" by decide +kernel)
theorem tag_plu {α : Type} {nd : Nd α} (h : tagOf nd = "plural") : ∃ o name cs ot, nd = .ch (some o) name cs ot := by
  cases nd with
  | text t => exact absurd h (show ¬ ("text" : Str) = "plural" by decide +kernel)
  | shw t => exact absurd h (show ¬ ("show" : Str) = "plural" by decide +kernel)
  | num => exact absurd h (show ¬ ("number" : Str) = "plural" by decide +kernel)
  | ch pl name cs ot =>
    cases pl with
    | none => exact absurd h (show ¬ ("select" : Str) = "plural" by decide +kernel)
    | some o => exact ⟨o, name, cs, ot, rfl⟩
def selP {k : Nat} : Nd (Sub k) → Nd (Sub k)
  | .ch (some o) name cs ot => .ch (some o) name cs ot
  | nd => nd.map (plain k)
section
variable {P : Program} {w : World} {K : PySem.W.Frag} {mg : Str → Option Value} {base : Heap}
theorem sc_law_plain : FnScope ["_law_message_here", "_law_found", "_law_node_here", "_law_key", "_law_inner"] ["_law_message_here"] (defScope s_law_plain) := ⟨rfl, rfl, rfl, by decide +kernel, rfl, by decide +kernel, by decide +kernel⟩
theorem ok_law_plain0 (T : Tx K mg) : OkF P w K mg base d_law_plain ["_law_message_here"] 1 (spPlain K 0) := by
  refine (okF T 50 (d := d_law_plain) rfl sc_law_plain (fun _ _ _ _ _ _ us hl => match us, hl with | [_], _ => rfl) ⟨rfl, rfl⟩ (fun vs H Q E h => ?_) (fun cdv A outer s H vs Q E hr h => ?_))
  · obtain ⟨_, _, m, _⟩ := h; exact nomatch m
  · obtain ⟨_, _, m, _⟩ := h; exact nomatch m
theorem ok_law_plain_step (T : Tx K mg) {n : Nat} (hn : n ≤ 10) (o_law_plain : OkF P w K mg base d_law_plain ["_law_message_here"] (n + 1) (spPlain K n)) : OkF P w K mg base d_law_plain ["_law_message_here"] (n + 2) (spPlain K (n + 1)) := by
  refine (okF T 50 (d := d_law_plain) rfl sc_law_plain (fun _ _ _ _ _ _ us hl => match us, hl with | [_], _ => rfl) ⟨rfl, rfl⟩ (fun vs H Q E h => ?_) (fun cdv A outer s H vs Q E hr h => ?_))
  · obtain ⟨F, a, m, i, rfl, _⟩ := h; rfl
  · obtain ⟨F, a, m, ib, rfl, hd, hl, ⟨hk1, hk⟩, hz, k⟩ := h
    refine ⟨_, (pss_cons (ps_set (i := 1) sc_law_plain.nd rfl (Or.inl rfl) (pe_lst pa_nil))
  (pss_cons (ps_for PassesOwn.never rfl (pi_list (pv 0)) (pg_name (i := 2) sc_law_plain.nd rfl (Or.inl rfl))
  (Evl.pss_cut (ps_if (pt_cmpR op_eq (pe_ix ix_tup (pv 2) pe_int (fun _ _ => rfl)) pe_str (nomark _))
  (pss_one (ps_set (i := 2) sc_law_plain.nd rfl (Or.inl rfl) (pe_tup (pa_cons pe_str (pa_cons (pe_ix ix_tup (pv 2) pe_int (fun _ _ => rfl)) (pa_cons (pe_lc (own := [("_law_key", 3), ("_law_inner", 4)]) (g := gTup K 2 (gCons (gName 3) (gCons (gName 4) gNil))) (tt := tYes) rfl sc_law_plain.nd (pi_list (pe_ix ix_tup (pv 2) pe_int (fun _ _ => rfl))) (blkOk_by (N := ["_law_message_here", "_law_found", "_law_node_here", "_law_key", "_law_inner"]) (sc := defScope s_law_plain) (by decide +kernel)) (fun _ _ _ _ _ => (pg_tup rfl (pgs_cons (pg_name (i := 3) sc_law_plain.nd rfl (Or.inl rfl)) (pgs_cons (pg_name (i := 4) sc_law_plain.nd rfl (Or.inl rfl)) pgs_nil)))) (fun _ _ _ _ _ => pts_nil) (fun _ _ _ _ _ => (pe_tup (pa_cons (pv 3) (pa_cons (cg o_law_plain T.g__law_plain (hr.mono (by omega)) (pa_cons (pv 4) pa_nil)) pa_nil))))) (pa_cons (cg o_law_plain T.g__law_plain (hr.mono (by omega)) (pa_cons (pe_ix ix_tup (pv 2) pe_int (fun _ _ => rfl)) pa_nil)) pa_nil)))))))
  pss_nil)
  (Evl.pss_cut (ps_if (pt_cmpR op_eq (pe_ix ix_tup (pv 2) pe_int (fun _ _ => rfl)) pe_str (nomark _))
  (pss_one (ps_set (i := 2) sc_law_plain.nd rfl (Or.inl rfl) (pe_tup (pa_cons pe_str (pa_cons (pe_ix ix_tup (pv 2) pe_int (fun _ _ => rfl)) (pa_cons (pe_ix ix_tup (pv 2) pe_int (fun _ _ => rfl)) (pa_cons (pe_lc (own := [("_law_key", 3), ("_law_inner", 4)]) (g := gTup K 2 (gCons (gName 3) (gCons (gName 4) gNil))) (tt := tYes) rfl sc_law_plain.nd (pi_list (pe_ix ix_tup (pv 2) pe_int (fun _ _ => rfl))) (blkOk_by (N := ["_law_message_here", "_law_found", "_law_node_here", "_law_key", "_law_inner"]) (sc := defScope s_law_plain) (by decide +kernel)) (fun _ _ _ _ _ => (pg_tup rfl (pgs_cons (pg_name (i := 3) sc_law_plain.nd rfl (Or.inl rfl)) (pgs_cons (pg_name (i := 4) sc_law_plain.nd rfl (Or.inl rfl)) pgs_nil)))) (fun _ _ _ _ _ => pts_nil) (fun _ _ _ _ _ => (pe_tup (pa_cons (pv 3) (pa_cons (cg o_law_plain T.g__law_plain (hr.mono (by omega)) (pa_cons (pv 4) pa_nil)) pa_nil))))) (pa_cons (cg o_law_plain T.g__law_plain (hr.mono (by omega)) (pa_cons (pe_ix ix_tup (pv 2) pe_int (fun _ _ => rfl)) pa_nil)) pa_nil))))))))
  pss_nil)
  (pss_one (ps_if (PW.pt (pw_and (pt_cmpR op_eq (pe_ix ix_tup (pv 2) pe_int (fun _ _ => rfl)) pe_str (nomark _)) (pw_and (pt_cmpR op_gt (pe_callB call_len_seq (by rfl) T.z_len (by decide +kernel) (pa_cons (pv 1) pa_nil)) pe_int (nomark _)) (pw_and1 (pt_cmpR op_eq (pe_ix ix_tup (pe_ix ix_list (pv 1) (pe_un un_neg pe_int) (fun _ _ => rfl)) pe_int (fun _ _ => rfl)) pe_str (nomark _))))))
  (pss_one (ps_asg (pe_tup (pa_cons pe_str (pa_cons (pe_op op_add_str (pe_ix ix_tup (pe_ix ix_list (pv 1) (pe_un un_neg pe_int) (fun _ _ => rfl)) pe_int (fun _ _ => rfl)) (pe_ix ix_tup (pv 2) pe_int (fun _ _ => rfl))) pa_nil))) (pg_sub (pv 1) (pe_un un_neg pe_int) set_list)))
  (pss_one (ps_if (pt_cmpR (op_neD hr.units) (pv 2) (pe_tup (pa_cons pe_str (pa_cons pe_str pa_nil))) (nomark _))
  (pss_one (ps_expr (pe_bm PySem.F.plainAttrs_list PySem.F.slot_list_append PySem.F.type_list_append mt_append (pv 1) (pa_cons (pv 2) pa_nil))))
  pss_nil)))))))
  (pss_one (ps_ret (pv 1))))), ?_⟩
    obtain ⟨a', ms, e, hS, hm⟩ := Dp.lstInv hd
    cases e
    have hS' : SqL K H a ms := Same.seq (Av_same F H) hS
    have nm : ms.length = m.length := by rw [DpAll.len hm, List.length_map]
    refine ⟨Nat.zero_le _, fun p hp => ?_⟩
    refine ⟨_, rfl, a, rfl, ⟨_, (same_new hp _).seq hS'⟩, for_list (K := K) (a := a) (xs := ms) (fun i σ H' => ∃ (vs : List V) (v v3 v4 : Option V), σ = [some (.ref a), some (.ref p), v, none, none] ∧ H' p = some (.lst vs) ∧ Same H H' ∧
        DhA K (add F p) H' vs ((((m.take i).map (Nd.map (plain n))).foldl stp []).map (dNd (dat n))))
      ⟨[], none, none, none, rfl, upd_same, same_new hp _, .nil⟩ (fun i σ H' _ ⟨_, _, _, _, _, _, s2, _⟩ => s2.seq hS') ?_ ?_⟩
    · rintro i x σ H' hi ⟨vs, v, v3, v4, rfl, hpv, s2, hvs⟩
      obtain ⟨d0, hd1, hd2⟩ := DpAll.at_ hm hi
      obtain ⟨nd, hnd, rfl⟩ := map_at hd1
      have hmem : nd ∈ m := List.mem_of_getElem? hnd
      have e : ((m.take (i + 1)).map (Nd.map (plain n))).foldl stp [] = stp (((m.take i).map (Nd.map (plain n))).foldl stp []) (nd.map (plain n)) := by
        rw [take_more hnd, List.map_append, List.foldl_append]
        rfl
      have il : i < m.length := lt_of_at hnd
      have h5000 : (m : List (Nd (Sub n))).length ≤ 5000 := hk1
      have zL : (((m.take i).map (Nd.map (plain n))).foldl stp []).length ≤ 5000 := by
        have := fold_len ((m.take i).map (Nd.map (plain n))) []
        simp only [List.length_map, List.length_nil, List.length_take] at this
        omega
      have zT : ∀ u, Nd.text u ∈ ((m.take i).map (Nd.map (plain n))).foldl stp [] → u.length ≤ 4000 := fun u hu => by
        have h1 : (fNd (fmt n) (.text u)).length ≤ ((((m.take i).map (Nd.map (plain n))).foldl stp []).flatMap (fNd (fmt n))).length := fmt_nd_le hu
        rw [fmt_fold, List.flatMap_nil, List.nil_append, List.flatMap_map] at h1
        have h2 : ((m.take i).flatMap fun x => fNd (fmt n) (x.map (plain n))).length ≤ (fmt (n + 1) m).length := by
          have e2 : ((m.take i).flatMap fun x => fNd (fmt n) (x.map (plain n))) = (m.take i).flatMap (fNd (fmt n)) := by
            congr 1
            funext x
            rw [fNd_map]
            exact fNd_congr (fmt_plain n) x
          rw [e2, fmt_eq]
          conv => rhs; rw [← List.take_append_drop i m, List.flatMap_append, List.length_append]
          omega
        have h3 := len_fmt_text u
        have h4 : (fNd (fmt n) (.text u)).length = (u.flatMap esc).length := rfl
        omega
      generalize hL : ((m.take i).map (Nd.map (plain n))).foldl stp [] = L at *
      rw [e]
      have lvs : vs.length = L.length := by rw [DpAll.len hvs, List.length_map]
      have lv : Live (add F p) H' := (hl.same s2).add (by rw [hpv]; simp)
      have hx2 : Dh K (add F p) H' x (dNd (dat n) nd) := Dh.same (Dh.new hd2 hp) s2
      have hkn := hk nd hmem
      have hzn : (fNd (fmt n) nd).length ≤ 4000 := Nat.le_trans (fmt_nd_le hmem) hz
      -- the two choices
      refine ⟨fun σ H2 => ∃ r, σ = [some (.ref a), some (.ref p), some (.ref r), none, none] ∧ Same H' H2 ∧ Dh K (add F p) H2 (.ref r) (dNd (dat n) (selP nd)), ?_, ?_⟩
      · obtain ⟨xa, xs, rfl, hxs⟩ := dp_node hx2
        have hxs' : SqT K H' xa (.str (tagOf nd) :: xs) := Same.seqT (Av_same (add F p) H') hxs
        refine ⟨_, rfl, xa, _, _, _, rfl, rfl, hxs', atI_nat (j := 0) rfl, rfl, _, rfl, ?_⟩
        by_cases hsel : ∃ name cs ot, nd = .ch none name cs ot
        · obtain ⟨name, cs, ot, rfl⟩ := hsel
          refine ite_t (decide_eq_true rfl) ?_
          obtain ⟨xa', c, q, e', hxt, hc, hq⟩ := dp_sel hx2
          cases e'
          have hxt' : SqT K H' xa [.str "select", .str (S name), c, q] := Same.seqT (Av_same (add F p) H') hxt
          obtain ⟨g1, g2, g3, g4, g5, g6⟩ := hkn
          refine ⟨_, rfl, xa, _, _, _, rfl, rfl, hxt', atI_nat (j := 1) rfl, ?_⟩
          obtain ⟨ca, cvs, rfl, hcs, hca⟩ := Dp.lstInv hc
          have hcs' : SqL K H' ca cvs := Same.seq ((Av_same (add F p) H').trans (Same.refl H')) hcs
          have ncv : cvs.length = cs.length := by rw [DpAll.len hca, List.length_map]
          refine ⟨_, rfl, xa, _, _, _, rfl, rfl, hxt', atI_nat (j := 2) rfl, ca, rfl, ⟨_, hcs'⟩, fun D hD => ?_⟩
          have hca0 : DhA K (add F p) H' cvs (cs.map (dCase (dat n))) := DhA.same (show DhA K (add F p) H' cvs _ from hca) (Same.refl H')
          have hl0 : Live (add F p) H' := lv.same (Same.refl H')
          have fD : add F p D = false := hl0.new hD
          refine lc_list (K := K) (a := ca) (xs := cvs) (fun i H2 => ∃ ws, H2 D = some (.lst ws) ∧ Same H' H2 ∧ DhA K (add (add F p) D) H2 ws (((cs.take i).map fun x => (x.1, plain n x.2)).map (dCase (dat n))))
            ⟨[], upd_same, same_new hD _, .nil⟩ (fun i H2 _ ⟨_, _, s3, _⟩ => s3.seq hcs') ?_ ?_
          · rintro i2 x2 H2 hi2 ⟨ws, hDv, s3, hws⟩
            obtain ⟨d2, hd3, hd4⟩ := DpAll.at_ hca0 hi2
            obtain ⟨ci, hci, rfl⟩ := map_at hd3
            obtain ⟨t, q0, rfl, hts, hq0⟩ := dp_case hd4
            obtain ⟨qa, rfl⟩ := dat_ref hq0
            have hmem2 : ci ∈ cs := List.mem_of_getElem? hci
            have il2 : i2 < cs.length := lt_of_at hci
            refine ⟨t, _, rfl, s3.seqT (Same.seqT (Av_same (add F p) H') hts), rfl, _, _, rfl, _, _, rfl, rfl, rfl, ?_⟩
            refine yes_t ?_
            have lv3 : Live (add (add F p) D) H2 := (hl0.same s3).add (by rw [hDv]; simp)
            refine ⟨_, rfl, _, rfl, add (add F p) D, qa, ci.2, _, rfl, ((show Dh K (add F p) H' (.ref qa) (dat n ci.2) from hq0).new hD).same s3, lv3, (g5 ci hmem2).2, Nat.le_trans (fmt_case_le hmem2) hzn, fun r H3 s4 hr2 => ?_⟩
            refine ⟨by show 2 ≤ sizeLine; decide, fun p3 hp3 => ?_⟩
            have hD2 : H3 D = some (.lst ws) := s4 _ _ hDv
            have nDp : D ≠ p3 := ne_of_none hD2 hp3
            have fp2 : add (add F p) D p3 = false := (lv3.same s4).new hp3
            refine ⟨ws, by rw [upd_ne nDp]; exact hD2, small_lt (by have := DpAll.len hws; simp only [List.length_map, List.length_take] at this; omega), _, upd_same, same_mut ((s3.trans s4).trans (same_new hp3 _)) hD, ?_⟩
            refine DhA.updF ?_ (add_self _ _)
            have e : ((cs.take (i2 + 1)).map fun x => (x.1, plain n x.2)).map (dCase (dat n)) = ((cs.take i2).map fun x => (x.1, plain n x.2)).map (dCase (dat n)) ++ [dCase (dat n) (ci.1, plain n ci.2)] := by
              rw [take_more hci, List.map_append, List.map_append]
              rfl
            rw [e]
            refine DpAll.snoc ((hws.same s4).same (same_new hp3 _)) ?_
            exact .tup ((Av_get fp2).trans upd_same) (.cons (dp_key.mpr rfl) (.cons (hr2.same (same_new hp3 _)) .nil))
          · rintro H2 ⟨ws, hDv, s3, hws⟩
            rw [ncv, List.take_length] at hws
            have s3' : Same H' H2 := (Same.refl H').trans s3
            obtain ⟨qa, rfl⟩ := dat_ref hq
            refine ⟨_, rfl, _, _, _, _, rfl, rfl, s3'.seqT hxt', atI_nat (j := 3) rfl, add F p, qa, ot, _, rfl, (show Dh K (add F p) H' (.ref qa) (dat n ot) from hq).same s3', lv.same s3', g6, Nat.le_trans fmt_ot_le hzn, fun r H3 s4 hr2 => ?_⟩
            refine ⟨small_le (show 4 ≤ 100000 by decide), fun t ht => ?_⟩
            have st := same_new (o := HO.tup [.str "select", .str (S name), .ref D, .ref r]) ht
            have ft : add F p t = false := ((lv.same s3').same s4).new ht
            refine ⟨t, rfl, (s3'.trans s4).trans st, ?_⟩
            have dD : Dh K (add F p) H3 (.ref D) (.list ((cs.map fun x => (x.1, plain n x.2)).map (dCase (dat n)))) := .lst ((Av_get fD).trans (s4 _ _ hDv)) ((hws.same s4).weak add_sub)
            exact .tup ((Av_get ft).trans upd_same) (.cons (.str _) (.cons (.str _) (.cons (dD.same st) (.cons (hr2.same st) .nil))))
        · refine ite_f ?_ ?_
          · exact decide_eq_false fun e => hsel (tag_sel (V.str.inj e))
          · refine ⟨xa, rfl, Same.refl _, ?_⟩
            have : selP nd = nd := by
              cases nd with
              | ch pl name cs ot =>
                cases pl with
                | none => exact absurd ⟨name, cs, ot, rfl⟩ hsel
                | some o => rfl
              | _ => rfl
            rw [this]
            exact hx2
      · rintro σ H1 ⟨r1, rfl, s12, hr1⟩
        have s3 := s2.trans s12
        have hpv1 := s12 _ _ hpv
        have hvs1 := hvs.same s12
        have lv1 := lv.same s12
        refine ⟨fun σ H2 => ∃ r, σ = [some (.ref a), some (.ref p), some (.ref r), none, none] ∧ Same H1 H2 ∧ Dh K (add F p) H2 (.ref r) (dNd (dat n) (nd.map (plain n))), ?_, ?_⟩
        · obtain ⟨xa, xs, e1, hxs⟩ := dp_node hr1
          cases e1
          have hxs' := Same.seqT (Av_same (add F p) H1) hxs
          refine ⟨_, rfl, r1, _, _, _, rfl, rfl, hxs', atI_nat (j := 0) rfl, rfl, _, rfl, ?_⟩
          by_cases hplu : ∃ o name cs ot, nd = .ch (some o) name cs ot
          · obtain ⟨o, name, cs, ot, rfl⟩ := hplu
            refine ite_t (decide_eq_true rfl) ?_
            have hr1' : Dh K (add F p) H1 (.ref r1) (dNd (dat n) (.ch (some o) name cs ot)) := hr1
            obtain ⟨xa, c, q, e', hxt, hc, hq⟩ := dp_plu hr1'
            cases e'
            have hxt' : SqT K H1 r1 [.str "plural", .str (S name), .int (o : Int), c, q] := Same.seqT (Av_same (add F p) H1) hxt
            obtain ⟨g1, g2, g3, g4, g5, g6⟩ := hkn
            refine ⟨_, rfl, r1, _, _, _, rfl, rfl, hxt', atI_nat (j := 1) rfl, _, rfl, r1, _, _, _, rfl, rfl, hxt', atI_nat (j := 2) rfl, ?_⟩
            obtain ⟨ca, cvs, rfl, hcs, hca⟩ := Dp.lstInv hc
            have hcs' : SqL K H1 ca cvs := Same.seq ((Av_same (add F p) H1).trans (Same.refl H1)) hcs
            have ncv : cvs.length = cs.length := by rw [DpAll.len hca, List.length_map]
            refine ⟨_, rfl, r1, _, _, _, rfl, rfl, hxt', atI_nat (j := 3) rfl, ca, rfl, ⟨_, hcs'⟩, fun D hD => ?_⟩
            have hca0 : DhA K (add F p) H1 cvs (cs.map (dCase (dat n))) := DhA.same (show DhA K (add F p) H1 cvs _ from hca) (Same.refl H1)
            have hl0 : Live (add F p) H1 := lv1.same (Same.refl H1)
            have fD : add F p D = false := hl0.new hD
            refine lc_list (K := K) (a := ca) (xs := cvs) (fun i H2 => ∃ ws, H2 D = some (.lst ws) ∧ Same H1 H2 ∧ DhA K (add (add F p) D) H2 ws (((cs.take i).map fun x => (x.1, plain n x.2)).map (dCase (dat n))))
              ⟨[], upd_same, same_new hD _, .nil⟩ (fun i H2 _ ⟨_, _, s3, _⟩ => s3.seq hcs') ?_ ?_
            · rintro i2 x2 H2 hi2 ⟨ws, hDv, s3, hws⟩
              obtain ⟨d2, hd3, hd4⟩ := DpAll.at_ hca0 hi2
              obtain ⟨ci, hci, rfl⟩ := map_at hd3
              obtain ⟨t, q0, rfl, hts, hq0⟩ := dp_case hd4
              obtain ⟨qa, rfl⟩ := dat_ref hq0
              have hmem2 : ci ∈ cs := List.mem_of_getElem? hci
              have il2 : i2 < cs.length := lt_of_at hci
              refine ⟨t, _, rfl, s3.seqT (Same.seqT (Av_same (add F p) H1) hts), rfl, _, _, rfl, _, _, rfl, rfl, rfl, ?_⟩
              refine yes_t ?_
              have lv3 : Live (add (add F p) D) H2 := (hl0.same s3).add (by rw [hDv]; simp)
              refine ⟨_, rfl, _, rfl, add (add F p) D, qa, ci.2, _, rfl, ((show Dh K (add F p) H1 (.ref qa) (dat n ci.2) from hq0).new hD).same s3, lv3, (g5 ci hmem2).2, Nat.le_trans (fmt_case_le hmem2) hzn, fun r H3 s4 hr2 => ?_⟩
              refine ⟨by show 2 ≤ sizeLine; decide, fun p3 hp3 => ?_⟩
              have hD2 : H3 D = some (.lst ws) := s4 _ _ hDv
              have nDp : D ≠ p3 := ne_of_none hD2 hp3
              have fp2 : add (add F p) D p3 = false := (lv3.same s4).new hp3
              refine ⟨ws, by rw [upd_ne nDp]; exact hD2, small_lt (by have := DpAll.len hws; simp only [List.length_map, List.length_take] at this; omega), _, upd_same, same_mut ((s3.trans s4).trans (same_new hp3 _)) hD, ?_⟩
              refine DhA.updF ?_ (add_self _ _)
              have e : ((cs.take (i2 + 1)).map fun x => (x.1, plain n x.2)).map (dCase (dat n)) = ((cs.take i2).map fun x => (x.1, plain n x.2)).map (dCase (dat n)) ++ [dCase (dat n) (ci.1, plain n ci.2)] := by
                rw [take_more hci, List.map_append, List.map_append]
                rfl
              rw [e]
              refine DpAll.snoc ((hws.same s4).same (same_new hp3 _)) ?_
              exact .tup ((Av_get fp2).trans upd_same) (.cons (dp_key.mpr rfl) (.cons (hr2.same (same_new hp3 _)) .nil))
            · rintro H2 ⟨ws, hDv, s3, hws⟩
              rw [ncv, List.take_length] at hws
              have s3' : Same H1 H2 := (Same.refl H1).trans s3
              obtain ⟨qa, rfl⟩ := dat_ref hq
              refine ⟨_, rfl, _, _, _, _, rfl, rfl, s3'.seqT hxt', atI_nat (j := 4) rfl, add F p, qa, ot, _, rfl, (show Dh K (add F p) H1 (.ref qa) (dat n ot) from hq).same s3', lv1.same s3', g6, Nat.le_trans fmt_ot_le hzn, fun r H3 s4 hr2 => ?_⟩
              refine ⟨small_le (show 5 ≤ 100000 by decide), fun t ht => ?_⟩
              have st := same_new (o := HO.tup [.str "plural", .str (S name), .int (o : Int), .ref D, .ref r]) ht
              have ft : add F p t = false := ((lv1.same s3').same s4).new ht
              refine ⟨t, rfl, (s3'.trans s4).trans st, ?_⟩
              have dD : Dh K (add F p) H3 (.ref D) (.list ((cs.map fun x => (x.1, plain n x.2)).map (dCase (dat n)))) := .lst ((Av_get fD).trans (s4 _ _ hDv)) ((hws.same s4).weak add_sub)
              exact .tup ((Av_get ft).trans upd_same) (.cons (.str _) (.cons (.str _) (.cons (.int _) (.cons (dD.same st) (.cons (hr2.same st) .nil)))))
          · refine ite_f ?_ ?_
            · refine decide_eq_false fun e => ?_
              obtain ⟨o, name, cs, ot, e2⟩ := tag_plu (V.str.inj e)
              cases nd with
              | ch pl nm c t =>
                cases pl with
                | none => cases e2
                | some o' => exact hplu ⟨_, _, _, _, rfl⟩
              | text t => cases e2
              | shw t => cases e2
              | num => cases e2
            · refine ⟨r1, rfl, Same.refl _, ?_⟩
              have : nd.map (plain n) = selP nd := by
                cases nd with
                | ch pl name cs ot =>
                  cases pl with
                  | none => rfl
                  | some o => exact absurd ⟨o, name, cs, ot, rfl⟩ hplu
                | _ => rfl
              rw [this]
              exact hr1
        · rintro σ H2 ⟨xa, rfl, s23, hr2⟩
          have s4 := s3.trans s23
          have hpv2 := s23 _ _ hpv1
          have hvs2 := hvs1.same s23
          have lv2 := lv1.same s23
          have hkp := nd_okp hkn
          have hnp : ∀ t, nd.map (plain n) = .text t → t.length ≤ 4000 := fun t ht => by
            have h1 : (fNd (fmt n) (nd.map (plain n))).length ≤ 4000 := by rw [fNd_map, fNd_congr (fmt_plain n)]; exact hzn
            rw [ht] at h1
            have h3 := len_fmt_text t
            have h4 : (fNd (fmt n) (.text t)).length = (t.flatMap esc).length := rfl
            omega
          generalize nd.map (plain n) = nd' at *
          obtain ⟨xa', xs, e1, hxs⟩ := dp_node hr2
          cases e1
          have hxs' := Same.seqT (Av_same (add F p) H2) hxs
          -- the second branch
          have elif : ∀ (D : Ends) (u : TS), (nd' = .text [] → ∀ H3, Same H2 H3 → D.nx [some (.ref a), some (.ref p), some (.ref xa), none, none] H3) → (nd' ≠ .text [] → ∀ H3, Same H2 H3 → D.nx [some (.ref a), some (.ref p), some (.ref xa), none, none] (upd H3 p (.lst (vs ++ [.ref xa])))) →
              tIfS (tTest (tOp (rNeD K) (tVar 2) (tTup (tCons (tC (.str "text")) (tCons (tC (.str "")) tNil))))) (tDrop (tBM K "list" rAppend (tVar 1) (tCons (tVar 2) tNil))) tNext D [some (.ref a), some (.ref p), some (.ref xa), none, none] H2 := by
            intro D u h1 h2
            refine ⟨_, rfl, by show 2 ≤ sizeLine; decide, fun p2 hp2 => ?_⟩
            have s5 : Same H2 (upd H2 p2 (.tup [.str "text", .str ""])) := same_new hp2 _
            refine ⟨_, .tuple [.str "text", .str ""], (Dh.same hr2 s5).out |> Dp.to _ _, .tup (.inl (.inl upd_same)) (.cons (.str _) (.cons (.str _) .nil)), nd_shaped hn hkp, by decide +kernel, _, rfl, ?_⟩
            by_cases hc : nd' = .text []
            · subst hc
              refine ite_f (by show (!PyData.eqvAll [.str "text", .str (S [])] [.str "text", .str ""]) = false; decide +kernel) ?_
              exact h1 rfl _ s5
            · refine ite_t ?_ ?_
              · have : PyData.eqv (dNd (dat n) nd') (.tuple [.str "text", .str ""]) = false := by
                  cases nd' with
                  | text t =>
                    show PyData.eqvAll [.str "text", .str (S t)] [.str "text", .str ""] = false
                    have ht : t ≠ [] := fun e => hc (by rw [e])
                    have hq : (S t == ("" : Str)) = false := by
                      cases q : (S t == ("" : Str)) with
                      | false => rfl
                      | true =>
                        have e : S t = S [] := eq_of_beq q
                        exact absurd (S_inj e) ht
                    simp only [PyData.eqvAll, PyData.eqv, hq, Bool.false_and, Bool.and_false]
                  | shw t => exact eqv_first (by decide +kernel)
                  | num => exact eqv_first (by decide +kernel)
                  | ch pl name cs ot =>
                    cases pl with
                    | none => exact eqv_first (by decide +kernel)
                    | some o => exact eqv_first (by decide +kernel)
                rw [this]; rfl
              · have hp3 := s5 _ _ hpv2
                exact ⟨_, rfl, .inl ⟨rfl, _, SqL.of hp3⟩, _, rfl, p, vs, _, rfl, rfl, hp3, small_lt (by omega), h2 hc _ s5⟩
          have fin : ∀ (vs' : List V) (H3 : Hp), H3 p = some (.lst vs') → Same H H3 → DhA K (add F p) H3 vs' ((stp L nd').map (dNd (dat n))) →
              ∃ (vs : List V) (v v3 v4 : Option V), [some (.ref a), some (.ref p), some (V.ref xa), none, none] = [some (V.ref a), some (V.ref p), v, none, none] ∧ H3 p = some (.lst vs) ∧ Same H H3 ∧ DhA K (add F p) H3 vs ((stp L nd').map (dNd (dat n))) := fun vs' H3 h1 h2 h3 => ⟨vs', _, none, none, rfl, h1, h2, h3⟩
          have fin1 : nd' = .text [] → ∀ H3, Same H2 H3 → ∃ (vs : List V) (v v3 v4 : Option V), [some (.ref a), some (.ref p), some (V.ref xa), none, none] = [some (V.ref a), some (V.ref p), v, none, none] ∧ H3 p = some (.lst vs) ∧ Same H H3 ∧ DhA K (add F p) H3 vs ((stp L nd').map (dNd (dat n))) := fun e1 H3 s5 =>
            fin vs H3 (s5 _ _ hpv2) (s4.trans s5) (by rw [e1, stp_nil]; exact hvs2.same s5)
          have fin2 : stp L nd' = L ++ [nd'] → ∀ H3, Same H2 H3 → ∃ (vs' : List V) (v v3 v4 : Option V), [some (.ref a), some (.ref p), some (V.ref xa), none, none] = [some (V.ref a), some (V.ref p), v, none, none] ∧ (upd H3 p (.lst (vs ++ [.ref xa]))) p = some (.lst vs') ∧ Same H (upd H3 p (.lst (vs ++ [.ref xa]))) ∧ DhA K (add F p) (upd H3 p (.lst (vs ++ [.ref xa]))) vs' ((stp L nd').map (dNd (dat n))) := fun e2 H3 s5 =>
            fin _ _ upd_same (same_mut (s4.trans s5) hp) (by rw [e2, List.map_append]; exact DhA.updF (DpAll.snoc (hvs2.same s5) (hr2.same s5)) (add_self _ _))
          refine ⟨_, rfl, xa, _, _, _, rfl, rfl, hxs', atI_nat (j := 0) rfl, rfl, _, rfl, ?_⟩
          by_cases hT : ∃ t, nd' = .text t
          · obtain ⟨t, rfl⟩ := hT
            refine ite_t (decide_eq_true rfl) ?_
            refine ⟨_, rfl, p, _, rfl, .inl (SqL.of hpv2), _, _, rfl, rfl, _, rfl, ?_⟩
            obtain ⟨xa', e', hxt⟩ := dp_text hr2
            cases e'
            have hxt' : SqT K H2 xa [.str "text", .str (S t)] := Same.seqT (Av_same (add F p) H2) hxt
            have ht : t.length ≤ 4000 := hnp t rfl
            rcases hlast : L.getLast? with _ | y
            · have e0 : L = [] := List.getLast?_eq_none_iff.mp hlast
              have e1 : vs.length = 0 := by rw [lvs, e0]; rfl
              refine ite_f (decide_eq_false (by omega)) ?_
              refine iteF ?_
              refine elif _ tNext fin1 fun hne => fin2 (stp_text_no (fun u e => by rw [hlast] at e; cases e) (fun e => hne (by rw [e])))
            · have eL := last_split hlast
              have hvs3 := hvs2
              rw [eL, List.map_append] at hvs3
              obtain ⟨vs0, v0, ev, hv1, hv2⟩ := DpAll.snocInv hvs3
              refine ite_t (decide_eq_true (by rw [ev, List.length_append]; simp)) ?_
              obtain ⟨la, ls, rfl, hla⟩ := dp_node (Dh.out hv2)
              refine ⟨_, rfl, _, rfl, p, vs, _, .ref la, rfl, rfl, .inl (.inl hpv2), by rw [ev]; exact atI_last _ _, _, _, _, _, rfl, rfl, hla, atI_nat (j := 0) rfl, rfl, _, rfl, ?_⟩
              by_cases hu : ∃ u, y = .text u
              · obtain ⟨u, rfl⟩ := hu
                refine ite_t (decide_eq_true rfl) ?_
                obtain ⟨la', e', hlt⟩ := dp_text (Dh.out hv2)
                cases e'
                have hu4 := zT u (List.mem_of_getLast? hlast)
                refine ⟨_, rfl, _, rfl, p, vs, _, .ref la, rfl, rfl, .inl (.inl hpv2), by rw [ev]; exact atI_last _ _, _, _, _, _, rfl, rfl, hlt, rfl, _, rfl, xa, _, _, _, rfl, rfl, hxt', rfl, _, _, rfl, rfl, small_le (by rw [S_len, S_len]; omega), by show 2 ≤ sizeLine; decide, fun p2 hp2 => ?_⟩
                have np2 : p ≠ p2 := ne_of_none hpv2 hp2
                have s5 : Same H2 (upd H2 p2 (.tup [.str "text", .str (S u ++ S t)])) := same_new hp2 _
                refine ⟨_, rfl, _, rfl, p, vs, _, vs0.length, rfl, rfl, s5 _ _ hpv2, by rw [ev]; exact ixN_m1 _ _, ?_⟩
                refine fin _ _ upd_same (same_mut (s4.trans s5) hp) ?_
                refine DhA.updF ?_ (add_self _ _)
                rw [stp_text_text hlast, ev, set_last, List.map_append]
                refine DpAll.snoc (DhA.same hv1 s5) ?_
                have f2 : add F p p2 = false := lv2.new hp2
                rw [S_app]
                rw [S_app] at s5
                exact .tup ((Av_get f2).trans upd_same) (.cons (.str _) (.cons (.str _) .nil))
              · refine ite_f ?_ ?_
                · exact decide_eq_false fun e => tag_no hu (V.str.inj e)
                · refine elif _ tNext fin1 fun hne => fin2 (stp_text_no (fun u e => hu ⟨u, by rw [hlast] at e; exact Option.some.inj e⟩) (fun e => hne (by rw [e])))
          · refine ite_f ?_ (iteF ?_)
            · exact decide_eq_false fun e => tag_no hT (V.str.inj e)
            · refine elif _ tNext fin1 fun hne => fin2 ?_
              cases nd' with
              | text u => exact absurd ⟨u, rfl⟩ hT
              | _ => rfl
    · rintro σ H' ⟨vs, v, v3, v4, rfl, hpv, s2, hvs⟩
      have fp : F p = false := hl.new hp
      refine ⟨_, rfl, k p H' s2 ?_⟩
      rw [nm, List.take_length] at hvs
      rw [plain_eq, dat_eq]
      exact .lst ((Av_get fp).trans hpv) (hvs.weak add_sub)
theorem ok_law_plain (T : Tx K mg) : ∀ n : Nat, n ≤ 10 → OkF P w K mg base d_law_plain ["_law_message_here"] (n + 1) (spPlain K n)
  | 0, _ => ok_law_plain0 T
  | n + 1, h => ok_law_plain_step T (by omega) (ok_law_plain T n (by omega))
end
end Mw
/-! MwQ -/
set_option Elab.async false
set_option linter.all false
set_option maxRecDepth 100000
set_option maxHeartbeats 4000000
namespace Mw
open PySem PySem.Spec PyProof.Rows L2
theorem l_ob : ("{" : Str) = S [123] := rfl
theorem l_cb : ("}" : Str) = S [125] := rfl
theorem l_cs : (", " : Str) = S [44, 32] := rfl
theorem l_nu : ("#" : Str) = S [35] := rfl
theorem l_q : ("'" : Str) = S [39] := rfl
theorem l_qq : ("''" : Str) = S [39, 39] := rfl
theorem l_off : ("offset:" : Str) = S cOffset := rfl
theorem l_sp : (" " : Str) = S [32] := rfl
theorem l_sob : (" {" : Str) = S [32, 123] := rfl
theorem l_cbs : ("} " : Str) = S [125, 32] := rfl
theorem l_oth : ("other {" : Str) = S (cOther ++ [32, 123]) := rfl
theorem l_cc : ("}}" : Str) = S [125, 125] := rfl
theorem l_eq : ("=" : Str) = S [61] := rfl
theorem l_nil : ("" : Str) = S [] := rfl
section
variable {P : Program} {w : World} {K : PySem.W.Frag} {mg : Str → Option Value} {base : Heap}
theorem sc_law_notation : FnScope ["_law_message_here", "_law_text", "_law_node_here", "_law_sign", "_law_key", "_law_inner"] ["_law_message_here"] (defScope s_law_notation) := ⟨rfl, rfl, rfl, by decide +kernel, rfl, by decide +kernel, by decide +kernel⟩
theorem ok_law_notation0 (T : Tx K mg) : OkF P w K mg base d_law_notation ["_law_message_here"] 1 (spFMsg K 0) := by
  refine (okF T 51 (d := d_law_notation) rfl sc_law_notation (fun _ _ _ _ _ _ us hl => match us, hl with | [_], _ => rfl) ⟨rfl, rfl⟩ (fun vs H Q E h => ?_) (fun cdv A outer s H vs Q E hr h => ?_))
  · obtain ⟨_, m, _⟩ := h; exact nomatch m
  · obtain ⟨_, m, _⟩ := h; exact nomatch m
theorem kind_ne (pl : Option Nat) (l : List Nat) (h1 : cSelect ≠ l) (h2 : cPlural ≠ l) : decide (V.str (S (cKind pl)) = V.str (S l)) = false := by
  rw [dec_S]
  cases pl with
  | none => exact decide_eq_false h1
  | some o => exact decide_eq_false h2
theorem dp_ch {α : Type} {f : α → PyData} {K : PySem.W.Frag} {H : Hp} {v : V} {pl : Option Nat} {name : List Nat} {cs : List (Ky × α)} {ot : α} (h : Dp K H v (dNd f (.ch pl name cs ot))) :
    ∃ a c q, v = .ref a ∧ SqT K H a (hdV pl name ++ [c, q]) ∧ Dp K H c (.list (cs.map (dCase f))) ∧ Dp K H q (f ot) := by
  cases pl with
  | none => exact dp_sel h
  | some o => exact dp_plu h
theorem fNd_text {α : Type} (f : α → List Nat) (t : List Nat) : fNd f (.text t) = t.flatMap esc := rfl
theorem ok_law_notation_step (T : Tx K mg) {n : Nat} (o_law_notation : OkF P w K mg base d_law_notation ["_law_message_here"] (n + 1) (spFMsg K n)) : OkF P w K mg base d_law_notation ["_law_message_here"] (n + 2) (spFMsg K (n + 1)) := by
  refine (okF T 51 (d := d_law_notation) rfl sc_law_notation (fun _ _ _ _ _ _ us hl => match us, hl with | [_], _ => rfl) ⟨rfl, rfl⟩ (fun vs H Q E h => ?_) (fun cdv A outer s H vs Q E hr h => ?_))
  · obtain ⟨a, m, i, rfl, _⟩ := h; rfl
  · obtain ⟨a, m, ib, rfl, hd, ⟨hk1, hk⟩, hz, k⟩ := h
    refine ⟨_, (pss_cons (ps_set (i := 1) sc_law_notation.nd rfl (Or.inl rfl) pe_str)
  (pss_cons (ps_for PassesOwn.never rfl (pi_list (pv 0)) (pg_name (i := 2) sc_law_notation.nd rfl (Or.inl rfl))
  (pss_one (ps_if (pt_cmpR op_eq (pe_ix ix_tup (pv 2) pe_int (fun _ _ => rfl)) pe_str (nomark _))
  (pss_one (ps_for PassesOwn.never rfl (pi_str (pe_ix ix_tup (pv 2) pe_int (fun _ _ => rfl))) (pg_name (i := 3) sc_law_notation.nd rfl (Or.inl rfl))
  (pss_one (ps_if (pt_cmpR op_eq (pv 3) pe_str (nomark _))
  (pss_one (ps_set (i := 1) sc_law_notation.nd rfl (Or.inl rfl) (pe_op op_add_str (pv 1) pe_str)))
  (pss_one (ps_if (pt_cmpR op_in_sign (pv 3) pe_str rfl)
  (pss_one (ps_set (i := 1) sc_law_notation.nd rfl (Or.inl rfl) (pe_op op_add_str (pe_op op_add_str (pe_op op_add_str (pv 1) pe_str) (pv 3)) pe_str)))
  (pss_one (ps_set (i := 1) sc_law_notation.nd rfl (Or.inl rfl) (pe_op op_add_str (pv 1) (pv 3))))))))))
  (pss_one (ps_if (pt_cmpR op_eq (pe_ix ix_tup (pv 2) pe_int (fun _ _ => rfl)) pe_str (nomark _))
  (pss_one (ps_set (i := 1) sc_law_notation.nd rfl (Or.inl rfl) (pe_op op_add_str (pe_op op_add_str (pe_op op_add_str (pv 1) pe_str) (pe_ix ix_tup (pv 2) pe_int (fun _ _ => rfl))) pe_str)))
  (pss_one (ps_if (pt_cmpR op_eq (pe_ix ix_tup (pv 2) pe_int (fun _ _ => rfl)) pe_str (nomark _))
  (pss_one (ps_set (i := 1) sc_law_notation.nd rfl (Or.inl rfl) (pe_op op_add_str (pv 1) pe_str)))
  (pss_cons (ps_set (i := 1) sc_law_notation.nd rfl (Or.inl rfl) (pe_op op_add_str (pe_op op_add_str (pe_op op_add_str (pe_op op_add_str (pe_op op_add_str (pv 1) pe_str) (pe_ix ix_tup (pv 2) pe_int (fun _ _ => rfl))) pe_str) (pe_ix ix_tup (pv 2) pe_int (fun _ _ => rfl))) pe_str))
  (Evl.pss_cut (ps_if (PW.pt (pw_and (pt_cmpR op_eq (pe_ix ix_tup (pv 2) pe_int (fun _ _ => rfl)) pe_str (nomark _)) (pw_and1 (pt_cmpR op_gt (pe_ix ix_tup (pv 2) pe_int (fun _ _ => rfl)) pe_int (nomark _)))))
  (pss_one (ps_set (i := 1) sc_law_notation.nd rfl (Or.inl rfl) (pe_op op_add_str (pe_op op_add_str (pe_op op_add_str (pv 1) pe_str) (pe_callTy call_str_int (by rfl) T.z_str (by decide +kernel) (pa_cons (pe_ix ix_tup (pv 2) pe_int (fun _ _ => rfl)) pa_nil))) pe_str)))
  pss_nil)
  (pss_cons (ps_for PassesOwn.never rfl (pi_list (pe_ix ix_tup (pv 2) (pe_un un_neg pe_int) (fun _ _ => rfl))) (pg_tup rfl (pgs_cons (pg_name (i := 4) sc_law_notation.nd rfl (Or.inl rfl)) (pgs_cons (pg_name (i := 5) sc_law_notation.nd rfl (Or.inl rfl)) pgs_nil)))
  (pss_one (ps_set (i := 1) sc_law_notation.nd rfl (Or.inl rfl) (pe_op op_add_str (pe_op op_add_str (pe_op op_add_str (pe_op op_add_str (pe_op op_add_str (pv 1) (pe_ix ix_list (pe_lst (pa_cons pe_str (pa_cons pe_str pa_nil))) (pe_callTy call_int1 (by rfl) T.z_int (by decide +kernel) (pa_cons (pe_callB call_isi (by rfl) T.z_isinstance (by decide +kernel) (pa_cons (pv 4) (pa_cons (pe_bltn (v := .ty "int") (u := .type "int") (by rfl) T.z_int (by decide +kernel) rfl) pa_nil))) pa_nil)) (fun _ _ => rfl))) (pe_callTy call_str_key (by rfl) T.z_str (by decide +kernel) (pa_cons (pv 4) pa_nil))) pe_str) (cg o_law_notation T.g__law_notation (hr.mono (by omega)) (pa_cons (pv 5) pa_nil))) pe_str))))
  (pss_one (ps_set (i := 1) sc_law_notation.nd rfl (Or.inl rfl) (pe_op op_add_str (pe_op op_add_str (pe_op op_add_str (pv 1) pe_str) (cg o_law_notation T.g__law_notation (hr.mono (by omega)) (pa_cons (pe_ix ix_tup (pv 2) (pe_un un_neg pe_int) (fun _ _ => rfl)) pa_nil))) pe_str)))))))))))))
  (pss_one (ps_ret (pv 1))))), ?_⟩
    obtain ⟨a', ms, e, hS, hm⟩ := Dp.lstInv hd
    cases e
    have nm : ms.length = m.length := by rw [DpAll.len hm, List.length_map]
    refine ⟨_, rfl, a, rfl, ⟨_, hS⟩, for_list (K := K) (a := a) (xs := ms) (fun i σ H' => ∃ v2 v3 v4 v5 : Option V, σ = [some (.ref a), some (.str (S ((m.take i).flatMap (fNd (fmt n))))), v2, v3, v4, v5] ∧ Same H H')
      ⟨none, none, none, none, rfl, Same.refl _⟩ (fun i σ H' _ ⟨_, _, _, _, _, s2⟩ => s2.seq hS) ?_ ?_⟩
    · rintro i x σ H' hi ⟨v2, v3, v4, v5, rfl, s2⟩
      obtain ⟨d0, hd1, hd2⟩ := DpAll.at_ hm hi
      obtain ⟨nd, hnd, rfl⟩ := map_at hd1
      have hmem : nd ∈ m := List.mem_of_getElem? hnd
      have hx2 : Dp K H' x (dNd (dat n) nd) := Dp.same s2 _ _ hd2
      have hkn := hk nd hmem
      have zall : ((m.take (i + 1)).flatMap (fNd (fmt n))).length ≤ 4000 := Nat.le_trans (flat_take_le _ _ _) hz
      have eall : (m.take (i + 1)).flatMap (fNd (fmt n)) = (m.take i).flatMap (fNd (fmt n)) ++ fNd (fmt n) nd := flat_take hnd
      rw [eall] at zall ⊢
      generalize hpre : (m.take i).flatMap (fNd (fmt n)) = pre at *
      rw [List.length_append] at zall
      clear hx2
      have hx2 : Dp K H' x (dNd (dat n) nd) := Dp.same s2 _ _ hd2
      obtain ⟨xa, xs, rfl, hxs⟩ := dp_node hx2
      have fin : ∀ (z : Str) (v2 v3 v4 v5 : Option V) (H'' : Hp), Same H H'' → z = S (pre ++ fNd (fmt n) nd) → ∃ v2' v3' v4' v5' : Option V, [some (V.ref a), some (.str z), v2, v3, v4, v5] = [some (.ref a), some (.str (S (pre ++ fNd (fmt n) nd))), v2', v3', v4', v5'] ∧ Same H H'' := fun z v2 v3 v4 v5 H'' s h => by
        subst h
        exact ⟨v2, v3, v4, v5, rfl, s⟩
      refine ⟨_, rfl, xa, _, _, _, rfl, rfl, hxs, atI_nat (j := 0) rfl, rfl, _, rfl, ?_⟩
      cases nd with
      | text t =>
        refine ite_t (decide_eq_true rfl) ?_
        obtain ⟨xa', e', hxt⟩ := dp_text hx2
        cases e'
        rw [fNd_text] at zall
        refine ⟨_, rfl, xa, _, _, _, rfl, rfl, hxt, atI_nat (j := 1) rfl, _, rfl, for_S (l := t) (fun j σ H'' => ∃ v3 : Option V, σ = [some (.ref a), some (.str (S (pre ++ (t.take j).flatMap esc))), some (.ref xa), v3, v4, v5] ∧ H' = H'') ⟨v3, by rw [List.take_zero, List.flatMap_nil, List.append_nil]; rfl, rfl⟩ ?_ ?_⟩
        · rintro j c σ H'' hj ⟨v3, rfl, rfl⟩
          have zt := flat_take_le esc t (j + 1)
          rw [flat_take hj] at zt ⊢
          rw [List.length_append] at zt
          refine ⟨_, rfl, rfl, _, rfl, ?_⟩
          by_cases h1 : c = 39
          · subst h1
            refine ite_t (by decide +kernel) ?_
            refine ⟨_, rfl, _, _, rfl, rfl, small_le (by simp only [l_qq, S_len, List.length_append, List.length_cons, List.length_nil]; omega), some (.str (S [39])), ?_, rfl⟩
            rw [l_qq, S_app, List.append_assoc]
            rfl
          · refine ite_f ((sgn c 39).trans (decide_eq_false h1)) ?_
            refine ⟨_, rfl, c, S [123, 125, 35], rfl, rfl, _, rfl, ?_⟩
            by_cases h2 : c = 123 ∨ c = 125 ∨ c = 35
            · have he : esc c = [39, c, 39] := by unfold esc; rw [if_neg h1, if_pos h2]
              rw [he] at zt ⊢
              refine ite_t (decide_eq_true ?_) ?_
              · show c ∈ [123, 125, 35]
                simpa using h2
              refine ⟨_, rfl, _, _, rfl, rfl, small_le (by simp only [l_q, S_len, List.length_append, List.length_cons, List.length_nil]; omega), _, rfl, _, _, rfl, rfl, small_le (by simp only [l_q, S_app, S_len, List.length_append, List.length_cons, List.length_nil]; omega), _, _, rfl, rfl, small_le (by simp only [l_q, S_app, S_len, List.length_append, List.length_cons, List.length_nil]; omega), some (.str (S [c])), ?_, rfl⟩
              rw [l_q, S_app, S_app, S_app]
              simp
            · have he : esc c = [c] := by unfold esc; rw [if_neg h1, if_neg h2]
              rw [he] at zt ⊢
              refine ite_f (decide_eq_false ?_) ?_
              · show c ∉ [123, 125, 35]
                simpa using h2
              refine ⟨_, rfl, _, rfl, _, _, rfl, rfl, small_le (by simp only [S_len, List.length_append, List.length_cons, List.length_nil]; omega), some (.str (S [c])), ?_, rfl⟩
              rw [S_app, List.append_assoc]
              rfl
        · rintro σ H'' ⟨v3, rfl, rfl⟩
          rw [List.take_length]
          exact ⟨_, _, _, _, rfl, s2⟩
      | shw t =>
        obtain ⟨xa', e', hxt⟩ := dp_shw hx2
        cases e'
        refine ite_f (show decide (V.str "show" = V.str "text") = false by decide +kernel) ?_
        refine ⟨_, rfl, xa, _, _, _, rfl, rfl, hxt, atI_nat (j := 0) rfl, rfl, _, rfl, ?_⟩
        refine ite_t (decide_eq_true rfl) ?_
        simp only [fNd, List.length_append, List.length_cons, List.length_nil] at zall
        refine ⟨_, rfl, _, _, rfl, rfl, small_le (by simp only [l_ob, l_cb, l_cs, l_nu, l_off, l_sp, l_sob, l_cbs, l_oth, l_cc, l_eq, l_nil, S_app, S_len, List.length_append, List.length_cons, List.length_nil]; omega), _, rfl, xa, _, _, _, rfl, rfl, hxt, atI_nat (j := 1) rfl, _, _, rfl, rfl, small_le (by simp only [l_ob, l_cb, l_cs, l_nu, l_off, l_sp, l_sob, l_cbs, l_oth, l_cc, l_eq, l_nil, S_app, S_len, List.length_append, List.length_cons, List.length_nil]; omega), _, _, rfl, rfl, small_le (by simp only [l_ob, l_cb, l_cs, l_nu, l_off, l_sp, l_sob, l_cbs, l_oth, l_cc, l_eq, l_nil, S_app, S_len, List.length_append, List.length_cons, List.length_nil]; omega), fin _ _ _ _ _ _ s2 ?_⟩
        simp only [l_ob, l_cb, S_app, fNd, List.append_assoc, List.cons_append, List.nil_append]
      | num =>
        obtain ⟨xa', e', hxt⟩ := dp_num hx2
        cases e'
        refine ite_f (show decide (V.str "number" = V.str "text") = false by decide +kernel) ?_
        refine ⟨_, rfl, xa, _, _, _, rfl, rfl, hxt, atI_nat (j := 0) rfl, rfl, _, rfl, ?_⟩
        refine ite_f (show decide (V.str "number" = V.str "show") = false by decide +kernel) ?_
        refine ⟨_, rfl, xa, _, _, _, rfl, rfl, hxt, atI_nat (j := 0) rfl, rfl, _, rfl, ?_⟩
        refine ite_t (decide_eq_true rfl) ?_
        simp only [fNd, List.length_append, List.length_cons, List.length_nil] at zall
        refine ⟨_, rfl, _, _, rfl, rfl, small_le (by simp only [l_ob, l_cb, l_cs, l_nu, l_off, l_sp, l_sob, l_cbs, l_oth, l_cc, l_eq, l_nil, S_app, S_len, List.length_append, List.length_cons, List.length_nil]; omega), fin _ _ _ _ _ _ s2 ?_⟩
        simp only [l_nu, S_app, fNd]
      | ch pl name cs ot =>
        obtain ⟨g1, g2, g3, g4, g5, g6⟩ := hkn
        obtain ⟨xa', c, q, e', hxt, hc, hq⟩ := dp_ch hx2
        cases e'
        have ek : atI (hdV pl name ++ [c, q]) 0 = some (.str (S (cKind pl))) := by cases pl <;> exact atI_nat (j := 0) rfl
        have en : atI (hdV pl name ++ [c, q]) 1 = some (.str (S name)) := by cases pl <;> exact atI_nat (j := 1) rfl
        have hnl : name.length ≤ 8 := g1.2.1
        have hkl : (cKind pl).length = 6 := by cases pl <;> rfl
        have htg : tagOf (Nd.ch pl name cs ot) = S (cKind pl) := by cases pl <;> rfl
        refine ite_f (by rw [htg]; exact kind_ne pl [116, 101, 120, 116] (by decide) (by decide)) ?_
        refine ⟨_, rfl, xa, _, _, _, rfl, rfl, hxt, ek, rfl, _, rfl, ?_⟩
        refine ite_f (kind_ne pl [115, 104, 111, 119] (by decide) (by decide)) ?_
        refine ⟨_, rfl, xa, _, _, _, rfl, rfl, hxt, ek, rfl, _, rfl, ?_⟩
        refine ite_f (kind_ne pl [110, 117, 109, 98, 101, 114] (by decide) (by decide)) ?_
        simp only [fNd, List.length_append, List.length_cons, List.length_nil] at zall
        refine ⟨_, rfl, _, _, rfl, rfl, small_le (by simp only [l_ob, l_cb, l_cs, l_nu, l_off, l_sp, l_sob, l_cbs, l_oth, l_cc, l_eq, l_nil, S_app, S_len, List.length_append, List.length_cons, List.length_nil]; omega), _, rfl, xa, _, _, _, rfl, rfl, hxt, en, _, _, rfl, rfl, small_le (by simp only [l_ob, l_cb, l_cs, l_nu, l_off, l_sp, l_sob, l_cbs, l_oth, l_cc, l_eq, l_nil, S_app, S_len, List.length_append, List.length_cons, List.length_nil]; omega), _, _, rfl, rfl, small_le (by simp only [l_ob, l_cb, l_cs, l_nu, l_off, l_sp, l_sob, l_cbs, l_oth, l_cc, l_eq, l_nil, S_app, S_len, List.length_append, List.length_cons, List.length_nil]; omega), _, rfl, xa, _, _, _, rfl, rfl, hxt, ek, _, _, rfl, rfl, small_le (by simp only [l_ob, l_cb, l_cs, l_nu, l_off, l_sp, l_sob, l_cbs, l_oth, l_cc, l_eq, l_nil, S_app, S_len, List.length_append, List.length_cons, List.length_nil]; omega), _, _, rfl, rfl, small_le (by simp only [l_ob, l_cb, l_cs, l_nu, l_off, l_sp, l_sob, l_cbs, l_oth, l_cc, l_eq, l_nil, S_app, S_len, List.length_append, List.length_cons, List.length_nil]; omega), ?_⟩
        simp only [l_ob, l_cs, S_app]
        -- the offset
        refine ⟨fun σ H2 => σ = [some (.ref a), some (.str (S (pre ++ (123 :: name ++ [44, 32] ++ cKind pl ++ [44, 32] ++ fOff pl)))), some (.ref xa), v3, v4, v5] ∧ H' = H2, ?_, ?_⟩
        · refine ⟨_, rfl, xa, _, _, _, rfl, rfl, hxt, ek, rfl, _, rfl, ?_⟩
          cases pl with
          | none =>
            refine ite_f (by decide +kernel) (iteF ⟨?_, rfl⟩)
            simp [fOff]
          | some o =>
            have h9 := g2 o rfl
            refine ite_t (show decide (V.str (S cPlural) = V.str "plural") = true by decide +kernel) ?_
            refine ⟨_, rfl, xa, _, _, _, rfl, rfl, hxt, atI_nat (j := 2) rfl, _, _, rfl, rfl, _, rfl, ?_⟩
            by_cases h0 : o = 0
            · subst h0
              refine ite_f (by decide) ⟨?_, rfl⟩
              simp [fOff]
            · refine ite_t (decide_eq_true (by omega)) ?_
              have eo := fOff_pos h0
              rw [eo] at zall
              simp only [List.length_append, List.length_cons, List.length_nil] at zall
              refine ⟨_, rfl, _, _, rfl, rfl, small_le (by simp only [l_ob, l_cb, l_cs, l_nu, l_off, l_sp, l_sob, l_cbs, l_oth, l_cc, l_eq, l_nil, S_app, S_len, List.length_append, List.length_cons, List.length_nil]; omega), _, rfl, xa, _, _, _, rfl, rfl, hxt, atI_nat (j := 2) rfl, _, rfl, ?_, _, _, rfl, rfl, ?_, _, _, rfl, rfl, ?_, ?_, rfl⟩
              · have := Nat.log2_le_self o
                show Nat.log2 o < 1920
                omega
              · rw [dig o h9]
                exact small_le (by simp only [l_ob, l_cb, l_cs, l_nu, l_off, l_sp, l_sob, l_cbs, l_oth, l_cc, l_eq, l_nil, S_app, S_len, List.length_append, List.length_cons, List.length_nil]; omega)
              · rw [dig o h9]
                exact small_le (by simp only [l_ob, l_cb, l_cs, l_nu, l_off, l_sp, l_sob, l_cbs, l_oth, l_cc, l_eq, l_nil, S_app, S_len, List.length_append, List.length_cons, List.length_nil]; omega)
              · rw [dig o h9, eo]
                simp only [l_off, l_sp, S_app]
                simp
        · rintro σ H2 ⟨rfl, rfl⟩
          obtain ⟨ca, cvs, rfl, hcs, hca⟩ := Dp.lstInv hc
          have ncv : cvs.length = cs.length := by rw [DpAll.len hca, List.length_map]
          obtain ⟨qa, rfl⟩ := dat_ref hq
          generalize hpr : pre ++ (123 :: name ++ [44, 32] ++ cKind pl ++ [44, 32] ++ fOff pl) = pr at *
          have hprl : pr.length = pre.length + (1 + name.length + 2 + 6 + 2 + (fOff pl).length) := by
            rw [← hpr]
            simp [hkl]
            omega
          refine ⟨_, rfl, _, rfl, xa, _, _, _, rfl, rfl, hxt, atI_m2 _ _ _, ca, rfl, ⟨_, hcs⟩, for_list (K := K) (a := ca) (xs := cvs) (fun j σ H2 => ∃ v4 v5 : Option V, σ = [some (.ref a), some (.str (S (pr ++ (cs.take j).flatMap (fCase (fmt n))))), some (.ref xa), v3, v4, v5] ∧ Same H' H2)
            ⟨v4, v5, by rw [List.take_zero, List.flatMap_nil, List.append_nil], Same.refl _⟩ (fun j σ H2 _ ⟨_, _, _, s3⟩ => s3.seq hcs) ?_ ?_⟩
          · rintro j y σ H2 hj ⟨v4, v5, rfl, s3⟩
            obtain ⟨d2, hd3, hd4⟩ := DpAll.at_ hca hj
            obtain ⟨ci, hci, rfl⟩ := map_at hd3
            obtain ⟨t, q0, rfl, hts, hq0⟩ := dp_case hd4
            obtain ⟨qb, rfl⟩ := dat_ref hq0
            have hmem2 : ci ∈ cs := List.mem_of_getElem? hci
            obtain ⟨g7, g8⟩ := g5 ci hmem2
            have zt := flat_take_le (fCase (fmt n)) cs (j + 1)
            rw [flat_take hci] at zt ⊢
            rw [List.length_append] at zt
            have ezc : (fCase (fmt n) ci).length = (fKy ci.1).length + 2 + (fmt n ci.2).length + 2 := by
              simp only [fCase, List.length_append, List.length_cons, List.length_nil]
            refine ⟨t, _, rfl, s3.seqT hts, rfl, _, _, rfl, _, _, rfl, rfl, ?_⟩
            refine ⟨_, rfl, by show 2 ≤ sizeLine; decide, fun W hW => ?_⟩
            have sW := same_new (o := HO.lst [.str "", .str "="]) hW
            have hWW : (upd H2 W (.lst [.str "", .str "="])) W = some (.lst [.str "", .str "="]) := upd_same
            have s4 := s3.trans sW
            generalize upd H2 W (.lst [.str "", .str "="]) = H4 at *
            have hq4 : Dp K H4 (.ref qb) (dat n ci.2) := Dp.same s4 _ _ hq0
            have hz4 : (fmt n ci.2).length ≤ 4000 := by omega
            have efc : fCase (fmt n) ci = fKy ci.1 ++ [32, 123] ++ fmt n ci.2 ++ [125, 32] := rfl
            rw [efc] at *
            obtain ⟨ky, mc⟩ := ci
            have fin2 : ∀ (z : Str) (H5 : Hp), Same H4 H5 → z = S (pr ++ ((cs.take j).flatMap (fCase (fmt n)) ++ (fKy ky ++ [32, 123] ++ fmt n mc ++ [125, 32]))) → ∃ v4 v5 : Option V, [some (V.ref a), some (.str z), some (.ref xa), v3, some (kW ky), some (.ref qb)] = [some (.ref a), some (.str (S (pr ++ ((cs.take j).flatMap (fCase (fmt n)) ++ (fKy ky ++ [32, 123] ++ fmt n mc ++ [125, 32]))))), some (.ref xa), v3, v4, v5] ∧ Same H' H5 := fun z H5 s5 h => by
              subst h
              exact ⟨_, _, rfl, s4.trans s5⟩
            simp only at hq4 hz4 ezc g7 g8
            cases ky with
            | num o =>
              have h9 : o ≤ 9 := g7.2
              simp only [fKy, List.length_cons, List.length_nil] at ezc zt
              refine ⟨_, rfl, _, .ty "int", .type "int", .type "int", true, rfl, ?_, .base (.int _), kit_ty (by decide +kernel), .inr ⟨true, rfl, W, _, _, _, rfl, rfl, SqL.of hWW, atI_nat (j := 1) rfl, ?_⟩⟩
              · first | exact .ty _ | exact rfl | constructor
              refine ⟨_, _, rfl, rfl, small_le (by simp only [l_ob, l_cb, l_cs, l_nu, l_off, l_sp, l_sob, l_cbs, l_oth, l_cc, l_eq, l_nil, S_app, S_len, List.length_append, List.length_cons, List.length_nil]; omega), _, rfl, .inl ⟨_, rfl, ?_, _, _, rfl, rfl, ?_, _, _, rfl, rfl, ?_, _, rfl, qb, mc, _, rfl, hq4, g8, hz4, fun H5 s5 => ⟨_, _, rfl, rfl, ?_, _, _, rfl, rfl, ?_, ?_⟩⟩⟩
              · have := Nat.log2_le_self o
                show Nat.log2 o < 1920
                omega
              · rw [dig o h9]; exact small_le (by simp only [l_ob, l_cb, l_cs, l_nu, l_off, l_sp, l_sob, l_cbs, l_oth, l_cc, l_eq, l_nil, S_app, S_len, List.length_append, List.length_cons, List.length_nil]; omega)
              · rw [dig o h9]; exact small_le (by simp only [l_ob, l_cb, l_cs, l_nu, l_off, l_sp, l_sob, l_cbs, l_oth, l_cc, l_eq, l_nil, S_app, S_len, List.length_append, List.length_cons, List.length_nil]; omega)
              · rw [dig o h9]; exact small_le (by simp only [l_ob, l_cb, l_cs, l_nu, l_off, l_sp, l_sob, l_cbs, l_oth, l_cc, l_eq, l_nil, S_app, S_len, List.length_append, List.length_cons, List.length_nil]; omega)
              · rw [dig o h9]; exact small_le (by simp only [l_ob, l_cb, l_cs, l_nu, l_off, l_sp, l_sob, l_cbs, l_oth, l_cc, l_eq, l_nil, S_app, S_len, List.length_append, List.length_cons, List.length_nil]; omega)
              · refine fin2 _ H5 s5 ?_
                rw [dig o h9]
                simp only [l_eq, l_sob, l_cbs, S_app, fKy]
                simp
            | wd wd =>
              simp only [fKy, List.length_cons, List.length_nil] at ezc zt
              refine ⟨_, rfl, _, .ty "int", .type "str", .type "int", false, rfl, ?_, .base (.str _), kit_ty (by decide +kernel), .inr ⟨false, rfl, W, _, _, _, rfl, rfl, SqL.of hWW, atI_nat (j := 0) rfl, ?_⟩⟩
              · first | exact .ty _ | exact rfl | constructor
              refine ⟨_, _, rfl, rfl, small_le (by simp only [l_ob, l_cb, l_cs, l_nu, l_off, l_sp, l_sob, l_cbs, l_oth, l_cc, l_eq, l_nil, S_app, S_len, List.length_append, List.length_cons, List.length_nil]; omega), _, rfl, .inr ⟨_, rfl, _, _, rfl, rfl, small_le (by simp only [l_ob, l_cb, l_cs, l_nu, l_off, l_sp, l_sob, l_cbs, l_oth, l_cc, l_eq, l_nil, S_app, S_len, List.length_append, List.length_cons, List.length_nil]; omega), _, _, rfl, rfl, small_le (by simp only [l_ob, l_cb, l_cs, l_nu, l_off, l_sp, l_sob, l_cbs, l_oth, l_cc, l_eq, l_nil, S_app, S_len, List.length_append, List.length_cons, List.length_nil]; omega), _, rfl, qb, mc, _, rfl, hq4, g8, hz4, fun H5 s5 => ⟨_, _, rfl, rfl, small_le (by simp only [l_ob, l_cb, l_cs, l_nu, l_off, l_sp, l_sob, l_cbs, l_oth, l_cc, l_eq, l_nil, S_app, S_len, List.length_append, List.length_cons, List.length_nil]; omega), _, _, rfl, rfl, small_le (by simp only [l_ob, l_cb, l_cs, l_nu, l_off, l_sp, l_sob, l_cbs, l_oth, l_cc, l_eq, l_nil, S_app, S_len, List.length_append, List.length_cons, List.length_nil]; omega), ?_⟩⟩⟩
              refine fin2 _ H5 s5 ?_
              simp only [l_nil, l_sob, l_cbs, S_app, fKy]
              simp
          · rintro σ H2 ⟨v4, v5, rfl, s3⟩
            rw [ncv, List.take_length]
            refine ⟨_, rfl, _, _, rfl, rfl, small_le (by simp only [l_ob, l_cb, l_cs, l_nu, l_off, l_sp, l_sob, l_cbs, l_oth, l_cc, l_eq, l_nil, S_app, S_len, List.length_append, List.length_cons, List.length_nil]; omega), _, rfl, _, rfl, xa, _, _, _, rfl, rfl, s3.seqT hxt, atI_m1 _ _ _, qa, ot, _, rfl, Dp.same s3 _ _ hq, g6, by omega, fun H5 s5 => ⟨_, _, rfl, rfl, small_le (by simp only [l_ob, l_cb, l_cs, l_nu, l_off, l_sp, l_sob, l_cbs, l_oth, l_cc, l_eq, l_nil, S_app, S_len, List.length_append, List.length_cons, List.length_nil]; omega), _, _, rfl, rfl, small_le (by simp only [l_ob, l_cb, l_cs, l_nu, l_off, l_sp, l_sob, l_cbs, l_oth, l_cc, l_eq, l_nil, S_app, S_len, List.length_append, List.length_cons, List.length_nil]; omega), ?_⟩⟩
            refine fin _ _ _ _ _ _ ((s2.trans s3).trans s5) ?_
            simp only [l_oth, l_cc, S_app, ← hpr, fNd, List.append_assoc, List.cons_append, List.nil_append]
    · rintro σ H' ⟨v2, v3, v4, v5, rfl, s2⟩
      refine ⟨_, rfl, ?_⟩
      rw [nm, List.take_length]
      exact k H' s2
theorem ok_law_notation (T : Tx K mg) : ∀ n : Nat, OkF P w K mg base d_law_notation ["_law_message_here"] (n + 1) (spFMsg K n)
  | 0 => ok_law_notation0 T
  | n + 1 => ok_law_notation_step T (ok_law_notation T n)
end
end Mw
/-! MwT -/
set_option Elab.async false
set_option linter.all false
set_option maxRecDepth 100000
set_option maxHeartbeats 4000000
namespace Mw
open PySem PySem.Spec PyProof.Rows L2
/-! ## the law's own reader -/
theorem cutS_from (T : List Nat) (a : Nat) : cutS (S T) (some ((a : Nat) : Int)) none = S (T.drop a) := by
  unfold cutS
  rw [HT.sIx_none, HT.sIx_nat, S_len, show (S T).cps.toList = T from rfl]
  by_cases h : a ≤ T.length
  · rw [Nat.min_eq_left h, List.take_of_length_le (by simp)]
  · have e1 : min a T.length = T.length := Nat.min_eq_right (by omega)
    have e2 : T.drop a = [] := List.drop_eq_nil_of_le (by omega)
    rw [e1, e2, List.drop_length]
    simp
theorem cutS_two (T : List Nat) (a b : Nat) : cutS (S T) (some ((a : Nat) : Int)) (some ((b : Nat) : Int)) = S ((T.drop a).take (b - a)) := by
  unfold cutS
  rw [HT.sIx_nat, HT.sIx_nat, S_len, show (S T).cps.toList = T from rfl]
  by_cases h : a ≤ T.length
  · rw [Nat.min_eq_left h]
    by_cases h2 : b ≤ T.length
    · rw [Nat.min_eq_left h2]
    · have e1 : min b T.length = T.length := Nat.min_eq_right (by omega)
      rw [e1, List.take_of_length_le (by simp), List.take_of_length_le (by simp; omega)]
  · have e1 : min a T.length = T.length := Nat.min_eq_right (by omega)
    have e2 : T.drop a = [] := List.drop_eq_nil_of_le (by omega)
    rw [e1, e2, List.drop_length]
    simp
section
variable {P : Program} {w : World} {K : PySem.W.Frag} {mg : Str → Option Value} {base : Heap}
def spLWord : Sp := fun vs H Q _ => ∃ (T : List Nat) (p : Nat) (w r : List Nat), vs = [.str (S T), .int (p : Int)] ∧ T.length ≤ 5000 ∧ T.drop p = w ++ r ∧ (∀ c ∈ w, ltr c) ∧ (∀ c r', r = c :: r' → ¬ ltr c) ∧ Q (.str (S w)) H
theorem sc_law_word : FnScope ["_law_text", "_law_at", "_law_found", "_law_sign"] ["_law_text", "_law_at"] (defScope s_law_word) := ⟨rfl, rfl, rfl, by decide +kernel, rfl, by decide +kernel, by decide +kernel⟩
theorem ok_law_word (T : Tx K mg) : OkF P w K mg base d_law_word ["_law_text", "_law_at"] 1 spLWord := by
  refine (okF T 52 (d := d_law_word) rfl sc_law_word (fun _ _ _ _ _ _ us hl => match us, hl with | [_, _], _ => rfl) ⟨rfl, rfl⟩ (fun vs H Q E h => ?_) (fun cdv A outer s H vs Q E hr h => ?_))
  · obtain ⟨T, p, wd, r, rfl, _⟩ := h; rfl
  · obtain ⟨tx, p, wd, r, rfl, hz, hT, h1, h2, k⟩ := h
    refine ⟨_, (pss_cons (ps_set (i := 2) sc_law_word.nd rfl (Or.inl rfl) pe_str)
  (pss_cons (ps_for PassesOwn.never rfl (pi_str (pe_slice sl_str (pv 0) (po_some (pv 1)) po_none)) (pg_name (i := 3) sc_law_word.nd rfl (Or.inl rfl))
  (pss_cons (ps_if (pt_cmpR op_notIn_sign (pv 3) pe_str rfl)
  (pss_one (ps_ret (pv 2)))
  pss_nil)
  (pss_one (ps_set (i := 2) sc_law_word.nd rfl (Or.inl rfl) (pe_op op_add_str (pv 2) (pv 3))))))
  (pss_one (ps_ret (pv 2))))), ?_⟩
    have hwl : wd.length ≤ 5000 := by
      have := congrArg List.length hT
      rw [List.length_drop, List.length_append] at this
      omega
    refine ⟨_, rfl, _, rfl, _, rfl, _, rfl, small_le (by rw [S_len]; omega), _, rfl, ?_⟩
    rw [cutS_from, hT]
    refine for_S (l := wd ++ r) (fun i σ H' => i ≤ wd.length ∧ (∃ v, σ = [some (.str (S tx)), some (.int (p : Int)), some (.str (S (wd.take i))), v]) ∧ H = H') ⟨Nat.zero_le _, ⟨none, rfl⟩, rfl⟩ ?_ ?_
    · rintro i c σ H' hi ⟨hil, ⟨v, rfl⟩, rfl⟩
      refine ⟨_, rfl, c, S lts, rfl, congrArg V.str lts_eq, _, rfl, ?_⟩
      by_cases h : i < wd.length
      · rw [List.getElem?_append_left h] at hi
        have hl := h1 c (List.mem_of_getElem? hi)
        refine ite_f (by rw [decide_eq_true (show c ∈ (S lts).cps.toList from mem_lts.mpr hl)]; rfl) ?_
        refine ⟨_, rfl, _, rfl, _, _, rfl, rfl, small_le (by rw [S_len, S_len, List.length_take]; simp; omega), h, ⟨some (.str (S [c])), ?_⟩, rfl⟩
        rw [S_app, ← take_more hi]
        rfl
      · have e : i = wd.length := by omega
        subst e
        rw [List.getElem?_append_right (Nat.le_refl _), Nat.sub_self] at hi
        cases r with
        | nil => simp at hi
        | cons c' r' =>
          simp at hi
          subst hi
          have hn := h2 _ _ rfl
          refine ite_t (by rw [decide_eq_false (show ¬ c' ∈ (S lts).cps.toList from fun h => hn (mem_lts.mp h))]; rfl) ?_
          rw [List.take_length]
          exact ⟨_, rfl, k⟩
    · rintro σ H' ⟨hil, ⟨v, rfl⟩, rfl⟩
      rw [List.length_append] at hil ⊢
      rw [List.take_of_length_le (by omega)]
      exact ⟨_, rfl, k⟩
theorem inV_S (w : List Nat) : ∀ l : List (List Nat), inV (.str (S w)) (l.map fun c => V.str (S c)) = decide (w ∈ l)
  | [] => rfl
  | c :: r => by
    have e1 : inV (.str (S w)) ((c :: r).map fun c => V.str (S c)) = (eqV (V.str (S c)) (.str (S w)) || inV (.str (S w)) (r.map fun c => V.str (S c))) := rfl
    have e2 : eqV (V.str (S c)) (.str (S w)) = decide (c = w) := by
      show decide (S c = S w) = _
      by_cases h : c = w
      · subst h; simp
      · rw [decide_eq_false h, decide_eq_false fun e => h (S_inj e)]
    rw [e1, inV_S w r, e2]
    by_cases h : c = w
    · subst h; simp
    · simp [h, Ne.symm h, eq_comm]
def spLKey : Sp := fun vs H Q _ => ∃ (T : List Nat) (p : Nat) (pl : Option Nat) (ky : Ky) (r : List Nat), vs = [.str (S T), .int (p : Int), .str (S (cKind pl))] ∧ T.length ≤ 5000 ∧ T.drop p = fKy ky ++ 32 :: r ∧ kyR pl ky ∧
  ∀ t H', Same H H' → H' t = some (.lst [kW ky, .int ((p + (fKy ky).length : Nat) : Int)]) → Q (.ref t) H'
theorem sc_law_key_at : FnScope ["_law_text", "_law_at", "_law_kind", "_law_figures", "_law_sign", "_law_word_here"] ["_law_text", "_law_at", "_law_kind"] (defScope s_law_key_at) := ⟨rfl, rfl, rfl, by decide +kernel, rfl, by decide +kernel, by decide +kernel⟩
theorem ok_law_key_at (T : Tx K mg) : OkF P w K mg base d_law_key_at ["_law_text", "_law_at", "_law_kind"] 2 spLKey := by
  have o_law_word : OkF P w K mg base d_law_word ["_law_text", "_law_at"] 1 spLWord := ok_law_word T
  refine (okF T 53 (d := d_law_key_at) rfl sc_law_key_at (fun _ _ _ _ _ _ us hl => match us, hl with | [_, _, _], _ => rfl) ⟨rfl, rfl⟩ (fun vs H Q E h => ?_) (fun cdv A outer s H vs Q E hr h => ?_))
  · obtain ⟨T, p, pl, ky, r, rfl, _⟩ := h; rfl
  · obtain ⟨tx, p, pl, ky, r, rfl, hz, hT, hk, k⟩ := h
    refine ⟨_, (Evl.pss_cut (ps_if (PW.pt (pw_and (pt_cmpR op_eq (pv 2) pe_str (nomark _)) (pw_and1 (pt_cmpR op_eq (pe_slice sl_str (pv 0) (po_some (pv 1)) (po_some (pe_op op_add (pv 1) pe_int))) pe_str (nomark _)))))
  (pss_cons (ps_set (i := 3) sc_law_key_at.nd rfl (Or.inl rfl) pe_str)
  (pss_cons (ps_for PassesOwn.never rfl (pi_str (pe_slice sl_str (pv 0) (po_some (pe_op op_add (pv 1) pe_int)) po_none)) (pg_name (i := 4) sc_law_key_at.nd rfl (Or.inl rfl))
  (pss_cons (ps_if (pt_cmpR op_notIn_sign (pv 4) pe_str rfl)
  (pss_one ps_break)
  pss_nil)
  (pss_one (ps_set (i := 3) sc_law_key_at.nd rfl (Or.inl rfl) (pe_op op_add_str (pv 3) (pv 4))))))
  (pss_cons (ps_if (PW.pt (pw_or (pt_cmpR op_eq (pv 3) pe_str (nomark _)) (pw_or (pt_cmpR op_gt (pe_callB call_len_str (by rfl) T.z_len (by decide +kernel) (pa_cons (pv 3) pa_nil)) pe_int (nomark _)) (pw_or1 (PW.pt (pw_and (pt_cmpR op_eq (pe_ix ix_str (pv 3) pe_int (fun _ _ => rfl)) pe_str (nomark _)) (pw_and1 (pt_cmpR op_gt (pe_callB call_len_str (by rfl) T.z_len (by decide +kernel) (pa_cons (pv 3) pa_nil)) pe_int (nomark _)))))))))
  (pss_one (ps_ret pe_non))
  pss_nil)
  (pss_one (ps_ret (pe_lst (pa_cons (pe_callTy call_int_str (by rfl) T.z_int (by decide +kernel) (pa_cons (pv 3) pa_nil)) (pa_cons (pe_op op_add (pe_op op_add (pv 1) pe_int) (pe_callB call_len_str (by rfl) T.z_len (by decide +kernel) (pa_cons (pv 3) pa_nil))) pa_nil))))))))
  pss_nil)
  (pss_cons (ps_set (i := 5) sc_law_key_at.nd rfl (Or.inl rfl) (cg o_law_word T.g__law_word (hr.mono (by omega)) (pa_cons (pv 0) (pa_cons (pv 1) pa_nil))))
  (pss_cons (ps_if (PW.pt (pw_or (pt_cmpR op_eq (pv 5) pe_str (nomark _)) (pw_or (pt_cmpR op_gt (pe_callB call_len_str (by rfl) T.z_len (by decide +kernel) (pa_cons (pv 5) pa_nil)) pe_int (nomark _)) (pw_or1 (PW.pt (pw_and (pt_cmpR op_eq (pv 2) pe_str (nomark _)) (pw_and1 (pt_cmpR op_notIn_seq (pv 5) (pe_lst (pa_cons pe_str (pa_cons pe_str (pa_cons pe_str (pa_cons pe_str (pa_cons pe_str (pa_cons pe_str pa_nil))))))) rfl))))))))
  (pss_one (ps_ret pe_non))
  pss_nil)
  (pss_one (ps_ret (pe_lst (pa_cons (pv 5) (pa_cons (pe_op op_add (pv 1) (pe_callB call_len_str (by rfl) T.z_len (by decide +kernel) (pa_cons (pv 5) pa_nil))) pa_nil)))))))), ?_⟩
    cases ky with
    | num n =>
      have hpl : pl.isSome = true := hk.1
      have h9 : n ≤ 9 := hk.2
      have hkd : decide (V.str (S (cKind pl)) = V.str "plural") = true := by
        cases pl with
        | none => cases hpl
        | some o => exact (show decide (V.str (S cPlural) = V.str "plural") = true by decide +kernel)
      have hT' : tx.drop p = 61 :: ((48 + n) :: 32 :: r) := hT
      have hp := (at_drop hT').2.1
      refine ⟨fun _ _ => False, ?_, fun _ _ h => h.elim⟩
      refine ⟨_, rfl, rfl, _, rfl, ?_⟩
      refine ite_t hkd ?_
      refine ⟨_, rfl, _, rfl, _, rfl, _, rfl, _, _, rfl, rfl, _, rfl, _, rfl, small_le (by rw [S_len]; omega), rfl, _, rfl, ?_⟩
      have e1 : cutS (S tx) (some ((p : Nat) : Int)) (some ((p : Nat) + 1 : Int)) = S [61] := by
        rw [show ((p : Nat) + 1 : Int) = ((p + 1 : Nat) : Int) by omega, cutS_two, hT']
        simp
      rw [e1]
      refine ite_t (by decide +kernel) ?_
      refine ⟨_, rfl, _, rfl, _, _, rfl, rfl, _, rfl, _, rfl, small_le (by rw [S_len]; omega), _, rfl, ?_⟩
      rw [show ((p : Nat) + 1 : Int) = ((p + 1 : Nat) : Int) by omega, cutS_from, (at_drop hT').2.2]
      refine for_S (l := (48 + n) :: 32 :: r) (fun i σ H' => i ≤ 1 ∧ (∃ v, σ = [some (.str (S tx)), some (.int (p : Int)), some (.str (S (cKind pl))), some (.str (S (((48 + n) :: 32 :: r).take i))), v, none]) ∧ H = H') ⟨Nat.zero_le _, ⟨none, rfl⟩, rfl⟩ ?_ ?_
      · rintro i c σ H' hi ⟨hil, ⟨v, rfl⟩, rfl⟩
        refine ⟨_, rfl, c, S digs, rfl, congrArg V.str digs_eq, _, rfl, ?_⟩
        rcases (by omega : i = 0 ∨ i = 1) with e | e
        · subst e
          have ec : c = 48 + n := by simpa using hi.symm
          subst ec
          refine ite_f (by rw [decide_eq_true (show 48 + n ∈ (S digs).cps.toList from mem_digs.mpr (by omega))]; rfl) ?_
          exact ⟨_, rfl, _, rfl, _, _, rfl, rfl, small_le (by rw [S_len, S_len]; simp), Nat.le_refl _, ⟨_, rfl⟩, rfl⟩
        · subst e
          have ec : c = 32 := by simpa using hi.symm
          subst ec
          refine ite_t (by rw [decide_eq_false (show ¬ 32 ∈ (S digs).cps.toList from fun h => by have := mem_digs.mp h; omega)]; rfl) ?_
          refine ⟨_, rfl, rfl, _, rfl, ?_⟩
          refine ite_f (str_ne (w := [48 + n]) (by simp)) ?_
          refine ⟨_, rfl, _, rfl, small_le (by rw [S_len]; simp), _, _, rfl, rfl, _, rfl, ?_⟩
          refine ite_f (decide_eq_false (by rw [S_len]; simp)) ?_
          refine ⟨_, rfl, _, _, 48 + n, rfl, rfl, small_le (by rw [S_len]; simp), at_S (q := 0) rfl, rfl, _, rfl, ?_⟩
          have fin : ∀ Q0 : Prop, True := fun _ => trivial
          by_cases h0 : n = 0
          · subst h0
            refine ite_t (by decide +kernel) ?_
            refine ⟨_, rfl, _, rfl, small_le (by rw [S_len]; simp), _, _, rfl, rfl, _, rfl, ?_⟩
            refine ite_f (decide_eq_false (by rw [S_len]; simp)) ?_
            refine ⟨_, rfl, _, _, rfl, int_dig 0 h9, by rw [S_len]; simp, _, rfl, _, _, rfl, rfl, _, rfl, _, rfl, small_le (by rw [S_len]; simp), _, _, rfl, rfl, by show 2 ≤ sizeLine; decide, fun t ht => ?_⟩
            exact k t _ (same_new ht _) upd_same
          · refine ite_f (decide_eq_false fun e => h0 ?_) (iteF ?_)
            · have := S_inj (V.str.inj e : S [48 + n] = S [48])
              simpa using this
            refine ⟨_, rfl, _, _, rfl, int_dig n h9, by rw [S_len]; simp, _, rfl, _, _, rfl, rfl, _, rfl, _, rfl, small_le (by rw [S_len]; simp), _, _, rfl, rfl, by show 2 ≤ sizeLine; decide, fun t ht => ?_⟩
            exact k t _ (same_new ht _) upd_same
      · rintro σ H' ⟨hil, _⟩
        simp at hil
    | wd wd =>
      have hw := hk.1
      have hne : wd ≠ [] := fun e => by have := hw.1; rw [e] at this; simp at this
      have hT' : tx.drop p = wd ++ (32 :: r) := hT
      have hp : p ≤ tx.length := drop_le hT' (by simp)
      have hkd : decide (V.str (S (cKind pl)) = V.str "plural") = pl.isSome := by
        cases pl with
        | none => decide +kernel
        | some o => exact (show decide (V.str (S cPlural) = V.str "plural") = true by decide +kernel)
      have hl1 := hw.1
      have hl2 := hw.2.1
      -- no '=' here
      refine ⟨fun σ H' => σ = [some (.str (S tx)), some (.int (p : Int)), some (.str (S (cKind pl))), none, none, none] ∧ H = H', ?_, ?_⟩
      · refine ⟨_, rfl, rfl, _, rfl, ?_⟩
        cases hps : pl.isSome with
        | false => exact ite_f (hkd.trans hps) (iteF ⟨rfl, rfl⟩)
        | true =>
          refine ite_t (hkd.trans hps) ?_
          refine ⟨_, rfl, _, rfl, _, rfl, _, rfl, _, _, rfl, rfl, _, rfl, _, rfl, small_le (by rw [S_len]; omega), rfl, _, rfl, ?_⟩
          have e1 : cutS (S tx) (some ((p : Nat) : Int)) (some ((p : Nat) + 1 : Int)) = S (wd.take 1) := by
            rw [show ((p : Nat) + 1 : Int) = ((p + 1 : Nat) : Int) by omega, cutS_two, hT', show p + 1 - p = 1 by omega, List.take_append_of_le_length hl1]
          rw [e1]
          refine ite_f (decide_eq_false fun e => ?_) ⟨rfl, rfl⟩
          have e2 : wd.take 1 = [61] := S_inj (V.str.inj e : S (wd.take 1) = S [61])
          have e3 : (61 : Nat) ∈ wd := List.mem_of_mem_take (by rw [e2]; simp : (61 : Nat) ∈ wd.take 1)
          have := hw.2.2 61 e3
          unfold ltr at this
          omega
      · rintro σ H' ⟨rfl, rfl⟩
        refine ⟨_, rfl, _, rfl, tx, p, wd, 32 :: r, rfl, hz, hT', hw.2.2, (fun c r' e => by cases e; unfold ltr; omega), ?_⟩
        refine ⟨_, rfl, rfl, _, rfl, ?_⟩
        refine ite_f (str_ne hne) ?_
        refine ⟨_, rfl, _, rfl, small_le (by rw [S_len]; omega), _, _, rfl, rfl, _, rfl, ?_⟩
        refine ite_f (decide_eq_false (by rw [S_len]; omega)) ?_
        refine ⟨_, rfl, rfl, _, rfl, ?_⟩
        cases hps : pl.isSome with
        | false =>
          refine ite_f (hkd.trans hps) (iteF ?_)
          refine ⟨_, rfl, _, rfl, _, rfl, _, rfl, small_le (by rw [S_len]; omega), _, _, rfl, rfl, by show 2 ≤ sizeLine; decide, fun t ht => ?_⟩
          refine k t _ (same_new ht _) ?_
          rw [upd_same, S_len]
          rfl
        | true =>
          refine ite_t (hkd.trans hps) ?_
          refine ⟨_, rfl, by show 6 ≤ sizeLine; decide, fun W hW => ?_⟩
          have sW := same_new (o := HO.lst [.str "zero", .str "one", .str "two", .str "few", .str "many", .str "other"]) hW
          refine ⟨_, _, rfl, .inl (SqL.of upd_same), rfl, rfl, _, rfl, ?_⟩
          have e6 : ([.str "zero", .str "one", .str "two", .str "few", .str "many", .str "other"] : List V) = (cats ++ [cOther]).map fun c => V.str (S c) := by decide +kernel
          refine ite_f ?_ ?_
          · rw [show inV (V.str (S wd)) [.str "zero", .str "one", .str "two", .str "few", .str "many", .str "other"] = decide (wd ∈ cats ++ [cOther]) by rw [e6]; exact inV_S wd _, decide_eq_true]
            · rfl
            · rcases hk.2 hps with h | h
              · exact List.mem_append_left _ h
              · exact List.mem_append_right _ (List.mem_singleton.mpr h)
          refine ⟨_, rfl, _, rfl, _, rfl, _, rfl, small_le (by rw [S_len]; omega), _, _, rfl, rfl, by show 2 ≤ sizeLine; decide, fun t ht => ?_⟩
          refine k t _ (sW.trans (same_new ht _)) ?_
          rw [upd_same, S_len]
          rfl
end
end Mw
/-! MwU -/
set_option Elab.async false
set_option linter.all false
set_option maxRecDepth 100000
set_option maxHeartbeats 4000000
namespace Mw
open PySem PySem.Spec PyProof.Rows L2
/-- list(text): its signs -/
theorem call_list_S {X : Cx} (hc : X.calm = true) : CallR X (.type "list") (fun xs H Q => ∃ z : Str, xs = [.str z] ∧ z.length ≤ sizeLine ∧ ∀ p, H p = none → Q (.ref p) (upd H p (.lst (z.cps.toList.map fun c => .str ⟨#[c]⟩)))) := by
  intro pins s σ H xs us Q I r h
  obtain ⟨z, e, hz, q⟩ := h
  subst e
  obtain ⟨u, eu, t, rfl⟩ := vals1 r
  subst eu
  refine PySem.call_list_str (I.ok.hd hc) z t (hn := hz) fun h' tk acc' c' hk hS hacc => ?_
  refine ⟨.ref s.heap.objs.size, upd H s.heap.objs.size (.lst (z.cps.toList.map fun c => .str ⟨#[c]⟩)), I.laid hk (Nat.le_refl _) (show ObjOk X.prog X.w _ h' _ (.lst (z.cps.toList.map fun c => .str ⟨#[c]⟩)) from ⟨?_, acc'.toList, c', ?_, ?_⟩), rfl, q _ (I.hok.fresh (Nat.le_refl _))⟩
  · rw [List.length_map]
    exact hz
  · have el : acc'.toList.length = acc'.size := by simp
    refine vals_of_at (by rw [List.length_map, el, hacc.1]; simp) fun j x w h1 h2 => ?_
    obtain ⟨c, u, hc, rfl⟩ := hacc.2 j w (by rw [← Array.getElem?_toList]; exact h2)
    rw [List.getElem?_map, Array.getElem?_toList, hc] at h1
    cases h1
    exact ⟨u, rfl⟩
  · simpa using hS
section
variable {P : Program} {w : World} {K : PySem.W.Frag} {mg : Str → Option Value} {base : Heap}
def spLChoice (K : PySem.W.Frag) (n : Nat) : Sp := fun vs H Q _ => ∃ (F : Fz) (T : List Nat) (p : Nat) (b : Bool) (pl : Option Nat) (name : List Nat) (cs : List (Ky × Sub n)) (ot : Sub n) (r : List Nat) (hd : Addr), vs = [.str (S T), .int (p : Int), .bl b, .ref hd] ∧
  H hd = some (.tup [.str (S (cKind pl)), .str (S name)]) ∧ T.length ≤ 5000 ∧ T.drop p = fOff pl ++ (chTail cs ot ++ r) ∧ (∀ o, pl = some o → o ≤ 9) ∧ cs.length ≤ 100 ∧ (cs.map (·.1)).Nodup ∧ (∀ c ∈ cs, kyOk pl.isSome c.1 ∧ ok n b c.2 ∧ plain n c.2 = c.2) ∧ ok n b ot ∧ plain n ot = ot ∧ Live F H ∧
  ∀ q t H', Same H H' → H' q = some (.lst [.ref t, .int ((p + (fOff pl).length + (chTail cs ot).length : Nat) : Int)]) → Dh K F H' (.ref t) (dNd (dat n) (.ch pl name cs ot)) → Q (.ref q) H'
def spLNode (K : PySem.W.Frag) (n : Nat) : Sp := fun vs H Q _ => ∃ (F : Fz) (T : List Nat) (p : Nat) (b : Bool) (nd : Nd (Sub n)) (r : List Nat), vs = [.str (S T), .int (p : Int), .bl b] ∧ T.length ≤ 5000 ∧ T.drop p = fNd (fmt n) nd ++ r ∧ ndOk b (ok n) nd ∧ one nd ∧ nd.map (plain n) = nd ∧ Live F H ∧
  ∀ q t H', Same H H' → H' q = some (.lst [.ref t, .int ((p + (fNd (fmt n) nd).length : Nat) : Int)]) → Dh K F H' (.ref t) (dNd (dat n) nd) → Q (.ref q) H'
def spLParsed (K : PySem.W.Frag) (n : Nat) : Sp := fun vs H Q _ => ∃ (F : Fz) (T : List Nat) (p : Nat) (b : Bool) (m : Sub n) (r : List Nat), vs = [.str (S T), .int (p : Int), .bl b] ∧ T.length ≤ 5000 ∧ T.drop p = fmt n m ++ r ∧ endR r ∧ ok n b m ∧ plain n m = m ∧ Live F H ∧
  ∀ q t H', Same H H' → H' q = some (.lst [.ref t, .int ((p + (fmt n m).length : Nat) : Int)]) → Dh K F H' (.ref t) (dat n m) → Q (.ref q) H'
theorem sc_law_parsed : FnScope ["_law_text", "_law_at", "_law_inside", "_law_found", "_law_turn", "_law_node_here"] ["_law_text", "_law_at", "_law_inside"] (defScope s_law_parsed) := ⟨rfl, rfl, rfl, by decide +kernel, rfl, by decide +kernel, by decide +kernel⟩
theorem ok_law_parsed0 (T : Tx K mg) : OkF P w K mg base d_law_parsed ["_law_text", "_law_at", "_law_inside"] 1 (spLParsed K 0) := by
  refine (okF T 56 (d := d_law_parsed) rfl sc_law_parsed (fun _ _ _ _ _ _ us hl => match us, hl with | [_, _, _], _ => rfl) ⟨rfl, rfl⟩ (fun vs H Q E h => ?_) (fun cdv A outer s H vs Q E hr h => ?_))
  · obtain ⟨_, _, _, _, m, _⟩ := h; exact nomatch m
  · obtain ⟨_, _, _, _, m, _⟩ := h; exact nomatch m
theorem units_plain {k : Nat} {m : List (Nd (Sub k))} (h : ∀ x ∈ m, x.map (plain k) = x) : ∀ u ∈ units m, u.map (plain k) = u := by
  intro u hu
  unfold units at hu
  obtain ⟨y, hy, hm⟩ := List.mem_flatMap.mp hu
  have hy2 := h y hy
  cases y with
  | text s =>
    obtain ⟨c, hc, rfl⟩ := List.mem_map.mp hm
    rfl
  | _ =>
    have e := List.mem_singleton.mp hm
    subst e
    exact hy2
/-- the texts that the fold leaves are no longer than what was read -/
theorem fold_text_len {k : Nat} {L : List (Nd (Sub k))} {u : List Nat} (h : Nd.text u ∈ L.foldl stp []) : u.length ≤ (L.flatMap (fNd (fmt k))).length := by
  have h1 : (fNd (fmt k) (.text u)).length ≤ ((L.foldl stp []).flatMap (fNd (fmt k))).length := fmt_nd_le h
  rw [fmt_fold, List.flatMap_nil, List.nil_append] at h1
  have h3 := len_fmt_text u
  have h4 : (fNd (fmt k) (.text u)).length = (u.flatMap esc).length := rfl
  omega
theorem ok_law_parsed_step (T : Tx K mg) {n : Nat} (o_law_node : OkF P w K mg base d_law_node ["_law_text", "_law_at", "_law_inside"] (3 * n + 5) (spLNode K n)) : OkF P w K mg base d_law_parsed ["_law_text", "_law_at", "_law_inside"] (3 * (n + 1) + 3) (spLParsed K (n + 1)) := by
  refine (okF T 56 (d := d_law_parsed) rfl sc_law_parsed (fun _ _ _ _ _ _ us hl => match us, hl with | [_, _, _], _ => rfl) ⟨rfl, rfl⟩ (fun vs H Q E h => ?_) (fun cdv A outer s H vs Q E hr h => ?_))
  · obtain ⟨F, T, p, b, m, r, rfl, _⟩ := h; rfl
  · obtain ⟨F, tx, p, b, m, r, rfl, hz, hT, hr0, ⟨hk1, hk⟩, hpl, lv, k⟩ := h
    refine ⟨_, (pss_cons (ps_set (i := 3) sc_law_parsed.nd rfl (Or.inl rfl) (pe_lst pa_nil))
  (pss_cons (ps_for PassesOwn.never rfl (pi_range1 (by rfl) T.z_range (pa_cons (pe_op op_add (pe_callB call_len_str (by rfl) T.z_len (by decide +kernel) (pa_cons (pv 0) pa_nil)) pe_int) pa_nil)) (pg_name (i := 4) sc_law_parsed.nd rfl (Or.inl rfl))
  (pss_cons (ps_if (PW.pt (pw_or (pt_cmpR op_ge (pv 1) (pe_callB call_len_str (by rfl) T.z_len (by decide +kernel) (pa_cons (pv 0) pa_nil)) (nomark _)) (pw_or1 (pt_cmpR op_eq (pe_ix ix_str (pv 0) (pv 1) (fun _ _ => rfl)) pe_str (nomark _)))))
  (pss_one (ps_ret (pe_lst (pa_cons (pv 3) (pa_cons (pv 1) pa_nil)))))
  pss_nil)
  (pss_cons (ps_set (i := 5) sc_law_parsed.nd rfl (Or.inl rfl) (cg o_law_node T.g__law_node (hr.mono (by omega)) (pa_cons (pv 0) (pa_cons (pv 1) (pa_cons (pv 2) pa_nil)))))
  (pss_cons (ps_if (pt_cmpR op_isN (pv 5) pe_non (nomark _))
  (pss_one (ps_ret pe_non))
  pss_nil)
  (pss_cons (ps_set (i := 1) sc_law_parsed.nd rfl (Or.inl rfl) (pe_ix ix_list (pv 5) pe_int (fun _ _ => rfl)))
  (pss_one (ps_if (PW.pt (pw_and (pt_cmpR op_eq (pe_ix ix_tup (pe_ix ix_list (pv 5) pe_int (fun _ _ => rfl)) pe_int (fun _ _ => rfl)) pe_str (nomark _)) (pw_and (pt_cmpR op_gt (pe_callB call_len_seq (by rfl) T.z_len (by decide +kernel) (pa_cons (pv 3) pa_nil)) pe_int (nomark _)) (pw_and1 (pt_cmpR op_eq (pe_ix ix_tup (pe_ix ix_list (pv 3) (pe_un un_neg pe_int) (fun _ _ => rfl)) pe_int (fun _ _ => rfl)) pe_str (nomark _))))))
  (pss_one (ps_asg (pe_tup (pa_cons pe_str (pa_cons (pe_op op_add_str (pe_ix ix_tup (pe_ix ix_list (pv 3) (pe_un un_neg pe_int) (fun _ _ => rfl)) pe_int (fun _ _ => rfl)) (pe_ix ix_tup (pe_ix ix_list (pv 5) pe_int (fun _ _ => rfl)) pe_int (fun _ _ => rfl))) pa_nil))) (pg_sub (pv 3) (pe_un un_neg pe_int) set_list)))
  (pss_one (ps_expr (pe_bm PySem.F.plainAttrs_list PySem.F.slot_list_append PySem.F.type_list_append mt_append (pv 3) (pa_cons (pe_ix ix_list (pv 5) pe_int (fun _ _ => rfl)) pa_nil)))))))))))
  (pss_one (ps_ret pe_non)))), ?_⟩
    have hpi := plain_inner hpl
    have hU := units_ok hk
    have hUp := units_plain hpi.1
    have hUf : (units m).foldl stp [] = m := (fold_units m []).trans hpi.2.fold
    have eU : fmt (n + 1) m = (units m).flatMap (fNd (fmt n)) := by rw [fmt_units]; rfl
    rw [eU] at hT k
    have hlen := congrArg List.length hT
    rw [List.length_drop, List.length_append] at hlen
    have zU : (units m).length ≤ tx.length := by
      have h1 := len_flat (f := fNd (fmt n)) (l := units m) fun nd hnd => by
        obtain ⟨c, w, e, _⟩ := node_first (hU nd hnd).1 (hU nd hnd).2
        rw [e]; simp
      omega
    have eM : dat (n + 1) m = .list (((units m).foldl stp []).map (dNd (dat n))) := by rw [hUf]; rfl
    rw [eM] at k
    generalize units m = U at *
    refine ⟨Nat.zero_le _, fun f hf => ?_⟩
    have s0 := same_new (o := HO.lst []) hf
    have fF : F f = false := lv.new hf
    refine ⟨_, rfl, _, rfl, small_le (by rw [S_len]; omega), _, _, rfl, rfl, _, rfl, by rw [S_len]; omega, by rw [S_len]; omega, for_range (lo := 0) (n := (((S tx).length : Int) + 1).toNat) (fun j σ H' => ∃ v4 v5 vs, j ≤ U.length ∧ σ = [some (.str (S tx)), some (.int ((p + ((U.take j).flatMap (fNd (fmt n))).length : Nat) : Int)), some (.bl b), some (.ref f), v4, v5] ∧ H' f = some (.lst vs) ∧ Same H H' ∧
      DhA K (add F f) H' vs (((U.take j).foldl stp []).map (dNd (dat n)))) ⟨none, none, [], Nat.zero_le _, rfl, upd_same, s0, .nil⟩ ?_ ?_⟩
    · rintro j σ H' hj ⟨v4, v5, vs, hjl, rfl, hf', s1, hvs⟩
      have hTj : tx.drop (p + ((U.take j).flatMap (fNd (fmt n))).length) = (U.drop j).flatMap (fNd (fmt n)) ++ r := by
        refine drop_add ?_
        rw [hT]
        conv => lhs; rw [← List.take_append_drop j U, List.flatMap_append, List.append_assoc]
      have zpre : ((U.take j).flatMap (fNd (fmt n))).length ≤ 5000 := by
        have := flat_take_le (fNd (fmt n)) U j
        omega
      have zT : ∀ u, Nd.text u ∈ (U.take j).foldl stp [] → u.length ≤ 5000 := fun u hu => Nat.le_trans (fold_text_len hu) zpre
      have zL : ((U.take j).foldl stp []).length ≤ 5000 := by
        have := fold_len (U.take j) []
        simp only [List.length_nil, List.length_take] at this
        omega
      generalize hq : p + ((U.take j).flatMap (fNd (fmt n))).length = q at *
      have lv' : Live (add F f) H' := (lv.same s1).add (by rw [hf']; simp)
      refine ⟨_, rfl, _, rfl, _, rfl, small_le (by rw [S_len]; omega), _, _, rfl, rfl, _, rfl, ?_⟩
      by_cases hend : j = U.length
      · rw [hend, List.drop_length, List.flatMap_nil, List.nil_append] at hTj
        rw [hend, List.take_length] at hvs hq
        have fin : ∀ t, H' t = none → Q (.ref t) (upd H' t (.lst [.ref f, .int (q : Int)])) := fun t ht => by
          refine k t f _ (s1.trans (same_new ht _)) (by rw [upd_same, hq]) ?_
          exact .lst ((Av_get fF).trans (same_new ht _ _ _ hf')) ((hvs.same (same_new ht _)).weak add_sub)
        by_cases hl : q < tx.length
        · refine ite_f (decide_eq_false (by rw [S_len]; omega)) ?_
          have hc : tx[q]? = some 125 := by
            rw [List.drop_eq_getElem_cons hl] at hTj
            have := hr0 _ _ hTj.symm
            rw [List.getElem?_eq_getElem hl, this]
          refine ⟨_, rfl, _, rfl, _, _, 125, rfl, rfl, small_le (by rw [S_len]; omega), at_S hc, rfl, _, rfl, ?_⟩
          refine ite_t (by decide +kernel) ?_
          exact ⟨_, rfl, _, rfl, by show 2 ≤ sizeLine; decide, fin⟩
        · refine ite_t (decide_eq_true (by rw [S_len]; omega)) ?_
          exact ⟨_, rfl, _, rfl, by show 2 ≤ sizeLine; decide, fin⟩
      · have hjlt : j < U.length := by omega
        have hnd := List.getElem?_eq_getElem hjlt
        generalize hnde : U[j] = nd at hnd
        have hmem := List.mem_of_getElem? hnd
        have hm2 := hU nd hmem
        obtain ⟨c, wr, ec, hc⟩ := node_first hm2.1 hm2.2
        rw [List.drop_eq_getElem_cons hjlt, hnde, List.flatMap_cons, List.append_assoc] at hTj
        have hc2 := at_drop (hTj.trans (by rw [ec]; rfl))
        refine ite_f (decide_eq_false (by rw [S_len]; omega)) ?_
        refine ⟨_, rfl, _, rfl, _, _, c, rfl, rfl, small_le (by rw [S_len]; omega), at_S hc2.1, rfl, _, rfl, ?_⟩
        refine ite_f ((sgn c 125).trans (decide_eq_false hc)) ?_
        -- the node
        refine ⟨_, rfl, _, rfl, _, rfl, add F f, tx, q, b, nd, _, rfl, hz, hTj, hm2.1, hm2.2, hUp nd hmem, lv', fun nq nt H2 s2 hnq hnt => ?_⟩
        have hf2 := s2 _ _ hf'
        have s12 := s1.trans s2
        have hvs2 := hvs.same s2
        refine ⟨_, rfl, rfl, _, rfl, ?_⟩
        refine ite_f (decide_eq_false fun e => nomatch e) ?_
        refine ⟨_, rfl, nq, _, _, _, rfl, rfl, SqL.of hnq, atI_nat (j := 1) rfl, ?_⟩
        obtain ⟨nt', ns, e1, hns⟩ := dp_node (Dh.out hnt)
        cases e1
        have etake : (U.take (j + 1)).foldl stp [] = stp ((U.take j).foldl stp []) nd := by
          rw [take_more hnd, List.foldl_append]
          rfl
        have epos : q + (fNd (fmt n) nd).length = p + ((U.take (j + 1)).flatMap (fNd (fmt n))).length := by
          rw [flat_take hnd, List.length_append, ← hq, Nat.add_assoc]
        rw [etake, epos]
        generalize hL : (U.take j).foldl stp [] = L at *
        have lvs : vs.length = L.length := by rw [DpAll.len hvs, List.length_map]
        have fin1 : stp L nd = L ++ [nd] → ∃ v4 v5 vs', j + 1 ≤ U.length ∧ [some (V.str (S tx)), some (.int ((p + ((U.take (j + 1)).flatMap (fNd (fmt n))).length : Nat) : Int)), some (.bl b), some (.ref f), some (.int (0 + (j : Int))), some (.ref nq)] = [some (.str (S tx)), some (.int ((p + ((U.take (j + 1)).flatMap (fNd (fmt n))).length : Nat) : Int)), some (.bl b), some (.ref f), v4, v5] ∧ (upd H2 f (.lst (vs ++ [.ref nt]))) f = some (.lst vs') ∧ Same H (upd H2 f (.lst (vs ++ [.ref nt]))) ∧
            DhA K (add F f) (upd H2 f (.lst (vs ++ [.ref nt]))) vs' ((stp L nd).map (dNd (dat n))) := fun e => by
          refine ⟨_, _, _, hjlt, rfl, upd_same, same_mut s12 hf, ?_⟩
          rw [e, List.map_append]
          exact DhA.updF (DpAll.snoc hvs2 hnt) (add_self _ _)
        have app : stp L nd = L ++ [nd] → tDrop (tBM K "list" rAppend (tVar 3) (tCons (tOp (rIxL K) (tVar 5) (tC (.int 0))) tNil)) { nx := fun σ H' => ∃ v4 v5 vs', j + 1 ≤ U.length ∧ σ = [some (V.str (S tx)), some (.int ((p + ((U.take (j + 1)).flatMap (fNd (fmt n))).length : Nat) : Int)), some (.bl b), some (.ref f), v4, v5] ∧ H' f = some (.lst vs') ∧ Same H H' ∧ DhA K (add F f) H' vs' ((stp L nd).map (dNd (dat n))), rt := Q }
            [some (V.str (S tx)), some (.int ((p + ((U.take (j + 1)).flatMap (fNd (fmt n))).length : Nat) : Int)), some (.bl b), some (.ref f), some (.int (0 + (j : Int))), some (.ref nq)] H2 := fun e => by
          exact ⟨_, rfl, .inl ⟨rfl, _, SqL.of hf2⟩, _, rfl, nq, _, _, _, rfl, rfl, SqL.of hnq, atI_nat (j := 0) rfl, f, vs, _, rfl, rfl, hf2, small_lt (by omega), fin1 e⟩
        refine ⟨_, rfl, nq, _, _, _, rfl, rfl, SqL.of hnq, atI_nat (j := 0) rfl, nt, _, _, _, rfl, rfl, hns, atI_nat (j := 0) rfl, rfl, _, rfl, ?_⟩
        by_cases hT2 : ∃ t, nd = .text t
        · obtain ⟨t, rfl⟩ := hT2
          obtain ⟨c', rfl⟩ := hm2.2 t rfl
          refine ite_t (decide_eq_true rfl) ?_
          refine ⟨_, rfl, f, _, rfl, .inl (SqL.of hf2), _, _, rfl, rfl, _, rfl, ?_⟩
          obtain ⟨nt', e', hxt⟩ := dp_text (Dh.out hnt)
          cases e'
          rcases hlast : L.getLast? with _ | y
          · have e0 : L = [] := List.getLast?_eq_none_iff.mp hlast
            have e1 : vs.length = 0 := by rw [lvs, e0]; rfl
            refine ite_f (decide_eq_false (by omega)) ?_
            refine iteF ?_
            exact app (stp_text_no (fun u e => by rw [hlast] at e; cases e) (by simp))
          · have eL := last_split hlast
            have hvs3 := hvs2
            rw [eL, List.map_append] at hvs3
            obtain ⟨vs0, v0, ev, hv1, hv2⟩ := DpAll.snocInv hvs3
            refine ite_t (decide_eq_true (by rw [ev, List.length_append]; simp)) ?_
            obtain ⟨la, ls, rfl, hla⟩ := dp_node (Dh.out hv2)
            refine ⟨_, rfl, _, rfl, f, vs, _, .ref la, rfl, rfl, SqL.of hf2, by rw [ev]; exact atI_last _ _, _, _, _, _, rfl, rfl, hla, atI_nat (j := 0) rfl, rfl, _, rfl, ?_⟩
            by_cases hu : ∃ u, y = .text u
            · obtain ⟨u, rfl⟩ := hu
              refine ite_t (decide_eq_true rfl) ?_
              obtain ⟨la', e', hlt⟩ := dp_text (Dh.out hv2)
              cases e'
              have hu4 := zT u (List.mem_of_getLast? hlast)
              refine ⟨_, rfl, _, rfl, f, vs, _, .ref la, rfl, rfl, SqL.of hf2, by rw [ev]; exact atI_last _ _, _, _, _, _, rfl, rfl, hlt, rfl, _, rfl, nq, _, _, _, rfl, rfl, SqL.of hnq, atI_nat (j := 0) rfl, nt, _, _, _, rfl, rfl, hxt, rfl, _, _, rfl, rfl, small_le (by rw [S_len, S_len]; simp; omega), by show 2 ≤ sizeLine; decide, fun p2 hp2 => ?_⟩
              have s5 : Same H2 (upd H2 p2 (.tup [.str "text", .str (S u ++ S [c'])])) := same_new hp2 _
              refine ⟨_, rfl, _, rfl, f, vs, _, vs0.length, rfl, rfl, s5 _ _ hf2, by rw [ev]; exact ixN_m1 _ _, ?_⟩
              refine ⟨_, _, _, hjlt, rfl, upd_same, same_mut (s12.trans s5) hf, ?_⟩
              refine DhA.updF ?_ (add_self _ _)
              rw [stp_text_text hlast, ev, set_last, List.map_append]
              refine DpAll.snoc (DhA.same hv1 s5) ?_
              have f2 : add F f p2 = false := (lv'.same s2).new hp2
              rw [S_app]
              rw [S_app] at s5
              exact .tup ((Av_get f2).trans upd_same) (.cons (.str _) (.cons (.str _) .nil))
            · refine ite_f ?_ ?_
              · exact decide_eq_false fun e => tag_no hu (V.str.inj e)
              · exact app (stp_text_no (fun u e => hu ⟨u, by rw [hlast] at e; exact Option.some.inj e⟩) (by simp))
        · refine ite_f ?_ (iteF ?_)
          · exact decide_eq_false fun e => tag_no hT2 (V.str.inj e)
          · refine app ?_
            cases nd with
            | text u => exact absurd ⟨u, rfl⟩ hT2
            | _ => rfl
    · rintro σ H' ⟨v4, v5, vs, hjl, rfl, hf', s1, hvs⟩
      exfalso
      rw [S_len] at hjl
      omega
def chs : List Nat := [39, 123, 125, 35]
theorem chs_escs {c : Nat} : c ∈ chs ↔ c ∈ escs := by
  unfold chs escs
  simp only [List.mem_cons, List.not_mem_nil, or_false]
  omega
theorem cut_one {T : List Nat} {p c : Nat} {r : List Nat} (h : T.drop p = c :: r) : cutS (S T) (some ((p : Nat) : Int)) (some ((p : Nat) + 1 : Int)) = S [c] := by
  rw [show ((p : Nat) + 1 : Int) = ((p + 1 : Nat) : Int) by omega, cutS_two, h, show p + 1 - p = 1 by omega]
  rfl
theorem sc_law_node : FnScope ["_law_text", "_law_at", "_law_inside", "_law_sign", "_law_written", "_law_char", "_law_name"] ["_law_text", "_law_at", "_law_inside"] (defScope s_law_node) := ⟨rfl, rfl, rfl, by decide +kernel, rfl, by decide +kernel, by decide +kernel⟩
theorem ok_law_node (T : Tx K mg) {n : Nat} (o_law_choice : OkF P w K mg base d_law_choice ["_law_text", "_law_at", "_law_inside", "_law_head"] (3 * n + 4) (spLChoice K n)) : OkF P w K mg base d_law_node ["_law_text", "_law_at", "_law_inside"] (3 * n + 5) (spLNode K n) := by
  have o_law_word : OkF P w K mg base d_law_word ["_law_text", "_law_at"] 1 spLWord := ok_law_word T
  refine (okF T 55 (d := d_law_node) rfl sc_law_node (fun _ _ _ _ _ _ us hl => match us, hl with | [_, _, _], _ => rfl) ⟨rfl, rfl⟩ (fun vs H Q E h => ?_) (fun cdv A outer s H vs Q E hr h => ?_))
  · obtain ⟨F, T, p, b, nd, r, rfl, _⟩ := h; rfl
  · obtain ⟨F, tx, p, b, nd, r, rfl, hz, hT, hk, h1, hpm, lv, k⟩ := h
    refine ⟨_, (pss_cons (ps_set (i := 3) sc_law_node.nd rfl (Or.inl rfl) (pe_ix ix_str (pv 0) (pv 1) (fun _ _ => rfl)))
  (pss_cons (ps_if (pt_cmpR op_eq (pv 3) pe_str (nomark _))
  (pss_cons (ps_for PassesOwn.never rfl (pi_list (pe_lst (pa_cons (pe_tup (pa_cons pe_str (pa_cons pe_str pa_nil))) (pa_cons (pe_tup (pa_cons pe_str (pa_cons pe_str pa_nil))) (pa_cons (pe_tup (pa_cons pe_str (pa_cons pe_str pa_nil))) (pa_cons (pe_tup (pa_cons pe_str (pa_cons pe_str pa_nil))) pa_nil)))))) (pg_tup rfl (pgs_cons (pg_name (i := 4) sc_law_node.nd rfl (Or.inl rfl)) (pgs_cons (pg_name (i := 5) sc_law_node.nd rfl (Or.inl rfl)) pgs_nil)))
  (pss_one (ps_if (pt_cmpR op_eq (pe_slice sl_str (pv 0) (po_some (pv 1)) (po_some (pe_op op_add (pv 1) (pe_callB call_len_str (by rfl) T.z_len (by decide +kernel) (pa_cons (pv 4) pa_nil))))) (pv 4) (nomark _))
  (pss_one (ps_ret (pe_lst (pa_cons (pe_tup (pa_cons pe_str (pa_cons (pv 5) pa_nil))) (pa_cons (pe_op op_add (pv 1) (pe_callB call_len_str (by rfl) T.z_len (by decide +kernel) (pa_cons (pv 4) pa_nil))) pa_nil)))))
  pss_nil)))
  (pss_one (ps_ret pe_non)))
  pss_nil)
  (pss_cons (ps_if (pt_cmpR op_eq (pv 3) pe_str (nomark _))
  (pss_one (ps_ret (pe_ix ix_list (pe_lst (pa_cons (pe_lst (pa_cons (pe_tup (pa_cons pe_str pa_nil)) (pa_cons (pe_op op_add (pv 1) pe_int) pa_nil))) (pa_cons pe_non pa_nil))) (pe_callTy call_int1 (by rfl) T.z_int (by decide +kernel) (pa_cons (pe_not (pv 2)) pa_nil)) (fun _ _ => rfl))))
  pss_nil)
  (pss_cons (ps_if (pt_cmpR op_ne (pv 3) pe_str (nomark _))
  (pss_one (ps_ret (pe_lst (pa_cons (pe_tup (pa_cons pe_str (pa_cons (pv 3) pa_nil))) (pa_cons (pe_op op_add (pv 1) pe_int) pa_nil)))))
  pss_nil)
  (pss_cons (ps_set (i := 6) sc_law_node.nd rfl (Or.inl rfl) (cg o_law_word T.g__law_word (hr.mono (by omega)) (pa_cons (pv 0) (pa_cons (pe_op op_add (pv 1) pe_int) pa_nil))))
  (pss_cons (ps_set (i := 1) sc_law_node.nd rfl (Or.inl rfl) (pe_op op_add (pe_op op_add (pv 1) pe_int) (pe_callB call_len_str (by rfl) T.z_len (by decide +kernel) (pa_cons (pv 6) pa_nil))))
  (pss_cons (ps_if (PW.pt (pw_or (pt_cmpR op_eq (pv 6) pe_str (nomark _)) (pw_or1 (pt_cmpR op_gt (pe_callB call_len_str (by rfl) T.z_len (by decide +kernel) (pa_cons (pv 6) pa_nil)) pe_int (nomark _)))))
  (pss_one (ps_ret pe_non))
  pss_nil)
  (pss_cons (ps_if (pt_cmpR op_eq (pe_slice sl_str (pv 0) (po_some (pv 1)) (po_some (pe_op op_add (pv 1) pe_int))) pe_str (nomark _))
  (pss_one (ps_ret (pe_lst (pa_cons (pe_tup (pa_cons pe_str (pa_cons (pv 6) pa_nil))) (pa_cons (pe_op op_add (pv 1) pe_int) pa_nil)))))
  pss_nil)
  (pss_cons (ps_if (pt_cmpR op_eq (pe_slice sl_str (pv 0) (po_some (pv 1)) (po_some (pe_op op_add (pv 1) pe_int))) pe_str (nomark _))
  (pss_one (ps_ret (cg o_law_choice T.g__law_choice (hr.mono (by omega)) (pa_cons (pv 0) (pa_cons (pe_op op_add (pv 1) pe_int) (pa_cons (pv 2) (pa_cons (pe_tup (pa_cons pe_str (pa_cons (pv 6) pa_nil))) pa_nil)))))))
  pss_nil)
  (pss_cons (ps_if (pt_cmpR op_eq (pe_slice sl_str (pv 0) (po_some (pv 1)) (po_some (pe_op op_add (pv 1) pe_int))) pe_str (nomark _))
  (pss_one (ps_ret (cg o_law_choice T.g__law_choice (hr.mono (by omega)) (pa_cons (pv 0) (pa_cons (pe_op op_add (pv 1) pe_int) (pa_cons pe_bl (pa_cons (pe_tup (pa_cons pe_str (pa_cons (pv 6) pa_nil))) pa_nil)))))))
  pss_nil)
  (pss_one (ps_ret pe_non)))))))))))), ?_⟩
    obtain ⟨c, wr, ec, hc⟩ := node_first hk h1
    have hc2 := at_drop (hT.trans (by rw [ec]; rfl))
    refine ⟨_, rfl, _, rfl, _, _, c, rfl, rfl, small_le (by rw [S_len]; omega), at_S hc2.1, ?_⟩
    refine ⟨_, rfl, rfl, _, rfl, ?_⟩
    by_cases hq : ∃ c', nd = .text [c'] ∧ c' ∈ escs
    · obtain ⟨c', rfl, hce⟩ := hq
      have ee : fNd (fmt n) (.text [c']) = esc c' := by simp [fNd]
      rw [ee] at ec hT k
      have e39 : c = 39 := by
        unfold escs at hce
        simp only [List.mem_cons, List.not_mem_nil, or_false] at hce
        rcases hce with rfl | rfl | rfl | rfl <;> (injection ec with e1 _; exact e1.symm)
      subst e39
      refine ite_t (by decide +kernel) ?_
      refine ⟨by show 2 ≤ sizeLine; decide, fun t1 ht1 => ⟨by show 2 ≤ sizeLine; decide, fun t2 ht2 => ⟨by show 2 ≤ sizeLine; decide, fun t3 ht3 => ⟨by show 2 ≤ sizeLine; decide, fun t4 ht4 => ⟨by show 4 ≤ sizeLine; decide, fun W hW => ?_⟩⟩⟩⟩⟩
      have s1 := same_new (o := HO.tup [.str "''", .str "'"]) ht1
      have s2 := same_new (o := HO.tup [.str "'{'", .str "{"]) ht2
      have s3 := same_new (o := HO.tup [.str "'}'", .str "}"]) ht3
      have s4 := same_new (o := HO.tup [.str "'#'", .str "#"]) ht4
      have s5 := same_new (o := HO.lst [.ref t1, .ref t2, .ref t3, .ref t4]) hW
      have s15 := (((s1.trans s2).trans s3).trans s4).trans s5
      have g1 := (((s2.trans s3).trans s4).trans s5) _ _ upd_same
      have g2 := ((s3.trans s4).trans s5) _ _ upd_same
      have g3 := (s4.trans s5) _ _ upd_same
      have g4 := s5 _ _ upd_same
      have gW : (upd (upd (upd (upd (upd H t1 (.tup [.str "''", .str "'"])) t2 (.tup [.str "'{'", .str "{"])) t3 (.tup [.str "'}'", .str "}"])) t4 (.tup [.str "'#'", .str "#"])) W (.lst [.ref t1, .ref t2, .ref t3, .ref t4])) W = some (.lst [.ref t1, .ref t2, .ref t3, .ref t4]) := upd_same
      clear s1 s2 s3 s4 s5
      generalize upd (upd (upd (upd (upd H t1 (.tup [.str "''", .str "'"])) t2 (.tup [.str "'{'", .str "{"])) t3 (.tup [.str "'}'", .str "}"])) t4 (.tup [.str "'#'", .str "#"])) W (.lst [.ref t1, .ref t2, .ref t3, .ref t4]) = HW at *
      have items : ∀ (i : Nat) (x : V), ([.ref t1, .ref t2, .ref t3, .ref t4] : List V)[i]? = some x → ∃ t d, x = .ref t ∧ chs[i]? = some d ∧ HW t = some (.tup [.str (S (esc d)), .str (S [d])]) := by
        intro i x hx
        match i with
        | 0 => cases hx; exact ⟨t1, 39, rfl, rfl, g1⟩
        | 1 => cases hx; exact ⟨t2, 123, rfl, rfl, g2⟩
        | 2 => cases hx; exact ⟨t3, 125, rfl, rfl, g3⟩
        | 3 => cases hx; exact ⟨t4, 35, rfl, rfl, g4⟩
        | i + 4 => simp at hx
      have hp : p ≤ tx.length := by omega
      refine ⟨W, rfl, ⟨_, SqL.of gW⟩, for_list (K := K) (a := W) (xs := [.ref t1, .ref t2, .ref t3, .ref t4]) (fun i σ H' => (∃ v4 v5, σ = [some (.str (S tx)), some (.int (p : Int)), some (.bl b), some (.str (S [39])), v4, v5, none]) ∧ HW = H' ∧ ∀ j, j < i → chs[j]? ≠ some c') ⟨⟨none, none, rfl⟩, rfl, fun j h => by omega⟩ (fun i σ H' _ h => by rw [← h.2.1]; exact SqL.of gW) ?_ ?_⟩
      · rintro i x σ H' hi ⟨⟨v4, v5, rfl⟩, rfl, hj⟩
        obtain ⟨t, d, rfl, hd, ht⟩ := items i x hi
        have hde : d ∈ escs := chs_escs.mp (List.mem_of_getElem? hd)
        refine ⟨t, _, rfl, SqT.of ht, rfl, _, _, rfl, _, _, rfl, rfl, ?_⟩
        have hel : (esc d).length ≤ 3 := esc_len d
        refine ⟨_, rfl, _, rfl, _, rfl, _, rfl, _, rfl, _, rfl, small_le (by rw [S_len]; omega), _, _, rfl, rfl, _, rfl, _, rfl, small_le (by rw [S_len]; omega), _, rfl, rfl, _, rfl, ?_⟩
        have e1 : cutS (S tx) (some ((p : Nat) : Int)) (some ((p : Int) + ((S (esc d)).length : Int))) = S ((esc c' ++ r).take (esc d).length) := by
          rw [S_len, show ((p : Int) + ((esc d).length : Int)) = ((p + (esc d).length : Nat) : Int) by omega, cutS_two, hT, show p + (esc d).length - p = (esc d).length by omega]
        rw [e1, dec_S]
        by_cases hdc : d = c'
        · subst hdc
          refine ite_t (decide_eq_true (by simp)) ?_
          refine ⟨_, rfl, by show 2 ≤ sizeLine; decide, fun t5 ht5 => ⟨_, rfl, _, rfl, _, rfl, small_le (by rw [S_len]; omega), _, _, rfl, rfl, by show 2 ≤ sizeLine; decide, fun q5 hq5 => ?_⟩⟩
          have s6 := same_new (o := HO.tup [.str "text", .str (S [d])]) ht5
          have f5 : F t5 = false := lv.new (s15.hole ht5)
          have s7 := same_new (o := HO.lst [.ref t5, .int ((p : Int) + ((S (esc d)).length : Int))]) hq5
          refine k q5 t5 _ ((s15.trans s6).trans s7) ?_ ?_
          · rw [upd_same, S_len]
            rfl
          · exact .tup ((Av_get f5).trans (s7 _ _ upd_same)) (.cons (.str _) (.cons (.str _) .nil))
        · refine ite_f (decide_eq_false fun e => hdc ?_) ⟨⟨_, _, rfl⟩, rfl, fun j hji he => ?_⟩
          · have h2 := esc_two (r := r) hce hde
            rw [e] at h2
            have h3 : (true : Bool) = decide (d = c') := by rw [← h2]; simp
            exact of_decide_eq_true h3.symm
          · by_cases e2 : j = i
            · subst e2
              rw [hd] at he
              exact hdc (Option.some.inj he)
            · exact hj j (by omega) he
      · rintro σ H' ⟨_, rfl, hj⟩
        exfalso
        obtain ⟨j, hj1, hj2⟩ := List.mem_iff_getElem.mp (chs_escs.mpr hce)
        exact hj j hj1 (by rw [List.getElem?_eq_getElem hj1, hj2])
    · have h39 : c ≠ 39 := fun e => by
        cases nd with
        | text t =>
          obtain ⟨c', rfl⟩ := h1 t rfl
          have ee : fNd (fmt n) (.text [c']) = esc c' := by simp [fNd]
          rw [ee] at ec
          have hne : c' ∉ escs := fun h => hq ⟨c', rfl, h⟩
          have he : esc c' = [c'] := by
            unfold escs at hne
            simp only [List.mem_cons, List.not_mem_nil, or_false, not_or] at hne
            unfold esc
            rw [if_neg hne.2.2.2, if_neg fun h => by rcases h with h | h | h <;> simp_all]
          rw [he] at ec
          injection ec with e1 _
          exact hne (by rw [e1, e]; decide)
        | shw t => injection ec with e1 _; omega
        | num => injection ec with e1 _; omega
        | ch pl name cs ot => injection ec with e1 _; omega
      refine ite_f ((sgn c 39).trans (decide_eq_false h39)) ?_
      refine ⟨_, rfl, rfl, _, rfl, ?_⟩
      cases nd with
      | num =>
        injection ec with e1 e2
        subst e1
        refine ite_t (by decide +kernel) ?_
        have hb : b = true := hk
        subst hb
        refine ⟨by show 1 ≤ sizeLine; decide, fun t5 ht5 => ⟨_, rfl, _, _, rfl, rfl, by show 2 ≤ sizeLine; decide, fun q5 hq5 => ⟨by show 2 ≤ sizeLine; decide, fun W hW => ⟨_, rfl, true, rfl, .inr ⟨_, rfl, W, _, _, _, rfl, rfl, SqL.of upd_same, atI_nat (j := 0) rfl, ?_⟩⟩⟩⟩⟩
        have s6 := same_new (o := HO.tup [.str "number"]) ht5
        have f5 : F t5 = false := lv.new ht5
        have s7 := same_new (o := HO.lst [.ref t5, .int ((p : Int) + 1)]) hq5
        have s8 := same_new (o := HO.lst [.ref q5, .non]) hW
        refine k q5 t5 _ ((s6.trans s7).trans s8) (s8 _ _ upd_same) ?_
        exact .tup ((Av_get f5).trans (s8 _ _ (s7 _ _ upd_same))) (.cons (.str _) .nil)
      | text t =>
        obtain ⟨c', rfl⟩ := h1 t rfl
        have ee : fNd (fmt n) (.text [c']) = esc c' := by simp [fNd]
        have hne : c' ∉ escs := fun h => hq ⟨c', rfl, h⟩
        have hne2 := hne
        unfold escs at hne2
        simp only [List.mem_cons, List.not_mem_nil, or_false, not_or] at hne2
        have he : esc c' = [c'] := by
          unfold esc
          rw [if_neg hne2.2.2.2, if_neg fun h => by rcases h with h | h | h <;> simp_all]
        rw [ee, he] at ec k
        injection ec with e1 _
        subst e1
        refine ite_f ((sgn c' 35).trans (decide_eq_false hne2.2.2.1)) ?_
        refine ⟨_, rfl, rfl, _, rfl, ?_⟩
        refine ite_t (by rw [show decide (V.str (S [c']) = V.str "{") = false from (sgn c' 123).trans (decide_eq_false hne2.1)]; rfl) ?_
        refine ⟨_, rfl, by show 2 ≤ sizeLine; decide, fun t5 ht5 => ⟨_, rfl, _, _, rfl, rfl, by show 2 ≤ sizeLine; decide, fun q5 hq5 => ?_⟩⟩
        have s6 := same_new (o := HO.tup [.str "text", .str (S [c'])]) ht5
        have f5 : F t5 = false := lv.new ht5
        have s7 := same_new (o := HO.lst [.ref t5, .int ((p : Int) + 1)]) hq5
        refine k q5 t5 _ (s6.trans s7) upd_same ?_
        exact .tup ((Av_get f5).trans (s7 _ _ upd_same)) (.cons (.str _) (.cons (.str _) .nil))
      | shw name =>
        injection ec with e1 e2
        subst e1
        refine ite_f (by decide +kernel) ?_
        refine ⟨_, rfl, rfl, _, rfl, ?_⟩
        refine ite_f (by decide +kernel) ?_
        have hT1 := hc2.2.2
        have hnm : nmOk name := hk
        have hT2 : tx.drop (p + 1) = name ++ (125 :: r) := by
          rw [hT1, ← e2]; simp
        have hnl := hnm.2.1
        have hnl1 := hnm.1
        have hne : name ≠ [] := fun e => by rw [e] at hnl1; simp at hnl1
        refine ⟨_, rfl, _, rfl, _, _, rfl, rfl, tx, p + 1, name, _, rfl, hz, hT2, hnm.2.2, (fun c r' e => by cases e; unfold ltr; omega), ?_⟩
        refine ⟨_, rfl, _, _, rfl, rfl, _, rfl, _, rfl, small_le (by rw [S_len]; omega), _, _, rfl, rfl, ?_⟩
        have hT3 := drop_add hT2
        have eq : ((p : Int) + 1 + ((S name).length : Int)) = ((p + 1 + name.length : Nat) : Int) := by rw [S_len]; omega
        have epl : p + 1 + name.length ≤ tx.length := drop_le hT3 (by simp)
        simp only [eq]
        generalize hqd : p + 1 + name.length = q at *
        refine ⟨_, rfl, rfl, _, rfl, ?_⟩
        refine ite_f (str_ne hne) ?_
        refine ⟨_, rfl, _, rfl, small_le (by rw [S_len]; omega), _, _, rfl, rfl, _, rfl, ?_⟩
        refine ite_f (decide_eq_false (by rw [S_len]; omega)) ?_
        refine ⟨_, rfl, _, rfl, _, rfl, _, rfl, _, _, rfl, rfl, _, rfl, _, rfl, small_le (by rw [S_len]; omega), rfl, _, rfl, ?_⟩
        rw [cut_one hT3]
        refine ite_t (by decide +kernel) ?_
        refine ⟨_, rfl, by show 2 ≤ sizeLine; decide, fun t5 ht5 => ⟨_, rfl, _, _, rfl, rfl, by show 2 ≤ sizeLine; decide, fun q5 hq5 => ?_⟩⟩
        have s6 := same_new (o := HO.tup [.str "show", .str (S name)]) ht5
        have f5 : F t5 = false := lv.new ht5
        have s7 := same_new (o := HO.lst [.ref t5, .int ((q : Int) + 1)]) hq5
        refine k q5 t5 _ (s6.trans s7) ?_ ?_
        · rw [upd_same]
          have : ((q : Int) + 1) = ((p + (fNd (fmt n) (.shw name)).length : Nat) : Int) := by
            rw [← hqd]
            simp [fNd]
            omega
          show some (HO.lst [.ref t5, .int ((q : Int) + 1)]) = _
          rw [this]
        · exact .tup ((Av_get f5).trans (s7 _ _ upd_same)) (.cons (.str _) (.cons (.str _) .nil))
      | ch pl name cs ot =>
        injection ec with e1 e2
        subst e1
        refine ite_f (by decide +kernel) ?_
        refine ⟨_, rfl, rfl, _, rfl, ?_⟩
        refine ite_f (by decide +kernel) ?_
        have hT1 := hc2.2.2
        obtain ⟨hnm, g2, g3, g4, g5, g6⟩ := hk
        have hT2 : tx.drop (p + 1) = name ++ (44 :: 32 :: (cKind pl ++ [44, 32] ++ (fOff pl ++ (chTail cs ot ++ r)))) := by
          rw [hT1, ← e2]; simp [chTail]
        have hnl := hnm.2.1
        have hnl1 := hnm.1
        have hne : name ≠ [] := fun e => by rw [e] at hnl1; simp at hnl1
        refine ⟨_, rfl, _, rfl, _, _, rfl, rfl, tx, p + 1, name, _, rfl, hz, hT2, hnm.2.2, (fun c r' e => by cases e; unfold ltr; omega), ?_⟩
        refine ⟨_, rfl, _, _, rfl, rfl, _, rfl, _, rfl, small_le (by rw [S_len]; omega), _, _, rfl, rfl, ?_⟩
        have hT3 := drop_add hT2
        have eq : ((p : Int) + 1 + ((S name).length : Int)) = ((p + 1 + name.length : Nat) : Int) := by rw [S_len]; omega
        have epl : p + 1 + name.length ≤ tx.length := drop_le hT3 (by simp)
        simp only [eq]
        generalize hqd : p + 1 + name.length = q at *
        refine ⟨_, rfl, rfl, _, rfl, ?_⟩
        refine ite_f (str_ne hne) ?_
        refine ⟨_, rfl, _, rfl, small_le (by rw [S_len]; omega), _, _, rfl, rfl, _, rfl, ?_⟩
        refine ite_f (decide_eq_false (by rw [S_len]; omega)) ?_
        refine ⟨_, rfl, _, rfl, _, rfl, _, rfl, _, _, rfl, rfl, _, rfl, _, rfl, small_le (by rw [S_len]; omega), rfl, _, rfl, ?_⟩
        rw [cut_one hT3]
        refine ite_f (by decide +kernel) ?_
        have hkl : (cKind pl).length = 6 := by cases pl <;> rfl
        have e10 : cutS (S tx) (some ((q : Nat) : Int)) (some ((q : Nat) + 10 : Int)) = S (44 :: 32 :: (cKind pl ++ [44, 32])) := by
          rw [show ((q : Nat) + 10 : Int) = ((q + 10 : Nat) : Int) by omega, cutS_two, hT3, show q + 10 - q = 10 by omega]
          cases pl <;> rfl
        have hT4 : tx.drop (q + 10) = fOff pl ++ (chTail cs ot ++ r) := by
          have := drop_add (w := 44 :: 32 :: (cKind pl ++ [44, 32])) (r := fOff pl ++ (chTail cs ot ++ r)) (p := q) (T := tx) (by rw [hT3]; simp)
          rw [← this]
          congr 1
          simp [hkl]
        refine ⟨_, rfl, _, rfl, _, rfl, _, rfl, _, _, rfl, rfl, _, rfl, _, rfl, small_le (by rw [S_len]; omega), rfl, _, rfl, ?_⟩
        rw [e10]
        have hmap : (cs.map fun c => (c.1, plain n c.2)) = cs ∧ plain n ot = ot := by
          have := hpm
          simp only [Nd.map, Nd.ch.injEq, true_and] at this
          exact this
        have hcp : ∀ c ∈ cs, plain n c.2 = c.2 := fun c hc => by
          obtain ⟨i, hi, e⟩ := List.mem_iff_getElem.mp hc
          have h2 : (cs.map fun c => (c.1, plain n c.2))[i]? = some c := by rw [hmap.1, List.getElem?_eq_getElem hi, e]
          rw [List.getElem?_map, List.getElem?_eq_getElem hi, e] at h2
          have h3 := congrArg Prod.snd (Option.some.inj h2)
          exact h3
        have epos : ∀ q5 t5 : Addr, (some (HO.lst [.ref t5, .int ((q + 10 + (fOff pl).length + (chTail cs ot).length : Nat) : Int)])) = some (HO.lst [.ref t5, .int ((p + (fNd (fmt n) (.ch pl name cs ot)).length : Nat) : Int)]) := fun q5 t5 => by
          have : q + 10 + (fOff pl).length + (chTail cs ot).length = p + (fNd (fmt n) (.ch pl name cs ot)).length := by
            rw [← hqd]
            simp [fNd, chTail, hkl]
            omega
          rw [this]
        cases pl with
        | none =>
          refine ite_t (by decide +kernel) ?_
          refine ⟨_, rfl, _, rfl, _, _, rfl, rfl, _, rfl, _, rfl, by show 2 ≤ sizeLine; decide, fun hd hhd => ?_⟩
          have s6 := same_new (o := HO.tup [.str "select", .str (S name)]) hhd
          refine ⟨F, tx, q + 10, b, none, name, cs, ot, r, hd, rfl, upd_same, hz, hT4, g2, g3, g4, fun c hc => ⟨(g5 c hc).1, by have := (g5 c hc).2; rwa [show (b || (none : Option Nat).isSome) = b by simp] at this, hcp c hc⟩, by rwa [show (b || (none : Option Nat).isSome) = b by simp] at g6, hmap.2, lv.same s6, fun q5 t5 H' s7 h7 h8 => ?_⟩
          exact k q5 t5 H' (s6.trans s7) (h7.trans (epos q5 t5)) h8
        | some o =>
          refine ite_f (show decide (V.str (S (44 :: 32 :: (cPlural ++ [44, 32]))) = V.str ", select, ") = false by decide +kernel) ?_
          refine ⟨_, rfl, _, rfl, _, rfl, _, rfl, _, _, rfl, rfl, _, rfl, _, rfl, small_le (by rw [S_len]; omega), rfl, _, rfl, ?_⟩
          rw [e10]
          refine ite_t (show decide (V.str (S (44 :: 32 :: (cPlural ++ [44, 32]))) = V.str ", plural, ") = true by decide +kernel) ?_
          refine ⟨_, rfl, _, rfl, _, _, rfl, rfl, _, rfl, by show 2 ≤ sizeLine; decide, fun hd hhd => ?_⟩
          have s6 := same_new (o := HO.tup [.str "plural", .str (S name)]) hhd
          refine ⟨F, tx, q + 10, true, some o, name, cs, ot, r, hd, rfl, upd_same, hz, hT4, g2, g3, g4, fun c hc => ⟨(g5 c hc).1, by have := (g5 c hc).2; rwa [show (b || (some o).isSome) = true by simp] at this, hcp c hc⟩, by rwa [show (b || (some o).isSome) = true by simp] at g6, hmap.2, lv.same s6, fun q5 t5 H' s7 h7 h8 => ?_⟩
          exact k q5 t5 H' (s6.trans s7) (h7.trans (epos q5 t5)) h8
end
end Mw
/-! MwV -/
set_option Elab.async false
set_option linter.all false
set_option maxRecDepth 100000
set_option maxHeartbeats 4000000
namespace Mw
open PySem PySem.Spec PyProof.Rows L2
section
variable {P : Program} {w : World} {K : PySem.W.Frag} {mg : Str → Option Value} {base : Heap}
theorem ch_first2 {n : Nat} {b : Bool} {pl : Option Nat} {cs : List (Ky × Sub n)} {ot : Sub n} (h : ∀ c ∈ cs, kyOk pl.isSome c.1 ∧ ok n b c.2 ∧ plain n c.2 = c.2) (r : List Nat) : ∃ ky rest, kyR pl ky ∧ chTail cs ot ++ r = fKy ky ++ 32 :: rest := by
  cases cs with
  | nil => exact ⟨.wd cOther, _, kyR_other pl, by simp [chTail, fKy]; rfl⟩
  | cons c cr => exact ⟨c.1, _, kyR_of (h c List.mem_cons_self).1, by simp [chTail, fCase]; rfl⟩
theorem sc_law_choice : FnScope ["_law_text", "_law_at", "_law_inside", "_law_head", "_law_cases", "_law_offset", "_law_turn", "_law_key", "_law_inner", "_law_other"] ["_law_text", "_law_at", "_law_inside", "_law_head"] (defScope s_law_choice) := ⟨rfl, rfl, rfl, by decide +kernel, rfl, by decide +kernel, by decide +kernel⟩
theorem ok_law_choice (T : Tx K mg) {n : Nat} (o_law_parsed : OkF P w K mg base d_law_parsed ["_law_text", "_law_at", "_law_inside"] (3 * n + 3) (spLParsed K n)) : OkF P w K mg base d_law_choice ["_law_text", "_law_at", "_law_inside", "_law_head"] (3 * n + 4) (spLChoice K n) := by
  have o_law_key_at : OkF P w K mg base d_law_key_at ["_law_text", "_law_at", "_law_kind"] 2 spLKey := ok_law_key_at T
  refine OkF.mono (j := 3 * n + 3 + 1) ?_ (by omega)
  refine (okF T 54 (d := d_law_choice) rfl sc_law_choice (fun _ _ _ _ _ _ us hl => match us, hl with | [_, _, _, _], _ => rfl) ⟨rfl, rfl⟩ (fun vs H Q E h => ?_) (fun cdv A outer s H vs Q E hr h => ?_))
  · obtain ⟨F, T, p, b, pl, name, cs, ot, r, hd, rfl, _⟩ := h; rfl
  · obtain ⟨F, tx, p, b, pl, name, cs, ot, r, hd, rfl, hhd, hz, hT, ho9, z100, hnd, hcs, hot, hpot, lv, k⟩ := h
    refine ⟨_, (pss_cons (ps_set (i := 4) sc_law_choice.nd rfl (Or.inl rfl) (pe_lst pa_nil))
  (Evl.pss_cut (ps_if (pt_cmpR op_eq (pe_ix ix_tup (pv 3) pe_int (fun _ _ => rfl)) pe_str (nomark _))
  (pss_cons (ps_set (i := 5) sc_law_choice.nd rfl (Or.inl rfl) pe_int)
  (Evl.pss_cut (ps_if (pt_cmpR op_eq (pe_slice sl_str (pv 0) (po_some (pv 1)) (po_some (pe_op op_add (pv 1) pe_int))) pe_str (nomark _))
  (pss_cons (ps_if (PW.pt (pw_or (pt_cmpR op_notIn_seq (pe_slice sl_str (pv 0) (po_some (pe_op op_add (pv 1) pe_int)) (po_some (pe_op op_add (pv 1) pe_int))) (pe_callTy (call_list_S rfl) (by rfl) T.z_list (by decide +kernel) (pa_cons pe_str pa_nil)) rfl) (pw_or1 (pt_cmpR op_ne (pe_slice sl_str (pv 0) (po_some (pe_op op_add (pv 1) pe_int)) (po_some (pe_op op_add (pv 1) pe_int))) pe_str (nomark _)))))
  (pss_one (ps_ret pe_non))
  pss_nil)
  (pss_cons (ps_set (i := 5) sc_law_choice.nd rfl (Or.inl rfl) (pe_callTy call_int_str (by rfl) T.z_int (by decide +kernel) (pa_cons (pe_ix ix_str (pv 0) (pe_op op_add (pv 1) pe_int) (fun _ _ => rfl)) pa_nil)))
  (pss_one (ps_set (i := 1) sc_law_choice.nd rfl (Or.inl rfl) (pe_op op_add (pv 1) pe_int)))))
  pss_nil)
  (pss_one (ps_set (i := 3) sc_law_choice.nd rfl (Or.inl rfl) (pe_op op_catT (pv 3) (pe_tup (pa_cons (pv 5) pa_nil)))))))
  pss_nil)
  (pss_cons (ps_for PassesOwn.never rfl (pi_range1 (by rfl) T.z_range (pa_cons (pe_callB call_len_str (by rfl) T.z_len (by decide +kernel) (pa_cons (pv 0) pa_nil)) pa_nil)) (pg_name (i := 6) sc_law_choice.nd rfl (Or.inl rfl))
  (pss_cons (ps_set (i := 7) sc_law_choice.nd rfl (Or.inl rfl) (cg o_law_key_at T.g__law_key_at (hr.mono (by omega)) (pa_cons (pv 0) (pa_cons (pv 1) (pa_cons (pe_ix ix_tup (pv 3) pe_int (fun _ _ => rfl)) pa_nil)))))
  (pss_cons (ps_if (PW.pt (pw_or (pt_cmpR op_isN (pv 7) pe_non (nomark _)) (pw_or (pt_cmpR op_ne (pe_slice sl_str (pv 0) (po_some (pe_ix ix_list (pv 7) pe_int (fun _ _ => rfl))) (po_some (pe_op op_add (pe_ix ix_list (pv 7) pe_int (fun _ _ => rfl)) pe_int))) pe_str (nomark _)) (pw_or1 (pt_cmpR op_in_seq (pe_ix ix_list (pv 7) pe_int (fun _ _ => rfl)) (pe_lc (own := [("_law_other", 9), ("_law_inner", 8)]) (g := gTup K 2 (gCons (gName 9) (gCons (gName 8) gNil))) (tt := tYes) rfl sc_law_choice.nd (pi_list (pv 4)) (blkOk_by (N := ["_law_text", "_law_at", "_law_inside", "_law_head", "_law_cases", "_law_offset", "_law_turn", "_law_key", "_law_inner", "_law_other"]) (sc := defScope s_law_choice) (by decide +kernel)) (fun _ _ _ _ _ => (pg_tup rfl (pgs_cons (pg_name (i := 9) sc_law_choice.nd rfl (Or.inl rfl)) (pgs_cons (pg_name (i := 8) sc_law_choice.nd rfl (Or.inl rfl)) pgs_nil)))) (fun _ _ _ _ _ => pts_nil) (fun _ _ _ _ _ => (pv 9))) rfl)))))
  (pss_one (ps_ret pe_non))
  pss_nil)
  (pss_cons (ps_set (i := 8) sc_law_choice.nd rfl (Or.inl rfl) (cg o_law_parsed T.g__law_parsed (hr.mono (by omega)) (pa_cons (pv 0) (pa_cons (pe_op op_add (pe_ix ix_list (pv 7) pe_int (fun _ _ => rfl)) pe_int) (pa_cons (pv 2) pa_nil)))))
  (pss_cons (ps_if (PW.pt (pw_or (pt_cmpR op_isN (pv 8) pe_non (nomark _)) (pw_or1 (pt_cmpR op_ne (pe_slice sl_str (pv 0) (po_some (pe_ix ix_list (pv 8) pe_int (fun _ _ => rfl))) (po_some (pe_op op_add (pe_ix ix_list (pv 8) pe_int (fun _ _ => rfl)) pe_int))) pe_str (nomark _)))))
  (pss_one (ps_ret pe_non))
  pss_nil)
  (pss_cons (ps_set (i := 1) sc_law_choice.nd rfl (Or.inl rfl) (pe_op op_add (pe_ix ix_list (pv 8) pe_int (fun _ _ => rfl)) pe_int))
  (pss_cons (ps_if (pt_cmpR op_eq (pe_ix ix_list (pv 7) pe_int (fun _ _ => rfl)) pe_str (nomark _))
  (pss_cons (ps_if (pt_cmpR op_ne (pe_slice sl_str (pv 0) (po_some (pv 1)) (po_some (pe_op op_add (pv 1) pe_int))) pe_str (nomark _))
  (pss_one (ps_ret pe_non))
  pss_nil)
  (pss_one (ps_ret (pe_lst (pa_cons (pe_op op_catT (pv 3) (pe_tup (pa_cons (pv 4) (pa_cons (pe_ix ix_list (pv 8) pe_int (fun _ _ => rfl)) pa_nil)))) (pa_cons (pe_op op_add (pv 1) pe_int) pa_nil))))))
  pss_nil)
  (pss_cons (ps_if (pt_cmpR op_ne (pe_slice sl_str (pv 0) (po_some (pv 1)) (po_some (pe_op op_add (pv 1) pe_int))) pe_str (nomark _))
  (pss_one (ps_ret pe_non))
  pss_nil)
  (pss_cons (ps_expr (pe_bm PySem.F.plainAttrs_list PySem.F.slot_list_append PySem.F.type_list_append mt_append (pv 4) (pa_cons (pe_tup (pa_cons (pe_ix ix_list (pv 7) pe_int (fun _ _ => rfl)) (pa_cons (pe_ix ix_list (pv 8) pe_int (fun _ _ => rfl)) pa_nil))) pa_nil)))
  (pss_one (ps_set (i := 1) sc_law_choice.nd rfl (Or.inl rfl) (pe_op op_add (pv 1) pe_int))))))))))))
  (pss_one (ps_ret pe_non))))), ?_⟩
    refine ⟨Nat.zero_le _, fun D hD => ?_⟩
    have s0 := same_new (o := HO.lst []) hD
    have fD : F D = false := lv.new hD
    have hDD : (upd H D (.lst [])) D = some (.lst []) := upd_same
    have hhd0 := s0 _ _ hhd
    generalize upd H D (.lst []) = H0 at *
    refine ⟨fun σ H' => ∃ hd v5, σ = [some (.str (S tx)), some (.int ((p + (fOff pl).length : Nat) : Int)), some (.bl b), some (.ref hd), some (.ref D), v5, none, none, none, none] ∧ Same H0 H' ∧ H' hd = some (.tup (hdV pl name)), ?_, ?_⟩
    · refine ⟨_, rfl, hd, _, _, _, rfl, rfl, SqT.of hhd0, atI_nat (j := 0) rfl, rfl, _, rfl, ?_⟩
      cases pl with
      | none =>
        refine ite_f (by decide +kernel) ?_
        exact ⟨hd, none, rfl, Same.refl _, hhd0⟩
      | some o =>
        have h9 := ho9 o rfl
        refine ite_t (show decide (V.str (S cPlural) = V.str "plural") = true by decide +kernel) ?_
        have hp : p ≤ tx.length := drop_le hT (by simp [chTail])
        refine ⟨fun σ H' => σ = [some (.str (S tx)), some (.int ((p + (fOff (some o)).length : Nat) : Int)), some (.bl b), some (.ref hd), some (.ref D), some (.int (o : Int)), none, none, none, none] ∧ Same H0 H', ?_, ?_⟩
        · refine ⟨_, rfl, _, rfl, _, rfl, _, rfl, _, _, rfl, rfl, _, rfl, _, rfl, small_le (by rw [S_len]; omega), rfl, _, rfl, ?_⟩
          have e7 : cutS (S tx) (some ((p : Nat) : Int)) (some ((p : Nat) + 7 : Int)) = S ((fOff (some o) ++ (chTail cs ot ++ r)).take 7) := by
            rw [show ((p : Nat) + 7 : Int) = ((p + 7 : Nat) : Int) by omega, cutS_two, hT, show p + 7 - p = 7 by omega]
          rw [e7]
          by_cases h0 : o = 0
          · subst h0
            obtain ⟨ky0, rest0, hky0, hct⟩ := ch_first2 (ot := ot) hcs r
            refine ite_f ?_ ⟨rfl, Same.refl _⟩
            rw [l_off, dec_S]
            refine decide_eq_false fun e => ?_
            have e2 : (chTail cs ot ++ r).take 7 = cOffset := e
            rw [hct] at e2
            exact ky_take hky0 _ e2
          · have eo := fOff_pos h0
            refine ite_t ?_ ?_
            · rw [l_off, dec_S, eo]
              exact decide_eq_true (by simp [cOffset])
            have hT' : tx.drop p = cOffset ++ ((48 + o) :: 32 :: (chTail cs ot ++ r)) := by rw [hT, eo]; simp
            have hT7 : tx.drop (p + 7) = (48 + o) :: 32 :: (chTail cs ot ++ r) := drop_add hT'
            have hT8 := (at_drop hT7).2.2
            have c7 : cutS (S tx) (some ((p : Int) + 7)) (some ((p : Int) + 8)) = S [48 + o] := by
              rw [show ((p : Int) + 7) = ((p + 7 : Nat) : Int) by omega, show ((p : Int) + 8) = ((p + 8 : Nat) : Int) by omega, cutS_two, hT7, show p + 8 - (p + 7) = 1 by omega]
              rfl
            have c8 : cutS (S tx) (some ((p : Int) + 8)) (some ((p : Int) + 9)) = S [32] := by
              rw [show ((p : Int) + 8) = ((p + 8 : Nat) : Int) by omega, show ((p : Int) + 9) = ((p + 9 : Nat) : Int) by omega, cutS_two, hT8, show p + 9 - (p + 8) = 1 by omega]
              rfl
            refine ⟨_, rfl, _, rfl, _, _, rfl, rfl, _, rfl, _, rfl, _, _, rfl, rfl, _, rfl, _, rfl, small_le (by rw [S_len]; omega), _, rfl, by decide +kernel, fun L hL => ?_⟩
            have sL := same_new (o := HO.lst (("123456789" : Str).cps.toList.map fun c => V.str (⟨#[c]⟩ : Str))) hL
            rw [c7]
            refine ⟨_, _, rfl, .inl (SqL.of upd_same), rfl, by decide +kernel, _, rfl, ?_⟩
            refine ite_f ?_ ?_
            · have e9 : (("123456789" : Str).cps.toList.map fun c => V.str (⟨#[c]⟩ : Str)) = ([[49], [50], [51], [52], [53], [54], [55], [56], [57]] : List (List Nat)).map fun c => V.str (S c) := by decide +kernel
              rw [e9, inV_S]
              have : [48 + o] ∈ ([[49], [50], [51], [52], [53], [54], [55], [56], [57]] : List (List Nat)) := by
                have : ∀ o, o ≤ 9 → o ≠ 0 → [48 + o] ∈ ([[49], [50], [51], [52], [53], [54], [55], [56], [57]] : List (List Nat)) := by decide
                exact this o h9 h0
              rw [decide_eq_true this]
              rfl
            refine ⟨_, rfl, _, rfl, _, _, rfl, rfl, _, rfl, _, rfl, _, _, rfl, rfl, _, rfl, _, rfl, small_le (by rw [S_len]; omega), rfl, _, rfl, ?_⟩
            rw [c8]
            refine ite_f (by decide +kernel) ?_
            refine ⟨_, rfl, _, rfl, _, _, rfl, rfl, _, _, 48 + o, rfl, rfl, small_le (by rw [S_len]; omega), ?_, _, _, rfl, int_dig o h9, by rw [S_len]; simp, ?_⟩
            · rw [show ((p : Int) + 7) = ((p + 7 : Nat) : Int) by omega]
              exact at_S (at_drop hT7).1
            refine ⟨_, rfl, _, _, rfl, rfl, ?_, sL⟩
            rw [eo]
            rfl
        · rintro σ H' ⟨rfl, s1⟩
          have hhd1 := s1 _ _ hhd0
          refine ⟨_, rfl, _, rfl, by show 1 ≤ sizeLine; decide, fun t ht => ?_⟩
          have st := same_new (o := HO.tup [.int (o : Int)]) ht
          refine ⟨hd, t, _, _, rfl, rfl, .inl (.inl (st _ _ hhd1)), .inl (.inl upd_same), by simp, small_le (by simp), fun z => by simp at z, fun _ p3 hp3 => ?_⟩
          exact ⟨p3, _, rfl, (s1.trans st).trans (same_new hp3 _), upd_same⟩
    · rintro σ H1 ⟨hd, v5, rfl, s1, hhd1⟩
      have hTq0 : tx.drop (p + (fOff pl).length) = chTail cs ot ++ r := drop_add hT
      have hD1 := s1 _ _ hDD
      have s01 := s0.trans s1
      have nhd : hd ≠ D := fun e => by rw [e, hD1] at hhd1; cases hhd1
      have zt0 : (chTail cs ot).length ≤ tx.length := by
        have := congrArg List.length hTq0
        rw [List.length_drop, List.length_append] at this
        omega
      have zcs : cs.length + 1 ≤ tx.length := by
        have h1 : cs.length ≤ (cs.flatMap (fCase (fmt n))).length := len_flat fun c _ => by simp [fCase]
        simp only [chTail, List.length_append, List.length_cons, List.length_nil] at zt0
        omega
      generalize hp0 : p + (fOff pl).length = p0 at *
      refine ⟨_, rfl, _, rfl, small_le (by rw [S_len]; omega), _, rfl, by rw [S_len]; omega, by rw [S_len]; omega, for_range (lo := 0) (n := ((S tx).length : Int).toNat) (fun j σ H' => ∃ v6 v7 v8 vs, j ≤ cs.length ∧ σ = [some (.str (S tx)), some (.int ((p0 + ((cs.take j).flatMap (fCase (fmt n))).length : Nat) : Int)), some (.bl b), some (.ref hd), some (.ref D), v5, v6, v7, v8, none] ∧ H' D = some (.lst vs) ∧ Same H H' ∧ H' hd = some (.tup (hdV pl name)) ∧
        DhA K (add F D) H' vs ((cs.take j).map (dCase (dat n)))) ⟨none, none, none, [], Nat.zero_le _, rfl, hD1, s01, hhd1, .nil⟩ ?_ ?_⟩
      · rintro j σ H' hj ⟨v6, v7, v8, vs, hjl, rfl, hD', s2, hhd', hvs⟩
        have hTj : tx.drop (p0 + ((cs.take j).flatMap (fCase (fmt n))).length) = (cs.drop j).flatMap (fCase (fmt n)) ++ (cOther ++ [32, 123] ++ fmt n ot ++ [125, 125] ++ r) := by
          refine drop_add ?_
          rw [hTq0]
          conv => lhs; rw [chTail, ← List.take_append_drop j cs, List.flatMap_append]
          simp
        have lvs : vs.length = j := by
          have := DpAll.len hvs
          rw [List.length_map, List.length_take] at this
          omega
        generalize hq : p0 + ((cs.take j).flatMap (fCase (fmt n))).length = q at *
        obtain ⟨ky, mg0, rest, hTq2, hky, hmk, hpk, hnot, hend⟩ : ∃ (ky : Ky) (m : Sub n) (rest : List Nat), tx.drop q = fKy ky ++ 32 :: (123 :: (fmt n m ++ 125 :: rest)) ∧ kyR pl ky ∧ ok n b m ∧ plain n m = m ∧ ky ∉ (cs.take j).map (·.1) ∧
            ((cs[j]? = some (ky, m) ∧ ky ≠ .wd cOther ∧ rest = 32 :: ((cs.drop (j + 1)).flatMap (fCase (fmt n)) ++ (cOther ++ [32, 123] ++ fmt n ot ++ [125, 125] ++ r))) ∨ (j = cs.length ∧ ky = .wd cOther ∧ m = ot ∧ rest = 125 :: r)) := by
          by_cases hjlt : j < cs.length
          · have hc := List.getElem?_eq_getElem hjlt
            obtain ⟨⟨ky, m⟩, hcj⟩ : ∃ z, cs[j] = z := ⟨_, rfl⟩
            have hmem : (ky, m) ∈ cs := by rw [← hcj]; exact List.getElem_mem hjlt
            rw [hcj] at hc
            obtain ⟨a1, a2, a3⟩ := hcs _ hmem
            refine ⟨ky, m, _, ?_, kyR_of a1, a2, a3, ?_, .inl ⟨hc, ?_, rfl⟩⟩
            · rw [hTj, List.drop_eq_getElem_cons hjlt, hcj, List.flatMap_cons]
              simp [fCase]
            · have h1 : cs.map (·.1) = (cs.take j).map (·.1) ++ ky :: (cs.drop (j + 1)).map (·.1) := by
                conv => lhs; rw [← List.take_append_drop j cs, List.map_append, List.drop_eq_getElem_cons hjlt, hcj]
                rfl
              rw [h1] at hnd
              intro hin
              exact (List.nodup_append.mp hnd).2.2 _ hin _ List.mem_cons_self rfl
            · intro e
              subst e
              exact a1.2.1 rfl
          · have hjl' : j = cs.length := by omega
            refine ⟨.wd cOther, ot, 125 :: r, ?_, kyR_other pl, hot, hpot, ?_, .inr ⟨hjl', rfl, rfl, rfl⟩⟩
            · rw [hTj, hjl', List.drop_length]
              simp [fKy]
            · rw [hjl', List.take_length]
              intro hin
              obtain ⟨c, hc, e⟩ := List.mem_map.mp hin
              have := (hcs c hc).1
              rw [e] at this
              exact this.2.1 rfl
        -- the key
        have ek : atI (hdV pl name) 0 = some (.str (S (cKind pl))) := by cases pl <;> exact atI_nat (j := 0) rfl
        refine ⟨_, rfl, _, rfl, _, rfl, hd, _, _, _, rfl, rfl, SqT.of hhd', ek, tx, q, pl, ky, _, rfl, hz, hTq2, hky, fun kt H2 s3 hkt => ?_⟩
        have hD2 := s3 _ _ hD'
        have hhd2 := s3 _ _ hhd'
        have hvs2 := hvs.same s3
        have s23 := s2.trans s3
        have hT3 := drop_add hTq2
        have hqz : q + (fKy ky).length ≤ tx.length := drop_le hT3 (by simp)
        generalize hq2 : q + (fKy ky).length = q2 at *
        refine ⟨_, rfl, rfl, _, rfl, ?_⟩
        refine ite_f (decide_eq_false fun e => nomatch e) ?_
        refine ⟨_, rfl, _, rfl, kt, _, _, _, rfl, rfl, SqL.of hkt, atI_nat (j := 1) rfl, _, rfl, _, rfl, kt, _, _, _, rfl, rfl, SqL.of hkt, atI_nat (j := 1) rfl, _, _, rfl, rfl, _, rfl, _, rfl, small_le (by rw [S_len]; omega), rfl, _, rfl, ?_⟩
        have c2 : cutS (S tx) (some ((q2 : Nat) : Int)) (some (((q2 : Nat) : Int) + 2)) = S [32, 123] := by
          rw [show (((q2 : Nat) : Int) + 2) = ((q2 + 2 : Nat) : Int) by omega, cutS_two, hT3, show q2 + 2 - q2 = 2 by omega]
          rfl
        rw [c2]
        refine ite_f (by decide +kernel) ?_
        -- key[0] in the keys so far
        refine ⟨_, rfl, kt, _, _, _, rfl, rfl, SqL.of hkt, atI_nat (j := 0) rfl, _, rfl, D, rfl, ⟨_, SqL.of hD2⟩, fun L hL => ?_⟩
        refine lc_list (K := K) (a := D) (xs := vs) (fun i H' => H' L = some (.lst (((cs.take i).map (·.1)).map kW)) ∧ Same H2 H') ⟨upd_same, same_new hL _⟩ (fun i H' _ p => p.2.seq (SqL.of hD2)) ?_ ?_
        · rintro i v H' hi ⟨hLv, s4⟩
          obtain ⟨d0, hd1, hd2⟩ := DpAll.at_ (DhA.out hvs2) hi
          obtain ⟨ci, hci, rfl⟩ := map_at hd1
          obtain ⟨t', q0, rfl, hts, hq0⟩ := dp_case hd2
          have hil : i < j := by rw [← lvs]; exact lt_of_at hi
          have hcsi : cs[i]? = some ci := by rw [List.getElem?_take_of_lt hil] at hci; exact hci
          refine ⟨t', _, rfl, s4.seqT hts, rfl, _, _, rfl, _, _, rfl, rfl, rfl, ?_⟩
          refine yes_t ?_
          refine ⟨_, rfl, _, hLv, small_lt (by simp only [List.length_map, List.length_take]; omega), ?_, same_mut s4 hL⟩
          rw [upd_same, take_more hcsi]
          simp
        · rintro H3 ⟨hLv, s4⟩
          rw [lvs] at hLv
          refine ⟨_, _, rfl, .inl (SqL.of hLv), flat_key ky, ?_, _, rfl, ?_⟩
          · rw [List.all_eq_true]
            intro v hv
            obtain ⟨k0, _, rfl⟩ := List.mem_map.mp hv
            exact flat_key k0
          refine ite_f (by rw [inV_key]; exact decide_eq_false hnot) ?_
          have hD3 := s4 _ _ hD2
          have hhd3 := s4 _ _ hhd2
          have hkt3 := s4 _ _ hkt
          have hvs3 := hvs2.same s4
          have s24 := s23.trans s4
          have hT4 : tx.drop (q2 + 2) = fmt n mg0 ++ 125 :: rest := by
            have := drop_add (w := [32, 123]) hT3
            exact this
          have lv3 : Live (add F D) H3 := (lv.same s24).add (by rw [hD3]; simp)
          -- the inner message
          refine ⟨_, rfl, _, rfl, kt, _, _, _, rfl, rfl, SqL.of hkt3, atI_nat (j := 1) rfl, _, _, rfl, rfl, _, rfl, add F D, tx, q2 + 2, b, mg0, _, rfl, hz, hT4, (fun c r' e => by cases e; rfl), hmk, hpk, lv3, fun it mt H4 s5 hit hmt => ?_⟩
          have hT5 := drop_add hT4
          have hqz5 : q2 + 2 + (fmt n mg0).length ≤ tx.length := drop_le hT5 (by simp)
          have hD4 := s5 _ _ hD3
          have hhd4 := s5 _ _ hhd3
          have hkt4 := s5 _ _ hkt3
          have hvs4 := hvs3.same s5
          have s25 := s24.trans s5
          generalize hq5 : q2 + 2 + (fmt n mg0).length = q5 at *
          refine ⟨_, rfl, rfl, _, rfl, ?_⟩
          refine ite_f (decide_eq_false fun e => nomatch e) ?_
          refine ⟨_, rfl, _, rfl, it, _, _, _, rfl, rfl, SqL.of hit, atI_nat (j := 1) rfl, _, rfl, _, rfl, it, _, _, _, rfl, rfl, SqL.of hit, atI_nat (j := 1) rfl, _, _, rfl, rfl, _, rfl, _, rfl, small_le (by rw [S_len]; omega), rfl, _, rfl, ?_⟩
          rw [cut_one hT5]
          refine ite_f (by decide +kernel) ?_
          -- at = inner[1] + 1
          refine ⟨_, rfl, it, _, _, _, rfl, rfl, SqL.of hit, atI_nat (j := 1) rfl, _, _, rfl, rfl, ?_⟩
          have hT6 := (at_drop hT5).2.2
          have hq56 := (at_drop hT5).2.1
          refine ⟨_, rfl, kt, _, _, _, rfl, rfl, SqL.of hkt4, atI_nat (j := 0) rfl, ?_⟩
          have eq6 : ((q5 : Nat) : Int) + 1 = ((q5 + 1 : Nat) : Int) := by omega
          rcases hend with ⟨hcj, hne, hrest⟩ | ⟨hjl2, hke, hme, hrest⟩
          · refine ⟨by cases ky <;> rfl, _, rfl, ?_⟩
            refine ite_f (decide_eq_false fun e => hne ?_) ?_
            · cases ky with
              | num n0 => cases e
              | wd w0 => rw [S_inj (V.str.inj e : S w0 = S cOther)]
            rw [hrest] at hT6
            refine ⟨_, rfl, _, rfl, _, rfl, _, rfl, _, _, rfl, rfl, _, rfl, _, rfl, small_le (by rw [S_len]; omega), rfl, _, rfl, ?_⟩
            have c6 : cutS (S tx) (some (((q5 : Nat) : Int) + 1)) (some (((q5 : Nat) : Int) + 1 + 1)) = S [32] := cut_one hT6
            rw [c6]
            refine ite_f (by decide +kernel) ?_
            refine ⟨_, rfl, .inl ⟨rfl, _, SqL.of hD4⟩, _, rfl, kt, _, _, _, rfl, rfl, SqL.of hkt4, atI_nat (j := 0) rfl, _, rfl, it, _, _, _, rfl, rfl, SqL.of hit, atI_nat (j := 0) rfl, by show 2 ≤ sizeLine; decide, fun t5 ht5 => ?_⟩
            have s7 := same_new (o := HO.tup [kW ky, .ref mt]) ht5
            have hjlt := lt_of_at hcj
            refine ⟨D, vs, _, rfl, rfl, s7 _ _ hD4, small_lt (by omega), ?_⟩
            refine ⟨_, rfl, _, _, rfl, rfl, some (.int (0 + (j : Int))), some (.ref kt), some (.ref it), vs ++ [.ref t5], hjlt, ?_, upd_same, same_mut (s25.trans s7) hD, ?_, ?_⟩
            · have e : (((q5 : Nat) : Int) + 1 + 1) = ((p0 + ((cs.take (j + 1)).flatMap (fCase (fmt n))).length : Nat) : Int) := by
                rw [flat_take hcj, List.length_append, ← hq5, ← hq2, ← hq]
                simp only [fCase, List.length_append, List.length_cons, List.length_nil]
                omega
              rw [← e]
              rfl
            · rw [upd_ne nhd]; exact s7 _ _ hhd4
            · rw [take_more hcj, List.map_append]
              refine DhA.updF (DpAll.snoc (hvs4.same s7) ?_) (add_self _ _)
              have f5 : add F D t5 = false := (lv3.same s5).new ht5
              exact .tup ((Av_get f5).trans upd_same) (.cons (dp_key.mpr rfl) (.cons (hmt.same s7) .nil))
          · subst hke
            subst hme
            rw [hrest] at hT6
            refine ⟨rfl, _, rfl, ?_⟩
            refine ite_t (by decide +kernel) ?_
            refine ⟨_, rfl, _, rfl, _, rfl, _, rfl, _, _, rfl, rfl, _, rfl, _, rfl, small_le (by rw [S_len]; omega), rfl, _, rfl, ?_⟩
            have c6 : cutS (S tx) (some (((q5 : Nat) : Int) + 1)) (some (((q5 : Nat) : Int) + 1 + 1)) = S [125] := cut_one hT6
            rw [c6]
            refine ite_f (by decide +kernel) ?_
            refine ⟨_, rfl, _, rfl, _, rfl, it, _, _, _, rfl, rfl, SqL.of hit, atI_nat (j := 0) rfl, by show 2 ≤ sizeLine; decide, fun p2 hp2 => ?_⟩
            have s8 := same_new (o := HO.tup [.ref D, .ref mt]) hp2
            refine ⟨hd, p2, _, _, rfl, rfl, .inl (.inl (s8 _ _ hhd4)), .inl (.inl upd_same), by cases pl <;> simp [hdV], small_le (by cases pl <;> simp [hdV]), fun z => by simp at z, fun _ p3 hp3 => ?_⟩
            have s9 := s8.trans (same_new (o := HO.tup (hdV pl name ++ [.ref D, .ref mt])) hp3)
            have f3 : F p3 = false := lv.new ((s25.trans s8).hole hp3)
            rw [hjl2, List.take_length] at hvs4 hq
            refine ⟨_, rfl, _, _, rfl, rfl, by show 2 ≤ sizeLine; decide, fun q9 hq9 => ?_⟩
            have s10 := same_new (o := HO.lst [.ref p3, .int (((q5 : Nat) : Int) + 1 + 1)]) hq9
            refine k q9 p3 _ ((s25.trans s9).trans s10) ?_ ?_
            · rw [upd_same]
              have e : (((q5 : Nat) : Int) + 1 + 1) = ((p0 + (chTail cs mg0).length : Nat) : Int) := by
                rw [← hq5, ← hq2, ← hq]
                simp only [chTail, List.length_append, List.length_cons, List.length_nil, fKy]
                omega
              show some (HO.lst [.ref p3, .int (((q5 : Nat) : Int) + 1 + 1)]) = _
              rw [e]
            · have s11 := s9.trans s10
              have dD : Dh K F _ (.ref D) (.list (cs.map (dCase (dat n)))) := .lst ((Av_get fD).trans (s11 _ _ hD4)) ((hvs4.weak add_sub).same s11)
              have dA := (hmt.weak add_sub).same s11
              have h3 := (Av_get f3).trans (s10 _ _ (upd_same (a := p3) (o := HO.tup (hdV pl name ++ [.ref D, .ref mt]))))
              cases pl with
              | none => exact .tup h3 (.cons (.str _) (.cons (.str _) (.cons dD (.cons dA .nil))))
              | some o => exact .tup h3 (.cons (.str _) (.cons (.str _) (.cons (.int _) (.cons dD (.cons dA .nil)))))
      · rintro σ H' ⟨v6, v7, v8, vs, hjl, rfl, hD', s2, hhd', hvs⟩
        exfalso
        rw [S_len] at hjl
        omega
theorem ok_law_parsed (T : Tx K mg) : ∀ n : Nat, OkF P w K mg base d_law_parsed ["_law_text", "_law_at", "_law_inside"] (3 * n + 3) (spLParsed K n)
  | 0 => (ok_law_parsed0 T).mono (by decide)
  | n + 1 => ok_law_parsed_step T (ok_law_node T (ok_law_choice T (ok_law_parsed T n)))
end
end Mw
/-! MwW -/
set_option Elab.async false
set_option linter.all false
set_option maxRecDepth 100000
set_option maxHeartbeats 4000000
namespace Mw
open PySem PySem.Spec PyProof.Rows L2
/-! ## the law's records -/
def prl : List Nat := [32, 33, 34, 35, 36, 63] ++ (List.range 89).map (· + 38)
theorem prl_eq : ((" !\"#$" : Str) ++ ("?&'()*+,-./0123456789:;<=>?@ABCDEFGHIJKLMNOPQRSTUVWXYZ[\\]^_`abcdefghijklmnopqrstuvwxyz{|}~" : Str)) = S prl := by decide +kernel
theorem prl_at {c : Nat} (h1 : 32 ≤ c) (h2 : c ≤ 126) (h3 : c ≠ 37) : prl[c - 32]? = some c := by
  have : ∀ k, k < 95 → k ≠ 5 → prl[k]? = some (k + 32) := by decide
  have := this (c - 32) (by omega) (by omega)
  rwa [show c - 32 + 32 = c by omega] at this
theorem cutS_to (T : List Nat) (b : Nat) : cutS (S T) none (some ((b : Nat) : Int)) = S (T.take b) := by
  unfold cutS
  rw [HT.sIx_none, HT.sIx_nat, S_len, show (S T).cps.toList = T from rfl, List.drop_zero, Nat.sub_zero]
  by_cases h : b ≤ T.length
  · rw [Nat.min_eq_left h]
  · rw [Nat.min_eq_right (by omega), List.take_of_length_le (Nat.le_refl _), List.take_of_length_le (by omega)]
section
variable {P : Program} {w : World} {K : PySem.W.Frag} {mg : Str → Option Value} {base : Heap}
theorem sc_law_signs : FnScope ["_law_octets_here", "_law_signs_here", "_law_text", "_law_octet"] ["_law_octets_here"] (defScope s_law_signs) := ⟨rfl, rfl, rfl, by decide +kernel, rfl, by decide +kernel, by decide +kernel⟩
theorem ok_law_signs (T : Tx K mg) : OkF P w K mg base d_law_signs ["_law_octets_here"] 1 (spTextOf K) := by
  refine (okF T 57 (d := d_law_signs) rfl sc_law_signs (fun _ _ _ _ _ _ us hl => match us, hl with | [_], _ => rfl) ⟨rfl, rfl⟩ (fun vs H Q E h => ?_) (fun cdv A outer s H vs Q E hr h => ?_))
  · obtain ⟨a, l, rfl, _⟩ := h; rfl
  · obtain ⟨a, l, rfl, hs, hz, hk⟩ := h
    refine ⟨_, (pss_cons (ps_set (i := 1) sc_law_signs.nd rfl (Or.inl rfl) (pe_op op_add_str pe_str pe_str))
  (pss_cons (ps_set (i := 2) sc_law_signs.nd rfl (Or.inl rfl) pe_str)
  (pss_cons (ps_for PassesOwn.never rfl (pi_list (pv 0)) (pg_name (i := 3) sc_law_signs.nd rfl (Or.inl rfl))
  (pss_one (ps_if (pt_cmpR op_eq (pv 3) pe_int (nomark _))
  (pss_one (ps_set (i := 2) sc_law_signs.nd rfl (Or.inl rfl) (pe_op op_add_str (pv 2) pe_str)))
  (pss_one (ps_if (PW.pt (pw_and (pt_chain op_le op_le pe_int (pv 3) pe_int) (pw_and1 (pt_cmpR op_ne (pv 3) pe_int (nomark _)))))
  (pss_one (ps_set (i := 2) sc_law_signs.nd rfl (Or.inl rfl) (pe_op op_add_str (pv 2) (pe_ix ix_str (pv 1) (pe_op op_sub (pv 3) pe_int) (fun _ _ => rfl)))))
  (pss_one (ps_ret pe_non)))))))
  (pss_one (ps_ret (pv 2)))))), ?_⟩
    refine ⟨_, _, rfl, rfl, by decide +kernel, ?_⟩
    simp only [prl_eq]
    refine ⟨_, rfl, a, rfl, ⟨_, hs⟩, for_list (K := K) (a := a) (xs := ocs l) (fun i σ H' => H' = H ∧ (∃ v, σ = [some (.ref a), some (.str (S prl)), some (.str (S (l.take i))), v]) ∧ ∀ c ∈ l.take i, chOk c) ⟨rfl, ⟨none, rfl⟩, fun c hc => by simp at hc⟩ (fun i σ H' _ h => by rw [h.1]; exact hs) ?_ ?_⟩
    · rintro i x σ H' hi ⟨rfl, ⟨v, rfl⟩, hall⟩
      obtain ⟨c, hc, rfl⟩ := ocs_at hi
      have zt : (l.take i).length ≤ 5000 := by rw [List.length_take]; omega
      have fin : chOk c → ∀ z : Str, z = S [c] → H' = H' ∧ (∃ v, [some (V.ref a), some (.str (S prl)), some (.str (S (l.take i) ++ z)), some (.int c)] = [some (V.ref a), some (.str (S prl)), some (.str (S (l.take (i + 1)))), v]) ∧ ∀ c ∈ l.take (i + 1), chOk c := fun h z hz => by
        subst hz
        refine ⟨rfl, ⟨_, by rw [S_app, take_more hc]⟩, fun c' hc' => ?_⟩
        rw [take_more hc] at hc'
        rcases List.mem_append.mp hc' with h2 | h2
        · exact hall c' h2
        · rw [List.mem_singleton.mp h2]; exact h
      have bad : ¬ chOk c → Q .non H' := fun h => by
        rcases hk with ⟨h1, q⟩ | ⟨_, q⟩
        · exact absurd (h1 c (List.mem_of_getElem? hc)) h
        · exact q
      refine ⟨_, rfl, rfl, _, rfl, ?_⟩
      by_cases h10 : c = 10
      · subst h10
        refine ite_t (by decide +kernel) ?_
        exact ⟨_, rfl, _, _, rfl, rfl, small_le (by rw [S_len]; show _ + 1 ≤ _; omega), fin (.inl rfl) _ rfl⟩
      refine ite_f (decide_eq_false fun e => h10 (by have := V.int.inj e; omega)) ?_
      refine ⟨_, rfl, _, _, rfl, rfl, ?_⟩
      by_cases hl : 32 ≤ c
      · refine ⟨_, rfl, ite_t (decide_eq_true (by omega)) ⟨_, _, rfl, rfl, _, rfl, ?_⟩⟩
        by_cases hr1 : c ≤ 126
        · refine ite_t (decide_eq_true (by omega)) ?_
          refine ⟨_, rfl, rfl, _, rfl, ?_⟩
          by_cases h37 : c = 37
          · subst h37
            refine ite_f (by decide) ?_
            exact bad (by unfold chOk; omega)
          · refine ite_t ?_ ?_
            · have : decide (V.int (c : Int) = V.int 37) = false := decide_eq_false fun e => h37 (by have := V.int.inj e; omega)
              rw [this]; rfl
            refine ⟨_, rfl, _, rfl, _, rfl, _, _, rfl, rfl, _, _, c, rfl, rfl, by decide +kernel, ?_, _, _, rfl, rfl, small_le (by rw [S_len]; show _ + 1 ≤ _; omega), fin (.inr ⟨hl, hr1, h37⟩) _ rfl⟩
            rw [show ((c : Int) - 32) = ((c - 32 : Nat) : Int) by omega]
            exact atI_nat (prl_at hl hr1 h37)
        · refine ite_f (decide_eq_false (by omega)) (iteF ?_)
          exact bad (by unfold chOk; omega)
      · refine ⟨_, rfl, ite_f (decide_eq_false (by omega)) ⟨_, rfl, iteF (iteF ?_)⟩⟩
        exact bad (by unfold chOk; omega)
    · rintro σ H' ⟨rfl, ⟨v, rfl⟩, hall⟩
      rw [ocs_len, List.take_length] at hall ⊢
      rcases hk with ⟨h1, q⟩ | ⟨⟨c, h1, h2⟩, q⟩
      · exact ⟨_, rfl, q⟩
      · exact absurd (hall c h1) h2
theorem sc_law_body_told : FnScope ["_law_body", "_law_text", "_law_many", "_law_told"] ["_law_body"] (defScope s_law_body_told) := ⟨rfl, rfl, rfl, by decide +kernel, rfl, by decide +kernel, by decide +kernel⟩
theorem ok_law_body_told (T : Tx K mg) : OkF P w K mg base d_law_body_told ["_law_body"] 13 (spDeedOf K) := by
  have o_law_signs : OkF P w K mg base d_law_signs ["_law_octets_here"] 1 (spTextOf K) := ok_law_signs T
  have o_law_word : OkF P w K mg base d_law_word ["_law_text", "_law_at"] 1 spLWord := ok_law_word T
  have o_law_parsed : OkF P w K mg base d_law_parsed ["_law_text", "_law_at", "_law_inside"] 12 (spLParsed K 3) := ok_law_parsed T 3
  refine (okF T 58 (d := d_law_body_told) rfl sc_law_body_told (fun _ _ _ _ _ _ us hl => match us, hl with | [_], _ => rfl) ⟨rfl, rfl⟩ (fun vs H Q E h => ?_) (fun cdv A outer s H vs Q E hr h => ?_))
  · obtain ⟨F, a, l, od, rfl, _⟩ := h; rfl
  · obtain ⟨F, a, l, od, rfl, hs, lv, hz, hb, k⟩ := h
    refine ⟨_, (pss_cons (ps_if (pt_cmpR (op_eqD hr.units) (pv 0) (pe_lst (pa_cons pe_int pa_nil)) (nomark _))
  (pss_one (ps_ret (pe_tup (pa_cons pe_str pa_nil))))
  pss_nil)
  (pss_cons (ps_if (PW.pt (pw_or (pt_cmpR op_eq (pe_callB call_len_seq (by rfl) T.z_len (by decide +kernel) (pa_cons (pv 0) pa_nil)) pe_int (nomark _)) (pw_or1 (pt_cmpR op_notIn_seq (pe_ix ix_list (pv 0) pe_int (fun _ _ => rfl)) (pe_lst (pa_cons pe_int (pa_cons pe_int pa_nil))) rfl))))
  (pss_one (ps_ret pe_non))
  pss_nil)
  (pss_cons (ps_set (i := 1) sc_law_body_told.nd rfl (Or.inl rfl) (cg o_law_signs T.g__law_signs (hr.mono (by omega)) (pa_cons (pe_slice sl_list (pv 0) (po_some (pe_op op_sub pe_int (pe_ix ix_list (pv 0) pe_int (fun _ _ => rfl)))) po_none) pa_nil)))
  (pss_cons (ps_if (PW.pt (pw_or (pt_cmpR op_isN (pv 1) pe_non (nomark _)) (pw_or1 (PW.pt (pw_and (pt_cmpR op_eq (pe_ix ix_list (pv 0) pe_int (fun _ _ => rfl)) pe_int (nomark _)) (pw_and1 (pt_cmpR op_lt (pe_callB call_len_seq (by rfl) T.z_len (by decide +kernel) (pa_cons (pv 0) pa_nil)) pe_int (nomark _))))))))
  (pss_one (ps_ret pe_non))
  pss_nil)
  (pss_cons (ps_if (pt_cmpR op_eq (pe_ix ix_list (pv 0) pe_int (fun _ _ => rfl)) pe_int (nomark _))
  (pss_cons (ps_if (PW.pt (pw_and (pt_chain op_le op_le pe_int (pe_callB call_len_str (by rfl) T.z_len (by decide +kernel) (pa_cons (pv 1) pa_nil)) pe_int) (pw_and1 (pt_cmpR op_eq (cg o_law_word T.g__law_word (hr.mono (by omega)) (pa_cons (pv 1) (pa_cons pe_int pa_nil))) (pv 1) (nomark _)))))
  (pss_one (ps_ret (pe_tup (pa_cons pe_str (pa_cons (pv 1) pa_nil)))))
  pss_nil)
  (pss_one (ps_ret pe_non)))
  pss_nil)
  (pss_cons (ps_set (i := 2) sc_law_body_told.nd rfl (Or.inl rfl) (pe_ix ix_list (pv 0) pe_int (fun _ _ => rfl)))
  (pss_cons (ps_if (PW.pt (pw_or (pt_not (pt_chain op_le op_le pe_int (pv 2) pe_int)) (pw_or (pt_cmpR op_lt (pe_callB call_len_str (by rfl) T.z_len (by decide +kernel) (pa_cons (pv 1) pa_nil)) (pv 2) (nomark _)) (pw_or1 (pt_cmpR op_ne (pe_callB call_len_str (by rfl) T.z_len (by decide +kernel) (pa_cons (cg o_law_word T.g__law_word (hr.mono (by omega)) (pa_cons (pe_slice sl_str (pv 1) po_none (po_some (pv 2))) (pa_cons pe_int pa_nil))) pa_nil)) (pv 2) (nomark _))))))
  (pss_one (ps_ret pe_non))
  pss_nil)
  (pss_cons (ps_set (i := 3) sc_law_body_told.nd rfl (Or.inl rfl) (cg o_law_parsed T.g__law_parsed (hr.mono (by omega)) (pa_cons (pe_slice sl_str (pv 1) (po_some (pv 2)) po_none) (pa_cons pe_int (pa_cons pe_bl pa_nil)))))
  (pss_cons (ps_if (PW.pt (pw_or (pt_cmpR op_isN (pv 3) pe_non (nomark _)) (pw_or1 (pt_cmpR op_ne (pe_ix ix_list (pv 3) pe_int (fun _ _ => rfl)) (pe_op op_sub (pe_callB call_len_str (by rfl) T.z_len (by decide +kernel) (pa_cons (pv 1) pa_nil)) (pv 2)) (nomark _)))))
  (pss_one (ps_ret pe_non))
  pss_nil)
  (pss_one (ps_ret (pe_tup (pa_cons pe_str (pa_cons (pe_slice sl_str (pv 1) po_none (po_some (pv 2))) (pa_cons (pe_ix ix_list (pv 3) pe_int (fun _ _ => rfl)) pa_nil))))))))))))))), ?_⟩
    refine ⟨_, rfl, by show 1 ≤ sizeLine; decide, fun p1 hp1 => ?_⟩
    have s1 := same_new (o := HO.lst [.int 3]) hp1
    refine ⟨iD l, iD [3], dpI (s1.seq hs), dpI (SqL.of upd_same), shaped_iD _, shaped_iD _, _, rfl, ?_⟩
    rw [eqv_iD]
    by_cases h3 : l = [3]
    · refine ite_t (decide_eq_true h3) ?_
      refine ⟨by show 1 ≤ sizeLine; decide, fun p2 hp2 => ?_⟩
      have s2 := s1.trans (same_new (o := HO.tup [.str "undo"]) hp2)
      have hp2F : F p2 = false := lv.new (s1.hole hp2)
      cases hb with
      | good d hk hp =>
        cases d with
        | put kx m => cases h3
        | drop kx => cases h3
        | undo => exact k _ _ s2 (.tup ((Av_get hp2F).trans upd_same) (.cons (.str _) .nil))
      | nil => cases h3
      | one b n1 n2 n3 => exact absurd (List.cons.inj h3).1 n3
      | drop l hl hc => exact absurd (List.cons.inj h3).1 (by decide)
      | put1 kx l hn hl hc => exact absurd (List.cons.inj h3).1 (by decide)
      | put2 kx hl hc => exact absurd (List.cons.inj h3).1 (by decide)
    refine ite_f (decide_eq_false h3) ?_
    generalize upd H p1 (.lst [.int 3]) = H1 at *
    refine ⟨_, rfl, a, _, rfl, .inl (s1.seq hs), rfl, _, rfl, ?_⟩
    by_cases hnil : l = []
    · subst hnil
      refine ite_t (by decide +kernel) ?_
      refine k _ _ s1 ?_
      generalize hg : ([] : List Nat) = l0 at hb
      cases hb with
      | good d hk hp => cases d <;> cases hg
      | nil => rfl
      | one b n1 n2 n3 => rfl
      | drop l hl hc => rfl
      | put1 kx l hn hl hc => rfl
      | put2 kx hl hc => rfl
    refine ite_f ?_ ?_
    · refine decide_eq_false fun e => hnil ?_
      have := V.int.inj e
      rw [ocs_len] at this
      exact List.length_eq_zero_iff.mp (by omega)
    obtain ⟨x, l', rfl⟩ : ∃ x l', l = x :: l' := by
      cases l with
      | nil => exact absurd rfl hnil
      | cons x l' => exact ⟨x, l', rfl⟩
    have hat0 : atI (ocs (x :: l')) 0 = some (.int (x : Int)) := atI_nat (j := 0) rfl
    refine ⟨_, rfl, a, _, _, _, rfl, rfl, s1.seq hs, hat0, by show 2 ≤ sizeLine; decide, fun W hW => ?_⟩
    have s2 := s1.trans (same_new (o := HO.lst [.int 1, .int 2]) hW)
    refine ⟨_, _, rfl, .inl (SqL.of upd_same), rfl, rfl, _, rfl, ?_⟩
    have eIn : inV (.int (x : Int)) [.int 1, .int 2] = decide (x = 1 ∨ x = 2) := by
      have e1 : inV (.int (x : Int)) [.int 1, .int 2] = (eqV (.int 1) (.int (x : Int)) || (eqV (.int 2) (.int (x : Int)) || false)) := rfl
      rw [e1]
      show (decide ((1 : Int) = x) || (decide ((2 : Int) = x) || false)) = _
      by_cases h1 : x = 1
      · subst h1; rfl
      · by_cases h2 : x = 2
        · subst h2; rfl
        · rw [decide_eq_false (by omega), decide_eq_false (by omega), decide_eq_false (by omega)]
          rfl
    rw [eIn]
    generalize upd H1 W (.lst [.int 1, .int 2]) = H2 at *
    by_cases hx2 : x = 2
    · subst hx2
      refine ite_f (by decide) ?_
      obtain ⟨hz2, hb2⟩ : l'.length ≤ 5000 ∧ ((nmOk l' ∧ od = some (.drop l')) ∨ ((∃ c ∈ l', ¬ chOk c) ∧ od = none)) := by
        generalize hg : 2 :: l' = l0 at hb
        cases hb with
        | good d hk hp =>
          cases d with
          | put kx m => cases hg
          | drop kx =>
            cases hg
            exact ⟨by have := hk.2.1; omega, .inl ⟨hk, rfl⟩⟩
          | undo => cases hg
        | nil => cases hg
        | one b n1 n2 n3 => exact absurd (List.cons.inj hg).1.symm n2
        | drop l hl hc => cases hg; exact ⟨hl, .inr ⟨hc, rfl⟩⟩
        | put1 kx l hn hl hc => exact absurd (List.cons.inj hg).1 (by decide)
        | put2 kx hl hc => exact absurd (List.cons.inj hg).1 (by decide)
      refine ⟨_, rfl, _, rfl, a, _, _, _, rfl, rfl, s2.seq hs, hat0, _, _, rfl, rfl, _, rfl, a, _, rfl, s2.seq hs, fun p4 hp4 => ?_⟩
      rw [show cutV (ocs (2 :: l')) (some (3 - ((2 : Nat) : Int))) none = ocs l' from cutO_from (2 :: l') 1] at *
      have s4 := s2.trans (same_new (o := HO.lst (ocs l')) hp4)
      rcases hb2 with ⟨hn, rfl⟩ | ⟨hc, rfl⟩
      · refine ⟨p4, l', rfl, SqL.of upd_same, hz2, .inl ⟨nm_ch hn, ?_⟩⟩
        refine ⟨_, rfl, rfl, _, rfl, ?_⟩
        refine ite_f (decide_eq_false fun e => nomatch e) ?_
        refine ⟨_, rfl, a, _, _, _, rfl, rfl, s4.seq hs, hat0, rfl, _, rfl, ?_⟩
        refine ite_f (by decide) (iteF ?_)
        refine ⟨_, rfl, a, _, _, _, rfl, rfl, s4.seq hs, hat0, rfl, _, rfl, ?_⟩
        refine ite_t (by decide) ?_
        have h1 := hn.1
        have h2 := hn.2.1
        refine ⟨_, rfl, _, rfl, small_le (by rw [S_len]; omega), _, _, rfl, rfl, ?_⟩
        refine ⟨_, rfl, ite_t (decide_eq_true (by rw [S_len]; omega)) ⟨_, _, rfl, rfl, _, rfl, ?_⟩⟩
        refine ite_t (decide_eq_true (by rw [S_len]; omega)) ?_
        refine ⟨_, rfl, l', 0, l', [], rfl, hz2, by simp, hn.2.2, (fun c r' e => by cases e), _, rfl, rfl, _, rfl, ?_⟩
        refine ite_t (decide_eq_true rfl) ?_
        refine ⟨_, rfl, by show 2 ≤ sizeLine; decide, fun p8 hp8 => ?_⟩
        have f8 : F p8 = false := lv.new (s4.hole hp8)
        exact k _ _ (s4.trans (same_new hp8 _)) (.tup ((Av_get f8).trans upd_same) (.cons (.str _) (.cons (.str _) .nil)))
      · refine ⟨p4, l', rfl, SqL.of upd_same, hz2, .inr ⟨hc, ?_⟩⟩
        refine ⟨_, rfl, rfl, _, rfl, ?_⟩
        refine ite_t (decide_eq_true rfl) ?_
        exact k _ _ s4 rfl
    by_cases hx1 : x = 1
    · subst hx1
      refine ite_f (by decide) ?_
      obtain ⟨kx, l2, rfl, hzk, hz2, hb2⟩ : ∃ kx l2, l' = kx.length :: (kx ++ l2) ∧ kx.length ≤ 8 ∧ l2.length ≤ 5000 ∧
          ((nmOk kx ∧ ∃ m, l2 = fmt 3 m ∧ plain 3 m = m ∧ ok 3 false m ∧ (fmt 3 m).length ≤ 4000 ∧ od = some (.put kx m)) ∨ ((∃ c ∈ kx ++ l2, ¬ chOk c) ∧ od = none)) := by
        generalize hg : 1 :: l' = l0 at hb
        cases hb with
        | good d hk hp =>
          cases d with
          | put kx m =>
            have e := (List.cons.inj hg).2
            exact ⟨kx, fmt 3 m, e, hk.1.2.1, by have := hk.2.2; omega, .inl ⟨hk.1, m, rfl, hp, hk.2.1, hk.2.2, rfl⟩⟩
          | drop kx => cases hg
          | undo => cases hg
        | nil => cases hg
        | one b n1 n2 n3 => exact absurd (List.cons.inj hg).1.symm n1
        | drop l hl hc => exact absurd (List.cons.inj hg).1 (by decide)
        | put1 kx l hn hl hc =>
          have e := (List.cons.inj hg).2
          obtain ⟨c, h1, h2⟩ := hc
          exact ⟨kx, l, e, hn.2.1, hl, .inr ⟨⟨c, List.mem_append_right _ h1, h2⟩, rfl⟩⟩
        | put2 kx hl hc =>
          have e := (List.cons.inj hg).2
          obtain ⟨c, h1, h2⟩ := hc
          exact ⟨kx, [], by rw [e]; simp, hl, by simp, .inr ⟨⟨c, List.mem_append_left _ h1, h2⟩, rfl⟩⟩
      have hat1 : atI (ocs (1 :: kx.length :: (kx ++ l2))) 1 = some (.int (kx.length : Int)) := atI_nat (j := 1) rfl
      refine ⟨_, rfl, _, rfl, a, _, _, _, rfl, rfl, s2.seq hs, hat0, _, _, rfl, rfl, _, rfl, a, _, rfl, s2.seq hs, fun p4 hp4 => ?_⟩
      rw [show cutV (ocs (1 :: kx.length :: (kx ++ l2))) (some (3 - ((1 : Nat) : Int))) none = ocs (kx ++ l2) from cutO_from (1 :: kx.length :: (kx ++ l2)) 2] at *
      have s4 := s2.trans (same_new (o := HO.lst (ocs (kx ++ l2))) hp4)
      have hzt : (kx ++ l2).length ≤ 5000 := by
        have : (1 :: kx.length :: (kx ++ l2)).length ≤ 5000 := hz
        simp only [List.length_cons] at this
        omega
      rcases hb2 with ⟨hn, m, rfl, hpm, hom, hzm, rfl⟩ | ⟨hc, rfl⟩
      · have h1 := hn.1
        have h2 := hn.2.1
        have hzl : (kx ++ fmt 3 m).length = kx.length + (fmt 3 m).length := List.length_append
        refine ⟨p4, kx ++ fmt 3 m, rfl, SqL.of upd_same, hzt, .inl ⟨app_ch (nm_ch hn) (fmt_ch 3 false m hom), ?_⟩⟩
        refine ⟨_, rfl, rfl, _, rfl, ?_⟩
        refine ite_f (decide_eq_false fun e => nomatch e) ?_
        refine ⟨_, rfl, a, _, _, _, rfl, rfl, s4.seq hs, hat0, rfl, _, rfl, ?_⟩
        refine ite_t (by decide) ?_
        refine ⟨_, rfl, a, _, rfl, .inl (s4.seq hs), _, _, rfl, rfl, _, rfl, ?_⟩
        refine ite_f (decide_eq_false (by rw [ocs_len]; simp only [List.length_cons]; omega)) ?_
        refine ⟨_, rfl, a, _, _, _, rfl, rfl, s4.seq hs, hat0, rfl, _, rfl, ?_⟩
        refine ite_f (by decide) ?_
        refine ⟨_, rfl, a, _, _, _, rfl, rfl, s4.seq hs, hat1, ?_⟩
        refine ⟨_, rfl, _, _, rfl, rfl, ?_⟩
        refine ⟨_, rfl, ite_t (decide_eq_true (by omega)) ⟨_, _, rfl, rfl, _, rfl, ?_⟩⟩
        refine ite_f (by rw [decide_eq_true (by omega)]; rfl) ?_
        refine ⟨_, rfl, _, rfl, small_le (by rw [S_len]; omega), _, rfl, _, _, rfl, rfl, _, rfl, ?_⟩
        refine ite_f (decide_eq_false (by rw [S_len]; omega)) ?_
        have eT : cutS (S (kx ++ fmt 3 m)) none (some (kx.length : Int)) = S kx := by rw [cutS_to, List.take_left]
        have eF : cutS (S (kx ++ fmt 3 m)) (some (kx.length : Int)) none = S (fmt 3 m) := by rw [cutS_from, List.drop_left]
        refine ⟨_, rfl, _, rfl, _, rfl, _, rfl, small_le (by rw [S_len]; omega), ?_⟩
        rw [eT]
        refine ⟨kx, 0, kx, [], rfl, by omega, by simp, hn.2.2, (fun c r' e => by cases e), _, rfl, small_le (by rw [S_len]; omega), _, rfl, rfl, _, rfl, ?_⟩
        refine ite_f (by rw [S_len, decide_eq_true rfl]; rfl) ?_
        refine ⟨_, rfl, _, rfl, _, rfl, _, rfl, small_le (by rw [S_len]; omega), ?_⟩
        rw [eF]
        refine ⟨F, fmt 3 m, 0, false, m, [], rfl, by omega, by simp, (fun c r' e => by cases e), hom, hpm, lv.same s4, fun q t H5 s5 hq ht => ?_⟩
        have s45 := s4.trans s5
        refine ⟨_, rfl, rfl, _, rfl, ?_⟩
        refine ite_f (decide_eq_false fun e => nomatch e) ?_
        refine ⟨_, rfl, q, _, _, _, rfl, rfl, SqL.of hq, atI_nat (j := 1) rfl, _, rfl, _, rfl, small_le (by rw [S_len]; omega), _, rfl, _, _, rfl, rfl, rfl, _, rfl, ?_⟩
        refine ite_f ?_ ?_
        · have : decide (V.int ((0 + (fmt 3 m).length : Nat) : Int) = V.int (((S (kx ++ fmt 3 m)).length : Int) - (kx.length : Int))) = true := decide_eq_true (by rw [S_len, hzl]; congr 1; omega)
          rw [this]; rfl
        refine ⟨_, rfl, _, rfl, _, rfl, _, rfl, small_le (by rw [S_len]; omega), ?_⟩
        rw [eT]
        refine ⟨_, rfl, q, _, _, _, rfl, rfl, SqL.of hq, atI_nat (j := 0) rfl, by show 3 ≤ sizeLine; decide, fun p8 hp8 => ?_⟩
        have f8 : F p8 = false := lv.new (s45.hole hp8)
        exact k _ _ (s45.trans (same_new hp8 _)) (.tup ((Av_get f8).trans upd_same) (.cons (.str _) (.cons (.str _) (.cons (ht.same (same_new hp8 _)) .nil))))
      · refine ⟨p4, kx ++ l2, rfl, SqL.of upd_same, hzt, .inr ⟨hc, ?_⟩⟩
        refine ⟨_, rfl, rfl, _, rfl, ?_⟩
        refine ite_t (decide_eq_true rfl) ?_
        exact k _ _ s4 rfl
    · refine ite_t (by rw [decide_eq_false (by omega)]; rfl) ?_
      refine k _ _ s2 ?_
      generalize hg : x :: l' = l0 at hb
      cases hb with
      | good d hk hp =>
        cases d with
        | put kx m => exact absurd (List.cons.inj hg).1 hx1
        | drop kx => exact absurd (List.cons.inj hg).1 hx2
        | undo => exact absurd hg h3
      | nil => rfl
      | one b n1 n2 n3 => rfl
      | drop l hl hc => rfl
      | put1 kx l hn hl hc => rfl
      | put2 kx hl hc => rfl
end
end Mw
/-! MwX -/
set_option Elab.async false
set_option linter.all false
set_option maxRecDepth 100000
set_option maxHeartbeats 4000000
namespace Mw
open PySem PySem.Spec PyProof.Rows L2
section
variable {P : Program} {w : World} {K : PySem.W.Frag} {mg : Str → Option Value} {base : Heap}
def spLRead (K : PySem.W.Frag) : Sp := fun vs H Q _ => ∃ (F : Fz) (a : Addr) (ds : List Deed) (t : List Nat), vs = [.ref a] ∧ SqL K H a (ocs (recsN ds ++ t)) ∧ Live F H ∧ (∀ d ∈ ds, okD d ∧ plD d) ∧ Dead t ∧ ds.length ≤ 1000 ∧ (recsN ds ++ t).length ≤ 90000 ∧
  ∀ p D vs H', Same H H' → H D = none → H' D = some (.lst vs) → DhA K (add F D) H' vs (ds.map dD) → H' p = some (.tup [.ref D, .int ((recsN ds).length : Nat)]) → Q (.ref p) H'
theorem sc_law_read : FnScope ["_law_octets_here", "_law_deeds", "_law_place", "_law_rest", "_law_many", "_law_deed_here"] ["_law_octets_here"] (defScope s_law_read) := ⟨rfl, rfl, rfl, by decide +kernel, rfl, by decide +kernel, by decide +kernel⟩
theorem ok_law_read (T : Tx K mg) : OkF P w K mg base d_law_read ["_law_octets_here"] 14 (spLRead K) := by
  have o_law_body_told : OkF P w K mg base d_law_body_told ["_law_body"] 13 (spDeedOf K) := ok_law_body_told T
  refine (okF T 59 (d := d_law_read) rfl sc_law_read (fun _ _ _ _ _ _ us hl => match us, hl with | [_], _ => rfl) ⟨rfl, rfl⟩ (fun vs H Q E h => ?_) (fun cdv A outer s H vs Q E hr h => ?_))
  · obtain ⟨F, a, ds, t, rfl, _⟩ := h; rfl
  · obtain ⟨F, a, ds, t, rfl, hs, lv, hok, hdead, zd, hz, k⟩ := h
    refine ⟨_, (pss_cons (ps_set (i := 1) sc_law_read.nd rfl (Or.inl rfl) (pe_lst pa_nil))
  (pss_cons (ps_set (i := 2) sc_law_read.nd rfl (Or.inl rfl) pe_int)
  (pss_cons (ps_while PassesOwn.never (pt_cmpR op_lt (pe_op op_add (pv 2) pe_int) (pe_callB call_len_seq (by rfl) T.z_len (by decide +kernel) (pa_cons (pv 0) pa_nil)) (nomark _))
  (pss_cons (ps_set (i := 3) sc_law_read.nd rfl (Or.inl rfl) (pe_slice sl_list (pv 0) (po_some (pe_op op_add (pv 2) pe_int)) po_none))
  (pss_cons (ps_set (i := 4) sc_law_read.nd rfl (Or.inl rfl) (pe_op op_add (pe_op op_mul pe_int (pe_ix ix_list (pv 0) (pv 2) (fun _ _ => rfl))) (pe_ix ix_list (pv 0) (pe_op op_add (pv 2) pe_int) (fun _ _ => rfl))))
  (pss_cons (ps_if (PW.pt (pw_or (pt_cmpR op_lt (pe_callB call_len_seq (by rfl) T.z_len (by decide +kernel) (pa_cons (pv 3) pa_nil)) (pe_op op_add (pv 4) pe_int) (nomark _)) (pw_or (pt_cmpR op_ne (pe_ix ix_list (pv 3) (pe_op op_add (pv 4) pe_int) (fun _ _ => rfl)) pe_int (nomark _)) (pw_or1 (pt_cmpR op_ne (pe_ix ix_list (pv 3) (pv 4) (fun _ _ => rfl)) (pe_op op_mod (pe_callB (cr_sum rfl) (by rfl) T.z_sum (by decide +kernel) (pa_cons (pe_slice sl_list (pv 3) po_none (po_some (pv 4))) pa_nil)) pe_int) (nomark _))))))
  (pss_one (ps_ret (pe_tup (pa_cons (pv 1) (pa_cons (pv 2) pa_nil)))))
  pss_nil)
  (pss_cons (ps_set (i := 5) sc_law_read.nd rfl (Or.inl rfl) (cg o_law_body_told T.g__law_body_told (hr.mono (by omega)) (pa_cons (pe_slice sl_list (pv 3) po_none (po_some (pv 4))) pa_nil)))
  (pss_cons (ps_if (pt_cmpR op_isN (pv 5) pe_non (nomark _))
  (pss_one (ps_ret (pe_tup (pa_cons (pv 1) (pa_cons (pv 2) pa_nil)))))
  pss_nil)
  (pss_cons (ps_expr (pe_bm PySem.F.plainAttrs_list PySem.F.slot_list_append PySem.F.type_list_append mt_append (pv 1) (pa_cons (pv 5) pa_nil)))
  (pss_one (ps_set (i := 2) sc_law_read.nd rfl (Or.inl rfl) (pe_op op_add (pe_op op_add (pv 2) (pv 4)) pe_int))))))))))
  (pss_one (ps_ret (pe_tup (pa_cons (pv 1) (pa_cons (pv 2) pa_nil)))))))), ?_⟩
    refine ⟨Nat.zero_le _, fun D hD => ?_⟩
    have s0 := same_new (o := HO.lst []) hD
    have fD : F D = false := lv.new hD
    generalize hX : recsN ds ++ t = X at *
    refine ⟨fun mm σ' H' => ∃ j vs v3 v4 v5, mm = ds.length - j ∧ j ≤ ds.length ∧ σ' = [some (.ref a), some (.ref D), some (.int ((recsN (ds.take j)).length : Nat)), v3, v4, v5] ∧ H' D = some (.lst vs) ∧ Same H H' ∧ DhA K (add F D) H' vs ((ds.take j).map dD),
      ⟨_, 0, [], none, none, none, rfl, Nat.zero_le _, rfl, upd_same, s0, .nil⟩, ?_⟩
    rintro mm σ' H' ⟨j, vs, v3, v4, v5, rfl, hj, rfl, hDv, s1, hvs⟩
    have hdr : X.drop (recsN (ds.take j)).length = recsN (ds.drop j) ++ t := by
      have e : recsN ds = recsN (ds.take j) ++ recsN (ds.drop j) := by
        conv => lhs; rw [← List.take_append_drop j ds]
        exact List.flatMap_append
      rw [← hX, e, List.append_assoc, List.drop_left]
    generalize hp : (recsN (ds.take j)).length = p at *
    have hlen : X.length - p = (recsN (ds.drop j)).length + t.length := by rw [← List.length_append, ← hdr, List.length_drop]
    have lvs : vs.length = j := by
      have := DpAll.len hvs
      rw [List.length_map, List.length_take] at this
      omega
    -- what the end of the loop answers
    have fin : j = ds.length → ∀ H2 q, Same H' H2 → H2 D = some (.lst vs) → H2 q = none → Q (.ref q) (upd H2 q (.tup [.ref D, .int (p : Nat)])) := fun hjl H2 q s2 hD2 hq => by
      rw [hjl, List.take_length] at hvs hp
      have s3 := (s1.trans s2)
      refine k q D vs _ (s3.trans (same_new hq _)) hD ((same_new hq _) _ _ hD2) ((hvs.same s2).same (same_new hq _)) ?_
      rw [upd_same, hp]
    -- while place + 1 < len(octets)
    refine ⟨_, rfl, _, _, rfl, rfl, _, rfl, a, _, rfl, .inl (s1.seq hs), _, _, rfl, rfl, _, rfl, ?_⟩
    rw [ocs_len]
    by_cases hshort : j = ds.length ∧ t.length < 2
    · obtain ⟨hjl, hA⟩ := hshort
      rw [hjl, List.drop_length] at hdr hlen
      have e0 : (recsN ([] : List Deed)).length = 0 := rfl
      rw [e0] at hlen
      refine ite_f (decide_eq_false (by omega)) ?_
      exact ⟨_, rfl, _, rfl, by show 2 ≤ sizeLine; decide, fun q hq => fin hjl H' q (Same.refl _) hDv hq⟩
    obtain ⟨x, y, rr, hdr', hcase⟩ : ∃ x y rr, X.drop p = x :: y :: rr ∧ ((j = ds.length ∧ rr.length < x * 256 + y + 2) ∨ ∃ body sg m rest od, rr = body ++ sg :: m :: rest ∧ x * 256 + y = body.length ∧ body.length ≤ 5000 ∧ Bd body od ∧
        ((j = ds.length ∧ (m ≠ 170 ∨ sg ≠ body.sum % 256 ∨ od = none)) ∨ (∃ d, ds[j]? = some d ∧ od = some d ∧ m = 170 ∧ sg = body.sum % 256 ∧ recN d = x :: y :: (body ++ [sg, m])))) := by
      by_cases hjl : j = ds.length
      · rw [hjl, List.drop_length] at hdr
        cases hdead with
        | short t h => exact absurd ⟨hjl, h⟩ hshort
        | long x y r h => exact ⟨x, y, r, hdr, .inl ⟨hjl, h⟩⟩
        | bad x y body sg m rest od h1 h2 h3 h4 => exact ⟨x, y, _, hdr, .inr ⟨body, sg, m, rest, od, rfl, h1, h2, h3, .inl ⟨hjl, h4⟩⟩⟩
      · have hjlt : j < ds.length := by omega
        have hg := List.getElem?_eq_getElem hjlt
        generalize ds[j] = d at hg
        have hm := hok d (List.mem_of_getElem? hg)
        have hd2 : ds.drop j = d :: ds.drop (j + 1) := by
          rw [List.drop_eq_getElem?_toList_append, hg]
          rfl
        refine ⟨(bodyN d).length / 256, (bodyN d).length % 256, _, ?_, .inr ⟨bodyN d, (bodyN d).sum % 256, 170, recsN (ds.drop (j + 1)) ++ t, some d, rfl, by omega, Nat.le_trans (body_len hm.1) (by decide), .good d hm.1 hm.2, .inr ⟨d, hg, rfl, rfl, rfl, rfl⟩⟩⟩
        rw [hdr, hd2]
        simp [recsN, recN]
    have hlen2 : X.length - p = rr.length + 2 := by
      have := congrArg List.length hdr'
      simp only [List.length_drop, List.length_cons] at this
      omega
    have h1 : X[p]? = some x := drop_at (i := 0) hdr'
    have h2 : X[p + 1]? = some y := drop_at (i := 1) hdr'
    have hrr : X.drop (p + 2) = rr := by rw [← List.drop_drop, hdr']; rfl
    refine ite_t (decide_eq_true (by omega)) ?_
    refine ⟨fun σ2 H2 => ∃ vs v3 v4 v5, j + 1 ≤ ds.length ∧ σ2 = [some (.ref a), some (.ref D), some (.int ((recsN (ds.take (j + 1))).length : Nat)), v3, v4, v5] ∧ H2 D = some (.lst vs) ∧ Same H H2 ∧ DhA K (add F D) H2 vs ((ds.take (j + 1)).map dD),
      fun σ2 H2 ⟨vs, v3, v4, v5, g0, g⟩ => ⟨ds.length - (j + 1), by omega, j + 1, vs, v3, v4, v5, rfl, g0, g⟩, ?_⟩
    -- rest, many
    refine ⟨_, rfl, _, rfl, _, _, rfl, rfl, _, rfl, a, _, rfl, s1.seq hs, fun q hq => ?_⟩
    rw [show cutV (ocs X) (some (((p : Nat) : Int) + 2)) none = ocs rr by rw [show ((p : Nat) : Int) + 2 = ((p + 2 : Nat) : Int) by omega, cutO_from, hrr]] at *
    have s2' := same_new (o := HO.lst (ocs rr)) hq
    have s2 := s1.trans s2'
    have hD2 := s2' _ _ hDv
    have hvs2 := hvs.same s2'
    have hq2 : (upd H' q (.lst (ocs rr))) q = some (.lst (ocs rr)) := upd_same
    generalize upd H' q (.lst (ocs rr)) = H2 at *
    refine ⟨_, rfl, _, rfl, a, _, _, _, rfl, rfl, s2.seq hs, atO h1, _, _, rfl, rfl, .inl ⟨by decide, by decide⟩, _, rfl, _, rfl, _, _, rfl, rfl, a, _, _, _, rfl, rfl, s2.seq hs, atO h2, _, _, rfl, rfl, ?_⟩
    refine ⟨_, rfl, q, _, rfl, .inl (SqL.of hq2), _, rfl, _, _, rfl, rfl, _, _, rfl, rfl, _, rfl, ?_⟩
    rcases hcase with ⟨hjl, hlong⟩ | ⟨body, sg, m, rest, od, rfl, hL, hzb, hB, hcs⟩
    · refine ite_t (decide_eq_true (by rw [ocs_len]; omega)) ?_
      exact ⟨_, rfl, _, rfl, by show 2 ≤ sizeLine; decide, fun q2 hq2' => fin hjl H2 q2 s2' hD2 hq2'⟩
    have hrl : (body ++ sg :: m :: rest).length = body.length + rest.length + 2 := by simp; omega
    refine ite_f (decide_eq_false (by rw [ocs_len]; omega)) ?_
    have eM : (256 : Int) * (x : Int) + (y : Int) = (body.length : Int) := by omega
    have h3 : atI (ocs (body ++ sg :: m :: rest)) ((256 : Int) * (x : Int) + (y : Int)) = some (.int (sg : Int)) := by
      rw [eM]
      exact atO (by rw [List.getElem?_append_right (Nat.le_refl _), Nat.sub_self]; rfl)
    have h4 : atI (ocs (body ++ sg :: m :: rest)) ((256 : Int) * (x : Int) + (y : Int) + 1) = some (.int (m : Int)) := by
      rw [eM, show (body.length : Int) + 1 = ((body.length + 1 : Nat) : Int) by omega]
      exact atO (by rw [List.getElem?_append_right (by omega), show body.length + 1 - body.length = 1 by omega]; rfl)
    have eB : cutV (ocs (body ++ sg :: m :: rest)) none (some ((256 : Int) * (x : Int) + (y : Int))) = ocs body := by
      rw [eM, cutO_to, List.take_left]
    refine ⟨_, rfl, _, rfl, _, _, rfl, rfl, q, _, _, _, rfl, rfl, SqL.of hq2, h4, rfl, _, rfl, ?_⟩
    by_cases t1 : m = 170
    · subst t1
      refine ite_f (by decide) ?_
      refine ⟨_, rfl, _, rfl, q, _, _, _, rfl, rfl, SqL.of hq2, h3, _, rfl, _, rfl, _, rfl, q, _, rfl, SqL.of hq2, fun u hu => ?_⟩
      rw [eB]
      have s3' := same_new (o := HO.lst (ocs body)) hu
      refine ⟨u, body.map fun c : Nat => (c : Int), rfl, by rw [← ocs_int]; exact SqL.of upd_same, _, _, rfl, rfl, show (0 : Int) < 256 by decide, rfl, _, rfl, ?_⟩
      rw [ocs_sum]
      have hD3 := s3' _ _ hD2
      have hq3 := s3' _ _ hq2
      have hvs3 := hvs2.same s3'
      have s3 := s2.trans s3'
      have s13 := s2'.trans s3'
      generalize upd H2 u (.lst (ocs body)) = H3 at *
      by_cases t2 : sg = body.sum % 256
      · refine ite_f ?_ ?_
        · have : decide (V.int (sg : Int) = V.int (((body.sum : Nat) : Int) % 256)) = true := decide_eq_true (by rw [t2]; rfl)
          rw [this]; rfl
        have lv3 : Live (add F D) H3 := (lv.same s3).add (by rw [hD3]; simp)
        refine ⟨_, rfl, _, rfl, _, rfl, q, _, rfl, SqL.of hq3, fun u2 hu2 => ?_⟩
        rw [eB]
        have s4' := same_new (o := HO.lst (ocs body)) hu2
        refine ⟨add F D, u2, body, od, rfl, SqL.of upd_same, lv3.same s4', hzb, hB, fun v H4 s5 hv => ?_⟩
        have s6 := s4'.trans s5
        have hD4 := s6 _ _ hD3
        have s14 := s13.trans s6
        refine ⟨_, rfl, rfl, _, rfl, ?_⟩
        rcases hcs with ⟨hjl, h | h | h⟩ | ⟨d, hg, hod, hm, hsg, hrec⟩
        · exact absurd rfl h
        · exact absurd t2 h
        · subst h
          have hv' : v = .non := hv
          subst hv'
          refine ite_t (decide_eq_true rfl) ?_
          exact ⟨_, rfl, _, rfl, by show 2 ≤ sizeLine; decide, fun q2 hq2' => fin hjl H4 q2 s14 hD4 hq2'⟩
        · subst hod
          have hv' : Dh K (add F D) H4 v (dD d) := hv
          obtain ⟨va, _, rfl, _⟩ := dp_tagD hv'
          refine ite_f (decide_eq_false fun e => nomatch e) ?_
          refine ⟨_, rfl, .inl ⟨rfl, _, SqL.of hD4⟩, _, rfl, D, vs, _, rfl, rfl, hD4, small_lt (by omega), ?_⟩
          have hjl := lt_of_at hg
          have hL2 : (recsN (ds.take (j + 1))).length = p + body.length + 4 := by
            have : recsN (ds.take (j + 1)) = recsN (ds.take j) ++ recN d := flat_take hg
            rw [this, List.length_append, hp, hrec]
            simp
            omega
          refine ⟨_, rfl, _, rfl, _, _, rfl, rfl, _, _, rfl, rfl, vs ++ [.ref va], some (.ref q), some (.int ((256 : Int) * (x : Int) + (y : Int))), some (.ref va), hjl, ?_, upd_same, same_mut (s3.trans s6) hD, ?_⟩
          · rw [hL2]
            have e : ((p + body.length + 4 : Nat) : Int) = (p : Int) + ((256 : Int) * (x : Int) + (y : Int)) + 4 := by omega
            rw [e]
            rfl
          · rw [take_more hg, List.map_append]
            exact DhA.updF (DpAll.snoc (hvs3.same s6) hv') (add_self _ _)
      · refine ite_t ?_ ?_
        · have : decide (V.int (sg : Int) = V.int (((body.sum : Nat) : Int) % 256)) = false := decide_eq_false fun e => t2 (by
            have := V.int.inj e
            omega)
          rw [this]; rfl
        rcases hcs with ⟨hjl, _⟩ | ⟨d, hg, hod, hm, hsg, hrec⟩
        · exact ⟨_, rfl, _, rfl, by show 2 ≤ sizeLine; decide, fun q2 hq2' => fin hjl H3 q2 s13 hD3 hq2'⟩
        · exact absurd hsg t2
    · refine ite_t ?_ ?_
      · have : decide (V.int (m : Int) = V.int 170) = false := decide_eq_false fun e => t1 (by
          have := V.int.inj e
          omega)
        rw [this]; rfl
      rcases hcs with ⟨hjl, _⟩ | ⟨d, hg, hod, hm, hsg, hrec⟩
      · exact ⟨_, rfl, _, rfl, by show 2 ≤ sizeLine; decide, fun q2 hq2' => fin hjl H2 q2 s2' hD2 hq2'⟩
      · exact absurd hm t1
end
end Mw
/-! MwY -/
set_option Elab.async false
set_option linter.all false
set_option maxRecDepth 100000
set_option maxHeartbeats 4000000
namespace Mw
open PySem PySem.Spec PyProof.Rows L2
section
variable {P : Program} {w : World} {K : PySem.W.Frag} {mg : Str → Option Value} {base : Heap}
/-- [ord(sign) for sign in a text] -/
theorem lc_ord {l : List Nat} {vs : List Nat} {σ : L2.St} {H1 : Hp} {D : Addr} {i : Nat} {Qd : Hp → Prop} (hD : H1 D = none) (hl : l.length ≤ 5000) (hi : ∀ v : V, ((wipe σ vs).set i (some v))[i]? = some (some v)) (hw : ∀ v : V, wipe ((wipe σ vs).set i (some v)) vs = wipe σ vs)
    (hd : ∀ H, Same H1 H → H D = some (.lst (ocs l)) → Qd H) :
    ∃ W : Nat → Nat → Hp → Prop, (∃ m, W 0 m (upd H1 D (.lst []))) ∧ ∀ j m H, W j m H →
      ((Its (S l)).stop j H ∧ Qd H) ∨ ((Its (S l)).go j H ∧ ∃ Nx : Hp → Prop, (∀ H', Nx H' → ∃ m', m' < m ∧ W (j + 1) m' H') ∧ ∀ x H', (Its (S l)).yld j H x H' → gName i x (wipe σ vs) H' fun σ2 H2 => wipe σ2 vs = wipe σ vs ∧ tYes σ2 H2 fun b H3 =>
        if b = true then tCB (fun xs H Q => ∃ x, xs = [.str x] ∧ x.length = 1 ∧ Q (.int (x.cps.getD 0 0 : Nat)) H) (tCons (tVar i) tNil) σ2 H3 fun y H4 => ∃ acc, H4 D = some (.lst acc) ∧ acc.length < sizeLine ∧ Nx (upd H4 D (.lst (acc ++ [y]))) else Nx H3) := by
  refine lc_S (l := l) (fun i H' => H' D = some (.lst (ocs (l.take i))) ∧ Same H1 H') ⟨upd_same, same_new hD _⟩ ?_ ?_
  · rintro j c H' hj ⟨hDv, s2⟩
    refine ⟨hw _, yes_t ?_⟩
    refine ⟨_, hi _, _, rfl, rfl, _, hDv, small_lt ?_, ?_, same_mut s2 hD⟩
    · rw [ocs_len, List.length_take]; omega
    · rw [upd_same, take_more hj, ocs_app]
      rfl
  · rintro H' ⟨hDv, s2⟩
    rw [List.take_length] at hDv
    exact hd H' s2 hDv
theorem sc_law_record : FnScope ["_law_deed_here", "_law_body", "_law_sign"] ["_law_deed_here"] (defScope s_law_record) := ⟨rfl, rfl, rfl, by decide +kernel, rfl, by decide +kernel, by decide +kernel⟩
theorem ok_law_record (T : Tx K mg) : OkF P w K mg base d_law_record ["_law_deed_here"] 5 (spRecOf K) := by
  have o_law_plain : OkF P w K mg base d_law_plain ["_law_message_here"] 4 (spPlain K 3) := ok_law_plain T 3 (by decide)
  have o_law_notation : OkF P w K mg base d_law_notation ["_law_message_here"] 4 (spFMsg K 3) := ok_law_notation T 3
  refine (okF T 60 (d := d_law_record) rfl sc_law_record (fun _ _ _ _ _ _ us hl => match us, hl with | [_], _ => rfl) ⟨rfl, rfl⟩ (fun vs H Q E h => ?_) (fun cdv A outer s H vs Q E hr h => ?_))
  · obtain ⟨F, a, d, rfl, _⟩ := h; rfl
  · obtain ⟨F, a, d, rfl, lv, hd, hk, k⟩ := h
    refine ⟨_, (Evl.pss_cut (ps_if (pt_cmpR op_eq (pe_ix ix_tup (pv 0) pe_int (fun _ _ => rfl)) pe_str (nomark _))
  (pss_one (ps_set (i := 1) sc_law_record.nd rfl (Or.inl rfl) (pe_op op_cat (pe_lst (pa_cons pe_int (pa_cons (pe_callB call_len_str (by rfl) T.z_len (by decide +kernel) (pa_cons (pe_ix ix_tup (pv 0) pe_int (fun _ _ => rfl)) pa_nil)) pa_nil))) (pe_lc (own := [("_law_sign", 2)]) (g := gName 2) (tt := tYes) rfl sc_law_record.nd (pi_str (pe_op op_add_str (pe_ix ix_tup (pv 0) pe_int (fun _ _ => rfl)) (cg o_law_notation T.g__law_notation (hr.mono (by omega)) (pa_cons (cg o_law_plain T.g__law_plain (hr.mono (by omega)) (pa_cons (pe_ix ix_tup (pv 0) pe_int (fun _ _ => rfl)) pa_nil)) pa_nil)))) (blkOk_by (N := ["_law_deed_here", "_law_body", "_law_sign"]) (sc := defScope s_law_record) (by decide +kernel)) (fun _ _ _ _ _ => (pg_name (i := 2) sc_law_record.nd rfl (Or.inl rfl))) (fun _ _ _ _ _ => pts_nil) (fun _ _ _ _ _ => (pe_callB call_ord (by rfl) T.z_ord (by decide +kernel) (pa_cons (pv 2) pa_nil)))))))
  (pss_one (ps_if (pt_cmpR op_eq (pe_ix ix_tup (pv 0) pe_int (fun _ _ => rfl)) pe_str (nomark _))
  (pss_one (ps_set (i := 1) sc_law_record.nd rfl (Or.inl rfl) (pe_op op_cat (pe_lst (pa_cons pe_int pa_nil)) (pe_lc (own := [("_law_sign", 2)]) (g := gName 2) (tt := tYes) rfl sc_law_record.nd (pi_str (pe_ix ix_tup (pv 0) pe_int (fun _ _ => rfl))) (blkOk_by (N := ["_law_deed_here", "_law_body", "_law_sign"]) (sc := defScope s_law_record) (by decide +kernel)) (fun _ _ _ _ _ => (pg_name (i := 2) sc_law_record.nd rfl (Or.inl rfl))) (fun _ _ _ _ _ => pts_nil) (fun _ _ _ _ _ => (pe_callB call_ord (by rfl) T.z_ord (by decide +kernel) (pa_cons (pv 2) pa_nil)))))))
  (pss_one (ps_set (i := 1) sc_law_record.nd rfl (Or.inl rfl) (pe_lst (pa_cons pe_int pa_nil)))))))
  (pss_one (ps_ret (pe_op op_cat (pe_op op_cat (pe_lst (pa_cons (pe_op op_fdiv (pe_callB call_len_seq (by rfl) T.z_len (by decide +kernel) (pa_cons (pv 1) pa_nil)) pe_int) (pa_cons (pe_op op_mod (pe_callTy call_int1 (by rfl) T.z_int (by decide +kernel) (pa_cons (pe_callB call_len_seq (by rfl) T.z_len (by decide +kernel) (pa_cons (pv 1) pa_nil)) pa_nil)) pe_int) pa_nil))) (pv 1)) (pe_lst (pa_cons (pe_op op_mod (pe_callB (cr_sum rfl) (by rfl) T.z_sum (by decide +kernel) (pa_cons (pv 1) pa_nil)) pe_int) (pa_cons pe_int pa_nil))))))), ?_⟩
    have zb := body_len hk
    refine ⟨fun σ H1 => ∃ p1, σ = [some (.ref a), some (.ref p1), none] ∧ Same H H1 ∧ H1 p1 = some (.lst (ocs (bodyN d))), ?_, ?_⟩
    · obtain ⟨a', e, hd2⟩ := dp_deed hd
      cases e
      cases d with
      | put kx m =>
        obtain ⟨r, h1, h2⟩ := hd2
        have h1' := SqT.of (K := K) (Av_same F H _ _ h1)
        have hkl : kx.length ≤ 8 := hk.1.2.1
        refine ⟨_, rfl, a, _, _, _, rfl, rfl, h1', rfl, rfl, _, rfl, ?_⟩
        refine ite_t (decide_eq_true rfl) ?_
        refine ⟨_, rfl, a, _, _, _, rfl, rfl, h1', rfl, _, rfl, small_le (by rw [S_len]; omega), by show 2 ≤ sizeLine; decide, fun p1 hp1 => ?_⟩
        have s1 := same_new (o := HO.lst [.int 1, .int ((S kx).length : Int)]) hp1
        refine ⟨_, rfl, a, _, _, _, rfl, rfl, s1.seqT h1', rfl, _, rfl, a, _, _, _, rfl, rfl, s1.seqT h1', rfl, F, r, m, false, rfl, (show Dh K F H (.ref r) (dat 3 m) from h2).same s1, lv.same s1, hk.2.1, hk.2.2, fun r2 H2 s2 hr2 => ?_⟩
        refine ⟨r2, plain 3 m, false, rfl, hr2.out, okp 3 false m hk.2.1, by rw [fmt_plain]; exact hk.2.2, fun H3 s3 => ?_⟩
        rw [fmt_plain]
        have hzf := hk.2.2
        refine ⟨_, _, rfl, rfl, small_le (by rw [S_len, S_len]; omega), _, rfl, ?_⟩
        rw [S_app]
        intro D hD
        refine lc_ord hD (by rw [List.length_append]; omega) (fun v => rfl) (fun v => rfl) fun H4 s4 hD4 => ?_
        have e1 : H4 p1 = some (.lst [.int 1, .int ((S kx).length : Int)]) := s4 _ _ (s3 _ _ (s2 _ _ upd_same))
        refine ⟨p1, D, _, _, rfl, rfl, e1, hD4, small_le (by rw [ocs_len, List.length_append]; show 2 + _ ≤ _; omega), fun p5 hp5 => ?_⟩
        refine ⟨p5, rfl, (((s1.trans s2).trans s3).trans s4).trans (same_new hp5 _), ?_⟩
        rw [upd_same, S_len]
        simp [bodyN, ocs]
      | drop kx =>
        have h1' := SqT.of (K := K) (Av_same F H _ _ hd2)
        have hkl : kx.length ≤ 8 := hk.2.1
        refine ⟨_, rfl, a, _, _, _, rfl, rfl, h1', rfl, rfl, _, rfl, ?_⟩
        refine ite_f (by decide +kernel) ?_
        refine ⟨_, rfl, a, _, _, _, rfl, rfl, h1', rfl, rfl, _, rfl, ?_⟩
        refine ite_t (by decide +kernel) ?_
        refine ⟨by show 1 ≤ sizeLine; decide, fun p1 hp1 => ?_⟩
        have s1 := same_new (o := HO.lst [.int 2]) hp1
        refine ⟨_, rfl, a, _, _, _, rfl, rfl, s1.seqT h1', rfl, _, rfl, ?_⟩
        intro D hD
        refine lc_ord hD (by omega) (fun v => rfl) (fun v => rfl) fun H4 s4 hD4 => ?_
        refine ⟨p1, D, _, _, rfl, rfl, s4 _ _ upd_same, hD4, small_le (by rw [ocs_len]; show 1 + _ ≤ _; omega), fun p5 hp5 => ?_⟩
        refine ⟨p5, rfl, (s1.trans s4).trans (same_new hp5 _), ?_⟩
        rw [upd_same]
        rfl
      | undo =>
        have h1' := SqT.of (K := K) (Av_same F H _ _ hd2)
        refine ⟨_, rfl, a, _, _, _, rfl, rfl, h1', rfl, rfl, _, rfl, ?_⟩
        refine ite_f (by decide +kernel) ?_
        refine ⟨_, rfl, a, _, _, _, rfl, rfl, h1', rfl, rfl, _, rfl, ?_⟩
        refine ite_f (by decide +kernel) ?_
        exact ⟨by show 1 ≤ sizeLine; decide, fun p1 hp1 => ⟨p1, rfl, same_new hp1 _, upd_same⟩⟩
    · rintro σ H1 ⟨p1, rfl, s1, hp1⟩
      refine ⟨_, rfl, p1, _, rfl, .inl (SqL.of hp1), _, _, rfl, rfl, ⟨by decide, by decide⟩, ?_⟩
      refine ⟨_, rfl, p1, _, rfl, .inl (SqL.of hp1), .inl ⟨_, rfl, _, _, rfl, rfl, show (0 : Int) < 256 by decide, by show 2 ≤ sizeLine; decide, fun p2 hp2 => ?_⟩⟩
      have s2 := same_new (o := HO.lst [.int (((ocs (bodyN d)).length : Int) / 256), .int (((ocs (bodyN d)).length : Int) % 256)]) hp2
      refine ⟨_, rfl, p2, p1, _, _, rfl, rfl, upd_same, s2 _ _ hp1, small_le (by rw [ocs_len]; show 2 + _ ≤ _; omega), fun p3 hp3 => ?_⟩
      have s3 := s2.trans (same_new (o := HO.lst ([.int (((ocs (bodyN d)).length : Int) / 256), .int (((ocs (bodyN d)).length : Int) % 256)] ++ ocs (bodyN d))) hp3)
      refine ⟨_, rfl, p1, (bodyN d).map fun c : Nat => (c : Int), rfl, by rw [← ocs_int]; exact SqL.of (s3 _ _ hp1), _, _, rfl, rfl, show (0 : Int) < 256 by decide, by show 2 ≤ sizeLine; decide, fun p4 hp4 => ?_⟩
      refine ⟨p3, p4, _, _, rfl, rfl, same_new hp4 _ _ _ upd_same, upd_same, small_le (by rw [List.length_append, ocs_len]; show 2 + _ + 2 ≤ _; omega), fun p5 hp5 => ?_⟩
      refine k p5 _ (((s1.trans s3).trans (same_new hp4 _)).trans (same_new hp5 _)) (Same.hole ((s1.trans s3).trans (same_new hp4 _)) hp5) ?_
      rw [upd_same, ocs_sum]
      simp [recN, ocs]
def spLOctets (K : PySem.W.Frag) : Sp := fun vs H Q _ => ∃ (F : Fz) (a : Addr) (xs : List V) (ds : List Deed), vs = [.ref a] ∧ SqL K H a xs ∧ DhA K F H xs (ds.map dD) ∧ (∀ d ∈ ds, okD d) ∧ Live F H ∧ ds.length ≤ 20 ∧ ∀ p H', Same H H' → H p = none → H' p = some (.lst (ocs (recsN ds))) → Q (.ref p) H'
theorem recs_len : ∀ {ds : List Deed}, (∀ d ∈ ds, okD d) → (recsN ds).length ≤ ds.length * 4014
  | [], _ => by simp [recsN]
  | d :: r, h => by
    have ih := recs_len (ds := r) fun y hy => h y (List.mem_cons_of_mem _ hy)
    have h1 := rec_len (h d List.mem_cons_self)
    have e : recsN (d :: r) = recN d ++ recsN r := rfl
    rw [e, List.length_append, List.length_cons, Nat.add_mul]
    omega
theorem sc_law_octets : FnScope ["_law_rows_here", "_law_octets_here", "_law_deed_here"] ["_law_rows_here"] (defScope s_law_octets) := ⟨rfl, rfl, rfl, by decide +kernel, rfl, by decide +kernel, by decide +kernel⟩
theorem ok_law_octets (T : Tx K mg) : OkF P w K mg base d_law_octets ["_law_rows_here"] 6 (spLOctets K) := by
  have o_law_record : OkF P w K mg base d_law_record ["_law_deed_here"] 5 (spRecOf K) := ok_law_record T
  refine (okF T 68 (d := d_law_octets) rfl sc_law_octets (fun _ _ _ _ _ _ us hl => match us, hl with | [_], _ => rfl) ⟨rfl, rfl⟩ (fun vs H Q E h => ?_) (fun cdv A outer s H vs Q E hr h => ?_))
  · obtain ⟨F, a, xs, ds, rfl, _⟩ := h; rfl
  · obtain ⟨F, a, xs, ds, rfl, hs, hxs, hok, lv, zd, k⟩ := h
    refine ⟨_, (pss_cons (ps_set (i := 1) sc_law_octets.nd rfl (Or.inl rfl) (pe_lst pa_nil))
  (pss_cons (ps_for PassesOwn.never rfl (pi_list (pv 0)) (pg_name (i := 2) sc_law_octets.nd rfl (Or.inl rfl))
  (pss_one (ps_set (i := 1) sc_law_octets.nd rfl (Or.inl rfl) (pe_op op_cat (pv 1) (cg o_law_record T.g__law_record (hr.mono (by omega)) (pa_cons (pv 2) pa_nil))))))
  (pss_one (ps_ret (pv 1))))), ?_⟩
    refine ⟨Nat.zero_le _, fun p hp => ?_⟩
    have s0 := same_new (o := HO.lst []) hp
    have lxs : xs.length = ds.length := by rw [DpAll.len hxs, List.length_map]
    refine ⟨_, rfl, a, rfl, ⟨_, s0.seq hs⟩, for_list (K := K) (a := a) (xs := xs) (fun i σ H' => ∃ q v2, σ = [some (.ref a), some (.ref q), v2] ∧ Same H H' ∧ H q = none ∧ H' q = some (.lst (ocs (recsN (ds.take i))))) ⟨p, none, rfl, s0, hp, upd_same⟩ (fun i σ H' _ ⟨_, _, _, s1, _⟩ => s1.seq hs) ?_ ?_⟩
    · rintro i x σ H' hi ⟨q, v2, rfl, s1, hqn, hq⟩
      obtain ⟨d0, hd1, hd2⟩ := DpAll.at_ hxs hi
      obtain ⟨di, hdi, rfl⟩ := map_at hd1
      obtain ⟨ai, _, rfl, _⟩ := dp_tagD hd2
      have hkd := hok di (List.mem_of_getElem? hdi)
      have hil := lt_of_at hdi
      have z1 := recs_len (ds := ds.take i) fun y hy => hok y (List.mem_of_mem_take hy)
      rw [List.length_take] at z1
      have z2 := rec_len hkd
      have z3 : min i ds.length * 4014 ≤ 20 * 4014 := Nat.mul_le_mul_right _ (by omega)
      refine ⟨_, rfl, _, rfl, F, ai, di, rfl, lv.same s1, (show Dh K F H (.ref ai) (dD di) from hd2).same s1, hkd, fun p2 H2 s2 hn2 hp2 => ?_⟩
      refine ⟨q, p2, _, _, rfl, rfl, s2 _ _ hq, hp2, small_le (by rw [ocs_len, ocs_len]; omega), fun p3 hp3 => ?_⟩
      have s3 := s1.trans s2
      refine ⟨p3, _, rfl, s3.trans (same_new hp3 _), s3.hole hp3, ?_⟩
      rw [upd_same, ← ocs_app]
      have : recsN (ds.take (i + 1)) = recsN (ds.take i) ++ recN di := flat_take hdi
      rw [this]
    · rintro σ H' ⟨q, v2, rfl, s1, hqn, hq⟩
      rw [lxs, List.take_length] at hq
      exact ⟨_, rfl, k q H' s1 hqn hq⟩
def plnD : Deed → Deed
  | .put k m => .put k (plain 3 m)
  | d => d
def spLPlainly (K : PySem.W.Frag) : Sp := fun vs H Q _ => ∃ (F : Fz) (a : Addr) (xs : List V) (ds : List Deed), vs = [.ref a] ∧ SqL K H a xs ∧ DhA K F H xs (ds.map dD) ∧ (∀ d ∈ ds, okD d) ∧ Live F H ∧ ds.length ≤ 1000 ∧ ∀ p H', Same H H' → Dh K F H' (.ref p) (.list ((ds.map plnD).map dD)) → Q (.ref p) H'
theorem sc_law_plainly : FnScope ["_law_deeds", "_law_found", "_law_deed_here"] ["_law_deeds"] (defScope s_law_plainly) := ⟨rfl, rfl, rfl, by decide +kernel, rfl, by decide +kernel, by decide +kernel⟩
theorem ok_law_plainly (T : Tx K mg) : OkF P w K mg base d_law_plainly ["_law_deeds"] 5 (spLPlainly K) := by
  have o_law_plain : OkF P w K mg base d_law_plain ["_law_message_here"] 4 (spPlain K 3) := ok_law_plain T 3 (by decide)
  refine (okF T 67 (d := d_law_plainly) rfl sc_law_plainly (fun _ _ _ _ _ _ us hl => match us, hl with | [_], _ => rfl) ⟨rfl, rfl⟩ (fun vs H Q E h => ?_) (fun cdv A outer s H vs Q E hr h => ?_))
  · obtain ⟨F, a, xs, ds, rfl, _⟩ := h; rfl
  · obtain ⟨F, a, xs, ds, rfl, hs, hxs, hok, lv, zd, k⟩ := h
    refine ⟨_, (pss_cons (ps_set (i := 1) sc_law_plainly.nd rfl (Or.inl rfl) (pe_lst pa_nil))
  (pss_cons (ps_for PassesOwn.never rfl (pi_list (pv 0)) (pg_name (i := 2) sc_law_plainly.nd rfl (Or.inl rfl))
  (Evl.pss_cut (ps_if (pt_cmpR op_eq (pe_ix ix_tup (pv 2) pe_int (fun _ _ => rfl)) pe_str (nomark _))
  (pss_one (ps_set (i := 2) sc_law_plainly.nd rfl (Or.inl rfl) (pe_tup (pa_cons pe_str (pa_cons (pe_ix ix_tup (pv 2) pe_int (fun _ _ => rfl)) (pa_cons (cg o_law_plain T.g__law_plain (hr.mono (by omega)) (pa_cons (pe_ix ix_tup (pv 2) pe_int (fun _ _ => rfl)) pa_nil)) pa_nil))))))
  pss_nil)
  (pss_one (ps_expr (pe_bm PySem.F.plainAttrs_list PySem.F.slot_list_append PySem.F.type_list_append mt_append (pv 1) (pa_cons (pv 2) pa_nil))))))
  (pss_one (ps_ret (pv 1))))), ?_⟩
    refine ⟨Nat.zero_le _, fun p hp => ?_⟩
    have s0 := same_new (o := HO.lst []) hp
    have fp : F p = false := lv.new hp
    have lxs : xs.length = ds.length := by rw [DpAll.len hxs, List.length_map]
    refine ⟨_, rfl, a, rfl, ⟨_, s0.seq hs⟩, for_list (K := K) (a := a) (xs := xs) (fun i σ H' => ∃ vs v2, σ = [some (.ref a), some (.ref p), v2] ∧ Same H H' ∧ H' p = some (.lst vs) ∧ DhA K (add F p) H' vs (((ds.take i).map plnD).map dD)) ⟨[], none, rfl, s0, upd_same, .nil⟩ (fun i σ H' _ ⟨_, _, _, s1, _⟩ => s1.seq hs) ?_ ?_⟩
    · rintro i x σ H' hi ⟨vs, v2, rfl, s1, hpv, hvs⟩
      obtain ⟨d0, hd1, hd2⟩ := DpAll.at_ hxs hi
      obtain ⟨di, hdi, rfl⟩ := map_at hd1
      have hkd := hok di (List.mem_of_getElem? hdi)
      have hil := lt_of_at hdi
      have hx2 : Dh K (add F p) H' x (dD di) := (Dh.new (show Dh K F H x (dD di) from hd2) hp).same s1
      have lv2 : Live (add F p) H' := (lv.same s1).add (by rw [hpv]; simp)
      have lvs : vs.length = i := by
        have := DpAll.len hvs
        simp only [List.length_map, List.length_take] at this
        omega
      refine ⟨fun σ H2 => ∃ r, σ = [some (.ref a), some (.ref p), some (.ref r)] ∧ Same H' H2 ∧ Dh K (add F p) H2 (.ref r) (dD (plnD di)), ?_, ?_⟩
      · obtain ⟨ai, e, hd3⟩ := dp_deed hx2
        subst e
        cases di with
        | put kx m =>
          obtain ⟨r, h1, h2⟩ := hd3
          have h1' := SqT.of (K := K) (Av_same (add F p) H' _ _ h1)
          refine ⟨_, rfl, ai, _, _, _, rfl, rfl, h1', rfl, rfl, _, rfl, ?_⟩
          refine ite_t (decide_eq_true rfl) ?_
          refine ⟨_, rfl, ai, _, _, _, rfl, rfl, h1', rfl, _, rfl, ai, _, _, _, rfl, rfl, h1', rfl, add F p, r, m, false, rfl, h2, lv2, hkd.2.1, hkd.2.2, fun r2 H2 s2 hr2 => ?_⟩
          refine ⟨by show 3 ≤ sizeLine; decide, fun t ht => ?_⟩
          have st := same_new (o := HO.tup [.str "put", .str (S kx), .ref r2]) ht
          have ft : add F p t = false := (lv2.same s2).new ht
          exact ⟨t, rfl, s2.trans st, .tup ((Av_get ft).trans upd_same) (.cons (.str _) (.cons (.str _) (.cons (hr2.same st) .nil)))⟩
        | drop kx =>
          have h1' := SqT.of (K := K) (Av_same (add F p) H' _ _ hd3)
          refine ⟨_, rfl, ai, _, _, _, rfl, rfl, h1', rfl, rfl, _, rfl, ?_⟩
          refine ite_f (by decide +kernel) ?_
          exact ⟨ai, rfl, Same.refl _, hx2⟩
        | undo =>
          have h1' := SqT.of (K := K) (Av_same (add F p) H' _ _ hd3)
          refine ⟨_, rfl, ai, _, _, _, rfl, rfl, h1', rfl, rfl, _, rfl, ?_⟩
          refine ite_f (by decide +kernel) ?_
          exact ⟨ai, rfl, Same.refl _, hx2⟩
      · rintro σ H2 ⟨r, rfl, s2, hr⟩
        have hp2 := s2 _ _ hpv
        refine ⟨_, rfl, .inl ⟨rfl, _, SqL.of hp2⟩, _, rfl, p, vs, _, rfl, rfl, hp2, small_lt (by omega), _, _, rfl, same_mut (s1.trans s2) hp, upd_same, ?_⟩
        rw [take_more hdi, List.map_append, List.map_append]
        exact DhA.updF (DpAll.snoc (hvs.same s2) hr) (add_self _ _)
    · rintro σ H' ⟨vs, v2, rfl, s1, hpv, hvs⟩
      rw [lxs, List.take_length] at hvs
      exact ⟨_, rfl, k p H' s1 (.lst ((Av_get fp).trans hpv) (hvs.weak add_sub))⟩
end
end Mw
/-! MwZ -/
set_option Elab.async false
set_option linter.all false
set_option maxRecDepth 100000
set_option maxHeartbeats 4000000
namespace Mw
open PySem PySem.Spec PyProof.Rows L2
/-! ## the law's world -/
abbrev kN : Key := Sum.inr ("now" : Str)
abbrev kP : Key := Sum.inr ("past" : Str)
theorem np_ : ¬ kN = kP := by decide +kernel
def wkv (nd pl : Addr) : List (Key × V) := [(kN, .ref nd), (kP, .ref pl)]
theorem pn_ : ¬ kP = kN := fun e => np_ e.symm
theorem wkv_put (nd pl nw : Addr) : putK (wkv nd pl) kN (.ref nw) = wkv nw pl := by
  unfold putK
  have ha : ((wkv nd pl).any fun kv => decide (kv.1 = kN)) = true := by
    show (decide (kN = kN) || _) = true
    rw [decide_eq_true rfl]
    rfl
  rw [if_pos ha]
  show [if kN = kN then (kN, V.ref nw) else (kN, V.ref nd), if kP = kN then (kP, V.ref nw) else (kP, V.ref pl)] = _
  rw [if_pos rfl, if_neg pn_]
  rfl
theorem wkv_now (nd pl : Addr) : valV (wkv nd pl) kN = some (.ref nd) := by
  simp [wkv, valV]
theorem wkv_past (nd pl : Addr) : valV (wkv nd pl) kP = some (.ref pl) := by
  have h : ¬ kN = kP := np_
  simp [wkv, valV, h]
theorem wkv_merge (nd pl : Addr) : mergeK [] [(kN, .ref nd), (kP, .ref pl)] = wkv nd pl := by
  show putK (putK [] kN (.ref nd)) kP (.ref pl) = _
  have h0 : putK [] kN (.ref nd) = [(kN, .ref nd)] := rfl
  rw [h0]
  unfold putK
  have ha : ¬ (([(kN, V.ref nd)] : List (Key × V)).any fun kv => decide (kv.1 = kP)) = true := by
    show ¬ (decide (kN = kP) || false) = true
    rw [decide_eq_false np_]
    decide
  rw [if_neg ha]
  rfl
def WAt (K : PySem.W.Frag) (F : Fz) (H : Hp) (w pl : Addr) (s : St') : Prop := ∃ nd ds, H w = some (.dK (wkv nd pl)) ∧ H pl = some (.lst (ds.map V.ref)) ∧ Dks K F H ds s.1 ∧ DkAt K F H nd s.2
section
variable {P : Program} {w : World} {K : PySem.W.Frag} {mg : Str → Option Value} {base : Heap}
def spLWorld (K : PySem.W.Frag) : Sp := fun vs H Q _ => ∃ F : Fz, vs = [] ∧ Live F H ∧ ∀ w pl H', Same H H' → H w = none → H pl = none → w ≠ pl → WAt K (add (add F w) pl) H' w pl s00 → Q (.ref w) H'
theorem sc_law_world : FnScope [] [] (defScope s_law_world) := ⟨rfl, rfl, rfl, by decide +kernel, rfl, by decide +kernel, by decide +kernel⟩
theorem ok_law_world (T : Tx K mg) : OkF P w K mg base d_law_world [] 1 (spLWorld K) := by
  refine (okF T 62 (d := d_law_world) rfl sc_law_world (fun _ _ _ _ _ _ us hl => match us, hl with | [], _ => rfl) ⟨rfl, rfl⟩ (fun vs H Q E h => ?_) (fun cdv A outer s H vs Q E hr h => ?_))
  · obtain ⟨F, rfl, _⟩ := h; rfl
  · obtain ⟨F, rfl, lv, k⟩ := h
    refine ⟨_, (pss_one (ps_ret (pe_disp (pps_cons pe_str pe_dnewK (pps_cons pe_str (pe_lst pa_nil) pps_nil)) (by rfl) (by rfl) (fun z => by cases z) (by decide)))), ?_⟩
    intro wd hw
    have s0 := same_new (o := HO.dK []) hw
    intro nd hnd
    have s1 := same_new (o := HO.dK []) hnd
    refine ⟨Nat.zero_le _, fun pl hpl => ?_⟩
    have s2 := same_new (o := HO.lst []) hpl
    have nwn : wd ≠ nd := ne_of_none upd_same hnd
    have nwp : wd ≠ pl := ne_of_none (s1 _ _ upd_same) hpl
    have nnp : nd ≠ pl := ne_of_none upd_same hpl
    refine ⟨(s1.trans s2) _ _ upd_same, [(kN, .ref nd), (kP, .ref pl)], rfl, (show 2 ≤ 15 by decide), ?_⟩
    rw [wkv_merge]
    have fw : F nd = false := lv.new (s0.hole hnd)
    refine k wd pl _ (same_mut ((s0.trans s1).trans s2) hw) hw ((s0.trans s1).hole hpl) nwp ⟨nd, [], upd_same, ?_, trivial, [], ?_, .nil⟩
    · rw [upd_ne (Ne.symm nwp), upd_same]
      rfl
    · rw [Av_get (add_no nnp (add_no (Ne.symm nwn) fw)), upd_ne (Ne.symm nwn), upd_ne nnp, upd_same]
def spLDue (K : PySem.W.Frag) : Sp := fun vs H Q _ => ∃ (F : Fz) (wd pl a : Addr) (s : St') (d : Deed), vs = [.ref wd, .ref a] ∧ WAt K F H wd pl s ∧ F wd = true ∧ F pl = true ∧ wd ≠ pl ∧ Live F H ∧ Dh K F H (.ref a) (dD d) ∧ canD s d ∧ szS 900 s ∧
  ∀ v H', Kp (add (only wd) pl) H H' → WAt K F H' wd pl (stepP s d) → Dh K F H' v (retD s.1 s.2 d) → Q v H'
theorem sc_law_due : FnScope ["_law_world_here", "_law_deed_here", "_law_before", "_law_now", "_law_message_here"] ["_law_world_here", "_law_deed_here"] (defScope s_law_due) := ⟨rfl, rfl, rfl, by decide +kernel, rfl, by decide +kernel, by decide +kernel⟩
theorem ok_law_due (T : Tx K mg) : OkF P w K mg base d_law_due ["_law_world_here", "_law_deed_here"] 5 (spLDue K) := by
  have o_law_plain : OkF P w K mg base d_law_plain ["_law_message_here"] 4 (spPlain K 3) := ok_law_plain T 3 (by decide)
  refine (okF T 63 (d := d_law_due) rfl sc_law_due (fun _ _ _ _ _ _ us hl => match us, hl with | [_, _], _ => rfl) ⟨rfl, rfl⟩ (fun vs H Q E h => ?_) (fun cdv A outer s H vs Q E hr h => ?_))
  · obtain ⟨F, wd, pl, a, s, d, rfl, _⟩ := h; rfl
  · obtain ⟨F, wd, pl, a, st, d, rfl, ⟨nd, ds, hw, hpl, hds, hnd⟩, hFw, hFp, nwp, lv, hd, hc, hsz, k⟩ := h
    refine ⟨_, (pss_cons (ps_if (pt_cmpR op_eq (pe_ix ix_tup (pv 1) pe_int (fun _ _ => rfl)) pe_str (nomark _))
  (pss_cons (ps_if (pt_cmpR op_eq (pe_callB call_len_seq (by rfl) T.z_len (by decide +kernel) (pa_cons (pe_dget (hu_of hr) (pv 0) pe_str (fun _ _ => rfl)) pa_nil)) pe_int (nomark _))
  (pss_one (ps_ret pe_bl))
  pss_nil)
  (pss_cons (ps_dput (hu_of hr) (pv 0) pe_str (pe_bm0 PySem.F.plainAttrs_list PySem.F.slot_list_pop PySem.F.type_list_pop mt_pop (pe_dget (hu_of hr) (pv 0) pe_str (fun _ _ => rfl))) rfl)
  (pss_one (ps_ret pe_bl))))
  pss_nil)
  (pss_cons (ps_if (PW.pt (pw_and (pt_cmpR op_eq (pe_ix ix_tup (pv 1) pe_int (fun _ _ => rfl)) pe_str (nomark _)) (pw_and1 (pt_cmp (pc_dnotin (hu_of hr) (pe_ix ix_tup (pv 1) pe_int (fun _ _ => rfl)) (pe_dget (hu_of hr) (pv 0) pe_str (fun _ _ => rfl)))))))
  (pss_one (ps_ret (pe_lst (pa_cons pe_str (pa_cons (pe_ix ix_tup (pv 1) pe_int (fun _ _ => rfl)) pa_nil)))))
  pss_nil)
  (pss_cons (ps_set (i := 2) sc_law_due.nd rfl (Or.inl rfl) (pe_callTy call_dictD (by rfl) T.z_dict (by decide +kernel) (pa_cons (pe_dget (hu_of hr) (pv 0) pe_str (fun _ _ => rfl)) pa_nil)))
  (pss_cons (ps_expr (pe_bm PySem.F.plainAttrs_list PySem.F.slot_list_append PySem.F.type_list_append mt_append (pe_dget (hu_of hr) (pv 0) pe_str (fun _ _ => rfl)) (pa_cons (pv 2) pa_nil)))
  (pss_cons (ps_set (i := 3) sc_law_due.nd rfl (Or.inl rfl) (pe_callTy call_dictD (by rfl) T.z_dict (by decide +kernel) (pa_cons (pv 2) pa_nil)))
  (pss_cons (ps_if (pt_cmpR op_eq (pe_ix ix_tup (pv 1) pe_int (fun _ _ => rfl)) pe_str (nomark _))
  (pss_cons (ps_dput (hu_of hr) (pv 3) (pe_ix ix_tup (pv 1) pe_int (fun _ _ => rfl)) (cg o_law_plain T.g__law_plain (hr.mono (by omega)) (pa_cons (pe_ix ix_tup (pv 1) pe_int (fun _ _ => rfl)) pa_nil)) rfl)
  (pss_cons (ps_dput (hu_of hr) (pv 0) pe_str (pv 3) rfl)
  (pss_one (ps_ret (pe_cmp (pc_din (hu_of hr) (pe_ix ix_tup (pv 1) pe_int (fun _ _ => rfl)) (pv 2)) rfl)))))
  pss_nil)
  (pss_cons (ps_set (i := 4) sc_law_due.nd rfl (Or.inl rfl) (pe_dpop1 (pv 3) (pe_ix ix_tup (pv 1) pe_int (fun _ _ => rfl)) ⟨by rfl, by rfl, by rfl, by rfl⟩))
  (pss_cons (ps_dput (hu_of hr) (pv 0) pe_str (pv 3) rfl)
  (pss_one (ps_ret (pv 4))))))))))), ?_⟩
    obtain ⟨a', e, hd2⟩ := dp_deed hd
    cases e
    have ln := hds.len
    have hGN : ∀ {H2 : Hp} {nd' : Addr}, H2 wd = some (.dK (wkv nd' pl)) → DGet H2 wd (.str "now") (some (.ref nd')) := fun {H2 nd'} h => by
      rw [← wkv_now nd' pl]
      exact DGet.k (k := kN) h
    have hGP : ∀ {H2 : Hp} {nd' : Addr}, H2 wd = some (.dK (wkv nd' pl)) → DGet H2 wd (.str "past") (some (.ref pl)) := fun {H2 nd'} h => by
      rw [← wkv_past nd' pl]
      exact DGet.k (k := kP) h
    cases d with
    | undo =>
      have h1' := SqT.of (K := K) (Av_same F H _ _ hd2)
      refine ⟨_, rfl, a, _, _, _, rfl, rfl, h1', rfl, rfl, _, rfl, ?_⟩
      refine ite_t (decide_eq_true rfl) ?_
      have hne := hc.2.2 rfl
      have lne : st.1.length ≠ 0 := fun e => hne (List.length_eq_zero_iff.mp e)
      refine ⟨_, rfl, wd, _, rfl, hGP hw, pl, _, rfl, .inl (SqL.of hpl), rfl, _, rfl, ?_⟩
      refine ite_f (decide_eq_false fun e => lne ?_) ?_
      · have := V.int.inj e
        rw [List.length_map] at this
        omega
      rcases hlast : st.1.getLast? with _ | b
      · exact absurd (List.getLast?_eq_none_iff.mp hlast) hne
      have e1 := last_split hlast
      rw [e1] at hds
      obtain ⟨ds0, d0, rfl, hds0, hd0⟩ := Dks.inv hds
      have e2 : (ds0 ++ [d0]).map V.ref = ds0.map V.ref ++ [.ref d0] := by simp
      refine ⟨_, rfl, wd, _, rfl, hGP hw, .inl ⟨rfl, _, SqL.of hpl⟩, pl, _, .ref d0, rfl, rfl, hpl, by rw [e2]; simp, ?_⟩
      have hw2 : (upd H pl (.lst ((ds0 ++ [d0]).map V.ref).dropLast)) wd = some (.dK (wkv nd pl)) := by rw [upd_ne nwp]; exact hw
      refine ⟨_, rfl, wd, _, rfl, DPut.k (k := kN) hw2 (show 2 < sizeLine by decide), ?_⟩
      rw [wkv_put]
      have kp : Kp (add (only wd) pl) H (upd (upd H pl (.lst ((ds0 ++ [d0]).map V.ref).dropLast)) wd (.dK (wkv d0 pl))) := ((Kp.refl _ _).upd (add_self _ _)).upd (add_of (only_self wd))
      have kF : Kp F H (upd (upd H pl (.lst ((ds0 ++ [d0]).map V.ref).dropLast)) wd (.dK (wkv d0 pl))) := ((Kp.refl _ _).upd hFp).upd hFw
      have est : stepP st .undo = (st.1.dropLast, b) := by
        unfold stepP
        rw [hlast]
      have := k (.bl true) _ kp (by
        rw [est]
        refine ⟨d0, ds0, upd_same, ?_, hds0.kp kF, hd0.kp kF⟩
        rw [upd_ne (Ne.symm nwp), upd_same, e2, List.dropLast_concat]) (by
        show Dp K _ (.bl true) (.bool (!decide (st.1 = [])))
        rw [decide_eq_false hne]
        exact .bl _)
      exact this
    | drop kx =>
      have h1' := SqT.of (K := K) (Av_same F H _ _ hd2)
      obtain ⟨kvs, hnd1, hent⟩ := hnd
      have hnd' : H nd = some (.dK kvs) := (Av_some hnd1).2
      have fnd : F nd = false := (Av_some hnd1).1
      have nnp : nd ≠ pl := fun e => by rw [e, hFp] at fnd; cases fnd
      have nnw : nd ≠ wd := fun e => by rw [e, hFw] at fnd; cases fnd
      obtain ⟨m, hm⟩ := Option.isSome_iff_exists.mp (show (getB st.2 kx).isSome = true from hc.2.1)
      obtain ⟨v0, hv0, hv1⟩ : ∃ v, valV kvs (kk kx) = some v ∧ Dh K F H v (dat 3 m) := by
        rcases hent.get (k := kx) with ⟨h1, _⟩ | ⟨m', v, h1, h2, h3⟩
        · rw [hm] at h1; cases h1
        · rw [hm] at h1
          cases h1
          exact ⟨v, h2, h3⟩
      refine ⟨_, rfl, a, _, _, _, rfl, rfl, h1', rfl, rfl, _, rfl, ?_⟩
      refine ite_f (by decide +kernel) ?_
      refine ⟨_, rfl, a, _, _, _, rfl, rfl, h1', rfl, rfl, _, rfl, ?_⟩
      refine ite_t (by decide +kernel) ?_
      refine ⟨_, rfl, a, _, _, _, rfl, rfl, h1', rfl, _, rfl, wd, _, rfl, hGN hw, nd, _, rfl, DGet.k (k := kk kx) hnd', _, rfl, ?_⟩
      refine ite_f (by rw [hv0]; rfl) ?_
      -- before = dict(world['now']); world['past'].append(before); now = dict(before)
      refine ⟨_, rfl, wd, _, rfl, hGN hw, nd, kvs, rfl, .inl hnd', fun bf hbf => ?_⟩
      have s1 := same_new (o := HO.dK kvs) hbf
      have fbf : F bf = false := lv.new hbf
      have nbp : bf ≠ pl := fun e => by rw [e, hpl] at hbf; cases hbf
      have nbw : bf ≠ wd := fun e => by rw [e, hw] at hbf; cases hbf
      have hbf1 : (upd H bf (.dK kvs)) bf = some (.dK kvs) := upd_same
      refine ⟨_, rfl, wd, _, rfl, hGP (s1 _ _ hw), .inl ⟨rfl, _, SqL.of (s1 _ _ hpl)⟩, _, rfl, pl, _, _, rfl, rfl, s1 _ _ hpl, small_lt (by rw [List.length_map]; have := hsz.1; omega), ?_⟩
      have kp2 : Kp (add (only wd) pl) H (upd (upd H bf (.dK kvs)) pl (.lst (ds.map V.ref ++ [.ref bf]))) := (Kp.of s1).upd (add_self _ _)
      have kF2 : Kp F H (upd (upd H bf (.dK kvs)) pl (.lst (ds.map V.ref ++ [.ref bf]))) := (Kp.of s1).upd hFp
      have hbf2 : (upd (upd H bf (.dK kvs)) pl (.lst (ds.map V.ref ++ [.ref bf]))) bf = some (.dK kvs) := by rw [upd_ne nbp]; exact hbf1
      have hpl2 : (upd (upd H bf (.dK kvs)) pl (.lst (ds.map V.ref ++ [.ref bf]))) pl = some (.lst ((ds ++ [bf]).map V.ref)) := by rw [upd_same]; simp
      have hw2 : (upd (upd H bf (.dK kvs)) pl (.lst (ds.map V.ref ++ [.ref bf]))) wd = some (.dK (wkv nd pl)) := by rw [upd_ne nwp]; exact s1 _ _ hw
      have ha2 : ∀ o, H a = some o → a ≠ pl → (upd (upd H bf (.dK kvs)) pl (.lst (ds.map V.ref ++ [.ref bf]))) a = some o := fun o h h2 => by rw [upd_ne h2]; exact s1 _ _ h
      generalize upd (upd H bf (.dK kvs)) pl (.lst (ds.map V.ref ++ [.ref bf])) = H2 at *
      have lv2 : Live F H2 := fun z hz => by
        by_cases e : z = pl
        · rw [e, hpl2]; simp
        · intro hn
          cases hq : H z with
          | none => exact lv z hz hq
          | some o =>
            by_cases e2 : z = wd
            · rw [e2, hw2] at hn; cases hn
            · rw [kp2 z o (add_no e (only_no e2)) hq] at hn; cases hn
      refine ⟨_, rfl, bf, kvs, rfl, .inl hbf2, fun nw hnw => ?_⟩
      have s3 := same_new (o := HO.dK kvs) hnw
      have fnw : F nw = false := lv2.new hnw
      have nwpl : nw ≠ pl := fun e => by rw [e, hpl2] at hnw; cases hnw
      have nwwd : nw ≠ wd := fun e => by rw [e, hw2] at hnw; cases hnw
      have nwbf : nw ≠ bf := fun e => by rw [e, hbf2] at hnw; cases hnw
      have hnw3 : (upd H2 nw (.dK kvs)) nw = some (.dK kvs) := upd_same
      have hnwH : H nw = none := by
        cases hq : H nw with
        | none => rfl
        | some o => rw [kp2 nw o (add_no nwpl (only_no nwwd)) hq] at hnw; cases hnw
      have zk : kvs.length ≤ 900 := by rw [hent.len]; exact hsz.2.1
      have had := (Av_some hd2).2
      have nap : a ≠ pl := fun e => by rw [e, hpl] at had; cases had
      have h13 : SqT K (upd H2 nw (.dK kvs)) a [.str "drop", .str (S kx)] := SqT.of (s3 _ _ (ha2 _ had nap))
      refine ⟨_, rfl, a, _, _, _, rfl, rfl, h13, atI_nat (j := 0) rfl, rfl, _, rfl, ?_⟩
      refine ite_f (by decide +kernel) ?_
      refine ⟨_, rfl, nw, rfl, .inl ⟨_, .inl hnw3⟩, _, rfl, a, _, _, _, rfl, rfl, h13, atI_nat (j := 1) rfl, kvs, kk kx, v0, hnw3, rfl, hv0, ?_⟩
      have hw4 : (upd (upd H2 nw (.dK kvs)) nw (.dK (dropK kvs (kk kx)))) wd = some (.dK (wkv nd pl)) := by rw [upd_ne (Ne.symm nwwd)]; exact s3 _ _ hw2
      refine ⟨_, rfl, _, rfl, wd, _, rfl, DPut.k (k := kN) hw4 (show 2 < sizeLine by decide), ?_⟩
      rw [wkv_put]
      have s4 : Same H2 (upd (upd H2 nw (.dK kvs)) nw (.dK (dropK kvs (kk kx)))) := same_mut s3 hnw
      have hnw4 : (upd (upd H2 nw (.dK kvs)) nw (.dK (dropK kvs (kk kx)))) nw = some (.dK (dropK kvs (kk kx))) := upd_same
      generalize upd (upd H2 nw (.dK kvs)) nw (.dK (dropK kvs (kk kx))) = H4 at *
      have kF5 : Kp F H (upd H4 wd (.dK (wkv nw pl))) := (kF2.trans (Kp.of s4)).upd hFw
      have e5 : H2 bf = some (.dK kvs) → (upd H4 wd (.dK (wkv nw pl))) bf = some (.dK kvs) := fun h => by rw [upd_ne nbw]; exact s4 _ _ h
      have hret := hv1.kp kF5
      refine ⟨_, rfl, k v0 _ ((kp2.trans (Kp.of s4)).upd (add_of (only_self wd))) ⟨nw, ds ++ [bf], upd_same, ?_, Dks.snoc ⟨kvs, (Av_get fbf).trans (e5 hbf2), hent.same kF5.av⟩ (hds.kp kF5), dropK kvs (kk kx), ?_, Ent.drop (hent.same kF5.av)⟩ ?_⟩
      · rw [upd_ne (Ne.symm nwp)]
        exact s4 _ _ hpl2
      · rw [Av_get fnw, upd_ne nwwd]
        exact hnw4
      · show Dh K F _ v0 (match getB st.2 kx with
          | some m => dat 3 m
          | none => .none)
        rw [hm]
        exact hret
    | put kx m =>
      obtain ⟨r, h1, h2⟩ := hd2
      have h1' := SqT.of (K := K) (Av_same F H _ _ h1)
      obtain ⟨kvs, hnd1, hent⟩ := hnd
      have hnd' : H nd = some (.dK kvs) := (Av_some hnd1).2
      have fnd : F nd = false := (Av_some hnd1).1
      have nnp : nd ≠ pl := fun e => by rw [e, hFp] at fnd; cases fnd
      have nnw : nd ≠ wd := fun e => by rw [e, hFw] at fnd; cases fnd
      refine ⟨_, rfl, a, _, _, _, rfl, rfl, h1', rfl, rfl, _, rfl, ?_⟩
      refine ite_f (by decide +kernel) ?_
      refine ⟨_, rfl, a, _, _, _, rfl, rfl, h1', rfl, rfl, _, rfl, ?_⟩
      refine ite_f (by decide +kernel) (iteF ?_)
      -- before = dict(world['now']); world['past'].append(before); now = dict(before)
      refine ⟨_, rfl, wd, _, rfl, hGN hw, nd, kvs, rfl, .inl hnd', fun bf hbf => ?_⟩
      have s1 := same_new (o := HO.dK kvs) hbf
      have fbf : F bf = false := lv.new hbf
      have nbp : bf ≠ pl := fun e => by rw [e, hpl] at hbf; cases hbf
      have nbw : bf ≠ wd := fun e => by rw [e, hw] at hbf; cases hbf
      have hbf1 : (upd H bf (.dK kvs)) bf = some (.dK kvs) := upd_same
      refine ⟨_, rfl, wd, _, rfl, hGP (s1 _ _ hw), .inl ⟨rfl, _, SqL.of (s1 _ _ hpl)⟩, _, rfl, pl, _, _, rfl, rfl, s1 _ _ hpl, small_lt (by rw [List.length_map]; have := hsz.1; omega), ?_⟩
      have kp2 : Kp (add (only wd) pl) H (upd (upd H bf (.dK kvs)) pl (.lst (ds.map V.ref ++ [.ref bf]))) := (Kp.of s1).upd (add_self _ _)
      have kF2 : Kp F H (upd (upd H bf (.dK kvs)) pl (.lst (ds.map V.ref ++ [.ref bf]))) := (Kp.of s1).upd hFp
      have hbf2 : (upd (upd H bf (.dK kvs)) pl (.lst (ds.map V.ref ++ [.ref bf]))) bf = some (.dK kvs) := by rw [upd_ne nbp]; exact hbf1
      have hpl2 : (upd (upd H bf (.dK kvs)) pl (.lst (ds.map V.ref ++ [.ref bf]))) pl = some (.lst ((ds ++ [bf]).map V.ref)) := by rw [upd_same]; simp
      have hw2 : (upd (upd H bf (.dK kvs)) pl (.lst (ds.map V.ref ++ [.ref bf]))) wd = some (.dK (wkv nd pl)) := by rw [upd_ne nwp]; exact s1 _ _ hw
      have ha2 : ∀ o, H a = some o → a ≠ pl → (upd (upd H bf (.dK kvs)) pl (.lst (ds.map V.ref ++ [.ref bf]))) a = some o := fun o h h2 => by rw [upd_ne h2]; exact s1 _ _ h
      generalize upd (upd H bf (.dK kvs)) pl (.lst (ds.map V.ref ++ [.ref bf])) = H2 at *
      have lv2 : Live F H2 := fun z hz => by
        by_cases e : z = pl
        · rw [e, hpl2]; simp
        · intro hn
          cases hq : H z with
          | none => exact lv z hz hq
          | some o =>
            by_cases e2 : z = wd
            · rw [e2, hw2] at hn; cases hn
            · rw [kp2 z o (add_no e (only_no e2)) hq] at hn; cases hn
      refine ⟨_, rfl, bf, kvs, rfl, .inl hbf2, fun nw hnw => ?_⟩
      have s3 := same_new (o := HO.dK kvs) hnw
      have fnw : F nw = false := lv2.new hnw
      have nwpl : nw ≠ pl := fun e => by rw [e, hpl2] at hnw; cases hnw
      have nwwd : nw ≠ wd := fun e => by rw [e, hw2] at hnw; cases hnw
      have nwbf : nw ≠ bf := fun e => by rw [e, hbf2] at hnw; cases hnw
      have hnw3 : (upd H2 nw (.dK kvs)) nw = some (.dK kvs) := upd_same
      have hnwH : H nw = none := by
        cases hq : H nw with
        | none => rfl
        | some o => rw [kp2 nw o (add_no nwpl (only_no nwwd)) hq] at hnw; cases hnw
      have zk : kvs.length ≤ 900 := by rw [hent.len]; exact hsz.2.1
      have had := (Av_some h1).2
      have nap : a ≠ pl := fun e => by rw [e, hpl] at had; cases had
      have h13 : SqT K (upd H2 nw (.dK kvs)) a [.str "put", .str (S kx), .ref r] := SqT.of (s3 _ _ (ha2 _ had nap))
      refine ⟨_, rfl, a, _, _, _, rfl, rfl, h13, atI_nat (j := 0) rfl, rfl, _, rfl, ?_⟩
      refine ite_t (by decide +kernel) ?_
      have hk := hc.1
      have kF3 : Kp F H (upd H2 nw (.dK kvs)) := kF2.trans (Kp.of s3)
      have hm3 : Dh K (add F nw) (upd H2 nw (.dK kvs)) (.ref r) (dat 3 m) := ((show Dh K F H (.ref r) (dat 3 m) from h2).kp kF2).new hnw |>.same s3
      have lv3 : Live (add F nw) (upd H2 nw (.dK kvs)) := (lv2.same s3).add (by rw [upd_same]; simp)
      refine ⟨_, rfl, a, _, _, _, rfl, rfl, h13, atI_nat (j := 2) rfl, add F nw, r, m, false, rfl, hm3, lv3, hk.2.1, hk.2.2, fun r2 H4 s4 hr2 => ?_⟩
      have hnw4 := s4 _ _ hnw3
      have h14 := s4.seqT h13
      refine ⟨_, rfl, _, rfl, a, _, _, _, rfl, rfl, h14, atI_nat (j := 1) rfl, nw, _, rfl, DPut.k (k := kk kx) hnw4 (small_lt (by omega)), ?_⟩
      have s34 := s3.trans s4
      have s35 : Same H2 (upd H4 nw (.dK (putK kvs (kk kx) (.ref r2)))) := same_mut s34 hnw
      have hnw5 : (upd H4 nw (.dK (putK kvs (kk kx) (.ref r2)))) nw = some (.dK (putK kvs (kk kx) (.ref r2))) := upd_same
      have hr5 : Dh K F (upd H4 nw (.dK (putK kvs (kk kx) (.ref r2)))) (.ref r2) (dat 3 (plain 3 m)) := (Dh.updF hr2 (add_self _ _)).weak add_sub
      generalize upd H4 nw (.dK (putK kvs (kk kx) (.ref r2))) = H5 at *
      refine ⟨_, rfl, _, rfl, wd, _, rfl, DPut.k (k := kN) (s35 _ _ hw2) (show 2 < sizeLine by decide), ?_⟩
      rw [wkv_put]
      have kF5 : Kp F H (upd H5 wd (.dK (wkv nw pl))) := (kF2.trans (Kp.of s35)).upd hFw
      have e5 : ∀ z u, z ≠ wd → H2 z = some u → (upd H5 wd (.dK (wkv nw pl))) z = some u := fun z u hz h => by rw [upd_ne hz]; exact s35 _ _ h
      have naw : a ≠ wd := fun e => by rw [e, hw] at had; cases had
      have h16 : SqT K (upd H5 wd (.dK (wkv nw pl))) a [.str "put", .str (S kx), .ref r] := SqT.of (e5 _ _ naw (ha2 _ had nap))
      have hbf5 := e5 _ _ nbw hbf2
      refine ⟨_, rfl, a, _, _, _, rfl, rfl, h16, atI_nat (j := 1) rfl, _, rfl, bf, _, rfl, DGet.k (k := kk kx) hbf5, ?_⟩
      rw [hent.isSome]
      refine k _ _ ((kp2.trans (Kp.of s35)).upd (add_of (only_self wd))) ⟨nw, ds ++ [bf], upd_same, ?_, Dks.snoc ⟨kvs, (Av_get fbf).trans hbf5, hent.same kF5.av⟩ (hds.kp kF5), putK kvs (kk kx) (.ref r2), ?_, Ent.put (hent.same kF5.av) (Dh.updF hr5 hFw)⟩ (.bl _)
      · rw [upd_ne (Ne.symm nwp)]
        exact s35 _ _ hpl2
      · rw [Av_get fnw, upd_ne nwwd]
        exact hnw5
end
end Mw
/-! MxA -/
set_option Elab.async false
set_option linter.all false
set_option maxRecDepth 100000
set_option maxHeartbeats 4000000
namespace Mw
open PySem PySem.Spec PyProof.Rows L2
def msOk (m : Sub 3) : Prop := ok 3 false m ∧ (fmt 3 m).length ≤ 4000
def bkOk (b : Bk) : Prop := (b.map (·.1)).Nodup ∧ ∀ e ∈ b, nmOk e.1 ∧ msOk e.2
def gS (s : St') : Prop := bkOk s.2 ∧ ∀ b ∈ s.1, bkOk b
theorem bkOk.put {b : Bk} {k : List Nat} {m : Sub 3} (h : bkOk b) (hk : nmOk k) (hm : msOk m) : bkOk (putB b k m) := by
  unfold putB
  split
  · refine ⟨?_, fun e he => ?_⟩
    · rw [List.map_map]
      have : ((fun x : List Nat × Sub 3 => x.1) ∘ fun x : List Nat × Sub 3 => if x.1 = k then (x.1, m) else x) = fun x => x.1 := by
        funext x
        show (if x.1 = k then (x.1, m) else x).1 = x.1
        split <;> rfl
      rw [this]
      exact h.1
    · obtain ⟨y, hy, rfl⟩ := List.mem_map.mp he
      have := h.2 y hy
      split
      · exact ⟨this.1, hm⟩
      · exact this
  · rename_i hn
    refine ⟨?_, fun e he => ?_⟩
    · rw [List.map_append]
      refine List.nodup_append.mpr ⟨h.1, by simp, fun a ha c hc => ?_⟩
      obtain ⟨y, hy, rfl⟩ := List.mem_map.mp ha
      have e2 : c = k := by simpa using hc
      intro e3
      refine hn (List.any_eq_true.mpr ⟨y, hy, decide_eq_true ?_⟩)
      rw [e3, e2]
    · rcases List.mem_append.mp he with he | he
      · exact h.2 e he
      · rw [List.mem_singleton.mp he]; exact ⟨hk, hm⟩
theorem bkOk.drop {b : Bk} {k : List Nat} (h : bkOk b) : bkOk (dropB b k) := ⟨(List.filter_sublist.map _).nodup h.1, fun e he => h.2 e (List.mem_filter.mp he).1⟩
theorem gS.step {s : St'} {d : Deed} (h : gS s) (hd : okD d) : gS (stepP s d) := by
  have app : ∀ b : Bk, bkOk b → gS (s.1 ++ [s.2], b) := fun b hb => ⟨hb, fun x hx => by
    rcases List.mem_append.mp hx with hx | hx
    · exact h.2 x hx
    · rw [List.mem_singleton.mp hx]; exact h.1⟩
  cases d with
  | put k m => exact app _ (h.1.put hd.1 ⟨okp 3 false m hd.2.1, by rw [fmt_plain]; exact hd.2.2⟩)
  | drop k => exact app _ h.1.drop
  | undo =>
    cases hl : s.1.getLast? with
    | none =>
      have e : stepP s .undo = s := by unfold stepP; rw [hl]
      rw [e]; exact h
    | some b =>
      have e : stepP s .undo = (s.1.dropLast, b) := by unfold stepP; rw [hl]
      rw [e]
      exact ⟨h.2 b (List.mem_of_getLast? hl), fun x hx => h.2 x (List.dropLast_subset _ hx)⟩
theorem gS00 : gS s00 := ⟨⟨by simp, fun e he => by cases he⟩, fun b hb => by cases hb⟩
theorem getB_mem {b : Bk} {k : List Nat} (h : k ∈ b.map (·.1)) : (getB b k).isSome = true := by
  obtain ⟨e, he, rfl⟩ := List.mem_map.mp h
  unfold getB
  rw [Option.isSome_map]
  exact List.find?_isSome.mpr ⟨e, he, decide_eq_true rfl⟩
section
variable {P : Program} {w : World} {K : PySem.W.Frag} {mg : Str → Option Value} {base : Heap}
def spLSome (K : PySem.W.Frag) : Sp := fun vs H Q _ => ∃ (F : Fz) (x : Addr), vs = [.ref x] ∧ BoxAt F H x ∧ F x = true ∧ Live F H ∧
  ∀ p (m : Sub 3) H', Kp (only x) H H' → BoxAt F H' x → Dh K F H' (.ref p) (dat 3 m) → msOk m → Q (.ref p) H'
def insT : List (List Nat) := [[105, 116, 39, 115], [123, 120, 125], [35], [10, 32, 97], [], [39, 39], [97, 44, 32, 98]]
theorem sc_law_some : FnScope ["_law_box_here", "_law_found", "_law_turn"] ["_law_box_here"] (defScope s_law_some) := ⟨rfl, rfl, rfl, by decide +kernel, rfl, by decide +kernel, by decide +kernel⟩
theorem ok_law_some (T : Tx K mg) : OkF P w K mg base d_law_some ["_law_box_here"] 5 (spLSome K) := by
  have o_law_message : OkF P w K mg base d_law_message ["_law_box_here", "_law_depth", "_law_inside", "_law_numbers"] 4 (spLMsg K 3) := ok_law_message T 3
  have o_law_draw : OkF P w K mg base d_law_draw ["_law_box_here", "_law_many"] 1 spDraw := ok_law_draw T
  refine (okF T 61 (d := d_law_some) rfl sc_law_some (fun _ _ _ _ _ _ us hl => match us, hl with | [_], _ => rfl) ⟨rfl, rfl⟩ (fun vs H Q E h => ?_) (fun cdv A outer s H vs Q E hr h => ?_))
  · obtain ⟨F, x, rfl, _⟩ := h; rfl
  · obtain ⟨F, x, rfl, hb, hF, lv, k⟩ := h
    refine ⟨_, (pss_cons (ps_set (i := 1) sc_law_some.nd rfl (Or.inl rfl) (cg o_law_message T.g__law_message (hr.mono (by omega)) (pa_cons (pv 0) (pa_cons pe_int (pa_cons pe_bl (pa_cons (pe_lst (pa_cons pe_str (pa_cons pe_str pa_nil))) pa_nil))))))
  (pss_cons (ps_for PassesOwn.never rfl (pi_range1 (by rfl) T.z_range (pa_cons (cg o_law_draw T.g__law_draw (hr.mono (by omega)) (pa_cons (pv 0) (pa_cons pe_int pa_nil))) pa_nil)) (pg_name (i := 2) sc_law_some.nd rfl (Or.inl rfl))
  (pss_one (ps_expr (pe_bm PySem.F.plainAttrs_list PySem.F.slot_list_insert PySem.F.type_list_insert mt_insert (pv 1) (pa_cons (cg o_law_draw T.g__law_draw (hr.mono (by omega)) (pa_cons (pv 0) (pa_cons (pe_op op_add (pe_callB call_len_seq (by rfl) T.z_len (by decide +kernel) (pa_cons (pv 1) pa_nil)) pe_int) pa_nil))) (pa_cons (pe_tup (pa_cons pe_str (pa_cons (pe_ix ix_list (pe_lst (pa_cons pe_str (pa_cons pe_str (pa_cons pe_str (pa_cons pe_str (pa_cons pe_str (pa_cons pe_str (pa_cons pe_str pa_nil)))))))) (cg o_law_draw T.g__law_draw (hr.mono (by omega)) (pa_cons (pv 0) (pa_cons pe_int pa_nil))) (fun _ _ => rfl)) pa_nil))) pa_nil))))))
  (pss_one (ps_ret (pv 1))))), ?_⟩
    refine ⟨_, rfl, by show 2 ≤ sizeLine; decide, fun N hN => ?_⟩
    have sN := same_new (o := HO.lst [.str "m", .str "n"]) hN
    refine ⟨F, x, N, false, rfl, by decide, hb.same sN, hF, lv.same sN, upd_same, fun p vs m H1 k1 b1' hpn hp1 hvs1 hg => ?_⟩
    have kp1 : Kp (only x) H H1 := (Kp.of sN).trans k1
    have hpH : H p = none := sN.hole hpn
    have npx : p ≠ x := fun e => by rw [e] at hpH; exact hb.live hpH
    have fp : F p = false := lv.new hpH
    have hm2 : (m : List (Nd (Sub 2))).length ≤ 2 := hg.1
    have hmz := hg.len
    have hmo : ok 3 false m := hg.ok
    -- range(draw(3))
    refine ⟨_, rfl, add F p, x, 3, rfl, by decide, b1', add_of hF, fun n H2 hn k2 b2 => ?_⟩
    refine ⟨_, rfl, by omega, by omega, for_range (lo := 0) (n := ((n : Nat) : Int).toNat) (fun j σ H' => ∃ v2 vs, ∃ L : List (Nd (Sub 2)), σ = [some (.ref x), some (.ref p), v2] ∧ H' p = some (.lst vs) ∧ L.length ≤ 2 + j ∧ DhA K (add F p) H' vs (L.map (dNd (dat 2))) ∧ (∀ nd ∈ L, ndOk false (ok 2) nd) ∧ (L.flatMap (fNd (fmt 2))).length ≤ 3516 + 7 * j ∧ BoxAt (add F p) H' x ∧ Kp (only x) H H')
      ⟨none, vs, m, rfl, k2.at_ npx hp1, hm2, hvs1.kp (k2.toF (add_of hF)), fun nd hnd => (hg.2 nd hnd).1, hmz, b2, kp1.trans k2⟩ ?_ ?_⟩
    · rintro j σ H' hj ⟨v2, vs', L, rfl, hp', hL, hvs', hLo, hLz, b', kp'⟩
      have lv' : Live (add F p) H' := (lv.kp kp' b'.live).add (by rw [hp']; simp)
      have lvs : vs'.length = L.length := by rw [DpAll.len hvs', List.length_map]
      have npv : p ≠ x := npx
      -- found.insert(draw(len + 1), ('text', ..))
      refine ⟨_, rfl, .inl ⟨rfl, _, SqL.of hp'⟩, _, rfl, _, rfl, p, _, rfl, .inl (SqL.of hp'), _, _, rfl, rfl, add F p, x, vs'.length + 1, rfl, by omega, b', add_of hF, fun pos H3 hpos k3 b3 => ?_⟩
      have hp3 := k3.at_ npx hp'
      have hvs3 := hvs'.kp (k3.toF (add_of hF))
      have kp3 := kp'.trans k3
      have lv3 := lv'.kp k3 b3.live
      refine ⟨by show 7 ≤ sizeLine; decide, fun W hW => ?_⟩
      have sW := same_new (o := HO.lst [.str "it's", .str "{x}", .str "#", .str "\n a", .str "", .str "''", .str "a, b"]) hW
      have nWx : W ≠ x := fun e => by rw [e] at hW; exact b3.live hW
      refine ⟨_, rfl, add F p, x, 7, rfl, by decide, b3.same sW, add_of hF, fun n4 H4 hn4 k4 b4 => ?_⟩
      have hW4 := k4.at_ nWx upd_same
      obtain ⟨tx, hc1, hc2, hc3⟩ : ∃ tx : List Nat, atI [V.str "it's", .str "{x}", .str "#", .str "\n a", .str "", .str "''", .str "a, b"] (n4 : Int) = some (.str (S tx)) ∧ (∀ c ∈ tx, chOk c) ∧ (tx.flatMap esc).length ≤ 7 := by
        match n4, hn4 with
        | 0, _ => exact ⟨[105, 116, 39, 115], atI_nat (j := 0) rfl, lit_ch (by decide), by decide⟩
        | 1, _ => exact ⟨[123, 120, 125], atI_nat (j := 1) rfl, lit_ch (by decide), by decide⟩
        | 2, _ => exact ⟨[35], atI_nat (j := 2) rfl, lit_ch (by decide), by decide⟩
        | 3, _ => exact ⟨[10, 32, 97], atI_nat (j := 3) rfl, lit_ch (by decide), by decide⟩
        | 4, _ => exact ⟨[], atI_nat (j := 4) rfl, fun c hc => (by cases hc), by decide⟩
        | 5, _ => exact ⟨[39, 39], atI_nat (j := 5) rfl, lit_ch (by decide), by decide⟩
        | 6, _ => exact ⟨[97, 44, 32, 98], atI_nat (j := 6) rfl, lit_ch (by decide), by decide⟩
      refine ⟨W, _, _, _, rfl, rfl, SqL.of hW4, hc1, by show 2 ≤ sizeLine; decide, fun t ht => ?_⟩
      have st := same_new (o := HO.tup [.str "text", .str (S tx)]) ht
      have hp4 := st _ _ (k4.at_ npx (sW _ _ hp3))
      have ft : add F p t = false := ((lv3.same sW).kp k4 b4.live).new ht
      have hvs4 := ((hvs3.same sW).kp (k4.toF (add_of hF))).same st
      have kp4 := ((kp3.trans (Kp.of sW)).trans k4).trans (Kp.of st)
      have htd : Dh K (add F p) (upd H4 t (.tup [.str "text", .str (S tx)])) (.ref t) (dNd (dat 2) (.text tx)) := .tup ((Av_get ft).trans upd_same) (.cons (.str _) (.cons (.str _) .nil))
      refine ⟨p, vs', (pos : Int), _, rfl, rfl, hp4, small_lt (by omega), by omega, by omega, ?_⟩
      have hposL : pos ≤ L.length := by omega
      have epos : ((pos : Int)).toNat = pos := rfl
      rw [epos]
      refine ⟨_, _, L.take pos ++ [.text tx] ++ L.drop pos, rfl, upd_same, ?_, ?_, fun nd hnd => ?_, ?_, (b4.same st).mut (add_self _ _) npx, kp4.mut hpH⟩
      · simp only [List.length_append, List.length_take, List.length_drop, List.length_cons, List.length_nil]
        omega
      · rw [List.map_append, List.map_append, List.map_take, List.map_drop]
        exact DhA.updF (DpAll.app (DpAll.app (DpAll.take _ hvs4) (.cons htd .nil)) (DpAll.drop _ hvs4)) (add_self _ _)
      · rcases List.mem_append.mp hnd with h | h
        · rcases List.mem_append.mp h with h | h
          · exact hLo nd (List.mem_of_mem_take h)
          · rw [List.mem_singleton.mp h]; exact hc2
        · exact hLo nd (List.mem_of_mem_drop h)
      · have e1 : (L.flatMap (fNd (fmt 2))).length = ((L.take pos).flatMap (fNd (fmt 2))).length + ((L.drop pos).flatMap (fNd (fmt 2))).length := by
          conv => lhs; rw [← List.take_append_drop pos L, List.flatMap_append, List.length_append]
        have e2 : (fNd (fmt 2) (.text tx)).length = (tx.flatMap esc).length := rfl
        simp only [List.flatMap_append, List.length_append, List.flatMap_cons, List.flatMap_nil, List.length_nil, Nat.add_zero]
        omega
    · rintro σ H' ⟨v2, vs', L, rfl, hp', hL, hvs', hLo, hLz, b', kp'⟩
      refine ⟨_, rfl, k p (L : List (Nd (Sub 2))) H' kp' (b'.weak add_sub) (.lst ((Av_get fp).trans hp') (hvs'.weak add_sub)) ⟨⟨by omega, hLo⟩, ?_⟩⟩
      show (L.flatMap (fNd (fmt 2))).length ≤ 4000
      omega
def spLDeed (K : PySem.W.Frag) : Sp := fun vs H Q _ => ∃ (F : Fz) (x wd pl : Addr) (s : St'), vs = [.ref x, .ref wd, .bl false] ∧ BoxAt F H x ∧ F x = true ∧ Live F H ∧ WAt K F H wd pl s ∧ F wd = true ∧ F pl = true ∧ gS s ∧ szS 50 s ∧
  ∀ a d H', Kp (only x) H H' → BoxAt F H' x → Dh K F H' (.ref a) (dD d) → canD s d → Q (.ref a) H'
theorem sc_law_deed : FnScope ["_law_box_here", "_law_world_here", "_law_odd", "_law_kind", "_law_keys"] ["_law_box_here", "_law_world_here", "_law_odd"] (defScope s_law_deed) := ⟨rfl, rfl, rfl, by decide +kernel, rfl, by decide +kernel, by decide +kernel⟩
theorem ok_law_deed (T : Tx K mg) : OkF P w K mg base d_law_deed ["_law_box_here", "_law_world_here", "_law_odd"] 6 (spLDeed K) := by
  have o_law_some : OkF P w K mg base d_law_some ["_law_box_here"] 5 (spLSome K) := ok_law_some T
  have o_law_draw : OkF P w K mg base d_law_draw ["_law_box_here", "_law_many"] 1 spDraw := ok_law_draw T
  refine (okF T 64 (d := d_law_deed) rfl sc_law_deed (fun _ _ _ _ _ _ us hl => match us, hl with | [_, _, _], _ => rfl) ⟨rfl, rfl⟩ (fun vs H Q E h => ?_) (fun cdv A outer s H vs Q E hr h => ?_))
  · obtain ⟨F, x, wd, pl, s, rfl, _⟩ := h; rfl
  · obtain ⟨F, x, wd, pl, st, rfl, hb, hF, lv, ⟨nd, ds, hw, hpl, hds, kvs, hnd, hent⟩, hFw, hFp, hg, hsz, k⟩ := h
    refine ⟨_, (pss_cons (ps_set (i := 3) sc_law_deed.nd rfl (Or.inl rfl) (cg o_law_draw T.g__law_draw (hr.mono (by omega)) (pa_cons (pv 0) (pa_cons pe_int pa_nil))))
  (pss_cons (ps_set (i := 4) sc_law_deed.nd rfl (Or.inl rfl) (pe_callB (call_sortedD rfl) (by rfl) T.z_sorted (by decide +kernel) (pa_cons (pe_dget (hu_of hr) (pv 1) pe_str (fun _ _ => rfl)) pa_nil)))
  (pss_cons (ps_if (PW.pt (pw_and (pt_val (pv 2)) (pw_and1 (pt_cmpR op_eq (pv 3) pe_int (nomark _)))))
  (pss_one (ps_ret (pe_ix ix_list (pe_lst (pa_cons (pe_tup (pa_cons pe_str (pa_cons pe_str pa_nil))) (pa_cons (pe_tup (pa_cons pe_str (pa_cons pe_str pa_nil))) (pa_cons (pe_tup (pa_cons pe_str pa_nil)) pa_nil)))) (cg o_law_draw T.g__law_draw (hr.mono (by omega)) (pa_cons (pv 0) (pa_cons pe_int pa_nil))) (fun _ _ => rfl))))
  pss_nil)
  (Evl.pss_cut (ps_if (PW.pt (pw_and (pt_cmpR op_gt (pv 3) pe_int (nomark _)) (pw_and1 (pt_cmpR op_gt (pe_callB call_len_seq (by rfl) T.z_len (by decide +kernel) (pa_cons (pe_dget (hu_of hr) (pv 1) pe_str (fun _ _ => rfl)) pa_nil)) pe_int (nomark _)))))
  (pss_one (ps_ret (pe_tup (pa_cons pe_str pa_nil))))
  pss_nil)
  (Evl.pss_cut (ps_if (PW.pt (pw_and (pt_cmpR op_gt (pv 3) pe_int (nomark _)) (pw_and1 (pt_cmpR op_gt (pe_callB call_len_seq (by rfl) T.z_len (by decide +kernel) (pa_cons (pv 4) pa_nil)) pe_int (nomark _)))))
  (pss_one (ps_ret (pe_tup (pa_cons pe_str (pa_cons (pe_ix ix_list (pv 4) (pe_op op_mod (pe_callTy call_int1 (by rfl) T.z_int (by decide +kernel) (pa_cons (cg o_law_draw T.g__law_draw (hr.mono (by omega)) (pa_cons (pv 0) (pa_cons pe_int pa_nil))) pa_nil)) (pe_callB call_len_seq (by rfl) T.z_len (by decide +kernel) (pa_cons (pv 4) pa_nil))) (fun _ _ => rfl)) pa_nil)))))
  pss_nil)
  (pss_one (ps_ret (pe_tup (pa_cons pe_str (pa_cons (pe_ix ix_list (pe_lst (pa_cons pe_str (pa_cons pe_str (pa_cons pe_str (pa_cons pe_str pa_nil))))) (cg o_law_draw T.g__law_draw (hr.mono (by omega)) (pa_cons (pv 0) (pa_cons pe_int pa_nil))) (fun _ _ => rfl)) (pa_cons (cg o_law_some T.g__law_some (hr.mono (by omega)) (pa_cons (pv 0) pa_nil)) pa_nil))))))))))), ?_⟩
    have nwx : wd ≠ x := fun e => by
      obtain ⟨r, zs, n, h1, _⟩ := hb
      rw [e, h1] at hw; cases hw
    have npx : pl ≠ x := fun e => by
      obtain ⟨r, zs, n, h1, _⟩ := hb
      rw [e, h1] at hpl
      have h2 := HO.lst.inj (Option.some.inj hpl)
      match ds, h2 with
      | [], h2 => cases h2
      | [_], h2 => cases h2
      | _ :: _ :: _, h2 => cases h2
    have ln := hds.len
    have hnd' := (Av_some hnd).2
    have fnd := (Av_some hnd).1
    have nnx : nd ≠ x := fun e => by rw [e, hF] at fnd; cases fnd
    have hGN : ∀ {H2 : Hp}, H2 wd = some (.dK (wkv nd pl)) → DGet H2 wd (.str "now") (some (.ref nd)) := fun {H2} h => by
      rw [← wkv_now nd pl]
      exact DGet.k (k := kN) h
    have hGP : ∀ {H2 : Hp}, H2 wd = some (.dK (wkv nd pl)) → DGet H2 wd (.str "past") (some (.ref pl)) := fun {H2} h => by
      rw [← wkv_past nd pl]
      exact DGet.k (k := kP) h
    refine ⟨_, rfl, F, x, 8, rfl, by decide, hb, hF, fun kd H1 hkd k1 b1 => ?_⟩
    have hw1 := k1.at_ nwx hw
    have hpl1 := k1.at_ npx hpl
    have hnd1 := k1.at_ nnx hnd'
    have lv1 := lv.kp k1 b1.live
    refine ⟨_, rfl, wd, _, rfl, hGN hw1, nd, kvs, (st.2.map (·.1)).map S, rfl, .inl hnd1, ?_, ?_, fun ys p hperm hsort hp => ?_⟩
    · rw [hent.keys, List.map_map, List.map_map, List.map_map]
      rfl
    · rw [List.length_map, List.length_map]
      have := hsz.2.1
      omega
    have s1 := same_new (o := HO.lst (ys.map V.str)) hp
    have npx2 : p ≠ x := fun e => by rw [e] at hp; exact b1.live hp
    have hw2 := s1 _ _ hw1
    have hpl2 := s1 _ _ hpl1
    have b2 := b1.same s1
    have lv2 := lv1.same s1
    have kp2 := k1.trans (Kp.of s1)
    have hp2 : (upd H1 p (.lst (ys.map V.str))) p = some (.lst (ys.map V.str)) := upd_same
    generalize upd H1 p (.lst (ys.map V.str)) = H2 at *
    refine ⟨_, rfl, _, rfl, iteF (iteF ?_)⟩
    have retP : ∀ (a : Addr) (d : Deed) (H3 : Hp), Kp (only x) H2 H3 → BoxAt F H3 x → Dh K F H3 (.ref a) (dD d) → canD st d → Q (.ref a) H3 := fun a d H3 k3 b3 h1 h2 => k a d H3 (kp2.trans k3) b3 h1 h2
    refine ⟨fun σ H' => σ = [some (.ref x), some (.ref wd), some (.bl false), some (.int (kd : Int)), some (.ref p)] ∧ H2 = H', ?_, ?_⟩
    · refine ⟨_, rfl, _, _, rfl, rfl, _, rfl, ?_⟩
      by_cases h5 : 5 < kd
      · refine ite_t (decide_eq_true (by omega)) ?_
        refine ⟨_, rfl, wd, _, rfl, hGP hw2, pl, _, rfl, .inl (SqL.of hpl2), _, _, rfl, rfl, _, rfl, ?_⟩
        by_cases h0 : st.1 = []
        · refine ite_f (decide_eq_false (by rw [List.length_map, ln, h0]; simp)) ?_
          exact ⟨rfl, rfl⟩
        · have l0 : st.1.length ≠ 0 := fun e => h0 (List.length_eq_zero_iff.mp e)
          refine ite_t (decide_eq_true (by rw [List.length_map, ln]; omega)) ?_
          refine ⟨by show 1 ≤ sizeLine; decide, fun t ht => ?_⟩
          have ft : F t = false := lv2.new ht
          exact retP t .undo _ (Kp.of (same_new ht _)) (b2.same (same_new ht _)) (.tup ((Av_get ft).trans upd_same) (.cons (.str _) .nil)) ⟨trivial, trivial, fun _ => h0⟩
      · exact ite_f (decide_eq_false (by omega)) (iteF ⟨rfl, rfl⟩)
    · rintro σ H' ⟨rfl, rfl⟩
      refine ⟨fun σ H' => σ = [some (.ref x), some (.ref wd), some (.bl false), some (.int (kd : Int)), some (.ref p)] ∧ H2 = H', ?_, ?_⟩
      · refine ⟨_, rfl, _, _, rfl, rfl, _, rfl, ?_⟩
        by_cases h3 : 3 < kd
        · refine ite_t (decide_eq_true (by omega)) ?_
          refine ⟨_, rfl, p, _, rfl, .inl (SqL.of hp2), _, _, rfl, rfl, _, rfl, ?_⟩
          by_cases h0 : ys.length = 0
          · exact ite_f (decide_eq_false (by rw [List.length_map, h0]; simp)) ⟨rfl, rfl⟩
          · refine ite_t (decide_eq_true (by rw [List.length_map]; omega)) ?_
            refine ⟨_, rfl, _, rfl, F, x, 900, rfl, by decide, b2, hF, fun n5 H3 hn5 k3 b3 => .inl ⟨_, rfl, _, rfl, p, _, rfl, .inl (SqL.of (k3.at_ npx2 hp2)), _, _, rfl, rfl, by rw [List.length_map]; show (0 : Int) < _; omega, ?_⟩⟩
            have hp3 := k3.at_ npx2 hp2
            have elen : (ys.map V.str).length = ys.length := List.length_map _
            obtain ⟨i, hi, ei⟩ : ∃ i, i < ys.length ∧ (n5 : Int) % ((ys.map V.str).length : Int) = ((i : Nat) : Int) := by
              refine ⟨n5 % ys.length, Nat.mod_lt _ (by omega), ?_⟩
              rw [elen]
              rfl
            have hmemy : ys[i] ∈ (st.2.map (·.1)).map S := hperm.mem_iff.mp (List.getElem_mem hi)
            obtain ⟨kx, hkx, ekx⟩ := List.mem_map.mp hmemy
            have hat : atI (ys.map V.str) ((n5 : Int) % ((ys.map V.str).length : Int)) = some (.str (S kx)) := by
              rw [ei]
              exact atI_nat (by rw [List.getElem?_map, List.getElem?_eq_getElem hi, ekx]; rfl)
            refine ⟨p, _, _, _, rfl, rfl, SqL.of hp3, hat, by show 2 ≤ sizeLine; decide, fun t ht => ?_⟩
            have ft : F t = false := (lv2.kp k3 b3.live).new ht
            have hok : nmOk kx := by
              obtain ⟨e, he, rfl⟩ := List.mem_map.mp hkx
              exact (hg.1.2 e he).1
            exact retP t (.drop kx) _ (k3.trans (Kp.of (same_new ht _))) (b3.same (same_new ht _)) (.tup ((Av_get ft).trans upd_same) (.cons (.str _) (.cons (.str _) .nil))) ⟨hok, getB_mem hkx, fun e => nomatch e⟩
        · exact ite_f (decide_eq_false (by omega)) (iteF ⟨rfl, rfl⟩)
      · rintro σ H' ⟨rfl, rfl⟩
        refine ⟨by show 4 ≤ sizeLine; decide, fun W hW => ?_⟩
        have sW := same_new (o := HO.lst [.str "a", .str "key", .str "zz", .str "abcdefgh"]) hW
        have nWx : W ≠ x := fun e => by rw [e] at hW; exact b2.live hW
        refine ⟨_, rfl, F, x, 4, rfl, by decide, b2.same sW, hF, fun n5 H3 hn5 k3 b3 => ?_⟩
        have hW3 := k3.at_ nWx upd_same
        obtain ⟨kx, hat, hkx⟩ : ∃ kx : List Nat, atI [V.str "a", .str "key", .str "zz", .str "abcdefgh"] (n5 : Int) = some (.str (S kx)) ∧ nmOk kx := by
          match n5, hn5 with
          | 0, _ => exact ⟨[97], atI_nat (j := 0) rfl, by decide, by decide, by unfold ltr; decide⟩
          | 1, _ => exact ⟨[107, 101, 121], atI_nat (j := 1) rfl, by decide, by decide, by unfold ltr; decide⟩
          | 2, _ => exact ⟨[122, 122], atI_nat (j := 2) rfl, by decide, by decide, by unfold ltr; decide⟩
          | 3, _ => exact ⟨[97, 98, 99, 100, 101, 102, 103, 104], atI_nat (j := 3) rfl, by decide, by decide, by unfold ltr; decide⟩
        refine ⟨W, _, _, _, rfl, rfl, SqL.of hW3, hat, ?_⟩
        have k23 := (Kp.of sW).trans k3
        refine ⟨_, rfl, F, x, rfl, b3, hF, (lv2.same sW).kp k3 b3.live, fun q m H4 k4 b4 hq hmo => ?_⟩
        refine ⟨by show 3 ≤ sizeLine; decide, fun t ht => ?_⟩
        have ft : F t = false := (((lv2.same sW).kp k3 b3.live).kp k4 b4.live).new ht
        exact retP t (.put kx m) _ ((k23.trans k4).trans (Kp.of (same_new ht _))) (b4.same (same_new ht _)) (.tup ((Av_get ft).trans upd_same) (.cons (.str _) (.cons (.str _) (.cons (hq.same (same_new ht _)) .nil)))) ⟨⟨hkx, hmo.1, hmo.2⟩, trivial, fun e => nomatch e⟩
end
end Mw
/-! MxB -/
set_option Elab.async false
set_option linter.all false
set_option maxRecDepth 100000
set_option maxHeartbeats 4000000
namespace Mw
open PySem PySem.Spec PyProof.Rows L2
theorem WAt.kp {K : PySem.W.Frag} {F : Fz} {H H' : Hp} {w pl : Addr} {s : St'} (h : WAt K F H w pl s) (k : Kp F H H') (hw : ∀ o, H w = some o → H' w = some o) (hp : ∀ o, H pl = some o → H' pl = some o) : WAt K F H' w pl s := by
  obtain ⟨nd, ds, h1, h2, h3, h4⟩ := h
  exact ⟨nd, ds, hw _ h1, hp _ h2, h3.kp k, h4.kp k⟩
theorem WAt.same {K : PySem.W.Frag} {F : Fz} {H H' : Hp} {w pl : Addr} {s : St'} (h : WAt K F H w pl s) (k : Same H H') : WAt K F H' w pl s := h.kp (Kp.of k) (k _) (k _)
theorem WAt.new {K : PySem.W.Frag} {F : Fz} {H : Hp} {w pl p : Addr} {s : St'} (h : WAt K F H w pl s) (hp : H p = none) : WAt K (add F p) H w pl s := by
  obtain ⟨nd, ds, h1, h2, h3, h4⟩ := h
  exact ⟨nd, ds, h1, h2, h3.new hp, h4.new hp⟩
theorem WAt.weak {K : PySem.W.Frag} {F G : Fz} {H : Hp} {w pl : Addr} {s : St'} (h : WAt K G H w pl s) (hf : ∀ a, F a = true → G a = true) : WAt K F H w pl s := by
  obtain ⟨nd, ds, h1, h2, h3, h4⟩ := h
  exact ⟨nd, ds, h1, h2, h3.weak hf, h4.weak hf⟩
section
variable {X : Cx} {k : Nat} {d : He.DefD} {sp : Sp} {x : Str} {p pos : Pos}
theorem cg0 (O : OkF X.prog X.w X.K X.mg X.base d [] k sp) (hm : X.mg x = some (.ref (He.fAd X.K d.at_))) (hr : Room k X.A) (hg : Gl X x := by rfl) (hdb : (x == ("__debug__" : Str)) = false := by decide) :
    PE X (.Call (.Name x p) [] [] pos) (tCall sp [] E0 tNil) := by
  obtain ⟨fd, F, b⟩ := O.ex
  exact pe_call0 F hr hg hm O.kp b .nil pass0 hdb
end
theorem canR_ok : ∀ {ds : List Deed} {s : St'}, canR s ds → ∀ d ∈ ds, okD d
  | [], _, _, _, h => by cases h
  | d :: ds, s, hc, x, h => by
    rcases List.mem_cons.mp h with rfl | h
    · exact hc.1.1
    · exact canR_ok hc.2 x h
theorem gS.run : ∀ {ds : List Deed} {s : St'}, gS s → (∀ d ∈ ds, okD d) → gS (runP s ds)
  | [], _, h, _ => h
  | d :: ds, s, h, hd => gS.run (ds := ds) (h.step (hd d List.mem_cons_self)) fun x hx => hd x (List.mem_cons_of_mem _ hx)
section
variable {P : Program} {w : World} {K : PySem.W.Frag} {mg : Str → Option Value} {base : Heap}
def spLRows (K : PySem.W.Frag) : Sp := fun vs H Q _ => ∃ (F : Fz) (x : Addr) (n : Nat), vs = [.ref x, .int (n : Int)] ∧ n ≤ 20 ∧ BoxAt F H x ∧ F x = true ∧ Live F H ∧
  ∀ p vs ds H', Kp (only x) H H' → BoxAt (add F p) H' x → H p = none → H' p = some (.lst vs) → DhA K (add F p) H' vs (ds.map dD) → canR s00 ds → ds.length = n → Q (.ref p) H'
theorem sc_law_rows : FnScope ["_law_box_here", "_law_many", "_law_world_here", "_law_rows_here", "_law_turn"] ["_law_box_here", "_law_many"] (defScope s_law_rows) := ⟨rfl, rfl, rfl, by decide +kernel, rfl, by decide +kernel, by decide +kernel⟩
theorem ok_law_rows (T : Tx K mg) : OkF P w K mg base d_law_rows ["_law_box_here", "_law_many"] 7 (spLRows K) := by
  have o_law_world : OkF P w K mg base d_law_world [] 1 (spLWorld K) := ok_law_world T
  have o_law_deed : OkF P w K mg base d_law_deed ["_law_box_here", "_law_world_here", "_law_odd"] 6 (spLDeed K) := ok_law_deed T
  have o_law_due : OkF P w K mg base d_law_due ["_law_world_here", "_law_deed_here"] 5 (spLDue K) := ok_law_due T
  refine (okF T 66 (d := d_law_rows) rfl sc_law_rows (fun _ _ _ _ _ _ us hl => match us, hl with | [_, _], _ => rfl) ⟨rfl, rfl⟩ (fun vs H Q E h => ?_) (fun cdv A outer s H vs Q E hr h => ?_))
  · obtain ⟨F, x, n, rfl, _⟩ := h; rfl
  · obtain ⟨F, x, n, rfl, hn, hb, hF, lv, k⟩ := h
    refine ⟨_, (pss_cons (ps_set (i := 2) sc_law_rows.nd rfl (Or.inl rfl) (cg0 o_law_world T.g__law_world (hr.mono (by omega))))
  (pss_cons (ps_set (i := 3) sc_law_rows.nd rfl (Or.inl rfl) (pe_lst pa_nil))
  (pss_cons (ps_for PassesOwn.never rfl (pi_range1 (by rfl) T.z_range (pa_cons (pv 1) pa_nil)) (pg_name (i := 4) sc_law_rows.nd rfl (Or.inl rfl))
  (pss_cons (ps_expr (pe_bm PySem.F.plainAttrs_list PySem.F.slot_list_append PySem.F.type_list_append mt_append (pv 3) (pa_cons (cg o_law_deed T.g__law_deed (hr.mono (by omega)) (pa_cons (pv 0) (pa_cons (pv 2) (pa_cons pe_bl pa_nil)))) pa_nil)))
  (pss_one (ps_expr (cg o_law_due T.g__law_due (hr.mono (by omega)) (pa_cons (pv 2) (pa_cons (pe_ix ix_list (pv 3) (pe_un un_neg pe_int) (fun _ _ => rfl)) pa_nil)))))))
  (pss_one (ps_ret (pv 3)))))), ?_⟩
    refine ⟨F, rfl, lv, fun wd pl H1 s1 hwn hpn nwp hW => ?_⟩
    obtain ⟨nd0, ds0, hw1, hpl1, _, _⟩ := id hW
    have nwx : wd ≠ x := fun e => by rw [e] at hwn; exact hb.live hwn
    have npx : pl ≠ x := fun e => by rw [e] at hpn; exact hb.live hpn
    refine ⟨Nat.zero_le _, fun p hp => ?_⟩
    have s2 := same_new (o := HO.lst []) hp
    have pw : p ≠ wd := fun e => by rw [e, hw1] at hp; cases hp
    have pp : p ≠ pl := fun e => by rw [e, hpl1] at hp; cases hp
    have hpH : H p = none := s1.hole hp
    have ppx : p ≠ x := fun e => by rw [e] at hpH; exact hb.live hpH
    have lv1 : Live (add (add F wd) pl) H1 := ((lv.same s1).add (by rw [hw1]; simp)).add (by rw [hpl1]; simp)
    have lv2 : Live (add (add (add F wd) pl) p) (upd H1 p (.lst [])) := (lv1.same s2).add (by rw [upd_same]; simp)
    have hW2 : WAt K (add (add (add F wd) pl) p) (upd H1 p (.lst [])) wd pl s00 := (hW.new hp).same s2
    have hb1 : BoxAt (add (add F wd) pl) H1 x := ((hb.new hwn).new hpn).same s1
    have hb2 : BoxAt (add (add (add F wd) pl) p) (upd H1 p (.lst [])) x := (hb1.new hp).same s2
    generalize hFF : add (add (add F wd) pl) p = FF at *
    have fx : FF x = true := by rw [← hFF]; exact add_of (add_of (add_of hF))
    have fw : FF wd = true := by rw [← hFF]; exact add_of (add_of (add_self _ _))
    have fpl : FF pl = true := by rw [← hFF]; exact add_of (add_self _ _)
    have fp : FF p = true := by rw [← hFF]; exact add_self _ _
    have fsub : ∀ a, add F p a = true → FF a = true := fun a ha => by
      rw [← hFF]
      by_cases e : a = p
      · rw [e]; exact add_self _ _
      · refine add_of (add_of (add_of ?_))
        simpa [add, e] using ha
    refine ⟨_, rfl, _, rfl, by omega, by omega, for_range (lo := 0) (n := ((n : Nat) : Int).toNat) (fun j σ H' => ∃ v4 vs ds, σ = [some (.ref x), some (.int (n : Int)), some (.ref wd), some (.ref p), v4] ∧ H' p = some (.lst vs) ∧ Kp (only x) H H' ∧ BoxAt FF H' x ∧ WAt K FF H' wd pl (runP s00 ds) ∧ DhA K FF H' vs (ds.map dD) ∧ canR s00 ds ∧ ds.length = j ∧ Live FF H')
      ⟨none, [], [], rfl, upd_same, Kp.of (s1.trans s2), hb2, hW2, .nil, trivial, rfl, lv2⟩ ?_ ?_⟩
    · rintro j σ H' hj ⟨v4, vs, ds, rfl, hp', kp', hb', hW', hvs, hcan, hlen, lv'⟩
      have hj' : j < n := hj
      have hszj := sz00.run (ds := ds)
      rw [Nat.zero_add, hlen] at hszj
      have sz : szS 50 (runP s00 ds) := ⟨by have := hszj.1; omega, by have := hszj.2.1; omega, fun b hb => by have := hszj.2.2 b hb; omega⟩
      have sz9 : szS 900 (runP s00 ds) := ⟨by have := sz.1; omega, by have := sz.2.1; omega, fun b hb => by have := sz.2.2 b hb; omega⟩
      have lvs : vs.length = j := by
        have := DpAll.len hvs
        rw [List.length_map] at this
        omega
      refine ⟨_, rfl, .inl ⟨rfl, _, SqL.of hp'⟩, _, rfl, _, rfl, FF, x, wd, pl, runP s00 ds, rfl, hb', fx, lv', hW', fw, fpl, gS00.run (canR_ok hcan), sz, fun a d H3 k3 b3 hd hc => ?_⟩
      obtain ⟨_, _, hw', hpl', _, _⟩ := id hW'
      have hp3 := k3.at_ ppx hp'
      refine ⟨p, vs, _, rfl, rfl, hp3, small_lt (by omega), ?_⟩
      have kF3 : Kp FF H' (upd H3 p (.lst (vs ++ [.ref a]))) := (k3.toF fx).upd fp
      have hp4 : (upd H3 p (.lst (vs ++ [.ref a]))) p = some (.lst (vs ++ [.ref a])) := upd_same
      have hd4 : Dh K FF (upd H3 p (.lst (vs ++ [.ref a]))) (.ref a) (dD d) := hd.updF fp
      have hvs4 := hvs.kp kF3
      have b4 := b3.mut (o := HO.lst (vs ++ [.ref a])) fp ppx
      have hW4 : WAt K FF (upd H3 p (.lst (vs ++ [.ref a]))) wd pl (runP s00 ds) := hW'.kp kF3 (fun o h => by rw [upd_ne (Ne.symm pw)]; exact k3.at_ nwx h) (fun o h => by rw [upd_ne (Ne.symm pp)]; exact k3.at_ npx h)
      have lv4 : Live FF (upd H3 p (.lst (vs ++ [.ref a]))) := (lv'.kp k3 b3.live).upd
      have kp4 : Kp (only x) H (upd H3 p (.lst (vs ++ [.ref a]))) := (kp'.trans k3).mut hpH
      generalize upd H3 p (.lst (vs ++ [.ref a])) = H4 at *
      refine ⟨_, rfl, _, rfl, _, rfl, p, _, _, .ref a, rfl, rfl, SqL.of hp4, atI_last _ _, FF, wd, pl, a, runP s00 ds, d, rfl, hW4, fw, fpl, nwp, lv4, hd4, hc, sz9, fun v H5 k5 hW5 _ => ?_⟩
      have kF5 : Kp FF H4 H5 := k5.mono fun z hz => by
        by_cases e1 : z = wd
        · rw [e1]; exact fw
        · by_cases e2 : z = pl
          · rw [e2]; exact fpl
          · rw [add_no e2 (only_no e1)] at hz; cases hz
      have at5 : ∀ z u, z ≠ wd → z ≠ pl → H4 z = some u → H5 z = some u := fun z u h1 h2 h => k5 z u (add_no h2 (only_no h1)) h
      have kp5 : Kp (only x) H H5 := fun z u hz hu => at5 z u (ne_of_none hu hwn) (ne_of_none hu hpn) (kp4 z u hz hu)
      have b5 : BoxAt FF H5 x := by
        refine b4.kp k5 (add_no (Ne.symm npx) (only_no (Ne.symm nwx))) fun z hz => ?_
        by_cases e1 : z = wd
        · rw [e1]; exact fw
        · by_cases e2 : z = pl
          · rw [e2]; exact fpl
          · rw [add_no e2 (only_no e1)] at hz; cases hz
      have lv5 : Live FF H5 := fun z hz hn => by
        cases hq : H4 z with
        | none => exact lv4 z hz hq
        | some o =>
          obtain ⟨_, _, hw5, hpl5, _, _⟩ := id hW5
          by_cases e1 : z = wd
          · rw [e1, hw5] at hn; cases hn
          · by_cases e2 : z = pl
            · rw [e2, hpl5] at hn; cases hn
            · rw [at5 z o e1 e2 hq] at hn; cases hn
      refine ⟨_, vs ++ [.ref a], ds ++ [d], rfl, at5 _ _ pw pp hp4, kp5, b5, by rw [runP_app]; exact hW5, ?_, canR_app.mpr ⟨hcan, hc, trivial⟩, by simp [hlen], lv5⟩
      rw [List.map_append]
      exact DhA.kp (DpAll.snoc hvs4 hd4) kF5
    · rintro σ H' ⟨v4, vs, ds, rfl, hp', kp', hb', hW', hvs, hcan, hlen, lv'⟩
      exact ⟨_, rfl, k p vs ds H' kp' (hb'.weak fsub) hpH hp' (hvs.weak fsub) hcan hlen⟩
end
end Mw
/-! MxC -/
set_option Elab.async false
set_option linter.all false
set_option maxRecDepth 100000
set_option maxHeartbeats 4000000
namespace Mw
open PySem PySem.Spec PyProof.Rows L2
/-! ## defs that call repr: their promise asks that nothing is being printed -/
structure FnG (P : Program) (w : World) (K : PySem.W.Frag) (mg : Str → Option Value) (base : Heap) (k : Nat) (f : Addr) (fd : FuncData) (ps : List Str) (sp : Sp) : Prop where
  len : ∀ vs H Q E, sp vs H Q E → vs.length = ps.length
  run : ∀ (A : Around) (outer : List Env) (s : Shared) (H : Hp) (args : Args) (us : List Value) (vs : List V) (Q : VK) (E : XK), Room k A → A.guards = some [] → Env0 P w K mg base A outer s H → BindsTo s fd args (ps.zip us) → Vals vs us → sp vs H Q E →
    codeAny (model P w) A (.call (.ref f) args) (CR CX0 outer P w H s Q E) s
theorem FnG.mono {P : Program} {w : World} {K : PySem.W.Frag} {mg : Str → Option Value} {base : Heap} {j k : Nat} {f : Addr} {fd : FuncData} {ps : List Str} {sp : Sp} (F : FnG P w K mg base j f fd ps sp) (h : j ≤ k) : FnG P w K mg base k f fd ps sp :=
  ⟨F.len, fun A outer s H args us vs Q E hr => F.run A outer s H args us vs Q E (hr.mono h)⟩
structure OkG (P : Program) (w : World) (K : PySem.W.Frag) (mg : Str → Option Value) (base : Heap) (d : He.DefD) (ps : List Str) (k : Nat) (sp : Sp) : Prop where
  ex : ∃ fd, FnG P w K mg base k (He.fAd K d.at_) fd ps sp ∧ Binds K fd ps []
  kp : PySem.W.keepIn K (.ref (He.fAd K d.at_)) = true
section
variable {P : Program} {w : World} {K : PySem.W.Frag} {mg : Str → Option Value} {base : Heap}
theorem OkG.mono {d : He.DefD} {ps : List Str} {j k : Nat} {sp : Sp} (O : OkG P w K mg base d ps j sp) (h : j ≤ k) : OkG P w K mg base d ps k sp := by
  obtain ⟨fd, F, b⟩ := O.ex
  exact ⟨⟨fd, F.mono h, b⟩, O.kp⟩
theorem okG (T : Tx K mg) (i : Nat) {d : He.DefD} {N ps : List Str} {k : Nat} {sp : Sp} (hd : fnl[i]? = some d) (S : FnScope N ps d.scope)
    (hb : ∀ (kV doc pm : Value) (an : Option Addr) (cdv ct : Value) (us : List Value), us.length = ps.length → bindArgs (PySem.W.fnOf d.name d.qual d.params d.body d.scope .none kV doc pm an cdv ct) ⟨us, []⟩ = pure (ps.zip us))
    (he : d.dfl = [] ∧ d.kwd = [])
    (len : ∀ vs H Q E, sp vs H Q E → vs.length = ps.length)
    (hbody : ∀ (cdv : Value) (A : Around) (outer : List Env) (s : Shared) (H : Hp) (vs : List V) (Q : VK) (E : XK), Room k (A.deeper (envOfC d.qual d.scope s.heap.objs.size (He.fAd K d.at_) cdv)) → A.guards = some [] → sp vs H Q E →
      ∃ t, PSs (cxOf CX0 P w K mg base N d.qual d.scope (He.fAd K d.at_) cdv A outer s H E).nox d.body t ∧ t { nx := fun _ H' => Q .non H', rt := Q } (start N vs) H) : OkG P w K mg base d ps (k + 1) sp := by
  obtain ⟨fd, F⟩ := T.says.def_ i hd
  have e1 : d.dvs K = [] := by unfold He.DefD.dvs; rw [he.1]; rfl
  rw [e1] at F
  refine ⟨⟨fd, ⟨len, ?_⟩, FunD.bindsN F hb⟩, F.kp⟩
  obtain ⟨oc, od, dV, kV, doc, pm, an, cdv, ct, osl, rfl, lk, hcd, _, _⟩ := F.ex
  intro A outer s H args us vs Q E hr hg e0 hbd r hsp
  have hKs : K.In s.heap := e0.mod.kin.keeps fun b o e => (e0.bs b o e).1
  have hn : s.heap.NoLimit := e0.mod.nolimit.keeps fun b o e => (e0.bs b o e).1
  have kinds : ∀ y ∈ ps.zip us, d.scope.names.lookup y.1 = some .local ∨ (d.scope.names.lookup y.1 = some .cell ∧ ((cellsFrom (s.heap.objs.size + 1) d.scope.names []).lookup y.1).isSome = true) := by
    rintro ⟨n, v⟩ hy
    exact (S.par n (List.of_mem_zip hy).1).imp id fun q => ⟨q, PySem.W.cellsFrom_some _ _ _ (.inl q)⟩
  refine codeAny_call_function hr.depth (hKs _ _ lk) rfl S.co S.gen rfl (PySem.W.codeRec_of hKs hcd) (hbd _ _ _ _ (wpAny_newFunctionEnv_cells S.kind kinds ?_))
  intro env henv s1 x
  subst henv
  refine ⟨hn.keeps x.toInCall.keep, codeAny_func ?_⟩
  obtain ⟨t, ht, hq⟩ := hbody cdv A outer s H vs Q E (hr.deeper _) hg hsp
  refine wpAny_mono (ht.nox.run [] s1 (start N vs) H _ (inv_start S hr.hd e0 (len _ _ _ _ hsp) r x) hq) ?_ fun e s' hs => hs
  intro fl s' hs
  cases fl with
  | ret u =>
    obtain ⟨v, σ', H', J, rv, q⟩ := hs
    exact ⟨v, H', J.os, J.bare, J.base, J.hok, rv, q⟩
  | next =>
    obtain ⟨σ', H', J, q⟩ := hs
    exact ⟨.non, H', J.os, J.bare, J.base, J.hok, rfl, q⟩
  | brk => obtain ⟨_, _, _, q⟩ := hs; exact q.elim
  | cont => obtain ⟨_, _, _, q⟩ := hs; exact q.elim
end
section
variable {X : Cx} {k : Nat} {d : He.DefD} {ps : List Str} {sp : Sp} {x : Str} {p pos : Pos} {e : Expr} {es : List Expr} {t : TA}
theorem cgG (O : OkG X.prog X.w X.K X.mg X.base d ps k sp) (hm : X.mg x = some (.ref (He.fAd X.K d.at_))) (hgd : X.A.guards = some []) (hr : Room k X.A) (ha : PA X (e :: es) t) (hg : Gl X x := by rfl) (hdb : (x == ("__debug__" : Str)) = false := by decide)
    (he : starEach (e :: es) X.env = (false, eval e X.env) :: starEach es X.env := by rfl) (hpl : (backTo pos (starEach es X.env)).any (·.1) = false := by rfl) :
    PE X (.Call (.Name x p) (e :: es) [] pos) (tCall sp [] E0 t) := by
  obtain ⟨fd, F, b⟩ := O.ex
  refine ⟨fun pins s σ H Q I h => wpAny_Call_Name_kw (ld_glob I hg hm ?_ hdb)⟩
  refine PySem.W.callWith_K (h₀ := X.base) I.ok.mod.kin O.kp (thn (ha.run pos pins s σ H _ I h) fun us s1 ⟨vs, H1, I1, r, q⟩ => ⟨I1.kIn, ?_⟩) he hpl
  have r2 : Vals (vs ++ []) (us ++ []) := r.append .nil
  have hl : (us ++ []).length = ps.length := by rw [← r2.length]; exact F.len _ _ _ _ q
  refine wpAny_call (codeAny_mono (F.run X.A X.stack s1 H1 ⟨us, []⟩ (us ++ []) (vs ++ []) _ E0 hr hgd I1.env0 (b s1 us I1.kIn hl) r2 q) fun r s' hq => ?_)
  cases r with
  | error e => exact pass0 pins σ H1 s1 e s' I1 hq
  | ok fl =>
    cases fl with
    | ret u => exact I1.after hq
    | next => exact hq.elim
    | brk => exact hq.elim
    | cont => exact hq.elim
/-- repr of a list or tuple of data, or of a truth value -/
def rRepr (K : PySem.W.Frag) : List V → Hp → VK → Prop := fun xs H Q => ∃ v dt, xs = [v] ∧ L2.Dp K H v dt ∧ ((∃ p, v = .ref p) ∨ ∃ b, v = .bl b) ∧ dt.showable = true ∧ dt.hasDict = false ∧ dt.depth ≤ 60 ∧ dt.shown.length ≤ sizeLine ∧ Q (.str dt.shown) H
theorem cr_repr (hgd : X.A.guards = some []) (hu : X.A.units + 64 < cLine) : CallR X (.builtin "repr") (rRepr X.K) := by
  intro pins s σ H xs us Q I r h
  obtain ⟨v, dt, e, hd, hv, hs, hn, hdp, hz, q⟩ := h
  subst e
  obtain ⟨u, eu, rv⟩ := vals1 r
  subst eu
  rcases hv with ⟨p, rfl⟩ | ⟨b, rfl⟩
  · obtain ⟨as, rd⟩ := Dp.reads I dt _ u hd rv
    obtain rfl : u = Value.ref p := rv
    exact PySem.repr_of_reads' rd hs (PySem.PyData.noDict_hsm hn) hgd (by omega) (fun _ _ e => e) (fun h' u tk hk => ⟨.str dt.shown, H, I.kept hk, ⟨u, rfl⟩, q⟩) hz
  · cases hd
    obtain rfl : u = Value.bool b := rv
    exact PySem.P.repr_of_bool ⟨.str (PyData.shown (.bool b)), H, I.tok _, ⟨_, by cases b <;> rfl⟩, q⟩
end
end Mw
/-! MxD -/
set_option Elab.async false
set_option linter.all false
set_option maxRecDepth 100000
set_option maxHeartbeats 4000000
namespace Mw
open PySem PySem.Spec PyProof.Rows L2
section
variable {P : Program} {w : World} {K : PySem.W.Frag} {mg : Str → Option Value} {base : Heap}
/-- data that repr shows whole -/
structure Shw (dt : PyData) : Prop where
  sh : dt.showable = true
  nd : dt.hasDict = false
  dp : dt.depth ≤ 60
  sz : dt.shown.length ≤ sizeLine
def spLSame (K : PySem.W.Frag) : Sp := fun vs H Q _ => ∃ v u dt, vs = [v, u] ∧ L2.Dp K H v dt ∧ L2.Dp K H u dt ∧ ((∃ p, v = .ref p) ∨ ∃ b, v = .bl b) ∧ ((∃ p, u = .ref p) ∨ ∃ b, u = .bl b) ∧ Shw dt ∧ Q (.bl true) H
theorem sc_law_same : FnScope ["_law_one", "_law_other"] ["_law_one", "_law_other"] (defScope s_law_same) := ⟨rfl, rfl, rfl, by decide +kernel, rfl, by decide +kernel, by decide +kernel⟩
theorem ok_law_same (T : Tx K mg) : OkG P w K mg base d_law_same ["_law_one", "_law_other"] 1 (spLSame K) := by
  refine (okG T 48 (d := d_law_same) rfl sc_law_same (fun _ _ _ _ _ _ us hl => match us, hl with | [_, _], _ => rfl) ⟨rfl, rfl⟩ (fun vs H Q E h => ?_) (fun cdv A outer s H vs Q E hr hg h => ?_))
  · obtain ⟨v, u, dt, rfl, _⟩ := h; rfl
  · obtain ⟨v, u, dt, rfl, hv, hu, rv, ru, sw, k⟩ := h
    have hgd : (A.deeper (envOfC d_law_same.qual d_law_same.scope s.heap.objs.size (He.fAd K d_law_same.at_) cdv)).guards = some [] := hg
    refine ⟨_, (pss_one (ps_ret (pe_cmpR op_eq (pe_callB (cr_repr hgd hr.units) (by rfl) T.z_repr (by decide +kernel) (pa_cons (pv 0) pa_nil)) (pe_callB (cr_repr hgd hr.units) (by rfl) T.z_repr (by decide +kernel) (pa_cons (pv 1) pa_nil)) (nomark _)))), ?_⟩
    refine ⟨_, rfl, v, dt, rfl, hv, rv, sw.sh, sw.nd, sw.dp, sw.sz, _, rfl, u, dt, rfl, hu, ru, sw.sh, sw.nd, sw.dp, sw.sz, rfl, ?_⟩
    rw [decide_eq_true rfl]
    exact k
end
end Mw
/-! MxE -/
set_option Elab.async false
set_option linter.all false
set_option maxRecDepth 100000
set_option maxHeartbeats 4000000
namespace Mw
open PySem PySem.Spec PyProof.Rows L2
/-! ## sorted keys are one list -/
abbrev leS (a b : Str) : Prop := a.cps.toList ≤ b.cps.toList
theorem rising_le : ∀ (r : List Str) (p : Str), risingS p r = true → (p :: r).Pairwise leS
  | [], p, _ => by simp
  | x :: r, p, h => by
    unfold risingS at h
    obtain ⟨h1, h2⟩ := Bool.and_eq_true_iff.mp h
    have ih := rising_le r x h2
    have hpx : leS p x := by
      have h3 : ltCps x.cps.toList p.cps.toList = false := by simpa using h1
      rw [ltCps_eq] at h3
      exact List.not_lt.mp (of_decide_eq_false h3)
    refine List.pairwise_cons.mpr ⟨fun y hy => ?_, ih⟩
    rcases List.mem_cons.mp hy with rfl | hy
    · exact hpx
    · exact List.le_trans hpx ((List.pairwise_cons.mp ih).1 y hy)
theorem sorted_le {l : List Str} (h : sortedS l = true) : l.Pairwise leS := by
  cases l with
  | nil => exact .nil
  | cons x r => exact rising_le r x h
theorem leS_anti {a b : Str} (h1 : leS a b) (h2 : leS b a) : a = b := by
  have := List.le_antisymm h1 h2
  cases a; cases b
  simpa using this
theorem sorted_one {l m : List Str} (hp : l.Perm m) (h1 : sortedS l = true) (h2 : sortedS m = true) : l = m :=
  hp.eq_of_pairwise (fun a b _ _ h1 h2 => leS_anti h1 h2) (sorted_le h1) (sorted_le h2)
end Mw
/-! MxF -/
set_option Elab.async false
set_option linter.all false
set_option maxRecDepth 100000
set_option maxHeartbeats 4000000
namespace Mw
open PySem PySem.Spec PyProof.Rows L2
/-! ## how long what is shown may be -/
def sl (d : PyData) : Nat := d.shown.length
def sls (ds : List PyData) : Nat := (ds.map fun d => sl d + 2).sum
theorem textFrom_le : ∀ (ts : List Str) (k : Nat) (acc : Str), (textFrom k acc ts).length ≤ acc.length + (ts.map fun t => t.length + 2).sum
  | [], k, acc => by simp [textFrom]
  | t :: r, k, acc => by
    have ih := textFrom_le r (k + 1) (acc ++ (if k > 0 then ", " else "" : String) ++ t)
    have e : (acc ++ (if k > 0 then ", " else "" : String) ++ t : Str).length ≤ acc.length + (t.length + 2) := by
      rw [strLen_append, strLen_append]
      have : (((if k > 0 then ", " else "" : String) : Str)).length ≤ 2 := by split <;> decide
      omega
    simp only [List.map_cons, List.sum_cons]
    show (textFrom (k + 1) (acc ++ (if k > 0 then ", " else "" : String) ++ t) r).length ≤ _
    omega
theorem shownAll_map : ∀ ds : List PyData, PyData.shownAll ds = ds.map PyData.shown
  | [] => rfl
  | d :: r => by
    have ih := shownAll_map r
    show d.shown :: PyData.shownAll r = _
    rw [ih]
    rfl
theorem sls_eq (ds : List PyData) : ((PyData.shownAll ds).map fun t => t.length + 2).sum = sls ds := by
  rw [shownAll_map, List.map_map]
  rfl
theorem ln_list (ds : List PyData) : sl (.list ds) ≤ 2 + sls ds := by
  show (listText (PyData.shownAll ds)).length ≤ _
  show (textFrom 0 "[" (PyData.shownAll ds) ++ "]").length ≤ _
  rw [strLen_append]
  have h := textFrom_le (PyData.shownAll ds) 0 "["
  rw [sls_eq] at h
  have e1 : ("[" : Str).length = 1 := rfl
  have e2 : ("]" : Str).length = 1 := rfl
  omega
theorem join_le : ∀ ts : List Str, (Str.join ", " ts).length ≤ (ts.map fun t => t.length + 2).sum
  | [] => Nat.zero_le _
  | [x] => by
    show x.length ≤ _
    simp
  | x :: y :: r => by
    have ih := join_le (y :: r)
    show (x ++ (", " : Str) ++ Str.join ", " (y :: r)).length ≤ _
    rw [strLen_append, strLen_append]
    have e : (", " : Str).length = 2 := rfl
    simp only [List.map_cons, List.sum_cons] at ih ⊢
    omega
theorem ln_tup (ds : List PyData) : sl (.tuple ds) ≤ 3 + sls ds := by
  show (tupleText (PyData.shownAll ds)).length ≤ _
  unfold tupleText
  rw [strLen_append, strLen_append]
  have h := join_le (PyData.shownAll ds)
  rw [sls_eq] at h
  have e1 : ("(" : Str).length = 1 := rfl
  have e3 : (((if (PyData.shownAll ds).length == 1 then ",)" else ")" : String) : Str)).length ≤ 2 := by split <;> decide
  omega
theorem sls_cons (d : PyData) (r : List PyData) : sls (d :: r) = sl d + 2 + sls r := rfl
theorem sls_nil : sls [] = 0 := rfl
theorem sls_le {B : Nat} : ∀ {l : List PyData}, (∀ d ∈ l, sl d + 2 ≤ B) → sls l ≤ l.length * B
  | [], _ => by simp [sls]
  | d :: r, h => by
    have ih := sls_le (l := r) fun y hy => h y (List.mem_cons_of_mem _ hy)
    have h1 := h d List.mem_cons_self
    rw [sls_cons, List.length_cons, Nat.add_mul]
    omega
theorem ln_str {l : List Nat} (h : ∀ c ∈ l, c < 1114112) : sl (.str (S l)) ≤ 10 * l.length + 2 := by
  show (reprText (S l)).length ≤ _
  have := StrLaws.reprText_len (S l) (fun c hc => by have := h c hc; omega)
  rwa [S_len] at this
end Mw
/-! MxG -/
set_option Elab.async false
set_option linter.all false
set_option maxRecDepth 100000
set_option maxHeartbeats 4000000
namespace Mw
open PySem PySem.Spec PyProof.Rows L2
theorem Nf.full {β : Type} {L : List (Nd β)} (h : Nf L) : ∀ x ∈ L, ∀ s, x = .text s → s ≠ [] := by
  induction h with
  | nil => intro x hx; cases hx
  | snoc h1 h2 ih =>
    intro x hx s e
    rcases List.mem_append.mp hx with hx | hx
    · exact ih x hx s e
    · rw [List.mem_singleton.mp hx] at e
      subst e
      exact (stp_grow h2).2
theorem sl_dig (n : Nat) (h : n ≤ 9) : sl (.int (n : Int)) ≤ 1 := by
  show (((toString (n : Int) : String)) : Str).length ≤ 1
  rw [dig n h]
  exact Nat.le_refl 1
theorem esc_pos (s : List Nat) : s.length ≤ (s.flatMap esc).length := len_fmt_text s
theorem ky_sl {pl : Bool} {k : Ky} (h : kyOk pl k) : sl (kD k) ≤ 10 * (fKy k).length + 2 := by
  cases k with
  | num n =>
    have := sl_dig n h.2
    show sl (.int (n : Int)) ≤ _
    omega
  | wd w => exact ln_str (nm_lt h.1)
theorem tg_sl : sl (.str "text") ≤ 6 ∧ sl (.str "show") ≤ 6 ∧ sl (.str "number") ≤ 8 ∧ sl (.str "select") ≤ 8 ∧ sl (.str "plural") ≤ 8 ∧ sl (.str "put") ≤ 5 ∧ sl (.str "drop") ≤ 6 ∧ sl (.str "undo") ≤ 6 := by
  refine ⟨?_, ?_, ?_, ?_, ?_, ?_, ?_, ?_⟩ <;> decide +kernel
theorem sls_mul {α : Type} {f : α → PyData} {g : α → List Nat} : ∀ {l : List α}, (∀ x ∈ l, sl (f x) + 2 ≤ 40 * (g x).length) → sls (l.map f) ≤ 40 * (l.flatMap g).length
  | [], _ => Nat.le_refl _
  | x :: r, h => by
    have ih := sls_mul (f := f) (g := g) (l := r) fun y hy => h y (List.mem_cons_of_mem _ hy)
    have h1 := h x List.mem_cons_self
    rw [List.map_cons, sls_cons, List.flatMap_cons, List.length_append]
    omega
theorem nd_sl {k : Nat} (ih : ∀ i m, ok k i m → plain k m = m → sl (dat k m) ≤ 40 * (fmt k m).length + 2) {i : Bool} {nd : Nd (Sub k)} (h : ndOk i (ok k) nd) (hp : nd.map (plain k) = nd) (hf : ∀ s, nd = .text s → s ≠ []) : sl (dNd (dat k) nd) + 2 ≤ 40 * (fNd (fmt k) nd).length := by
  obtain ⟨t1, t2, t3, t4, t5, _, _, _⟩ := tg_sl
  cases nd with
  | text s =>
    have hs := hf s rfl
    have hl : 1 ≤ s.length := List.length_pos_iff.mpr hs
    have h1 := ln_tup [.str "text", .str (S s)]
    have h2 := ln_str (l := s) fun c hc => ch_lt (h c hc)
    have h3 := esc_pos s
    rw [sls_cons, sls_cons, sls_nil] at h1
    show sl (.tuple [.str "text", .str (S s)]) + 2 ≤ 40 * (s.flatMap esc).length
    omega
  | shw n =>
    have h1 := ln_tup [.str "show", .str (S n)]
    have h2 := ln_str (l := n) (nm_lt h)
    rw [sls_cons, sls_cons, sls_nil] at h1
    show sl (.tuple [.str "show", .str (S n)]) + 2 ≤ 40 * (123 :: n ++ [125]).length
    simp only [List.length_append, List.length_cons, List.length_nil]
    omega
  | num =>
    have h1 := ln_tup [.str "number"]
    rw [sls_cons, sls_nil] at h1
    show sl (.tuple [.str "number"]) + 2 ≤ 40 * 1
    omega
  | ch pl name cs ot =>
    obtain ⟨g1, g2, g3, g4, g5, g6⟩ := h
    have hmap : (cs.map fun c => (c.1, plain k c.2)) = cs ∧ plain k ot = ot := by
      have := hp
      simp only [Nd.map, Nd.ch.injEq, true_and] at this
      exact this
    have hcp : ∀ c ∈ cs, plain k c.2 = c.2 := fun c hc => by
      obtain ⟨i, hi, e⟩ := List.mem_iff_getElem.mp hc
      have h2 : (cs.map fun c => (c.1, plain k c.2))[i]? = some c := by rw [hmap.1, List.getElem?_eq_getElem hi, e]
      rw [List.getElem?_map, List.getElem?_eq_getElem hi, e] at h2
      exact congrArg Prod.snd (Option.some.inj h2)
    have hot := ih _ _ g6 hmap.2
    have hcs : sls (cs.map (dCase (dat k))) ≤ 40 * (cs.flatMap (fCase (fmt k))).length := sls_mul fun c hc => by
      have a1 := ky_sl (g5 c hc).1
      have a2 := ih _ _ (g5 c hc).2 (hcp c hc)
      have a3 := ln_tup [kD c.1, dat k c.2]
      rw [sls_cons, sls_cons, sls_nil] at a3
      show sl (.tuple [kD c.1, dat k c.2]) + 2 ≤ _
      simp only [fCase, List.length_append, List.length_cons, List.length_nil]
      omega
    have hl := ln_list (cs.map (dCase (dat k)))
    have hn := ln_str (l := name) (nm_lt g1)
    have h6 : cOther.length = 5 := rfl
    cases pl with
    | none =>
      have h1 := ln_tup [.str "select", .str (S name), .list (cs.map (dCase (dat k))), dat k ot]
      rw [sls_cons, sls_cons, sls_cons, sls_cons, sls_nil] at h1
      show sl (.tuple [.str "select", .str (S name), .list (cs.map (dCase (dat k))), dat k ot]) + 2 ≤ _
      simp only [fNd, List.length_append, List.length_cons, List.length_nil]
      omega
    | some o =>
      have h1 := ln_tup [.str "plural", .str (S name), .int (o : Int), .list (cs.map (dCase (dat k))), dat k ot]
      have ho := sl_dig o (g2 o rfl)
      rw [sls_cons, sls_cons, sls_cons, sls_cons, sls_cons, sls_nil] at h1
      show sl (.tuple [.str "plural", .str (S name), .int (o : Int), .list (cs.map (dCase (dat k))), dat k ot]) + 2 ≤ _
      simp only [fNd, List.length_append, List.length_cons, List.length_nil]
      omega
theorem dat_sl : ∀ (k : Nat) (i : Bool) (m : Sub k), ok k i m → plain k m = m → sl (dat k m) ≤ 40 * (fmt k m).length + 2
  | 0, _, e, _, _ => nomatch e
  | k + 1, i, m, h, hp => by
    have ih := dat_sl k
    obtain ⟨hin, hnf⟩ := plain_inner hp
    have h1 := ln_list (List.map (dNd (dat k)) m)
    have h2 : sls (List.map (dNd (dat k)) m) ≤ 40 * (List.flatMap (fNd (fmt k)) m).length := sls_mul fun nd hnd => nd_sl (ih) (h.2 nd hnd) (hin nd hnd) (hnf.full nd hnd)
    show sl (.list (List.map (dNd (dat k)) m)) ≤ 40 * (List.flatMap (fNd (fmt k)) m).length + 2
    omega
end Mw
/-! MxH -/
set_option Elab.async false
set_option linter.all false
set_option maxRecDepth 100000
set_option maxHeartbeats 4000000
namespace Mw
open PySem PySem.Spec PyProof.Rows L2
def shn (d : PyData) : Prop := d.showable = true ∧ d.hasDict = false
theorem shn_all : ∀ {l : List PyData}, (∀ x ∈ l, shn x) → PyData.showableAll l = true ∧ PyData.hasDictAll l = false
  | [], _ => ⟨rfl, rfl⟩
  | x :: r, h => by
    obtain ⟨h1, h2⟩ := shn_all (l := r) fun y hy => h y (List.mem_cons_of_mem _ hy)
    obtain ⟨h3, h4⟩ := h x List.mem_cons_self
    exact ⟨by simp only [PyData.showableAll, h3, h1, Bool.and_self], by simp only [PyData.hasDictAll, h4, h2, Bool.or_self]⟩
theorem shn_list {l : List PyData} (h : ∀ x ∈ l, shn x) : shn (.list l) := shn_all h
theorem shn_tup {l : List PyData} (h : ∀ x ∈ l, shn x) : shn (.tuple l) := shn_all h
theorem shn_str (x : Str) : shn (.str x) := ⟨rfl, rfl⟩
theorem shn_int {n : Nat} (h : n ≤ 10000000) : shn (.int (n : Int)) := by
  refine ⟨decide_eq_true ?_, rfl⟩
  show Nat.log2 n < 1920
  by_cases h0 : n = 0
  · subst h0; decide
  · exact Nat.lt_of_lt_of_le ((Nat.log2_lt h0).mpr (show n < 2 ^ 24 by omega)) (by decide)
theorem two_mem {α : Type} {P : α → Prop} {a b : α} (ha : P a) (hb : P b) : ∀ x ∈ [a, b], P x := fun x hx => by
  simp only [List.mem_cons, List.not_mem_nil, or_false] at hx
  rcases hx with rfl | rfl
  · exact ha
  · exact hb
theorem nd_shn {α : Type} {f : α → PyData} {P : Bool → α → Prop} (hP : ∀ i x, P i x → shn (f x)) {i : Bool} {nd : Nd α} (h : ndOk i P nd) : shn (dNd f nd) := by
  cases nd with
  | text s => exact shn_tup (two_mem (shn_str _) (shn_str _))
  | shw s => exact shn_tup (two_mem (shn_str _) (shn_str _))
  | num => exact shn_tup fun x hx => by rw [List.mem_singleton.mp hx]; exact shn_str _
  | ch pl name cs ot =>
    obtain ⟨g1, g2, g3, g4, g5, g6⟩ := h
    have hcs : shn (.list (cs.map (dCase f))) := shn_list fun x hx => by
      obtain ⟨c, hc, rfl⟩ := List.mem_map.mp hx
      obtain ⟨k1, k2⟩ := g5 c hc
      refine shn_tup (two_mem ?_ (hP _ _ k2))
      cases e : c.1 with
      | num n =>
        rw [e] at k1
        have := k1.2
        exact shn_int (by omega)
      | wd w => exact shn_str _
    cases pl with
    | none =>
      refine shn_tup fun x hx => ?_
      simp only [List.mem_cons, List.not_mem_nil, or_false] at hx
      rcases hx with rfl | rfl | rfl | rfl
      · exact shn_str _
      · exact shn_str _
      · exact hcs
      · exact hP _ _ g6
    | some o =>
      refine shn_tup fun x hx => ?_
      simp only [List.mem_cons, List.not_mem_nil, or_false] at hx
      rcases hx with rfl | rfl | rfl | rfl | rfl
      · exact shn_str _
      · exact shn_str _
      · have := g2 o rfl
        exact shn_int (by omega)
      · exact hcs
      · exact hP _ _ g6
theorem dat_shn : ∀ (k : Nat) (i : Bool) (m : Sub k), ok k i m → shn (dat k m)
  | 0, _, e, _ => nomatch e
  | k + 1, i, m, h => shn_list fun x hx => by
    obtain ⟨nd, hnd, rfl⟩ := List.mem_map.mp hx
    exact nd_shn (fun i x => dat_shn k i x) (h.2 nd hnd)
/-- a deed that is plain -/
theorem dD_shn {d : Deed} (h : okD d) : shn (dD d) := by
  cases d with
  | put k m =>
    refine shn_tup fun x hx => ?_
    simp only [List.mem_cons, List.not_mem_nil, or_false] at hx
    rcases hx with rfl | rfl | rfl
    · exact shn_str _
    · exact shn_str _
    · exact dat_shn 3 false m h.2.1
  | drop k => exact shn_tup (two_mem (shn_str _) (shn_str _))
  | undo => exact shn_tup fun x hx => by rw [List.mem_singleton.mp hx]; exact shn_str _
theorem dD_dep {d : Deed} (h : okD d) : (dD d).depth ≤ 20 := by
  cases d with
  | put k m =>
    have := (dat_lay 3 false m h.2.1).2
    show PyData.depthAll [.str "put", .str (S k), dat 3 m] + 1 ≤ 20
    simp only [PyData.depthAll, PyData.depth]
    omega
  | drop k => show PyData.depthAll [.str "drop", .str (S k)] + 1 ≤ 20; simp [PyData.depthAll, PyData.depth]
  | undo => show PyData.depthAll [.str "undo"] + 1 ≤ 20; simp [PyData.depthAll, PyData.depth]
theorem dD_sl {d : Deed} (h : okD d) (hp : plD d) : sl (dD d) ≤ 170000 := by
  obtain ⟨_, _, _, _, _, t6, t7, t8⟩ := tg_sl
  cases d with
  | put k m =>
    have h1 := ln_tup [.str "put", .str (S k), dat 3 m]
    have h2 := ln_str (l := k) (nm_lt h.1)
    have h3 := dat_sl 3 false m h.2.1 hp
    have h4 := h.2.2
    have h5 := h.1.2.1
    rw [sls_cons, sls_cons, sls_cons, sls_nil] at h1
    show sl (.tuple [.str "put", .str (S k), dat 3 m]) ≤ _
    omega
  | drop k =>
    have h1 := ln_tup [.str "drop", .str (S k)]
    have h2 := ln_str (l := k) (nm_lt h)
    have h5 := h.2.1
    rw [sls_cons, sls_cons, sls_nil] at h1
    show sl (.tuple [.str "drop", .str (S k)]) ≤ _
    omega
  | undo =>
    have h1 := ln_tup [.str "undo"]
    rw [sls_cons, sls_nil] at h1
    show sl (.tuple [.str "undo"]) ≤ _
    omega
/-- a number of few figures -/
theorem ln_int (n : Nat) (h : n ≤ 10000000) : sl (.int (n : Int)) ≤ 8 := by
  exact toString_length_le (v := (n : Int)) (by omega) (k := 8) (by decide) (by
    have : (10 : Int) ^ 8 = 100000000 := by decide
    omega)
/-- octets are small -/
theorem oct_small {d : Deed} (h : okD d) : ∀ c ∈ recN d, c ≤ 300 := by
  have hch : ∀ c, chOk c → c ≤ 300 := fun c hc => by unfold chOk at hc; omega
  have hb : ∀ c ∈ bodyN d, c ≤ 300 := by
    cases d with
    | put k m =>
      intro c hc
      have h8 := h.1.2.1
      simp only [bodyN, List.mem_cons, List.mem_append] at hc
      rcases hc with rfl | rfl | hc | hc
      · decide
      · omega
      · exact hch c (nm_ch h.1 c hc)
      · exact hch c (fmt_ch 3 false m h.2.1 c hc)
    | drop k =>
      intro c hc
      simp only [bodyN, List.mem_cons] at hc
      rcases hc with rfl | hc
      · decide
      · exact hch c (nm_ch h c hc)
    | undo =>
      intro c hc
      rw [List.mem_singleton.mp hc]
      decide
  have hl := body_len h
  intro c hc
  simp only [recN, List.mem_cons, List.mem_append, List.not_mem_nil, or_false] at hc
  rcases hc with rfl | rfl | hc | rfl | rfl
  · omega
  · omega
  · exact hb c hc
  · omega
  · decide
theorem octs_small {ds : List Deed} (h : ∀ d ∈ ds, okD d) : ∀ c ∈ recsN ds, c ≤ 300 := fun c hc => by
  obtain ⟨d, hd, hcd⟩ := List.mem_flatMap.mp hc
  exact oct_small (h d hd) c hcd
theorem iD_shw {l : List Nat} (h : ∀ c ∈ l, c ≤ 300) (hl : l.length ≤ 100000) : shn (iD l) ∧ (iD l).depth ≤ 1 ∧ sl (iD l) ≤ 1000002 := by
  refine ⟨shn_list fun x hx => ?_, ?_, ?_⟩
  · obtain ⟨c, hc, rfl⟩ := List.mem_map.mp hx
    have := h c hc
    exact shn_int (by omega)
  · show PyData.depthAll _ + 1 ≤ 1
    have := depAll (N := 0) (l := l.map fun c : Nat => PyData.int (c : Int)) fun x hx => by
      obtain ⟨c, _, rfl⟩ := List.mem_map.mp hx
      exact Nat.le_refl _
    omega
  · have h1 := ln_list (l.map fun c : Nat => PyData.int (c : Int))
    have h2 : sls (l.map fun c : Nat => PyData.int (c : Int)) ≤ (l.map fun c : Nat => PyData.int (c : Int)).length * 10 := sls_le fun x hx => by
      obtain ⟨c, hc, rfl⟩ := List.mem_map.mp hx
      have := ln_int c (by have := h c hc; omega)
      omega
    rw [List.length_map] at h2
    show sl (.list (l.map fun c : Nat => PyData.int (c : Int))) ≤ _
    omega
theorem sizeLine_eq : sizeLine = 16777216 := by decide
end Mw
/-! MxI -/
set_option Elab.async false
set_option linter.all false
set_option maxRecDepth 100000
set_option maxHeartbeats 4000000
namespace Mw
open PySem PySem.Spec PyProof.Rows L2
def bkP (b : Bk) : Prop := ∀ e ∈ b, plain 3 e.2 = e.2
def gP (s : St') : Prop := bkP s.2 ∧ ∀ b ∈ s.1, bkP b
theorem bkP.put {b : Bk} {k : List Nat} {m : Sub 3} (h : bkP b) : bkP (putB b k (plain 3 m)) := by
  unfold putB
  split
  · intro e he
    obtain ⟨y, hy, rfl⟩ := List.mem_map.mp he
    have := h y hy
    split
    · exact plain_idem 3 m
    · exact this
  · intro e he
    rcases List.mem_append.mp he with he | he
    · exact h e he
    · rw [List.mem_singleton.mp he]; exact plain_idem 3 m
theorem gP.step {s : St'} {d : Deed} (h : gP s) : gP (stepP s d) := by
  have app : ∀ b : Bk, bkP b → gP (s.1 ++ [s.2], b) := fun b hb => ⟨hb, fun x hx => by
    rcases List.mem_append.mp hx with hx | hx
    · exact h.2 x hx
    · rw [List.mem_singleton.mp hx]; exact h.1⟩
  cases d with
  | put k m => exact app _ h.1.put
  | drop k => exact app _ fun e he => h.1 e (List.mem_filter.mp he).1
  | undo =>
    cases hl : s.1.getLast? with
    | none =>
      have e : stepP s .undo = s := by unfold stepP; rw [hl]
      rw [e]; exact h
    | some b =>
      have e : stepP s .undo = (s.1.dropLast, b) := by unfold stepP; rw [hl]
      rw [e]
      exact ⟨h.2 b (List.mem_of_getLast? hl), fun x hx => h.2 x (List.dropLast_subset _ hx)⟩
theorem gP00 : gP s00 := ⟨fun e he => (by cases he), fun b hb => (by cases hb)⟩
theorem gP.run : ∀ {ds : List Deed} {s : St'}, gP s → gP (runP s ds)
  | [], _, h => h
  | d :: ds, s, h => gP.run (ds := ds) (h.step (d := d))
/-- a key and its message, as data -/
def alk (b : Bk) (y : Str) : PyData := .tuple [.str y, match getB b y.cps.toList with
  | some m => dat 3 m
  | none => .none]
theorem getB_in {b : Bk} {k : List Nat} {m : Sub 3} (h : getB b k = some m) : (k, m) ∈ b := by
  unfold getB at h
  cases e : b.find? fun x => decide (x.1 = k) with
  | none => rw [e] at h; cases h
  | some y =>
    rw [e] at h
    have h2 : y.2 = m := Option.some.inj h
    have h3' := List.find?_some e
    have h3 : y.1 = k := by simpa using h3'
    have h4 := List.mem_of_find?_eq_some e
    rw [← h2, ← h3]
    exact h4
theorem alk_shw {b : Bk} (hb : bkOk b) (hp : bkP b) {ys : List Str} (hys : ∀ y ∈ ys, ∃ k m, y = S k ∧ getB b k = some m) (hl : ys.length ≤ 60) : Shw (.list (ys.map (alk b))) := by
  have each : ∀ y ∈ ys, shn (alk b y) ∧ (alk b y).depth ≤ 20 ∧ sl (alk b y) ≤ 170000 := fun y hy => by
    obtain ⟨k, m, rfl, hm⟩ := hys y hy
    have hin := getB_in hm
    obtain ⟨o1, o2⟩ := hb.2 _ hin
    have e : alk b (S k) = .tuple [.str (S k), dat 3 m] := by
      show PyData.tuple [.str (S k), match getB b (S k).cps.toList with | some m => dat 3 m | none => .none] = _
      rw [show (S k).cps.toList = k from rfl, hm]
    rw [e]
    refine ⟨shn_tup (two_mem (shn_str _) (dat_shn 3 false m o2.1)), ?_, ?_⟩
    · have := (dat_lay 3 false m o2.1).2
      show PyData.depthAll [.str (S k), dat 3 m] + 1 ≤ 20
      simp only [PyData.depthAll, PyData.depth]
      omega
    · have h1 := ln_tup [.str (S k), dat 3 m]
      have h2 := ln_str (l := k) (nm_lt o1)
      have h3 := dat_sl 3 false m o2.1 (hp _ hin)
      have h4 := o2.2
      have h5 := o1.2.1
      rw [sls_cons, sls_cons, sls_nil] at h1
      simp only at h2 h3 h4 h5
      omega
  have hall : shn (.list (ys.map (alk b))) := shn_list fun x hx => by
    obtain ⟨y, hy, rfl⟩ := List.mem_map.mp hx
    exact (each y hy).1
  refine ⟨hall.1, hall.2, ?_, ?_⟩
  · show PyData.depthAll _ + 1 ≤ 60
    have := depAll (N := 20) (l := ys.map (alk b)) fun x hx => by
      obtain ⟨y, hy, rfl⟩ := List.mem_map.mp hx
      exact (each y hy).2.1
    omega
  · have h1 := ln_list (ys.map (alk b))
    have h2 : sls (ys.map (alk b)) ≤ (ys.map (alk b)).length * 170002 := sls_le fun x hx => by
      obtain ⟨y, hy, rfl⟩ := List.mem_map.mp hx
      have := (each y hy).2.2
      omega
    rw [List.length_map] at h2
    have h3 : ys.length * 170002 ≤ 60 * 170002 := Nat.mul_le_mul_right _ hl
    show sl (.list (ys.map (alk b))) ≤ sizeLine
    rw [sizeLine_eq]
    omega
theorem deeds_shw {ds : List Deed} {n : Nat} (h : ∀ d ∈ ds, okD d ∧ plD d) (hl : ds.length ≤ 40) (hn : n ≤ 10000000) : Shw (.tuple [.list (ds.map dD), .int (n : Int)]) := by
  have hall : shn (.list (ds.map dD)) := shn_list fun x hx => by
    obtain ⟨y, hy, rfl⟩ := List.mem_map.mp hx
    exact dD_shn (h y hy).1
  have ht : shn (.tuple [.list (ds.map dD), .int (n : Int)]) := shn_tup (two_mem hall (shn_int hn))
  refine ⟨ht.1, ht.2, ?_, ?_⟩
  · show PyData.depthAll [.list (ds.map dD), .int (n : Int)] + 1 ≤ 60
    have := depAll (N := 20) (l := ds.map dD) fun x hx => by
      obtain ⟨y, hy, rfl⟩ := List.mem_map.mp hx
      exact dD_dep (h y hy).1
    simp only [PyData.depthAll, PyData.depth]
    omega
  · have h1 := ln_list (ds.map dD)
    have h2 : sls (ds.map dD) ≤ (ds.map dD).length * 170002 := sls_le fun x hx => by
      obtain ⟨y, hy, rfl⟩ := List.mem_map.mp hx
      have := dD_sl (h y hy).1 (h y hy).2
      omega
    rw [List.length_map] at h2
    have h3 : ds.length * 170002 ≤ 40 * 170002 := Nat.mul_le_mul_right _ hl
    have h4 := ln_tup [.list (ds.map dD), .int (n : Int)]
    have h5 := ln_int n hn
    rw [sls_cons, sls_cons, sls_nil] at h4
    show sl (.tuple [.list (ds.map dD), .int (n : Int)]) ≤ sizeLine
    rw [sizeLine_eq]
    omega
theorem octs_shw {l : List Nat} (h : ∀ c ∈ l, c ≤ 300) (hl : l.length ≤ 100000) : Shw (iD l) := by
  obtain ⟨h1, h2, h3⟩ := iD_shw h hl
  refine ⟨h1.1, h1.2, by omega, ?_⟩
  show sl (iD l) ≤ sizeLine
  rw [sizeLine_eq]
  omega
theorem octp_shw {l : List Nat} {n : Nat} (h : ∀ c ∈ l, c ≤ 300) (hl : l.length ≤ 100000) (hn : n ≤ 10000000) : Shw (.list [iD l, .int (n : Int)]) := by
  obtain ⟨h1, h2, h3⟩ := iD_shw h hl
  have ht : shn (.list [iD l, .int (n : Int)]) := shn_list (two_mem h1 (shn_int hn))
  refine ⟨ht.1, ht.2, ?_, ?_⟩
  · show PyData.depthAll [iD l, .int (n : Int)] + 1 ≤ 60
    simp only [PyData.depthAll]
    show max (iD l).depth (max 0 0) + 1 ≤ 60
    omega
  · have h4 := ln_list [iD l, .int (n : Int)]
    have h5 := ln_int n hn
    rw [sls_cons, sls_cons, sls_nil] at h4
    show sl (.list [iD l, .int (n : Int)]) ≤ sizeLine
    rw [sizeLine_eq]
    omega
theorem bool_shw (b : Bool) : Shw (.bool b) := by
  refine ⟨rfl, rfl, Nat.zero_le _, ?_⟩
  rw [sizeLine_eq]
  cases b <;> decide +kernel
theorem dat_shw {m : Sub 3} (h : msOk m) (hp : plain 3 m = m) : Shw (dat 3 m) := by
  have h1 := dat_shn 3 false m h.1
  have h2 := (dat_lay 3 false m h.1).2
  have h3 := dat_sl 3 false m h.1 hp
  have h4 := h.2
  refine ⟨h1.1, h1.2, by omega, ?_⟩
  show sl (dat 3 m) ≤ sizeLine
  rw [sizeLine_eq]
  omega
end Mw
/-! MxJ -/
set_option Elab.async false
set_option linter.all false
set_option maxRecDepth 100000
set_option maxHeartbeats 4000000
namespace Mw
open PySem PySem.Spec PyProof.Rows L2
section
variable {P : Program} {w : World} {K : PySem.W.Frag} {mg : Str → Option Value} {base : Heap}
def spLAlike (K : PySem.W.Frag) : Sp := fun vs H Q _ => ∃ (F : Fz) (b l wd pl : Addr) (s : St'), vs = [.ref b, .ref wd] ∧ BookAt K F H b l (stk s) ∧ WAt K F H wd pl s ∧ gS s ∧ gP s ∧ szS 50 s ∧ Live F H ∧ ∀ H', Same H H' → Q (.bl true) H'
theorem keysS {K : PySem.W.Frag} {H : Hp} {kvs : List (Key × V)} {bk : Bk} (h : Ent K H kvs bk) : kvs.map (·.1) = ((bk.map (·.1)).map S).map Sum.inr := by
  rw [h.keys, List.map_map, List.map_map, List.map_map]
  rfl
theorem sc_law_alike : FnScope ["_law_book", "_law_world_here", "_law_told", "_law_key"] ["_law_book", "_law_world_here"] (defScope s_law_alike) := ⟨rfl, rfl, rfl, by decide +kernel, rfl, by decide +kernel, by decide +kernel⟩
theorem ok_law_alike (T : Tx K mg) : OkG P w K mg base d_law_alike ["_law_book", "_law_world_here"] 2 (spLAlike K) := by
  have o_Book_messages : OkF P w K mg base d_Book_messages ["self"] 1 (spBMsgs K) := ok_Book_messages T
  have o_law_same : OkG P w K mg base d_law_same ["_law_one", "_law_other"] 1 (spLSame K) := ok_law_same T
  refine (okG T 65 (d := d_law_alike) rfl sc_law_alike (fun _ _ _ _ _ _ us hl => match us, hl with | [_, _], _ => rfl) ⟨rfl, rfl⟩ (fun vs H Q E h => ?_) (fun cdv A outer s H vs Q E hr hg h => ?_))
  · obtain ⟨F, b, l, wd, pl, s, rfl, _⟩ := h; rfl
  · obtain ⟨F, b, l, wd, pl, st, rfl, ⟨⟨dx, hb⟩, ds1, hl, hds⟩, ⟨nd, ds2, hw, hpl, hds2, kvs2, hnd, hent2⟩, hgS, hgP, hsz, lv, k⟩ := h
    have hgd : (A.deeper (envOfC d_law_alike.qual d_law_alike.scope s.heap.objs.size (He.fAd K d_law_alike.at_) cdv)).guards = some [] := hg
    refine ⟨_, (pss_cons (ps_set (i := 2) sc_law_alike.nd rfl (Or.inr rfl) (cm0 o_Book_messages T.m_Book_messages (hr.mono (by omega)) (pv 0)))
  (pss_one (ps_ret (cgG o_law_same T.g__law_same hgd (hr.mono (by omega)) (pa_cons (pe_lc (own := [("_law_key", 3)]) (g := gName 3) (tt := tYes) rfl sc_law_alike.nd (pi_list (pe_callB (call_sortedD rfl) (by rfl) T.z_sorted (by decide +kernel) (pa_cons (pv 2) pa_nil))) (blkOk_by (N := ["_law_book", "_law_world_here", "_law_told", "_law_key"]) (sc := defScope s_law_alike) (by decide +kernel)) (fun _ _ _ _ _ => (pg_name (i := 3) sc_law_alike.nd rfl (Or.inl rfl))) (fun _ _ _ _ _ => pts_nil) (fun _ _ _ _ _ => (pe_tup (pa_cons (pv 3) (pa_cons (pe_dget (hu_of hr) (pv 2) (pv 3) (fun _ _ => rfl)) pa_nil))))) (pa_cons (pe_lc (own := [("_law_key", 3)]) (g := gName 3) (tt := tYes) rfl sc_law_alike.nd (pi_list (pe_callB (call_sortedD rfl) (by rfl) T.z_sorted (by decide +kernel) (pa_cons (pe_dget (hu_of hr) (pv 1) pe_str (fun _ _ => rfl)) pa_nil))) (blkOk_by (N := ["_law_book", "_law_world_here", "_law_told", "_law_key"]) (sc := defScope s_law_alike) (by decide +kernel)) (fun _ _ _ _ _ => (pg_name (i := 3) sc_law_alike.nd rfl (Or.inl rfl))) (fun _ _ _ _ _ => pts_nil) (fun _ _ _ _ _ => (pe_tup (pa_cons (pv 3) (pa_cons (pe_dget (hu_of hr) (pe_dget (hu_of hr) (pv 1) pe_str (fun _ _ => rfl)) (pv 3) (fun _ _ => rfl)) pa_nil))))) pa_nil)))))), ?_⟩
    obtain ⟨ds, d, rfl, hd1, kvs, hd, hent⟩ := Dks.inv hds
    have hd' : H d = some (.dK kvs) := (Av_some hd).2
    have hnd' : H nd = some (.dK kvs2) := (Av_some hnd).2
    rw [List.map_append] at hl
    have hGN : ∀ {H2 : Hp}, H2 wd = some (.dK (wkv nd pl)) → DGet H2 wd (.str "now") (some (.ref nd)) := fun {H2} h => by
      rw [← wkv_now nd pl]
      exact DGet.k (k := kN) h
    refine ⟨_, rfl, b, dx, _, rfl, hb, book_no (by decide +kernel), b, l, dx, d, ds.map V.ref, kvs, rfl, hb, hl, hd', fun p hp => ?_⟩
    have s1 := same_new (o := HO.dK kvs) hp
    have hp1 : (upd H p (.dK kvs)) p = some (.dK kvs) := upd_same
    have hw1 := s1 _ _ hw
    have hnd1 := s1 _ _ hnd'
    have lv1 := lv.same s1
    have hent1 : Ent K (Av F (upd H p (.dK kvs))) kvs st.2 := hent.same (Same.av s1)
    have hent21 : Ent K (Av F (upd H p (.dK kvs))) kvs2 st.2 := hent2.same (Same.av s1)
    have s1' := s1
    generalize upd H p (.dK kvs) = H1 at *
    have zk : ((st.2.map (·.1)).map S).length < 64 := by
      rw [List.length_map, List.length_map]
      have := hsz.2.1
      omega
    -- what a dict says of a key
    have look : ∀ (kv : List (Key × V)) (Hx : Hp), Ent K (Av F Hx) kv st.2 → ∀ y, y ∈ (st.2.map (·.1)).map S → ∃ kx m v, y = S kx ∧ getB st.2 kx = some m ∧ valV kv (kk kx) = some v ∧ Dh K F Hx v (dat 3 m) := fun kv Hx he y hy => by
      obtain ⟨kx, hkx, rfl⟩ := List.mem_map.mp hy
      have h1 := getB_mem hkx
      rcases he.get (k := kx) with ⟨h2, _⟩ | ⟨m, v, h2, h3, h4⟩
      · rw [h2] at h1; cases h1
      · exact ⟨kx, m, v, rfl, h2, h3, h4⟩
    have alkS : ∀ kx m, getB st.2 kx = some m → alk st.2 (S kx) = .tuple [.str (S kx), dat 3 m] := fun kx m hm => by
      show PyData.tuple [.str (S kx), match getB st.2 (S kx).cps.toList with | some m => dat 3 m | none => .none] = _
      rw [show (S kx).cps.toList = kx from rfl, hm]
    -- the first list
    refine ⟨_, rfl, p, kvs, (st.2.map (·.1)).map S, rfl, .inl hp1, keysS hent, zk, fun ys q hperm hsort hq => ?_⟩
    have sq := same_new (o := HO.lst (ys.map V.str)) hq
    have hq1 : (upd H1 q (.lst (ys.map V.str))) q = some (.lst (ys.map V.str)) := upd_same
    refine ⟨q, rfl, ⟨_, SqL.of hq1⟩, fun D hD => ?_⟩
    generalize hH2 : upd H1 q (.lst (ys.map V.str)) = H2 at *
    have lv2 : Live F H2 := lv1.same sq
    have fD : F D = false := lv2.new hD
    have zy : ys.length < 64 := by rw [hperm.length_eq]; exact zk
    refine lc_list (K := K) (a := q) (xs := ys.map V.str) (fun i H' => ∃ acc, H' D = some (.lst acc) ∧ Same H2 H' ∧ DhA K (add F D) H' acc ((ys.take i).map (alk st.2)))
      ⟨[], upd_same, same_new hD _, .nil⟩ (fun i H' _ ⟨_, _, s2, _⟩ => SqL.of (s2 _ _ hq1)) ?_ ?_
    · rintro i x H' hi ⟨acc, hDv, s2, hacc⟩
      obtain ⟨y, hy, rfl⟩ := map_at hi
      have hiy := lt_of_at hy
      have hym := hperm.mem_iff.mp (List.mem_of_getElem? hy)
      have s12 := sq.trans s2
      obtain ⟨kx, m, v, rfl, hm, hv, hvd⟩ := look kvs H2 (hent1.same (Same.av sq)) y hym
      refine ⟨rfl, yes_t ?_⟩
      have hp3 := s12 _ _ hp1
      refine ⟨_, rfl, _, rfl, _, rfl, p, v, rfl, by rw [← hv]; exact DGet.k (k := kk kx) hp3, by show 2 ≤ sizeLine; decide, fun t ht => ?_⟩
      have st' := same_new (o := HO.tup [.str (S kx), v]) ht
      have nDt : D ≠ t := ne_of_none hDv ht
      have ft : add F D t = false := add_no (Ne.symm nDt) ((lv2.same s2).new ht)
      have lacc := DpAll.len hacc
      rw [List.length_map, List.length_take] at lacc
      refine ⟨acc, st' _ _ hDv, small_lt (by omega), acc ++ [.ref t], upd_same, same_mut (s2.trans st') hD, ?_⟩
      rw [take_more hy, List.map_append]
      refine DhA.updF (DpAll.snoc (hacc.same st') ?_) (add_self _ _)
      rw [alkS kx m hm]
      refine .tup ((Av_get ft).trans upd_same) (.cons (.str _) (.cons ?_ .nil))
      exact (hvd.new hD).same (s2.trans st')
    · rintro H3 ⟨acc, hDv, s2, hacc⟩
      rw [List.length_map, List.take_length] at hacc
      have s12 := sq.trans s2
      have hw3 := s12 _ _ hw1
      have hnd3 := s12 _ _ hnd1
      have lv3 := lv2.same s2
      refine ⟨_, rfl, wd, _, rfl, hGN hw3, nd, kvs2, (st.2.map (·.1)).map S, rfl, .inl hnd3, keysS hent2, zk, fun zs q2 hperm2 hsort2 hq2 => ?_⟩
      obtain rfl : zs = ys := sorted_one (hperm2.trans hperm.symm) hsort2 hsort
      have sq2 := same_new (o := HO.lst (zs.map V.str)) hq2
      have hq21 : (upd H3 q2 (.lst (zs.map V.str))) q2 = some (.lst (zs.map V.str)) := upd_same
      refine ⟨q2, rfl, ⟨_, SqL.of hq21⟩, fun D2 hD2 => ?_⟩
      generalize upd H3 q2 (.lst (zs.map V.str)) = H4 at *
      have lv4 : Live F H4 := lv3.same sq2
      refine lc_list (K := K) (a := q2) (xs := zs.map V.str) (fun i H' => ∃ acc, H' D2 = some (.lst acc) ∧ Same H4 H' ∧ DhA K (add F D2) H' acc ((zs.take i).map (alk st.2)))
        ⟨[], upd_same, same_new hD2 _, .nil⟩ (fun i H' _ ⟨_, _, s2, _⟩ => SqL.of (s2 _ _ hq21)) ?_ ?_
      · rintro i x H' hi ⟨acc2, hDv2, s4, hacc2⟩
        obtain ⟨y, hy, rfl⟩ := map_at hi
        have hiy := lt_of_at hy
        have hym := hperm.mem_iff.mp (List.mem_of_getElem? hy)
        have s14 := (s12.trans sq2).trans s4
        obtain ⟨kx, m, v, rfl, hm, hv, hvd⟩ := look kvs2 H4 (hent21.same (Same.av (s12.trans sq2))) y hym
        refine ⟨rfl, yes_t ?_⟩
        refine ⟨_, rfl, _, rfl, wd, _, rfl, hGN (s14 _ _ hw1), _, rfl, nd, v, rfl, by rw [← hv]; exact DGet.k (k := kk kx) (s14 _ _ hnd1), by show 2 ≤ sizeLine; decide, fun t ht => ?_⟩
        have st' := same_new (o := HO.tup [.str (S kx), v]) ht
        have nDt : D2 ≠ t := ne_of_none hDv2 ht
        have ft : add F D2 t = false := add_no (Ne.symm nDt) ((lv4.same s4).new ht)
        have lacc := DpAll.len hacc2
        rw [List.length_map, List.length_take] at lacc
        refine ⟨acc2, st' _ _ hDv2, small_lt (by omega), acc2 ++ [.ref t], upd_same, same_mut (s4.trans st') hD2, ?_⟩
        rw [take_more hy, List.map_append]
        refine DhA.updF (DpAll.snoc (hacc2.same st') ?_) (add_self _ _)
        rw [alkS kx m hm]
        exact .tup ((Av_get ft).trans upd_same) (.cons (.str _) (.cons ((hvd.new hD2).same (s4.trans st')) .nil))
      · rintro H5 ⟨acc2, hDv2, s4, hacc2⟩
        rw [List.length_map, List.take_length] at hacc2
        have s35 := sq2.trans s4
        have d1 : L2.Dp K H5 (.ref D) (.list (zs.map (alk st.2))) := Dp.to _ _ (.lst (s35 _ _ hDv) (DhA.out (hacc.same s35)))
        have d2 : L2.Dp K H5 (.ref D2) (.list (zs.map (alk st.2))) := Dp.to _ _ (.lst hDv2 (DhA.out hacc2))
        refine ⟨_, _, _, rfl, d1, d2, .inl ⟨_, rfl⟩, .inl ⟨_, rfl⟩, alk_shw hgS.1 hgP.1 (fun y hy => ?_) (by have := hsz.2.1; rw [hperm.length_eq, List.length_map, List.length_map]; omega), k H5 ((s1'.trans s12).trans s35)⟩
        obtain ⟨kx, m, v, h1, h2, _⟩ := look kvs H2 (hent1.same (Same.av sq)) y (hperm.mem_iff.mp hy)
        exact ⟨kx, m, h1, h2⟩
end
end Mw
/-! MxK -/
set_option Elab.async false
set_option linter.all false
set_option maxRecDepth 100000
set_option maxHeartbeats 4000000
namespace Mw
/-! ## mathematics of cuts -/
def odd3 (x : Nat) : Prop := x = 170 ∨ x = 0 ∨ x = 255
theorem odd_ch {x : Nat} (h : odd3 x) : ¬ chOk x := by unfold odd3 at h; unfold chOk; omega
theorem bd_last {d : Deed} (hd : okD d) {x : Nat} (hx : odd3 x) : Bd ((bodyN d).dropLast ++ [x]) none := by
  have hb := odd_ch hx
  cases d with
  | undo =>
    unfold odd3 at hx
    exact .one x (by omega) (by omega) (by omega)
  | drop k =>
    have h1 := hd.1
    have h2 := hd.2.1
    have e : (bodyN (.drop k)).dropLast ++ [x] = 2 :: (k.dropLast ++ [x]) := by
      show (2 :: k).dropLast ++ [x] = _
      cases k with
      | nil => simp at h1
      | cons a r => simp
    rw [e]
    exact .drop _ (by simp; omega) ⟨x, by simp, hb⟩
  | put k m =>
    have h1 := hd.1.1
    have h2 := hd.1.2.1
    have h3 := hd.2.2
    by_cases h0 : fmt 3 m = []
    · have e : (bodyN (.put k m)).dropLast ++ [x] = 1 :: (k.dropLast ++ [x]).length :: (k.dropLast ++ [x]) := by
        show (1 :: k.length :: (k ++ fmt 3 m)).dropLast ++ [x] = _
        rw [h0, List.append_nil]
        cases k with
        | nil => simp at h1
        | cons a r => simp
      rw [e]
      exact .put2 _ (by simp; omega) ⟨x, by simp, hb⟩
    · have e : (bodyN (.put k m)).dropLast ++ [x] = 1 :: k.length :: (k ++ ((fmt 3 m).dropLast ++ [x])) := by
        show (1 :: k.length :: (k ++ fmt 3 m)).dropLast ++ [x] = _
        have hne : k ++ fmt 3 m ≠ [] := by simp [h0]
        rw [List.dropLast_cons_of_ne_nil (by simp), List.dropLast_cons_of_ne_nil hne, List.dropLast_append_of_ne_nil h0]
        simp
      rw [e]
      exact .put1 k _ hd.1 (by simp; omega) ⟨x, by simp, hb⟩
theorem dead_odd {b : List Nat} (h : ∀ x ∈ b, odd3 x) (hl : b.length ≤ 3) : Dead b := by
  match b, hl with
  | [], _ => exact .short _ (by simp)
  | [x], _ => exact .short _ (by simp)
  | x :: y :: r, hl =>
    simp only [List.length_cons] at hl
    exact .long x y r (by omega)
/-- one record cut, and odd octets behind -/
theorem rec_cut {d : Deed} (hd : okD d) (hp : plD d) {c : Nat} (hc : c < (recN d).length) {b : List Nat} (hb : ∀ x ∈ b, odd3 x) (hl : b.length ≤ 3) :
    Dead ((recN d).take c ++ b) ∨ ∃ b', (recN d).take c ++ b = recN d ++ b' ∧ Dead b' := by
  have hbl := body_len hd
  have hne : 1 ≤ (bodyN d).length := by cases d <;> simp [bodyN]
  have erec : recN d = (bodyN d).length / 256 :: (bodyN d).length % 256 :: (bodyN d ++ [(bodyN d).sum % 256, 170]) := rfl
  have hgood : Bd (bodyN d) (some d) := .good d hd hp
  have hlast : ∀ x, odd3 x → Bd ((bodyN d).dropLast ++ [x]) none := fun x hx => bd_last hd hx
  rw [erec] at hc ⊢
  generalize bodyN d = body at *
  have hL : body.length / 256 * 256 + body.length % 256 = body.length := by omega
  generalize hhi : body.length / 256 = hi at *
  generalize hlo : body.length % 256 = lo at *
  have hrl : (hi :: lo :: (body ++ [body.sum % 256, 170])).length = body.length + 4 := by simp
  rw [hrl] at hc
  match c with
  | 0 => exact .inl (by rw [List.take_zero, List.nil_append]; exact dead_odd hb hl)
  | 1 =>
    refine .inl ?_
    show Dead ([hi] ++ b)
    match b, hl with
    | [], _ => exact .short _ (by simp)
    | y :: r, hl =>
      simp only [List.length_cons] at hl
      by_cases h0 : hi * 256 + y = 0
      · match r, hl with
        | [], _ => exact .long hi y [] (by simp)
        | [s], _ => exact .long hi y [s] (by simp)
        | [s, m], _ => exact .bad hi y [] s m [] none h0 (by simp) .nil (.inr (.inr rfl))
        | _ :: _ :: _ :: _, hl => simp at hl
      · exact .long hi y r (by omega)
  | c + 2 =>
    have e : (hi :: lo :: (body ++ [body.sum % 256, 170])).take (c + 2) ++ b = hi :: lo :: ((body ++ [body.sum % 256, 170]).take c ++ b) := rfl
    rw [e]
    have hrlen : ((body ++ [body.sum % 256, 170]).take c ++ b).length = c + b.length := by
      rw [List.length_append, List.length_take, List.length_append]
      simp
      omega
    by_cases hlong : c + b.length < body.length + 2
    · exact .inl (.long hi lo _ (by rw [hrlen, hL]; exact hlong))
    · have hcases : c = body.length + 1 ∨ c = body.length ∨ c + 1 = body.length := by omega
      rcases hcases with rfl | rfl | hc1
      · -- the mark is missing
        have et : (body ++ [body.sum % 256, 170]).take (body.length + 1) = body ++ [body.sum % 256] := by
          rw [List.take_append, List.take_of_length_le (by omega : body.length ≤ body.length + 1), show body.length + 1 - body.length = 1 by omega]
          rfl
        rw [et]
        match b, hl with
        | [], _ => simp at hlong
        | m :: rest, hl =>
          by_cases hm : m = 170
          · subst hm
            refine .inr ⟨rest, by simp, dead_odd (fun x hx => hb x (List.mem_cons_of_mem _ hx)) (by simp only [List.length_cons] at hl; omega)⟩
          · refine .inl ?_
            have e2 : (body ++ [body.sum % 256]) ++ m :: rest = body ++ body.sum % 256 :: m :: rest := by simp
            rw [e2]
            exact .bad hi lo body _ m rest (some d) hL (by omega) hgood (.inl hm)
      · have et : (body ++ [body.sum % 256, 170]).take body.length = body := by rw [List.take_left]
        rw [et]
        match b, hl with
        | [], _ => simp at hlong
        | [_], _ => simp at hlong
        | s :: m :: rest, hl =>
          by_cases hm : m = 170 ∧ s = body.sum % 256
          · obtain ⟨rfl, rfl⟩ := hm
            refine .inr ⟨rest, by simp, dead_odd (fun x hx => hb x (by simp [hx])) (by simp only [List.length_cons] at hl; omega)⟩
          · refine .inl (.bad hi lo body s m rest (some d) hL (by omega) hgood ?_)
            by_cases h1 : m = 170
            · exact .inr (.inl fun h2 => hm ⟨h1, h2⟩)
            · exact .inl h1
      · have et : (body ++ [body.sum % 256, 170]).take c = body.dropLast := by
          rw [List.take_append_of_le_length (by omega), List.dropLast_eq_take, ← hc1]
          rfl
        rw [et]
        match b, hl with
        | [], _ => simp at hlong; omega
        | [_], _ => simp at hlong; omega
        | [_, _], _ => simp at hlong; omega
        | [x, s, m], _ =>
          refine .inl ?_
          have e2 : body.dropLast ++ [x, s, m] = (body.dropLast ++ [x]) ++ s :: m :: [] := by simp
          rw [e2]
          have hl2 : (body.dropLast ++ [x]).length = body.length := by simp; omega
          exact .bad hi lo _ s m [] none (by rw [hL, hl2]) (by rw [hl2]; omega) (hlast x (hb x (by simp))) (.inr (.inr rfl))
        | _ :: _ :: _ :: _ :: _, hl => simp at hl
end Mw
/-! MxL -/
set_option Elab.async false
set_option linter.all false
set_option maxRecDepth 100000
set_option maxHeartbeats 4000000
namespace Mw
/-- where the i-th record begins -/
def endN (ds : List Deed) (i : Nat) : Nat := (recsN (ds.take i)).length
theorem endN_zero (ds : List Deed) : endN ds 0 = 0 := rfl
theorem endN_succ (d : Deed) (r : List Deed) (i : Nat) : endN (d :: r) (i + 1) = (recN d).length + endN r i := by
  show (recN d ++ recsN (r.take i)).length = _
  rw [List.length_append]
  rfl
theorem endN_all (ds : List Deed) : endN ds ds.length = (recsN ds).length := by unfold endN; rw [List.take_length]
/-- the rows of records, cut anywhere -/
theorem cut_at : ∀ (ds : List Deed) (cut : Nat), cut ≤ (recsN ds).length → ∃ j t, j ≤ ds.length ∧ (recsN ds).take cut = recsN (ds.take j) ++ t ∧
    ((j = ds.length ∧ t = []) ∨ ∃ d c, ds[j]? = some d ∧ c < (recN d).length ∧ t = (recN d).take c) ∧ ∀ i, i ≤ ds.length → (endN ds i ≤ cut ↔ i ≤ j)
  | [], cut, h => ⟨0, [], Nat.le_refl _, by simp [recsN], .inl ⟨rfl, rfl⟩, fun i hi => by
      have : i = 0 := by simpa using hi
      subst this
      simp [endN, recsN]⟩
  | d :: r, cut, h => by
    have e : recsN (d :: r) = recN d ++ recsN r := rfl
    by_cases hc : cut < (recN d).length
    · refine ⟨0, (recN d).take cut, Nat.zero_le _, ?_, .inr ⟨d, cut, rfl, hc, rfl⟩, fun i hi => ?_⟩
      · rw [e, List.take_append_of_le_length (by omega)]
        rfl
      · cases i with
        | zero => simp [endN_zero]
        | succ i =>
          rw [endN_succ]
          constructor
          · intro h; omega
          · intro h; omega
    · rw [e, List.length_append] at h
      obtain ⟨j, t, h1, h2, h3, h4⟩ := cut_at r (cut - (recN d).length) (by omega)
      refine ⟨j + 1, t, by simpa using h1, ?_, ?_, fun i hi => ?_⟩
      · rw [e, List.take_append, List.take_of_length_le (by omega : (recN d).length ≤ cut), h2]
        show _ = recN d ++ recsN (r.take j) ++ t
        rw [List.append_assoc]
      · rcases h3 with ⟨h5, h6⟩ | h5
        · exact .inl ⟨by rw [h5]; rfl, h6⟩
        · exact .inr h5
      · cases i with
        | zero => simp [endN_zero]
        | succ i =>
          have := h4 i (by simpa using hi)
          rw [endN_succ]
          omega
/-- .. with odd octets behind: again a row of records and a dead tail -/
theorem cut_odd {ds : List Deed} (hok : ∀ d ∈ ds, okD d ∧ plD d) {cut : Nat} (hc : cut ≤ (recsN ds).length) {b : List Nat} (hb : ∀ x ∈ b, odd3 x) (hl : b.length ≤ 3) :
    ∃ j t, j ≤ ds.length ∧ (recsN ds).take cut ++ b = recsN (ds.take j) ++ t ∧ Dead t := by
  obtain ⟨j, t, h1, h2, h3, h4⟩ := cut_at ds cut hc
  rcases h3 with ⟨h5, h6⟩ | ⟨d, c, hd, hcl, rfl⟩
  · refine ⟨j, b, h1, by rw [h2, h6, List.append_nil], dead_odd hb hl⟩
  · have hm := hok d (List.mem_of_getElem? hd)
    have hjl := lt_of_at hd
    rcases rec_cut hm.1 hm.2 hcl hb hl with h7 | ⟨b', h7, h8⟩
    · exact ⟨j, _, h1, by rw [h2, List.append_assoc], h7⟩
    · refine ⟨j + 1, b', hjl, ?_, h8⟩
      have e : recsN (ds.take (j + 1)) = recsN (ds.take j) ++ recN d := flat_take hd
      rw [h2, List.append_assoc, h7, e, List.append_assoc]
/-- .. with nothing behind: the records that stand whole -/
theorem cut_clean {ds : List Deed} (hok : ∀ d ∈ ds, okD d ∧ plD d) {cut : Nat} (hc : cut ≤ (recsN ds).length) :
    ∃ j t, j ≤ ds.length ∧ (recsN ds).take cut = recsN (ds.take j) ++ t ∧ Dead t ∧ ∀ i, i ≤ ds.length → (endN ds i ≤ cut ↔ i ≤ j) := by
  obtain ⟨j, t, h1, h2, h3, h4⟩ := cut_at ds cut hc
  rcases h3 with ⟨h5, h6⟩ | ⟨d, c, hd, hcl, rfl⟩
  · exact ⟨j, t, h1, h2, by rw [h6]; exact .short _ (by simp), h4⟩
  · have hm := hok d (List.mem_of_getElem? hd)
    rcases rec_cut (b := []) hm.1 hm.2 hcl (fun x hx => by cases hx) (by simp) with h7 | ⟨b', h7, h8⟩
    · rw [List.append_nil] at h7
      exact ⟨j, _, h1, h2, h7, h4⟩
    · rw [List.append_nil] at h7
      have := congrArg List.length h7
      rw [List.length_take, List.length_append] at this
      omega
/-- how many ends lie at or ahead of the cut -/
theorem ends_count (ds : List Deed) (cut j : Nat) (hj : j ≤ ds.length) (h : ∀ i, i ≤ ds.length → (endN ds i ≤ cut ↔ i ≤ j)) :
    (((List.range (ds.length + 1)).map (endN ds)).filter fun e => decide (e ≤ cut)).length = j + 1 := by
  rw [List.filter_map, List.length_map]
  have e : (List.range (ds.length + 1)).filter ((fun e => decide (e ≤ cut)) ∘ endN ds) = (List.range (ds.length + 1)).filter fun i => decide (i ≤ j) := by
    refine List.filter_congr fun i hi => ?_
    have := h i (by have := List.mem_range.mp hi; omega)
    show decide (endN ds i ≤ cut) = decide (i ≤ j)
    by_cases h2 : i ≤ j
    · rw [decide_eq_true h2, decide_eq_true (this.mpr h2)]
    · rw [decide_eq_false h2, decide_eq_false fun h3 => h2 (this.mp h3)]
  rw [e]
  have h2 : ∀ n, j < n → ((List.range n).filter fun i => decide (i ≤ j)).length = j + 1 := by
    intro n
    induction n with
    | zero => intro h; omega
    | succ n ih =>
      intro hn
      rw [List.range_succ, List.filter_append, List.length_append]
      by_cases h3 : j < n
      · rw [ih h3]
        have : ¬ n ≤ j := by omega
        simp [this]
      · have e2 : n = j := by omega
        subst e2
        have e3 : (List.range n).filter (fun i => decide (i ≤ n)) = List.range n := List.filter_eq_self.mpr fun i hi => decide_eq_true (by have := List.mem_range.mp hi; omega)
        rw [e3]
        simp
  exact h2 _ (by omega)
end Mw
/-! MxM -/
set_option Elab.async false
set_option linter.all false
set_option maxRecDepth 100000
set_option maxHeartbeats 4000000
namespace Mw
open PySem PySem.Spec PyProof.Rows L2
theorem body_pln (d : Deed) : bodyN (plnD d) = bodyN d := by
  cases d with
  | put k m => show 1 :: k.length :: (k ++ fmt 3 (plain 3 m)) = _; rw [fmt_plain]; rfl
  | drop k => rfl
  | undo => rfl
theorem rec_pln (d : Deed) : recN (plnD d) = recN d := by unfold recN; rw [body_pln]
theorem recs_pln : ∀ ds : List Deed, recsN (ds.map plnD) = recsN ds
  | [] => rfl
  | d :: r => by
    have ih := recs_pln r
    show recN (plnD d) ++ recsN (r.map plnD) = recN d ++ recsN r
    rw [ih, rec_pln]
theorem ok_pln {d : Deed} (h : okD d) : okD (plnD d) ∧ plD (plnD d) := by
  cases d with
  | put k m => exact ⟨⟨h.1, okp 3 false m h.2.1, by rw [fmt_plain]; exact h.2.2⟩, plain_idem 3 m⟩
  | drop k => exact ⟨h, trivial⟩
  | undo => exact ⟨h, trivial⟩
theorem step_pln (s : St') (d : Deed) : stepP s (plnD d) = stepP s d := by
  cases d with
  | put k m => show (s.1 ++ [s.2], putB s.2 k (plain 3 (plain 3 m))) = _; rw [plain_idem]; rfl
  | drop k => rfl
  | undo => rfl
theorem can_pln {s : St'} {d : Deed} (h : canD s d) : canD s (plnD d) := by
  refine ⟨(ok_pln h.1).1, ?_, ?_⟩
  · cases d with
    | put k m => trivial
    | drop k => exact h.2.1
    | undo => exact h.2.1
  · cases d with
    | put k m => exact fun e => nomatch e
    | drop k => exact fun e => nomatch e
    | undo => exact h.2.2
theorem canR_pln : ∀ {ds : List Deed} {s : St'}, canR s ds → canR s (ds.map plnD)
  | [], _, _ => trivial
  | d :: r, s, h => by
    refine ⟨can_pln h.1, ?_⟩
    rw [step_pln]
    exact canR_pln h.2
theorem canR_take {ds : List Deed} {s : St'} (h : canR s ds) (n : Nat) : canR s (ds.take n) := by
  have e : ds = ds.take n ++ ds.drop n := (List.take_append_drop n ds).symm
  rw [e] at h
  exact (canR_app.mp h).1
theorem pln_id {d : Deed} (h : plD d) : plnD d = d := by
  cases d with
  | put k m =>
    have h2 : plain 3 m = m := h
    show Deed.put k (plain 3 m) = _
    rw [h2]
  | drop k => rfl
  | undo => rfl
theorem pln_map_id : ∀ {ds : List Deed}, (∀ d ∈ ds, plD d) → ds.map plnD = ds
  | [], _ => rfl
  | d :: r, h => by
    rw [List.map_cons, pln_id (h d List.mem_cons_self), pln_map_id fun x hx => h x (List.mem_cons_of_mem _ hx)]
/-- the places of a run: box, journaled book, book, its list, device, its list, world, its past, rows -/
structure Pl where
  x : Addr
  jb : Addr
  b : Addr
  l : Addr
  dv : Addr
  o : Addr
  wd : Addr
  pl : Addr
  D : Addr
/-- they are apart, and what changes is hidden -/
structure PlOk (FF : Fz) (g : Pl) : Prop where
  fx : FF g.x = true
  fl : FF g.l = true
  fdv : FF g.dv = true
  fo : FF g.o = true
  fwd : FF g.wd = true
  fpl : FF g.pl = true
  fD : FF g.D = true
  xl : g.x ≠ g.l
  xdv : g.x ≠ g.dv
  xo : g.x ≠ g.o
  xwd : g.x ≠ g.wd
  xpl : g.x ≠ g.pl
  xD : g.x ≠ g.D
  lwd : g.l ≠ g.wd
  lpl : g.l ≠ g.pl
  lD : g.l ≠ g.D
  dvwd : g.dv ≠ g.wd
  dvpl : g.dv ≠ g.pl
  dvD : g.dv ≠ g.D
  owd : g.o ≠ g.wd
  opl : g.o ≠ g.pl
  oD : g.o ≠ g.D
  wdpl : g.wd ≠ g.pl
  wdD : g.wd ≠ g.D
  plD : g.pl ≠ g.D
  jx : g.jb ≠ g.x
  jwd : g.jb ≠ g.wd
  jpl : g.jb ≠ g.pl
  jD : g.jb ≠ g.D
  bx : g.b ≠ g.x
  bwd : g.b ≠ g.wd
  bpl : g.b ≠ g.pl
  bD : g.b ≠ g.D
structure GS (K : PySem.W.Frag) (FF : Fz) (H0 : Hp) (g : Pl) (H : Hp) (sb sw : St') (X : List Nat) (pw : Int) (vs : List V) (rows : List Deed) : Prop where
  box : BoxAt FF H g.x
  bk : BookAt K FF H g.b g.l (stk sb)
  wo : WAt K FF H g.wd g.pl sw
  j : JAt K H g.jb g.b g.dv
  de : DevAt K H g.dv g.o X pw
  ro : H g.D = some (.lst vs)
  rd : DhA K FF H vs (rows.map dD)
  lv : Live FF H
  kp : Kp (only g.x) H0 H
section
variable {K : PySem.W.Frag} {FF : Fz} {H0 H H' : Hp} {g : Pl} {sb sw : St'} {X : List Nat} {pw : Int} {vs : List V} {rows : List Deed}
theorem Live.keep {F G : Fz} {H H' : Hp} (l : Live F H) (k : Kp G H H') (hG : ∀ z, G z = true → H' z ≠ none) : Live F H' := fun z hz hn => by
  cases e : G z with
  | true => exact hG z e hn
  | false =>
    cases q : H z with
    | none => exact l z hz q
    | some o => rw [k z o e q] at hn; cases hn
theorem GS.same (S : GS K FF H0 g H sb sw X pw vs rows) (s : Same H H') : GS K FF H0 g H' sb sw X pw vs rows := by
  obtain ⟨dxj, hj⟩ := S.j
  obtain ⟨⟨dxd, hd⟩, ho⟩ := S.de
  exact ⟨S.box.same s, S.bk.same s, S.wo.same s, ⟨dxj, s _ _ hj⟩, ⟨⟨dxd, s _ _ hd⟩, s _ _ ho⟩, s _ _ S.ro, S.rd.same s, S.lv.same s, S.kp.trans (Kp.of s)⟩
/-- the box has been drawn from -/
theorem GS.draw (S : GS K FF H0 g H sb sw X pw vs rows) (O : PlOk FF g) (k : Kp (only g.x) H H') (hb : BoxAt FF H' g.x) : GS K FF H0 g H' sb sw X pw vs rows := by
  obtain ⟨dxj, hj⟩ := S.j
  obtain ⟨⟨dxd, hd⟩, ho⟩ := S.de
  have kF := k.toF O.fx
  exact ⟨hb, S.bk.kp kF (fun o h => k.at_ O.bx h) (fun o h => k.at_ (Ne.symm O.xl) h), S.wo.kp kF (fun o h => k.at_ (Ne.symm O.xwd) h) (fun o h => k.at_ (Ne.symm O.xpl) h), ⟨dxj, k.at_ O.jx hj⟩, ⟨⟨dxd, k.at_ (Ne.symm O.xdv) hd⟩, k.at_ (Ne.symm O.xo) ho⟩, k.at_ (Ne.symm O.xD) S.ro, S.rd.kp kF, S.lv.kp k hb.live, S.kp.trans k⟩
/-- the world has gone on -/
theorem GS.due (S : GS K FF H0 g H sb sw X pw vs rows) (O : PlOk FF g) {sw' : St'} (hwn : H0 g.wd = none) (hpn : H0 g.pl = none) (k : Kp (add (only g.wd) g.pl) H H') (hw : WAt K FF H' g.wd g.pl sw') : GS K FF H0 g H' sb sw' X pw vs rows := by
  obtain ⟨dxj, hj⟩ := S.j
  obtain ⟨⟨dxd, hd⟩, ho⟩ := S.de
  have hG : ∀ z, add (only g.wd) g.pl z = true → z = g.wd ∨ z = g.pl := fun z hz => by
    by_cases e1 : z = g.wd
    · exact .inl e1
    · by_cases e2 : z = g.pl
      · exact .inr e2
      · rw [add_no e2 (only_no e1)] at hz; cases hz
  have hGF : ∀ z, add (only g.wd) g.pl z = true → FF z = true := fun z hz => by
    rcases hG z hz with e | e
    · rw [e]; exact O.fwd
    · rw [e]; exact O.fpl
  have kF : Kp FF H H' := k.mono hGF
  have at' : ∀ {z u}, z ≠ g.wd → z ≠ g.pl → H z = some u → H' z = some u := fun {z u} h1 h2 h => k z u (add_no h2 (only_no h1)) h
  obtain ⟨_, _, hw1, hw2, _, _⟩ := id hw
  refine ⟨S.box.kp k (add_no O.xpl (only_no O.xwd)) hGF, S.bk.kp kF (fun o h => at' O.bwd O.bpl h) (fun o h => at' O.lwd O.lpl h), hw, ⟨dxj, at' O.jwd O.jpl hj⟩, ⟨⟨dxd, at' O.dvwd O.dvpl hd⟩, at' O.owd O.opl ho⟩, at' (Ne.symm O.wdD) (Ne.symm O.plD) S.ro, S.rd.kp kF, S.lv.keep k fun z hz => ?_, fun z u hz hu => at' (ne_of_none hu hwn) (ne_of_none hu hpn) (S.kp z u hz hu)⟩
  rcases hG z hz with e | e
  · rw [e, hw1]; simp
  · rw [e, hw2]; simp
/-- the rows have grown -/
theorem GS.row (S : GS K FF H0 g H sb sw X pw vs rows) (O : PlOk FF g) (hDn : H0 g.D = none) {v : V} {d : Deed} (hv : Dh K FF H v (dD d)) : GS K FF H0 g (upd H g.D (.lst (vs ++ [v]))) sb sw X pw (vs ++ [v]) (rows ++ [d]) := by
  obtain ⟨dxj, hj⟩ := S.j
  obtain ⟨⟨dxd, hd⟩, ho⟩ := S.de
  have kF : Kp FF H (upd H g.D (.lst (vs ++ [v]))) := (Kp.refl _ _).upd O.fD
  refine ⟨S.box.mut O.fD (Ne.symm O.xD), S.bk.kp kF (fun o h => by rw [upd_ne O.bD]; exact h) (fun o h => by rw [upd_ne O.lD]; exact h), S.wo.kp kF (fun o h => by rw [upd_ne O.wdD]; exact h) (fun o h => by rw [upd_ne O.plD]; exact h), ⟨dxj, by rw [upd_ne O.jD]; exact hj⟩, ⟨⟨dxd, by rw [upd_ne O.dvD]; exact hd⟩, by rw [upd_ne O.oD]; exact ho⟩, upd_same, ?_, S.lv.upd, S.kp.mut hDn⟩
  rw [List.map_append]
  exact DhA.updF (DpAll.snoc S.rd hv) O.fD
/-- the journaled book has performed -/
theorem GS.perf (S : GS K FF H0 g H sb sw X pw vs rows) (O : PlOk FF g) (hln : H0 g.l = none) (hon : H0 g.o = none) (hdn : H0 g.dv = none) {sb' : St'} {X' : List Nat} {pw' : Int} (k : Kp (F3 g.l g.o g.dv) H H') (hb : BookAt K FF H' g.b g.l (stk sb')) (hd : DevAt K H' g.dv g.o X' pw') : GS K FF H0 g H' sb' sw X' pw' vs rows := by
  have ap := apart S.j S.bk S.de
  obtain ⟨dxj, hj⟩ := S.j
  have hGF : ∀ z, F3 g.l g.o g.dv z = true → FF z = true := F3_sub O.fl O.fo O.fdv
  have kF : Kp FF H H' := k.mono hGF
  have at' : ∀ {z u}, z ≠ g.l → z ≠ g.o → z ≠ g.dv → H z = some u → H' z = some u := fun {z u} h1 h2 h3 h => k z u (F3_no h1 h2 h3) h
  obtain ⟨_, _, hl', _⟩ := id hb
  obtain ⟨⟨_, hd'⟩, ho'⟩ := id hd
  refine ⟨S.box.kp k (F3_no O.xl O.xo O.xdv) hGF, hb, S.wo.kp kF (fun o h => at' (Ne.symm O.lwd) (Ne.symm O.owd) (Ne.symm O.dvwd) h) (fun o h => at' (Ne.symm O.lpl) (Ne.symm O.opl) (Ne.symm O.dvpl) h), ⟨dxj, at' ap.jl ap.jo ap.jd hj⟩, hd, at' (Ne.symm O.lD) (Ne.symm O.oD) (Ne.symm O.dvD) S.ro, S.rd.kp kF, S.lv.keep k fun z hz => ?_, fun z u hz hu => at' (ne_of_none hu hln) (ne_of_none hu hon) (ne_of_none hu hdn) (S.kp z u hz hu)⟩
  by_cases e1 : z = g.l
  · rw [e1, hl']; simp
  · by_cases e2 : z = g.o
    · rw [e2, ho']; simp
    · by_cases e3 : z = g.dv
      · rw [e3, hd']; simp
      · rw [F3_no e1 e2 e3] at hz; cases hz
end
/-- what a deed answers is a truth value or a message, and is shown whole -/
theorem ret_shw {K : PySem.W.Frag} {H : Hp} {v : V} {s : St'} {d : Deed} (h : Dp K H v (retD s.1 s.2 d)) (hc : canD s d) (hg : gS s) (hp : gP s) : ((∃ p, v = .ref p) ∨ ∃ b, v = .bl b) ∧ Shw (retD s.1 s.2 d) := by
  cases d with
  | put k m =>
    have h' : Dp K H v (.bool (getB s.2 k).isSome) := h
    cases h'
    exact ⟨.inr ⟨_, rfl⟩, bool_shw _⟩
  | undo =>
    have h' : Dp K H v (.bool (!decide (s.1 = []))) := h
    cases h'
    exact ⟨.inr ⟨_, rfl⟩, bool_shw _⟩
  | drop k =>
    obtain ⟨m, hm⟩ := Option.isSome_iff_exists.mp (show (getB s.2 k).isSome = true from hc.2.1)
    have e : retD s.1 s.2 (.drop k) = dat 3 m := by
      show (match getB s.2 k with | some m => dat 3 m | none => .none) = _
      rw [hm]
    rw [e] at h ⊢
    obtain ⟨r, rfl⟩ := dat_ref h
    have hin := getB_in hm
    exact ⟨.inl ⟨_, rfl⟩, dat_shw (hg.1.2 _ hin).2 (hp.1 _ hin)⟩
section
variable {P : Program} {w : World} {K : PySem.W.Frag} {mg : Str → Option Value} {base : Heap}
def spLGoesOn (K : PySem.W.Frag) : Sp := fun vs H Q _ => ∃ (F : Fz) (x a : Addr) (ds : List Deed) (t : List Nat), vs = [.ref x, .ref a] ∧ BoxAt F H x ∧ F x = true ∧ Live F H ∧ H a = some (.lst (ocs (recsN ds ++ t))) ∧ a ≠ x ∧ (∀ d ∈ ds, okD d ∧ plD d) ∧ Dead t ∧ ds.length ≤ 20 ∧ (recsN ds ++ t).length ≤ 70000 ∧ canR s00 ds ∧
  ∀ H', Kp (only x) H H' → BoxAt F H' x → Q (.bl true) H'
theorem sc_law_goes_on : FnScope ["_law_box_here", "_law_octets_here", "_law_rows_here", "_law_many", "_law_power", "_law_journaled", "_law_world_here", "_law_deed_here", "_law_turn", "_law_due_here"] ["_law_box_here", "_law_octets_here"] (defScope s_law_goes_on) := ⟨rfl, rfl, rfl, by decide +kernel, rfl, by decide +kernel, by decide +kernel⟩
theorem ok_law_goes_on (T : Tx K mg) : OkG P w K mg base d_law_goes_on ["_law_box_here", "_law_octets_here"] 22 (spLGoesOn K) := by
  have o_law_read : OkF P w K mg base d_law_read ["_law_octets_here"] 14 (spLRead K) := ok_law_read T
  have o_law_draw : OkF P w K mg base d_law_draw ["_law_box_here", "_law_many"] 1 spDraw := ok_law_draw T
  have o_opened : OkF P w K mg base d_opened ["octets", "power"] 21 (spOpened K) := ok_opened T
  have o_law_world : OkF P w K mg base d_law_world [] 1 (spLWorld K) := ok_law_world T
  have o_law_due : OkF P w K mg base d_law_due ["_law_world_here", "_law_deed_here"] 5 (spLDue K) := ok_law_due T
  have o_law_alike : OkG P w K mg base d_law_alike ["_law_book", "_law_world_here"] 2 (spLAlike K) := ok_law_alike T
  have o_law_same : OkG P w K mg base d_law_same ["_law_one", "_law_other"] 1 (spLSame K) := ok_law_same T
  have o_law_deed : OkF P w K mg base d_law_deed ["_law_box_here", "_law_world_here", "_law_odd"] 6 (spLDeed K) := ok_law_deed T
  have o_JournaledBook_perform : OkF P w K mg base d_JournaledBook_perform ["self", "deed"] 13 (spJPerf K) := ok_JB_perform T
  have o_law_octets : OkF P w K mg base d_law_octets ["_law_rows_here"] 6 (spLOctets K) := ok_law_octets T
  have o_recovered : OkF P w K mg base d_recovered ["octets"] 20 (spRecovered K) := ok_recovered T
  have o_law_plainly : OkF P w K mg base d_law_plainly ["_law_deeds"] 5 (spLPlainly K) := ok_law_plainly T
  refine (okG T 69 (d := d_law_goes_on) rfl sc_law_goes_on (fun _ _ _ _ _ _ us hl => match us, hl with | [_, _], _ => rfl) ⟨rfl, rfl⟩ (fun vs H Q E h => ?_) (fun cdv A outer s H vs Q E hr hg h => ?_))
  · obtain ⟨F, x, a, ds, t, rfl, _⟩ := h; rfl
  · obtain ⟨F, x, a, ds, t, rfl, hb, hF, lv, ha, nax, hok, hdead, zd, hz, hcan, k⟩ := h
    have hgd : (A.deeper (envOfC d_law_goes_on.qual d_law_goes_on.scope s.heap.objs.size (He.fAd K d_law_goes_on.at_) cdv)).guards = some [] := hg
    refine ⟨_, (pss_cons (ps_asg (cg o_law_read T.g__law_read (hr.mono (by omega)) (pa_cons (pv 1) pa_nil)) (pg_tup rfl (pgs_cons (pg_name (i := 2) sc_law_goes_on.nd rfl (Or.inl rfl)) (pgs_cons (pg_name (i := 3) sc_law_goes_on.nd rfl (Or.inl rfl)) pgs_nil))))
  (pss_cons (ps_set (i := 4) sc_law_goes_on.nd rfl (Or.inl rfl) (pe_op op_add (cg o_law_draw T.g__law_draw (hr.mono (by omega)) (pa_cons (pv 0) (pa_cons pe_int pa_nil))) pe_int))
  (pss_cons (ps_set (i := 5) sc_law_goes_on.nd rfl (Or.inl rfl) (cg o_opened T.g_opened (hr.mono (by omega)) (pa_cons (pe_callTy call_list_of (by rfl) T.z_list (by decide +kernel) (pa_cons (pv 1) pa_nil)) (pa_cons (pv 4) pa_nil))))
  (pss_cons (ps_set (i := 6) sc_law_goes_on.nd rfl (Or.inl rfl) (cg0 o_law_world T.g__law_world (hr.mono (by omega))))
  (pss_cons (ps_for PassesOwn.never rfl (pi_list (pv 2)) (pg_name (i := 7) sc_law_goes_on.nd rfl (Or.inl rfl))
  (pss_one (ps_expr (cg o_law_due T.g__law_due (hr.mono (by omega)) (pa_cons (pv 6) (pa_cons (pv 7) pa_nil))))))
  (pss_cons (ps_if (PW.pt (pw_or (pt_not (pt_val (cgG o_law_alike T.g__law_alike hgd (hr.mono (by omega)) (pa_cons (pe_fld (pv 5) rfl) (pa_cons (pv 6) pa_nil))))) (pw_or1 (pt_cmpR op_isnot_bl (pe_fld (pv 5) rfl) pe_bl (nomark _)))))
  (pss_one (ps_ret pe_bl))
  pss_nil)
  (pss_cons (ps_if (pt_not (pt_val (cgG o_law_same T.g__law_same hgd (hr.mono (by omega)) (pa_cons (pe_lst (pa_cons (pe_callTy call_list_of (by rfl) T.z_list (by decide +kernel) (pa_cons (pe_fld (pe_fld (pv 5) rfl) rfl) pa_nil)) (pa_cons (pe_fld (pe_fld (pv 5) rfl) rfl) pa_nil))) (pa_cons (pe_lst (pa_cons (pe_slice sl_list (pv 1) po_none (po_some (pv 3))) (pa_cons (pv 4) pa_nil))) pa_nil)))))
  (pss_one (ps_ret pe_bl))
  pss_nil)
  (pss_cons (ps_for PassesOwn.never rfl (pi_range1 (by rfl) T.z_range (pa_cons pe_int pa_nil)) (pg_name (i := 8) sc_law_goes_on.nd rfl (Or.inl rfl))
  (pss_cons (ps_set (i := 7) sc_law_goes_on.nd rfl (Or.inl rfl) (cg o_law_deed T.g__law_deed (hr.mono (by omega)) (pa_cons (pv 0) (pa_cons (pv 6) (pa_cons pe_bl pa_nil)))))
  (pss_cons (ps_expr (pe_bm PySem.F.plainAttrs_list PySem.F.slot_list_append PySem.F.type_list_append mt_append (pv 2) (pa_cons (pv 7) pa_nil)))
  (pss_one (ps_if (pt_not (pt_val (cgG o_law_same T.g__law_same hgd (hr.mono (by omega)) (pa_cons (cm o_JournaledBook_perform T.m_JournaledBook_perform (hr.mono (by omega)) (pv 5) (pa_cons (pv 7) pa_nil)) (pa_cons (cg o_law_due T.g__law_due (hr.mono (by omega)) (pa_cons (pv 6) (pa_cons (pv 7) pa_nil))) pa_nil)))))
  (pss_one (ps_ret pe_bl))
  pss_nil)))))
  (pss_cons (ps_set (i := 9) sc_law_goes_on.nd rfl (Or.inl rfl) (pe_op op_cat (pe_slice sl_list (pv 1) po_none (po_some (pv 3))) (cg o_law_octets T.g__law_octets (hr.mono (by omega)) (pa_cons (pe_slice sl_list (pv 2) (po_some (pe_op op_sub (pe_callB call_len_seq (by rfl) T.z_len (by decide +kernel) (pa_cons (pv 2) pa_nil)) pe_int)) po_none) pa_nil))))
  (pss_cons (ps_if (PW.pt (pw_or (pt_not (pt_val (cgG o_law_alike T.g__law_alike hgd (hr.mono (by omega)) (pa_cons (pe_fld (pv 5) rfl) (pa_cons (pv 6) pa_nil))))) (pw_or1 (pt_not (pt_val (cgG o_law_same T.g__law_same hgd (hr.mono (by omega)) (pa_cons (pe_callTy call_list_of (by rfl) T.z_list (by decide +kernel) (pa_cons (pe_fld (pe_fld (pv 5) rfl) rfl) pa_nil)) (pa_cons (pv 9) pa_nil))))))))
  (pss_one (ps_ret pe_bl))
  pss_nil)
  (pss_cons (ps_if (pt_cmpR op_ne (pe_fld (pe_fld (pv 5) rfl) rfl) (pe_op op_sub (pe_op op_add (pv 4) (pv 3)) (pe_callB call_len_seq (by rfl) T.z_len (by decide +kernel) (pa_cons (pv 9) pa_nil))) (nomark _))
  (pss_one (ps_ret pe_bl))
  pss_nil)
  (pss_one (ps_ret (cgG o_law_same T.g__law_same hgd (hr.mono (by omega)) (pa_cons (cg o_recovered T.g_recovered (hr.mono (by omega)) (pa_cons (pe_callTy call_list_of (by rfl) T.z_list (by decide +kernel) (pa_cons (pe_fld (pe_fld (pv 5) rfl) rfl) pa_nil)) pa_nil)) (pa_cons (pe_tup (pa_cons (cg o_law_plainly T.g__law_plainly (hr.mono (by omega)) (pa_cons (pv 2) pa_nil)) (pa_cons (pe_callB call_len_seq (by rfl) T.z_len (by decide +kernel) (pa_cons (pv 9) pa_nil)) pa_nil))) pa_nil)))))))))))))))), ?_⟩
    have hokd : ∀ d ∈ ds, okD d := fun d hd => (hok d hd).1
    -- rows, many = _law_read(octets)
    refine ⟨_, rfl, F, a, ds, t, rfl, SqL.of ha, lv, hok, hdead, by omega, by omega, fun p D vs H1 s1 hDn hD1 hvs1 hp1 => ?_⟩
    refine ⟨p, _, rfl, SqT.of hp1, rfl, _, _, rfl, _, _, rfl, rfl, ?_⟩
    have nDx : D ≠ x := fun e => by rw [e] at hDn; exact hb.live hDn
    have nDa : D ≠ a := fun e => by rw [e, ha] at hDn; cases hDn
    have b1 : BoxAt (add F D) H1 x := (hb.new hDn).same s1
    have lv1 : Live (add F D) H1 := (lv.same s1).add (by rw [hD1]; simp)
    have ha1 := s1 _ _ ha
    -- power
    refine ⟨_, rfl, add F D, x, 900, rfl, by decide, b1, add_of hF, fun n H2 hn k2 b2 => ?_⟩
    refine ⟨_, _, rfl, rfl, ?_⟩
    have ha2 := k2.at_ nax ha1
    have hD2 := k2.at_ nDx hD1
    have hvs2 := hvs1.kp (k2.toF (add_of hF))
    have lv2 := lv1.kp k2 b2.live
    have kp2 : Kp (only x) H H2 := (Kp.of s1).trans k2
    have ePw : (n : Int) + 99000 = ((n + 99000 : Nat) : Int) := by omega
    -- opened(list(octets), power)
    refine ⟨_, rfl, a, _, rfl, .inl (SqL.of ha2), fun q hq => ?_⟩
    have sq := same_new (o := HO.lst (ocs (recsN ds ++ t))) hq
    have lvq : Live (add F D) (upd H2 q (.lst (ocs (recsN ds ++ t)))) := lv2.same sq
    refine ⟨_, rfl, add F D, q, ds, t, ((n : Int) + 99000), rfl, SqL.of upd_same, lvq, hok, hdead, by omega, by omega, hcan, fun jb b l dv o H4 s4 hln hon hdvn hJ hB hDv => ?_⟩
    have s24 := sq.trans s4
    have hln2 : H2 l = none := sq.hole hln
    have hon2 : H2 o = none := sq.hole hon
    have hdvn2 : H2 dv = none := sq.hole hdvn
    have ap := apart hJ hB hDv
    obtain ⟨_, _, hl4, _⟩ := id hB
    obtain ⟨⟨dxd, hdv4⟩, ho4⟩ := id hDv
    have lv4 : Live (add (add (add (add F D) l) o) dv) H4 := (((lv2.same s24).add (by rw [hl4]; simp)).add (by rw [ho4]; simp)).add (by rw [hdv4]; simp)
    have b4 : BoxAt (add (add (add (add F D) l) o) dv) H4 x := (((b2.new hln2).new hon2).new hdvn2).same s24
    have hvs4 : DhA K (add (add (add (add F D) l) o) dv) H4 vs (ds.map dD) := ((((hvs2.new hln2).new hon2).new hdvn2)).same s24
    -- world
    refine ⟨add (add (add (add F D) l) o) dv, rfl, lv4, fun wd pl H5 s5 hwn hpn nwp hW => ?_⟩
    obtain ⟨_, _, hw5, hpl5, _, _⟩ := id hW
    have lv5 := ((lv4.same s5).add (p := wd) (by rw [hw5]; simp)).add (p := pl) (by rw [hpl5]; simp)
    have b5 := ((b4.new hwn).new hpn).same s5
    have hvs5 := ((hvs4.new hwn).new hpn).same s5
    have hB5 : BookAt K (add (add (add (add (add (add F D) l) o) dv) wd) pl) H5 b l (stk (runP s00 ds)) := by
      obtain ⟨ob, dls, h1, h2⟩ := hB
      exact BookAt.same ⟨ob, dls, h1, (h2.new hwn).new hpn⟩ s5
    have hD4 : H4 D = some (.lst vs) := s24 _ _ hD2
    have hD5 : H5 D = some (.lst vs) := s5 _ _ hD4
    obtain ⟨rx, zx, nx, hx4, hrx, _⟩ := id b4
    obtain ⟨dxj, hj4⟩ := id hJ
    obtain ⟨⟨dxb, hb4⟩, _⟩ := id hB
    obtain ⟨rx2, zx2, nx2, hx2, _, _⟩ := id b2
    have nxl : x ≠ l := ne_of_none hx2 hln2
    have nxo : x ≠ o := ne_of_none hx2 hon2
    have nxd : x ≠ dv := ne_of_none hx2 hdvn2
    have nDl : l ≠ D := fun e => by rw [← e, hln2] at hD2; cases hD2
    have nDo : o ≠ D := fun e => by rw [← e, hon2] at hD2; cases hD2
    have nDd : dv ≠ D := fun e => by rw [← e, hdvn2] at hD2; cases hD2
    generalize hFF : add (add (add (add (add (add F D) l) o) dv) wd) pl = FF at *
    have O : PlOk FF ⟨x, jb, b, l, dv, o, wd, pl, D⟩ := by
      refine ⟨?_, ?_, ?_, ?_, ?_, ?_, ?_, nxl, nxd, nxo, ne_of_none hx4 hwn, ne_of_none hx4 hpn, Ne.symm nDx, ne_of_none hl4 hwn, ne_of_none hl4 hpn, nDl, ne_of_none hdv4 hwn, ne_of_none hdv4 hpn, nDd, ne_of_none ho4 hwn, ne_of_none ho4 hpn, nDo, nwp, Ne.symm (ne_of_none hD4 hwn), Ne.symm (ne_of_none hD4 hpn), fun e => ?_, ne_of_none hj4 hwn, ne_of_none hj4 hpn, fun e => ?_, fun e => ?_, ne_of_none hb4 hwn, ne_of_none hb4 hpn, fun e => ?_⟩
      · rw [← hFF]; exact add_of (add_of (add_of (add_of (add_of (add_of hF)))))
      · rw [← hFF]; exact add_of (add_of (add_of (add_of (add_self _ _))))
      · rw [← hFF]; exact add_of (add_of (add_self _ _))
      · rw [← hFF]; exact add_of (add_of (add_of (add_self _ _)))
      · rw [← hFF]; exact add_of (add_self _ _)
      · rw [← hFF]; exact add_self _ _
      · rw [← hFF]; exact add_of (add_of (add_of (add_of (add_of (add_self _ _)))))
      · have e' : jb = x := e
        rw [e', hx4] at hj4; cases hj4
      · have e' : jb = D := e
        rw [e', hD4] at hj4; cases hj4
      · have e' : b = x := e
        rw [e', hx4] at hb4; cases hb4
      · have e' : b = D := e
        rw [e', hD4] at hb4; cases hb4
    have kp5 : Kp (only x) H H5 := (kp2.trans (Kp.of s24)).trans (Kp.of s5)
    have hH : ∀ z, H2 z = none → H z = none := fun z hz => by
      by_cases e : z = x
      · rw [e, hx2] at hz; cases hz
      · cases hq : H z with
        | none => rfl
        | some u => rw [kp2.at_ e hq] at hz; cases hz
    have hlH := hH l hln2
    have hoH := hH o hon2
    have hdH := hH dv hdvn2
    have hwH : H wd = none := hH wd (s24.hole hwn)
    have hpH : H pl = none := hH pl (s24.hole hpn)
    have G5 : GS K FF H ⟨x, jb, b, l, dv, o, wd, pl, D⟩ H5 (runP s00 ds) s00 (recsN ds) ((n : Int) + 99000) vs ds :=
      ⟨b5, hB5, hW, ⟨dxj, s5 _ _ hj4⟩, ⟨⟨dxd, s5 _ _ hdv4⟩, s5 _ _ ho4⟩, hD5, hvs5, lv5, kp5⟩
    clear hW
    have lvs : vs.length = ds.length := by
      have := DpAll.len hvs1
      rwa [List.length_map] at this
    -- the world does what was read
    refine ⟨_, rfl, D, rfl, ⟨_, SqL.of hD5⟩, for_list (K := K) (a := D) (xs := vs) (fun i σ H' => (∃ v7, σ = [some (.ref x), some (.ref a), some (.ref D), some (.int ((recsN ds).length : Nat)), some (.int ((n : Int) + 99000)), some (.ref jb), some (.ref wd), v7, none, none]) ∧ GS K FF H ⟨x, jb, b, l, dv, o, wd, pl, D⟩ H' (runP s00 ds) (runP s00 (ds.take i)) (recsN ds) ((n : Int) + 99000) vs ds)
      ⟨⟨none, rfl⟩, G5⟩ (fun i σ H' _ h => SqL.of h.2.ro) ?_ ?_⟩
    · rintro i v σ H' hi ⟨⟨v7, rfl⟩, G⟩
      obtain ⟨d0, hd1, hd2⟩ := DpAll.at_ G.rd hi
      obtain ⟨di, hdi, rfl⟩ := map_at hd1
      obtain ⟨ai, _, rfl, _⟩ := dp_tagD hd2
      have hci := canR_at hcan hdi
      have hil := lt_of_at hdi
      have szi := sz00.run (ds := ds.take i)
      rw [List.length_take] at szi
      refine ⟨_, rfl, _, rfl, FF, wd, pl, ai, runP s00 (ds.take i), di, rfl, G.wo, O.fwd, O.fpl, nwp, G.lv, hd2, hci, ⟨by have := szi.1; omega, by have := szi.2.1; omega, fun b hb => by have := szi.2.2 b hb; omega⟩, fun u H'' k2 hw2 _ => ⟨⟨_, rfl⟩, ?_⟩⟩
      have := G.due O hwH hpH k2 hw2
      rw [take_more hdi, runP_app]
      exact this
    · rintro σ H6 ⟨⟨v7, rfl⟩, G⟩
      rw [lvs, List.take_length] at G
      have sz20 := sz00.run (ds := ds)
      have sz50 : szS 50 (runP s00 ds) := ⟨by have := sz20.1; omega, by have := sz20.2.1; omega, fun b hb => by have := sz20.2.2 b hb; omega⟩
      obtain ⟨dxj6, hj6⟩ := id G.j
      -- alike, and not shut
      refine ⟨_, rfl, jb, _, dxj6, _, _, rfl, hj6, T.cls_JournaledBook, T.n_JournaledBook_book, jf_book _ _, _, rfl, FF, b, l, wd, pl, runP s00 ds, rfl, G.bk, G.wo, gS00.run hokd, gP00.run, sz50, G.lv, fun H7 s7 => ?_⟩
      have G7 := G.same s7
      refine ⟨_, rfl, ?_⟩
      refine ite_f rfl ?_
      obtain ⟨dxj7, hj7⟩ := id G7.j
      refine ⟨_, rfl, jb, _, dxj7, _, _, rfl, hj7, T.cls_JournaledBook, T.n_JournaledBook_shut, jf_shut _ _, false, false, rfl, rfl, _, rfl, ?_⟩
      refine ite_f rfl ?_
      -- the device holds what was read
      obtain ⟨⟨dxd7, hdv7⟩, ho7⟩ := id G7.de
      refine ⟨_, rfl, jb, _, dxj7, _, _, rfl, hj7, T.cls_JournaledBook, T.n_JournaledBook_device, jf_device _ _, dv, _, dxd7, _, _, rfl, hdv7, T.cls_Device, T.n_Device_octets, df_octets _ _, o, _, rfl, .inl (SqL.of ho7), fun q1 hq1 => ?_⟩
      have sa1 := same_new (o := HO.lst (ocs (recsN ds))) hq1
      have hq11 : (upd H7 q1 (.lst (ocs (recsN ds)))) q1 = some (.lst (ocs (recsN ds))) := upd_same
      have G8 := G7.same sa1
      generalize upd H7 q1 (.lst (ocs (recsN ds))) = H8 at *
      obtain ⟨⟨dxd8, hdv8⟩, ho8⟩ := id G8.de
      have hj8 := sa1 _ _ hj7
      refine ⟨_, rfl, jb, _, dxj7, _, _, rfl, hj8, T.cls_JournaledBook, T.n_JournaledBook_device, jf_device _ _, dv, _, dxd8, _, _, rfl, hdv8, T.cls_Device, T.n_Device_power, df_power _ _, by show 2 ≤ sizeLine; decide, fun L1 hL1 => ?_⟩
      have sa2 := same_new (o := HO.lst [.ref q1, .int ((n : Int) + 99000)]) hL1
      have hL11 : (upd H8 L1 (.lst [.ref q1, .int ((n : Int) + 99000)])) L1 = some (.lst [.ref q1, .int ((n : Int) + 99000)]) := upd_same
      have hq12 := sa2 _ _ hq11
      have G9 := G8.same sa2
      generalize upd H8 L1 (.lst [.ref q1, .int ((n : Int) + 99000)]) = H9 at *
      have ha9 := G9.kp.at_ nax ha
      refine ⟨_, rfl, _, rfl, _, rfl, a, _, rfl, SqL.of ha9, fun q2 hq2 => ?_⟩
      rw [show cutV (ocs (recsN ds ++ t)) none (some ((recsN ds).length : Int)) = ocs (recsN ds) by rw [cutO_to, List.take_left]] at *
      have sa3 := same_new (o := HO.lst (ocs (recsN ds))) hq2
      refine ⟨_, rfl, by show 2 ≤ sizeLine; decide, fun L2' hL2' => ?_⟩
      have sa4 := same_new (o := HO.lst [.ref q2, .int ((n : Int) + 99000)]) hL2'
      have s94 := sa3.trans sa4
      have dI : ∀ {Hx : Hp} {z : Addr}, Hx z = some (.lst (ocs (recsN ds))) → L2.Dp K Hx (.ref z) (iD (recsN ds)) := fun h => dpI (SqL.of h)
      have hsm : ∀ c ∈ recsN ds, c ≤ 300 := octs_small hokd
      have hzr : (recsN ds).length ≤ 70000 := by rw [List.length_append] at hz; omega
      refine ⟨.ref L1, .ref L2', .list [iD (recsN ds), .int ((n + 99000 : Nat) : Int)], rfl, ?_, ?_, .inl ⟨_, rfl⟩, .inl ⟨_, rfl⟩, octp_shw hsm (by omega) (by omega), _, rfl, ?_⟩
      · exact .lst (SqL.of (s94 _ _ hL11)) (.cons (dI (s94 _ _ hq12)) (.cons (.int _) .nil))
      · exact .lst (SqL.of upd_same) (.cons (dI (sa4 _ _ upd_same)) (.cons (.int _) .nil))
      refine ite_f rfl ?_
      have G10 := G9.same s94
      generalize upd (upd H9 q2 (.lst (ocs (recsN ds)))) L2' (.lst [.ref q2, .int ((n : Int) + 99000)]) = H10 at *
      have rz : ∀ es : List Deed, recsN (ds ++ es) = recsN ds ++ recsN es := fun es => List.flatMap_append
      refine ⟨_, rfl, by decide, by decide, for_range (lo := 0) (n := 3) (fun j σ H' => ∃ v7 v8 vs' es, σ = [some (.ref x), some (.ref a), some (.ref D), some (.int ((recsN ds).length : Nat)), some (.int ((n : Int) + 99000)), some (.ref jb), some (.ref wd), v7, v8, none] ∧ es.length = j ∧ canR (runP s00 ds) es ∧
        GS K FF H ⟨x, jb, b, l, dv, o, wd, pl, D⟩ H' (runP (runP s00 ds) es) (runP (runP s00 ds) es) (recsN ds ++ recsN es) ((n : Int) + 99000 - (recsN es).length) vs' (ds ++ es))
        ⟨v7, none, vs, [], rfl, rfl, trivial, by simpa [recsN, runP] using G10⟩ ?_ ?_⟩
      · rintro j σ H' hj ⟨v7, v8, vs', es, rfl, hes, hce, G⟩
        have hoke := canR_ok hce
        have gSe : gS (runP (runP s00 ds) es) := (gS00.run hokd).run hoke
        have gPe : gP (runP (runP s00 ds) es) := gP.run (gP.run gP00)
        have sze := sz20.run (ds := es)
        have sz50e : szS 50 (runP (runP s00 ds) es) := ⟨by have := sze.1; omega, by have := sze.2.1; omega, fun b hb => by have := sze.2.2 b hb; omega⟩
        have sz9e : szS 900 (runP (runP s00 ds) es) := ⟨by have := sze.1; omega, by have := sze.2.1; omega, fun b hb => by have := sze.2.2 b hb; omega⟩
        have zre := recs_len hoke
        have zrd := recs_len hokd
        have zes : es.length * 4014 ≤ 3 * 4014 := Nat.mul_le_mul_right _ (by omega)
        have lvs' : vs'.length = ds.length + es.length := by
          have := DpAll.len G.rd
          rwa [List.length_map, List.length_append] at this
        -- a deed
        refine ⟨_, rfl, _, rfl, FF, x, wd, pl, runP (runP s00 ds) es, rfl, G.box, O.fx, G.lv, G.wo, O.fwd, O.fpl, gSe, sz50e, fun ad dd Ha ka ba hda hca => ?_⟩
        have Ga := G.draw O ka ba
        refine ⟨_, rfl, .inl ⟨rfl, _, SqL.of Ga.ro⟩, _, rfl, D, vs', _, rfl, rfl, Ga.ro, small_lt (by omega), ?_⟩
        have Gb := Ga.row O hDn hda
        have hdb : Dh K FF (upd Ha D (.lst (vs' ++ [.ref ad]))) (.ref ad) (dD dd) := hda.updF O.fD
        generalize upd Ha D (.lst (vs' ++ [.ref ad])) = Hb at *
        -- both perform it
        obtain ⟨dxjb, hjb⟩ := id Gb.j
        have hX : (recsN ds ++ recsN es).length ≤ 90000 := by
          rw [List.length_append]
          rw [List.length_append] at hz
          omega
        refine ⟨_, rfl, jb, dxjb, _, rfl, hjb, jf_no (by decide +kernel) (by decide +kernel) (by decide +kernel), _, rfl, FF, jb, b, l, dv, o, ad, runP (runP s00 ds) es, dd, recsN ds ++ recsN es, ((n : Int) + 99000 - (recsN es).length), rfl, Gb.j, Gb.bk, Gb.de, O.fl, O.fo, O.fdv, Gb.lv, hdb, hca, sz9e, by omega, hX, fun v1 Hc kc hBc hDc hv1 => ?_⟩
        have Gc := Gb.perf O hlH hoH hdH kc hBc hDc
        have hdc : Dh K FF Hc (.ref ad) (dD dd) := hdb.kp (kc.mono (F3_sub O.fl O.fo O.fdv))
        refine ⟨_, rfl, _, rfl, FF, wd, pl, ad, runP (runP s00 ds) es, dd, rfl, Gc.wo, O.fwd, O.fpl, nwp, Gc.lv, hdc, hca, sz9e, fun v2 Hd kd hwd hv2 => ?_⟩
        have Gd := Gc.due O hwH hpH kd hwd
        have hv1d : Dh K FF Hd v1 (retD (runP (runP s00 ds) es).1 (runP (runP s00 ds) es).2 dd) := hv1.kp (kd.mono fun z hz => by
          by_cases e1 : z = wd
          · rw [e1]; exact O.fwd
          · by_cases e2 : z = pl
            · rw [e2]; exact O.fpl
            · rw [add_no e2 (only_no e1)] at hz; cases hz)
        obtain ⟨r1, sw1⟩ := ret_shw hv1d hca gSe gPe
        obtain ⟨r2, _⟩ := ret_shw hv2 hca gSe gPe
        refine ⟨v1, v2, _, rfl, Dp.to _ _ (Dh.out hv1d), Dp.to _ _ (Dh.out hv2), r1, r2, sw1, _, rfl, ?_⟩
        refine ite_f rfl ?_
        refine ⟨_, _, vs' ++ [.ref ad], es ++ [dd], rfl, by simp [hes], canR_app.mpr ⟨hce, hca, trivial⟩, ?_⟩
        have e1 : recsN (es ++ [dd]) = recsN es ++ recN dd := by
          show (es ++ [dd]).flatMap recN = _
          rw [List.flatMap_append]
          simp [recsN]
        have e2 : ((n : Int) + 99000 - (recsN (es ++ [dd])).length) = ((n : Int) + 99000 - (recsN es).length - (recN dd).length) := by
          rw [e1, List.length_append]
          omega
        have e3 : runP (runP s00 ds) (es ++ [dd]) = stepP (runP (runP s00 ds) es) dd := runP_app _ _ _
        rw [e3, e2, e1, ← List.append_assoc, ← List.append_assoc]
        exact Gd
      · rintro σ H11 ⟨v7, v8, vs', es, rfl, hes, hce, G11⟩
        have hoke := canR_ok hce
        have hall : ∀ d ∈ ds ++ es, okD d := fun d hd => by
          rcases List.mem_append.mp hd with h | h
          · exact hokd d h
          · exact hoke d h
        have gSe : gS (runP (runP s00 ds) es) := (gS00.run hokd).run hoke
        have gPe : gP (runP (runP s00 ds) es) := gP.run (gP.run gP00)
        have sze := sz20.run (ds := es)
        have sz50e : szS 50 (runP (runP s00 ds) es) := ⟨by have := sze.1; omega, by have := sze.2.1; omega, fun b hb => by have := sze.2.2 b hb; omega⟩
        have zre := recs_len hoke
        have zes : es.length * 4014 ≤ 3 * 4014 := Nat.mul_le_mul_right _ (by omega)
        have lvs' : vs'.length = ds.length + es.length := by
          have := DpAll.len G11.rd
          rwa [List.length_map, List.length_append] at this
        have ha11 := G11.kp.at_ nax ha
        -- due
        refine ⟨_, rfl, _, rfl, _, rfl, a, _, rfl, SqL.of ha11, fun u1 hu1 => ?_⟩
        rw [show cutV (ocs (recsN ds ++ t)) none (some ((recsN ds).length : Int)) = ocs (recsN ds) by rw [cutO_to, List.take_left]] at *
        have sb1 := same_new (o := HO.lst (ocs (recsN ds))) hu1
        have hu11 : (upd H11 u1 (.lst (ocs (recsN ds)))) u1 = some (.lst (ocs (recsN ds))) := upd_same
        have G12 := G11.same sb1
        generalize upd H11 u1 (.lst (ocs (recsN ds))) = H12 at *
        refine ⟨_, rfl, _, rfl, D, _, rfl, .inl (SqL.of G12.ro), _, _, rfl, rfl, _, rfl, D, _, rfl, SqL.of G12.ro, fun u2 hu2 => ?_⟩
        have eDr : cutV vs' (some ((vs'.length : Int) - 3)) none = vs'.drop ds.length := by
          unfold cutV
          rw [HT.sIx_none, show ((vs'.length : Int) - 3) = ((ds.length : Nat) : Int) by omega, HT.sIx_nat, Nat.min_eq_left (by omega), List.take_of_length_le (by simp)]
        rw [eDr] at *
        have sb2 := same_new (o := HO.lst (vs'.drop ds.length)) hu2
        have G13 := G12.same sb2
        have hu22 : (upd H12 u2 (.lst (vs'.drop ds.length))) u2 = some (.lst (vs'.drop ds.length)) := upd_same
        have hu12 := sb2 _ _ hu11
        generalize upd H12 u2 (.lst (vs'.drop ds.length)) = H13 at *
        have hes2 : DhA K FF H13 (vs'.drop ds.length) (es.map dD) := by
          have := DpAll.drop ds.length G13.rd
          rwa [List.map_append, List.drop_left' (List.length_map _)] at this
        refine ⟨FF, u2, vs'.drop ds.length, es, rfl, SqL.of hu22, hes2, hoke, G13.lv, by omega, fun u3 H14 s14 hn3 hu3 => ?_⟩
        have G14 := G13.same s14
        have hzr2 : (recsN ds).length + (recsN es).length ≤ 98000 := by omega
        refine ⟨u1, u3, _, _, rfl, rfl, s14 _ _ hu12, hu3, small_le (by rw [ocs_len, ocs_len]; omega), fun u4 hu4 => ?_⟩
        rw [← ocs_app] at *
        have sb4 := same_new (o := HO.lst (ocs (recsN ds ++ recsN es))) hu4
        have hu44 : (upd H14 u4 (.lst (ocs (recsN ds ++ recsN es)))) u4 = some (.lst (ocs (recsN ds ++ recsN es))) := upd_same
        have G15 := G14.same sb4
        generalize upd H14 u4 (.lst (ocs (recsN ds ++ recsN es))) = H15 at *
        obtain ⟨dxj15, hj15⟩ := id G15.j
        refine ⟨_, rfl, jb, _, dxj15, _, _, rfl, hj15, T.cls_JournaledBook, T.n_JournaledBook_book, jf_book _ _, _, rfl, FF, b, l, wd, pl, runP (runP s00 ds) es, rfl, G15.bk, G15.wo, gSe, gPe, sz50e, G15.lv, fun H16 s16 => ?_⟩
        have G16 := G15.same s16
        refine ⟨_, rfl, ?_⟩
        refine ite_f rfl ?_
        obtain ⟨⟨dxd16, hdv16⟩, ho16⟩ := id G16.de
        have hj16 := s16 _ _ hj15
        refine ⟨_, rfl, jb, _, dxj15, _, _, rfl, hj16, T.cls_JournaledBook, T.n_JournaledBook_device, jf_device _ _, dv, _, dxd16, _, _, rfl, hdv16, T.cls_Device, T.n_Device_octets, df_octets _ _, o, _, rfl, .inl (SqL.of ho16), fun u5 hu5 => ?_⟩
        have sb5 := same_new (o := HO.lst (ocs (recsN ds ++ recsN es))) hu5
        have hsm2 : ∀ c ∈ recsN ds ++ recsN es, c ≤ 300 := by rw [← rz]; exact octs_small hall
        refine ⟨_, rfl, .ref u5, .ref u4, iD (recsN ds ++ recsN es), rfl, dpI (SqL.of upd_same), dpI (SqL.of (sb5 _ _ (s16 _ _ hu44))), .inl ⟨_, rfl⟩, .inl ⟨_, rfl⟩, octs_shw hsm2 (by rw [List.length_append]; omega), _, rfl, ?_⟩
        refine ite_f rfl ?_
        have G17 := G16.same sb5
        have hu47 := sb5 _ _ (s16 _ _ hu44)
        have hj17 := sb5 _ _ hj16
        generalize upd H16 u5 (.lst (ocs (recsN ds ++ recsN es))) = H17 at *
        obtain ⟨⟨dxd17, hdv17⟩, ho17⟩ := id G17.de
        refine ⟨_, rfl, jb, _, dxj15, _, _, rfl, hj17, T.cls_JournaledBook, T.n_JournaledBook_device, jf_device _ _, dv, _, dxd17, _, _, rfl, hdv17, T.cls_Device, T.n_Device_power, df_power _ _, _, rfl, _, rfl, _, _, rfl, rfl, _, rfl, u4, _, rfl, .inl (SqL.of hu47), _, _, rfl, rfl, rfl, _, rfl, ?_⟩
        refine ite_f ?_ ?_
        · have : decide (V.int ((n : Int) + 99000 - ((recsN es).length : Int)) = V.int ((n : Int) + 99000 + ((recsN ds).length : Int) - ((ocs (recsN ds ++ recsN es)).length : Int))) = true := decide_eq_true (by rw [ocs_len, List.length_append]; congr 1; omega)
          rw [this]; rfl
        refine ⟨_, rfl, jb, _, dxj15, _, _, rfl, hj17, T.cls_JournaledBook, T.n_JournaledBook_device, jf_device _ _, dv, _, dxd17, _, _, rfl, hdv17, T.cls_Device, T.n_Device_octets, df_octets _ _, o, _, rfl, .inl (SqL.of ho17), fun u6 hu6 => ?_⟩
        have sb6 := same_new (o := HO.lst (ocs (recsN ds ++ recsN es))) hu6
        have G18 := G17.same sb6
        have hu66 : (upd H17 u6 (.lst (ocs (recsN ds ++ recsN es)))) u6 = some (.lst (ocs (recsN ds ++ recsN es))) := upd_same
        have hu48 := sb6 _ _ hu47
        generalize upd H17 u6 (.lst (ocs (recsN ds ++ recsN es))) = H18 at *
        have er : recsN ((ds ++ es).map plnD) = recsN ds ++ recsN es := by rw [recs_pln, rz]
        have hpl2 : ∀ d ∈ (ds ++ es).map plnD, okD d ∧ plD d := fun d hd => by
          obtain ⟨d0, h0, rfl⟩ := List.mem_map.mp hd
          exact ok_pln (hall d0 h0)
        have lpl : ((ds ++ es).map plnD).length = ds.length + es.length := by rw [List.length_map, List.length_append]
        refine ⟨FF, u6, (ds ++ es).map plnD, [], rfl, by rw [List.append_nil, er]; exact SqL.of hu66, G18.lv, hpl2, .short _ (by simp), by omega, ?_, fun rp H19 s19 hrp => ?_⟩
        · rw [List.append_nil, er, List.length_append]
          rw [List.length_append] at hz
          omega
        have G19 := G18.same s19
        refine ⟨_, rfl, FF, D, vs', ds ++ es, rfl, SqL.of G19.ro, G19.rd, hall, G19.lv, by rw [List.length_append]; omega, fun pp H20 s20 hpp => ?_⟩
        refine ⟨_, rfl, u4, _, rfl, .inl (SqL.of (s20 _ _ (s19 _ _ hu48))), by show 2 ≤ sizeLine; decide, fun tt htt => ?_⟩
        have st := same_new (o := HO.tup [.ref pp, .int ((ocs (recsN ds ++ recsN es)).length : Int)]) htt
        have G20 := (G19.same s20).same st
        rw [er] at hrp
        refine ⟨.ref rp, .ref tt, .tuple [.list (((ds ++ es).map plnD).map dD), .int ((recsN ds ++ recsN es).length : Nat)], rfl, ?_, ?_, .inl ⟨_, rfl⟩, .inl ⟨_, rfl⟩, deeds_shw hpl2 (by omega) (by rw [List.length_append]; omega), ?_⟩
        · exact Dp.to _ _ (Dh.out ((hrp.same s20).same st))
        · refine Dp.to _ _ (.tup upd_same (.cons (Dh.out (hpp.same st)) (.cons ?_ .nil)))
          rw [ocs_len]
          exact .int _
        · refine k _ G20.kp (G20.box.weak fun z hz => ?_)
          rw [← hFF]
          exact add_of (add_of (add_of (add_of (add_of (add_of hz)))))
end
end Mw
/-! MxN -/
set_option Elab.async false
set_option linter.all false
set_option maxRecDepth 100000
set_option maxHeartbeats 4000000
namespace Mw
open PySem PySem.Spec PyProof.Rows L2
/-- what stands all through the law's loops -/
structure LS (K : PySem.W.Frag) (FF : Fz) (x R O N : Addr) (rvs : List V) (rows : List Deed) (H : Hp) : Prop where
  box : BoxAt FF H x
  hN : H N = some (.lst (ocs ((List.range (rows.length + 1)).map (endN rows))))
  hO : H O = some (.lst (ocs (recsN rows)))
  hR : H R = some (.lst rvs)
  rd : DhA K FF H rvs (rows.map dD)
  lv : Live FF H
theorem LS.same {K : PySem.W.Frag} {FF : Fz} {x R O N : Addr} {rvs : List V} {rows : List Deed} {H H' : Hp} (L : LS K FF x R O N rvs rows H) (s : Same H H') : LS K FF x R O N rvs rows H' :=
  ⟨L.box.same s, s _ _ L.hN, s _ _ L.hO, s _ _ L.hR, L.rd.same s, L.lv.same s⟩
theorem LS.draw {K : PySem.W.Frag} {FF : Fz} {x R O N : Addr} {rvs : List V} {rows : List Deed} {H H' : Hp} (L : LS K FF x R O N rvs rows H) (fx : FF x = true) (nN : N ≠ x) (nO : O ≠ x) (nR : R ≠ x) (k : Kp (only x) H H') (b : BoxAt FF H' x) : LS K FF x R O N rvs rows H' :=
  ⟨b, k.at_ nN L.hN, k.at_ nO L.hO, k.at_ nR L.hR, L.rd.kp (k.toF fx), L.lv.kp k b.live⟩
section
variable {P : Program} {w : World} {K : PySem.W.Frag} {mg : Str → Option Value} {base : Heap}
def spLaw (K : PySem.W.Frag) : Sp := fun vs H Q _ => ∃ (a : Addr) (ns : List Int), vs = [.ref a] ∧ SqL K H a (ns.map V.int) ∧ ∀ H', Q (.bl true) H'
theorem sc_law : FnScope ["_law_script", "_law_box_here", "_law_rows_here", "_law_octets_here", "_law_ends", "_law_deed_here", "_law_cuts", "_law_end", "_law_cut", "_law_most", "_law_turn", "_law_behind", "_law_k"] ["_law_script"] (defScope s_law) := ⟨rfl, rfl, rfl, by decide +kernel, rfl, by decide +kernel, by decide +kernel⟩
theorem ok_law (T : Tx K mg) : OkG P w K mg base d_law ["_law_script"] 23 (spLaw K) := by
  have o_law_box : OkF P w K mg base d_law_box ["_law_script", "_law_first", "_law_last"] 2 (spBox K) := ok_law_box T
  have o_law_draw : OkF P w K mg base d_law_draw ["_law_box_here", "_law_many"] 1 spDraw := ok_law_draw T
  have o_law_rows : OkF P w K mg base d_law_rows ["_law_box_here", "_law_many"] 7 (spLRows K) := ok_law_rows T
  have o_law_octets : OkF P w K mg base d_law_octets ["_law_rows_here"] 6 (spLOctets K) := ok_law_octets T
  have o_law_record : OkF P w K mg base d_law_record ["_law_deed_here"] 5 (spRecOf K) := ok_law_record T
  have o_recovered : OkF P w K mg base d_recovered ["octets"] 20 (spRecovered K) := ok_recovered T
  have o_law_plainly : OkF P w K mg base d_law_plainly ["_law_deeds"] 5 (spLPlainly K) := ok_law_plainly T
  have o_law_same : OkG P w K mg base d_law_same ["_law_one", "_law_other"] 1 (spLSame K) := ok_law_same T
  have o_law_goes_on : OkG P w K mg base d_law_goes_on ["_law_box_here", "_law_octets_here"] 22 (spLGoesOn K) := ok_law_goes_on T
  refine (okG T 70 (d := d_law) rfl sc_law (fun _ _ _ _ _ _ us hl => match us, hl with | [_], _ => rfl) ⟨rfl, rfl⟩ (fun vs H Q E h => ?_) (fun cdv A outer s H vs Q E hr hg h => ?_))
  · obtain ⟨a, ns, rfl, _⟩ := h; rfl
  · obtain ⟨a, ns, rfl, hs, k⟩ := h
    have hgd : (A.deeper (envOfC d_law.qual d_law.scope s.heap.objs.size (He.fAd K d_law.at_) cdv)).guards = some [] := hg
    refine ⟨_, (pss_cons (ps_set (i := 1) sc_law.nd rfl (Or.inr rfl) (cg o_law_box T.g__law_box (hr.mono (by omega)) (pa_cons (pv 0) (pa_cons pe_int (pa_cons pe_int pa_nil)))))
  (pss_cons (ps_set (i := 2) sc_law.nd rfl (Or.inl rfl) (cg o_law_rows T.g__law_rows (hr.mono (by omega)) (pa_cons (pv 1) (pa_cons (cg o_law_draw T.g__law_draw (hr.mono (by omega)) (pa_cons (pv 1) (pa_cons pe_int pa_nil))) pa_nil))))
  (pss_cons (ps_set (i := 3) sc_law.nd rfl (Or.inr rfl) (cg o_law_octets T.g__law_octets (hr.mono (by omega)) (pa_cons (pv 2) pa_nil)))
  (pss_cons (ps_set (i := 4) sc_law.nd rfl (Or.inl rfl) (pe_lst (pa_cons pe_int pa_nil)))
  (pss_cons (ps_for PassesOwn.never rfl (pi_list (pv 2)) (pg_name (i := 5) sc_law.nd rfl (Or.inl rfl))
  (pss_one (ps_expr (pe_bm PySem.F.plainAttrs_list PySem.F.slot_list_append PySem.F.type_list_append mt_append (pv 4) (pa_cons (pe_op op_add (pe_ix ix_list (pv 4) (pe_un un_neg pe_int) (fun _ _ => rfl)) (pe_callB call_len_seq (by rfl) T.z_len (by decide +kernel) (pa_cons (cg o_law_record T.g__law_record (hr.mono (by omega)) (pa_cons (pv 5) pa_nil)) pa_nil))) pa_nil)))))
  (pss_cons (ps_set (i := 6) sc_law.nd rfl (Or.inl rfl) (pe_op op_cat (pe_lst (pa_cons pe_int (pa_cons (pe_callB call_len_seq (by rfl) T.z_len (by decide +kernel) (pa_cons (pv 3) pa_nil)) pa_nil))) (pe_lc (own := [("_law_k", 12)]) (g := gName 12) (tt := tYes) rfl sc_law.nd (pi_range1 (by rfl) T.z_range (pa_cons pe_int pa_nil)) (blkOk_by (N := ["_law_script", "_law_box_here", "_law_rows_here", "_law_octets_here", "_law_ends", "_law_deed_here", "_law_cuts", "_law_end", "_law_cut", "_law_most", "_law_turn", "_law_behind", "_law_k"]) (sc := defScope s_law) (by decide +kernel)) (fun _ _ _ _ _ => (pg_name (i := 12) sc_law.nd rfl (Or.inl rfl))) (fun _ _ _ _ _ => pts_nil) (fun _ _ _ _ _ => (pe_op op_mod (pe_callTy call_int1 (by rfl) T.z_int (by decide +kernel) (pa_cons (pe_op op_add (cg o_law_draw T.g__law_draw (hr.mono (by omega)) (pa_cons (pv 1) (pa_cons pe_int pa_nil))) (pe_op op_mul pe_int (cg o_law_draw T.g__law_draw (hr.mono (by omega)) (pa_cons (pv 1) (pa_cons pe_int pa_nil))))) pa_nil)) (pe_op op_add (pe_callB call_lenH (by rfl) T.z_len (by decide +kernel) (pa_cons (pv 3) pa_nil)) pe_int))))))
  (pss_cons (ps_for PassesOwn.never rfl (pi_list (pv 4)) (pg_name (i := 7) sc_law.nd rfl (Or.inl rfl))
  (pss_one (ps_set (i := 6) sc_law.nd rfl (Or.inl rfl) (pe_op op_cat (pv 6) (pe_lst (pa_cons (pe_callB (call_max2 rfl) (by rfl) T.z_max (by decide +kernel) (pa_cons pe_int (pa_cons (pe_op op_sub (pv 7) pe_int) pa_nil))) (pa_cons (pv 7) (pa_cons (pe_callB (call_min2 rfl) (by rfl) T.z_min (by decide +kernel) (pa_cons (pe_callB call_len_seq (by rfl) T.z_len (by decide +kernel) (pa_cons (pv 3) pa_nil)) (pa_cons (pe_op op_add (pv 7) pe_int) pa_nil))) pa_nil))))))))
  (pss_cons (ps_for PassesOwn.never rfl (pi_list (pv 6)) (pg_name (i := 8) sc_law.nd rfl (Or.inr rfl))
  (pss_cons (ps_set (i := 9) sc_law.nd rfl (Or.inl rfl) (pe_op op_sub (pe_callB call_len_seq (by rfl) T.z_len (by decide +kernel) (pa_cons (pe_lc (own := [("_law_end", 7)]) (g := gName 7) rfl sc_law.nd (pi_list (pv 4)) (blkOk_by (N := ["_law_script", "_law_box_here", "_law_rows_here", "_law_octets_here", "_law_ends", "_law_deed_here", "_law_cuts", "_law_end", "_law_cut", "_law_most", "_law_turn", "_law_behind", "_law_k"]) (sc := defScope s_law) (by decide +kernel)) (fun _ _ _ _ _ => (pg_name (i := 7) sc_law.nd rfl (Or.inl rfl))) (fun _ _ _ _ _ => (pts_one (pt_cmpR op_le (pv 7) (pv 8) (nomark _)))) (fun _ _ _ _ _ => (pv 7))) pa_nil)) pe_int))
  (pss_one (ps_if (pt_not (pt_val (cgG o_law_same T.g__law_same hgd (hr.mono (by omega)) (pa_cons (cg o_recovered T.g_recovered (hr.mono (by omega)) (pa_cons (pe_slice sl_list (pv 3) po_none (po_some (pv 8))) pa_nil)) (pa_cons (pe_tup (pa_cons (cg o_law_plainly T.g__law_plainly (hr.mono (by omega)) (pa_cons (pe_slice sl_list (pv 2) po_none (po_some (pv 9))) pa_nil)) (pa_cons (pe_ix ix_list (pv 4) (pv 9) (fun _ _ => rfl)) pa_nil))) pa_nil)))))
  (pss_one (ps_ret pe_bl))
  pss_nil))))
  (pss_cons (ps_for PassesOwn.never rfl (pi_range1 (by rfl) T.z_range (pa_cons pe_int pa_nil)) (pg_name (i := 10) sc_law.nd rfl (Or.inl rfl))
  (pss_cons (ps_set (i := 8) sc_law.nd rfl (Or.inr rfl) (pe_ix ix_list (pv 6) (pe_op op_mod (pe_callTy call_int1 (by rfl) T.z_int (by decide +kernel) (pa_cons (cg o_law_draw T.g__law_draw (hr.mono (by omega)) (pa_cons (pv 1) (pa_cons pe_int pa_nil))) pa_nil)) (pe_callB call_len_seq (by rfl) T.z_len (by decide +kernel) (pa_cons (pv 6) pa_nil))) (fun _ _ => rfl)))
  (pss_cons (ps_setLc (i := 11) (own := [("_law_k", 12)]) (g := gName 12) (tt := tYes) rfl sc_law.nd rfl rfl (sw_true rfl rfl rfl (by decide +kernel)) (pi_range1 (by rfl) T.z_range (pa_cons (pe_op op_mul (cg o_law_draw T.g__law_draw (hr.mono (by omega)) (pa_cons (pv 1) (pa_cons pe_int pa_nil))) (cg o_law_draw T.g__law_draw (hr.mono (by omega)) (pa_cons (pv 1) (pa_cons pe_int pa_nil)))) pa_nil)) (blkOk_by (N := ["_law_script", "_law_box_here", "_law_rows_here", "_law_octets_here", "_law_ends", "_law_deed_here", "_law_cuts", "_law_end", "_law_cut", "_law_most", "_law_turn", "_law_behind", "_law_k"]) (sc := defScope s_law) (by decide +kernel)) (fun _ _ _ _ _ => (pg_name (i := 12) sc_law.nd rfl (Or.inl rfl))) (fun _ _ _ _ _ => pts_nil) (fun _ _ _ _ _ => (pe_ix ix_listH (pe_lst (pa_cons pe_int (pa_cons pe_int (pa_cons pe_int pa_nil)))) (cg o_law_draw T.g__law_draw (hr.mono (by omega)) (pa_cons (pv 1) (pa_cons pe_int pa_nil))) (fun _ _ => rfl))))
  (pss_one (ps_if (pt_not (pt_val (cgG o_law_goes_on T.g__law_goes_on hgd (hr.mono (by omega)) (pa_cons (pv 1) (pa_cons (pe_op op_cat (pe_slice sl_list (pv 3) po_none (po_some (pv 8))) (pv 11)) pa_nil)))))
  (pss_one (ps_ret pe_bl))
  pss_nil)))))
  (pss_one (ps_ret pe_bl))))))))))), ?_⟩
    -- box
    refine ⟨_, rfl, a, ns, rfl, hs, fun x r zs H1 s1 hxn hrn nxr hx hr' => ?_⟩
    have hb1 : BoxAt (only x) H1 x := ⟨r, zs, 0, hx, only_no (Ne.symm nxr), hr'⟩
    have lv1 : Live (only x) H1 := fun z hz => by
      have e : z = x := by simpa [only] using hz
      rw [e, hx]; simp
    -- rows
    refine ⟨_, rfl, _, rfl, only x, x, 11, rfl, by decide, hb1, only_self x, fun n H2 hn k2 b2 => ?_⟩
    refine ⟨only x, x, n, rfl, by omega, b2, only_self x, lv1.kp k2 b2.live, fun R rvs rows H3 k3 b3 hRn hR hrv hcan hlen => ?_⟩
    have hok := canR_ok hcan
    have lv3 : Live (add (only x) R) H3 := ((lv1.kp k2 b2.live).kp k3 b3.live).add (by rw [hR]; simp)
    refine ⟨_, rfl, add (only x) R, R, rvs, rows, rfl, SqL.of hR, hrv, hok, lv3, by omega, fun O H4 s4 hOn hO => ?_⟩
    have hR4 := s4 _ _ hR
    have hrv4 := hrv.same s4
    have b4 := b3.same s4
    have lv4 := lv3.same s4
    -- ends
    refine ⟨by show 1 ≤ sizeLine; decide, fun N hN => ?_⟩
    have sN := same_new (o := HO.lst [.int 0]) hN
    have nNx : N ≠ x := fun e => by rw [e] at hN; exact b4.live hN
    have hNN : (upd H4 N (.lst [.int 0])) N = some (.lst (ocs [0])) := upd_same
    have hR5 := sN _ _ hR4
    have hO5 := sN _ _ hO
    have hrv5 := (hrv4.new hN).same sN
    have b5 := (b4.new hN).same sN
    have lv5 : Live (add (add (only x) R) N) (upd H4 N (.lst [.int 0])) := (lv4.same sN).add (by rw [upd_same]; simp)
    have s45 : Same H4 (upd H4 N (.lst [.int 0])) := sN
    generalize upd H4 N (.lst [.int 0]) = H5 at *
    have lrv : rvs.length = rows.length := by rw [DpAll.len hrv, List.length_map]
    have nRN : R ≠ N := ne_of_none hR4 hN
    have nON : O ≠ N := ne_of_none hO hN
    refine ⟨_, rfl, R, rfl, ⟨_, SqL.of hR5⟩, for_list (K := K) (a := R) (xs := rvs) (fun i σ H' => (∃ v5, σ = [some (.ref a), some (.ref x), some (.ref R), some (.ref O), some (.ref N), v5, none, none, none, none, none, none, none]) ∧ H' N = some (.lst (ocs ((List.range (i + 1)).map (endN rows)))) ∧ Kp (only N) H5 H')
      ⟨⟨none, rfl⟩, hNN, Kp.refl _ _⟩ (fun i σ H' _ h => SqL.of (h.2.2.at_ nRN hR5)) ?_ ?_⟩
    · rintro i v σ H' hi ⟨⟨v5, rfl⟩, hN', k'⟩
      have hrv' : DhA K (add (add (only x) R) N) H' rvs (rows.map dD) := hrv5.kp (k'.mono (only_sub (add_self _ _)))
      obtain ⟨d0, hd1, hd2⟩ := DpAll.at_ hrv' hi
      obtain ⟨di, hdi, rfl⟩ := map_at hd1
      obtain ⟨ai, _, rfl, _⟩ := dp_tagD hd2
      have hil := lt_of_at hdi
      have lv' : Live (add (add (only x) R) N) H' := lv5.kp k' (by rw [hN']; simp)
      have eR : (List.range (i + 1)).map (endN rows) = (List.range i).map (endN rows) ++ [endN rows i] := by
        rw [List.range_succ, List.map_append]
        rfl
      have eR2 : (List.range (i + 1 + 1)).map (endN rows) = (List.range (i + 1)).map (endN rows) ++ [endN rows (i + 1)] := by
        rw [List.range_succ, List.map_append]
        rfl
      have eE : endN rows (i + 1) = endN rows i + (recN di).length := by
        show (recsN (rows.take (i + 1))).length = (recsN (rows.take i)).length + _
        have : recsN (rows.take (i + 1)) = recsN (rows.take i) ++ recN di := flat_take hdi
        rw [this, List.length_append]
      have hat : atI (ocs ((List.range (i + 1)).map (endN rows))) (-1) = some (.int (endN rows i : Int)) := by
        rw [eR, ocs_app]
        exact atI_last _ _
      refine ⟨_, rfl, .inl ⟨rfl, _, SqL.of hN'⟩, _, rfl, _, rfl, N, _, _, _, rfl, rfl, SqL.of hN', hat, _, rfl, add (add (only x) R) N, ai, di, rfl, lv', hd2, hok di (List.mem_of_getElem? hdi), fun p2 H2 s2 hn2 hp2 => ?_⟩
      refine ⟨p2, _, rfl, .inl (SqL.of hp2), _, _, rfl, rfl, N, _, _, rfl, rfl, s2 _ _ hN', small_lt (by rw [ocs_len, List.length_map, List.length_range]; omega), ⟨_, rfl⟩, ?_, (k'.trans (Kp.of s2)).upd (only_self N)⟩
      rw [upd_same, eR2, ocs_app, ocs_len, eE]
      rfl
    · rintro σ H6 ⟨⟨v5, rfl⟩, hN6, k6⟩
      rw [lrv] at hN6
      have hO6 := k6.at_ nON hO5
      have hR6 := k6.at_ nRN hR5
      have hrv6 : DhA K (add (add (only x) R) N) H6 rvs (rows.map dD) := hrv5.kp (k6.mono (only_sub (add_self _ _)))
      have b6 : BoxAt (add (add (only x) R) N) H6 x := b5.kp k6 (only_no (Ne.symm nNx)) (only_sub (add_self _ _))
      have lv6 : Live (add (add (only x) R) N) H6 := lv5.kp k6 (by rw [hN6]; simp)
      refine ⟨_, rfl, O, _, rfl, .inl (SqL.of hO6), by show 2 ≤ sizeLine; decide, fun C0 hC0 => ?_⟩
      have sC0 := same_new (o := HO.lst [.int 0, .int ((ocs (recsN rows)).length : Int)]) hC0
      have hC00 : (upd H6 C0 (.lst [.int 0, .int ((ocs (recsN rows)).length : Int)])) C0 = some (.lst [.int 0, .int ((ocs (recsN rows)).length : Int)]) := upd_same
      have nC0x : C0 ≠ x := fun e => by rw [e] at hC0; exact b6.live hC0
      have b7 := b6.same sC0
      have lv7 := lv6.same sC0
      have hO7 := sC0 _ _ hO6
      generalize upd H6 C0 (.lst [.int 0, .int ((ocs (recsN rows)).length : Int)]) = H7 at *
      refine ⟨_, rfl, by decide, by decide, fun D hD => ?_⟩
      have nDx : D ≠ x := fun e => by rw [e] at hD; exact b7.live hD
      have nC0D : C0 ≠ D := ne_of_none hC00 hD
      have fx : (add (add (only x) R) N) x = true := add_of (add_of (only_self x))
      have nOx : O ≠ x := fun e => by
        obtain ⟨_, _, _, h1, _⟩ := b4
        rw [← e, hO] at h1
        cases hrw : recsN rows with
        | nil => rw [hrw] at h1; cases h1
        | cons c r => rw [hrw] at h1; cases h1
      refine lc_range (lo := 0) (n := 12) (fun i H' => ∃ cl : List Nat, H' D = some (.lst (ocs cl)) ∧ (∀ c ∈ cl, c ≤ (recsN rows).length) ∧ cl.length = i ∧ Kp (only x) H7 H' ∧ BoxAt (add (add (add (only x) R) N) D) H' x)
        ⟨[], upd_same, fun c h => (by cases h), rfl, (Kp.refl _ _).mut hD, (b7.new hD).same (same_new hD _)⟩ ?_ ?_
      · rintro i H' hi ⟨cl, hDv, hcl, hli, k', b'⟩
        refine ⟨rfl, yes_t ?_⟩
        refine ⟨_, rfl, _, x, 900, rfl, by decide, b', add_of fx, fun n1 H1' hn1 k1' b1' => ?_⟩
        refine ⟨_, rfl, _, x, 5, rfl, by decide, b1', add_of fx, fun n2 H2' hn2 k2' b2' => ?_⟩
        have hO2 : H2' O = some (.lst (ocs (recsN rows))) := k2'.at_ nOx (k1'.at_ nOx (k'.at_ nOx hO7))
        have hD2 := k2'.at_ nDx (k1'.at_ nDx hDv)
        refine ⟨_, _, rfl, rfl, .inl ⟨by decide, by decide⟩, _, _, rfl, rfl, .inl ⟨_, rfl, _, rfl, O, _, rfl, hO2, _, _, rfl, rfl, _, _, rfl, rfl, by rw [ocs_len]; show (0 : Int) < _; omega, ?_⟩⟩
        obtain ⟨c, hc, ec⟩ : ∃ c : Nat, c ≤ (recsN rows).length ∧ ((n1 : Int) + 1000 * (n2 : Int)) % (((ocs (recsN rows)).length : Int) + 1) = (c : Int) := by
          refine ⟨(n1 + 1000 * n2) % ((recsN rows).length + 1), by have := Nat.mod_lt (n1 + 1000 * n2) (show 0 < (recsN rows).length + 1 by omega); omega, ?_⟩
          rw [ocs_len]
          rfl
        refine ⟨_, hD2, small_lt (by rw [ocs_len]; omega), cl ++ [c], ?_, fun z hz => ?_, by simp [hli], ((k'.trans k1').trans k2').mut hD, b2'.mut (add_self _ _) nDx⟩
        · rw [upd_same, ocs_app]
          show some (HO.lst (ocs cl ++ [V.int (((n1 : Int) + 1000 * (n2 : Int)) % (((ocs (recsN rows)).length : Int) + 1))])) = _
          rw [ec]
          rfl
        · rcases List.mem_append.mp hz with h | h
          · exact hcl z h
          · rw [List.mem_singleton.mp h]; exact hc
      · rintro H8 ⟨cl, hDv, hcl, hli, k8, b8⟩
        have hC08 := k8.at_ nC0x hC00
        have zM : (recsN rows).length ≤ 45000 := by
          have := recs_len hok
          omega
        have nRx : R ≠ x := fun e => by
          rw [e] at hRn; exact b2.live hRn
        have L8 : LS K (add (add (only x) R) N) x R O N rvs rows H8 := by
          refine ⟨b8.weak add_sub, k8.at_ nNx (sC0 _ _ hN6), k8.at_ nOx hO7, k8.at_ nRx (sC0 _ _ hR6), (hrv6.same sC0).kp (k8.toF fx), lv7.kp k8 b8.live⟩
        generalize hFF : add (add (only x) R) N = FF at *
        refine ⟨C0, D, _, _, rfl, rfl, hC08, hDv, small_le (by rw [ocs_len, ocs_len]; show 2 + _ ≤ _; omega), fun p0 hp0 => ?_⟩
        have eC : (.lst ([V.int 0, V.int ((ocs (recsN rows)).length : Int)] ++ ocs cl) : HO) = .lst (ocs (0 :: (recsN rows).length :: cl)) := by
          rw [ocs_len]; rfl
        rw [eC]
        have sp0 := same_new (o := HO.lst (ocs (0 :: (recsN rows).length :: cl))) hp0
        have hcl0 : ∀ c ∈ 0 :: (recsN rows).length :: cl, c ≤ (recsN rows).length := fun c hc => by
          rcases List.mem_cons.mp hc with rfl | hc
          · omega
          · rcases List.mem_cons.mp hc with rfl | hc
            · omega
            · exact hcl c hc
        refine ⟨_, rfl, N, rfl, ⟨_, SqL.of (L8.same sp0).hN⟩, for_list (K := K) (a := N) (xs := ocs ((List.range (rows.length + 1)).map (endN rows))) (fun i σ H' => ∃ v7 q, ∃ cl : List Nat, σ = [some (.ref a), some (.ref x), some (.ref R), some (.ref O), some (.ref N), v5, some (.ref q), v7, none, none, none, none, none] ∧ H' q = some (.lst (ocs cl)) ∧ (∀ c ∈ cl, c ≤ (recsN rows).length) ∧ cl.length = 14 + 3 * i ∧ LS K FF x R O N rvs rows H')
          ⟨none, p0, _, rfl, upd_same, hcl0, by simp [hli], L8.same sp0⟩ (fun i σ H' _ h => by obtain ⟨_, _, _, _, _, _, _, L⟩ := h; exact SqL.of L.hN) ?_ ?_⟩
        · rintro i v σ H' hi ⟨v7, q, cl, rfl, hq, hcl, hln, L⟩
          obtain ⟨e, he, rfl⟩ := ocs_at hi
          obtain ⟨j, hj, rfl⟩ := map_at he
          have hji : j ≤ rows.length := by
            have := List.mem_of_getElem? hj
            have := List.mem_range.mp this
            omega
          have hEM : endN rows j ≤ (recsN rows).length := flat_take_le recN rows j
          have hil : i < rows.length + 1 := by
            have := lt_of_at hj
            rwa [List.length_range] at this
          refine ⟨_, rfl, _, rfl, _, _, rfl, rfl, _, _, rfl, _, rfl, _, rfl, O, _, rfl, .inl (SqL.of L.hO), _, rfl, _, _, rfl, rfl, _, _, rfl, by show 3 ≤ sizeLine; decide, fun p1 hp1 => ?_⟩
          have eT : (.lst [V.int (if (endN rows j : Int) - 1 > 0 then (endN rows j : Int) - 1 else 0), V.int (endN rows j : Int), V.int (if (endN rows j : Int) + 1 < ((ocs (recsN rows)).length : Int) then (endN rows j : Int) + 1 else ((ocs (recsN rows)).length : Int))] : HO) = .lst (ocs [endN rows j - 1, endN rows j, min (recsN rows).length (endN rows j + 1)]) := by
            have e1 : (if (endN rows j : Int) - 1 > 0 then (endN rows j : Int) - 1 else 0) = ((endN rows j - 1 : Nat) : Int) := by
              split <;> omega
            have e2 : (if (endN rows j : Int) + 1 < ((ocs (recsN rows)).length : Int) then (endN rows j : Int) + 1 else ((ocs (recsN rows)).length : Int)) = ((min (recsN rows).length (endN rows j + 1) : Nat) : Int) := by
              rw [ocs_len]
              split <;> omega
            rw [e1, e2]
            rfl
          rw [eT]
          have sp1 := same_new (o := HO.lst (ocs [endN rows j - 1, endN rows j, min (recsN rows).length (endN rows j + 1)])) hp1
          have hp11 : (upd H' p1 (.lst (ocs [endN rows j - 1, endN rows j, min (recsN rows).length (endN rows j + 1)]))) p1 = some (.lst (ocs [endN rows j - 1, endN rows j, min (recsN rows).length (endN rows j + 1)])) := upd_same
          have L1 := L.same sp1
          have hq1 := sp1 _ _ hq
          generalize upd H' p1 (.lst (ocs [endN rows j - 1, endN rows j, min (recsN rows).length (endN rows j + 1)])) = H'' at *
          refine ⟨q, p1, _, _, rfl, rfl, hq1, hp11, small_le (by rw [ocs_len, ocs_len, hln]; show _ + 3 ≤ _; omega), fun p2 hp2 => ?_⟩
          rw [← ocs_app]
          refine ⟨_, p2, cl ++ [endN rows j - 1, endN rows j, min (recsN rows).length (endN rows j + 1)], rfl, upd_same, fun z hz => ?_, by rw [List.length_append, hln]; rfl, L1.same (same_new hp2 _)⟩
          rcases List.mem_append.mp hz with h | h
          · exact hcl z h
          · simp only [List.mem_cons, List.not_mem_nil, or_false] at h
            omega
        · rintro σ H9 ⟨v7, q, cl2, rfl, hq, hcl2, hln2, L9⟩
          rw [ocs_len, List.length_map, List.length_range] at hln2
          refine ⟨_, rfl, q, rfl, ⟨_, SqL.of hq⟩, for_list (K := K) (a := q) (xs := ocs cl2) (fun i σ H' => ∃ v8 v9, σ = [some (.ref a), some (.ref x), some (.ref R), some (.ref O), some (.ref N), v5, some (.ref q), v7, v8, v9, none, none, none] ∧ H' q = some (.lst (ocs cl2)) ∧ LS K FF x R O N rvs rows H')
            ⟨none, none, rfl, hq, L9⟩ (fun i σ H' _ h => by obtain ⟨_, _, _, h, _⟩ := h; exact SqL.of h) ?_ ?_⟩
          · rintro i v σ H' hi ⟨v8, v9, rfl, hq', L⟩
            obtain ⟨c, hc, rfl⟩ := ocs_at hi
            have hcM := hcl2 c (List.mem_of_getElem? hc)
            have okp : ∀ d ∈ rows.map plnD, okD d ∧ plD d := fun d hd => by
              obtain ⟨d0, h0, rfl⟩ := List.mem_map.mp hd
              exact ok_pln (hok d0 h0)
            have eRp : recsN (rows.map plnD) = recsN rows := recs_pln rows
            obtain ⟨j, tt, hj, hct, hdead, hend⟩ := cut_clean okp (cut := c) (by rw [eRp]; exact hcM)
            rw [List.length_map] at hj
            have eE : ∀ i, endN (rows.map plnD) i = endN rows i := fun i => by
              unfold endN
              rw [← List.map_take, recs_pln]
            have hcnt : (((List.range (rows.length + 1)).map (endN rows)).filter fun e => decide (e ≤ c)).length = j + 1 :=
              ends_count rows c j hj fun i hi => by
                rw [← eE]
                exact hend i (by rw [List.length_map]; exact hi)
            refine ⟨_, rfl, N, rfl, ⟨_, SqL.of L.hN⟩, fun D hD => ?_⟩
            refine lc_list (K := K) (a := N) (xs := ocs ((List.range (rows.length + 1)).map (endN rows))) (fun i H2 => H2 D = some (.lst (ocs ((((List.range (rows.length + 1)).map (endN rows)).take i).filter fun e => decide (e ≤ c)))) ∧ Same H' H2) ⟨upd_same, same_new hD _⟩ (fun i H2 _ p => SqL.of (p.2 _ _ L.hN)) ?_ ?_
            · rintro i v H2 hi ⟨hDv, s2⟩
              obtain ⟨e, he, rfl⟩ := ocs_at hi
              have hil := lt_of_at he
              rw [List.length_map, List.length_range] at hil
              have lz : ((((List.range (rows.length + 1)).map (endN rows)).take i).filter fun e => decide (e ≤ c)).length ≤ i := Nat.le_trans (List.length_filter_le _ _) (by rw [List.length_take]; omega)
              refine ⟨rfl, _, rfl, _, rfl, _, _, rfl, rfl, _, rfl, ?_⟩
              rw [take_more he, List.filter_append]
              by_cases h : e ≤ c
              · refine ite_t (decide_eq_true (by omega)) ?_
                refine ⟨_, rfl, _, hDv, small_lt (by rw [ocs_len]; omega), ?_, same_mut s2 hD⟩
                rw [upd_same, ocs_app, show [e].filter (fun e => decide (e ≤ c)) = [e] by simp [h]]
                rfl
              · refine ite_f (decide_eq_false (by omega)) ?_
                rw [show [e].filter (fun e => decide (e ≤ c)) = [] by simp [h]]
                exact ⟨by rw [hDv]; simp, s2⟩
            · rintro H2 ⟨hDv, s2⟩
              rw [List.take_of_length_le (by rw [ocs_len]; exact Nat.le_refl _)] at hDv
              have L2' := L.same s2
              refine ⟨D, _, rfl, .inl (SqL.of hDv), _, _, rfl, rfl, ?_⟩
              have e9 : (((ocs (((List.range (rows.length + 1)).map (endN rows)).filter fun e => decide (e ≤ c))).length : Int) - 1) = ((j : Nat) : Int) := by
                rw [ocs_len, hcnt]; omega
              simp only [e9]
              have hq2 := s2 _ _ hq'
              refine ⟨_, rfl, _, rfl, _, rfl, O, _, rfl, SqL.of L2'.hO, fun u hu => ?_⟩
              have eu : cutV (ocs (recsN rows)) none (some ((c : Nat) : Int)) = ocs (recsN ((rows.map plnD).take j) ++ tt) := by
                rw [cutO_to, ← hct, eRp]
              rw [eu]
              have su := same_new (o := HO.lst (ocs (recsN ((rows.map plnD).take j) ++ tt))) hu
              have huu : (upd H2 u (.lst (ocs (recsN ((rows.map plnD).take j) ++ tt)))) u = some (.lst (ocs (recsN ((rows.map plnD).take j) ++ tt))) := upd_same
              have L3 := L2'.same su
              have hq3 := su _ _ hq2
              generalize upd H2 u (.lst (ocs (recsN ((rows.map plnD).take j) ++ tt))) = H3 at *
              have ljt : ((rows.map plnD).take j).length = j := by rw [List.length_take, List.length_map]; omega
              have zct : (recsN ((rows.map plnD).take j) ++ tt).length ≤ 45000 := by
                rw [← hct, List.length_take, eRp]; omega
              have okj : ∀ d ∈ (rows.map plnD).take j, okD d ∧ plD d := fun d hd => okp d (List.mem_of_mem_take hd)
              refine ⟨FF, u, (rows.map plnD).take j, tt, rfl, SqL.of huu, L3.lv, okj, hdead, by omega, by omega, fun rp H4' s4' hrp => ?_⟩
              have L4 := L3.same s4'
              have hq4 := s4' _ _ hq3
              refine ⟨_, rfl, _, rfl, _, rfl, R, _, rfl, SqL.of L4.hR, fun u2 hu2 => ?_⟩
              have eu2 : cutV rvs none (some ((j : Nat) : Int)) = rvs.take j := by
                unfold cutV
                rw [HT.sIx_none, HT.sIx_nat, List.drop_zero, Nat.sub_zero, Nat.min_eq_left (by omega)]
              rw [eu2]
              have su2 := same_new (o := HO.lst (rvs.take j)) hu2
              have L5 := L4.same su2
              have hq5 := su2 _ _ hq4
              have hrp5 := hrp.same su2
              have hu22 : (upd H4' u2 (.lst (rvs.take j))) u2 = some (.lst (rvs.take j)) := upd_same
              generalize upd H4' u2 (.lst (rvs.take j)) = H5' at *
              refine ⟨FF, u2, rvs.take j, rows.take j, rfl, SqL.of hu22, by rw [List.map_take]; exact DpAll.take j L5.rd, fun d hd => hok d (List.mem_of_mem_take hd), L5.lv, by rw [List.length_take]; omega, fun pp H6' s6 hpp => ?_⟩
              have L6 := L5.same s6
              have hq6 := s6 _ _ hq5
              have hrp6 := hrp5.same s6
              have hjN : ((List.range (rows.length + 1)).map (endN rows))[j]? = some (endN rows j) := by
                rw [List.getElem?_map, List.getElem?_range (by omega)]
                rfl
              refine ⟨_, rfl, _, rfl, N, _, _, _, rfl, rfl, SqL.of L6.hN, atI_nat (by unfold ocs; rw [List.getElem?_map, hjN]; rfl), by show 2 ≤ sizeLine; decide, fun t0 ht0 => ?_⟩
              have st := same_new (o := HO.tup [.ref pp, .int ((endN rows j : Nat) : Int)]) ht0
              rw [← List.map_take] at hrp6 okj
              have ezn : (recsN ((rows.take j).map plnD)).length = endN rows j := by rw [recs_pln]; rfl
              rw [ezn] at hrp6
              have zeN : endN rows j ≤ (recsN rows).length := flat_take_le recN rows j
              refine ⟨.ref rp, .ref t0, .tuple [.list (((rows.take j).map plnD).map dD), .int ((endN rows j : Nat) : Int)], rfl, Dp.to _ _ (Dh.out (hrp6.same st)), ?_, .inl ⟨_, rfl⟩, .inl ⟨_, rfl⟩, deeds_shw okj (by rw [List.length_map, List.length_take]; omega) (by omega), _, rfl, ?_⟩
              · exact Dp.to _ _ (.tup upd_same (.cons (Dh.out (hpp.same st)) (.cons (.int _) .nil)))
              refine ite_f rfl ?_
              exact ⟨_, _, rfl, st _ _ hq6, L6.same st⟩
          · rintro σ H10 ⟨v8, v9, rfl, hq10, L10⟩
            have okp : ∀ d ∈ rows.map plnD, okD d ∧ plD d := fun d hd => by
              obtain ⟨d0, h0, rfl⟩ := List.mem_map.mp hd
              exact ok_pln (hok d0 h0)
            have eRp : recsN (rows.map plnD) = recsN rows := recs_pln rows
            have zcl : 0 < cl2.length ∧ cl2.length ≤ 60 := by omega
            refine ⟨_, rfl, by decide, by decide, for_range (lo := 0) (n := 3) (fun i σ H' => ∃ v8 v10 v11, σ = [some (.ref a), some (.ref x), some (.ref R), some (.ref O), some (.ref N), v5, some (.ref q), v7, v8, v9, v10, v11, none] ∧ q ≠ x ∧ H' q = some (.lst (ocs cl2)) ∧ LS K FF x R O N rvs rows H')
              ⟨v8, none, none, rfl, ?_, hq10, L10⟩ ?_ ?_⟩
            · intro e
              obtain ⟨_, _, _, h1, _⟩ := L10.box
              rw [← e, hq10] at h1
              cases hrw : cl2 with
              | nil => rw [hrw] at h1; cases h1
              | cons c r => rw [hrw] at h1; cases h1
            · rintro i σ H' hi ⟨v8, v10, v11, rfl, nqx, hq', L⟩
              -- the cut
              refine ⟨_, rfl, _, rfl, FF, x, 900, rfl, by decide, L.box, fx, fun n1 Ha hn1 ka ba => ?_⟩
              have La := L.draw fx nNx nOx nRx ka ba
              have hqa := ka.at_ nqx hq'
              refine .inl ⟨_, rfl, _, rfl, q, _, rfl, .inl (SqL.of hqa), _, _, rfl, rfl, by rw [ocs_len]; omega, ?_⟩
              obtain ⟨c, hc, hat⟩ : ∃ c : Nat, c ≤ (recsN rows).length ∧ atI (ocs cl2) ((n1 : Int) % ((ocs cl2).length : Int)) = some (.int ((c : Nat) : Int)) := by
                have hlt : n1 % cl2.length < cl2.length := Nat.mod_lt _ zcl.1
                refine ⟨cl2[n1 % cl2.length], hcl2 _ (List.getElem_mem hlt), ?_⟩
                have eI : (n1 : Int) % ((ocs cl2).length : Int) = ((n1 % cl2.length : Nat) : Int) := by rw [ocs_len]; rfl
                rw [eI]
                refine atI_nat ?_
                unfold ocs
                rw [List.getElem?_map, List.getElem?_eq_getElem hlt]
                rfl
              refine ⟨q, _, _, _, rfl, rfl, SqL.of hqa, hat, ?_⟩
              -- what stands behind
              refine ⟨_, rfl, FF, x, 4, rfl, by decide, La.box, fx, fun n4 Hb hn4 kb bb => ?_⟩
              have Lb := La.draw fx nNx nOx nRx kb bb
              have hqb := kb.at_ nqx hqa
              refine ⟨_, rfl, FF, x, 2, rfl, by decide, Lb.box, fx, fun n2 Hc hn2 kc bc => ?_⟩
              have Lc := Lb.draw fx nNx nOx nRx kc bc
              have hqc := kc.at_ nqx hqb
              have z3 : n4 * n2 ≤ 3 := Nat.le_trans (Nat.mul_le_mul (show n4 ≤ 3 by omega) (show n2 ≤ 1 by omega)) (by decide)
              have e3 : (n4 : Int) * (n2 : Int) = ((n4 * n2 : Nat) : Int) := rfl
              refine ⟨_, _, rfl, rfl, .inl ⟨by omega, by omega⟩, _, rfl, by rw [e3]; omega, by rw [e3]; omega, fun D2 hD2 => ?_⟩
              rw [show ((n4 : Int) * (n2 : Int)).toNat = n4 * n2 from rfl]
              have nD2x : D2 ≠ x := fun e => by rw [e] at hD2; exact Lc.box.live hD2
              refine lc_range (lo := 0) (n := n4 * n2) (fun i H' => ∃ bl : List Nat, H' D2 = some (.lst (ocs bl)) ∧ (∀ b ∈ bl, odd3 b) ∧ bl.length = i ∧ Kp (only x) Hc H' ∧ BoxAt (add FF D2) H' x)
                ⟨[], upd_same, fun b h => (by cases h), rfl, (Kp.refl _ _).mut hD2, (Lc.box.new hD2).same (same_new hD2 _)⟩ ?_ ?_
              · rintro i H' hi ⟨bl, hDv, hbl, hli, k', b'⟩
                refine ⟨rfl, yes_t ?_⟩
                refine ⟨by show 3 ≤ sizeLine; decide, fun W hW => ?_⟩
                have sW := same_new (o := HO.lst (ocs [170, 0, 255])) hW
                have hW1 : (upd H' W (.lst (ocs [170, 0, 255]))) W = some (.lst (ocs [170, 0, 255])) := upd_same
                have nWx : W ≠ x := fun e => by rw [e] at hW; exact b'.live hW
                have b1' := b'.same sW
                have k1' := k'.trans (Kp.of sW)
                have hD1 := sW _ _ hDv
                have eW : (HO.lst [V.int 170, V.int 0, V.int 255]) = HO.lst (ocs [170, 0, 255]) := rfl
                rw [eW]
                generalize upd H' W (.lst (ocs [170, 0, 255])) = H1' at *
                refine ⟨_, rfl, _, x, 3, rfl, by decide, b1', add_of fx, fun n3 H2' hn3 k2' b2' => ?_⟩
                have hW2 := k2'.at_ nWx hW1
                have hD2' := k2'.at_ nD2x hD1
                obtain ⟨o, ho, hat3⟩ : ∃ o : Nat, odd3 o ∧ atI (ocs [170, 0, 255]) (n3 : Int) = some (.int ((o : Nat) : Int)) := by
                  rcases (show n3 = 0 ∨ n3 = 1 ∨ n3 = 2 by omega) with rfl | rfl | rfl
                  · exact ⟨170, .inl rfl, rfl⟩
                  · exact ⟨0, .inr (.inl rfl), rfl⟩
                  · exact ⟨255, .inr (.inr rfl), rfl⟩
                refine ⟨W, _, _, _, rfl, rfl, hW2, hat3, _, hD2', small_lt (by rw [ocs_len]; omega), bl ++ [o], ?_, fun b hb => ?_, by simp [hli], (k1'.trans k2').mut hD2, b2'.mut (add_self _ _) nD2x⟩
                · rw [upd_same, ocs_app]
                  rfl
                · rcases List.mem_append.mp hb with h | h
                  · exact hbl b h
                  · rw [List.mem_singleton.mp h]; exact ho
              · rintro Hd ⟨bl, hDv, hbl, hli, kd, bd⟩
                have Ld := Lc.draw fx nNx nOx nRx kd (bd.weak add_sub)
                have hqd := kd.at_ nqx hqc
                obtain ⟨j, tt, hj, hct, hdead⟩ := cut_odd okp (cut := c) (by rw [eRp]; exact hc) hbl (by omega)
                rw [List.length_map] at hj
                refine ⟨_, rfl, _, rfl, _, rfl, _, rfl, O, _, rfl, SqL.of Ld.hO, fun u hu => ?_⟩
                have eu : cutV (ocs (recsN rows)) none (some ((c : Nat) : Int)) = ocs ((recsN rows).take c) := cutO_to _ _
                rw [eu]
                have su := same_new (o := HO.lst (ocs ((recsN rows).take c))) hu
                have huu : (upd Hd u (.lst (ocs ((recsN rows).take c)))) u = some (.lst (ocs ((recsN rows).take c))) := upd_same
                have Le := Ld.same su
                have hqe := su _ _ hqd
                have hDe := su _ _ hDv
                generalize upd Hd u (.lst (ocs ((recsN rows).take c))) = He' at *
                have ztc : ((recsN rows).take c).length ≤ c := by rw [List.length_take]; omega
                refine ⟨_, rfl, u, D2, _, _, rfl, rfl, huu, hDe, small_le (by rw [ocs_len, ocs_len]; omega), fun u2 hu2 => ?_⟩
                rw [← ocs_app]
                have su2 := same_new (o := HO.lst (ocs ((recsN rows).take c ++ bl))) hu2
                have hu22 : (upd He' u2 (.lst (ocs ((recsN rows).take c ++ bl)))) u2 = some (.lst (ocs ((recsN rows).take c ++ bl))) := upd_same
                have nu2 : u2 ≠ x := fun e => by rw [e] at hu2; exact Le.box.live hu2
                have Lf := Le.same su2
                have hqf := su2 _ _ hqe
                generalize upd He' u2 (.lst (ocs ((recsN rows).take c ++ bl))) = Hf at *
                rw [eRp] at hct
                have zt : (recsN ((rows.map plnD).take j) ++ tt).length ≤ 50000 := by
                  rw [← hct, List.length_append]; omega
                rw [hct] at hu22
                refine ⟨FF, x, u2, (rows.map plnD).take j, tt, rfl, Lf.box, fx, Lf.lv, hu22, nu2, fun d hd => okp d (List.mem_of_mem_take hd), hdead, by rw [List.length_take, List.length_map]; omega, by omega, canR_take (canR_pln hcan) j, fun Hg kg bg => ?_⟩
                refine ⟨_, rfl, ?_⟩
                refine ite_f rfl ?_
                exact ⟨_, _, _, rfl, nqx, kg.at_ nqx hqf, Lf.draw fx nNx nOx nRx kg bg⟩
            · rintro σ H' ⟨v8, v10, v11, rfl, nqx, hq', L⟩
              exact k _
end
end Mw
/-! MxO -/
set_option Elab.async false
set_option linter.all false
set_option maxRecDepth 100000
set_option maxHeartbeats 4000000
namespace Mw
open PySem PySem.Spec PyProof.Rows L2
/-! ## behind the top: the script alone is tracked, if the module does not hold it -/
section
variable {P : Program} {w : World} {K : PySem.W.Frag} {mg bm : Str → Option Value} {t : Shared} {p : Addr} {us : List Value} {zs : List Int}
abbrev scr (us : List Value) : Obj := { cls := .type "list", data := .seq us.toArray }
def trk1 (c : Bool) (p : Addr) (us : List Value) (zs : List Int) : Hp := fun q => if c = true ∧ q = p then some (.frz (scr us) (.lst (zs.map V.int))) else none
theorem trk1_or (c : Bool) (p : Addr) (us : List Value) (zs : List Int) (q : Addr) : trk1 c p us zs q = none ∨ (c = true ∧ q = p ∧ trk1 c p us zs q = some (.frz (scr us) (.lst (zs.map V.int)))) := by
  by_cases g : c = true ∧ q = p
  · exact .inr ⟨g.1, g.2, if_pos g⟩
  · exact .inl (if_neg g)
/-- what is no list is not tracked -/
theorem trk1_dict {c : Bool} {q : Addr} {o : Obj} {es : Array DictEntry} {n : Nat} (hp : t.heap.get? p = some (scr us)) (hq : t.heap.get? q = some o) (hd : o.data = .dict es n) : trk1 c p us zs q = none := by
  rcases trk1_or c p us zs q with g | ⟨_, rfl, _⟩
  · exact g
  · rw [hp] at hq
    cases hq
    exact nomatch (show Data.seq us.toArray _ = Data.dict es n from hd)
theorem trk1_ns {c : Bool} {q : Addr} {m : Str → Option Value} (hp : t.heap.get? p = some (scr us)) (hn : t.heap.Ns q m) : (hidT t.heap (trk1 c p us zs)).Ns q m := by
  obtain ⟨o, es, n, h1, h2, h3⟩ := hn
  exact ⟨o, es, n, hidT_get h1 (trk1_dict hp h1 h2), h2, h3⟩
structure TopAt (P : Program) (w : World) (K : PySem.W.Frag) (mg : Str → Option Value) (t : Shared) (p : Addr) (zs : List Int) (bs : Heap) (H : Hp) : Prop where
  inK : K.In bs
  ns : bs.Ns mainGlobals mg
  env : Env0 P w K mg bs callerA [] t H
  sq : SqL K H p (zs.map V.int)
  old : ∀ (H' : Hp) (t' : Shared), Un (frs []) [] H H' t.heap t'.heap → HOk P w H' t'.heap → OldK t.heap t'.heap
theorem top_at (inK : K.In t.heap) (gl : t.heap.Ns mainGlobals mg) (bl : t.heap.Ns builtinsNs bm) (bb : ∀ y : Str, y ≠ "__name__" → bm y = bootBuiltins y) (nl : t.heap.NoLimit) (ge : t.gens = #[])
    (hp : t.heap.get? p = some (scr us)) (hi : IntsAre us zs) (hz : zs.length ≤ sizeLine) : ∃ bs H, TopAt P w K mg t p zs bs H := by
  have vs := vals_ints hi
  have lz : us.length = zs.length := hi.length
  obtain ⟨c, hc⟩ : ∃ c : Bool, c = (K.lookup p).isNone := ⟨_, rfl⟩
  have kin : K.In (hidT t.heap (trk1 c p us zs)) := fun q o hq => hidT_get (inK q o hq) (by
    rcases trk1_or c p us zs q with g | ⟨g1, rfl, _⟩
    · exact g
    · rw [hc, hq] at g1
      exact nomatch g1)
  have hok : HOk P w (trk1 c p us zs) t.heap := fun q u hq => by
    rcases trk1_or c p us zs q with g | ⟨_, rfl, g⟩
    · rw [g] at hq; cases hq
    · rw [g] at hq
      cases hq
      exact ⟨hp, by rw [List.length_map]; exact hz, us, _, vs, hp⟩
  refine ⟨hidT t.heap (trk1 c p us zs), trk1 c p us zs, kin, trk1_ns hp gl, ⟨rfl, ⟨kin, trk1_ns hp gl, ⟨bm, trk1_ns hp bl, bb⟩, ?_⟩, fun q o hq => of_hidT hq, ?_, trivial, fun q hq => (nomatch hq), hok, .of_eq ge⟩, ?_, fun H' t' u hk => ?_⟩
  · obtain ⟨m, h1, h2⟩ := nl
    exact ⟨m, trk1_ns hp h1, h2⟩
  · rw [hidT_size]; exact Nat.le_refl _
  · cases hl : K.lookup p with
    | none => exact .inl (.inr ⟨scr us, if_pos ⟨by rw [hc, hl]; rfl, rfl⟩⟩)
    | some o =>
      have g := inK p o hl
      rw [hp] at g
      cases g
      exact .inr ⟨_, us.toArray, _, hl, rfl, rfl, rfl, by rw [List.size_toArray, lz]; exact hz, by simpa using vs⟩
  · refine OldK.of_keep fun q o hq => ?_
    rcases trk1_or c p us zs q with g | ⟨_, rfl, g⟩
    · exact u.keep q o hq g (fun z => nomatch z) (fun z => nomatch z)
    · have g1 := (hok q _ g).1
      have g2 := (hk q _ (u.frzs q _ _ g)).1
      rw [hq] at g1
      cases g1
      exact g2
end
end Mw
/-! MwH -/
set_option Elab.async false
set_option linter.all false
set_option maxRecDepth 100000
set_option maxHeartbeats 0
namespace Mw
open PySem PySem.Spec PyProof.Rows L2
/-! ### the head: one kernel run of the top, and what it leaves, by names -/
/-- the addresses that the facts look at: the module's names; the code objects of its defs, the tables of its classes; what those hold; the code objects of the methods -/
def refs1 (g : Addr → Option Obj) (as : List Addr) : List Addr := as.flatMap fun a => match g a with
  | some o => (match o.data with
    | .dict es _ => es.toList.flatMap fun e => He.refV e.val
    | .func fd => He.refV fd.code
    | .cls cd => [cd.ns]
    | _ => [])
  | none => []
def adr (g : Addr → Option Obj) : List Addr :=
  let a1 := refs1 g [mainGlobals]
  let a2 := refs1 g a1
  let a3 := refs1 g a2
  mainGlobals :: (a1 ++ (a2 ++ (a3 ++ refs1 g a3)))
abbrev AlE : Type := He.AlD × Bool
def obsE (g : Addr → Option Obj) : AlE := (He.obsD fal fnl (He.frG g (adr g)), exB (He.frG g (adr g)))
def hookE : PySem.W.Hook where
  α := AlE
  obs := fun s => obsE s.heap.get?
  val := fun _ => (He.valD fnl, true)
  says := fun _ h => ∃ K : PySem.W.Frag, K.In h ∧ He.SaysD fal fnl K ∧ exB K = true
  of := fun _ _ e => ⟨_, He.frG_in, congrArg (fun z : AlE => z.1) e, congrArg (fun z : AlE => z.2) e⟩
  keeps := fun _ _ _ ⟨K, hK, c⟩ k => ⟨K, PySem.W.Frag.In.keeps hK k, c⟩
abbrev R : PySem.W.OpenRow := PySem.W.OpenLaw.row PySem.Challenge.rw_messageways_k53_recovery_from_a_cut
def ob (s : PySem.W.SharedT) : AlE := obsE (HandSHeadRun.getT s)
theorem ob_eq (s : PySem.W.SharedT) : ob s = hookE.obs s.abs := by
  have e : HandSHeadRun.getT s = s.abs.heap.get? := funext (HandSHeadRun.getT_eq s)
  show obsE (HandSHeadRun.getT s) = obsE s.abs.heap.get?
  rw [e]
def names : List PySem.Str := (["MessagewaysError", "TokenError", "EndError", "NoSuchPlace", "NoSuchKey", "PowerCut", "ShutError", "TEXT", "SHOW", "NUMBER", "SELECT", "PLURAL", "OTHER", "CATEGORIES"] : List PySem.Str) ++ (["CHOICES", "cases_of", "other_of", "plain_node", "plain", "case_at", "message_at", "with_case", "replaced", "Book", "LETTERS_notation", "FIGURES", "NAME_MOST", "OFFSET_MOST"] : List PySem.Str) ++ (["EXACT_MOST", "QUOTE", "ESCAPED", "SPACES", "OFFSET", "format_text", "format_key", "format_choice", "format_node", "format_message", "is_sign", "Reader", "parse_message", "MARK"] : List PySem.Str) ++ (["PUT", "DROP", "UNDO", "LETTERS_journal", "PRINTED", "octets_of", "text_of", "body_of", "record_of", "key_of", "message_of", "deed_of", "recovered", "perform"] : List PySem.Str) ++ (["perform_journal", "Device", "JournaledBook", "opened", "_law_cell", "_law_row", "_law_box", "_law_draw", "_law_same", "_law_message", "_law_plain", "_law_notation", "_law_word", "_law_key_at"] : List PySem.Str) ++ (["_law_choice", "_law_node", "_law_parsed", "_law_signs", "_law_body_told", "_law_read", "_law_record", "_law_some", "_law_world", "_law_due", "_law_deed", "_law_alike", "_law_rows", "_law_plainly"] : List PySem.Str) ++ (["_law_octets", "_law_goes_on"] : List PySem.Str)
theorem run (w : World) : HandSHeadRun.RunEq R (PySem.W.view R.prog [92]) hookE ob 6000 names w := by
  intro os
  kernel_rfl
end Mw
/-! MxP -/
set_option Elab.async false
set_option linter.all false
set_option maxRecDepth 100000
set_option maxHeartbeats 4000000
namespace Mw
open PySem PySem.Spec PyProof.Rows L2
/-! ## the law's call, where nothing is being printed -/
theorem room_top : Room 24 callerA := ⟨rfl, by decide, by decide⟩
theorem end_law {P : Program} {w : World} {K : PySem.W.Frag} {mg bm : Str → Option Value} {t : Shared} {p fa : Addr} {us : List Value} {zs : List Int} (T : Tx K mg) (inK : K.In t.heap)
    (gl : t.heap.Ns mainGlobals mg) (bl : t.heap.Ns builtinsNs bm) (bb : ∀ y : Str, y ≠ "__name__" → bm y = bootBuiltins y) (nl : t.heap.NoLimit) (ge : t.gens = #[])
    (hp : t.heap.get? p = some (scr us)) (hi : IntsAre us zs) (hz : zs.length ≤ sizeLine) (hfa : mg "law" = some (.ref fa)) :
    codeAny (model P w) callerA (.call (.ref fa) ⟨[.ref p], []⟩) (fun r z => r = .ok (.ret (.bool true)) ∧ OldK t.heap z.heap ∧ z.os = t.os ∧ AllBare z.gens) t := by
  obtain ⟨bs, H, A⟩ := top_at (P := P) (w := w) inK gl bl bb nl ge hp hi hz
  have e := hfa.symm.trans T.g_law
  cases e
  obtain ⟨fd, F, b⟩ := (ok_law (P := P) (w := w) (base := bs) T).ex
  refine codeAny_mono (F.run callerA [] t H ⟨[.ref p], []⟩ [.ref p] [.ref p] (fun v _ => v = .bl true) E0 (room_top.mono (by decide)) rfl A.env (b t [.ref p] inK rfl) (.cons rfl .nil) ⟨p, zs, rfl, A.sq, fun _ => rfl⟩) fun r z h => ?_
  match r, h with
  | .error _, h => exact h.elim
  | .ok (.ret u), h =>
    obtain ⟨v, H', os, ba, un, ok, rv, hv⟩ := h
    cases hv
    cases rv
    exact ⟨rfl, A.old H' z un ok, os, ba⟩
end Mw
open PySem PySem.W PySem.Calls PyProof.Rows
theorem PySem.Challenge.cw_messageways_k53_recovery_from_a_cut_holds : PySem.Challenge.rw_messageways_k53_recovery_from_a_cut.Holds := by
  w_on; o_law
  refine HandSHeadRun.head_any (r := Mw.R) (q := view Mw.R.prog [92]) (H := Mw.hookE) (ob := Mw.ob) (M := 6000) (loose := Mw.names) (d := HandSHeadRun.topDef Mw.R.prog 92) (kwd := [])
    Mw.ob_eq (by kernel_rfl) (fun s => by kernel_rfl) Mw.run (by kernel_rfl) (by kernel_rfl) (by kernel_rfl) (by rfl) (by first | assumption | decide +kernel) (by decide +kernel)
    ⟨rfl, rfl, rfl, rfl, rfl, by decide +kernel⟩ ?wit ?walk
  case wit => w_witness2
  case walk =>
    refine Att.attach_call (l := PySem.Challenge.rw_messageways_k53_recovery_from_a_cut) (n := 63) rfl (by kernel_rfl) fun w s0 s1 mg bm fa o pm cd doc p us zs G Y ho hd hcd hmg hobj hints hlen hg => ?_
    obtain ⟨K, KX, c, ce⟩ := Y
    have hl : mg ("law" : PySem.Str) = some (.ref fa) := by
      have e : (HandSHeadRun.topDef Mw.R.prog 92).name = ("law" : PySem.Str) := by kernel_rfl
      rw [← e]
      exact hmg
    exact Mw.end_law ⟨⟨_, KX, G.T.g⟩, c, ce⟩ KX G.T.g G.T.b G.T.builtins G.T.nolimit hg hobj hints (Nat.le_trans hlen (by decide)) hl
