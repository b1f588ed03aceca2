import PyProof.Rows.All
import Wide.All
import OpenK.AllK
import Wide.FinOn
import KE.KStateDown
import HandS.ForMost
import HandS.Defaults
import HandS.More
import HandS.WordsExc
import HandS.Head0
import HandS.Head1
import HandS.Head2
import HandS.HeadEnd
import HandS.HeadHook1
import HandS.HeadHook2
import HandS.HeadHook3
import HandS.HeadHook4
import HandS.HeadWalk
import HandS.ForExc
import HandS.ExcInit
import HandS.ExcField
import HandS.Lambda
import KE.KExcSuper
import PySem.Challenge.RW_forcedtables_k13_whole_rule_texts_read
import HandS.FStr
import HandS.Style
import HandS.Conv
import HandS.IsInst
import HandS.Wide
import HandS.Iter
import KE.GoesEnum
import HandS.ExcSuper
import HandS.JoinGen
import HandS.ExcIs
import KE.KExcIs
import PyProof.Rows.ReprOcc
import Lean
import Wide.Once
set_option Elab.async false
set_option linter.all false
set_option maxRecDepth 100000
/-! The text of the program by places; one datum a def. -/
namespace K13
open PySem L2
def topS (i : Nat) : Stmt := PySem.Challenge.pw_forcedtables_k13_whole_rule_texts_read.main.body.getD i (.Pass ⟨0, 0, 0, 0⟩)
abbrev FnP (K : PySem.W.Frag) (x : Str) (st : Stmt) (f : Addr) (fd : FuncData) : Prop := FunD K x x (defArgs st) (defBody st) (defScope st) [] [] f fd
abbrev s_is_prime_by : Stmt := topS 11
def d_is_prime_by : He.DefD := ⟨("is_prime_by", none), "is_prime_by", "is_prime_by", defArgs s_is_prime_by, defBody s_is_prime_by, defScope s_is_prime_by, [], []⟩
abbrev s_common_of : Stmt := topS 12
def d_common_of : He.DefD := ⟨("common_of", none), "common_of", "common_of", defArgs s_common_of, defBody s_common_of, defScope s_common_of, [], []⟩
abbrev s_power_at : Stmt := topS 13
def d_power_at : He.DefD := ⟨("power_at", none), "power_at", "power_at", defArgs s_power_at, defBody s_power_at, defScope s_power_at, [], []⟩
abbrev s_table_one : Stmt := topS 14
def d_table_one : He.DefD := ⟨("table_one", none), "table_one", "table_one", defArgs s_table_one, defBody s_table_one, defScope s_table_one, [], []⟩
abbrev s_table_times : Stmt := topS 15
def d_table_times : He.DefD := ⟨("table_times", none), "table_times", "table_times", defArgs s_table_times, defBody s_table_times, defScope s_table_times, [], []⟩
abbrev s_table_power : Stmt := topS 16
def d_table_power : He.DefD := ⟨("table_power", none), "table_power", "table_power", defArgs s_table_power, defBody s_table_power, defScope s_table_power, [], []⟩
abbrev s_is_integer : Stmt := topS 19
def d_is_integer : He.DefD := ⟨("is_integer", none), "is_integer", "is_integer", defArgs s_is_integer, defBody s_is_integer, defScope s_is_integer, [], []⟩
abbrev s_is_number : Stmt := topS 20
def d_is_number : He.DefD := ⟨("is_number", none), "is_number", "is_number", defArgs s_is_number, defBody s_is_number, defScope s_is_number, [], []⟩
abbrev s_is_above_nought : Stmt := topS 21
def d_is_above_nought : He.DefD := ⟨("is_above_nought", none), "is_above_nought", "is_above_nought", defArgs s_is_above_nought, defBody s_is_above_nought, defScope s_is_above_nought, [], []⟩
abbrev s_is_index : Stmt := topS 22
def d_is_index : He.DefD := ⟨("is_index", none), "is_index", "is_index", defArgs s_is_index, defBody s_is_index, defScope s_is_index, [], []⟩
abbrev s_is_power : Stmt := topS 23
def d_is_power : He.DefD := ⟨("is_power", none), "is_power", "is_power", defArgs s_is_power, defBody s_is_power, defScope s_is_power, [], []⟩
abbrev s_is_tuple_of : Stmt := topS 24
def d_is_tuple_of : He.DefD := ⟨("is_tuple_of", none), "is_tuple_of", "is_tuple_of", defArgs s_is_tuple_of, defBody s_is_tuple_of, defScope s_is_tuple_of, [], []⟩
abbrev s_is_prime : Stmt := topS 25
def d_is_prime : He.DefD := ⟨("is_prime", none), "is_prime", "is_prime", defArgs s_is_prime, defBody s_is_prime, defScope s_is_prime, [], []⟩
abbrev s_is_piece_shape : Stmt := topS 33
def d_is_piece_shape : He.DefD := ⟨("is_piece_shape", none), "is_piece_shape", "is_piece_shape", defArgs s_is_piece_shape, defBody s_is_piece_shape, defScope s_is_piece_shape, [], []⟩
abbrev s_number_fault : Stmt := topS 34
def d_number_fault : He.DefD := ⟨("number_fault", none), "number_fault", "number_fault", defArgs s_number_fault, defBody s_number_fault, defScope s_number_fault, [], []⟩
abbrev s_is_table : Stmt := topS 35
def d_is_table : He.DefD := ⟨("is_table", none), "is_table", "is_table", defArgs s_is_table, defBody s_is_table, defScope s_is_table, [], []⟩
abbrev s_turn_fault : Stmt := topS 36
def d_turn_fault : He.DefD := ⟨("turn_fault", none), "turn_fault", "turn_fault", defArgs s_turn_fault, defBody s_turn_fault, defScope s_turn_fault, [], []⟩
abbrev s_act_fault : Stmt := topS 37
def d_act_fault : He.DefD := ⟨("act_fault", none), "act_fault", "act_fault", defArgs s_act_fault, defBody s_act_fault, defScope s_act_fault, [], []⟩
abbrev s_piece_fault : Stmt := topS 38
def d_piece_fault : He.DefD := ⟨("piece_fault", none), "piece_fault", "piece_fault", defArgs s_piece_fault, defBody s_piece_fault, defScope s_piece_fault, [], []⟩
abbrev s_rule_fault : Stmt := topS 39
def d_rule_fault : He.DefD := ⟨("rule_fault", none), "rule_fault", "rule_fault", defArgs s_rule_fault, defBody s_rule_fault, defScope s_rule_fault, [], []⟩
abbrev s_want : Stmt := topS 41
def d_want : He.DefD := ⟨("want", none), "want", "want", defArgs s_want, defBody s_want, defScope s_want, [.int (-1)], []⟩
abbrev s_want_rule : Stmt := topS 42
def d_want_rule : He.DefD := ⟨("want_rule", none), "want_rule", "want_rule", defArgs s_want_rule, defBody s_want_rule, defScope s_want_rule, [.str "rule"], []⟩
abbrev s_table_word : Stmt := topS 47
def d_table_word : He.DefD := ⟨("table_word", none), "table_word", "table_word", defArgs s_table_word, defBody s_table_word, defScope s_table_word, [], []⟩
abbrev s_piece_words : Stmt := topS 48
def d_piece_words : He.DefD := ⟨("piece_words", none), "piece_words", "piece_words", defArgs s_piece_words, defBody s_piece_words, defScope s_piece_words, [], []⟩
abbrev s_rule_text : Stmt := topS 49
def d_rule_text : He.DefD := ⟨("rule_text", none), "rule_text", "rule_text", defArgs s_rule_text, defBody s_rule_text, defScope s_rule_text, [], []⟩
abbrev s_number_of : Stmt := topS 53
def d_number_of : He.DefD := ⟨("number_of", none), "number_of", "number_of", defArgs s_number_of, defBody s_number_of, defScope s_number_of, [], []⟩
abbrev s_word_at : Stmt := topS 54
def d_word_at : He.DefD := ⟨("word_at", none), "word_at", "word_at", defArgs s_word_at, defBody s_word_at, defScope s_word_at, [], []⟩
abbrev s_number_within : Stmt := topS 55
def d_number_within : He.DefD := ⟨("number_within", none), "number_within", "number_within", defArgs s_number_within, defBody s_number_within, defScope s_number_within, [], []⟩
abbrev s_prime_at : Stmt := topS 56
def d_prime_at : He.DefD := ⟨("prime_at", none), "prime_at", "prime_at", defArgs s_prime_at, defBody s_prime_at, defScope s_prime_at, [], []⟩
abbrev s_table_at : Stmt := topS 58
def d_table_at : He.DefD := ⟨("table_at", none), "table_at", "table_at", defArgs s_table_at, defBody s_table_at, defScope s_table_at, [], []⟩
abbrev s_turn_at : Stmt := topS 59
def d_turn_at : He.DefD := ⟨("turn_at", none), "turn_at", "turn_at", defArgs s_turn_at, defBody s_turn_at, defScope s_turn_at, [], []⟩
abbrev s_act_at : Stmt := topS 60
def d_act_at : He.DefD := ⟨("act_at", none), "act_at", "act_at", defArgs s_act_at, defBody s_act_at, defScope s_act_at, [], []⟩
abbrev s_piece_at : Stmt := topS 61
def d_piece_at : He.DefD := ⟨("piece_at", none), "piece_at", "piece_at", defArgs s_piece_at, defBody s_piece_at, defScope s_piece_at, [], []⟩
abbrev s_rule_of_words : Stmt := topS 62
def d_rule_of_words : He.DefD := ⟨("rule_of_words", none), "rule_of_words", "rule_of_words", defArgs s_rule_of_words, defBody s_rule_of_words, defScope s_rule_of_words, [], []⟩
abbrev s_rule_read : Stmt := topS 63
def d_rule_read : He.DefD := ⟨("rule_read", none), "rule_read", "rule_read", defArgs s_rule_read, defBody s_rule_read, defScope s_rule_read, [], []⟩
abbrev s_is_rule : Stmt := topS 65
def d_is_rule : He.DefD := ⟨("is_rule", none), "is_rule", "is_rule", defArgs s_is_rule, defBody s_is_rule, defScope s_is_rule, [], []⟩
abbrev s_law_feed : Stmt := topS 67
def d_law_feed : He.DefD := ⟨("_law_feed", none), "_law_feed", "_law_feed", defArgs s_law_feed, defBody s_law_feed, defScope s_law_feed, [], []⟩
abbrev s_law_draw : Stmt := topS 68
def d_law_draw : He.DefD := ⟨("_law_draw", none), "_law_draw", "_law_draw", defArgs s_law_draw, defBody s_law_draw, defScope s_law_draw, [], []⟩
abbrev s_law_any : Stmt := topS 69
def d_law_any : He.DefD := ⟨("_law_any", none), "_law_any", "_law_any", defArgs s_law_any, defBody s_law_any, defScope s_law_any, [], []⟩
abbrev s_law_same : Stmt := topS 70
def d_law_same : He.DefD := ⟨("_law_same", none), "_law_same", "_law_same", defArgs s_law_same, defBody s_law_same, defScope s_law_same, [], []⟩
abbrev s_law_heard : Stmt := topS 71
def d_law_heard : He.DefD := ⟨("_law_heard", none), "_law_heard", "_law_heard", defArgs s_law_heard, defBody s_law_heard, defScope s_law_heard, [], []⟩
abbrev s_law_is_whole : Stmt := topS 72
def d_law_is_whole : He.DefD := ⟨("_law_is_whole", none), "_law_is_whole", "_law_is_whole", defArgs s_law_is_whole, defBody s_law_is_whole, defScope s_law_is_whole, [], []⟩
abbrev s_law_is_prime : Stmt := topS 73
def d_law_is_prime : He.DefD := ⟨("_law_is_prime", none), "_law_is_prime", "_law_is_prime", defArgs s_law_is_prime, defBody s_law_is_prime, defScope s_law_is_prime, [], []⟩
abbrev s_law_is_table : Stmt := topS 74
def d_law_is_table : He.DefD := ⟨("_law_is_table", none), "_law_is_table", "_law_is_table", defArgs s_law_is_table, defBody s_law_is_table, defScope s_law_is_table, [], []⟩
abbrev s_law_product : Stmt := topS 75
def d_law_product : He.DefD := ⟨("_law_product", none), "_law_product", "_law_product", defArgs s_law_product, defBody s_law_product, defScope s_law_product, [], []⟩
abbrev s_law_does_turn : Stmt := topS 76
def d_law_does_turn : He.DefD := ⟨("_law_does_turn", none), "_law_does_turn", "_law_does_turn", defArgs s_law_does_turn, defBody s_law_does_turn, defScope s_law_does_turn, [], []⟩
abbrev s_law_share : Stmt := topS 77
def d_law_share : He.DefD := ⟨("_law_share", none), "_law_share", "_law_share", defArgs s_law_share, defBody s_law_share, defScope s_law_share, [], []⟩
abbrev s_law_does_act : Stmt := topS 78
def d_law_does_act : He.DefD := ⟨("_law_does_act", none), "_law_does_act", "_law_does_act", defArgs s_law_does_act, defBody s_law_does_act, defScope s_law_does_act, [], []⟩
abbrev s_law_turns : Stmt := topS 79
def d_law_turns : He.DefD := ⟨("_law_turns", none), "_law_turns", "_law_turns", defArgs s_law_turns, defBody s_law_turns, defScope s_law_turns, [], []⟩
abbrev s_law_acts : Stmt := topS 80
def d_law_acts : He.DefD := ⟨("_law_acts", none), "_law_acts", "_law_acts", defArgs s_law_acts, defBody s_law_acts, defScope s_law_acts, [], []⟩
abbrev s_law_piece : Stmt := topS 81
def d_law_piece : He.DefD := ⟨("_law_piece", none), "_law_piece", "_law_piece", defArgs s_law_piece, defBody s_law_piece, defScope s_law_piece, [], []⟩
abbrev s_law_number : Stmt := topS 82
def d_law_number : He.DefD := ⟨("_law_number", none), "_law_number", "_law_number", defArgs s_law_number, defBody s_law_number, defScope s_law_number, [], []⟩
abbrev s_law_piece_text : Stmt := topS 83
def d_law_piece_text : He.DefD := ⟨("_law_piece_text", none), "_law_piece_text", "_law_piece_text", defArgs s_law_piece_text, defBody s_law_piece_text, defScope s_law_piece_text, [], []⟩
abbrev s_law_rows_in : Stmt := topS 84
def d_law_rows_in : He.DefD := ⟨("_law_rows_in", none), "_law_rows_in", "_law_rows_in", defArgs s_law_rows_in, defBody s_law_rows_in, defScope s_law_rows_in, [], []⟩
abbrev s_law_stands : Stmt := topS 85
def d_law_stands : He.DefD := ⟨("_law_stands", none), "_law_stands", "_law_stands", defArgs s_law_stands, defBody s_law_stands, defScope s_law_stands, [], []⟩
abbrev s_law_piece_at : Stmt := topS 86
def d_law_piece_at : He.DefD := ⟨("_law_piece_at", none), "_law_piece_at", "_law_piece_at", defArgs s_law_piece_at, defBody s_law_piece_at, defScope s_law_piece_at, [], []⟩
abbrev s_law_read : Stmt := topS 87
def d_law_read : He.DefD := ⟨("_law_read", none), "_law_read", "_law_read", defArgs s_law_read, defBody s_law_read, defScope s_law_read, [], []⟩
abbrev s_law_spoilt : Stmt := topS 88
def d_law_spoilt : He.DefD := ⟨("_law_spoilt", none), "_law_spoilt", "_law_spoilt", defArgs s_law_spoilt, defBody s_law_spoilt, defScope s_law_spoilt, [], []⟩
abbrev s_law_is_right : Stmt := topS 89
def d_law_is_right : He.DefD := ⟨("_law_is_right", none), "_law_is_right", "_law_is_right", defArgs s_law_is_right, defBody s_law_is_right, defScope s_law_is_right, [], []⟩
abbrev s_law : Stmt := topS 90
def d_law : He.DefD := ⟨("law", none), "law", "law", defArgs s_law, defBody s_law, defScope s_law, [], []⟩
abbrev s_init : Stmt := inClass (topS 8) 0
/-- the error of texts: its own __init__ -/
def d_init : He.DefD := ⟨("InvalidText", some "__init__"), "__init__", "InvalidText.__init__", defArgs s_init, defBody s_init, defScope s_init, [], []⟩
def fn1 : List He.DefD := [d_is_prime_by, d_common_of, d_power_at, d_table_one, d_table_times, d_table_power, d_is_integer, d_is_number, d_is_above_nought, d_is_index, d_is_power, d_is_tuple_of, d_is_prime, d_is_piece_shape, d_number_fault, d_is_table, d_turn_fault, d_act_fault, d_piece_fault, d_rule_fault, d_want, d_want_rule, d_table_word, d_piece_words, d_rule_text, d_number_of, d_word_at, d_number_within, d_prime_at, d_table_at]
def fn2 : List He.DefD := [d_turn_at, d_act_at, d_piece_at, d_rule_of_words, d_rule_read, d_is_rule, d_law_feed, d_law_draw, d_law_any, d_law_same, d_law_heard, d_law_is_whole, d_law_is_prime, d_law_is_table, d_law_product, d_law_does_turn, d_law_share, d_law_does_act, d_law_turns, d_law_acts, d_law_piece, d_law_number, d_law_piece_text, d_law_rows_in, d_law_stands, d_law_piece_at, d_law_read, d_law_spoilt, d_law_is_right, d_law]
def fnAll : List He.DefD := fn1 ++ fn2
def fa1 : List He.Fa := [.glo "GroupError", .glo "PaperError", .glo "CountError", .glo "LiveError", .glo "TextError", .glo "InvalidPaper", .glo "NotUsable", .glo "InvalidText", .glo "is_prime_by", .glo "common_of", .glo "power_at", .glo "table_one", .glo "table_times", .glo "table_power", .glo "is_integer", .glo "is_number", .glo "is_above_nought", .glo "is_index", .glo "is_power", .glo "is_tuple_of", .glo "is_prime", .glo "is_piece_shape", .glo "number_fault", .glo "is_table", .glo "turn_fault", .glo "act_fault", .glo "piece_fault", .glo "rule_fault", .glo "want", .glo "want_rule", .glo "table_word", .glo "piece_words", .glo "rule_text", .glo "number_of", .glo "word_at"]
def fa2 : List He.Fa := [.glo "number_within", .glo "prime_at", .glo "table_at", .glo "turn_at", .glo "act_at", .glo "piece_at", .glo "rule_of_words", .glo "rule_read", .glo "is_rule", .glo "_law_feed", .glo "_law_draw", .glo "_law_any", .glo "_law_same", .glo "_law_heard", .glo "_law_is_whole", .glo "_law_is_prime", .glo "_law_is_table", .glo "_law_product", .glo "_law_does_turn", .glo "_law_share", .glo "_law_does_act", .glo "_law_turns", .glo "_law_acts", .glo "_law_piece", .glo "_law_number", .glo "_law_piece_text", .glo "_law_rows_in", .glo "_law_stands", .glo "_law_piece_at", .glo "_law_read", .glo "_law_spoilt", .glo "_law_is_right", .glo "law", .glo "SIZES", .int "TOP" 10000]
def fa3 : List He.Fa := [.int "MOST_POWER" 6, .int "MOST_DIGITS" 60, .str "RING" "ring", .str "POWER" "power", .str "KNOT" "knot", .str "TURN" "turn", .str "ACT" "act", .str "BAR" "|", .str "SLASH" "/", .str "COMMA" ",", .str "DIGITS" "0123456789", .free "all", .free "bool", .free "enumerate", .free "int", .free "isinstance", .free "len", .free "list", .free "min", .free "range", .free "repr", .free "str", .free "sum", .free "super", .free "tuple", .free "ValueError", .exm "InvalidText" "GroupError" true, .keep "InvalidText"]
def faAll : List He.Fa := fa1 ++ fa2 ++ fa3
def loose0 : List Str := ["GroupError", "PaperError", "CountError", "LiveError", "TextError", "InvalidPaper", "NotUsable", "InvalidText", "TOP", "is_prime_by", "common_of", "power_at", "table_one", "table_times", "table_power", "MOST_POWER", "is_integer", "is_number", "is_above_nought", "is_index"]
def loose1 : List Str := ["is_power", "is_tuple_of", "is_prime", "RING", "POWER", "KNOT", "TURN", "ACT", "SIZES", "is_piece_shape", "number_fault", "is_table", "turn_fault", "act_fault", "piece_fault", "rule_fault", "want", "want_rule", "BAR", "SLASH"]
def loose2 : List Str := ["COMMA", "table_word", "piece_words", "rule_text", "DIGITS", "MOST_DIGITS", "number_of", "word_at", "number_within", "prime_at", "table_at", "turn_at", "act_at", "piece_at", "rule_of_words", "rule_read", "is_rule", "_law_feed", "_law_draw", "_law_any"]
def loose3 : List Str := ["_law_same", "_law_heard", "_law_is_whole", "_law_is_prime", "_law_is_table", "_law_product", "_law_does_turn", "_law_share", "_law_does_act", "_law_turns", "_law_acts", "_law_piece", "_law_number", "_law_piece_text", "_law_rows_in", "_law_stands", "_law_piece_at", "_law_read", "_law_spoilt", "_law_is_right"]
def looseAll : List Str := loose0 ++ loose1 ++ loose2 ++ loose3
def tabs : List He.Tab := [(fun K => He.ga K "SIZES", ["ring", "power", "knot", "turn", "act"])]
def tfs : List He.Defn := [("_law_is_right", none)]
end K13
set_option maxHeartbeats 2000000
/-! Evaluation over data: what an expression's reading gives, told by PyData; cells that the code itself changes are hidden. -/
namespace K13
open PySem L2
/-! ### the heap without some cells -/
def hid (A : Addr → Bool) (H : Hp) : Hp := fun b => if A b = true then none else H b
theorem hid_some {A : Addr → Bool} {H : Hp} {b : Addr} {o : HO} (h : hid A H b = some o) : A b = false ∧ H b = some o := by
  unfold hid at h
  by_cases e : A b = true
  · rw [if_pos e] at h; cases h
  · rw [if_neg e] at h; exact ⟨by simpa using e, h⟩
theorem hid_at {A : Addr → Bool} {H : Hp} {b : Addr} (h : A b = false) : hid A H b = H b := by
  unfold hid; rw [if_neg (by rw [h]; decide)]
theorem hid_same {A : Addr → Bool} {H H' : Hp} (e : ∀ b o, A b = false → H b = some o → H' b = some o) : Same (hid A H) (hid A H') := fun b o h => by
  obtain ⟨n, h⟩ := hid_some h
  rw [hid_at n]
  exact e b o n h
theorem hid_le {A B : Addr → Bool} {H : Hp} (h : ∀ b, B b = true → A b = true) : Same (hid A H) (hid B H) := fun b o e => by
  obtain ⟨n, e⟩ := hid_some e
  have nb : B b = false := by
    cases q : B b with
    | false => rfl
    | true => rw [h b q] at n; cases n
  rw [hid_at nb]
  exact e
theorem hid_to {A : Addr → Bool} {H : Hp} : Same (hid A H) H := fun _ _ e => (hid_some e).2
theorem Same.seqT {K : PySem.W.Frag} {H H' : Hp} {a : Addr} {xs : List V} (e : Same H H') (h : SqT K H a xs) : SqT K H' a xs := by
  rcases h with (h | ⟨o, h⟩) | h
  · exact .inl (.inl (e _ _ h))
  · exact .inl (.inr ⟨o, e _ _ h⟩)
  · exact .inr h
mutual
theorem dp_mono {K : PySem.W.Frag} {H H' : Hp} (e : Same H H') : ∀ {v : V} {d : PyData}, Dp K H v d → Dp K H' v d
  | _, _, .non => .non
  | _, _, .bl b => .bl b
  | _, _, .int i => .int i
  | _, _, .str x => .str x
  | _, _, .lst s a => .lst (e.seq s) (dpAll_mono e a)
  | _, _, .tup s a => .tup (Same.seqT e s) (dpAll_mono e a)
theorem dpAll_mono {K : PySem.W.Frag} {H H' : Hp} (e : Same H H') : ∀ {v : List V} {d : List PyData}, DpAll K H v d → DpAll K H' v d
  | _, _, .nil => .nil
  | _, _, .cons h t => .cons (dp_mono e h) (dpAll_mono e t)
end
theorem dp_non {K : PySem.W.Frag} {H : Hp} {v : V} (h : Dp K H v .none) : v = .non := by cases h; rfl
theorem dp_bl {K : PySem.W.Frag} {H : Hp} {v : V} {b : Bool} (h : Dp K H v (.bool b)) : v = .bl b := by cases h; rfl
theorem dp_int {K : PySem.W.Frag} {H : Hp} {v : V} {i : Int} (h : Dp K H v (.int i)) : v = .int i := by cases h; rfl
theorem dp_str {K : PySem.W.Frag} {H : Hp} {v : V} {x : Str} (h : Dp K H v (.str x)) : v = .str x := by cases h; rfl
theorem dp_lst {K : PySem.W.Frag} {H : Hp} {v : V} {ds : List PyData} (h : Dp K H v (.list ds)) : ∃ a vs, v = .ref a ∧ SqL K H a vs ∧ DpAll K H vs ds := by
  cases h with
  | lst s a => exact ⟨_, _, rfl, s, a⟩
theorem dp_tup {K : PySem.W.Frag} {H : Hp} {v : V} {ds : List PyData} (h : Dp K H v (.tuple ds)) : ∃ a vs, v = .ref a ∧ SqT K H a vs ∧ DpAll K H vs ds := by
  cases h with
  | tup s a => exact ⟨_, _, rfl, s, a⟩
theorem dpAll_len {K : PySem.W.Frag} {H : Hp} : ∀ {vs : List V} {ds : List PyData}, DpAll K H vs ds → vs.length = ds.length
  | _, _, .nil => rfl
  | _, _, .cons _ t => congrArg (· + 1) (dpAll_len t)
theorem dpAll_get {K : PySem.W.Frag} {H : Hp} : ∀ {vs : List V} {ds : List PyData} {i : Nat} {v : V}, DpAll K H vs ds → vs[i]? = some v → ∃ d, ds[i]? = some d ∧ Dp K H v d
  | _, _, _, _, .nil, e => by simp at e
  | _, _, 0, _, .cons h _, e => by
    simp at e; subst e; exact ⟨_, rfl, h⟩
  | _, _, i + 1, v, .cons _ t, e => by
    obtain ⟨d, h1, h2⟩ := dpAll_get (i := i) (v := v) t (by simpa using e)
    exact ⟨d, by simpa using h1, h2⟩
theorem dpAll_at {K : PySem.W.Frag} {H : Hp} : ∀ {vs : List V} {ds : List PyData} {i : Nat} {d : PyData}, DpAll K H vs ds → ds[i]? = some d → ∃ v, vs[i]? = some v ∧ Dp K H v d
  | _, _, _, _, .nil, e => by simp at e
  | _, _, 0, _, .cons h _, e => by
    simp at e; subst e; exact ⟨_, rfl, h⟩
  | _, _, i + 1, d, .cons _ t, e => by
    obtain ⟨v, h1, h2⟩ := dpAll_at (i := i) (d := d) t (by simpa using e)
    exact ⟨v, by simpa using h1, h2⟩
theorem dpAll_app {K : PySem.W.Frag} {H : Hp} : ∀ {vs ws : List V} {ds es : List PyData}, DpAll K H vs ds → DpAll K H ws es → DpAll K H (vs ++ ws) (ds ++ es)
  | _, _, _, _, .nil, s => s
  | _, _, _, _, .cons h t, s => .cons h (dpAll_app t s)
theorem dpAll_take {K : PySem.W.Frag} {H : Hp} : ∀ {vs : List V} {ds : List PyData} (n : Nat), DpAll K H vs ds → DpAll K H (vs.take n) (ds.take n)
  | _, _, 0, _ => .nil
  | _, _, _ + 1, .nil => .nil
  | _, _, n + 1, .cons h t => .cons h (dpAll_take n t)
theorem dpAll_drop {K : PySem.W.Frag} {H : Hp} : ∀ {vs : List V} {ds : List PyData} (n : Nat), DpAll K H vs ds → DpAll K H (vs.drop n) (ds.drop n)
  | _, _, 0, h => h
  | _, _, _ + 1, .nil => .nil
  | _, _, n + 1, .cons _ t => dpAll_drop n t
theorem dpAll_rev {K : PySem.W.Frag} {H : Hp} : ∀ {vs : List V} {ds : List PyData}, DpAll K H vs ds → DpAll K H vs.reverse ds.reverse
  | _, _, .nil => .nil
  | _, _, .cons h t => by
    rw [List.reverse_cons, List.reverse_cons]
    exact dpAll_app (dpAll_rev t) (.cons h .nil)
/-- all ints, all bools, all texts -/
theorem dpAll_ints {K : PySem.W.Frag} {H : Hp} : ∀ {ns : List Int} {vs : List V}, DpAll K H vs (ns.map .int) → vs = ns.map V.int
  | [], _, .nil => rfl
  | _ :: _, _, .cons h t => by rw [dp_int h, dpAll_ints t]; rfl
theorem dpAll_bls {K : PySem.W.Frag} {H : Hp} : ∀ {ns : List Bool} {vs : List V}, DpAll K H vs (ns.map .bool) → vs = ns.map V.bl
  | [], _, .nil => rfl
  | _ :: _, _, .cons h t => by rw [dp_bl h, dpAll_bls t]; rfl
theorem dpAll_strs {K : PySem.W.Frag} {H : Hp} : ∀ {ns : List Str} {vs : List V}, DpAll K H vs (ns.map .str) → vs = ns.map V.str
  | [], _, .nil => rfl
  | _ :: _, _, .cons h t => by rw [dp_str h, dpAll_strs t]; rfl
theorem dpAll_ofStrs {K : PySem.W.Frag} {H : Hp} : ∀ ns : List Str, DpAll K H (ns.map V.str) (ns.map .str)
  | [] => .nil
  | x :: r => .cons (.str x) (dpAll_ofStrs r)
theorem dpAll_ofInts {K : PySem.W.Frag} {H : Hp} : ∀ ns : List Int, DpAll K H (ns.map V.int) (ns.map .int)
  | [] => .nil
  | x :: r => .cons (.int x) (dpAll_ofInts r)

/-! ### slots -/
inductive Sl where
  | no
  | d (x : PyData)
  | own (xs : List PyData)
  | fd
/-- where a def runs: the written part, the feed's address (where it has one), what is hidden at the entry, the heap there -/
structure Ct where
  K : PySem.W.Frag
  fa : Option Addr
  A0 : Addr → Bool
  H0 : Hp
abbrev Alc (A : Addr → Bool) (H : Hp) : Prop := ∀ b, A b = true → ∃ o, H b = some o
theorem Alc.new {A : Addr → Bool} {H : Hp} {p : Addr} (al : Alc A H) (hp : H p = none) : A p = false := by
  cases q : A p with
  | false => rfl
  | true => obtain ⟨o, e⟩ := al p q; rw [hp] at e; cases e
/-- the feed of the draws: its cells, the place, what is left, how many draws -/
def FeedOk (K : PySem.W.Frag) (A : Addr → Bool) (H : Hp) (a : Addr) : Prop :=
  ∃ (l : Addr) (ns : List Int) (n m k : Int), H a = some (.dK [(.inr "cells", .ref l), (.inr "next", .int n), (.inr "left", .int m), (.inr "drawn", .int k)]) ∧ SqL K (hid A H) l (ns.map V.int) ∧ 0 ≤ n ∧ 0 ≤ m ∧ ns.length ≤ 63
theorem FeedOk.mono {K : PySem.W.Frag} {A A' : Addr → Bool} {H H' : Hp} {a : Addr} (h : FeedOk K A H a) (e : Same (hid A H) (hid A' H')) (ea : ∀ o, H a = some o → H' a = some o) : FeedOk K A' H' a := by
  obtain ⟨l, ns, n, m, k, h1, h2, h3⟩ := h
  exact ⟨l, ns, n, m, k, ea _ h1, e.seq h2, h3⟩
def SlOk (C : Ct) (A : Addr → Bool) (H : Hp) (s : Option (Option V)) : Option Sl → Prop
  | some (.d x) => ∃ v, s = some (some v) ∧ Dp C.K (hid A H) v x
  | some (.own xs) => ∃ l vs, s = some (some (.ref l)) ∧ A l = true ∧ C.fa ≠ some l ∧ C.H0 l = none ∧ H l = some (.lst vs) ∧ DpAll C.K (hid A H) vs xs
  | some .fd => ∃ a, s = some (some (.ref a)) ∧ C.fa = some a
  | _ => True
structure En (C : Ct) (A : Addr → Bool) (H : Hp) (σ : St) (ρ : List Sl) : Prop where
  keep : ∀ b o, C.H0 b = some o → C.fa ≠ some b → H b = some o
  al : Alc A H
  sub : ∀ b, C.A0 b = true → A b = true
  feed : ∀ a, C.fa = some a → A a = true ∧ FeedOk C.K A H a
  len : σ.length = ρ.length
  sl : ∀ i : Nat, SlOk C A H (σ[i]? : Option (Option V)) ρ[i]?
  inj : ∀ (i j : Nat) (l : Addr) (xs ys : List PyData), ρ[i]? = some (.own xs) → ρ[j]? = some (.own ys) → σ[i]? = some (some (.ref l)) → σ[j]? = some (some (.ref l)) → i = j
  al0 : Alc C.A0 C.H0
/-- all but the feed stays -/
abbrev Fr (C : Ct) (H H' : Hp) : Prop := ∀ b o, H b = some o → C.fa ≠ some b → H' b = some o
theorem Fr.refl {C : Ct} {H : Hp} : Fr C H H := fun _ _ e _ => e
theorem Fr.trans {C : Ct} {H H1 H2 : Hp} (a : Fr C H H1) (b : Fr C H1 H2) : Fr C H H2 := fun c o e n => b c o (a c o e n) n
theorem Fr.of {C : Ct} {H H' : Hp} (e : Same H H') : Fr C H H' := fun b o q _ => e b o q
section
variable {C : Ct} {A : Addr → Bool} {H H' : Hp} {σ : St} {ρ : List Sl}
theorem En.nofa (I : En C A H σ ρ) {b : Addr} (h : A b = false) : C.fa ≠ some b := fun e => by
  rw [(I.feed b e).1] at h; cases h
theorem En.fr_hid (I : En C A H σ ρ) (f : Fr C H H') : Same (hid A H) (hid A H') := hid_same fun b o n e => f b o e (I.nofa n)
theorem En.fr (I : En C A H σ ρ) (f : Fr C H H') (hf : ∀ a, C.fa = some a → FeedOk C.K A H' a) : En C A H' σ ρ where
  keep := fun b o e n => f b o (I.keep b o e n) n
  al := fun b h => by
    by_cases e : C.fa = some b
    · obtain ⟨_, _, _, _, _, q, _⟩ := hf b e
      exact ⟨_, q⟩
    · obtain ⟨o, q⟩ := I.al b h
      exact ⟨o, f b o q e⟩
  sub := I.sub
  feed := fun a e => ⟨(I.feed a e).1, hf a e⟩
  len := I.len
  sl := fun i => by
    have q := I.sl i
    have S := I.fr_hid f
    cases e : ρ[i]? with
    | none => trivial
    | some s =>
      rw [e] at q
      cases s with
      | no => trivial
      | d x => obtain ⟨v, h1, h2⟩ := q; exact ⟨v, h1, dp_mono S h2⟩
      | own xs => obtain ⟨l, vs, h1, h2, h3, h4, h5, h6⟩ := q; exact ⟨l, vs, h1, h2, h3, h4, f l _ h5 h3, dpAll_mono S h6⟩
      | fd => exact q
  inj := I.inj
  al0 := I.al0
theorem En.same (I : En C A H σ ρ) (e : Same H H') : En C A H' σ ρ :=
  I.fr (Fr.of e) fun a h => (I.feed a h).2.mono (hid_same fun b o _ q => e b o q) fun o q => e a o q
/-- a new cell -/
theorem Same.new {H : Hp} {p : Addr} {o : HO} (h : H p = none) : Same H (upd H p o) := fun b u e => by
  rw [upd_ne (ne_of_none e h)]; exact e
theorem En.upd (I : En C A H σ ρ) {p : Addr} {o : HO} (h : H p = none) : En C A (upd H p o) σ ρ := I.same (Same.new h)
theorem dp_newL {K : PySem.W.Frag} {vs : List V} {ds : List PyData} {p : Addr} (al : Alc A H) (hp : H p = none) (h : DpAll K (hid A H) vs ds) : Dp K (hid A (L2.upd H p (.lst vs))) (.ref p) (.list ds) := by
  refine .lst (SqL.of ?_) (dpAll_mono (hid_same fun b o _ q => Same.new hp b o q) h)
  rw [hid_at (al.new hp), upd_same]
theorem dp_newT {K : PySem.W.Frag} {vs : List V} {ds : List PyData} {p : Addr} (al : Alc A H) (hp : H p = none) (h : DpAll K (hid A H) vs ds) : Dp K (hid A (L2.upd H p (.tup vs))) (.ref p) (.tuple ds) := by
  refine .tup (SqT.of ?_) (dpAll_mono (hid_same fun b o _ q => Same.new hp b o q) h)
  rw [hid_at (al.new hp), upd_same]
/-- a slot set to data -/
theorem En.set (I : En C A H σ ρ) {i : Nat} {v : V} {x : PyData} (h : Dp C.K (hid A H) v x) : En C A H (σ.set i (some v)) (ρ.set i (.d x)) where
  keep := I.keep
  al := I.al
  sub := I.sub
  feed := I.feed
  al0 := I.al0
  len := by rw [List.length_set, List.length_set]; exact I.len
  sl := fun j => by
    by_cases e : i = j
    · subst e
      by_cases hi : i < σ.length
      · rw [List.getElem?_set_self hi, List.getElem?_set_self (by rw [← I.len]; exact hi)]
        exact ⟨v, rfl, h⟩
      · rw [List.getElem?_eq_none (l := ρ.set i (.d x)) (by rw [List.length_set, ← I.len]; omega)]
        trivial
    · rw [List.getElem?_set_ne e, List.getElem?_set_ne e]
      exact I.sl j
  inj := fun a b l xs ys h1 h2 h3 h4 => by
    by_cases ea : i = a
    · subst ea
      by_cases hi : i < ρ.length
      · rw [List.getElem?_set_self hi] at h1; cases h1
      · rw [List.getElem?_eq_none (by rw [List.length_set]; omega)] at h1; cases h1
    · by_cases eb : i = b
      · subst eb
        by_cases hi : i < ρ.length
        · rw [List.getElem?_set_self hi] at h2; cases h2
        · rw [List.getElem?_eq_none (by rw [List.length_set]; omega)] at h2; cases h2
      · rw [List.getElem?_set_ne ea] at h1 h3
        rw [List.getElem?_set_ne eb] at h2 h4
        exact I.inj a b l xs ys h1 h2 h3 h4
end
theorem En.no0 {C : Ct} {A : Addr → Bool} {H : Hp} {σ : L2.St} {ρ : List Sl} (I : En C A H σ ρ) {D : Addr} (h : H D = none) : C.fa ≠ some D ∧ C.H0 D = none := by
  have hf : C.fa ≠ some D := fun e => by
    obtain ⟨_, _, _, _, _, q, _⟩ := (I.feed D e).2
    rw [h] at q; cases q
  refine ⟨hf, ?_⟩
  cases q : C.H0 D with
  | none => rfl
  | some o => rw [I.keep D o q hf] at h; cases h
def wipeR (ρ : List Sl) : List Nat → List Sl
  | [] => ρ
  | v :: vs => (wipeR ρ vs).set v .no
theorem wipe_at {σ : St} {i : Nat} : ∀ {vs : List Nat}, (wipe σ vs)[i]? = if i ∈ vs then (if i < σ.length then some none else none) else σ[i]?
  | [] => by simp [wipe]
  | v :: vs => by
    show ((wipe σ vs).set v none)[i]? = _
    by_cases e : v = i
    · subst e
      by_cases h : v < σ.length
      · rw [List.getElem?_set_self (by rw [wipe_length]; exact h)]; simp [h]
      · rw [List.getElem?_eq_none (by rw [List.length_set, wipe_length]; omega)]; simp [h]
    · rw [List.getElem?_set_ne e, wipe_at]
      have : (i ∈ v :: vs) = (i ∈ vs) := by simp [Ne.symm e]
      simp only [this]
theorem wipeR_len {ρ : List Sl} : ∀ {vs : List Nat}, (wipeR ρ vs).length = ρ.length
  | [] => rfl
  | v :: vs => by show ((wipeR ρ vs).set v .no).length = _; rw [List.length_set, wipeR_len]
theorem wipeR_at {ρ : List Sl} {i : Nat} : ∀ {vs : List Nat}, (wipeR ρ vs)[i]? = if i ∈ vs then (if i < ρ.length then some .no else none) else ρ[i]?
  | [] => by simp [wipeR]
  | v :: vs => by
    show ((wipeR ρ vs).set v .no)[i]? = _
    by_cases e : v = i
    · subst e
      by_cases h : v < ρ.length
      · rw [List.getElem?_set_self (by rw [wipeR_len]; exact h)]; simp [h]
      · rw [List.getElem?_eq_none (by rw [List.length_set, wipeR_len]; omega)]; simp [h]
    · rw [List.getElem?_set_ne e, wipeR_at]
      have : (i ∈ v :: vs) = (i ∈ vs) := by simp [Ne.symm e]
      simp only [this]
theorem wipe_set {σ : St} {j : Nat} {o : Option V} {vs : List Nat} (h : j ∈ vs) : wipe ((wipe σ vs).set j o) vs = wipe σ vs := by
  apply List.ext_getElem?
  intro i
  rw [wipe_at, List.length_set, wipe_length]
  by_cases hi : i ∈ vs
  · rw [if_pos hi, wipe_at, if_pos hi]
  · rw [if_neg hi, List.getElem?_set_ne (fun e : j = i => hi (by rw [← e]; exact h))]
theorem En.wipe {C : Ct} {A : Addr → Bool} {H : Hp} {σ : St} {ρ : List Sl} (I : En C A H σ ρ) (vs : List Nat) : En C A H (L2.wipe σ vs) (wipeR ρ vs) where
  keep := I.keep
  al := I.al
  sub := I.sub
  feed := I.feed
  al0 := I.al0
  len := by rw [wipe_length, wipeR_len]; exact I.len
  sl := fun i => by
    rw [wipe_at, wipeR_at]
    by_cases h : i ∈ vs
    · rw [if_pos h, if_pos h]
      by_cases h2 : i < ρ.length
      · rw [if_pos h2]; trivial
      · rw [if_neg h2]; trivial
    · rw [if_neg h, if_neg h]
      exact I.sl i
  inj := fun i j l xs ys h1 h2 h3 h4 => by
    rw [wipeR_at] at h1 h2
    rw [wipe_at] at h3 h4
    by_cases hi : i ∈ vs
    · rw [if_pos hi] at h1; split at h1 <;> cases h1
    · by_cases hj : j ∈ vs
      · rw [if_pos hj] at h2; split at h2 <;> cases h2
      · rw [if_neg hi] at h1 h3
        rw [if_neg hj] at h2 h4
        exact I.inj i j l xs ys h1 h2 h3 h4
end K13
set_option maxHeartbeats 2000000
/-! Evaluation of expressions over data. -/
namespace K13
open PySem L2
/-- an InvalidText's own dict -/
abbrev xdF (f : Int) : HO := .xd [(("field" : Str), .int f), (("line" : Str), .int 0)]
/-- what the judgements carry: the written part, the text error's class, what is wanted of an exception that leaves, which fields it may tell -/
structure Gd where
  K : PySem.W.Frag
  CT : Addr
  E : XK
  F : Int → Prop
/-- an exception of the text error's class leaves with a field that may be told -/
abbrev Xq (G : Gd) (C : Ct) : Prop := ∀ (f : Int) (dd : Addr) (H' : Hp), (∀ b o, C.H0 b = some o → C.fa ≠ some b → H' b = some o) → C.H0 dd = none → H' dd = some (xdF f) → G.F f → G.E (.ref G.CT) (some dd) H'
abbrev DP := PyData → Prop
/-- an expression's reading gives a datum of which P holds -/
def Ev (G : Gd) (t : TE) (ρ : List Sl) (P : DP) : Prop := ∀ (C : Ct) (A : Addr → Bool) (H : Hp) (σ : L2.St) (Q : VK), C.K = G.K → En C A H σ ρ → Xq G C →
  (∀ (v : V) (d : PyData) (H' : Hp), En C A H' σ ρ → Fr C H H' → (∀ b, H' b = none → H b = none) → Dp C.K (hid A H') v d → P d → Q v H') → t σ H Q
def EvT (G : Gd) (t : TT) (ρ : List Sl) (P : Bool → Prop) : Prop := ∀ (C : Ct) (A : Addr → Bool) (H : Hp) (σ : L2.St) (Q : Bool → Hp → Prop), C.K = G.K → En C A H σ ρ → Xq G C →
  (∀ (b : Bool) (H' : Hp), En C A H' σ ρ → Fr C H H' → (∀ b, H' b = none → H b = none) → P b → Q b H') → t σ H Q
def EvA (G : Gd) (t : TA) (ρ : List Sl) (P : List PyData → Prop) : Prop := ∀ (C : Ct) (A : Addr → Bool) (H : Hp) (σ : L2.St) (Q : List V → Hp → Prop), C.K = G.K → En C A H σ ρ → Xq G C →
  (∀ (vs : List V) (ds : List PyData) (H' : Hp), En C A H' σ ρ → Fr C H H' → (∀ b, H' b = none → H b = none) → DpAll C.K (hid A H') vs ds → P ds → Q vs H') → t σ H Q
/-- new cells come, none goes -/
theorem nn_of {H H' : Hp} (e : Same H H') : ∀ b, H' b = none → H b = none := fun b h => e.free h
section
variable {G : Gd} {ρ : List Sl} {t ta tb tc : TE} {u v : TT} {P P1 P2 P3 : DP} {x y z d : PyData}
theorem Ev.imp (h : Ev G t ρ P) (k : ∀ d, P d → P1 d) : Ev G t ρ P1 := fun C A H σ Q hk I X q => h C A H σ Q hk I X fun v d H' a b c e p => q v d H' a b c e (k d p)
theorem Ev.is (h : Ev G t ρ (· = x)) (e : x = y) : Ev G t ρ (· = y) := h.imp fun d p => p.trans e
theorem EvT.imp {P P1 : Bool → Prop} (h : EvT G u ρ P) (k : ∀ d, P d → P1 d) : EvT G u ρ P1 := fun C A H σ Q hk I X q => h C A H σ Q hk I X fun d H' a b c p => q d H' a b c (k d p)
theorem EvA.imp {ta : TA} {P P1 : List PyData → Prop} (h : EvA G ta ρ P) (k : ∀ d, P d → P1 d) : EvA G ta ρ P1 := fun C A H σ Q hk I X q => h C A H σ Q hk I X fun vs d H' a b c e p => q vs d H' a b c e (k d p)
/-! names, constants -/
theorem ev_var {i : Nat} (h : ρ[i]? = some (.d x)) : Ev G (tVar i) ρ (· = x) := fun C A H σ Q hk I X q => by
  have s := I.sl i
  rw [h] at s
  obtain ⟨v, e, dv⟩ := s
  exact ⟨v, e, q v x H I Fr.refl (fun _ z => z) dv rfl⟩
theorem ev_c {v : V} (h : ∀ K H, Dp K H v x) : Ev G (tC v) ρ (· = x) := fun C A H σ Q hk I X q => q v x H I Fr.refl (fun _ z => z) (h _ _) rfl
theorem ev_int {i : Int} : Ev G (tC (.int i)) ρ (· = .int i) := ev_c fun _ _ => .int i
theorem ev_bl {i : Bool} : Ev G (tC (.bl i)) ρ (· = .bool i) := ev_c fun _ _ => .bl i
theorem ev_str {i : Str} : Ev G (tC (.str i)) ρ (· = .str i) := ev_c fun _ _ => .str i
theorem ev_non : Ev G (tC .non) ρ (· = .none) := ev_c fun _ _ => .non
/-! operators by values -/
def Rv (K : PySem.W.Frag) (r : R2) (x y : PyData) (P : DP) : Prop := ∀ (A : Addr → Bool) (H : Hp) (v w : V) (Q : VK), Alc A H → Dp K (hid A H) v x → Dp K (hid A H) w y →
  (∀ (z : V) (d : PyData) (H' : Hp), Same H H' → Dp K (hid A H') z d → P d → Q z H') → r v w H Q
theorem ev_opg {r : R2} (ha : Ev G ta ρ P1) (hb : Ev G tb ρ P2) (hr : ∀ x y, P1 x → P2 y → Rv G.K r x y P) : Ev G (tOp r ta tb) ρ P := fun C A H σ Q hk I X q =>
  ha C A H σ _ hk I X fun v x H1 I1 f1 n1 d1 p1 => hb C A H1 σ _ hk I1 X fun w y H2 I2 f2 n2 d2 p2 => by
    refine hr x y p1 p2 A H2 v w Q I2.al (hk ▸ dp_mono (I1.fr_hid f2) d1) (hk ▸ d2) fun z d H3 s3 d3 p3 => ?_
    exact q z d H3 (I2.same s3) ((f1.trans f2).trans (Fr.of s3)) (fun b e => n1 b (n2 b (nn_of s3 b e))) (hk ▸ d3) p3
theorem ev_op {r : R2} (ha : Ev G ta ρ (· = x)) (hb : Ev G tb ρ (· = y)) (hr : Rv G.K r x y P) : Ev G (tOp r ta tb) ρ P := ev_opg ha hb (fun _ _ h1 h2 => by rw [h1, h2]; exact hr)
theorem rv_pure {K : PySem.W.Frag} {r : R2} {g : V} (hg : ∀ K H, Dp K H g d) (h : ∀ A H v w Q, Dp K (hid A H) v x → Dp K (hid A H) w y → Q g H → r v w H Q) : Rv K r x y (· = d) := fun A H v w Q al d1 d2 q =>
  h A H v w Q d1 d2 (q g d H (Same.refl H) (hg _ _) rfl)
variable {K : PySem.W.Frag} {i j : Int}
theorem rv_I0 {g : Int → Int → V} {e : PyData} (he : ∀ K H, Dp K H (g i j) e) : Rv K (rI0 g) (.int i) (.int j) (· = e) := rv_pure he fun A H v w Q d1 d2 q => ⟨i, j, dp_int d1, dp_int d2, q⟩
theorem rv_I {c : Int → Int → Prop} {g : Int → Int → V} {e : PyData} (he : ∀ K H, Dp K H (g i j) e) (hc : c i j) : Rv K (rI c g) (.int i) (.int j) (· = e) := rv_pure he fun A H v w Q d1 d2 q => ⟨i, j, dp_int d1, dp_int d2, hc, q⟩
theorem rv_add : Rv K (rI0 fun i j => .int (i + j)) (.int i) (.int j) (· = .int (i + j)) := rv_I0 fun _ _ => .int _
theorem rv_sub : Rv K (rI0 fun i j => .int (i - j)) (.int i) (.int j) (· = .int (i - j)) := rv_I0 fun _ _ => .int _
theorem rv_mod (h : 0 < j) : Rv K (rI (fun _ j => 0 < j) fun i j => .int (i % j)) (.int i) (.int j) (· = .int (i % j)) := rv_I (fun _ _ => .int _) h
theorem rv_mul (h : CMul i j) : Rv K (rI CMul fun i j => .int (i * j)) (.int i) (.int j) (· = .int (i * j)) := rv_I (fun _ _ => .int _) h
theorem rv_div (h : CDiv i j) : Rv K (rI CDiv fun i j => .int (i / j)) (.int i) (.int j) (· = .int (i / j)) := rv_I (fun _ _ => .int _) h
theorem rv_pow (h : CPow i j) : Rv K (rI CPow fun i j => .int (i ^ j.toNat)) (.int i) (.int j) (· = .int (i ^ j.toNat)) := rv_I (fun _ _ => .int _) h
theorem rv_lt : Rv K (rI0 fun i j => .bl (decide (i < j))) (.int i) (.int j) (· = .bool (decide (i < j))) := rv_I0 fun _ _ => .bl _
theorem rv_le : Rv K (rI0 fun i j => .bl (decide (i ≤ j))) (.int i) (.int j) (· = .bool (decide (i ≤ j))) := rv_I0 fun _ _ => .bl _
theorem rv_gt : Rv K (rI0 fun i j => .bl (decide (j < i))) (.int i) (.int j) (· = .bool (decide (j < i))) := rv_I0 fun _ _ => .bl _
theorem rv_ge : Rv K (rI0 fun i j => .bl (decide (j ≤ i))) (.int i) (.int j) (· = .bool (decide (j ≤ i))) := rv_I0 fun _ _ => .bl _
theorem rv_eqI : Rv K rEq (.int i) (.int j) (· = .bool (decide (i = j))) := rv_pure (g := .bl (decide (i = j))) (fun _ _ => .bl _) fun A H v w Q d1 d2 q => by
  rw [dp_int d1, dp_int d2]
  refine ⟨rfl, ?_⟩
  rw [dec_int, Bool.beq_eq_decide_eq]; exact q
theorem rv_neI : Rv K rNe (.int i) (.int j) (· = .bool (!decide (i = j))) := rv_pure (g := .bl (!decide (i = j))) (fun _ _ => .bl _) fun A H v w Q d1 d2 q => by
  rw [dp_int d1, dp_int d2]
  refine ⟨rfl, ?_⟩
  rw [dec_int, Bool.beq_eq_decide_eq]; exact q
theorem rv_eqS {a b : Str} : Rv K rEq (.str a) (.str b) (· = .bool (decide (a = b))) := rv_pure (g := .bl (decide (a = b))) (fun _ _ => .bl _) fun A H v w Q d1 d2 q => by
  rw [dp_str d1, dp_str d2]
  refine ⟨rfl, ?_⟩
  rw [dec_str, Bool.beq_eq_decide_eq]; exact q
theorem rv_neS {a b : Str} : Rv K rNe (.str a) (.str b) (· = .bool (!decide (a = b))) := rv_pure (g := .bl (!decide (a = b))) (fun _ _ => .bl _) fun A H v w Q d1 d2 q => by
  rw [dp_str d1, dp_str d2]
  refine ⟨rfl, ?_⟩
  rw [dec_str, Bool.beq_eq_decide_eq]; exact q
theorem dp_isN {K : PySem.W.Frag} {H : Hp} {v : V} {x : PyData} (h : Dp K H v x) : decide (v = .non) = match x with | .none => true | _ => false := by
  cases h <;> rfl
def isNone : PyData → Bool
  | .none => true
  | _ => false
theorem rv_isN : Rv K (fun x y H Q => y = .non ∧ Q (.bl (decide (x = .non))) H) x .none (· = .bool (isNone x)) := rv_pure (g := .bl (isNone x)) (fun _ _ => .bl _) fun A H v w Q d1 d2 q => by
  refine ⟨dp_non d2, ?_⟩
  have e : decide (v = V.non) = isNone x := by cases d1 <;> rfl
  rw [e]; exact q
theorem rv_notN : Rv K (fun x y H Q => y = .non ∧ Q (.bl (!decide (x = .non))) H) x .none (· = .bool (!isNone x)) := rv_pure (g := .bl (!isNone x)) (fun _ _ => .bl _) fun A H v w Q d1 d2 q => by
  refine ⟨dp_non d2, ?_⟩
  have e : decide (v = V.non) = isNone x := by cases d1 <;> rfl
  rw [e]; exact q
theorem rv_addS {a b : Str} (h : a.length + b.length ≤ 16777216) : Rv K (fun x y H Q => ∃ i j, x = .str i ∧ y = .str j ∧ i.length + j.length ≤ sizeLine ∧ Q (.str (i ++ j)) H) (.str a) (.str b) (· = .str (a ++ b)) :=
  rv_pure (g := .str (a ++ b)) (fun _ _ => .str _) fun A H v w Q d1 d2 q => ⟨a, b, dp_str d1, dp_str d2, by rw [sizeLine_eq]; exact h, q⟩
theorem rv_inSign {c : Nat} {z : Str} : Rv K (fun x y H Q => ∃ (c : Nat) (z : Str), x = .str ⟨#[c]⟩ ∧ y = .str z ∧ Q (.bl (decide (c ∈ z.cps.toList))) H) (.str ⟨#[c]⟩) (.str z) (· = .bool (decide (c ∈ z.cps.toList))) :=
  rv_pure (g := .bl (decide (c ∈ z.cps.toList))) (fun _ _ => .bl _) fun A H v w Q d1 d2 q => ⟨c, z, dp_str d1, dp_str d2, q⟩
theorem rv_notInSign {c : Nat} {z : Str} : Rv K (fun x y H Q => ∃ (c : Nat) (z : Str), x = .str ⟨#[c]⟩ ∧ y = .str z ∧ Q (.bl (!decide (c ∈ z.cps.toList))) H) (.str ⟨#[c]⟩) (.str z) (· = .bool (!decide (c ∈ z.cps.toList))) :=
  rv_pure (g := .bl (!decide (c ∈ z.cps.toList))) (fun _ _ => .bl _) fun A H v w Q d1 d2 q => ⟨c, z, dp_str d1, dp_str d2, q⟩
/-! items -/
theorem atI_some {vs : List V} {ds : List PyData} {H : Hp} (h : DpAll K H vs ds) {i : Int} (e : atI ds i = some d) : ∃ v, atI vs i = some v ∧ Dp K H v d := by
  unfold atI at e ⊢
  rw [dpAll_len h]
  cases q : ixN ds.length i with
  | none => rw [q] at e; cases e
  | some j =>
    rw [q] at e
    exact dpAll_at h e
theorem rv_ixT {ds : List PyData} (h : atI ds i = some d) : Rv K (rIxT K) (.tuple ds) (.int i) (· = d) := fun A H v w Q al d1 d2 q => by
  obtain ⟨a, vs, rfl, s, da⟩ := dp_tup d1
  obtain ⟨u, hu, du⟩ := atI_some da h
  exact ⟨a, vs, i, u, rfl, dp_int d2, Same.seqT hid_to s, hu, q u d H (Same.refl H) du rfl⟩
theorem rv_ixL {ds : List PyData} (h : atI ds i = some d) : Rv K (rIxL K) (.list ds) (.int i) (· = d) := fun A H v w Q al d1 d2 q => by
  obtain ⟨a, vs, rfl, s, da⟩ := dp_lst d1
  obtain ⟨u, hu, du⟩ := atI_some da h
  exact ⟨a, vs, i, u, rfl, dp_int d2, Same.seq hid_to s, hu, q u d H (Same.refl H) du rfl⟩
theorem rv_ixS {z : Str} {c : Nat} (hz : z.length ≤ 16777216) (h : atI z.cps.toList i = some c) : Rv K rIxS (.str z) (.int i) (· = .str ⟨#[c]⟩) :=
  rv_pure (g := .str ⟨#[c]⟩) (fun _ _ => .str _) fun A H v w Q d1 d2 q => ⟨z, i, c, dp_str d1, dp_int d2, by rw [sizeLine_eq]; exact hz, h, q⟩
/-! in a list or tuple of flat things -/
def flatD : PyData → Option V
  | .none => some .non
  | .bool b => some (.bl b)
  | .int i => some (.int i)
  | .str x => some (.str x)
  | _ => none
theorem flatD_v {H : Hp} {v : V} (h : Dp K H v x) {w : V} (e : flatD x = some w) : v = w := by
  cases h <;> first | exact Option.some.inj e | cases e
theorem flatD_flat {w : V} (e : flatD x = some w) : flatV w = true := by
  cases x <;> first | (cases e; rfl) | cases e
theorem rv_in {neg : Bool} {x : PyData} {w : V} {ds : List PyData} {ws : List V} (hx : flatD x = some w) (hd : ds.map flatD = ws.map some) {s : PyData} (hs : s = .list ds ∨ s = .tuple ds) :
    Rv K (rIn K neg) x s (· = .bool (if neg then !inV w ws else inV w ws)) := rv_pure (g := .bl (if neg then !inV w ws else inV w ws)) (fun _ _ => .bl _) fun A H v u Q d1 d2 q => by
  have key : ∀ {ds : List PyData} {ws vs : List V} {H : Hp}, DpAll K H vs ds → ds.map flatD = ws.map some → vs = ws ∧ ws.all flatV = true := by
    intro ds
    induction ds with
    | nil =>
      intro ws vs H h e
      cases h
      cases ws with
      | nil => exact ⟨rfl, rfl⟩
      | cons _ _ => simp at e
    | cons d r ih =>
      intro ws vs H h e
      cases h with
      | cons h1 h2 =>
        cases ws with
        | nil => simp at e
        | cons w0 wr =>
          simp only [List.map_cons, List.cons.injEq] at e
          obtain ⟨e1, e2⟩ := e
          obtain ⟨g1, g2⟩ := ih h2 e2
          rw [flatD_v h1 e1, g1]
          exact ⟨rfl, by simp [List.all_cons, flatD_flat e1, g2]⟩
  have ev := flatD_v d1 hx
  subst ev
  rcases hs with e | e
  · subst e
    obtain ⟨a, vs, rfl, sq, da⟩ := dp_lst d2
    obtain ⟨rfl, fl⟩ := key da hd
    exact ⟨a, vs, rfl, .inl (Same.seq hid_to sq), flatD_flat hx, fl, q⟩
  · subst e
    obtain ⟨a, vs, rfl, sq, da⟩ := dp_tup d2
    obtain ⟨rfl, fl⟩ := key da hd
    exact ⟨a, vs, rfl, .inr (Same.seqT hid_to sq), flatD_flat hx, fl, q⟩
/-! equality of data -/
theorem rv_eqD (hx : SeqAt.shaped x = true) (hy : SeqAt.shaped y = true) : Rv K (rEqD K) x y (· = .bool (PyData.eqv x y)) :=
  rv_pure (g := .bl (PyData.eqv x y)) (fun _ _ => .bl _) fun A H v w Q d1 d2 q => ⟨x, y, dp_mono hid_to d1, dp_mono hid_to d2, hx, hy, q⟩
theorem rv_neD (hx : SeqAt.shaped x = true) (hy : SeqAt.shaped y = true) : Rv K (rNeD K) x y (· = .bool (!PyData.eqv x y)) :=
  rv_pure (g := .bl (!PyData.eqv x y)) (fun _ _ => .bl _) fun A H v w Q d1 d2 q => ⟨x, y, dp_mono hid_to d1, dp_mono hid_to d2, hx, hy, q⟩
/-! tests, and, or, not -/
variable {b c : Bool} {Pb Pc Pd : Bool → Prop}
theorem et_test (h : Ev G t ρ (· = .bool b)) : EvT G (tTest t) ρ (· = b) := fun C A H σ Q hk I X q => h C A H σ _ hk I X fun v d H' I' f n dv p => by
  rw [p] at dv
  exact ⟨b, dp_bl dv, q b H' I' f n rfl⟩
theorem et_B (h : Ev G t ρ (· = .bool b)) : EvT G (tB t) ρ (· = b) := et_test h
theorem et_testg (h : Ev G t ρ P) (hp : ∀ d, P d → ∃ b, d = .bool b ∧ Pb b) : EvT G (tTest t) ρ Pb := fun C A H σ Q hk I X q => h C A H σ _ hk I X fun v d H' I' f n dv p => by
  obtain ⟨b, e, pb⟩ := hp d p
  rw [e] at dv
  exact ⟨b, dp_bl dv, q b H' I' f n pb⟩
theorem et_Bg (h : Ev G t ρ P) (hp : ∀ d, P d → ∃ b, d = .bool b ∧ Pb b) : EvT G (tB t) ρ Pb := et_testg h hp
theorem et_not (h : EvT G u ρ (· = b)) : EvT G (tNot u) ρ (· = !b) := fun C A H σ Q hk I X q => h C A H σ _ hk I X fun d H' I' f n p => q (!d) H' I' f n (by rw [p])
theorem et_is (h : EvT G u ρ (· = b)) (e : b = c) : EvT G u ρ (· = c) := h.imp fun d p => p.trans e
theorem et_and (h1 : EvT G u ρ (· = b)) (h2 : b = true → EvT G v ρ (· = c)) : EvT G (tAnd u v) ρ (· = (b && c)) := fun C A H σ Q hk I X q => h1 C A H σ _ hk I X fun d H1 I1 f1 n1 p1 => by
  cases b with
  | true =>
    rw [p1, if_pos rfl]
    exact h2 rfl C A H1 σ _ hk I1 X fun d2 H2 I2 f2 n2 p2 => q d2 H2 I2 (f1.trans f2) (fun b e => n1 b (n2 b e)) (by rw [p2]; rfl)
  | false =>
    rw [p1, if_neg Bool.false_ne_true]
    exact q false H1 I1 f1 n1 rfl
theorem et_or (h1 : EvT G u ρ (· = b)) (h2 : b = false → EvT G v ρ (· = c)) : EvT G (tOr u v) ρ (· = (b || c)) := fun C A H σ Q hk I X q => h1 C A H σ _ hk I X fun d H1 I1 f1 n1 p1 => by
  cases b with
  | true =>
    rw [p1, if_pos rfl]
    exact q true H1 I1 f1 n1 rfl
  | false =>
    rw [p1, if_neg Bool.false_ne_true]
    exact h2 rfl C A H1 σ _ hk I1 X fun d2 H2 I2 f2 n2 p2 => q d2 H2 I2 (f1.trans f2) (fun b e => n1 b (n2 b e)) (by rw [p2]; rfl)
theorem ev_andV (h1 : Ev G ta ρ (· = .bool b)) (h2 : b = true → Ev G tb ρ (· = .bool c)) : Ev G (tAndV ta tb) ρ (· = .bool (b && c)) := fun C A H σ Q hk I X q => h1 C A H σ _ hk I X fun v d H1 I1 f1 n1 d1 p1 => by
  rw [p1] at d1
  refine ⟨b, dp_bl d1, ?_⟩
  cases b with
  | true =>
    rw [if_pos rfl]
    exact h2 rfl C A H1 σ _ hk I1 X fun w d2 H2 I2 f2 n2 e2 p2 => q w d2 H2 I2 (f1.trans f2) (fun b e => n1 b (n2 b e)) e2 (by rw [p2]; rfl)
  | false =>
    rw [if_neg Bool.false_ne_true]
    exact q _ _ H1 I1 f1 n1 (.bl false) rfl
theorem ev_orV (h1 : Ev G ta ρ (· = .bool b)) (h2 : b = false → Ev G tb ρ (· = .bool c)) : Ev G (tOrV ta tb) ρ (· = .bool (b || c)) := fun C A H σ Q hk I X q => h1 C A H σ _ hk I X fun v d H1 I1 f1 n1 d1 p1 => by
  rw [p1] at d1
  refine ⟨b, dp_bl d1, ?_⟩
  cases b with
  | true =>
    rw [if_pos rfl]
    exact q _ _ H1 I1 f1 n1 (.bl true) rfl
  | false =>
    rw [if_neg Bool.false_ne_true]
    exact h2 rfl C A H1 σ _ hk I1 X fun w d2 H2 I2 f2 n2 e2 p2 => q w d2 H2 I2 (f1.trans f2) (fun b e => n1 b (n2 b e)) e2 (by rw [p2]; rfl)
theorem ev_notV (h1 : Ev G ta ρ (· = .bool b)) : Ev G (tNotV ta) ρ (· = .bool (!b)) := fun C A H σ Q hk I X q => h1 C A H σ _ hk I X fun v d H1 I1 f1 n1 d1 p1 => by
  rw [p1] at d1
  exact ⟨b, dp_bl d1, q _ _ H1 I1 f1 n1 (.bl _) rfl⟩
theorem ev_if (h : EvT G u ρ Pb) (h1 : Pb true → Ev G ta ρ P) (h2 : Pb false → Ev G tb ρ P) : Ev G (tIf u ta tb) ρ P := fun C A H σ Q hk I X q => h C A H σ _ hk I X fun b H1 I1 f1 n1 p1 => by
  cases b with
  | true =>
    rw [if_pos rfl]
    exact h1 p1 C A H1 σ _ hk I1 X fun w d2 H2 I2 f2 n2 e2 p2 => q w d2 H2 I2 (f1.trans f2) (fun b e => n1 b (n2 b e)) e2 p2
  | false =>
    rw [if_neg Bool.false_ne_true]
    exact h2 p1 C A H1 σ _ hk I1 X fun w d2 H2 I2 f2 n2 e2 p2 => q w d2 H2 I2 (f1.trans f2) (fun b e => n1 b (n2 b e)) e2 p2
/-- a < b < c by values -/
theorem ev_chain {r r' : R2} (ha : Ev G ta ρ (· = x)) (hb : Ev G tb ρ (· = y)) (hc : Ev G tc ρ (· = z)) (h1 : Rv G.K r x y (· = .bool b)) (h2 : b = true → Rv G.K r' y z (· = .bool c)) : Ev G (tChain r r' ta tb tc) ρ (· = .bool (b && c)) :=
  fun C A H σ Q hk I X q => ha C A H σ _ hk I X fun v d H1 I1 f1 n1 d1 p1 => hb C A H1 σ _ hk I1 X fun w e H2 I2 f2 n2 d2 p2 => by
    subst p1 p2
    refine h1 A H2 v w _ I2.al (hk ▸ dp_mono (I1.fr_hid f2) d1) (hk ▸ d2) fun k dk H3 s3 d3 p3 => ?_
    rw [p3] at d3
    refine ⟨b, dp_bl d3, ?_⟩
    have I3 := I2.same s3
    have n3 : ∀ a, H3 a = none → H a = none := fun a e => n1 a (n2 a (nn_of s3 a e))
    have f3 : Fr C H H3 := (f1.trans f2).trans (Fr.of s3)
    cases b with
    | true =>
      rw [if_pos rfl]
      refine hc C A H3 σ _ hk I3 X fun m dm H4 I4 f4 n4 d4 p4 => ?_
      subst p4
      refine h2 rfl A H4 w m _ I4.al (hk ▸ dp_mono (I3.fr_hid f4) (dp_mono (I2.fr_hid (Fr.of s3)) d2)) (hk ▸ d4) fun k2 dk2 H5 s5 d5 p5 => ?_
      exact q k2 dk2 H5 (I4.same s5) ((f3.trans f4).trans (Fr.of s5)) (fun a e => n3 a (n4 a (nn_of s5 a e))) (hk ▸ d5) (by rw [p5]; rfl)
    | false =>
      rw [if_neg Bool.false_ne_true]
      exact q _ _ H3 I3 f3 n3 (.bl _) rfl
end
end K13
set_option maxHeartbeats 2000000
/-! Arguments, displays, calls, what is walked, comprehensions. -/
namespace K13
open PySem L2
/-! ### promises of defs over data -/
/-- a def whose arguments and answer are data; flt: the fields of the text errors that it may raise -/
def spX (K : PySem.W.Frag) (CT : Addr) {α : Type} (args : α → List PyData) (pre : α → Prop) (post : α → DP) (flt : α → Int → Prop) : Sp := fun vs H Q E => ∃ (A : Addr → Bool) (a : α), Alc A H ∧ DpAll K (hid A H) vs (args a) ∧ pre a ∧
  (∀ (v : V) (d : PyData) (H' : Hp), Same H H' → Dp K (hid A H') v d → post a d → Q v H') ∧ ∀ (f : Int) (dd : Addr) (H' : Hp), Same H H' → H dd = none → H' dd = some (xdF f) → flt a f → E (.ref CT) (some dd) H'
abbrev nof {α : Type} : α → Int → Prop := fun _ _ => False
/-- a def whose first argument is the feed -/
def spF (K : PySem.W.Frag) {α : Type} (args : α → List PyData) (pre : α → Prop) (post : α → DP) : Sp := fun vs H Q _ => ∃ (A : Addr → Bool) (fa : Addr) (ws : List V) (a : α), vs = .ref fa :: ws ∧ Alc A H ∧ A fa = true ∧ FeedOk K A H fa ∧ DpAll K (hid A H) ws (args a) ∧ pre a ∧
  ∀ (v : V) (d : PyData) (H' : Hp), (∀ b o, H b = some o → b ≠ fa → H' b = some o) → FeedOk K A H' fa → Dp K (hid A H') v d → post a d → Q v H'
theorem FeedOk.some {K : PySem.W.Frag} {A : Addr → Bool} {H : Hp} {a : Addr} (h : FeedOk K A H a) : ∃ o, H a = some o := by
  obtain ⟨_, _, _, _, _, q, _⟩ := h
  exact ⟨_, q⟩
section
variable {G : Gd} {ρ : List Sl} {t ta tb tc te : TE} {u v : TT} {P P1 P2 P3 : DP} {x y z d : PyData} {tA tr : TA} {ds xs : List PyData}
/-! ### arguments, displays -/
theorem ea_nil : EvA G tNil ρ (· = []) := fun C A H σ Q hk I X q => q [] [] H I Fr.refl (fun _ z => z) .nil rfl
theorem ea_consg {Ps : List PyData → Prop} (h : Ev G t ρ P) (hr : EvA G tr ρ Ps) : EvA G (tCons t tr) ρ (fun ds => ∃ x xs, ds = x :: xs ∧ P x ∧ Ps xs) := fun C A H σ Q hk I X q =>
  h C A H σ _ hk I X fun v d H1 I1 f1 n1 d1 p1 => hr C A H1 σ _ hk I1 X fun vs ds H2 I2 f2 n2 d2 p2 =>
    q (v :: vs) (d :: ds) H2 I2 (f1.trans f2) (fun b e => n1 b (n2 b e)) (.cons (dp_mono (I1.fr_hid f2) d1) d2) ⟨d, ds, rfl, p1, p2⟩
theorem ea_cons (h : Ev G t ρ (· = x)) (hr : EvA G tr ρ (· = xs)) : EvA G (tCons t tr) ρ (· = x :: xs) := (ea_consg h hr).imp fun d ⟨a, b, e, e1, e2⟩ => by rw [e, e1, e2]
theorem ev_tupg {Ps : List PyData → Prop} (h : EvA G tA ρ Ps) (hl : ∀ xs, Ps xs → xs.length ≤ 1000) : Ev G (tTup tA) ρ (fun d => ∃ xs, d = .tuple xs ∧ Ps xs) := fun C A H σ Q hk I X q => h C A H σ _ hk I X fun vs ds H1 I1 f1 n1 d1 p1 =>
  ⟨by rw [dpAll_len d1, sizeLine_eq]; have := hl ds p1; omega, fun p hp => q (.ref p) (.tuple ds) _ (I1.upd hp) (f1.trans (Fr.of (Same.new hp))) (fun b e => n1 b (nn_of (Same.new hp) b e)) (dp_newT I1.al hp d1) ⟨ds, rfl, p1⟩⟩
theorem ev_tup (h : EvA G tA ρ (· = xs)) (hl : xs.length ≤ 1000 := by decide) : Ev G (tTup tA) ρ (· = .tuple xs) := (ev_tupg h fun ys e => by rw [e]; exact hl).imp fun d ⟨ys, e, e1⟩ => by rw [e, e1]
theorem ev_lstg {Ps : List PyData → Prop} (h : EvA G tA ρ Ps) (hl : ∀ xs, Ps xs → xs.length ≤ 1000) : Ev G (tLst tA) ρ (fun d => ∃ xs, d = .list xs ∧ Ps xs) := fun C A H σ Q hk I X q => h C A H σ _ hk I X fun vs ds H1 I1 f1 n1 d1 p1 =>
  ⟨by rw [dpAll_len d1, sizeLine_eq]; have := hl ds p1; omega, fun p hp => q (.ref p) (.list ds) _ (I1.upd hp) (f1.trans (Fr.of (Same.new hp))) (fun b e => n1 b (nn_of (Same.new hp) b e)) (dp_newL I1.al hp d1) ⟨ds, rfl, p1⟩⟩
theorem ev_lst (h : EvA G tA ρ (· = xs)) (hl : xs.length ≤ 1000 := by decide) : Ev G (tLst tA) ρ (· = .list xs) := (ev_lstg h fun ys e => by rw [e]; exact hl).imp fun d ⟨ys, e, e1⟩ => by rw [e, e1]
/-! ### calls of defs -/
section
variable {α : Type} {args : α → List PyData} {pre : α → Prop} {post : α → DP} {flt : α → Int → Prop} {a : α} {dvs : List V} {es : List PyData} {k : Nat}
theorem ev_callg {E : XK} {Ps : List PyData → Prop} (hE : E = G.E ∨ ∀ a, pre a → ∀ f, ¬ flt a f) (hd : ∀ K H, DpAll K H dvs es) (ha : EvA G tA ρ Ps) (h : ∀ xs, Ps xs → ∃ a, xs ++ es = args a ∧ pre a ∧ (∀ d, post a d → P d) ∧ ∀ f, flt a f → G.F f) :
    Ev G (tCall (spX G.K G.CT args pre post flt) dvs E tA) ρ P := fun C A H σ Q hk I X q => ha C A H σ _ hk I X fun vs xs H1 I1 f1 n1 d1 p1 => by
  obtain ⟨a, e, hp, hpost, hf⟩ := h xs p1
  refine ⟨A, a, I1.al, by rw [← e]; exact dpAll_app (hk ▸ d1) (hd _ _), hp, fun v d H2 s2 d2 p2 => ?_, fun f dd H2 s2 n2 e2 p2 => ?_⟩
  · exact q v d H2 (I1.same s2) (f1.trans (Fr.of s2)) (fun b e => n1 b (nn_of s2 b e)) (hk ▸ d2) (hpost d p2)
  · rcases hE with hE | hE
    · rw [hE]
      exact X f dd H2 (fun b o e n => s2 b o (I1.keep b o e n)) (I1.no0 n2).2 e2 (hf f p2)
    · exact absurd p2 (hE a hp f)
theorem ev_call0 {E : XK} (a : α) (ha : EvA G tA ρ (· = args a)) (hp : pre a) : Ev G (tCall (spX G.K G.CT args pre post nof) [] E tA) ρ (post a) :=
  ev_callg (es := []) (.inr fun _ _ _ z => z) (fun _ _ => .nil) ha fun xs e => ⟨a, by rw [e, List.append_nil], hp, fun _ z => z, fun _ z => z.elim⟩
theorem ev_callX (a : α) (ha : EvA G tA ρ (· = args a)) (hp : pre a) (hf : ∀ f, flt a f → G.F f) : Ev G (tCall (spX G.K G.CT args pre post flt) [] G.E tA) ρ (post a) :=
  ev_callg (es := []) (.inl rfl) (fun _ _ => .nil) ha fun xs e => ⟨a, by rw [e, List.append_nil], hp, fun _ z => z, hf⟩
theorem ev_callFg {i : Nat} {E : XK} {Ps : List PyData → Prop} (hi : ρ[i]? = some .fd) (ha : EvA G tA ρ Ps) (h : ∀ xs, Ps xs → ∃ a, xs = args a ∧ pre a ∧ ∀ d, post a d → P d) :
    Ev G (tCall (spF G.K args pre post) [] E (tCons (tVar i) tA)) ρ P := fun C A H σ Q hk I X q => by
  have s := I.sl i
  rw [hi] at s
  obtain ⟨fa, e0, ef⟩ := s
  refine ⟨.ref fa, e0, ?_⟩
  refine ha C A H σ _ hk I X fun vs xs H1 I1 f1 n1 d1 p1 => ?_
  obtain ⟨a, e, hp, hpost⟩ := h xs p1
  have hfd := I1.feed fa ef
  refine ⟨A, fa, vs, a, by rw [List.append_nil], I1.al, hfd.1, hk ▸ hfd.2, by rw [← e]; exact hk ▸ d1, hp, fun v d H2 s2 o2 d2 p2 => ?_⟩
  have f2 : Fr C H1 H2 := fun b o e1 e2 => s2 b o e1 (fun z => e2 (by rw [z]; exact ef))
  refine q v d H2 (I1.fr f2 fun a2 e2 => ?_) (f1.trans f2) (fun b e1 => n1 b ?_) (hk ▸ d2) (hpost d p2)
  · have : a2 = fa := Option.some.inj (e2.symm.trans ef)
    rw [this]; exact hk ▸ o2
  · by_cases z : b = fa
    · obtain ⟨o, q⟩ := o2.some
      rw [z, q] at e1; cases e1
    · cases r : H1 b with
      | none => rfl
      | some o => rw [s2 b o r z] at e1; cases e1
theorem ev_callF {i : Nat} {E : XK} (a : α) (hi : ρ[i]? = some .fd) (ha : EvA G tA ρ (· = args a)) (hp : pre a) : Ev G (tCall (spF G.K args pre post) [] E (tCons (tVar i) tA)) ρ (post a) :=
  ev_callFg hi ha fun xs e => ⟨a, e, hp, fun _ z => z⟩
end
/-! ### built-ins by values -/
def Rc (K : PySem.W.Frag) (r : List V → Hp → VK → Prop) (ds : List PyData) (P : DP) : Prop := ∀ (A : Addr → Bool) (H : Hp) (vs : List V) (Q : VK), Alc A H → DpAll K (hid A H) vs ds →
  (∀ (z : V) (d : PyData) (H' : Hp), Same H H' → Dp K (hid A H') z d → P d → Q z H') → r vs H Q
theorem ev_cbg {r : List V → Hp → VK → Prop} {Ps : List PyData → Prop} (ha : EvA G tA ρ Ps) (hr : ∀ ds, Ps ds → Rc G.K r ds P) : Ev G (tCB r tA) ρ P := fun C A H σ Q hk I X q =>
  ha C A H σ _ hk I X fun vs ds H1 I1 f1 n1 d1 p1 => hr ds p1 A H1 vs Q I1.al (hk ▸ d1) fun z d H2 s2 d2 p2 =>
    q z d H2 (I1.same s2) (f1.trans (Fr.of s2)) (fun b e => n1 b (nn_of s2 b e)) (hk ▸ d2) p2
theorem ev_cb {r : List V → Hp → VK → Prop} (ha : EvA G tA ρ (· = ds)) (hr : Rc G.K r ds P) : Ev G (tCB r tA) ρ P := ev_cbg ha fun xs e => by rw [e]; exact hr
variable {K : PySem.W.Frag} {i j : Int}
theorem dp1 {H : Hp} {vs : List V} (h : DpAll K H vs [x]) : ∃ v, vs = [v] ∧ Dp K H v x := by
  cases h with
  | cons h t => cases t; exact ⟨_, rfl, h⟩
theorem dp2 {H : Hp} {vs : List V} (h : DpAll K H vs [x, y]) : ∃ v w, vs = [v, w] ∧ Dp K H v x ∧ Dp K H w y := by
  cases h with
  | cons h t =>
    cases t with
    | cons h2 t => cases t; exact ⟨_, _, rfl, h, h2⟩
abbrev rLenQ (K : PySem.W.Frag) : List V → Hp → VK → Prop := fun xs H Q => ∃ p ys, xs = [.ref p] ∧ (SqL K H p ys ∨ SqT K H p ys) ∧ Q (.int ys.length) H
abbrev rLenS : List V → Hp → VK → Prop := fun xs H Q => ∃ z, xs = [.str z] ∧ z.length ≤ sizeLine ∧ Q (.int z.length) H
theorem rc_lenL : Rc K (rLenQ K) [.list ds] (· = .int ds.length) := fun A H vs Q al h q => by
  obtain ⟨v, rfl, hx⟩ := dp1 h
  obtain ⟨a, us, rfl, s, da⟩ := dp_lst hx
  refine ⟨a, us, rfl, .inl (Same.seq hid_to s), ?_⟩
  rw [dpAll_len da]
  exact q _ _ H (Same.refl H) (.int _) rfl
theorem rc_lenT : Rc K (rLenQ K) [.tuple ds] (· = .int ds.length) := fun A H vs Q al h q => by
  obtain ⟨v, rfl, hx⟩ := dp1 h
  obtain ⟨a, us, rfl, s, da⟩ := dp_tup hx
  refine ⟨a, us, rfl, .inr (Same.seqT hid_to s), ?_⟩
  rw [dpAll_len da]
  exact q _ _ H (Same.refl H) (.int _) rfl
theorem rc_lenS {s : Str} (hs : s.length ≤ 16777216) : Rc K rLenS [.str s] (· = .int s.length) := fun A H vs Q al h q => by
  obtain ⟨v, rfl, hx⟩ := dp1 h
  rw [dp_str hx]
  exact ⟨s, rfl, by rw [sizeLine_eq]; exact hs, q _ _ H (Same.refl H) (.int _) rfl⟩
abbrev rTupOf (K : PySem.W.Frag) : List V → Hp → VK → Prop := fun xs H Q => ∃ p ys, xs = [.ref p] ∧ ((SqL K H p ys ∧ ∀ l, H l = none → Q (.ref l) (upd H l (.tup ys))) ∨ (SqT K H p ys ∧ Q (.ref p) H))
theorem rc_tupL : Rc K (rTupOf K) [.list ds] (· = .tuple ds) := fun A H vs Q al h q => by
  obtain ⟨v, rfl, hx⟩ := dp1 h
  obtain ⟨a, us, rfl, s, da⟩ := dp_lst hx
  exact ⟨a, us, rfl, .inl ⟨Same.seq hid_to s, fun l hl => q _ _ _ (Same.new hl) (dp_newT al hl da) rfl⟩⟩
theorem rc_all {bs : List Bool} : Rc K (rAll K) [.list (bs.map .bool)] (· = .bool (bs.all id)) := fun A H vs Q al h q => by
  obtain ⟨v, rfl, hx⟩ := dp1 h
  obtain ⟨a, us, rfl, s, da⟩ := dp_lst hx
  rw [dpAll_bls da] at s
  exact ⟨a, bs, rfl, Same.seq hid_to s, q _ _ H (Same.refl H) (.bl _) rfl⟩
theorem rc_sum {ns : List Int} : Rc K (rSum K) [.list (ns.map .int)] (· = .int ns.sum) := fun A H vs Q al h q => by
  obtain ⟨v, rfl, hx⟩ := dp1 h
  obtain ⟨a, us, rfl, s, da⟩ := dp_lst hx
  rw [dpAll_ints da] at s
  exact ⟨a, ns, rfl, Same.seq hid_to s, q _ _ H (Same.refl H) (.int _) rfl⟩
abbrev rInt1 : List V → Hp → VK → Prop := fun xs H Q => (∃ i, xs = [.int i] ∧ Q (.int i) H) ∨ ∃ k, xs = [.bl k] ∧ Q (.int (if k then 1 else 0)) H
theorem rc_intI : Rc K rInt1 [.int i] (· = .int i) := fun A H vs Q al h q => by
  obtain ⟨v, rfl, hx⟩ := dp1 h
  rw [dp_int hx]
  exact .inl ⟨i, rfl, q _ _ H (Same.refl H) (.int _) rfl⟩
theorem rc_intB {b : Bool} : Rc K rInt1 [.bool b] (· = .int (if b then 1 else 0)) := fun A H vs Q al h q => by
  obtain ⟨v, rfl, hx⟩ := dp1 h
  rw [dp_bl hx]
  exact .inr ⟨b, rfl, q _ _ H (Same.refl H) (.int _) rfl⟩
abbrev rIntS : List V → Hp → VK → Prop := fun xs H Q => ∃ a n, xs = [.str a] ∧ PySem.intText? a = some n ∧ a.length ≤ 640 ∧ Q (.int n) H
theorem rc_intS {s : Str} {n : Int} (hn : PySem.intText? s = some n) (hs : s.length ≤ 640) : Rc K rIntS [.str s] (· = .int n) := fun A H vs Q al h q => by
  obtain ⟨v, rfl, hx⟩ := dp1 h
  rw [dp_str hx]
  exact ⟨s, n, rfl, hn, hs, q _ _ H (Same.refl H) (.int _) rfl⟩
/-- an int's text -/
def strI (i : Int) : Str := toString i
abbrev rStrI : List V → Hp → VK → Prop := fun xs H Q => ∃ i, xs = [.int i] ∧ i.natAbs.log2 < 1920 ∧ Q (.str (toString i)) H
theorem rc_strI (hi : i.natAbs.log2 < 1920) : Rc K rStrI [.int i] (· = .str (strI i)) := fun A H vs Q al h q => by
  obtain ⟨v, rfl, hx⟩ := dp1 h
  rw [dp_int hx]
  exact ⟨i, rfl, hi, q _ _ H (Same.refl H) (.str _) rfl⟩
abbrev rMin2 : List V → Hp → VK → Prop := fun xs H Q => ∃ i j, xs = [.int i, .int j] ∧ Q (.int (if j < i then j else i)) H
theorem rc_min2 : Rc K rMin2 [.int i, .int j] (· = .int (if j < i then j else i)) := fun A H vs Q al h q => by
  obtain ⟨v, w, rfl, hx, h2⟩ := dp2 h
  rw [dp_int hx, dp_int h2]
  exact ⟨i, j, rfl, q _ _ H (Same.refl H) (.int _) rfl⟩
/-! ### methods of texts -/
def Rm (K : PySem.W.Frag) (r : V → List V → Hp → VK → Prop) (x : PyData) (ds : List PyData) (P : DP) : Prop := ∀ (A : Addr → Bool) (H : Hp) (v : V) (vs : List V) (Q : VK), Alc A H → Dp K (hid A H) v x → DpAll K (hid A H) vs ds →
  (∀ (z : V) (d : PyData) (H' : Hp), Same H H' → Dp K (hid A H') z d → P d → Q z H') → r v vs H Q
theorem ev_m1g {r : V → List V → Hp → VK → Prop} {s : Str} (ho : Ev G t ρ (· = .str s)) (he : Ev G te ρ P1) (hr : ∀ y, P1 y → Rm G.K r (.str s) [y] P) : Ev G (tM1 r t te) ρ P := fun C A H σ Q hk I X q =>
  ho C A H σ _ hk I X fun v d H1 I1 f1 n1 d1 p1 => by
    subst p1
    refine ⟨⟨s, dp_str d1⟩, he C A H1 σ _ hk I1 X fun w y H2 I2 f2 n2 d2 p2 => ?_⟩
    refine hr y p2 A H2 v [w] Q I2.al (hk ▸ dp_mono (I1.fr_hid f2) d1) (.cons (hk ▸ d2) .nil) fun z d H3 s3 d3 p3 => ?_
    exact q z d H3 (I2.same s3) ((f1.trans f2).trans (Fr.of s3)) (fun b e => n1 b (n2 b (nn_of s3 b e))) (hk ▸ d3) p3
theorem ev_m1 {r : V → List V → Hp → VK → Prop} {s : Str} (ho : Ev G t ρ (· = .str s)) (he : Ev G te ρ (· = y)) (hr : Rm G.K r (.str s) [y] P) : Ev G (tM1 r t te) ρ P := ev_m1g ho he fun z e => by rw [e]; exact hr
abbrev rSplit : V → List V → Hp → VK → Prop := fun x xs H Q => ∃ a b, x = .str a ∧ xs = [.str b] ∧ (b.length == 0) = false ∧ a.length + 2 ≤ sizeLine ∧ rNewStrs (Txt.split a b) H Q
abbrev rJoin (K : PySem.W.Frag) : V → List V → Hp → VK → Prop := fun x xs H Q => ∃ a p, ∃ ys : List Str, x = .str a ∧ xs = [.ref p] ∧ (SqL K H p (ys.map V.str) ∨ SqT K H p (ys.map V.str)) ∧ (ys.map (·.length)).sum + ys.length * a.length ≤ 16777216 ∧ Q (.str (Txt.join a ys)) H
theorem rm_split {a b : Str} (hb : (b.length == 0) = false) (ha : a.length + 2 ≤ 16777216) : Rm K rSplit (.str a) [.str b] (· = .list ((Txt.split a b).map .str)) := fun A H v vs Q al h hs q => by
  obtain ⟨w, rfl, hw⟩ := dp1 hs
  rw [dp_str h, dp_str hw]
  exact ⟨a, b, rfl, rfl, hb, by rw [sizeLine_eq]; exact ha, fun p hp => q _ _ _ (Same.new hp) (dp_newL al hp (dpAll_ofStrs _)) rfl⟩
theorem rm_join {a : Str} {ys : List Str} (hz : (ys.map (·.length)).sum + ys.length * a.length ≤ 16777216) : Rm K (rJoin K) (.str a) [.list (ys.map .str)] (· = .str (Txt.join a ys)) := fun A H v vs Q al h hs q => by
  obtain ⟨w, rfl, hw⟩ := dp1 hs
  obtain ⟨p, us, rfl, s, da⟩ := dp_lst hw
  rw [dpAll_strs da] at s
  exact ⟨a, p, ys, dp_str h, rfl, .inl (Same.seq hid_to s), hz, q _ _ H (Same.refl H) (.str _) rfl⟩
/-! ### slices -/
def EvO (G : Gd) (t : TO) (ρ : List Sl) (o : Option Int) : Prop := ∀ (C : Ct) (A : Addr → Bool) (H : Hp) (σ : L2.St) (Q : Option Int → Hp → Prop), C.K = G.K → En C A H σ ρ → Xq G C →
  (∀ (H' : Hp), En C A H' σ ρ → Fr C H H' → (∀ b, H' b = none → H b = none) → Q o H') → t σ H Q
theorem eo_none : EvO G tNoPart ρ none := fun C A H σ Q hk I X q => q H I Fr.refl fun _ z => z
theorem eo_some (h : Ev G t ρ (· = .int i)) : EvO G (tPart t) ρ (some i) := fun C A H σ Q hk I X q => h C A H σ _ hk I X fun v d H1 I1 f1 n1 d1 p1 => by
  subst p1
  exact ⟨i, dp_int d1, q H1 I1 f1 n1⟩
def Rs (K : PySem.W.Frag) (r : V → Option Int → Option Int → Hp → VK → Prop) (x : PyData) (lo hi : Option Int) (P : DP) : Prop := ∀ (A : Addr → Bool) (H : Hp) (v : V) (Q : VK), Alc A H → Dp K (hid A H) v x →
  (∀ (z : V) (d : PyData) (H' : Hp), Same H H' → Dp K (hid A H') z d → P d → Q z H') → r v lo hi H Q
theorem ev_sl {r : V → Option Int → Option Int → Hp → VK → Prop} {tl th : TO} {lo hi : Option Int} (he : Ev G t ρ (· = x)) (hl : EvO G tl ρ lo) (hh : EvO G th ρ hi) (hr : Rs G.K r x lo hi P) : Ev G (tSl r t tl th) ρ P := fun C A H σ Q hk I X q =>
  he C A H σ _ hk I X fun v d H1 I1 f1 n1 d1 p1 => hl C A H1 σ _ hk I1 X fun H2 I2 f2 n2 => hh C A H2 σ _ hk I2 X fun H3 I3 f3 n3 => by
    subst p1
    refine hr A H3 v Q I3.al (hk ▸ dp_mono (I1.fr_hid (f2.trans f3)) d1) fun z d H4 s4 d4 p4 => ?_
    exact q z d H4 (I3.same s4) (((f1.trans f2).trans f3).trans (Fr.of s4)) (fun b e => n1 b (n2 b (n3 b (nn_of s4 b e)))) (hk ▸ d4) p4
/-- the items of a slice -/
def cutD {β : Type} (xs : List β) (lo hi : Option Int) : List β := (xs.drop (HT.sIx xs.length 0 lo)).take (HT.sIx xs.length xs.length hi - HT.sIx xs.length 0 lo)
theorem rs_lst {lo hi : Option Int} : Rs K (rSlL K) (.list ds) lo hi (· = .list (cutD ds lo hi)) := fun A H v Q al h q => by
  obtain ⟨a, us, rfl, s, da⟩ := dp_lst h
  refine ⟨a, us, rfl, Same.seq hid_to s, fun p hp => ?_⟩
  refine q _ _ _ (Same.new hp) (dp_newL (ds := cutD ds lo hi) al hp ?_) rfl
  unfold cutV cutD
  rw [dpAll_len da]
  exact dpAll_take _ (dpAll_drop _ da)
theorem rs_str {lo hi : Option Int} {s : Str} (hs : s.length ≤ 16777216) : Rs K rSlS (.str s) lo hi (· = .str (cutS s lo hi)) := fun A H v Q al h q => by
  rw [dp_str h]
  exact ⟨s, rfl, by rw [sizeLine_eq]; exact hs, q _ _ H (Same.refl H) (.str _) rfl⟩
theorem rs_tup {lo hi : Option Int} (hw : ¬ (HT.sIx ds.length 0 lo = 0 ∧ HT.sIx ds.length ds.length hi = ds.length)) : Rs K (rSlT K) (.tuple ds) lo hi (· = .tuple (cutD ds lo hi)) := fun A H v Q al h q => by
  obtain ⟨a, us, rfl, s, da⟩ := dp_tup h
  refine ⟨a, us, rfl, Same.seqT hid_to s, by rw [dpAll_len da]; exact hw, fun p hp => ?_⟩
  refine q _ _ _ (Same.new hp) (dp_newT (ds := cutD ds lo hi) al hp ?_) rfl
  unfold cutV cutD
  rw [dpAll_len da]
  exact dpAll_take _ (dpAll_drop _ da)
theorem ev_rev (h : Ev G t ρ (· = .list ds)) : Ev G (tRevL G.K t) ρ (· = .list ds.reverse) := fun C A H σ Q hk I X q => h C A H σ _ hk I X fun v d H1 I1 f1 n1 d1 p1 => by
  subst p1
  obtain ⟨a, us, rfl, s, da⟩ := dp_lst d1
  exact ⟨a, us, rfl, hk ▸ Same.seq hid_to s, fun p hp => q _ _ _ (I1.upd hp) (f1.trans (Fr.of (Same.new hp))) (fun b e => n1 b (nn_of (Same.new hp) b e)) (dp_newL I1.al hp (dpAll_rev da)) rfl⟩
/-! ### list + list, whatever stands there -/
def rCatL (K : PySem.W.Frag) : R2 := fun x y H Q => ∃ l b xs zs, x = .ref l ∧ y = .ref b ∧ SqL K H l xs ∧ SqL K H b zs ∧ xs.length + zs.length ≤ sizeLine ∧ ∀ p, H p = none → Q (.ref p) (upd H p (.lst (xs ++ zs)))
theorem rv_catL (h : ds.length + xs.length ≤ 16777216) : Rv K (rCatL K) (.list ds) (.list xs) (· = .list (ds ++ xs)) := fun A H v w Q al h1 h2 q => by
  obtain ⟨a, us, rfl, s, da⟩ := dp_lst h1
  obtain ⟨b, ws, rfl, s2, da2⟩ := dp_lst h2
  exact ⟨a, b, us, ws, rfl, rfl, Same.seq hid_to s, Same.seq hid_to s2, by rw [dpAll_len da, dpAll_len da2, sizeLine_eq]; exact h, fun p hp => q _ _ _ (Same.new hp) (dp_newL al hp (dpAll_app da da2)) rfl⟩
/-! ### f-strings -/
theorem ev_fmtS {s : Str} (h : Ev G t ρ (· = .str s)) (hs : s.length ≤ 16777216) : Ev G (tFmt t) ρ (· = .str s) := fun C A H σ Q hk I X q => h C A H σ _ hk I X fun v d H1 I1 f1 n1 d1 p1 => by
  subst p1
  exact .inl ⟨s, dp_str d1, by rw [sizeLine_eq]; exact hs, q _ _ H1 I1 f1 n1 (.str _) rfl⟩
theorem ev_fmtI (h : Ev G t ρ (· = .int i)) (hi : i.natAbs.log2 < 1920) : Ev G (tFmt t) ρ (· = .str (strI i)) := fun C A H σ Q hk I X q => h C A H σ _ hk I X fun v d H1 I1 f1 n1 d1 p1 => by
  subst p1
  exact .inr ⟨i, dp_int d1, hi, q _ _ H1 I1 f1 n1 (.str _) rfl⟩
/-- the parts of an f-string, from a text on -/
def EvJ (G : Gd) (ts : List TE) (acc : Str) (ρ : List Sl) (s : Str) : Prop := ∀ (C : Ct) (A : Addr → Bool) (H : Hp) (σ : L2.St) (Q : Str → Hp → Prop), C.K = G.K → En C A H σ ρ → Xq G C →
  (∀ (H' : Hp), En C A H' σ ρ → Fr C H H' → (∀ b, H' b = none → H b = none) → Q s H') → tJs ts acc σ H Q
theorem ej_nil {s : Str} : EvJ G [] s ρ s := fun C A H σ Q hk I X q => q H I Fr.refl fun _ z => z
theorem ej_cons {ts : List TE} {acc s r : Str} (h : Ev G t ρ (· = .str s)) (hl : (acc ++ s).length ≤ 16777216) (hr : EvJ G ts (acc ++ s) ρ r) : EvJ G (t :: ts) acc ρ r := fun C A H σ Q hk I X q => h C A H σ _ hk I X fun v d H1 I1 f1 n1 d1 p1 => by
  subst p1
  exact ⟨s, dp_str d1, by rw [sizeLine_eq]; exact hl, hr C A H1 σ Q hk I1 X fun H2 I2 f2 n2 => q H2 I2 (f1.trans f2) fun b e => n1 b (n2 b e)⟩
theorem ev_joined {ts : List TE} {s : Str} (h : EvJ G ts Str.empty ρ s) : Ev G (fun σ H Q => tJs ts Str.empty σ H fun out H1 => Q (.str out) H1) ρ (· = .str s) := fun C A H σ Q hk I X q => h C A H σ _ hk I X fun H1 I1 f1 n1 => q _ _ H1 I1 f1 n1 (.str _) rfl
end
end K13
set_option maxHeartbeats 2000000
/-! What is walked, comprehensions, statements, defs. -/
namespace K13
open PySem L2
inductive All2 {α β : Type} (R : α → β → Prop) : List α → List β → Prop
  | nil : All2 R [] []
  | cons {a : α} {b : β} {as : List α} {bs : List β} : R a b → All2 R as bs → All2 R (a :: as) (b :: bs)
theorem All2.snoc {α β : Type} {R : α → β → Prop} {a : α} {b : β} (h : R a b) : ∀ {as : List α} {bs : List β}, All2 R as bs → All2 R (as ++ [a]) (bs ++ [b])
  | _, _, .nil => .cons h .nil
  | _, _, .cons r t => .cons r (All2.snoc h t)
theorem All2.fn {α β : Type} {f : α → β} : ∀ {as : List α} {bs : List β}, All2 (fun a b => b = f a) as bs → bs = as.map f
  | _, _, .nil => rfl
  | _, _, .cons r t => by rw [r, All2.fn t]; rfl
theorem All2.len {α β : Type} {R : α → β → Prop} : ∀ {as : List α} {bs : List β}, All2 R as bs → bs.length = as.length
  | _, _, .nil => rfl
  | _, _, .cons r t => congrArg (· + 1) (All2.len t)
theorem All2.all {α β : Type} {R : α → β → Prop} {P : β → Prop} (h : ∀ a b, R a b → P b) : ∀ {as : List α} {bs : List β}, All2 R as bs → ∀ b ∈ bs, P b
  | _, _, .nil => fun b hb => by cases hb
  | _, _, .cons r t => fun b hb => by
    rcases List.mem_cons.mp hb with e | e
    · rw [e]; exact h _ _ r
    · exact All2.all h t b e
/-! ### what is walked -/
/-- J yields the data xs while Ok holds -/
structure Drv (K : PySem.W.Frag) (J : It) (xs : List PyData) (Ok : (Addr → Bool) → Hp → Prop) : Prop where
  go : ∀ (A : Addr → Bool) (H : Hp) (i : Nat) (x : PyData), Alc A H → Ok A H → xs[i]? = some x → J.go i H ∧ ∀ v H', J.yld i H v H' → Same H H' ∧ Dp K (hid A H') v x
  stop : ∀ (A : Addr → Bool) (H : Hp) (i : Nat), Ok A H → xs.length ≤ i → J.stop i H
  mono : ∀ (A A' : Addr → Bool) (H H' : Hp), Ok A H → Same (hid A H) (hid A' H') → Ok A' H'
def EvI (G : Gd) (wi : TI) (ρ : List Sl) (P : List PyData → Prop) : Prop := ∀ (C : Ct) (A : Addr → Bool) (H : Hp) (σ : L2.St) (R : It → Hp → Prop), C.K = G.K → En C A H σ ρ → Xq G C →
  (∀ (J : It) (xs : List PyData) (Ok : (Addr → Bool) → Hp → Prop) (H' : Hp), En C A H' σ ρ → Fr C H H' → (∀ b, H' b = none → H b = none) → Drv C.K J xs Ok → Ok A H' → P xs → R J H') → wi σ H R
section
variable {G : Gd} {ρ : List Sl} {t ta tb tc te tl : TE} {u v : TT} {P P1 P2 P3 : DP} {x y z d : PyData} {tA tr : TA} {ds xs : List PyData} {PL : List PyData → Prop} {K : PySem.W.Frag}
theorem drv_list {a : Addr} {vs : List V} : Drv K (Itl K a) xs (fun A H => SqL K (hid A H) a vs ∧ DpAll K (hid A H) vs xs) where
  go := fun A H i x al ok hi => by
    obtain ⟨w, hw, dw⟩ := dpAll_at ok.2 hi
    refine ⟨⟨vs, w, Same.seq hid_to ok.1, hw⟩, fun v H' y => ?_⟩
    obtain ⟨e, y⟩ := y
    subst e
    have e2 := y vs (Same.seq hid_to ok.1)
    rw [hw] at e2
    cases e2
    exact ⟨Same.refl _, dw⟩
  stop := fun A H i ok hi => ⟨vs, Same.seq hid_to ok.1, by rw [dpAll_len ok.2]; exact hi⟩
  mono := fun A A' H H' ok s => ⟨Same.seq s ok.1, dpAll_mono s ok.2⟩
theorem drv_tup {a : Addr} {vs : List V} : Drv K (Itt K a) xs (fun A H => SqT K (hid A H) a vs ∧ DpAll K (hid A H) vs xs) where
  go := fun A H i x al ok hi => by
    obtain ⟨w, hw, dw⟩ := dpAll_at ok.2 hi
    refine ⟨⟨vs, w, Same.seqT hid_to ok.1, hw⟩, fun v H' y => ?_⟩
    obtain ⟨e, y⟩ := y
    subst e
    have e2 := y vs (Same.seqT hid_to ok.1)
    rw [hw] at e2
    cases e2
    exact ⟨Same.refl _, dw⟩
  stop := fun A H i ok hi => ⟨vs, Same.seqT hid_to ok.1, by rw [dpAll_len ok.2]; exact hi⟩
  mono := fun A A' H H' ok s => ⟨Same.seqT s ok.1, dpAll_mono s ok.2⟩
/-- the ints of a range -/
def rngI (lo : Int) (n : Nat) : List Int := (List.range n).map fun (k : Nat) => lo + (k : Int)
abbrev rngD (lo : Int) (n : Nat) : List PyData := (rngI lo n).map PyData.int
theorem rngI_len {lo : Int} {n : Nat} : (rngI lo n).length = n := by simp [rngI]
theorem rngI_mem {lo i : Int} {n : Nat} (h : i ∈ rngI lo n) : lo ≤ i ∧ i < lo + n := by
  obtain ⟨k, hk, e⟩ := List.mem_map.mp h
  have := List.mem_range.mp hk
  omega
theorem drv_rng {lo : Int} {n : Nat} : Drv K (Itr lo n) (rngD lo n) (fun _ _ => True) where
  go := fun A H i x al ok hi => by
    have hn : i < n := by
      obtain ⟨h, _⟩ := List.getElem?_eq_some_iff.mp hi
      simpa [rngD, rngI] using h
    refine ⟨hn, fun v H' y => ?_⟩
    obtain ⟨e, y⟩ := y
    subst e y
    have ex : x = .int (lo + (i : Int)) := by
      unfold rngD rngI at hi
      rw [List.getElem?_map, List.getElem?_map, List.getElem?_range hn] at hi
      exact (Option.some.inj hi).symm
    rw [ex]
    exact ⟨Same.refl _, .int _⟩
  stop := fun A H i ok hi => by
    show n ≤ i
    simpa [rngD, rngI] using hi
  mono := fun _ _ _ _ _ _ => trivial
/-- the signs of a text -/
def sgnD (s : Str) : List PyData := s.cps.toList.map fun c => PyData.str ⟨#[c]⟩
theorem drv_str {s : Str} : Drv K (Its s) (sgnD s) (fun _ _ => True) where
  go := fun A H i x al ok hi => by
    unfold sgnD at hi
    rw [List.getElem?_map] at hi
    cases e : s.cps.toList[i]? with
    | none => rw [e] at hi; cases hi
    | some c =>
      rw [e] at hi
      cases hi
      have e' : s.cps[i]? = some c := by simpa using e
      refine ⟨?_, fun v H' y => ?_⟩
      · obtain ⟨h, _⟩ := Array.getElem?_eq_some_iff.mp e'
        exact h
      · obtain ⟨e1, c', e2, e3⟩ := y
        subst e1 e3
        rw [e'] at e2
        cases e2
        exact ⟨Same.refl _, .str _⟩
  stop := fun A H i ok hi => by
    show s.cps.size ≤ i
    simpa [sgnD] using hi
  mono := fun _ _ _ _ _ _ => trivial
theorem ei_listg (h : Ev G t ρ P) (hp : ∀ d, P d → ∃ xs, d = .list xs ∧ PL xs) : EvI G (iList G.K t) ρ PL := fun C A H σ R hk I X q => h C A H σ _ hk I X fun v d H1 I1 f1 n1 d1 p1 => by
  obtain ⟨xs, e, pl⟩ := hp d p1
  subst e
  obtain ⟨a, vs, rfl, s, da⟩ := dp_lst d1
  refine ⟨a, rfl, ⟨vs, hk ▸ Same.seq hid_to s⟩, ?_⟩
  have := q (Itl C.K a) xs _ H1 I1 f1 n1 drv_list ⟨s, da⟩ pl
  rw [hk] at this
  exact this
theorem ei_list (h : Ev G t ρ (· = .list xs)) : EvI G (iList G.K t) ρ (· = xs) := ei_listg h fun d e => ⟨xs, e, rfl⟩
theorem ei_tupg (h : Ev G t ρ P) (hp : ∀ d, P d → ∃ xs, d = .tuple xs ∧ PL xs) : EvI G (iTup G.K t) ρ PL := fun C A H σ R hk I X q => h C A H σ _ hk I X fun v d H1 I1 f1 n1 d1 p1 => by
  obtain ⟨xs, e, pl⟩ := hp d p1
  subst e
  obtain ⟨a, vs, rfl, s, da⟩ := dp_tup d1
  refine ⟨a, rfl, ⟨vs, hk ▸ Same.seqT hid_to s⟩, ?_⟩
  have := q (Itt C.K a) xs _ H1 I1 f1 n1 drv_tup ⟨s, da⟩ pl
  rw [hk] at this
  exact this
theorem ei_tup (h : Ev G t ρ (· = .tuple xs)) : EvI G (iTup G.K t) ρ (· = xs) := ei_tupg h fun d e => ⟨xs, e, rfl⟩
theorem ei_str {s : Str} (h : Ev G t ρ (· = .str s)) : EvI G (iStr t) ρ (· = sgnD s) := fun C A H σ R hk I X q => h C A H σ _ hk I X fun v d H1 I1 f1 n1 d1 p1 => by
  subst p1
  exact ⟨s, dp_str d1, q _ _ _ H1 I1 f1 n1 drv_str trivial rfl⟩
theorem ei_rng1g {Ps : List PyData → Prop} (ha : EvA G tA ρ Ps) (h : ∀ ds, Ps ds → ∃ j : Int, ds = [.int j] ∧ -1000000000 ≤ j ∧ j < 1000000000 ∧ PL (rngD 0 j.toNat)) : EvI G (iRng1 tA) ρ PL := fun C A H σ R hk I X q => ha C A H σ _ hk I X fun vs ds H1 I1 f1 n1 d1 p1 => by
  obtain ⟨j, e, h1, h2, hp⟩ := h ds p1
  subst e
  obtain ⟨v, rfl, dv⟩ := dp1 d1
  rw [dp_int dv]
  exact ⟨j, rfl, by omega, by omega, q _ _ _ H1 I1 f1 n1 drv_rng trivial hp⟩
theorem ei_rng1 {j : Int} (ha : EvA G tA ρ (· = [.int j])) (h1 : -1000000000 ≤ j) (h2 : j < 1000000000) : EvI G (iRng1 tA) ρ (· = rngD 0 j.toNat) := ei_rng1g ha fun ds e => ⟨j, e, h1, h2, rfl⟩
theorem ei_rng2 {i j : Int} (ha : EvA G tA ρ (· = [.int i, .int j])) (h1 : -1000000000 ≤ i ∧ i < 1000000000) (h2 : -1000000000 ≤ j ∧ j < 1000000000) : EvI G (iRng2 tA) ρ (· = rngD i (j - i).toNat) := fun C A H σ R hk I X q => ha C A H σ _ hk I X fun vs ds H1 I1 f1 n1 d1 p1 => by
  subst p1
  obtain ⟨v, w, rfl, dv, dw⟩ := dp2 d1
  rw [dp_int dv, dp_int dw]
  exact ⟨i, j, rfl, ⟨by omega, by omega, by omega, by omega⟩, q _ _ _ H1 I1 f1 n1 drv_rng trivial rfl⟩
/-! ### comprehensions -/
/-- a hidden cell (no own slot's) is changed -/
theorem En.hidden {C : Ct} {A : Addr → Bool} {H : Hp} {σ : L2.St} (I : En C A H σ ρ) {D : Addr} {o : HO} (hA : A D = true) (hf : C.fa ≠ some D) (h0 : C.H0 D = none) (hn : ∀ (i : Nat) (xs : List PyData), ρ[i]? = some (.own xs) → σ[i]? ≠ some (some (.ref D))) : En C A (L2.upd H D o) σ ρ := by
  have eh : hid A (L2.upd H D o) = hid A H := by
    funext b
    by_cases e : b = D
    · unfold hid; rw [e, if_pos hA, if_pos hA]
    · unfold hid; rw [upd_ne e]
  refine ⟨fun b o' e n => ?_, fun b h => ?_, I.sub, fun a e => ⟨(I.feed a e).1, ?_⟩, I.len, fun i => ?_, I.inj, I.al0⟩
  · rw [upd_ne (fun z => by rw [z, h0] at e; cases e)]
    exact I.keep b o' e n
  · by_cases e : b = D
    · exact ⟨o, by rw [e, upd_same]⟩
    · obtain ⟨o', q⟩ := I.al b h
      exact ⟨o', by rw [upd_ne e]; exact q⟩
  · refine (I.feed a e).2.mono (by rw [eh]; exact Same.refl _) fun o' q => ?_
    rw [upd_ne (fun z => hf (by rw [e, z]))]
    exact q
  · have q := I.sl i
    cases e : ρ[i]? with
    | none => trivial
    | some s =>
      rw [e] at q
      cases s with
      | no => trivial
      | d x => obtain ⟨v, h1, h2⟩ := q; exact ⟨v, h1, by rw [eh]; exact h2⟩
      | own xs =>
        obtain ⟨l, vs, h1, h2, h3, h4, h5, h6⟩ := q
        refine ⟨l, vs, h1, h2, h3, h4, ?_, by rw [eh]; exact h6⟩
        rw [upd_ne (fun z => hn i xs e (by rw [h1, z]))]
        exact h5
      | fd => exact q
/-- a new cell that is hidden from its making on -/
def addA (A : Addr → Bool) (D : Addr) : Addr → Bool := fun b => A b || decide (b = D)
theorem addA_at {A : Addr → Bool} {D : Addr} : addA A D D = true := by simp [addA]
theorem addA_of {A : Addr → Bool} {D b : Addr} (h : A b = true) : addA A D b = true := by simp [addA, h]
theorem hid_add {A : Addr → Bool} {H : Hp} {D : Addr} {o : HO} (h : H D = none) : hid (addA A D) (L2.upd H D o) = hid A H := by
  funext b
  by_cases e : b = D
  · unfold hid; rw [e, if_pos addA_at]
    split
    · rfl
    · exact h.symm
  · have ea : addA A D b = A b := by simp [addA, e]
    unfold hid; rw [ea, upd_ne e]
theorem En.newHid {C : Ct} {A : Addr → Bool} {H : Hp} {σ : L2.St} (I : En C A H σ ρ) {D : Addr} {o : HO} (h : H D = none) : En C (addA A D) (L2.upd H D o) σ ρ := by
  have eh := hid_add (A := A) (o := o) h
  have sm : Same H (L2.upd H D o) := Same.new h
  refine ⟨fun b o' e n => sm b o' (I.keep b o' e n), fun b hb => ?_, fun b hb => addA_of (I.sub b hb), fun a e => ⟨addA_of (I.feed a e).1, (I.feed a e).2.mono (by rw [eh]; exact Same.refl _) fun o' q => sm a o' q⟩, I.len, fun i => ?_, I.inj, I.al0⟩
  · by_cases e : b = D
    · exact ⟨o, by rw [e, upd_same]⟩
    · have : A b = true := by simpa [addA, e] using hb
      obtain ⟨o', q⟩ := I.al b this
      exact ⟨o', sm b o' q⟩
  · have q := I.sl i
    cases e : ρ[i]? with
    | none => trivial
    | some s =>
      rw [e] at q
      cases s with
      | no => trivial
      | d x => obtain ⟨v, h1, h2⟩ := q; exact ⟨v, h1, by rw [eh]; exact h2⟩
      | own xs =>
        obtain ⟨l, vs, h1, h2, h3, h4, h5, h6⟩ := q
        exact ⟨l, vs, h1, addA_of h2, h3, h4, sm _ _ h5, by rw [eh]; exact h6⟩
      | fd => exact q
theorem En.noown {C : Ct} {A : Addr → Bool} {H : Hp} {σ : L2.St} (I : En C A H σ ρ) {D : Addr} (h : H D = none) : ∀ (i : Nat) (xs : List PyData), ρ[i]? = some (.own xs) → σ[i]? ≠ some (some (.ref D)) := fun i xs e z => by
  have q := I.sl i
  rw [e] at q
  obtain ⟨l, vs, h1, _, _, _, h5, _⟩ := q
  rw [h1] at z
  cases z
  rw [h] at h5; cases h5
theorem ev_lc {wi : TI} {j : Nat} {vs : List Nat} {b : PyData → Bool} {Pe : PyData → DP} (hi : EvI G wi ρ PL) (hj : j ∈ vs) (hn : ∀ xs, PL xs → xs.length ≤ 10000000)
    (ht : ∀ xs, PL xs → ∀ x ∈ xs, EvT G u ((wipeR ρ vs).set j (.d x)) (· = b x)) (he : ∀ xs, PL xs → ∀ x ∈ xs, b x = true → Ev G te ((wipeR ρ vs).set j (.d x)) (Pe x)) :
    Ev G (tLc wi (gName j) u te vs) ρ (fun d => ∃ xs ds, PL xs ∧ d = .list ds ∧ All2 Pe (xs.filter b) ds) := fun C A H σ Q hk I X q =>
  hi C A H σ _ hk I X fun J xs Ok H1 I1 f1 n1 dr ok1 p1 D hD => by
    have hx := hn xs p1
    have eh := hid_add (A := A) (o := .lst []) hD
    have nf := I1.no0 hD
    have AD : A D = false := I1.al.new hD
    -- the invariant: behind i items
    let W : Nat → Hp → Prop := fun i H' => En C (addA A D) H' (wipe σ vs) (wipeR ρ vs) ∧ Fr C H1 H' ∧ (∀ b, H' b = none → H1 b = none) ∧ Ok (addA A D) H' ∧ ∃ (ws : List V) (ds : List PyData), H' D = some (.lst ws) ∧ DpAll C.K (hid (addA A D) H') ws ds ∧ All2 Pe ((xs.take i).filter b) ds ∧ ds.length ≤ i
    have fin : ∀ i H', W i H' → xs.length ≤ i → Q (.ref D) H' := fun i H' w hl => by
      obtain ⟨wE, wF, wN, wO, ws, ds, w1, w2, w3, w4⟩ := w
      have fds : ∀ a, C.fa = some a → FeedOk C.K A H' a := fun a e => (wE.feed a e).2.mono (hid_le fun b hb => addA_of hb) fun o z => z
      refine q (.ref D) (.list ds) H' (I1.fr wF fds) (f1.trans wF) (fun b e => n1 b (wN b e)) ?_ ⟨xs, ds, p1, rfl, ?_⟩
      · exact .lst (SqL.of (by rw [hid_at AD]; exact w1)) (dpAll_mono (hid_le fun b hb => addA_of hb) w2)
      · rw [List.take_of_length_le hl] at w3; exact w3
    refine ⟨fun i m H' => m = xs.length - i ∧ W i H', ⟨_, rfl, ?_⟩, ?_⟩
    · exact ⟨(I1.newHid hD).wipe vs, Fr.of (Same.new hD), nn_of (Same.new hD), dr.mono _ _ _ _ ok1 (by rw [eh]; exact Same.refl _), [], [], upd_same, .nil, by simp; exact .nil, Nat.le_refl _⟩
    · rintro i m H' ⟨rfl, w⟩
      by_cases hlt : i < xs.length
      · have hxi : xs[i]? = some xs[i] := by simp [hlt]
        have hmem : xs[i] ∈ xs := List.getElem_mem hlt
        have w' := w
        obtain ⟨wE, wF, wN, wO, ws, ds, w1, w2, w3, w4⟩ := w
        obtain ⟨hgo, hy⟩ := dr.go (addA A D) H' i xs[i] wE.al wO hxi
        refine .inr ⟨hgo, W (i + 1), fun H2 w2 => ⟨xs.length - (i + 1), by omega, rfl, w2⟩, fun v H2 y => ?_⟩
        obtain ⟨s2, d2⟩ := hy v H2 y
        have E2 : En C (addA A D) H2 (wipe σ vs) (wipeR ρ vs) := wE.same s2
        have E3 : En C (addA A D) H2 ((wipe σ vs).set j (some v)) ((wipeR ρ vs).set j (.d xs[i])) := E2.set d2
        show wipe ((wipe σ vs).set j (some v)) vs = wipe σ vs ∧ _
        refine ⟨wipe_set hj, ?_⟩
        have F2 : Fr C H1 H2 := wF.trans (Fr.of s2)
        have N2 : ∀ b, H2 b = none → H1 b = none := fun b e => wN b (nn_of s2 b e)
        have etk : xs.take (i + 1) = xs.take i ++ [xs[i]] := by rw [List.take_succ, hxi]; rfl
        -- back from the block's names
        have back : ∀ {H4 : Hp}, En C (addA A D) H4 ((wipe σ vs).set j (some v)) ((wipeR ρ vs).set j (.d xs[i])) → Fr C H2 H4 → En C (addA A D) H4 (wipe σ vs) (wipeR ρ vs) := fun {H4} E4 F4 => E2.fr F4 fun a e => (E4.feed a e).2
        have keepD : ∀ {H4 : Hp}, Fr C H2 H4 → H4 D = some (.lst ws) := fun {H4} F4 => F4 D _ (s2 D _ w1) nf.1
        refine ht xs p1 xs[i] hmem C (addA A D) H2 _ _ hk E3 X fun c H3 E4 F4 N4 pc => ?_
        cases c with
        | true =>
          rw [if_pos rfl]
          have hb : b xs[i] = true := pc.symm
          refine he xs p1 xs[i] hmem hb C (addA A D) H3 _ _ hk E4 X fun yv yd H4 E5 F5 N5 d5 p5 => ?_
          have D5 := keepD (F4.trans F5)
          refine ⟨ws, D5, by have := dpAll_len w2; rw [sizeLine_eq]; omega, ?_⟩
          have E6 := back E5 (F4.trans F5)
          have hno : ∀ (i : Nat) (xs : List PyData), (wipeR ρ vs)[i]? = some (.own xs) → (wipe σ vs)[i]? ≠ some (some (.ref D)) := ((I1.wipe vs).noown hD)
          have E7 := E6.hidden (o := .lst (ws ++ [yv])) addA_at nf.1 nf.2 hno
          have eh7 : hid (addA A D) (L2.upd H4 D (.lst (ws ++ [yv]))) = hid (addA A D) H4 := by
            funext q
            by_cases e : q = D
            · unfold hid; rw [e, if_pos addA_at, if_pos addA_at]
            · unfold hid; rw [upd_ne e]
          have S4 : Same (hid (addA A D) H') (hid (addA A D) H4) := fun q o e => E3.fr_hid (F4.trans F5) q o (hid_same (fun q o _ e => s2 q o e) q o e)
          refine ⟨E7, fun q o e n => ?_, fun q e => ?_, dr.mono _ _ _ _ wO (by rw [eh7]; exact S4), ws ++ [yv], ds ++ [yd], upd_same, ?_, ?_, ?_⟩
          · rw [upd_ne (ne_of_none e hD)]
            exact (F2.trans (F4.trans F5)) q o e n
          · by_cases z : q = D
            · rw [z]; exact hD
            · rw [upd_ne z] at e
              exact N2 q (N4 q (N5 q e))
          · rw [eh7]
            exact dpAll_app (dpAll_mono S4 w2) (.cons d5 .nil)
          · rw [etk, List.filter_append, List.filter_cons, if_pos hb]
            exact All2.snoc p5 w3
          · rw [List.length_append]; simp; omega
        | false =>
          rw [if_neg Bool.false_ne_true]
          have hb : b xs[i] = false := pc.symm
          have E6 := back E4 F4
          have S4 : Same (hid (addA A D) H') (hid (addA A D) H3) := fun q o e => E3.fr_hid F4 q o (hid_same (fun q o _ e => s2 q o e) q o e)
          refine ⟨E6, F2.trans F4, fun q e => N2 q (N4 q e), dr.mono _ _ _ _ wO S4, ws, ds, keepD F4, dpAll_mono S4 w2, ?_, by omega⟩
          rw [etk, List.filter_append, List.filter_cons, if_neg (by rw [hb]; decide)]
          simpa using w3
      · have w' := w
        obtain ⟨wE, wF, wN, wO, _⟩ := w'
        exact .inl ⟨dr.stop _ _ _ wO (by omega), fin i H' w (by omega)⟩
theorem et_yes : EvT G tYes ρ (· = true) := fun C A H σ Q hk I X q => q true H I Fr.refl (fun _ z => z) rfl
/-- exact forms, the items told by a list of Lean's own -/
theorem All2.typed {α β : Type} {enc : α → PyData} {encO : β → PyData} {g : α → β} {bd : PyData → Bool} {b : α → Bool} (hb : ∀ a, bd (enc a) = b a) {Pe : PyData → DP} : ∀ {L : List α}, (∀ a ∈ L, ∀ d, Pe (enc a) d → d = encO (g a)) → ∀ {ds : List PyData}, All2 Pe ((L.map enc).filter bd) ds → ds = ((L.filter b).map g).map encO
  | [], _, ds, h => by cases h; rfl
  | a :: L, hp, ds, h => by
    rw [List.map_cons, List.filter_cons, hb a] at h
    rw [List.filter_cons]
    cases e : b a with
    | true =>
      rw [e, if_pos rfl] at h
      rw [if_pos rfl]
      cases h with
      | cons h1 h2 =>
        rw [hp a (List.mem_cons_self ..) _ h1, All2.typed hb (fun a' ha' => hp a' (List.mem_cons_of_mem _ ha')) h2]
        rfl
    | false =>
      rw [e, if_neg Bool.false_ne_true] at h
      rw [if_neg Bool.false_ne_true]
      exact All2.typed hb (fun a' ha' => hp a' (List.mem_cons_of_mem _ ha')) h
open Classical in
theorem ev_lcM {α β : Type} {wi : TI} {j : Nat} {vs : List Nat} {L : List α} {enc : α → PyData} (inj : ∀ a b, enc a = enc b → a = b) (b : α → Bool) (g : α → β) (encO : β → PyData) (hi : EvI G wi ρ (· = L.map enc)) (hj : j ∈ vs) (hn : L.length ≤ 10000000)
    (ht : ∀ a ∈ L, EvT G u ((wipeR ρ vs).set j (.d (enc a))) (· = b a)) (he : ∀ a ∈ L, b a = true → Ev G te ((wipeR ρ vs).set j (.d (enc a))) (· = encO (g a))) : Ev G (tLc wi (gName j) u te vs) ρ (· = .list (((L.filter b).map g).map encO)) := by
  let bd : PyData → Bool := fun x => decide (∃ a, enc a = x ∧ b a = true)
  have hbd : ∀ a, bd (enc a) = b a := fun a => by
    show decide (∃ a', enc a' = enc a ∧ b a' = true) = b a
    cases e : b a with
    | true => exact decide_eq_true ⟨a, rfl, e⟩
    | false =>
      refine decide_eq_false fun ⟨a', e1, e2⟩ => ?_
      rw [inj _ _ e1, e] at e2; cases e2
  refine (ev_lc (b := bd) (Pe := fun x d => ∀ a, enc a = x → d = encO (g a)) hi hj (fun ys e => by rw [e, List.length_map]; exact hn) (fun ys e x hx => ?_) (fun ys e x hx hb => ?_)).imp fun d ⟨ys, ds, e1, e2, e3⟩ => ?_
  · rw [e] at hx
    obtain ⟨a, ha, rfl⟩ := List.mem_map.mp hx
    rw [hbd a]
    exact ht a ha
  · rw [e] at hx
    obtain ⟨a, ha, rfl⟩ := List.mem_map.mp hx
    rw [hbd a] at hb
    exact (he a ha hb).imp fun d hd a' ea => by rw [inj _ _ ea]; exact hd
  · rw [e1] at e3
    rw [e2, All2.typed (g := g) (encO := encO) hbd (fun a _ d hd => hd a rfl) e3]
theorem ev_mapM {α β : Type} {wi : TI} {j : Nat} {vs : List Nat} {L : List α} {enc : α → PyData} (inj : ∀ a b, enc a = enc b → a = b) (g : α → β) (encO : β → PyData) (hi : EvI G wi ρ (· = L.map enc)) (hj : j ∈ vs) (hn : L.length ≤ 10000000)
    (he : ∀ a ∈ L, Ev G te ((wipeR ρ vs).set j (.d (enc a))) (· = encO (g a))) : Ev G (tLc wi (gName j) tYes te vs) ρ (· = .list ((L.map g).map encO)) :=
  (ev_lcM inj (fun _ => true) g encO hi hj hn (fun _ _ => et_yes) (fun x hx _ => he x hx)).imp fun d e => by rw [e, List.filter_eq_self.mpr (fun _ _ => rfl)]
theorem inj_int (a b : Int) (h : PyData.int a = PyData.int b) : a = b := by cases h; rfl
theorem inj_str (a b : Str) (h : PyData.str a = PyData.str b) : a = b := by cases h; rfl
theorem inj_sgn (a b : Nat) (h : PyData.str ⟨#[a]⟩ = PyData.str ⟨#[b]⟩) : a = b := by cases h; rfl
/-- exact forms -/
theorem ev_lcX {wi : TI} {j : Nat} {vs : List Nat} (b : PyData → Bool) (f : PyData → PyData) (hi : EvI G wi ρ (· = xs)) (hj : j ∈ vs) (hn : xs.length ≤ 10000000) (ht : ∀ x ∈ xs, EvT G u ((wipeR ρ vs).set j (.d x)) (· = b x))
    (he : ∀ x ∈ xs, b x = true → Ev G te ((wipeR ρ vs).set j (.d x)) (· = f x)) : Ev G (tLc wi (gName j) u te vs) ρ (· = .list ((xs.filter b).map f)) :=
  (ev_lc (b := b) (Pe := fun x d => d = f x) hi hj (fun ys e => by rw [e]; exact hn) (fun ys e => by rw [e]; exact ht) (fun ys e => by rw [e]; exact he)).imp fun d ⟨ys, ds, e1, e2, e3⟩ => by
    rw [e2, All2.fn e3, e1]
theorem ev_map {wi : TI} {j : Nat} {vs : List Nat} (f : PyData → PyData) (hi : EvI G wi ρ (· = xs)) (hj : j ∈ vs) (hn : xs.length ≤ 10000000)
    (he : ∀ x ∈ xs, Ev G te ((wipeR ρ vs).set j (.d x)) (· = f x)) : Ev G (tLc wi (gName j) tYes te vs) ρ (· = .list (xs.map f)) :=
  (ev_lcX (fun _ => true) f hi hj hn (fun _ _ => et_yes) (fun x hx _ => he x hx)).imp fun d e => by rw [e, List.filter_eq_self.mpr (fun _ _ => rfl)]
end
end K13
set_option maxHeartbeats 2000000
/-! Statements and defs over data. -/
namespace K13
open PySem L2
/-- a statement's reading: on to slots of which N holds, or a value of which R holds is returned -/
def Sv (G : Gd) (t : TS) (ρ : List Sl) (N : List Sl → Prop) (R : DP) : Prop := ∀ (C : Ct) (A : Addr → Bool) (H : Hp) (σ : L2.St) (D : Ends), C.K = G.K → En C A H σ ρ → Xq G C →
  (∀ (A' : Addr → Bool) (H' : Hp) (σ' : L2.St) (ρ' : List Sl), En C A' H' σ' ρ' → Same (hid A H) (hid A' H') → N ρ' → D.nx σ' H') →
  (∀ (v : V) (d : PyData) (H' : Hp), (∀ b o, C.H0 b = some o → C.fa ≠ some b → H' b = some o) → (∀ a, C.fa = some a → FeedOk C.K C.A0 H' a) → Dp C.K (hid C.A0 H') v d → R d → D.rt v H') → t D σ H
def Gv (K : PySem.W.Frag) (g : TG) (x : PyData) (ρ ρ2 : List Sl) : Prop := ∀ (C : Ct) (A : Addr → Bool) (H : Hp) (σ : L2.St) (v : V) (k : L2.St → Hp → Prop), C.K = K → En C A H σ ρ → Dp C.K (hid A H) v x → (∀ σ2, En C A H σ2 ρ2 → k σ2 H) → g v σ H k
def GvS (K : PySem.W.Frag) (g : TGs) (xs : List PyData) (ρ ρ2 : List Sl) : Prop := ∀ (C : Ct) (A : Addr → Bool) (H : Hp) (σ : L2.St) (vs : List V) (k : L2.St → Hp → Prop), C.K = K → En C A H σ ρ → DpAll C.K (hid A H) vs xs → (∀ σ2, En C A H σ2 ρ2 → k σ2 H) → g vs σ H k
section
variable {G : Gd} {ρ ρ2 ρ3 : List Sl} {t ta tb tc te tl : TE} {ts tu tw : TS} {u v : TT} {P P1 P2 P3 R : DP} {x y z d : PyData} {tA tr : TA} {ds xs : List PyData} {PL : List PyData → Prop} {K : PySem.W.Frag} {N M : List Sl → Prop} {g : TG} {gs : TGs}
theorem gv_name {j : Nat} : Gv K (gName j) x ρ (ρ.set j (.d x)) := fun C A H σ v k hk I dv q => q _ (I.set dv)
theorem gvs_nil : GvS K gNil [] ρ ρ := fun C A H σ vs k hk I dv q => by
  cases dv
  exact ⟨rfl, q σ I⟩
theorem gvs_cons (h : Gv K g x ρ ρ2) (hr : GvS K gs xs ρ2 ρ3) : GvS K (gCons g gs) (x :: xs) ρ ρ3 := fun C A H σ vs k hk I dv q => by
  cases dv with
  | cons h1 h2 => exact ⟨_, _, rfl, h C A H σ _ _ hk I h1 fun σ2 I2 => hr C A H σ2 _ k hk I2 h2 q⟩
theorem gv_tup {n : Nat} (h : GvS K gs xs ρ ρ2) (hn : xs.length = n) : Gv K (gTup K n gs) (.tuple xs) ρ ρ2 := fun C A H σ v k hk I dv q => by
  obtain ⟨a, vs, rfl, s, da⟩ := dp_tup dv
  exact ⟨a, vs, rfl, hk ▸ Same.seqT hid_to s, by rw [dpAll_len da]; exact hn, h C A H σ vs k hk I da q⟩
theorem Sv.imp {N N1 : List Sl → Prop} {R R1 : DP} (h : Sv G ts ρ N R) (hn : ∀ ρ, N ρ → N1 ρ) (hr : ∀ d, R d → R1 d) : Sv G ts ρ N1 R1 := fun C A H σ D hk I X qn qr => h C A H σ D hk I X (fun A' H' σ' ρ' I' s p => qn A' H' σ' ρ' I' s (hn _ p)) fun v d H' k f dv p => qr v d H' k f dv (hr d p)
theorem sv_next (h : N ρ) : Sv G tNext ρ N R := fun C A H σ D hk I X qn qr => qn A H σ ρ I (Same.refl _) h
theorem sv_seq (h : Sv G ts ρ M R) (k : ∀ ρ', M ρ' → Sv G tu ρ' N R) : Sv G (tSeq ts tu) ρ N R := fun C A H σ D hk I X qn qr =>
  h C A H σ { D with nx := tu D } hk I X (fun A1 H1 σ1 ρ1 I1 s1 p1 => k ρ1 p1 C A1 H1 σ1 D hk I1 X (fun A2 H2 σ2 ρ2 I2 s2 p2 => qn A2 H2 σ2 ρ2 I2 (s1.trans s2) p2) qr) qr
theorem sv_asg (h : Ev G te ρ P) (hg : ∀ x, P x → ∃ ρ2, Gv G.K g x ρ ρ2 ∧ N ρ2) : Sv G (tAsg te g) ρ N R := fun C A H σ D hk I X qn qr => h C A H σ _ hk I X fun v d H1 I1 f1 n1 d1 p1 => by
  obtain ⟨ρ2, h2, hN⟩ := hg d p1
  exact h2 C A H1 σ v _ hk I1 d1 fun σ2 I2 => qn A H1 σ2 ρ2 I2 (I.fr_hid f1) hN
/-- name = e; the rest -/
theorem sv_set {i : Nat} (h : Ev G te ρ P) (k : ∀ x, P x → Sv G tu (ρ.set i (.d x)) N R) : Sv G (tSeq (tAsg te (gName i)) tu) ρ N R :=
  sv_seq (M := fun ρ' => ∃ x, P x ∧ ρ' = ρ.set i (.d x)) (sv_asg h fun x p => ⟨_, gv_name, x, p, rfl⟩) fun ρ' ⟨x, p, e⟩ => by rw [e]; exact k x p
theorem sv_setX {i : Nat} (h : Ev G te ρ (· = x)) (k : Sv G tu (ρ.set i (.d x)) N R) : Sv G (tSeq (tAsg te (gName i)) tu) ρ N R := sv_set h fun y e => by rw [e]; exact k
theorem sv_set1 {i : Nat} (h : Ev G te ρ P) (k : ∀ x, P x → N (ρ.set i (.d x))) : Sv G (tAsg te (gName i)) ρ N R := sv_asg h fun x p => ⟨_, gv_name, k x p⟩
/-- unpacking -/
theorem sv_unp (h : Ev G te ρ (· = x)) (hg : Gv G.K g x ρ ρ2) (k : Sv G tu ρ2 N R) : Sv G (tSeq (tAsg te g) tu) ρ N R :=
  sv_seq (M := fun ρ' => ρ' = ρ2) (sv_asg h fun y e => ⟨ρ2, by rw [e]; exact hg, rfl⟩) fun ρ' e => by rw [e]; exact k
theorem sv_ret (h : Ev G te ρ P) (hr : ∀ d, P d → R d) : Sv G (tRet te) ρ N R := fun C A H σ D hk I X qn qr => h C A H σ _ hk I X fun v d H1 I1 f1 n1 d1 p1 =>
  qr v d H1 I1.keep (fun a e => (I1.feed a e).2.mono (hid_le I1.sub) fun o z => z) (dp_mono (hid_le I1.sub) d1) (hr d p1)
theorem sv_retX (h : Ev G te ρ R) : Sv G (tRet te) ρ N R := sv_ret h fun _ z => z
theorem sv_drop (h : Ev G te ρ P) (hn : N ρ) : Sv G (tDrop te) ρ N R := fun C A H σ D hk I X qn qr => h C A H σ _ hk I X fun v d H1 I1 f1 n1 d1 p1 => qn A H1 σ ρ I1 (I.fr_hid f1) hn
theorem sv_if {Pb : Bool → Prop} (h : EvT G u ρ Pb) (h1 : Pb true → Sv G ts ρ N R) (h2 : Pb false → Sv G tu ρ N R) : Sv G (tIfS u ts tu) ρ N R := fun C A H σ D hk I X qn qr => h C A H σ _ hk I X fun b H1 I1 f1 n1 p1 => by
  have S1 := I.fr_hid f1
  cases b with
  | true =>
    rw [if_pos rfl]
    exact h1 p1 C A H1 σ D hk I1 X (fun A2 H2 σ2 ρ2 I2 s2 p2 => qn A2 H2 σ2 ρ2 I2 (S1.trans s2) p2) qr
  | false =>
    rw [if_neg Bool.false_ne_true]
    exact h2 p1 C A H1 σ D hk I1 X (fun A2 H2 σ2 ρ2 I2 s2 p2 => qn A2 H2 σ2 ρ2 I2 (S1.trans s2) p2) qr
/-- a test that leaves by return, or the rest -/
theorem sv_when {b : Bool} (h : EvT G u ρ (· = b)) (h1 : b = true → Sv G ts ρ (fun _ => False) R) (h2 : b = false → Sv G tw ρ N R) : Sv G (tSeq (tIfS u ts tNext) tw) ρ N R :=
  sv_seq (M := fun ρ' => ρ' = ρ ∧ b = false) (sv_if h (fun e => (h1 e.symm).imp (fun _ z => z.elim) fun _ z => z) (fun e => sv_next ⟨rfl, e.symm⟩)) fun ρ' ⟨e, eb⟩ => by rw [e]; exact h2 eb
/-- a, b = x, y -/
theorem sv_par {i j : Nat} (h : EvA G tA ρ (· = [x, y])) (k : Sv G tu ((ρ.set i (.d x)).set j (.d y)) N R) : Sv G (tSeq (tPar i j tA) tu) ρ N R :=
  sv_seq (M := fun ρ' => ρ' = (ρ.set i (.d x)).set j (.d y)) (fun C A H σ D hk I X qn qr => h C A H σ _ hk I X fun vs ds H1 I1 f1 n1 d1 p1 => by
    subst p1
    obtain ⟨v, w, rfl, dv, dw⟩ := dp2 d1
    exact ⟨v, w, rfl, qn A H1 _ _ ((I1.set dv).set dw) (I.fr_hid f1) rfl⟩) fun ρ' e => by rw [e]; exact k
theorem sv_parL {i j : Nat} (h : EvA G tA ρ (· = [x, y])) (k : N ((ρ.set i (.d x)).set j (.d y))) : Sv G (tPar i j tA) ρ N R := fun C A H σ D hk I X qn qr => h C A H σ _ hk I X fun vs ds H1 I1 f1 n1 d1 p1 => by
  subst p1
  obtain ⟨v, w, rfl, dv, dw⟩ := dp2 d1
  exact ⟨v, w, rfl, qn A H1 _ _ ((I1.set dv).set dw) (I.fr_hid f1) k⟩
/-- .. what is drawn for them told by a relation -/
theorem sv_parg {i j : Nat} {Ps : List PyData → Prop} (h : EvA G tA ρ Ps) (k : ∀ ds, Ps ds → ∃ x y, ds = [x, y] ∧ Sv G tu ((ρ.set i (.d x)).set j (.d y)) N R) : Sv G (tSeq (tPar i j tA) tu) ρ N R :=
  sv_seq (M := fun ρ' => ∃ x y, Ps [x, y] ∧ ρ' = (ρ.set i (.d x)).set j (.d y)) (fun C A H σ D hk I X qn qr => h C A H σ _ hk I X fun vs ds H1 I1 f1 n1 d1 p1 => by
    obtain ⟨x, y, e, _⟩ := k ds p1
    subst e
    obtain ⟨v, w, rfl, dv, dw⟩ := dp2 d1
    exact ⟨v, w, rfl, qn A H1 _ _ ((I1.set dv).set dw) (I.fr_hid f1) ⟨x, y, p1, rfl⟩⟩) fun ρ' ⟨x, y, p, e⟩ => by
      obtain ⟨x', y', e', q⟩ := k _ p
      cases e'
      rw [e]; exact q
theorem dp3 {H : Hp} {vs : List V} (h : DpAll K H vs [x, y, z]) : ∃ v w q, vs = [v, w, q] ∧ Dp K H v x ∧ Dp K H w y ∧ Dp K H q z := by
  cases h with
  | cons h t =>
    obtain ⟨v, w, rfl, a, b⟩ := dp2 t
    exact ⟨_, v, w, rfl, h, a, b⟩
theorem sv_par3 {i j l : Nat} (h : EvA G tA ρ (· = [x, y, z])) (k : Sv G tu (((ρ.set i (.d x)).set j (.d y)).set l (.d z)) N R) : Sv G (tSeq (tPar3 i j l tA) tu) ρ N R :=
  sv_seq (M := fun ρ' => ρ' = ((ρ.set i (.d x)).set j (.d y)).set l (.d z)) (fun C A H σ D hk I X qn qr => h C A H σ _ hk I X fun vs ds H1 I1 f1 n1 d1 p1 => by
    subst p1
    obtain ⟨v, w, q, rfl, dv, dw, dq⟩ := dp3 d1
    exact ⟨v, w, q, rfl, qn A H1 _ _ (((I1.set dv).set dw).set dq) (I.fr_hid f1) rfl⟩) fun ρ' e => by rw [e]; exact k
/-! ### own lists -/
theorem En.setOwn {C : Ct} {A : Addr → Bool} {H : Hp} {σ : L2.St} (I : En C A H σ ρ) {i : Nat} {p : Addr} {vs : List V} (hA : A p = true) (hf : C.fa ≠ some p) (h0 : C.H0 p = none) (hH : H p = some (.lst vs)) (hd : DpAll C.K (hid A H) vs xs)
    (hn : ∀ (j : Nat) (ys : List PyData), j ≠ i → ρ[j]? = some (.own ys) → σ[j]? ≠ some (some (.ref p))) : En C A H (σ.set i (some (.ref p))) (ρ.set i (.own xs)) where
  keep := I.keep
  al := I.al
  sub := I.sub
  feed := I.feed
  al0 := I.al0
  len := by rw [List.length_set, List.length_set]; exact I.len
  sl := fun j => by
    by_cases e : i = j
    · subst e
      by_cases hi : i < σ.length
      · rw [List.getElem?_set_self hi, List.getElem?_set_self (by rw [← I.len]; exact hi)]
        exact ⟨p, vs, rfl, hA, hf, h0, hH, hd⟩
      · rw [List.getElem?_eq_none (l := ρ.set i (.own xs)) (by rw [List.length_set, ← I.len]; omega)]
        trivial
    · rw [List.getElem?_set_ne e, List.getElem?_set_ne e]
      exact I.sl j
  inj := fun a b l ys zs h1 h2 h3 h4 => by
    have key : ∀ (c : Nat) (ws : List PyData), c ≠ i → (ρ.set i (.own xs))[c]? = some (.own ws) → (σ.set i (some (.ref p)))[c]? = some (some (.ref l)) → l ≠ p := fun c ws hc e1 e2 e3 => by
      rw [List.getElem?_set_ne (Ne.symm hc)] at e1 e2
      rw [e3] at e2
      exact hn c ws hc e1 e2
    have self : ∀ (ws : List PyData), (σ.set i (some (.ref p)))[i]? = some (some (.ref l)) → l = p := fun ws e => by
      by_cases hi : i < σ.length
      · rw [List.getElem?_set_self hi] at e
        cases e; rfl
      · rw [List.getElem?_eq_none (by rw [List.length_set]; omega)] at e; cases e
    by_cases ea : a = i
    · by_cases eb : b = i
      · rw [ea, eb]
      · exact absurd (self ys (ea ▸ h3)) (key b zs eb h2 h4)
    · by_cases eb : b = i
      · exact absurd (self ys (eb ▸ h4)) (key a ys ea h1 h3)
      · rw [List.getElem?_set_ne (Ne.symm ea)] at h1 h3
        rw [List.getElem?_set_ne (Ne.symm eb)] at h2 h4
        exact I.inj a b l ys zs h1 h2 h3 h4
/-- name = [..], a list that the def itself lets grow -/
theorem sv_own {i : Nat} (h : EvA G tA ρ (· = xs)) (hl : xs.length ≤ 1000) (k : Sv G tu (ρ.set i (.own xs)) N R) : Sv G (tSeq (tAsg (tLst tA) (gName i)) tu) ρ N R :=
  sv_seq (M := fun ρ' => ρ' = ρ.set i (.own xs)) (fun C A H σ D hk I X qn qr => h C A H σ _ hk I X fun vs ds H1 I1 f1 n1 d1 p1 => by
    subst p1
    refine ⟨by rw [dpAll_len d1, sizeLine_eq]; omega, fun p hp => ?_⟩
    have eh := hid_add (A := A) (o := .lst vs) hp
    have nf := I1.no0 hp
    refine qn (addA A p) _ _ _ ((I1.newHid (o := .lst vs) hp).setOwn addA_at nf.1 nf.2 upd_same (by rw [eh]; exact d1) fun j ys _ e => I1.noown hp j ys e) ?_ rfl
    rw [eh]
    exact I.fr_hid f1) fun ρ' e => by rw [e]; exact k
/-- x.append(e), x an own list -/
theorem sv_appL {i : Nat} (hi : ρ[i]? = some (.own xs)) (h : Ev G te ρ P) (hl : xs.length ≤ 10000000) (k : ∀ x, P x → N (ρ.set i (.own (xs ++ [x])))) :
    Sv G (tDrop (tBM G.K "list" rAppend (tVar i) (tCons te tNil))) ρ N R := fun C A H σ D hk I X qn qr => by
    have s := I.sl i
    rw [hi] at s
    obtain ⟨l, vs, e1, e2, e3, e4, e5, e6⟩ := s
    refine ⟨.ref l, e1, .inl ⟨rfl, _, SqL.of e5⟩, ?_⟩
    refine h C A H σ _ hk I X fun v d H1 I1 f1 n1 d1 p1 => ?_
    have e5' := f1 l _ e5 e3
    have e6' := dpAll_mono (I.fr_hid f1) e6
    refine ⟨l, vs, v, rfl, rfl, e5', by rw [dpAll_len e6, sizeLine_eq]; omega, ?_⟩
    have eh : hid A (L2.upd H1 l (.lst (vs ++ [v]))) = hid A H1 := by
      funext q
      by_cases e : q = l
      · unfold hid; rw [e, if_pos e2, if_pos e2]
      · unfold hid; rw [upd_ne e]
    have hs : σ.set i (some (.ref l)) = σ := by
      apply List.ext_getElem?
      intro j
      by_cases e : i = j
      · subst e
        rw [List.getElem?_set_self (by have := (List.getElem?_eq_some_iff.mp e1).1; exact this), e1]
      · rw [List.getElem?_set_ne e]
    have hi2 : i < ρ.length := (List.getElem?_eq_some_iff.mp hi).1
    -- the slot is forgotten, the cell changed, the slot told anew
    have J : En C A H1 σ (ρ.set i .no) := by
      refine ⟨I1.keep, I1.al, I1.sub, I1.feed, by rw [List.length_set]; exact I1.len, fun j => ?_, fun a b l' ys zs h1 h2 h3 h4 => ?_, I1.al0⟩
      · by_cases e : i = j
        · subst e
          rw [List.getElem?_set_self hi2]; trivial
        · rw [List.getElem?_set_ne e]; exact I1.sl j
      · by_cases ea : i = a
        · subst ea; rw [List.getElem?_set_self hi2] at h1; cases h1
        · by_cases eb : i = b
          · subst eb; rw [List.getElem?_set_self hi2] at h2; cases h2
          · rw [List.getElem?_set_ne ea] at h1
            rw [List.getElem?_set_ne eb] at h2
            exact I1.inj a b l' ys zs h1 h2 h3 h4
    have hno : ∀ (j : Nat) (ys : List PyData), (ρ.set i .no)[j]? = some (.own ys) → σ[j]? ≠ some (some (.ref l)) := fun j ys q1 q2 => by
      by_cases e : i = j
      · subst e; rw [List.getElem?_set_self hi2] at q1; cases q1
      · rw [List.getElem?_set_ne e] at q1
        exact e (I1.inj i j l xs ys hi q1 e1 q2)
    have J2 := J.hidden (o := .lst (vs ++ [v])) e2 e3 e4 hno
    have J3 := J2.setOwn (i := i) (xs := xs ++ [d]) e2 e3 e4 upd_same (by rw [eh]; exact dpAll_app e6' (.cons d1 .nil)) fun j ys _ q => hno j ys q
    rw [hs, List.set_set] at J3
    refine qn A _ σ _ J3 ?_ (k d p1)
    rw [eh]
    exact I.fr_hid f1
theorem sv_app {i : Nat} (hi : ρ[i]? = some (.own xs)) (h : Ev G te ρ P) (hl : xs.length ≤ 10000000) (k : ∀ x, P x → Sv G tu (ρ.set i (.own (xs ++ [x]))) N R) :
    Sv G (tSeq (tDrop (tBM G.K "list" rAppend (tVar i) (tCons te tNil))) tu) ρ N R :=
  sv_seq (M := fun ρ' => ∃ x, P x ∧ ρ' = ρ.set i (.own (xs ++ [x]))) (sv_appL hi h hl fun x p => ⟨x, p, rfl⟩) fun ρ' ⟨x, p, e⟩ => by rw [e]; exact k x p
/-- an own list is let go: from here on it is data -/
def butA (A : Addr → Bool) (l : Addr) : Addr → Bool := fun b => A b && !decide (b = l)
theorem butA_of {A : Addr → Bool} {l b : Addr} (h : butA A l b = true) : A b = true := (Bool.and_eq_true_iff.mp h).1
theorem butA_at {A : Addr → Bool} {l : Addr} : butA A l l = false := by simp [butA]
theorem butA_ne {A : Addr → Bool} {l b : Addr} (h : A b = true) (n : b ≠ l) : butA A l b = true := by simp [butA, h, n]
theorem En.release {C : Ct} {A : Addr → Bool} {H : Hp} {σ : L2.St} (I : En C A H σ ρ) {i : Nat} (hi : ρ[i]? = some (.own xs)) : ∃ l, En C (butA A l) H σ (ρ.set i (.d (.list xs))) := by
  have s := I.sl i
  rw [hi] at s
  obtain ⟨l, vs, e1, e2, e3, e4, e5, e6⟩ := s
  have le : Same (hid A H) (hid (butA A l) H) := hid_le fun b hb => butA_of hb
  have hi2 : i < ρ.length := (List.getElem?_eq_some_iff.mp hi).1
  refine ⟨l, I.keep, fun b hb => I.al b (butA_of hb), fun b hb => butA_ne (I.sub b hb) fun z => ?_, fun a e => ⟨butA_ne (I.feed a e).1 fun z => e3 (by rw [e, z]), (I.feed a e).2.mono le fun o q => q⟩, by rw [List.length_set]; exact I.len, fun j => ?_, fun a b l' ys zs h1 h2 h3 h4 => ?_, I.al0⟩
  · obtain ⟨o, q⟩ := I.al0 b hb
    rw [z, e4] at q; cases q
  · by_cases ej : i = j
    · subst ej
      rw [List.getElem?_set_self hi2]
      refine ⟨.ref l, e1, .lst (SqL.of ?_) (dpAll_mono le e6)⟩
      rw [hid_at butA_at]
      exact e5
    · rw [List.getElem?_set_ne ej]
      have q := I.sl j
      cases e : ρ[j]? with
      | none => trivial
      | some s =>
        rw [e] at q
        cases s with
        | no => trivial
        | d x => obtain ⟨v, h1, h2⟩ := q; exact ⟨v, h1, dp_mono le h2⟩
        | own ys =>
          obtain ⟨l2, us, h1, h2, h3, h4, h5, h6⟩ := q
          refine ⟨l2, us, h1, butA_ne h2 fun z => ej ?_, h3, h4, h5, dpAll_mono le h6⟩
          exact I.inj i j l xs ys hi e e1 (by rw [h1, z])
        | fd => exact q
  · by_cases ea : i = a
    · subst ea; rw [List.getElem?_set_self hi2] at h1; cases h1
    · by_cases eb : i = b
      · subst eb; rw [List.getElem?_set_self hi2] at h2; cases h2
      · rw [List.getElem?_set_ne ea] at h1
        rw [List.getElem?_set_ne eb] at h2
        exact I.inj a b l' ys zs h1 h2 h3 h4
theorem sv_release {i : Nat} (hi : ρ[i]? = some (.own xs)) (k : Sv G ts (ρ.set i (.d (.list xs))) N R) : Sv G ts ρ N R := fun C A H σ D hk I X qn qr => by
  obtain ⟨l, J⟩ := I.release hi
  exact k C _ H σ D hk J X (fun A2 H2 σ2 ρ2 I2 s2 p2 => qn A2 H2 σ2 ρ2 I2 ((hid_le fun b hb => butA_of hb).trans s2) p2) qr
/-- name = a + b, a list that the def itself lets grow -/
theorem sv_ownCat {i : Nat} (ha : Ev G ta ρ (· = .list ds)) (hb : Ev G tb ρ (· = .list xs)) (hl : ds.length + xs.length ≤ 1000) (k : Sv G tu (ρ.set i (.own (ds ++ xs))) N R) : Sv G (tSeq (tAsg (tOp (rCatL G.K) ta tb) (gName i)) tu) ρ N R :=
  sv_seq (M := fun ρ' => ρ' = ρ.set i (.own (ds ++ xs))) (fun C A H σ D hk I X qn qr => ha C A H σ _ hk I X fun v1 d1 H1 I1 f1 n1 e1 p1 => hb C A H1 σ _ hk I1 X fun v2 d2 H2 I2 f2 n2 e2 p2 => by
    subst p1 p2
    obtain ⟨a, us, rfl, s1, da1⟩ := dp_lst (dp_mono (I1.fr_hid f2) e1)
    obtain ⟨b, ws, rfl, s2, da2⟩ := dp_lst e2
    refine ⟨a, b, us, ws, rfl, rfl, hk ▸ Same.seq hid_to s1, hk ▸ Same.seq hid_to s2, by rw [dpAll_len da1, dpAll_len da2, sizeLine_eq]; omega, fun p hp => ?_⟩
    have eh := hid_add (A := A) (o := .lst (us ++ ws)) hp
    have nf := I2.no0 hp
    refine qn (addA A p) _ _ _ ((I2.newHid (o := .lst (us ++ ws)) hp).setOwn addA_at nf.1 nf.2 upd_same (by rw [eh]; exact dpAll_app da1 da2) fun j ys _ e => I2.noown hp j ys e) ?_ rfl
    rw [eh]
    exact I.fr_hid (f1.trans f2)) fun ρ' e => by rw [e]; exact k
/-! ### an own list is read -/
theorem ev_lenO {i : Nat} (hi : ρ[i]? = some (.own xs)) : Ev G (tCB (rLenQ G.K) (tCons (tVar i) tNil)) ρ (· = .int xs.length) := fun C A H σ Q hk I X q => by
  have s := I.sl i
  rw [hi] at s
  obtain ⟨l, vs, e1, e2, e3, e4, e5, e6⟩ := s
  refine ⟨.ref l, e1, l, vs, rfl, .inl (SqL.of e5), ?_⟩
  rw [dpAll_len e6]
  exact q _ _ H I Fr.refl (fun _ z => z) (.int _) rfl
theorem ev_tupO {i : Nat} (hi : ρ[i]? = some (.own xs)) : Ev G (tCB (rTupOf G.K) (tCons (tVar i) tNil)) ρ (· = .tuple xs) := fun C A H σ Q hk I X q => by
  have s := I.sl i
  rw [hi] at s
  obtain ⟨l, vs, e1, e2, e3, e4, e5, e6⟩ := s
  exact ⟨.ref l, e1, l, vs, rfl, .inl ⟨SqL.of e5, fun p hp => q _ _ _ (I.upd hp) (Fr.of (Same.new hp)) (nn_of (Same.new hp)) (dp_newT I.al hp e6) rfl⟩⟩
theorem ev_ixO {i : Nat} {j : Int} (hi : ρ[i]? = some (.own xs)) (hb : Ev G tb ρ (· = .int j)) (h : atI xs j = some d) : Ev G (tOp (rIxL G.K) (tVar i) tb) ρ (· = d) := fun C A H σ Q hk I X q => by
  have s := I.sl i
  rw [hi] at s
  obtain ⟨l, vs, e1, e2, e3, e4, e5, e6⟩ := s
  refine ⟨.ref l, e1, hb C A H σ _ hk I X fun v dd H1 I1 f1 n1 d1 p1 => ?_⟩
  subst p1
  obtain ⟨w, hw, dw⟩ := atI_some (dpAll_mono (I.fr_hid f1) e6) h
  exact ⟨l, vs, j, w, rfl, dp_int d1, SqL.of (f1 l _ e5 e3), hw, q w d H1 I1 f1 n1 dw rfl⟩
theorem ev_joinO {i : Nat} {a : Str} {ys : List Str} (ho : Ev G t ρ (· = .str a)) (hi : ρ[i]? = some (.own (ys.map .str))) (hz : (ys.map (·.length)).sum + ys.length * a.length ≤ 16777216) : Ev G (tM1 (rJoin G.K) t (tVar i)) ρ (· = .str (Txt.join a ys)) := fun C A H σ Q hk I X q =>
  ho C A H σ _ hk I X fun v d H1 I1 f1 n1 d1 p1 => by
    subst p1
    have s := I1.sl i
    rw [hi] at s
    obtain ⟨l, vs, e1, e2, e3, e4, e5, e6⟩ := s
    rw [dpAll_strs e6] at e5
    exact ⟨⟨a, dp_str d1⟩, .ref l, e1, a, l, ys, dp_str d1, rfl, .inl (SqL.of e5), hz, q _ _ H1 I1 f1 n1 (.str _) rfl⟩
/-! ### loops -/
theorem sv_while (I : Nat → List Sl → Prop) (m0 : Nat) (h0 : I m0 ρ)
    (hs : ∀ m ρ', I m ρ' → ∃ b, EvT G u ρ' (· = b) ∧ (b = true → Sv G ts ρ' (fun ρ2 => ∃ m', m' < m ∧ I m' ρ2) R) ∧ (b = false → N ρ')) : Sv G (tWhile u ts) ρ N R := fun C A H σ D hk E X qn qr => by
  refine ⟨fun m σ' H' => ∃ A' ρ', En C A' H' σ' ρ' ∧ Same (hid A H) (hid A' H') ∧ I m ρ', ⟨m0, A, ρ, E, Same.refl _, h0⟩, ?_⟩
  rintro m σ' H' ⟨A', ρ', E', S', i'⟩
  obtain ⟨b, hb, h1, h2⟩ := hs m ρ' i'
  refine hb C A' H' σ' _ hk E' X fun c H1 I1 f1 n1 p1 => ?_
  subst p1
  have S1 := S'.trans (E'.fr_hid f1)
  cases c with
  | true =>
    rw [if_pos rfl]
    refine ⟨fun σ2 H2 => ∃ A2 ρ2, En C A2 H2 σ2 ρ2 ∧ Same (hid A H) (hid A2 H2) ∧ ∃ m', m' < m ∧ I m' ρ2, fun σ2 H2 ⟨A2, ρ2, e2, s2, m', hm, i2⟩ => ⟨m', hm, A2, ρ2, e2, s2, i2⟩, ?_⟩
    exact h1 rfl C A' H1 σ' _ hk I1 X (fun A2 H2 σ2 ρ2 e2 s2 p2 => ⟨A2, ρ2, e2, S1.trans s2, p2⟩) qr
  | false =>
    rw [if_neg Bool.false_ne_true]
    exact qn A' H1 σ' ρ' I1 S1 (h2 rfl)
theorem sv_forg {wi : TI} (hi : EvI G wi ρ PL) (I : List PyData → Nat → List Sl → Prop) (h0 : ∀ xs, PL xs → I xs 0 ρ)
    (hs : ∀ xs, PL xs → ∀ (i : Nat) (x : PyData) (ρ' : List Sl), xs[i]? = some x → I xs i ρ' → ∃ ρ2, Gv G.K g x ρ' ρ2 ∧ Sv G ts ρ2 (I xs (i + 1)) R) (hd : ∀ xs, PL xs → ∀ ρ', I xs xs.length ρ' → N ρ') : Sv G (tFor wi g ts) ρ N R := fun C A H σ D hk E X qn qr =>
  hi C A H σ _ hk E X fun J xs Ok H1 I1 f1 n1 dr ok1 p1 => by
    refine ⟨fun i m σ' H' => m = xs.length - i ∧ i ≤ xs.length ∧ ∃ A' ρ', En C A' H' σ' ρ' ∧ Same (hid A H) (hid A' H') ∧ Ok A' H' ∧ I xs i ρ', ⟨_, rfl, Nat.zero_le _, A, ρ, I1, E.fr_hid f1, ok1, h0 xs p1⟩, ?_⟩
    rintro i m σ' H' ⟨rfl, hle, A', ρ', E', S', ok', i'⟩
    by_cases hlt : i < xs.length
    · have hx : xs[i]? = some xs[i] := by simp [hlt]
      obtain ⟨hgo, hy⟩ := dr.go A' H' i xs[i] E'.al ok' hx
      refine .inr ⟨hgo, fun σ2 H2 => ∃ A2 ρ2, En C A2 H2 σ2 ρ2 ∧ Same (hid A H) (hid A2 H2) ∧ Ok A2 H2 ∧ I xs (i + 1) ρ2, fun σ2 H2 ⟨A2, ρ2, e2, s2, o2, i2⟩ => ⟨xs.length - (i + 1), by omega, rfl, by omega, A2, ρ2, e2, s2, o2, i2⟩, fun v H2 y => ?_⟩
      obtain ⟨s2, d2⟩ := hy v H2 y
      have E2 := E'.same s2
      have S2 : Same (hid A' H') (hid A' H2) := hid_same fun b o _ e => s2 b o e
      obtain ⟨ρ2, hg, hb⟩ := hs xs p1 i xs[i] ρ' hx i'
      refine hg C A' H2 σ' v _ hk E2 d2 fun σ2 E3 => ?_
      exact hb C A' H2 σ2 _ hk E3 X (fun A3 H3 σ3 ρ3 e3 s3 p3 => ⟨A3, ρ3, e3, (S'.trans S2).trans s3, dr.mono _ _ _ _ (dr.mono _ _ _ _ ok' S2) s3, p3⟩) qr
    · have e : i = xs.length := by omega
      refine .inl ⟨dr.stop _ _ _ ok' (by omega), qn A' H' σ' ρ' E' S' (hd xs p1 ρ' (e ▸ i'))⟩
theorem sv_for {wi : TI} (hi : EvI G wi ρ (· = xs)) (I : Nat → List Sl → Prop) (h0 : I 0 ρ)
    (hs : ∀ (i : Nat) (x : PyData) (ρ' : List Sl), xs[i]? = some x → I i ρ' → ∃ ρ2, Gv G.K g x ρ' ρ2 ∧ Sv G ts ρ2 (I (i + 1)) R) (hd : ∀ ρ', I xs.length ρ' → N ρ') : Sv G (tFor wi g ts) ρ N R :=
  sv_forg (PL := (· = xs)) hi (fun _ => I) (fun _ _ => h0) (fun ys e i x ρ' hx => hs i x ρ' (e ▸ hx)) fun ys e ρ' i => hd ρ' (e ▸ i)
end
/-! ### defs -/
def st0 (n : Nat) (ds : List PyData) : List Sl := ds.map Sl.d ++ List.replicate (n - ds.length) .no
theorem en_start {K : PySem.W.Frag} {H : Hp} {A : Addr → Bool} {N : List Str} {vs : List V} {ds : List PyData} (al : Alc A H) (h : DpAll K (hid A H) vs ds) : En ⟨K, none, A, H⟩ A H (L2.start N vs) (st0 N.length ds) where
  keep := fun b o e _ => e
  al := al
  sub := fun b e => e
  feed := fun a e => by cases e
  al0 := al
  len := by unfold L2.start st0; simp [dpAll_len h]
  sl := fun i => by
    have hl := dpAll_len h
    by_cases e : i < ds.length
    · have e1 : (st0 N.length ds)[i]? = some (.d ds[i]) := by
        unfold st0
        rw [List.getElem?_append_left (by simpa using e)]
        simp [e]
      obtain ⟨v, hv, dv⟩ := dpAll_at h (show ds[i]? = some ds[i] by simp [e])
      have e2 : (L2.start N vs)[i]? = some (some v) := by
        unfold L2.start
        rw [List.getElem?_append_left (by simp; omega), List.getElem?_map, hv]
        rfl
      rw [e1, e2]
      exact ⟨v, rfl, dv⟩
    · have e1 : (st0 N.length ds)[i]? = none ∨ (st0 N.length ds)[i]? = some .no := by
        unfold st0
        rw [List.getElem?_append_right (by simp; omega), List.getElem?_replicate]
        split
        · exact .inr rfl
        · exact .inl rfl
      rcases e1 with q | q <;> rw [q] <;> trivial
  inj := fun i j l xs ys h1 => by
    have : ∀ i : Nat, (st0 N.length ds)[i]? ≠ some (.own xs) := fun i q => by
      unfold st0 at q
      rcases List.mem_append.mp (List.mem_of_getElem? q) with z | z
      · obtain ⟨_, _, z⟩ := List.mem_map.mp z; cases z
      · have := List.eq_of_mem_replicate z; cases this
    exact absurd h1 (this i)
section
variable {P : Program} {w : World} {K : PySem.W.Frag} {mg : Str → Option Value} {base : Heap} {x qual : Str} {params : Arguments} {body : List Stmt} {scope : Scope} {dvs : List V} {kws : List (Str × V)} {f : Addr} {fd : FuncData} {CT : Addr} {N ps : List Str} {k : Nat}
  {α : Type} {args : α → List PyData} {pre : α → Prop} {post : α → DP} {flt : α → Int → Prop}
/-- THE RULE of a def over data -/
theorem fn_x (F : FunD K x qual params body scope dvs kws f fd) (S : FnScope N ps scope) (hl : ∀ a, (args a).length = ps.length)
    (hb : ∀ (cdv : Value) (A : Around) (outer : List Env) (s : Shared) (H : Hp) (E : XK) (a : α), Room k (A.deeper (PyProof.Rows.envOfC qual scope s.heap.objs.size f cdv)) → pre a →
      ∃ t, PSs (cxOf (L2.CX P w) P w K mg base N qual scope f cdv A outer s H E) body t ∧ Sv ⟨K, CT, E, flt a⟩ t (st0 N.length (args a)) (fun _ => post a .none) (post a)) :
    FnOk P w K mg base (L2.CX P w) (k + 1) f fd ps (spX K CT args pre post flt) := by
  refine F.ok S (fun vs H Q E h => ?_) fun cdv A outer s H vs Q E hr h => ?_
  · obtain ⟨B, a, al, da, _⟩ := h
    rw [dpAll_len da, hl]
  · obtain ⟨B, a, al, da, hp, hq, he⟩ := h
    obtain ⟨t, h1, h2⟩ := hb cdv A outer s H E a hr hp
    refine ⟨t, h1, h2 ⟨K, none, B, H⟩ B H _ _ rfl (en_start al da) (fun i dd H' e n q p => he i dd H' (fun b o z => e b o z (by simp)) n q p) (fun A' H' σ' ρ' I' s' p => ?_) fun v d H' e _ dv p => hq v d H' (fun b o z => e b o z (by simp)) dv p⟩
    exact hq .non .none H' (fun b o z => I'.keep b o z (by simp)) .non p
end
/-! ### defs whose first parameter is the feed -/
theorem en_startF {K : PySem.W.Frag} {H : Hp} {A : Addr → Bool} {fa : Addr} {N : List Str} {vs : List V} {ds : List PyData} (al : Alc A H) (hA : A fa = true) (hF : FeedOk K A H fa) (h : DpAll K (hid A H) vs ds) : En ⟨K, some fa, A, H⟩ A H (L2.start N (.ref fa :: vs)) (.fd :: st0 (N.length - 1) ds) where
  keep := fun b o e _ => e
  al := al
  sub := fun b e => e
  al0 := al
  feed := fun a e => by cases e; exact ⟨hA, hF⟩
  len := by
    unfold L2.start st0
    simp [dpAll_len h]
    omega
  sl := fun i => by
    have J := (en_start (K := K) (N := N.drop 1) al h).sl
    cases i with
    | zero =>
      refine ⟨fa, ?_, rfl⟩
      unfold L2.start
      simp
    | succ j =>
      have q := J j
      have e1 : (L2.start N (.ref fa :: vs))[j + 1]? = (L2.start (N.drop 1) vs)[j]? := by
        unfold L2.start
        simp only [List.map_cons, List.cons_append, List.getElem?_cons_succ, List.length_cons, List.length_drop]
        have e2 : N.length - (vs.length + 1) = N.length - 1 - vs.length := by omega
        rw [e2]
      have e3 : (Sl.fd :: st0 (N.length - 1) ds)[j + 1]? = (st0 (N.drop 1).length ds)[j]? := by
        rw [List.getElem?_cons_succ, List.length_drop]
      rw [e1, e3]
      cases z : (st0 (N.drop 1).length ds)[j]? with
      | none => trivial
      | some sl =>
        rw [z] at q
        cases sl with
        | no => trivial
        | d x => exact q
        | own xs =>
          exfalso
          unfold st0 at z
          rcases List.mem_append.mp (List.mem_of_getElem? z) with y | y
          · obtain ⟨_, _, y⟩ := List.mem_map.mp y; cases y
          · have := List.eq_of_mem_replicate y; cases this
        | fd =>
          exfalso
          unfold st0 at z
          rcases List.mem_append.mp (List.mem_of_getElem? z) with y | y
          · obtain ⟨_, _, y⟩ := List.mem_map.mp y; cases y
          · have := List.eq_of_mem_replicate y; cases this
  inj := fun i j l xs ys h1 => by
    have : ∀ i : Nat, (Sl.fd :: st0 (N.length - 1) ds)[i]? ≠ some (.own xs) := fun i q => by
      cases i with
      | zero => cases q
      | succ i =>
        rw [List.getElem?_cons_succ] at q
        unfold st0 at q
        rcases List.mem_append.mp (List.mem_of_getElem? q) with z | z
        · obtain ⟨_, _, z⟩ := List.mem_map.mp z; cases z
        · have := List.eq_of_mem_replicate z; cases this
    exact absurd h1 (this i)
section
variable {P : Program} {w : World} {K : PySem.W.Frag} {mg : Str → Option Value} {base : Heap} {x qual : Str} {params : Arguments} {body : List Stmt} {scope : Scope} {dvs : List V} {kws : List (Str × V)} {f : Addr} {fd : FuncData} {CT : Addr} {N ps : List Str} {k : Nat}
  {α : Type} {args : α → List PyData} {pre : α → Prop} {post : α → DP}
/-- THE RULE of a def over the feed and data -/
theorem fn_f (CT : Addr) (F : FunD K x qual params body scope dvs kws f fd) (S : FnScope N ps scope) (hl : ∀ a, (args a).length + 1 = ps.length)
    (hb : ∀ (cdv : Value) (A : Around) (outer : List Env) (s : Shared) (H : Hp) (E : XK) (a : α), Room k (A.deeper (PyProof.Rows.envOfC qual scope s.heap.objs.size f cdv)) → pre a →
      ∃ t, PSs (cxOf (L2.CX P w) P w K mg base N qual scope f cdv A outer s H E) body t ∧ Sv ⟨K, CT, E, fun _ => False⟩ t (.fd :: st0 (N.length - 1) (args a)) (fun _ => post a .none) (post a)) :
    FnOk P w K mg base (L2.CX P w) (k + 1) f fd ps (spF K args pre post) := by
  refine F.ok S (fun vs H Q E h => ?_) fun cdv A outer s H vs Q E hr h => ?_
  · obtain ⟨B, fa, ws, a, rfl, al, hA, hF, da, _⟩ := h
    rw [List.length_cons, dpAll_len da, hl]
  · obtain ⟨B, fa, ws, a, rfl, al, hA, hF, da, hp, hq⟩ := h
    obtain ⟨t, h1, h2⟩ := hb cdv A outer s H E a hr hp
    refine ⟨t, h1, h2 ⟨K, some fa, B, H⟩ B H _ _ rfl (en_startF al hA hF da) (fun i dd H' _ _ _ z => z.elim) (fun A' H' σ' ρ' I' s' p => ?_) fun v d H' e fe dv p => hq v d H' (fun b o z n => e b o z fun y => n (Option.some.inj y).symm) (fe fa rfl) dv p⟩
    have fe := (I'.feed fa rfl).2
    exact hq .non .none H' (fun b o z n => I'.keep b o z fun y => n (Option.some.inj y).symm) (fe.mono (hid_le I'.sub) fun o z => z) .non p
end
end K13
set_option maxHeartbeats 2000000
/-! Known defs, constants; isinstance. -/
namespace K13
open PySem L2
/-- the def x is known: it keeps sp, by at most level k; its last parameters may be left to the defaults dvs -/
def Kn (P : Program) (w : World) (K : PySem.W.Frag) (mg : Str → Option Value) (base : Heap) (k : Nat) (x : Str) (ps : List Str) (sp : Sp) (dvs : List V) : Prop :=
  ∃ (f : Addr) (fd : FuncData) (ds : List Value), FnOk P w K mg base (L2.CX P w) k f fd ps sp ∧ mg x = some (.ref f) ∧ PySem.W.keepIn K (.ref f) = true ∧ Binds K fd ps ds ∧ Vals dvs ds
section
variable {X : Cx} {x : Str} {k j : Nat} {ps : List Str} {sp : Sp} {dvs : List V} {e : Expr} {es : List Expr} {t : TA} {p pos : Pos}
/-- a known def is called; nothing that it raises is wanted -/
theorem pe_kn (h : Kn X.prog X.w X.K X.mg X.base k x ps sp dvs) (hr : Room j X.A) (ha : PA X (e :: es) t) (hk : k ≤ j := by decide) (hg : Gl X x := by rfl)
    (hdb : (x == ("__debug__" : Str)) = false := by decide) (he : starEach (e :: es) X.env = (false, eval e X.env) :: starEach es X.env := by rfl) (hpl : (backTo pos (starEach es X.env)).any (·.1) = false := by rfl) :
    PE X (.Call (.Name x p) (e :: es) [] pos) (tCall sp dvs E0 t) := by
  refine ⟨fun pins s σ H Q I q => ?_⟩
  obtain ⟨f, fd, ds, F, hm, hkp, hb, hd⟩ := h
  exact (pe_call (p := p) (pos := pos) F (hr.mono hk) hg hm hkp hb hd passL ha hdb he hpl).run pins s σ H Q I q
/-- .. what it raises is the caller's -/
theorem pe_knX {E : XK} (h : Kn X.prog X.w X.K X.mg X.base k x ps sp dvs) (hr : Room j X.A) (hx : Passes (L2.CX X.prog X.w) X E) (ha : PA X (e :: es) t) (hk : k ≤ j := by decide) (hg : Gl X x := by rfl)
    (hdb : (x == ("__debug__" : Str)) = false := by decide) (he : starEach (e :: es) X.env = (false, eval e X.env) :: starEach es X.env := by rfl) (hpl : (backTo pos (starEach es X.env)).any (·.1) = false := by rfl) :
    PE X (.Call (.Name x p) (e :: es) [] pos) (tCall sp dvs E t) := by
  refine ⟨fun pins s σ H Q I q => ?_⟩
  obtain ⟨f, fd, ds, F, hm, hkp, hb, hd⟩ := h
  exact (pe_call (p := p) (pos := pos) F (hr.mono hk) hg hm hkp hb hd hx ha hdb he hpl).run pins s σ H Q I q
theorem pe_gint {i : Int} (h : ∃ t, X.mg x = some (.int i t)) (hg : Gl X x := by rfl) (hd : (x == ("__debug__" : Str)) = false := by decide) : PE X (.Name x pos) (tC (.int i)) := by
  refine ⟨fun pins s σ H Q I q => ?_⟩
  obtain ⟨t, h⟩ := h
  exact (pe_glob (pos := pos) (v := V.int i) hg h ⟨t, rfl⟩ hd).run pins s σ H Q I q
theorem pe_gstr {z : Str} (h : ∃ t, X.mg x = some (.str z t)) (hg : Gl X x := by rfl) (hd : (x == ("__debug__" : Str)) = false := by decide) : PE X (.Name x pos) (tC (.str z)) := by
  refine ⟨fun pins s σ H Q I q => ?_⟩
  obtain ⟨t, h⟩ := h
  exact (pe_glob (pos := pos) (v := V.str z) hg h ⟨t, rfl⟩ hd).run pins s σ H Q I q
/-- a built-in type as a value -/
theorem pe_ty {n : String} (hm : X.mg x = none) (hv : bootBuiltins x = some (.type n) := by decide +kernel) (hg : Gl X x := by rfl) (hn : x ≠ "__name__" := by decide) (hd : (x == ("__debug__" : Str)) = false := by decide) : PE X (.Name x pos) (tC (.ty n)) :=
  pe_bltn hg hm hv rfl hn hd
/-- a list and a list, whatever stands there -/
theorem op_catL : OpR X (binaryOp .Add) (rCatL X.K) := by
  intro pins s σ H x y v u Q I rx ry h
  obtain ⟨l, b, xs, zs, rfl, rfl, hH, hB, hz, q⟩ := h
  cases rx
  cases ry
  obtain ⟨its, r, ⟨o, n, e, ec, ed, es⟩, hl⟩ := I.list hH
  obtain ⟨its2, r2, ⟨o2, n2, e2, ec2, ed2, es2⟩, hl2⟩ := I.list hB
  have l1 := r.length
  have l2 := r2.length
  obtain ⟨oc, od, dt, sl⟩ := o
  obtain ⟨oc2, od2, dt2, sl2⟩ := o2
  simp only at ec ed es ec2 ed2 es2
  subst ec ed es ec2 ed2 es2
  have hz2 : its.toArray.size + its2.toArray.size ≤ sizeLine := by
    rw [List.size_toArray, List.size_toArray]; omega
  refine PySem.concat_meets ⟨_, e, rfl⟩ ⟨_, e2, rfl⟩ PySem.noFill_list_add PySem.seq_list_add PySem.F.slot_list_add PySem.F.entry_list_add (PySem.F.args_list_add_2 _ _) (PyProof.Rows.list_addW l b its.toArray its2.toArray n n2 none none sl sl2 hz2) ⟨e, e2, ?_⟩
  have ea : its.toArray ++ its2.toArray = (its ++ its2).toArray := by simp
  rw [ea]
  exact ⟨.ref _, _, I.lnew (t' := s.toks) (r.append r2) (by rw [List.length_append]; omega), rfl, q _ I.fresh⟩
end
/-! ### rules with the written part told by its own name (for blocks within blocks) -/
section
variable {X : Cx} {K : PySem.W.Frag} {tg e o : Expr} {te to : TE}
theorem pi_listK (he : PE X e te) (h : X.K = K := by rfl) : PI X tg e (iList K te) := by subst h; exact pi_list he
theorem pi_tupK (he : PE X e te) (h : X.K = K := by rfl) : PI X tg e (iTup K te) := by subst h; exact pi_tup he
theorem ix_tupK (h : X.K = K := by rfl) : IxR X (rIxT K) := by subst h; exact ix_tup
theorem ix_listK (h : X.K = K := by rfl) : IxR X (rIxL K) := by subst h; exact ix_list
theorem sl_tupK (h : X.K = K := by rfl) : SlR X (rSlT K) := by subst h; exact sl_tup
theorem sl_listK (h : X.K = K := by rfl) : SlR X (rSlL K) := by subst h; exact sl_list
theorem ct_tupK (h : X.K = K := by rfl) : CallR X (.type "tuple") (rTupOf K) := by subst h; exact call_tuple_of
theorem c_lenK (h : X.K = K := by rfl) : CallR X (.builtin "len") (rLenQ K) := by subst h; exact call_len_seq
theorem c_allK (hc : X.calm = true) (h : X.K = K := by rfl) : CallR X (.builtin "all") (rAll K) := by subst h; exact cr_all hc
theorem c_sumK (hc : X.calm = true) (h : X.K = K := by rfl) : CallR X (.builtin "sum") (rSum K) := by subst h; exact cr_sum hc
theorem c_isiK (h : X.K = K := by rfl) : CallR X (.builtin "isinstance") (rIsi K) := by subst h; exact call_isi
theorem in_seqK (h : X.K = K := by rfl) : OpR X (compareOp .In) (rIn K false) := by subst h; exact op_in_seq
theorem notIn_seqK (h : X.K = K := by rfl) : OpR X (compareOp .NotIn) (rIn K true) := by subst h; exact op_notIn_seq
theorem eqDK (hu : X.A.units + 64 < cLine) (h : X.K = K := by rfl) : OpR X (compareOp .Eq) (rEqD K) := by subst h; exact op_eqD hu
theorem neDK (hu : X.A.units + 64 < cLine) (h : X.K = K := by rfl) : OpR X (compareOp .NotEq) (rNeD K) := by subst h; exact op_neD hu
theorem catLK (h : X.K = K := by rfl) : OpR X (binaryOp .Add) (rCatL K) := by subst h; exact op_catL
theorem pe_joinK {apos pos : Pos} (ho : PE X o to) (he : PE X e te) (h : X.K = K := by rfl) (hs : starEach [e] X.env = [(false, eval e X.env)] := by rfl) (hbase : attributeBase o "join" X.env (eval o X.env) = eval o X.env := by rfl) (hline : (apos.endLine == pos.line) = true := by rfl) :
    PE X (.Call (.Attribute o "join" apos) [e] [] pos) (tM1 (rJoin K) to te) := by subst h; exact pe_join ho he hs hbase hline
end
/-! ### isinstance of data against built-in types -/
def tyN : PyData → String
  | .none => "NoneType"
  | .bool _ => "bool"
  | .int _ => "int"
  | .str _ => "str"
  | .list _ => "list"
  | .tuple _ => "tuple"
  | .dict _ => "dict"
theorem tyx_of {K : PySem.W.Frag} {H : Hp} {v : V} {x : PyData} (h : Dp K H v x) : TyX K H v (.type (tyN x)) := by
  cases h with
  | non => exact .base .non
  | bl b => exact .base (.bl b)
  | int i => exact .base (.int i)
  | str s => exact .base (.str s)
  | lst s a =>
    rcases s with (s | ⟨o, s⟩) | ⟨o, its, n, h1, h2, _⟩
    · exact .base (.lst s)
    · exact .base (.frz s)
    · exact .kList h1 h2
  | tup s a =>
    rcases s with (s | ⟨o, s⟩) | ⟨o, its, n, h1, h2, _⟩
    · exact .base (.tup s)
    · exact .fTuple s
    · exact .kTuple h1 h2
theorem ev_isi {G : Gd} {ρ : List Sl} {te : TE} {x : PyData} {n : String} {b : Bool} (h : Ev G te ρ (· = x)) (hb : ∀ K : PySem.W.Frag, PySem.W.kitOne K (.type (tyN x)) (.type n) = some b) : Ev G (tCB (rIsi G.K) (tCons te (tCons (tC (.ty n)) tNil))) ρ (· = .bool b) := fun C A H σ Q hk I X q =>
  h C A H σ _ hk I X fun v d H1 I1 f1 n1 d1 p1 => by
    subst p1
    exact ⟨v, .ty n, .type (tyN d), .type n, b, rfl, .ty n, hk ▸ tyx_of (dp_mono hid_to d1), hb _, q _ _ H1 I1 f1 n1 (.bl b) rfl⟩
theorem isi_int {i : Int} (K : PySem.W.Frag) : PySem.W.kitOne K (.type (tyN (.int i))) (.type "int") = some true := kit_ty (show kitB "int" "int" = some true by decide +kernel)
theorem isi_intB {i : Int} (K : PySem.W.Frag) : PySem.W.kitOne K (.type (tyN (.int i))) (.type "bool") = some false := kit_ty (show kitB "int" "bool" = some false by decide +kernel)
theorem isi_intT {i : Int} (K : PySem.W.Frag) : PySem.W.kitOne K (.type (tyN (.int i))) (.type "tuple") = some false := kit_ty (show kitB "int" "tuple" = some false by decide +kernel)
theorem isi_nonI (K : PySem.W.Frag) : PySem.W.kitOne K (.type (tyN .none)) (.type "int") = some false := kit_ty (by decide +kernel)
theorem isi_tup {xs : List PyData} (K : PySem.W.Frag) : PySem.W.kitOne K (.type (tyN (.tuple xs))) (.type "tuple") = some true := kit_ty (show kitB "tuple" "tuple" = some true by decide +kernel)
theorem isi_str {s : Str} (K : PySem.W.Frag) : PySem.W.kitOne K (.type (tyN (.str s))) (.type "str") = some true := kit_ty (show kitB "str" "str" = some true by decide +kernel)
end K13
set_option maxHeartbeats 4000000
/-! Numbers and tables: what modwork's defs compute, and that they compute it. -/
namespace K13
open PySem L2
/-- constants and built-in names of the top -/
structure Tx (K : PySem.W.Frag) (mg : Str → Option Value) : Prop where
  b_all : mg "all" = none
  b_bool : mg "bool" = none
  b_enumerate : mg "enumerate" = none
  b_int : mg "int" = none
  b_isinstance : mg "isinstance" = none
  b_len : mg "len" = none
  b_list : mg "list" = none
  b_min : mg "min" = none
  b_range : mg "range" = none
  b_repr : mg "repr" = none
  b_str : mg "str" = none
  b_sum : mg "sum" = none
  b_tuple : mg "tuple" = none
  c_TOP : ∃ t, mg "TOP" = some (.int 10000 t)
  c_MOST_POWER : ∃ t, mg "MOST_POWER" = some (.int 6 t)
  c_MOST_DIGITS : ∃ t, mg "MOST_DIGITS" = some (.int 60 t)
  c_RING : ∃ t, mg "RING" = some (.str "ring" t)
  c_POWER : ∃ t, mg "POWER" = some (.str "power" t)
  c_KNOT : ∃ t, mg "KNOT" = some (.str "knot" t)
  c_TURN : ∃ t, mg "TURN" = some (.str "turn" t)
  c_ACT : ∃ t, mg "ACT" = some (.str "act" t)
  c_BAR : ∃ t, mg "BAR" = some (.str "|" t)
  c_SLASH : ∃ t, mg "SLASH" = some (.str "/" t)
  c_COMMA : ∃ t, mg "COMMA" = some (.str "," t)
  c_DIGITS : ∃ t, mg "DIGITS" = some (.str "0123456789" t)
/-! ### mirrors -/
def isPrimeBy (n : Int) : Bool := decide (1 < n) && (((rngI 2 98).filter fun p => decide (p < n)).map fun p => decide (0 < n % p)).all id
abbrev Mat := List (List Int)
abbrev rowD (r : List Int) : PyData := .tuple (r.map .int)
abbrev tabD (m : Mat) : PyData := .tuple (m.map rowD)
def unitM (n : Nat) : Mat := (rngI 0 n).map fun j => (rngI 0 n).map fun k => if decide (j = k) = true then 1 else 0
def getI (r : List Int) (k : Int) : Int := r.getD k.toNat 0
def getR (m : Mat) (k : Int) : List Int := m.getD k.toNat []
def mulRow (p : Int) (n : Nat) (r : List Int) (b : Mat) : List Int := (rngI 0 n).map fun h => ((rngI 0 n).map fun k => getI r k * getI (getR b k) h).sum % p
def mulM (p : Int) (n : Nat) (a b : Mat) : Mat := a.map fun r => mulRow p n r b
def powL (p : Int) (n : Nat) (e : Nat) (found late : Mat) : Mat := if h : e = 0 then found else powL p n (e / 2) (if e % 2 = 1 then mulM p n found late else found) (mulM p n late late)
termination_by e
decreasing_by omega
/-- a table of n rows of n numbers below p -/
structure MatOk (p : Int) (n : Nat) (m : Mat) : Prop where
  len : m.length = n
  row : ∀ r ∈ m, r.length = n
  num : ∀ r ∈ m, ∀ x ∈ r, 0 ≤ x ∧ x < p
theorem atI_map {α β : Type} {f : α → β} {l : List α} {k : Int} {n : Nat} (hl : l.length = n) (h0 : 0 ≤ k) (hk : k < n) (d : α) : atI (l.map f) k = some (f (l.getD k.toNat d)) := by
  obtain ⟨j, rfl⟩ : ∃ j : Nat, k = j := ⟨k.toNat, by omega⟩
  have hj : j < l.length := by omega
  have e : (j : Int).toNat = j := by omega
  rw [e]
  refine atI_nat ?_
  rw [List.getElem?_map, List.getD_eq_getElem?_getD, List.getElem?_eq_getElem hj]
  rfl
theorem unitM_ok {p : Int} (hp : 1 < p) (n : Nat) : MatOk p n (unitM n) where
  len := by simp [unitM, rngI_len]
  row := fun r hr => by
    obtain ⟨j, hj, rfl⟩ := List.mem_map.mp hr
    simp [rngI_len]
  num := fun r hr x hx => by
    obtain ⟨j, hj, rfl⟩ := List.mem_map.mp hr
    obtain ⟨k, hk, rfl⟩ := List.mem_map.mp hx
    split <;> omega
theorem mulM_ok {p : Int} (hp : 0 < p) {n : Nat} {a b : Mat} (ha : a.length = n) : MatOk p n (mulM p n a b) where
  len := by simp [mulM, ha]
  row := fun r hr => by
    obtain ⟨j, hj, rfl⟩ := List.mem_map.mp hr
    simp [mulRow, rngI_len]
  num := fun r hr x hx => by
    obtain ⟨j, hj, rfl⟩ := List.mem_map.mp hr
    obtain ⟨k, hk, rfl⟩ := List.mem_map.mp hx
    exact ⟨Int.emod_nonneg _ (by omega), Int.emod_lt_of_pos _ hp⟩
theorem MatOk.getR {p : Int} {n : Nat} {m : Mat} (h : MatOk p n m) {k : Int} (h0 : 0 ≤ k) (hk : k < n) : getR m k ∈ m := by
  have hk2 : k.toNat < m.length := by rw [h.len]; omega
  unfold K13.getR
  rw [List.getD_eq_getElem?_getD, List.getElem?_eq_getElem hk2]
  exact List.getElem_mem hk2
theorem getI_mem {r : List Int} {k : Int} {n : Nat} (hl : r.length = n) (h0 : 0 ≤ k) (hk : k < n) : getI r k ∈ r := by
  have hk2 : k.toNat < r.length := by omega
  unfold getI
  rw [List.getD_eq_getElem?_getD, List.getElem?_eq_getElem hk2]
  exact List.getElem_mem hk2
theorem pow_step (fo la k m : Nat) : (if k % 2 = 1 then fo * la % m else fo) * (la * la % m) ^ (k / 2) % m = fo * la ^ k % m := by
  have e1 : (la * la % m) ^ (k / 2) % m = (la * la) ^ (k / 2) % m := (Nat.pow_mod _ _ _).symm
  rw [Nat.mul_mod, e1, ← Nat.mul_mod]
  have e2 : (la * la) ^ (k / 2) = la ^ (2 * (k / 2)) := by rw [Nat.pow_mul, Nat.pow_two]
  rw [e2]
  split
  · rename_i h
    rw [Nat.mul_mod, Nat.mod_mod, ← Nat.mul_mod, Nat.mul_assoc, ← Nat.pow_succ']
    congr 3
    omega
  · rename_i h
    congr 3
    omega
theorem ev_lstRg1 {G : Gd} {ρ : List Sl} {n : Nat} {t : TE} (h : Ev G t ρ (· = .int n)) (hn : n ≤ 10000000) : Ev G (tLstRg (tRg1 t)) ρ (· = .list (rngD 0 n)) := fun C A H σ Q hk I X q => h C A H σ _ hk I X fun v d H1 I1 f1 n1 d1 p1 => by
  subst p1
  refine ⟨n, dp_int d1, RgOk.of_le (by omega) (by omega) (by omega) (by omega), fun r hr => ?_⟩
  refine q _ _ _ (I1.upd hr) (f1.trans (Fr.of (Same.new hr))) (fun b e => n1 b (nn_of (Same.new hr) b e)) (dp_newL (ds := rngD 0 n) I1.al hr ?_) rfl
  have e : rgV 0 n = (rngI 0 n).map V.int := by
    unfold rgV rngI
    rw [List.map_map]
    have : ((n : Int) - 0).toNat = n := by omega
    rw [this]
    rfl
  rw [e]
  exact dpAll_ofInts _
/-! ### the defs -/
section
variable {P : Program} {w : World} {K : PySem.W.Frag} {mg : Str → Option Value} {base : Heap} {f : Addr} {fd : FuncData} {CT : Addr}
theorem sc_is_prime_by : FnScope ["number", "part"] ["number"] (defScope s_is_prime_by) := ⟨rfl, rfl, rfl, by decide +kernel, rfl, by decide +kernel, by decide +kernel⟩
abbrev sp_is_prime_by (K : PySem.W.Frag) (CT : Addr) : Sp := spX K CT (fun n : Int => [.int n]) (fun _ => True) (fun n d => d = .bool (isPrimeBy n)) nof
theorem ok_is_prime_by (T : Tx K mg) (F : FnP K "is_prime_by" s_is_prime_by f fd) : FnOk P w K mg base (L2.CX P w) 1 f fd ["number"] (sp_is_prime_by K CT) := by
  refine fn_x F sc_is_prime_by (fun _ => rfl) fun cdv A outer s H E n hr hp => ?_
  have nd := sc_is_prime_by.nd
  refine ⟨_, (pss_one (ps_ret (pe_and (pe_cmpR op_gt (pv 0) pe_int (nomark _)) (pe_one (pe_callB (id := "all") (c_allK (K := K) rfl) (by rfl) T.b_all (by decide +kernel) (pa_cons (pe_lc rfl nd (pi_range2 (by rfl) T.b_range (pa_cons pe_int (pa_cons pe_int pa_nil))) (blkOk_by (own := [("part", 1)]) (by kernel_rfl)) (fun _ _ _ _ _ => (pg_name (i := 1) nd rfl (Or.inl rfl))) (fun _ _ _ _ _ => (pts_one (pt_cmpR op_lt (pv 1) (pv 0) (nomark _)))) (fun _ _ _ _ _ => (pe_cmpR op_gt (pe_op op_mod (pv 0) (pv 1)) pe_int (nomark _)))) pa_nil)))))), ?_⟩
  refine sv_retX (ev_andV (ev_op (ev_var rfl) ev_int rv_gt) fun h1 => ev_cb (ea_cons (ev_lcM inj_int (fun p => decide (p < n)) (fun p => decide (0 < n % p)) PyData.bool (ei_rng2 (ea_cons ev_int (ea_cons ev_int ea_nil)) (by omega) (by omega)) (by decide) (by rw [rngI_len]; decide)
    (fun p hp => et_test (ev_op (ev_var rfl) (ev_var rfl) rv_lt)) (fun p hp _ => ?_)) ea_nil) rc_all)
  have := rngI_mem hp
  exact ev_op (ev_op (ev_var rfl) (ev_var rfl) (rv_mod (by omega))) ev_int rv_gt
theorem sc_common_of : FnScope ["one", "other"] ["one", "other"] (defScope s_common_of) := ⟨rfl, rfl, rfl, by decide +kernel, rfl, by decide +kernel, by decide +kernel⟩
abbrev sp_common_of (K : PySem.W.Frag) (CT : Addr) : Sp := spX K CT (fun p : Nat × Nat => [.int p.1, .int p.2]) (fun _ => True) (fun p d => d = .int (Nat.gcd p.1 p.2 : Nat)) nof
theorem ok_common_of (T : Tx K mg) (F : FnP K "common_of" s_common_of f fd) : FnOk P w K mg base (L2.CX P w) 1 f fd ["one", "other"] (sp_common_of K CT) := by
  refine fn_x F sc_common_of (fun _ => rfl) fun cdv A outer s H E p hr hp => ?_
  have nd := sc_common_of.nd
  refine ⟨_, (pss_cons (ps_while (passes_of rfl) (pt_cmpR op_gt (pv 1) pe_int (nomark _)) (pss_one (ps_par (i := 0) (j := 1) (by rfl) nd rfl rfl (by decide) rfl rfl (pa_cons (pv 1) (pa_cons (pe_op op_mod (pv 0) (pv 1)) pa_nil)) (by rfl)))) (pss_one (ps_ret (pv 0)))), ?_⟩
  refine sv_seq (M := fun ρ' => ρ' = [.d (.int (Nat.gcd p.1 p.2 : Nat)), .d (.int 0)]) (sv_while (fun m ρ' => ∃ a : Nat, ρ' = [.d (.int a), .d (.int m)] ∧ Nat.gcd a m = Nat.gcd p.1 p.2) p.2 ⟨p.1, rfl, rfl⟩ ?_) fun ρ' e => by rw [e]; exact sv_retX (ev_var rfl)
  rintro m ρ' ⟨a, rfl, hg⟩
  refine ⟨_, et_test (ev_op (ev_var rfl) ev_int rv_gt), fun h => ?_, fun h => ?_⟩
  · have hm : 0 < m := by simpa using h
    refine sv_parL (ea_cons (ev_var rfl) (ea_cons (ev_op (ev_var rfl) (ev_var rfl) (rv_mod (by omega))) ea_nil)) ⟨a % m, Nat.mod_lt _ hm, m, rfl, ?_⟩
    rw [← hg, Nat.gcd_comm m, ← Nat.gcd_rec, Nat.gcd_comm]
  · have hm : m = 0 := by
      have : ¬ (0 : Int) < m := by simpa using h
      omega
    subst hm
    rw [← hg, Nat.gcd_zero_right]
    rfl
theorem sc_power_at : FnScope ["base", "exponent", "modulus", "found", "late"] ["base", "exponent", "modulus"] (defScope s_power_at) := ⟨rfl, rfl, rfl, by decide +kernel, rfl, by decide +kernel, by decide +kernel⟩
/-- a base, an exponent, a modulus below 2 ^ 400 -/
abbrev sp_power_at (K : PySem.W.Frag) (CT : Addr) : Sp := spX K CT (fun p : Nat × Nat × Nat => [.int p.1, .int p.2.1, .int p.2.2]) (fun p => 0 < p.2.2 ∧ p.2.2 < 2 ^ 400) (fun p d => d = .int ((p.1 ^ p.2.1 % p.2.2 : Nat) : Int)) nof
theorem wide_mod {a b m : Nat} (ha : a < m) (hb : b < m) (hm : m < 2 ^ 400) : CMulW (a : Int) (b : Int) :=
  wide_mul (a := 400) (b := 400) (by omega) (by omega) (by decide) (by decide) (by decide)
theorem ok_power_at (T : Tx K mg) (F : FnP K "power_at" s_power_at f fd) : FnOk P w K mg base (L2.CX P w) 1 f fd ["base", "exponent", "modulus"] (sp_power_at K CT) := by
  refine fn_x F sc_power_at (fun _ => rfl) fun cdv A outer s H E p hr hp => ?_
  obtain ⟨b, e, m⟩ := p
  obtain ⟨hm0, hm⟩ := hp
  simp only at hm0 hm
  have nd := sc_power_at.nd
  refine ⟨_, (pss_cons (ps_par (i := 3) (j := 4) (by rfl) nd rfl rfl (by decide) rfl rfl (pa_cons (pe_op op_mod pe_int (pv 2)) (pa_cons (pe_op op_mod (pv 0) (pv 2)) pa_nil)) (by rfl)) (pss_cons (ps_while (passes_of rfl) (pt_cmpR op_gt (pv 1) pe_int (nomark _)) (pss_cons (ps_if (pt_cmpR op_eq (pe_op op_mod (pv 1) pe_int) pe_int (nomark _)) (pss_one (ps_set (i := 3) nd rfl (Or.inl rfl) (pe_op op_mod (pe_op op_mulW (pv 3) (pv 4)) (pv 2)))) pss_nil) (pss_cons (ps_set (i := 4) nd rfl (Or.inl rfl) (pe_op op_mod (pe_op op_mulW (pv 4) (pv 4)) (pv 2))) (pss_one (ps_set (i := 1) nd rfl (Or.inl rfl) (pe_op op_fdiv (pv 1) pe_int)))))) (pss_one (ps_ret (pv 3))))), ?_⟩
  have hmi : (0 : Int) < (m : Int) := by omega
  refine sv_par (x := .int ((1 % m : Nat) : Int)) (y := .int ((b % m : Nat) : Int)) ((ea_cons (ev_op ev_int (ev_var rfl) (rv_mod hmi)) (ea_cons (ev_op (ev_var rfl) (ev_var rfl) (rv_mod hmi)) ea_nil)).imp fun d q => by rw [q]; rfl) ?_
  refine sv_seq (M := fun ρ' => ∃ x y z u, ρ' = [x, y, z, .d (.int ((b ^ e % m : Nat) : Int)), u]) (sv_while (fun k ρ' => ∃ fo la : Nat, ρ' = [.d (.int b), .d (.int k), .d (.int m), .d (.int fo), .d (.int la)] ∧ fo < m ∧ la < m ∧ fo * la ^ k % m = b ^ e % m) e ⟨1 % m, b % m, rfl, Nat.mod_lt _ hm0, Nat.mod_lt _ hm0, ?_⟩ ?_) fun ρ' h => ?_
  · rw [Nat.mul_mod, Nat.mod_mod, ← Nat.pow_mod, ← Nat.mul_mod, Nat.one_mul]
  · rintro k ρ' ⟨fo, la, rfl, h1, h2, h3⟩
    refine ⟨_, et_test (ev_op (ev_var rfl) ev_int rv_gt), fun h => ?_, fun h => ?_⟩
    · have hk : 0 < k := by simpa using h
      refine sv_seq (M := fun ρ' => ρ' = [.d (.int b), .d (.int k), .d (.int m), .d (.int ((if k % 2 = 1 then fo * la % m else fo : Nat) : Int)), .d (.int la)]) (sv_if (et_test (ev_op (ev_op (ev_var rfl) ev_int (rv_mod (by decide))) ev_int rv_eqI)) (fun e1 => ?_) (fun e1 => ?_)) fun ρ' e2 => ?_
      · have e2 : (k : Int) % 2 = 1 := by simpa using e1.symm
        refine sv_set1 (ev_op (ev_op (ev_var rfl) (ev_var rfl) (rv_I (fun _ _ => .int _) (wide_mod h1 h2 hm))) (ev_var rfl) (rv_mod hmi)) fun x ex => ?_
        rw [if_pos (by omega), ex]
        rfl
      · have e2 : (k : Int) % 2 ≠ 1 := by simpa using e1.symm
        refine sv_next ?_
        rw [if_neg (by omega)]
      · subst e2
        refine sv_setX (ev_op (ev_op (ev_var rfl) (ev_var rfl) (rv_I (fun _ _ => .int _) (wide_mod h2 h2 hm))) (ev_var rfl) (rv_mod hmi)) (sv_set1 (ev_op (ev_var rfl) ev_int (rv_div ⟨by decide, by decide⟩)) fun x ex => ⟨k / 2, by omega, if k % 2 = 1 then fo * la % m else fo, la * la % m, by rw [ex]; rfl, ?_, Nat.mod_lt _ hm0, ?_⟩)
        · split
          · exact Nat.mod_lt _ hm0
          · exact h1
        · rw [← h3]
          exact pow_step fo la k m
    · have hk : k = 0 := by
        have : ¬ (0 : Int) < k := by simpa using h
        omega
      subst hk
      rw [Nat.pow_zero, Nat.mul_one, Nat.mod_eq_of_lt h1] at h3
      exact ⟨_, _, _, _, by rw [h3]⟩
  · obtain ⟨x, y, z, u, rfl⟩ := h
    exact sv_retX (ev_var rfl)
theorem sc_table_one : FnScope ["size", "j", "k"] ["size"] (defScope s_table_one) := ⟨rfl, rfl, rfl, by decide +kernel, rfl, by decide +kernel, by decide +kernel⟩
abbrev sp_table_one (K : PySem.W.Frag) (CT : Addr) : Sp := spX K CT (fun n : Nat => [.int n]) (fun n => n ≤ 1000) (fun n d => d = tabD (unitM n)) nof
theorem ok_table_one (T : Tx K mg) (F : FnP K "table_one" s_table_one f fd) : FnOk P w K mg base (L2.CX P w) 1 f fd ["size"] (sp_table_one K CT) := by
  refine fn_x F sc_table_one (fun _ => rfl) fun cdv A outer s H E n hr hp => ?_
  have nd := sc_table_one.nd
  refine ⟨_, (pss_one (ps_ret (pe_callTy (T := "tuple") (ct_tupK (K := K)) (by rfl) T.b_tuple (by decide +kernel) (pa_cons (pe_lc rfl nd (pi_range1 (by rfl) T.b_range (pa_cons (pv 0) pa_nil)) (blkOk_by (own := [("j", 1)]) (by kernel_rfl)) (fun _ _ _ _ _ => (pg_name (i := 1) nd rfl (Or.inr rfl))) (fun _ _ _ _ _ => pts_nil) (fun _ _ _ _ _ => (pe_callTy (T := "tuple") (ct_tupK (K := K)) (by rfl) T.b_tuple (by decide +kernel) (pa_cons (pe_lc rfl nd (pi_range1 (by rfl) T.b_range (pa_cons (pv 0) pa_nil)) (blkOk_by (own := [("k", 2)]) (by kernel_rfl)) (fun _ _ _ _ _ => (pg_name (i := 2) nd rfl (Or.inl rfl))) (fun _ _ _ _ _ => pts_nil) (fun _ _ _ _ _ => (pe_callTy (T := "int") call_int1 (by rfl) T.b_int (by decide +kernel) (pa_cons (pe_cmpR op_eq (pv 1) (pv 2) (nomark _)) pa_nil)))) pa_nil)))) pa_nil)))), ?_⟩
  refine sv_retX (ev_cb (ea_cons (ev_mapM inj_int (fun j => (rngI 0 n).map fun k => if decide (j = k) = true then (1 : Int) else 0) rowD (ei_rng1 (ea_cons (ev_var rfl) ea_nil) (by omega) (by omega)) (by decide) (by rw [rngI_len]; omega) fun j hj => ?_) ea_nil) rc_tupL)
  exact ev_cb (ea_cons (ev_mapM inj_int (fun k => if decide (j = k) = true then (1 : Int) else 0) PyData.int (ei_rng1 (ea_cons (ev_var rfl) ea_nil) (by omega) (by omega)) (by decide) (by rw [rngI_len]; omega) fun k hk =>
    ev_cb (ea_cons (ev_op (ev_var rfl) (ev_var rfl) rv_eqI) ea_nil) rc_intB) ea_nil) rc_tupL
theorem sc_table_times : FnScope ["prime", "rows", "other", "spots", "found", "row", "h", "k"] ["prime", "rows", "other"] (defScope s_table_times) := ⟨rfl, rfl, rfl, by decide +kernel, rfl, by decide +kernel, by decide +kernel⟩
/-- a prime, a size, two tables of it -/
abbrev sp_table_times (K : PySem.W.Frag) (CT : Addr) : Sp := spX K CT (fun p : Int × Nat × Mat × Mat => [.int p.1, tabD p.2.2.1, tabD p.2.2.2]) (fun p => 0 < p.1 ∧ p.1 ≤ 10000 ∧ p.2.1 ≤ 1000 ∧ MatOk p.1 p.2.1 p.2.2.1 ∧ MatOk p.1 p.2.1 p.2.2.2) (fun p d => d = tabD (mulM p.1 p.2.1 p.2.2.1 p.2.2.2)) nof
theorem ok_table_times (T : Tx K mg) (F : FnP K "table_times" s_table_times f fd) : FnOk P w K mg base (L2.CX P w) 1 f fd ["prime", "rows", "other"] (sp_table_times K CT) := by
  refine fn_x F sc_table_times (fun _ => rfl) fun cdv A outer s H E q hr hp => ?_
  obtain ⟨p, n, a, b⟩ := q
  obtain ⟨hp0, hp1, hn, ha, hb⟩ := hp
  simp only at hp0 hp1 hn ha hb
  have nd := sc_table_times.nd
  refine ⟨_, (pss_cons (ps_set (i := 3) nd rfl (Or.inr rfl) (pe_listRg rfl (by rfl) T.b_list (prg_1 (by rfl) T.b_range (pe_callB (id := "len") call_len_seq (by rfl) T.b_len PySem.boot_len (pa_cons (pv 1) pa_nil))))) (pss_cons (ps_set (i := 4) nd rfl (Or.inl rfl) (pe_lst pa_nil)) (pss_cons (ps_for (passes_of rfl) rfl (pi_tupK (K := K) (pv 1)) (pg_name (i := 5) nd rfl (Or.inr rfl)) (pss_one (ps_expr (pe_bm PySem.F.plainAttrs_list PySem.F.slot_list_append PySem.F.type_list_append mt_append (pv 4) (pa_cons (pe_callTy (T := "tuple") (ct_tupK (K := K)) (by rfl) T.b_tuple (by decide +kernel) (pa_cons (pe_lc rfl nd (pi_listK (K := K) (pv 3)) (blkOk_by (own := [("h", 6)]) (by kernel_rfl)) (fun _ _ _ _ _ => (pg_name (i := 6) nd rfl (Or.inr rfl))) (fun _ _ _ _ _ => pts_nil) (fun _ _ _ _ _ => (pe_op op_mod (pe_callB (id := "sum") (c_sumK (K := K) rfl) (by rfl) T.b_sum (by decide +kernel) (pa_cons (pe_lc rfl nd (pi_listK (K := K) (pv 3)) (blkOk_by (own := [("k", 7)]) (by kernel_rfl)) (fun _ _ _ _ _ => (pg_name (i := 7) nd rfl (Or.inl rfl))) (fun _ _ _ _ _ => pts_nil) (fun _ _ _ _ _ => (pe_op op_mul (pe_ix (ix_tupK (K := K)) (pv 5) (pv 7) (fun _ _ => rfl)) (pe_ix (ix_tupK (K := K)) (pe_ix (ix_tupK (K := K)) (pv 2) (pv 7) (fun _ _ => rfl)) (pv 6) (fun _ _ => rfl))))) pa_nil)) (pv 0)))) pa_nil)) pa_nil))))) (pss_one (ps_ret (pe_callTy (T := "tuple") (ct_tupK (K := K)) (by rfl) T.b_tuple (by decide +kernel) (pa_cons (pv 4) pa_nil))))))), ?_⟩
  refine sv_setX (ev_lstRg1 (ev_cb (ea_cons (ev_var rfl) ea_nil) rc_lenT) (by rw [List.length_map, ha.len]; omega)) ?_
  rw [List.length_map, ha.len]
  refine sv_own ea_nil (by decide) ?_
  refine sv_seq (M := fun ρ' => ∃ x y, ρ' = [.d (.int p), .d (tabD a), .d (tabD b), .d (.list (rngD 0 n)), .own ((mulM p n a b).map rowD), x, y, .no]) (sv_for (ei_tup (ev_var rfl)) (fun i ρ' => ∃ x y, ρ' = [.d (.int p), .d (tabD a), .d (tabD b), .d (.list (rngD 0 n)), .own (((mulM p n a b).take i).map rowD), x, y, .no]) ⟨_, _, rfl⟩ ?_ ?_) ?_
  · rintro i x ρ' hx ⟨u, v, rfl⟩
    rw [List.getElem?_map] at hx
    cases er : a[i]? with
    | none => rw [er] at hx; cases hx
    | some r =>
      rw [er] at hx
      cases hx
      have hr1 : r ∈ a := List.mem_of_getElem? er
      have hrl := ha.row r hr1
      have hi : i < a.length := (List.getElem?_eq_some_iff.mp er).1
      have hal := ha.len
      refine ⟨_, gv_name, sv_appL (P := (· = rowD (mulRow p n r b))) (xs := ((mulM p n a b).take i).map rowD) rfl ?_ (by simp; omega) fun d ed => ?_⟩
      · refine ev_cb (ea_cons (ev_mapM inj_int (fun h => ((rngI 0 n).map fun k => getI r k * getI (getR b k) h).sum % p) PyData.int (ei_list (ev_var rfl)) (by decide) (by rw [rngI_len]; omega) fun h hh => ?_) ea_nil) rc_tupL
        have hh' := rngI_mem hh
        refine ev_op (ev_cb (ea_cons (ev_mapM inj_int (fun k => getI r k * getI (getR b k) h) PyData.int (ei_list (ev_var rfl)) (by decide) (by rw [rngI_len]; omega) fun k hk => ?_) ea_nil) rc_sum) (ev_var rfl) (rv_mod hp0)
        have hk' := rngI_mem hk
        have hb1 := hb.getR hk'.1 (by omega : k < n)
        have hx := ha.num r hr1 _ (getI_mem hrl hk'.1 (by omega))
        exact ev_op (ev_op (ev_var rfl) (ev_var rfl) (rv_ixT (atI_map hrl hk'.1 (by omega) 0))) (ev_op (ev_op (ev_var rfl) (ev_var rfl) (rv_ixT (atI_map hb.len hk'.1 (by omega) []))) (ev_var rfl) (rv_ixT (atI_map (hb.row _ hb1) hh'.1 (by omega) 0))) (rv_mul (.inl (by unfold getI at hx; omega)))
      · refine ⟨.d (rowD r), v, ?_⟩
        rw [ed]
        have e1 : (mulM p n a b).take (i + 1) = (mulM p n a b).take i ++ [mulRow p n r b] := by
          rw [List.take_succ]
          unfold mulM
          rw [List.getElem?_map, er]
          rfl
        rw [e1, List.map_append]
        rfl
  · rintro ρ' ⟨x, y, rfl⟩
    refine ⟨x, y, ?_⟩
    rw [List.length_map, List.take_of_length_le (by simp [mulM])]
  · rintro ρ' ⟨x, y, rfl⟩
    exact sv_retX (ev_tupO rfl)
theorem sc_table_power : FnScope ["prime", "rows", "exponent", "found", "late"] ["prime", "rows", "exponent"] (defScope s_table_power) := ⟨rfl, rfl, rfl, by decide +kernel, rfl, by decide +kernel, by decide +kernel⟩
/-- a prime, a size, a table, an exponent -/
abbrev sp_table_power (K : PySem.W.Frag) (CT : Addr) : Sp := spX K CT (fun q : Int × Nat × Mat × Nat => [.int q.1, tabD q.2.2.1, .int q.2.2.2]) (fun q => 1 < q.1 ∧ q.1 ≤ 10000 ∧ q.2.1 ≤ 1000 ∧ MatOk q.1 q.2.1 q.2.2.1) (fun q d => d = tabD (powL q.1 q.2.1 q.2.2.2 (unitM q.2.1) q.2.2.1)) nof
theorem ok_table_power (T : Tx K mg) (F : FnP K "table_power" s_table_power f fd) (k_table_one : Kn P w K mg base 1 "table_one" ["size"] (sp_table_one K CT) []) (k_table_times : Kn P w K mg base 1 "table_times" ["prime", "rows", "other"] (sp_table_times K CT) []) :
    FnOk P w K mg base (L2.CX P w) 2 f fd ["prime", "rows", "exponent"] (sp_table_power K CT) := by
  refine fn_x F sc_table_power (fun _ => rfl) fun cdv A outer s H E q hr hp => ?_
  obtain ⟨p, n, a, e⟩ := q
  obtain ⟨hp0, hp1, hn, ha⟩ := hp
  simp only at hp0 hp1 hn ha
  have nd := sc_table_power.nd
  refine ⟨_, (pss_cons (ps_par (i := 3) (j := 4) (by rfl) nd rfl rfl (by decide) rfl rfl (pa_cons (pe_kn k_table_one hr (pa_cons (pe_callB (id := "len") (c_lenK (K := K)) (by rfl) T.b_len PySem.boot_len (pa_cons (pv 1) pa_nil)) pa_nil)) (pa_cons (pv 1) pa_nil)) (by rfl)) (pss_cons (ps_while (passes_of rfl) (pt_cmpR op_gt (pv 2) pe_int (nomark _)) (pss_cons (ps_if (pt_cmpR op_eq (pe_op op_mod (pv 2) pe_int) pe_int (nomark _)) (pss_one (ps_set (i := 3) nd rfl (Or.inl rfl) (pe_kn k_table_times hr (pa_cons (pv 0) (pa_cons (pv 3) (pa_cons (pv 4) pa_nil)))))) pss_nil) (pss_cons (ps_set (i := 4) nd rfl (Or.inl rfl) (pe_kn k_table_times hr (pa_cons (pv 0) (pa_cons (pv 4) (pa_cons (pv 4) pa_nil))))) (pss_one (ps_set (i := 2) nd rfl (Or.inl rfl) (pe_op op_fdiv (pv 2) pe_int)))))) (pss_one (ps_ret (pv 3))))), ?_⟩
  refine sv_par (x := tabD (unitM n)) (y := tabD a) (ea_cons ((ev_call0 (G := ⟨K, CT, E, nof (p, n, a, e)⟩) n ((ea_cons (ev_cb (ea_cons (ev_var rfl) ea_nil) rc_lenT) ea_nil).imp fun d q => by rw [q, List.length_map, ha.len]) hn)) (ea_cons (ev_var rfl) ea_nil)) ?_
  refine sv_seq (M := fun ρ' => ∃ x y z u, ρ' = [x, y, z, .d (tabD (powL p n e (unitM n) a)), u]) (sv_while (fun k ρ' => ∃ fo la : Mat, ρ' = [.d (.int p), .d (tabD a), .d (.int k), .d (tabD fo), .d (tabD la)] ∧ MatOk p n fo ∧ MatOk p n la ∧ powL p n k fo la = powL p n e (unitM n) a) e ⟨unitM n, a, rfl, unitM_ok hp0 n, ha, rfl⟩ ?_) fun ρ' h => ?_
  · rintro k ρ' ⟨fo, la, rfl, h1, h2, h3⟩
    refine ⟨_, et_test (ev_op (ev_var rfl) ev_int rv_gt), fun h => ?_, fun h => ?_⟩
    · have hk : 0 < k := by simpa using h
      have ok : ∀ {x y : Mat}, MatOk p n x → MatOk p n y → MatOk p n (mulM p n x y) := fun hx hy => mulM_ok (by omega) hx.len
      rw [powL, dif_neg (by omega)] at h3
      refine sv_seq (M := fun ρ' => ρ' = [.d (.int p), .d (tabD a), .d (.int k), .d (tabD (if k % 2 = 1 then mulM p n fo la else fo)), .d (tabD la)]) (sv_if (et_test (ev_op (ev_op (ev_var rfl) ev_int (rv_mod (by decide))) ev_int rv_eqI)) (fun e1 => ?_) (fun e1 => ?_)) fun ρ' e2 => ?_
      · have e2 : (k : Int) % 2 = 1 := by simpa using e1.symm
        refine sv_set1 (ev_call0 (G := ⟨K, CT, E, nof (p, n, a, e)⟩) (p, n, fo, la) (ea_cons (ev_var rfl) (ea_cons (ev_var rfl) (ea_cons (ev_var rfl) ea_nil))) ⟨by omega, hp1, hn, h1, h2⟩) fun x ex => ?_
        rw [if_pos (by omega), ex]
        rfl
      · have e2 : (k : Int) % 2 ≠ 1 := by simpa using e1.symm
        refine sv_next ?_
        rw [if_neg (by omega)]
      · subst e2
        refine sv_set (ev_call0 (G := ⟨K, CT, E, nof (p, n, a, e)⟩) (p, n, la, la) (ea_cons (ev_var rfl) (ea_cons (ev_var rfl) (ea_cons (ev_var rfl) ea_nil))) ⟨by omega, hp1, hn, h2, h2⟩) fun y ey => ?_
        refine sv_set1 (ev_op (ev_var rfl) ev_int (rv_div ⟨by decide, by decide⟩)) fun x ex => ⟨k / 2, by omega, _, _, by rw [ex, ey]; rfl, ?_, ok h2 h2, h3⟩
        split
        · exact ok h1 h2
        · exact h1
    · have hk : k = 0 := by
        have : ¬ (0 : Int) < k := by simpa using h
        omega
      subst hk
      rw [powL, dif_pos rfl] at h3
      exact ⟨_, _, _, _, by rw [h3]⟩
  · obtain ⟨x, y, z, u, rfl⟩ := h
    exact sv_retX (ev_var rfl)
end
end K13
set_option maxHeartbeats 4000000
/-! Values by form: what kinds' defs compute, and that they compute it. -/
namespace K13
open PySem L2
def isIB : PyData → Bool
  | .int _ => true
  | .bool _ => true
  | _ => false
def isBB : PyData → Bool
  | .bool _ => true
  | _ => false
def isI : PyData → Bool
  | .int _ => true
  | _ => false
def isTp : PyData → Bool
  | .tuple _ => true
  | _ => false
def lenD : PyData → Nat
  | .tuple xs => xs.length
  | _ => 0
def valI : PyData → Int
  | .int i => i
  | _ => 0
theorem isI_ex {x : PyData} (h : isI x = true) : ∃ i, x = .int i := by cases x <;> first | exact ⟨_, rfl⟩ | cases h
theorem isTp_ex {x : PyData} (h : isTp x = true) : ∃ xs, x = .tuple xs := by cases x <;> first | exact ⟨_, rfl⟩ | cases h
theorem kit_x {x : PyData} {n : String} {b : Bool} (h : kitB (tyN x) n = some b) (K : PySem.W.Frag) : PySem.W.kitOne K (.type (tyN x)) (.type n) = some b := kit_ty h
theorem isi_I (x : PyData) : kitB (tyN x) "int" = some (isIB x) := by cases x <;> (first | exact (by decide +kernel : kitB "NoneType" "int" = some false) | exact (by decide +kernel : kitB "bool" "int" = some true) | exact (by decide +kernel : kitB "int" "int" = some true) | exact (by decide +kernel : kitB "str" "int" = some false) | exact (by decide +kernel : kitB "list" "int" = some false) | exact (by decide +kernel : kitB "tuple" "int" = some false) | exact (by decide +kernel : kitB "dict" "int" = some false))
theorem isi_B (x : PyData) : kitB (tyN x) "bool" = some (isBB x) := by cases x <;> (first | exact (by decide +kernel : kitB "NoneType" "bool" = some false) | exact (by decide +kernel : kitB "bool" "bool" = some true) | exact (by decide +kernel : kitB "int" "bool" = some false) | exact (by decide +kernel : kitB "str" "bool" = some false) | exact (by decide +kernel : kitB "list" "bool" = some false) | exact (by decide +kernel : kitB "tuple" "bool" = some false) | exact (by decide +kernel : kitB "dict" "bool" = some false))
theorem isi_T (x : PyData) : kitB (tyN x) "tuple" = some (isTp x) := by cases x <;> (first | exact (by decide +kernel : kitB "NoneType" "tuple" = some false) | exact (by decide +kernel : kitB "bool" "tuple" = some false) | exact (by decide +kernel : kitB "int" "tuple" = some false) | exact (by decide +kernel : kitB "str" "tuple" = some false) | exact (by decide +kernel : kitB "list" "tuple" = some false) | exact (by decide +kernel : kitB "tuple" "tuple" = some true) | exact (by decide +kernel : kitB "dict" "tuple" = some false))
def isNum (x : PyData) : Bool := isI x && decide (0 ≤ valI x)
def isPos (x : PyData) : Bool := isI x && decide (0 < valI x)
def isIdx (m : Int) (x : PyData) : Bool := isNum x && decide (valI x < m)
def isPow (x : PyData) : Bool := isPos x && decide (valI x ≤ 6)
def tupOf (x : PyData) (n : Int) : Bool := isTp x && decide ((lenD x : Int) = n)
def isPrm (x : PyData) : Bool := isIdx 10000 x && isPrimeBy (valI x)
theorem isNum_ex {x : PyData} (h : isNum x = true) : ∃ i, x = .int i := isI_ex (Bool.and_eq_true_iff.mp h).1
theorem isPos_ex {x : PyData} (h : isPos x = true) : ∃ i, x = .int i := isI_ex (Bool.and_eq_true_iff.mp h).1
theorem isIdx_ex {m : Int} {x : PyData} (h : isIdx m x = true) : ∃ i, x = .int i := isNum_ex (Bool.and_eq_true_iff.mp h).1
section
variable {P : Program} {w : World} {K : PySem.W.Frag} {mg : Str → Option Value} {base : Heap} {f : Addr} {fd : FuncData} {CT : Addr}
theorem sc_is_integer : FnScope ["thing"] ["thing"] (defScope s_is_integer) := ⟨rfl, rfl, rfl, by decide +kernel, rfl, by decide +kernel, by decide +kernel⟩
abbrev sp_is_integer (K : PySem.W.Frag) (CT : Addr) : Sp := spX K CT (fun x : PyData => [x]) (fun _ => True) (fun x d => d = .bool (isI x)) nof
theorem ok_is_integer (T : Tx K mg) (F : FnP K "is_integer" s_is_integer f fd)  : FnOk P w K mg base (L2.CX P w) 1 f fd ["thing"] (sp_is_integer K CT) := by
  refine fn_x F sc_is_integer (fun _ => rfl) fun cdv A outer s H E x hr hp => ?_
  have nd := sc_is_integer.nd
  refine ⟨_, (pss_one (ps_ret (pe_and (pe_callB (id := "isinstance") (c_isiK (K := K)) (by rfl) T.b_isinstance (by decide +kernel) (pa_cons (pv 0) (pa_cons (pe_ty (n := "int") T.b_int) pa_nil))) (pe_one (pe_not (pe_callB (id := "isinstance") (c_isiK (K := K)) (by rfl) T.b_isinstance (by decide +kernel) (pa_cons (pv 0) (pa_cons (pe_ty (n := "bool") T.b_bool) pa_nil)))))))), ?_⟩
  have e : isI x = (isIB x && !isBB x) := by cases x <;> rfl
  show Sv _ _ _ _ (fun d => d = .bool (isI x))
  rw [e]
  exact sv_retX (ev_andV (ev_isi (ev_var rfl) (kit_x (isi_I x))) fun _ => ev_notV (ev_isi (ev_var rfl) (kit_x (isi_B x))))
theorem sc_is_number : FnScope ["thing"] ["thing"] (defScope s_is_number) := ⟨rfl, rfl, rfl, by decide +kernel, rfl, by decide +kernel, by decide +kernel⟩
abbrev sp_is_number (K : PySem.W.Frag) (CT : Addr) : Sp := spX K CT (fun x : PyData => [x]) (fun _ => True) (fun x d => d = .bool (isNum x)) nof
theorem ok_is_number (T : Tx K mg) (F : FnP K "is_number" s_is_number f fd) (k_is_integer : Kn P w K mg base 1 "is_integer" ["thing"] (sp_is_integer K CT) []) : FnOk P w K mg base (L2.CX P w) 2 f fd ["thing"] (sp_is_number K CT) := by
  refine fn_x F sc_is_number (fun _ => rfl) fun cdv A outer s H E x hr hp => ?_
  have nd := sc_is_number.nd
  refine ⟨_, (pss_one (ps_ret (pe_and (pe_kn k_is_integer hr (pa_cons (pv 0) pa_nil)) (pe_one (pe_cmpR op_ge (pv 0) pe_int (nomark _)))))), ?_⟩
  refine sv_retX (ev_andV (ev_call0 x (ea_cons (ev_var rfl) ea_nil) trivial) fun h => ?_)
  obtain ⟨i, rfl⟩ := isI_ex h
  exact ev_op (ev_var rfl) ev_int rv_ge
theorem sc_is_above_nought : FnScope ["thing"] ["thing"] (defScope s_is_above_nought) := ⟨rfl, rfl, rfl, by decide +kernel, rfl, by decide +kernel, by decide +kernel⟩
abbrev sp_is_above_nought (K : PySem.W.Frag) (CT : Addr) : Sp := spX K CT (fun x : PyData => [x]) (fun _ => True) (fun x d => d = .bool (isPos x)) nof
theorem ok_is_above_nought (T : Tx K mg) (F : FnP K "is_above_nought" s_is_above_nought f fd) (k_is_integer : Kn P w K mg base 1 "is_integer" ["thing"] (sp_is_integer K CT) []) : FnOk P w K mg base (L2.CX P w) 2 f fd ["thing"] (sp_is_above_nought K CT) := by
  refine fn_x F sc_is_above_nought (fun _ => rfl) fun cdv A outer s H E x hr hp => ?_
  have nd := sc_is_above_nought.nd
  refine ⟨_, (pss_one (ps_ret (pe_and (pe_kn k_is_integer hr (pa_cons (pv 0) pa_nil)) (pe_one (pe_cmpR op_gt (pv 0) pe_int (nomark _)))))), ?_⟩
  refine sv_retX (ev_andV (ev_call0 x (ea_cons (ev_var rfl) ea_nil) trivial) fun h => ?_)
  obtain ⟨i, rfl⟩ := isI_ex h
  exact ev_op (ev_var rfl) ev_int rv_gt
theorem sc_is_index : FnScope ["many", "thing"] ["many", "thing"] (defScope s_is_index) := ⟨rfl, rfl, rfl, by decide +kernel, rfl, by decide +kernel, by decide +kernel⟩
abbrev sp_is_index (K : PySem.W.Frag) (CT : Addr) : Sp := spX K CT (fun p : Int × PyData => [.int p.1, p.2]) (fun _ => True) (fun p d => d = .bool (isIdx p.1 p.2)) nof
theorem ok_is_index (T : Tx K mg) (F : FnP K "is_index" s_is_index f fd) (k_is_number : Kn P w K mg base 2 "is_number" ["thing"] (sp_is_number K CT) []) : FnOk P w K mg base (L2.CX P w) 3 f fd ["many", "thing"] (sp_is_index K CT) := by
  refine fn_x F sc_is_index (fun _ => rfl) fun cdv A outer s H E x hr hp => ?_
  obtain ⟨m, x⟩ := x
  have nd := sc_is_index.nd
  refine ⟨_, (pss_one (ps_ret (pe_and (pe_kn k_is_number hr (pa_cons (pv 1) pa_nil)) (pe_one (pe_cmpR op_lt (pv 1) (pv 0) (nomark _)))))), ?_⟩
  refine sv_retX (ev_andV (ev_call0 x (ea_cons (ev_var rfl) ea_nil) trivial) fun h => ?_)
  obtain ⟨i, rfl⟩ := isNum_ex h
  exact ev_op (ev_var rfl) (ev_var rfl) rv_lt
theorem sc_is_power : FnScope ["thing"] ["thing"] (defScope s_is_power) := ⟨rfl, rfl, rfl, by decide +kernel, rfl, by decide +kernel, by decide +kernel⟩
abbrev sp_is_power (K : PySem.W.Frag) (CT : Addr) : Sp := spX K CT (fun x : PyData => [x]) (fun _ => True) (fun x d => d = .bool (isPow x)) nof
theorem ok_is_power (T : Tx K mg) (F : FnP K "is_power" s_is_power f fd) (k_is_above_nought : Kn P w K mg base 2 "is_above_nought" ["thing"] (sp_is_above_nought K CT) []) : FnOk P w K mg base (L2.CX P w) 3 f fd ["thing"] (sp_is_power K CT) := by
  refine fn_x F sc_is_power (fun _ => rfl) fun cdv A outer s H E x hr hp => ?_
  have nd := sc_is_power.nd
  refine ⟨_, (pss_one (ps_ret (pe_and (pe_kn k_is_above_nought hr (pa_cons (pv 0) pa_nil)) (pe_one (pe_cmpR op_le (pv 0) (pe_gint T.c_MOST_POWER) (nomark _)))))), ?_⟩
  refine sv_retX (ev_andV (ev_call0 x (ea_cons (ev_var rfl) ea_nil) trivial) fun h => ?_)
  obtain ⟨i, rfl⟩ := isPos_ex h
  exact ev_op (ev_var rfl) ev_int rv_le
theorem sc_is_tuple_of : FnScope ["thing", "size"] ["thing", "size"] (defScope s_is_tuple_of) := ⟨rfl, rfl, rfl, by decide +kernel, rfl, by decide +kernel, by decide +kernel⟩
abbrev sp_is_tuple_of (K : PySem.W.Frag) (CT : Addr) : Sp := spX K CT (fun p : PyData × Int => [p.1, .int p.2]) (fun _ => True) (fun p d => d = .bool (tupOf p.1 p.2)) nof
theorem ok_is_tuple_of (T : Tx K mg) (F : FnP K "is_tuple_of" s_is_tuple_of f fd)  : FnOk P w K mg base (L2.CX P w) 1 f fd ["thing", "size"] (sp_is_tuple_of K CT) := by
  refine fn_x F sc_is_tuple_of (fun _ => rfl) fun cdv A outer s H E x hr hp => ?_
  obtain ⟨x, n⟩ := x
  have nd := sc_is_tuple_of.nd
  refine ⟨_, (pss_one (ps_ret (pe_and (pe_callB (id := "isinstance") (c_isiK (K := K)) (by rfl) T.b_isinstance (by decide +kernel) (pa_cons (pv 0) (pa_cons (pe_ty (n := "tuple") T.b_tuple) pa_nil))) (pe_one (pe_cmpR op_eq (pe_callB (id := "len") (c_lenK (K := K)) (by rfl) T.b_len PySem.boot_len (pa_cons (pv 0) pa_nil)) (pv 1) (nomark _)))))), ?_⟩
  refine sv_retX (ev_andV (ev_isi (ev_var rfl) (kit_x (isi_T x))) fun h => ?_)
  obtain ⟨i, rfl⟩ := isTp_ex h
  exact ev_op (ev_cb (ea_cons (ev_var rfl) ea_nil) rc_lenT) (ev_var rfl) rv_eqI
theorem sc_is_prime : FnScope ["thing"] ["thing"] (defScope s_is_prime) := ⟨rfl, rfl, rfl, by decide +kernel, rfl, by decide +kernel, by decide +kernel⟩
abbrev sp_is_prime (K : PySem.W.Frag) (CT : Addr) : Sp := spX K CT (fun x : PyData => [x]) (fun _ => True) (fun x d => d = .bool (isPrm x)) nof
theorem ok_is_prime (T : Tx K mg) (F : FnP K "is_prime" s_is_prime f fd) (k_is_index : Kn P w K mg base 3 "is_index" ["many", "thing"] (sp_is_index K CT) []) (k_is_prime_by : Kn P w K mg base 1 "is_prime_by" ["number"] (sp_is_prime_by K CT) []) : FnOk P w K mg base (L2.CX P w) 4 f fd ["thing"] (sp_is_prime K CT) := by
  refine fn_x F sc_is_prime (fun _ => rfl) fun cdv A outer s H E x hr hp => ?_
  have nd := sc_is_prime.nd
  refine ⟨_, (pss_one (ps_ret (pe_and (pe_kn k_is_index hr (pa_cons (pe_gint T.c_TOP) (pa_cons (pv 0) pa_nil))) (pe_one (pe_kn k_is_prime_by hr (pa_cons (pv 0) pa_nil)))))), ?_⟩
  refine sv_retX (ev_andV (ev_call0 (10000, x) (ea_cons ev_int (ea_cons (ev_var rfl) ea_nil)) trivial) fun h => ?_)
  obtain ⟨i, rfl⟩ := isIdx_ex h
  exact ev_call0 i (ea_cons (ev_var rfl) ea_nil) trivial
end
end K13
set_option maxHeartbeats 2000000
/-! A comprehension of two clauses; the module's dict; a tuple walked with its places. -/
namespace K13
open PySem L2
theorem flatMap_le {α β : Type} {F : α → List β} {c : Nat} : ∀ {l : List α}, (∀ x ∈ l, (F x).length ≤ c) → (l.flatMap F).length ≤ l.length * c
  | [], _ => by simp
  | a :: l, h => by
    have h1 := h a (List.mem_cons_self ..)
    have h2 := flatMap_le (l := l) fun x hx => h x (List.mem_cons_of_mem _ hx)
    rw [List.flatMap_cons, List.length_append, List.length_cons, Nat.succ_mul]
    omega
theorem yes_if {p q : Prop} (h : p) : if true = true then p else q := by rw [if_pos rfl]; exact h
section
variable {G : Gd} {ρ : List Sl} {t ta tb tc te tl : TE} {xs : List PyData}
theorem hid_same_upd {A : Addr → Bool} {H : Hp} {D : Addr} {o : HO} (h : A D = true) : hid A (L2.upd H D o) = hid A H := by
  funext q
  by_cases e : q = D
  · unfold hid; rw [e, if_pos h, if_pos h]
  · unfold hid; rw [upd_ne e]
theorem ev_lc2 {wi wi1 : TI} {j j1 : Nat} {vs vs1 : List Nat} (f : PyData → List PyData) (g : PyData → PyData → PyData) (hi : EvI G wi ρ (· = xs)) (hj : j ∈ vs) (hj1 : j1 ∈ vs1) (hl : xs.length ≤ 1000) (hl1 : ∀ x ∈ xs, (f x).length ≤ 1000)
    (hi1 : ∀ x ∈ xs, EvI G wi1 ((wipeR ρ vs).set j (.d x)) (· = f x)) (he : ∀ x ∈ xs, ∀ y ∈ f x, Ev G te ((wipeR ((wipeR ρ vs).set j (.d x)) vs1).set j1 (.d y)) (· = g x y)) :
    Ev G (tLc2 wi (gName j) tYes wi1 (gName j1) tYes te vs vs1) ρ (· = .list (xs.flatMap fun x => (f x).map (g x))) := fun C A H σ Q hk I X q =>
  hi C A H σ _ hk I X fun J xs' Ok H1 I1 f1 n1 dr ok1 p1 D hD => by
    subst p1
    have eh := hid_add (A := A) (o := .lst []) hD
    have nf := I1.no0 hD
    have AD : A D = false := I1.al.new hD
    let F : PyData → List PyData := fun x => (f x).map (g x)
    let S0 : Hp → Prop := fun H' => En C (addA A D) H' (wipe σ vs) (wipeR ρ vs) ∧ Fr C H1 H' ∧ (∀ b, H' b = none → H1 b = none) ∧ Ok (addA A D) H'
    let Acc : List PyData → Hp → Prop := fun B H' => ∃ ws, H' D = some (.lst ws) ∧ DpAll C.K (hid (addA A D) H') ws B
    refine ⟨fun i m H' => m = xs'.length - i ∧ S0 H' ∧ Acc ((xs'.take i).flatMap F) H', ⟨_, rfl, ?_, ?_⟩, ?_⟩
    · exact ⟨(I1.newHid hD).wipe vs, Fr.of (Same.new hD), nn_of (Same.new hD), dr.mono _ _ _ _ ok1 (by rw [eh]; exact Same.refl _)⟩
    · exact ⟨[], upd_same, .nil⟩
    · rintro i m H' ⟨rfl, ⟨wE, wF, wN, wO⟩, ws, w1, w2⟩
      by_cases hlt : i < xs'.length
      · have hxi : xs'[i]? = some xs'[i] := by simp [hlt]
        have hmem : xs'[i] ∈ xs' := List.getElem_mem hlt
        generalize xs'[i] = x at hxi hmem
        obtain ⟨hgo, hy⟩ := dr.go (addA A D) H' i x wE.al wO hxi
        have etk : xs'.take (i + 1) = xs'.take i ++ [x] := by rw [List.take_succ, hxi]; rfl
        have lenA : ((xs'.take i).flatMap F).length ≤ 1000000 := by
          have h1 := flatMap_le (F := F) (l := xs'.take i) (c := 1000) fun y hy => by
            show ((f y).map (g y)).length ≤ 1000
            rw [List.length_map]
            exact hl1 y (List.mem_of_mem_take hy)
          have h2 : (xs'.take i).length ≤ 1000 := by rw [List.length_take]; omega
          have h3 := Nat.mul_le_mul_right 1000 h2
          omega
        refine .inr ⟨hgo, fun H2 => S0 H2 ∧ Acc ((xs'.take (i + 1)).flatMap F) H2, fun H2 ⟨a, b⟩ => ⟨xs'.length - (i + 1), by omega, rfl, a, b⟩, fun v H2 y => ?_⟩
        obtain ⟨s2, d2⟩ := hy v H2 y
        have E2 : En C (addA A D) H2 (wipe σ vs) (wipeR ρ vs) := wE.same s2
        have E3 : En C (addA A D) H2 ((wipe σ vs).set j (some v)) ((wipeR ρ vs).set j (.d x)) := E2.set d2
        show wipe ((wipe σ vs).set j (some v)) vs = wipe σ vs ∧ _
        refine ⟨wipe_set hj, ?_⟩
        unfold tYes
        dsimp only
        rw [if_pos rfl]
        generalize hσ2 : (wipe σ vs).set j (some v) = σ2 at E3
        refine hi1 x hmem C (addA A D) H2 σ2 _ hk E3 X fun J1 ys Ok1 H4 E4 f4 n4 dr1 ok4 p4 => ?_
        subst p4
        have F4 : Fr C H1 H4 := (wF.trans (Fr.of s2)).trans f4
        have N4 : ∀ b, H4 b = none → H1 b = none := fun b e => wN b (nn_of s2 b (n4 b e))
        have S4 : Same (hid (addA A D) H') (hid (addA A D) H4) := fun b o e => E3.fr_hid f4 b o (hid_same (fun b o _ e => s2 b o e) b o e)
        refine ⟨fun k m H' => m = (f x).length - k ∧ S0 H' ∧ En C (addA A D) H' (wipe σ2 vs1) (wipeR ((wipeR ρ vs).set j (.d x)) vs1) ∧ Ok1 (addA A D) H' ∧ Acc ((xs'.take i).flatMap F ++ ((f x).take k).map (g x)) H', ⟨_, rfl, ?_, E4.wipe vs1, ok4, ?_⟩, ?_⟩
        · exact ⟨E2.fr f4 fun a e => (E4.feed a e).2, F4, N4, dr.mono _ _ _ _ wO S4⟩
        · refine ⟨ws, f4 D _ (s2 D _ w1) nf.1, ?_⟩
          simp only [List.take_zero, List.map_nil, List.append_nil]
          exact dpAll_mono S4 w2
        · rintro k m H5 ⟨rfl, ⟨sE, sF, sN, sO⟩, e5, o5, us, u1, u2⟩
          by_cases hk2 : k < (f x).length
          · have hyk : (f x)[k]? = some (f x)[k] := by simp [hk2]
            have hym : (f x)[k] ∈ f x := List.getElem_mem hk2
            generalize (f x)[k] = y at hyk hym
            obtain ⟨hgo1, hy1⟩ := dr1.go (addA A D) H5 k y e5.al o5 hyk
            refine .inr ⟨hgo1, _, fun H6 h6 => ⟨(f x).length - (k + 1), by omega, h6⟩, fun v1 H6 z1 => ?_⟩
            obtain ⟨s6, d6⟩ := hy1 v1 H6 z1
            have E6 := e5.same s6
            have E7 := E6.set (i := j1) d6
            show wipe ((wipe σ2 vs1).set j1 (some v1)) vs1 = wipe σ2 vs1 ∧ _
            refine ⟨wipe_set hj1, ?_⟩
            rw [if_pos rfl]
            refine he x hmem y hym C (addA A D) H6 _ _ hk E7 X fun yv yd H8 E8 f8 n8 d8 p8 => ?_
            subst p8
            have D8 : H8 D = some (.lst us) := f8 D _ (s6 D _ u1) nf.1
            have lenU := dpAll_len u2
            refine ⟨us, D8, ?_, ?_⟩
            · rw [lenU, List.length_append, List.length_map, List.length_take, sizeLine_eq]
              have := hl1 x hmem
              omega
            · have fd8 : ∀ a, C.fa = some a → FeedOk C.K (addA A D) H8 a := fun a e => (E8.feed a e).2
              have b1 := (sE.same s6).fr f8 fd8
              have b2 := E6.fr f8 fd8
              have hno : ∀ (i : Nat) (zs : List PyData), (wipeR ρ vs)[i]? = some (.own zs) → (wipe σ vs)[i]? ≠ some (some (.ref D)) := (I1.wipe vs).noown hD
              have hno2 : ∀ (i : Nat) (zs : List PyData), (wipeR ((wipeR ρ vs).set j (.d x)) vs1)[i]? = some (.own zs) → (wipe σ2 vs1)[i]? ≠ some (some (.ref D)) := fun n zs h1 h2 => by
                rw [wipeR_at] at h1
                rw [wipe_at] at h2
                by_cases hn : n ∈ vs1
                · rw [if_pos hn] at h1
                  split at h1 <;> cases h1
                · rw [if_neg hn] at h1 h2
                  rw [← hσ2] at h2
                  by_cases hjn : j = n
                  · subst hjn
                    by_cases hz : j < (wipeR ρ vs).length
                    · rw [List.getElem?_set_self hz] at h1; cases h1
                    · rw [List.getElem?_eq_none (by rw [List.length_set]; omega)] at h1; cases h1
                  · rw [List.getElem?_set_ne hjn] at h1 h2
                    exact hno n zs h1 h2
              have c1 := b1.hidden (o := .lst (us ++ [yv])) addA_at nf.1 nf.2 hno
              have c2 := b2.hidden (o := .lst (us ++ [yv])) addA_at nf.1 nf.2 hno2
              have eh8 : hid (addA A D) (L2.upd H8 D (.lst (us ++ [yv]))) = hid (addA A D) H8 := hid_same_upd addA_at
              have S8 : Same (hid (addA A D) H5) (hid (addA A D) H8) := fun b o e => E7.fr_hid f8 b o (hid_same (fun b o _ e => s6 b o e) b o e)
              refine ⟨rfl, ⟨c1, fun b o e n => ?_, fun b e => ?_, dr.mono _ _ _ _ sO (by rw [eh8]; exact S8)⟩, c2, dr1.mono _ _ _ _ o5 (by rw [eh8]; exact S8), us ++ [yv], upd_same, ?_⟩
              · rw [upd_ne (ne_of_none e hD)]
                exact (sF.trans ((Fr.of s6).trans f8)) b o e n
              · by_cases z : b = D
                · rw [z]; exact hD
                · rw [upd_ne z] at e
                  exact sN b (nn_of s6 b (n8 b e))
              · rw [eh8, List.take_succ, hyk]
                show DpAll C.K _ _ ((xs'.take i).flatMap F ++ List.map (g x) ((f x).take k ++ [y]))
                rw [List.map_append, ← List.append_assoc]
                exact dpAll_app (dpAll_mono S8 u2) (.cons d8 .nil)
          · refine .inl ⟨dr1.stop _ _ _ o5 (by omega), ⟨sE, sF, sN, sO⟩, us, u1, ?_⟩
            rw [etk, List.flatMap_append]
            have e1 : (f x).take k = f x := List.take_of_length_le (by omega)
            rw [e1] at u2
            have e2 : [x].flatMap F = (f x).map (g x) := by simp [F]
            rw [e2]
            exact u2
      · refine .inl ⟨dr.stop _ _ _ wO (by omega), ?_⟩
        have fds : ∀ a, C.fa = some a → FeedOk C.K A H' a := fun a e => (wE.feed a e).2.mono (hid_le fun b hb => addA_of hb) fun o z => z
        refine q (.ref D) _ H' (I1.fr wF fds) (f1.trans wF) (fun b e => n1 b (wN b e)) ?_ rfl
        rw [List.take_of_length_le (by omega)] at w2
        exact .lst (SqL.of (by rw [hid_at AD]; exact w1)) (dpAll_mono (hid_le fun b hb => addA_of hb) w2)
end
/-! ### the module's dict of sizes -/
/-- where the dict stands, and what it holds -/
structure Sz (K : PySem.W.Frag) (w : World) (mg : Str → Option Value) (sz : Addr) : Prop where
  at_ : mg "SIZES" = some (.ref sz)
  low : (sz == sysModules) = false
  dct : ∃ es n, K.lookup sz = some ⟨.type "dict", none, .dict es n, #[]⟩ ∧ PySem.W.KeysLit w.params es.toList
  val : ∀ z n, (z, n) ∈ [(("ring" : Str), (2 : Int)), ("power", 3), ("knot", 2), ("turn", 4), ("act", 4)] → ∃ u, PySem.W.nsIn K sz z = some (some u) ∧ RelV (.int n) u
theorem Sz.kd {K : PySem.W.Frag} {w : World} {mg : Str → Option Value} {sz : Addr} (h : Sz K w mg sz) {z : Str} {n : Int} (hz : (z, n) ∈ [(("ring" : Str), (2 : Int)), ("power", 3), ("knot", 2), ("turn", 4), ("act", 4)]) : KDct K w sz z (.int n) := by
  obtain ⟨es, m, e1, e2⟩ := h.dct
  obtain ⟨u, e3, e4⟩ := h.val z n hz
  exact ⟨es, m, u, e1, e2, e3, e4⟩
/-- d.get(z, other) of a dict of the module that has z -/
def tKGet (K : PySem.W.Frag) (w : World) (sz : Addr) (ty tx : TE) : TE := fun σ H Q => ty σ H fun y H2 => tx σ H2 fun _ H3 => ∃ z v, y = .str z ∧ KDct K w sz z v ∧ Q v H3
section
variable {X : Cx} {e g : Expr} {apos cpos p : Pos} {ty tx : TE} {sz : Addr}
theorem pe_sizes (hS : Sz X.K X.w X.mg sz) (hg : Gl X "SIZES" := by rfl) : PE X (.Name "SIZES" p) (tC (.ref sz)) := pe_glob hg hS.at_ rfl (by decide)
theorem pe_kget2 (hS : Sz X.K X.w X.mg sz) (he : PE X e ty) (hf : PE X g tx) (m : M2 X (.Name "SIZES" p) "get" apos e g cpos) (hg : Gl X "SIZES" := by rfl) : PE X (.Call (.Attribute (.Name "SIZES" p) "get" apos) [e, g] [] cpos) (tKGet X.K X.w sz ty tx) := by
  refine ⟨fun pins s σ H Q I h => wpAny_Call_method m.base m.few m.line PySem.F.plainAttrs_dict PySem.F.slot_dict_get PySem.F.type_dict_get (thn ((pe_sizes hS hg).run pins s σ H (fun x H1 => x = .ref sz ∧ H1 = H) I ⟨rfl, rfl⟩) fun u s1 ⟨x, H1, I1, rx, ex, eH⟩ => ?_)⟩
  subst ex eH
  obtain rfl : u = Value.ref sz := rx
  obtain ⟨es, n, hl, hk⟩ := hS.dct
  have m1 := PySem.W.mapOf_K (prog := X.prog) (w := X.w) I1.kIn hl hk
  refine ⟨m1.typeIs, fun b q => by cases q; exact ⟨_, I1.kIn _ _ hl, rfl⟩, ?_⟩
  rw [m.trees]
  refine Calls.callWith_builtin rfl (Calls.evalArgs_plain (Calls.spliced_cons (thn (he.run pins s1 σ H1 _ I1 h) fun iv s2 ⟨y, H2, I2, ry, q2⟩ => Calls.spliced_cons (thn (hf.run pins s2 σ H2 _ I2 q2) fun fv s3 ⟨z, H3, I3, rz, x, v, ey, kd, q3⟩ => Calls.spliced_nil ?_))))
  subst ey
  obtain ⟨t, rfl⟩ := ry
  obtain ⟨es', n', u0, hl', hk', e3, ru⟩ := kd
  have m3 := PySem.W.mapOf_K (prog := X.prog) (w := X.w) I3.kIn hl' hk'
  refine call_meetsIn PySem.F.slot_dict_get m3.typeIs PySem.F.entry_dict_get (PySem.F.args_dict_get_3 _ _ _) (meets_dict_get_default (strKind X.prog X.w) sz (strKind_is X.prog X.w x t) hS.low fv) ⟨_, m3, ?_⟩
  rw [PySem.W.find_K hl' e3]
  exact ⟨v, H3, I3.tok _, ru, q3⟩
end
section
variable {G : Gd} {ρ : List Sl} {ty tx : TE} {P : DP} {w : World} {mg : Str → Option Value} {sz : Addr}
theorem ev_szGet (hS : Sz G.K w mg sz) {z : Str} {n : Int} (hy : Ev G ty ρ (· = .str z)) (hx : Ev G tx ρ P) (hz : (z, n) ∈ [(("ring" : Str), (2 : Int)), ("power", 3), ("knot", 2), ("turn", 4), ("act", 4)]) : Ev G (tKGet G.K w sz ty tx) ρ (· = .int n) := fun C A H σ Q hk I X q =>
  hy C A H σ _ hk I X fun v d H1 I1 f1 n1 d1 p1 => hx C A H1 σ _ hk I1 X fun v2 e H2 I2 f2 n2 d2 p2 => by
    subst p1
    exact ⟨z, .int n, dp_str d1, hS.kd hz, q _ _ H2 I2 (f1.trans f2) (fun b e => n1 b (n2 b e)) (.int n) rfl⟩
theorem ev_szIx (hS : Sz G.K w mg sz) {z : Str} {n : Int} (hy : Ev G ty ρ (· = .str z)) (hz : (z, n) ∈ [(("ring" : Str), (2 : Int)), ("power", 3), ("knot", 2), ("turn", 4), ("act", 4)]) : Ev G (tOp (rIxD G.K w) (tC (.ref sz)) ty) ρ (· = .int n) := fun C A H σ Q hk I X q =>
  hy C A H σ _ hk I X fun v d H1 I1 f1 n1 d1 p1 => by
    subst p1
    exact ⟨sz, z, .int n, rfl, dp_str d1, hS.kd hz, q _ _ H1 I1 f1 n1 (.int n) rfl⟩
end
end K13
set_option maxHeartbeats 2000000
/-! enumerate(v) of one argument, v a tuple. -/
namespace K13
open PySem PySem.Spec PyProof.Rows L2
open Sem (wp)
set_option maxHeartbeats 4000000 in
theorem enum1_new {v : Value} {o : Obj} {Hv : Heap → Prop} (B : Begins v o Hv) :
    Meets (Builtin.«enumerate.__new__» ⟨[.type "enumerate", v], []⟩) (fun _ R s => Hv s.heap ∧
      R (.ok (.ret (.ref (s.heap.push o).objs.size))) { s with heap := (s.heap.push o).push { cls := .type "enumerate", data := .fields #[.none, .bool false, .ref s.heap.objs.size, rawInt 0, .none, .none] } }) :=
  .of_wp fun prog w A R s h => by
    obtain ⟨hp, g, d, tk, os⟩ := s
    obtain ⟨hv, h⟩ := h
    have hs1 := sub_enumerate
    have it0 : ∀ {A2 : Around} {E : Value → Shared → Prop} {Q : Value → Shared → Prop}, Q (.ref hp.objs.size) ⟨hp.push o, g, d, tk, os⟩ → wpAny (model prog w) A2 (pyIter v) Q E ⟨hp, g, d, tk, os⟩ := fun q => B.iter prog w _ _ ⟨hp, g, d, tk, os⟩ _ hv q
    wp_walk using it0
    refine wpAny_stack_any fun st => wpAny_pure ?_
    split
    · rename_i c _ _ _ _ _
      cases (c == Value.type "enumerate") <;> (wp_walk using it0; exact ⟨_, rfl, h⟩)
    · wp_walk using it0
      exact ⟨_, rfl, h⟩
theorem enum1_call {prog : Program} {w : World} {A : Around} {E : Value → Shared → Prop} {s : Shared} {v : Value} {o : Obj} {Hv : Heap → Prop} {Q : Value → Shared → Prop} (B : Begins v o Hv) (hv : Hv s.heap)
    (h : ∀ h', IsEnum h' (s.heap.objs.size + 1) s.heap.objs.size 0 .none → h'.get? s.heap.objs.size = some o → (∀ b o, s.heap.get? b = some o → h'.get? b = some o) → Q (.ref (s.heap.objs.size + 1)) { s with heap := h' }) :
    wpAny (model prog w) A (call (.type "enumerate") [v]) Q E s := by
  refine callType_new F.called_enumerate (by decide) (F.typeCall_enumerate_1 _) (F.newCall_enumerate_1 _) (fun obj => F.args_object_init_2 obj _) F.entry_enumerate_new (enum1_new B) ⟨hv, ?_⟩
  have z1 : (s.heap.push o).objs.size = s.heap.objs.size + 1 := Heap.size_push ..
  show _ ∧ _
  rw [z1]
  have e1 : IsEnum ((s.heap.push o).push { cls := .type "enumerate", data := .fields #[.none, .bool false, .ref s.heap.objs.size, rawInt 0, .none, .none] }) (s.heap.objs.size + 1) s.heap.objs.size 0 .none := by
    have q := Heap.get?_push_size (s.heap.push o) (o := { cls := .type "enumerate", data := .fields #[.none, .bool false, .ref s.heap.objs.size, rawInt 0, .none, .none] }) rfl
    rw [z1] at q
    exact q
  exact ⟨⟨_, e1, rfl⟩, h _ e1 (Heap.get?_push_of_some _ (Heap.get?_push_size _ B.free)) fun b u e => Heap.get?_push_of_some _ (Heap.get?_push_of_some _ e)⟩
/-- the tuple at a, each item in a new pair -/
def IteT (K : PySem.W.Frag) (a : Addr) : It :=
  ⟨fun i H => ∃ (xs : List V) (x : V), SqT K H a xs ∧ xs[i]? = some x, fun i H v H' => ∃ T x, v = .ref T ∧ H T = none ∧ H' = upd H T (.tup [.int (i : Nat), x]) ∧ ∀ xs, SqT K H a xs → xs[i]? = some x, fun i H => ∃ xs : List V, SqT K H a xs ∧ xs.length ≤ i⟩
theorem turn_enumT {P : Program} {w : World} {K : PySem.W.Frag} {elts : List Expr} {kk : Nat} {tpos : Pos} (a e it : Addr) :
    Turn P w K (.Tuple elts kk tpos) (IteT K a) [e, it] e (fun i h => (∃ old, IsEnum h e it ((i : Nat) : Int) old) ∧ h.IsTupleIter it a i ∧ e ≠ it ∧ a ≠ it ∧ e ≠ a) where
  mem := by simp
  obj := fun i h st b hb => by
    obtain ⟨⟨old, q1⟩, ⟨o, q2, _, q3⟩, _⟩ := st
    have z : b = e ∨ b = it := by simpa using hb
    rcases z with z | z
    · subst z; exact ⟨_, q1, fun v q => nomatch q⟩
    · subst z; exact ⟨o, q2, fun v q => by rw [q3] at q; cases q⟩
  keep := fun i h h' st k => let ⟨⟨old, q1⟩, q2, q3⟩ := st; ⟨⟨old, k e (by simp) _ q1⟩, q2.at fun o q => k it (by simp) o q, q3⟩
  item := by
    intro X hP hw hK hc i pins s σ H E I hf st hg
    subst hP hw hK
    obtain ⟨⟨old, h1⟩, h2, n1, n2, n3⟩ := st
    obtain ⟨xs, x, hq, hx⟩ := hg
    obtain ⟨its, rv, p, hz⟩ := I.tuple hq
    have p' : s.heap.IsTuple a its.toArray := p
    obtain ⟨u, hu, ru⟩ := rv.get hx
    have l1 : e < s.heap.objs.size := Heap.lt_size h1
    have l2 : it < s.heap.objs.size := by obtain ⟨_, q, _⟩ := h2; exact Heap.lt_size q
    have li : i < its.toArray.size := by
      obtain ⟨q, _⟩ := List.getElem?_eq_some_iff.mp hu
      simpa using q
    refine wpAny_pyNext_enum_itemC (Draws.tuple (A := X.A.in1) (I.ok.hd hc) it a n2 its.toArray) h1 ⟨h2, p'⟩ li n1 (by simp [n1, n3]) fun y h' tk hP ho hs hT hsz hk => ?_
    have ey : y = u := by
      have q : its[i]? = some y := by simpa using hP
      rw [hu] at q
      exact (Option.some.inj q).symm
    subst ey
    refine ⟨_, rfl, wpAny_letOwnedTupleGo_enum (s := { s with heap := h', toks := tk + 1 }) ho fun h'' he sb => ?_⟩
    have T2 : h''.get? s.heap.objs.size = some { cls := .type "tuple", data := .seq #[.int i tk, y] } := (sb.2 _ (Nat.ne_of_gt l1)).trans hT
    have new : ObjOk X.prog X.w (upd H s.heap.objs.size (.tup [.int (i : Nat), x])) h'' s.heap.objs.size (.tup [.int (i : Nat), x]) :=
      ⟨by show 2 ≤ sizeLine; decide, [.int i tk, y], .cons ⟨_, rfl⟩ (.cons ru .nil), ⟨_, T2, rfl, _, rfl⟩⟩
    have I1 : Inv X pins σ (upd H s.heap.objs.size (.tup [.int (i : Nat), x])) { s with heap := h'', toks := tk + 1 } :=
      I.turnedNew (ch := [e, it]) (fun b ob nb q => (sb.2 b (fun z => nb (by simp [z]))).trans (hk b ob (fun z => nb (by simp [z])) (fun z => nb (by simp [z])) q)) hf (Nat.le_refl _) new
    refine ⟨.ref s.heap.objs.size, _, I1, rfl, ⟨_, x, rfl, I.hok.fresh (Nat.le_refl _), rfl, fun ys hy => by rw [I.tuple_inj hy hq]; exact hx⟩, ⟨⟨y, ?_⟩, hs.1.at fun o q => (sb.2 it (Ne.symm n1)).trans q, n1, n2, n3⟩, fun b hb => ?_⟩
    · have e1 : ((i + 1 : Nat) : Int) = (i : Int) + 1 := by omega
      rw [e1]
      exact he
    · have lb : b < s.heap.objs.size := by
        have z : b = e ∨ b = it := by simpa using hb
        rcases z with z | z <;> rw [z] <;> assumption
      rw [upd_ne (Nat.ne_of_lt lb)]
      exact (hf b hb).1
  done := by
    intro X hP hw hK hc i pins s σ H E I hf st hg
    subst hP hw hK
    obtain ⟨⟨old, h1⟩, h2, n1, n2, n3⟩ := st
    obtain ⟨xs, hq, hx⟩ := hg
    obtain ⟨its, rv, p, hz⟩ := I.tuple hq
    have p' : s.heap.IsTuple a its.toArray := p
    obtain ⟨f0, f1, f2, f3, f4, f5⟩ := hf it (by simp)
    have hl := rv.length
    have none_ : its.toArray[i]? = none := by simp; omega
    have D : Draws X.prog X.w X.A.in1 it [it, a] i (fun _ _ => False) (fun j h => j = i ∧ h.IsTupleIter it a i ∧ h.IsTuple a its.toArray) :=
      { live := fun _ _ st => let ⟨o, q, _⟩ := st.2.1; ⟨o, q⟩
        frame := fun _ _ _ st k => ⟨st.1, st.2.1.at fun o q => k it (by simp) o q, st.2.2.at fun o q => k a (by simp) o q⟩
        item := fun j _ _ _ hj st => absurd st.1 (by omega)
        done := fun s Q E st hE => wpAny_nextOf_tuple_end (I.ok.hd hc) st.2.1 st.2.2 none_ hE }
    exact wpAny_pyNext_enum_endD D h1 ⟨rfl, h2, p'⟩ fun h' eb => ⟨rfl, I.turned (t' := s.toks) (fun b o nb q => eb b o nb q) f0 f1 f3 f4 f5⟩
  self := fun A i s Q E st h => let ⟨⟨_, q⟩, _⟩ := st; wpAny_pyIter_enum q h
def iEnumT (K : PySem.W.Frag) (ta : TA) : TI := fun σ H R => ta σ H fun vs H1 => ∃ a xs, vs = [.ref a] ∧ SqT K H1 a xs ∧ R (IteT K a) H1
theorem pi_enumT {X : Cx} {e : Expr} {ta : TA} {p pos tpos : Pos} {elts : List Expr} {kk : Nat} (hg : Gl X "enumerate") (hm : X.mg "enumerate" = none) (ha : PA X [e] ta) (hs : starEach [e] X.env = [(false, eval e X.env)] := by rfl) :
    PI X (.Tuple elts kk tpos) (.Call (.Name "enumerate" p) [e] [] pos) (iEnumT X.K ta) := by
  refine ⟨fun pins s σ H R I h => Call_ (ld_blt I hg hm boot_enumerate (PyProof.Rows.callWith_type1 (thn (ha.run pos pins s σ H _ I h) fun us s1 ⟨vs, H1, I1, r1, q1⟩ => ?_) hs rfl))⟩
  obtain ⟨a, xs, ex, hq, q⟩ := q1
  subst ex
  cases r1 with
  | cons r rr =>
    cases rr
    cases r
    obtain ⟨its, rv, p', hz⟩ := I1.tuple hq
    have pt : s1.heap.IsTuple a its.toArray := p'
    have la : a < s1.heap.objs.size := by obtain ⟨o, q, _⟩ := id pt; exact Heap.lt_size q
    refine enum1_call (begins_tuple a its.toArray) pt fun h' he hit hk => wpAny_pyIter_enum he ?_
    have I2 : Inv X pins σ H1 { s1 with heap := h' } := I1.kept (t' := s1.toks) hk
    refine ⟨s1.heap.objs.size + 1, [s1.heap.objs.size + 1, s1.heap.objs.size], _, _, H1, rfl, I2, turn_enumT a (s1.heap.objs.size + 1) s1.heap.objs.size, ⟨⟨.none, he⟩, ⟨_, hit, rfl, rfl⟩, Nat.succ_ne_self _, Nat.ne_of_lt la, fun z => ?_⟩, fun b hb => ?_, q⟩
    · exact absurd la (by rw [← z]; exact Nat.not_lt.mpr (Nat.le_succ _))
    · have z : b = s1.heap.objs.size + 1 ∨ b = s1.heap.objs.size := by simpa using hb
      have le : s1.heap.objs.size ≤ b := by
        rcases z with z | z
        · rw [z]; exact Nat.le_add_right _ _
        · rw [z]; exact Nat.le_refl _
      exact I1.fpOk le (I1.hok.fresh le)
/-- the pairs of place and item -/
def enumD (xs : List PyData) : List PyData := (List.range xs.length).map fun i => .tuple [.int (i : Nat), xs.getD i .none]
theorem enumD_at {xs : List PyData} {i : Nat} {p : PyData} (h : (enumD xs)[i]? = some p) : ∃ x, xs[i]? = some x ∧ p = .tuple [.int (i : Nat), x] := by
  unfold enumD at h
  rw [List.getElem?_map] at h
  by_cases hi : i < xs.length
  · rw [List.getElem?_range hi] at h
    refine ⟨xs[i], by simp [hi], ?_⟩
    have := (Option.some.inj h).symm
    simpa [hi] using this
  · rw [List.getElem?_eq_none (by simpa using hi)] at h
    cases h
theorem drv_enumT {K : PySem.W.Frag} {a : Addr} {vs : List V} {xs : List PyData} : Drv K (IteT K a) (enumD xs) (fun A H => SqT K (hid A H) a vs ∧ DpAll K (hid A H) vs xs) where
  go := fun A H i x al ok hi => by
    obtain ⟨y, hy, rfl⟩ := enumD_at hi
    obtain ⟨w, hw, dw⟩ := dpAll_at ok.2 hy
    refine ⟨⟨vs, w, Same.seqT hid_to ok.1, hw⟩, fun v H' z => ?_⟩
    obtain ⟨T, u, rfl, hT, rfl, hu⟩ := z
    have e2 := hu vs (Same.seqT hid_to ok.1)
    rw [hw] at e2
    cases e2
    exact ⟨Same.new hT, dp_newT al hT (.cons (.int _) (.cons dw .nil))⟩
  stop := fun A H i ok hi => ⟨vs, Same.seqT hid_to ok.1, by rw [dpAll_len ok.2]; simpa [enumD] using hi⟩
  mono := fun A A' H H' ok s => ⟨Same.seqT s ok.1, dpAll_mono s ok.2⟩
theorem ei_enumT {G : Gd} {ρ : List Sl} {tA : TA} {xs : List PyData} (ha : EvA G tA ρ (· = [.tuple xs])) : EvI G (iEnumT G.K tA) ρ (· = enumD xs) := fun C A H σ R hk I X q => ha C A H σ _ hk I X fun vs ds H1 I1 f1 n1 d1 p1 => by
  subst p1
  obtain ⟨v, rfl, dv⟩ := dp1 d1
  obtain ⟨a, us, rfl, s, da⟩ := dp_tup dv
  refine ⟨a, us, rfl, hk ▸ Same.seqT hid_to s, ?_⟩
  have z := q (IteT C.K a) (enumD xs) _ H1 I1 f1 n1 drv_enumT ⟨s, da⟩ rfl
  rw [hk] at z
  exact z
end K13
set_option maxHeartbeats 4000000
/-! Pieces and rules: their tests (of good ones) and their texts. -/
namespace K13
open PySem L2
section
variable {G : Gd} {ρ : List Sl} {t ta tb tc te : TE} {ts tu tw : TS} {u v : TT} {P R : DP} {x y z d : PyData} {ds xs : List PyData} {K : PySem.W.Frag} {N M : List Sl → Prop} {b : Bool}
theorem et_andF (h : EvT G u ρ (· = false)) : EvT G (tAnd u v) ρ (· = false) := et_is (et_and (c := false) h fun e => by cases e) rfl
theorem et_andT (h : EvT G u ρ (· = true)) (k : EvT G v ρ (· = b)) : EvT G (tAnd u v) ρ (· = b) := et_is (et_and h fun _ => k) (by simp)
theorem et_orT (h : EvT G u ρ (· = true)) : EvT G (tOr u v) ρ (· = true) := et_is (et_or (c := false) h fun e => by cases e) rfl
theorem et_orF (h : EvT G u ρ (· = false)) (k : EvT G v ρ (· = b)) : EvT G (tOr u v) ρ (· = b) := et_is (et_or h fun _ => k) (by simp)
theorem sv_ifT (h : EvT G u ρ (· = true)) (k : Sv G ts ρ N R) : Sv G (tIfS u ts tu) ρ N R := sv_if h (fun _ => k) fun e => by cases e
theorem sv_ifF (h : EvT G u ρ (· = false)) (k : Sv G tu ρ N R) : Sv G (tIfS u ts tu) ρ N R := sv_if h (fun e => by cases e) fun _ => k
theorem sv_whenF (h : EvT G u ρ (· = false)) (k : Sv G tw ρ N R) : Sv G (tSeq (tIfS u ts tNext) tw) ρ N R := sv_when h (fun e => by cases e) fun _ => k
theorem sv_whenT (h : EvT G u ρ (· = true)) (k : Sv G ts ρ (fun _ => False) R) : Sv G (tSeq (tIfS u ts tNext) tw) ρ N R := sv_when h (fun _ => k) fun e => by cases e
theorem ev_ifT (h : EvT G u ρ (· = true)) (k : Ev G ta ρ P) : Ev G (tIf u ta tb) ρ P := ev_if h (fun _ => k) fun e => by cases e
theorem ev_ifF (h : EvT G u ρ (· = false)) (k : Ev G tb ρ P) : Ev G (tIf u ta tb) ρ P := ev_if h (fun e => by cases e) fun _ => k
/-- a text among texts -/
theorem inV_strs {s : Str} : ∀ {zs : List Str}, inV (.str s) (zs.map V.str) = decide (s ∈ zs)
  | [] => by simp [inV]
  | a :: r => by
    have ih := inV_strs (s := s) (zs := r)
    unfold inV at ih ⊢
    rw [List.map_cons, List.any_cons, ih]
    have e : eqV (.str a) (.str s) = decide (a = s) := by
      show (a == s) = _
      exact Bool.beq_eq_decide_eq ..
    rw [e]
    by_cases h : a = s
    · simp [h]
    · have h' : ¬ s = a := fun q => h q.symm
      simp [h, h']
theorem rv_inS {neg : Bool} {s : Str} {zs : List Str} (hx : x = .list (zs.map .str) ∨ x = .tuple (zs.map .str)) : Rv K (rIn K neg) (.str s) x (· = .bool (if neg then !decide (s ∈ zs) else decide (s ∈ zs))) := by
  have h := rv_in (K := K) (neg := neg) (x := .str s) (w := .str s) (ds := zs.map .str) (ws := zs.map V.str) rfl (by simp [Function.comp_def, flatD]) hx
  rw [inV_strs] at h
  exact h
theorem et_eqS {a c : Str} (ha : Ev G ta ρ (· = .str a)) (hc : Ev G tc ρ (· = .str c)) (e : decide (a = c) = b) : EvT G (tTest (tOp rEq ta tc)) ρ (· = b) := et_is (et_test (ev_op ha hc rv_eqS)) e
theorem et_eqI {a c : Int} (ha : Ev G ta ρ (· = .int a)) (hc : Ev G tc ρ (· = .int c)) (e : decide (a = c) = b) : EvT G (tTest (tOp rEq ta tc)) ρ (· = b) := et_is (et_test (ev_op ha hc rv_eqI)) e
theorem et_inS {s : Str} {zs : List Str} (ha : Ev G ta ρ (· = .str s)) (hc : Ev G tc ρ (· = .tuple (zs.map .str))) (e : decide (s ∈ zs) = b) : EvT G (tTest (tOp (rIn G.K false) ta tc)) ρ (· = b) := et_is (et_test (ev_op ha hc (rv_inS (.inr rfl)))) e
theorem et_inL {s : Str} {zs : List Str} (ha : Ev G ta ρ (· = .str s)) (hc : Ev G tc ρ (· = .list (zs.map .str))) (e : decide (s ∈ zs) = b) : EvT G (tTest (tOp (rIn G.K false) ta tc)) ρ (· = b) := et_is (et_test (ev_op ha hc (rv_inS (.inl rfl)))) e
end
/-! ### equality of tables -/
theorem eqv_ints : ∀ a b : List Int, PyData.eqvAll (a.map .int) (b.map .int) = decide (a = b)
  | [], [] => by simp [PyData.eqvAll]
  | [], _ :: _ => by simp [PyData.eqvAll]
  | _ :: _, [] => by simp [PyData.eqvAll]
  | i :: a, j :: b => by
    rw [List.map_cons, List.map_cons, PyData.eqvAll, eqv_ints a b]
    show (i == j && _) = _
    rw [Bool.beq_eq_decide_eq]
    by_cases h : i = j <;> simp [h]
theorem eqv_rows : ∀ a b : Mat, PyData.eqvAll (a.map rowD) (b.map rowD) = decide (a = b)
  | [], [] => by simp [PyData.eqvAll]
  | [], _ :: _ => by simp [PyData.eqvAll]
  | _ :: _, [] => by simp [PyData.eqvAll]
  | i :: a, j :: b => by
    rw [List.map_cons, List.map_cons, PyData.eqvAll, eqv_rows a b]
    show (PyData.eqvAll (i.map .int) (j.map .int) && _) = _
    rw [eqv_ints]
    by_cases h : i = j <;> simp [h]
theorem eqv_tab (a b : Mat) : PyData.eqv (tabD a) (tabD b) = decide (a = b) := by
  show PyData.eqvAll (a.map rowD) (b.map rowD) = _
  exact eqv_rows a b
theorem lay_ints : ∀ a : List Int, PyData.canLayAll0 (a.map .int) = true ∧ PyData.depthAll (a.map .int) = 0
  | [] => ⟨rfl, rfl⟩
  | i :: a => by
    obtain ⟨h1, h2⟩ := lay_ints a
    rw [List.map_cons]
    exact ⟨by rw [PyData.canLayAll0, h1]; rfl, by rw [PyData.depthAll, h2]; rfl⟩
theorem lay_rows : ∀ a : Mat, PyData.canLayAll0 (a.map rowD) = true ∧ PyData.depthAll (a.map rowD) ≤ 1
  | [] => ⟨rfl, Nat.zero_le _⟩
  | i :: a => by
    obtain ⟨h1, h2⟩ := lay_rows a
    obtain ⟨h3, h4⟩ := lay_ints i
    rw [List.map_cons]
    refine ⟨?_, ?_⟩
    · rw [PyData.canLayAll0, h1]
      show (PyData.canLayAll0 (i.map .int) && true) = true
      rw [h3]
      rfl
    · rw [PyData.depthAll]
      have e : PyData.depth (rowD i) = 1 := by
        show PyData.depthAll (i.map .int) + 1 = 1
        rw [h4]
      rw [e]
      omega
theorem shaped_tab (a : Mat) : SeqAt.shaped (tabD a) = true := by
  obtain ⟨h1, h2⟩ := lay_rows a
  unfold SeqAt.shaped
  have e1 : PyData.canLay0 (tabD a) = true := h1
  have e2 : PyData.depth (tabD a) = PyData.depthAll (a.map rowD) + 1 := rfl
  rw [e1, e2]
  simp
  omega
theorem shaped_ints (a : List Int) : SeqAt.shaped (.list (a.map .int)) = true := by
  obtain ⟨h1, h2⟩ := lay_ints a
  unfold SeqAt.shaped
  have e1 : PyData.canLay0 (.list (a.map .int)) = true := h1
  have e2 : PyData.depth (.list (a.map .int)) = PyData.depthAll (a.map .int) + 1 := rfl
  rw [e1, e2, h2]
  rfl
/-! ### pieces -/
inductive Pc where
  | ring (m : Nat)
  | power (p k : Nat)
  | knot (p : Nat)
  | turn (p : Nat) (t : Mat) (q : Nat)
  | act (m d u : Nat)
def Pc.fs : Pc → List PyData
  | .ring m => [.str "ring", .int m]
  | .power p k => [.str "power", .int p, .int k]
  | .knot p => [.str "knot", .int p]
  | .turn p t q => [.str "turn", .int p, tabD t, .int q]
  | .act m d u => [.str "act", .int m, .int d, .int u]
def Pc.enc (x : Pc) : PyData := .tuple x.fs
/-- a table of one to six rows of numbers below p -/
def TabOk (p : Int) (t : Mat) : Prop := MatOk p t.length t ∧ 1 ≤ t.length ∧ t.length ≤ 6
def prm (n : Nat) : Bool := isPrm (.int n)
theorem prm_lt {n : Nat} (h : prm n = true) : 1 < n ∧ n < 10000 := by
  obtain ⟨h1, h2⟩ := Bool.and_eq_true_iff.mp h
  have h3 := of_decide_eq_true (Bool.and_eq_true_iff.mp h1).2
  have h4 := of_decide_eq_true (Bool.and_eq_true_iff.mp h2).1
  have h3' : (n : Int) < 10000 := h3
  have h4' : (1 : Int) < n := h4
  omega
def turnOk (p : Nat) (t : Mat) (q : Nat) : Bool := !decide (p = q) && (!decide (t = unitM t.length) && decide (powL p t.length q (unitM t.length) t = unitM t.length))
def actOk (m d u : Nat) : Bool := decide (Nat.gcd m d ≤ 1) && decide (u ^ d % m = 1 % m)
/-- a piece as a rule may have it -/
def PcOk : Pc → Prop
  | .ring m => 1 ≤ m ∧ m < 10 ^ 60
  | .power p k => prm p = true ∧ 1 ≤ k ∧ k ≤ 6
  | .knot p => prm p = true
  | .turn p t q => prm p = true ∧ TabOk p t ∧ prm q = true ∧ turnOk p t q = true
  | .act m d u => 1 ≤ m ∧ m < 10 ^ 60 ∧ 1 ≤ d ∧ d < 10 ^ 60 ∧ u < m ∧ actOk m d u = true
/-! ### their texts -/
def tabW (t : Mat) : Str := Txt.join "/" (t.map fun r => Txt.join "," (r.map strI))
def Pc.ws : Pc → List Str
  | .ring m => ["ring", strI m]
  | .power p k => ["power", strI p, strI k]
  | .knot p => ["knot", strI p]
  | .turn p t q => ["turn", strI p, tabW t, strI q]
  | .act m d u => ["act", strI m, strI d, strI u]
def Pc.txt (x : Pc) : Str := Txt.join " " x.ws
def ruleW (r : List Pc) : Str := Txt.join " | " (r.map Pc.txt)
section
variable {P : Program} {w : World} {K : PySem.W.Frag} {mg : Str → Option Value} {base : Heap} {f : Addr} {fd : FuncData} {CT : Addr} {sz : Addr}
theorem sc_is_piece_shape : FnScope ["thing"] ["thing"] (defScope s_is_piece_shape) := ⟨rfl, rfl, rfl, by decide +kernel, rfl, by decide +kernel, by decide +kernel⟩
abbrev sp_is_piece_shape (K : PySem.W.Frag) (CT : Addr) : Sp := spX K CT (fun x : Pc => [x.enc]) (fun _ => True) (fun _ d => d = .bool true) nof
theorem ok_is_piece_shape (T : Tx K mg) (F : FnP K "is_piece_shape" s_is_piece_shape f fd)  (hS : Sz K w mg sz) : FnOk P w K mg base (L2.CX P w) 1 f fd ["thing"] (sp_is_piece_shape K CT) := by
  refine fn_x F sc_is_piece_shape (fun _ => rfl) fun cdv A outer s H E x hr hp => ?_
  have nd := sc_is_piece_shape.nd
  refine ⟨_, (pss_cons (ps_if (PW.pt (pw_or (pt_not (pt_val (pe_callB (id := "isinstance") (c_isiK (K := K)) (by rfl) T.b_isinstance (by decide +kernel) (pa_cons (pv 0) (pa_cons (pe_ty (n := "tuple") T.b_tuple) pa_nil))))) (pw_or (pt_cmpR op_eq (pe_callB (id := "len") (c_lenK (K := K)) (by rfl) T.b_len PySem.boot_len (pa_cons (pv 0) pa_nil)) pe_int (nomark _)) (pw_or1 (pt_not (pt_val (pe_callB (id := "isinstance") (c_isiK (K := K)) (by rfl) T.b_isinstance (by decide +kernel) (pa_cons (pe_ix (ix_tupK (K := K)) (pv 0) pe_int (fun _ _ => rfl)) (pa_cons (pe_ty (n := "str") T.b_str) pa_nil))))))))) (pss_one (ps_ret pe_bl)) pss_nil) (pss_one (ps_ret (pe_cmpR op_eq (pe_kget2 hS (pe_ix (ix_tupK (K := K)) (pv 0) pe_int (fun _ _ => rfl)) pe_int ⟨rfl, rfl, rfl, rfl⟩) (pe_callB (id := "len") (c_lenK (K := K)) (by rfl) T.b_len PySem.boot_len (pa_cons (pv 0) pa_nil)) (nomark _))))), ?_⟩
  cases x
  all_goals
    refine sv_whenF (et_orF (et_is (et_not (et_test (ev_isi (ev_var rfl) (kit_x (isi_T _))))) rfl) (et_orF (et_eqI (ev_cb (ea_cons (ev_var rfl) ea_nil) rc_lenT) ev_int rfl) (et_is (et_not (et_test (ev_isi (ev_op (ev_var rfl) ev_int (rv_ixT rfl)) isi_str))) rfl))) ?_
    first
      | exact sv_retX (Ev.is (ev_op (ev_szGet (n := 2) hS (ev_op (ev_var rfl) ev_int (rv_ixT rfl)) ev_int (by decide)) (ev_cb (ea_cons (ev_var rfl) ea_nil) rc_lenT) rv_eqI) rfl)
      | exact sv_retX (Ev.is (ev_op (ev_szGet (n := 3) hS (ev_op (ev_var rfl) ev_int (rv_ixT rfl)) ev_int (by decide)) (ev_cb (ea_cons (ev_var rfl) ea_nil) rc_lenT) rv_eqI) rfl)
      | exact sv_retX (Ev.is (ev_op (ev_szGet (n := 4) hS (ev_op (ev_var rfl) ev_int (rv_ixT rfl)) ev_int (by decide)) (ev_cb (ea_cons (ev_var rfl) ea_nil) rc_lenT) rv_eqI) rfl)
theorem sc_number_fault : FnScope ["piece", "kind", "first"] ["piece"] (defScope s_number_fault) := ⟨rfl, rfl, rfl, by decide +kernel, rfl, by decide +kernel, by decide +kernel⟩
abbrev sp_number_fault (K : PySem.W.Frag) (CT : Addr) : Sp := spX K CT (fun x : Pc => [x.enc]) (fun x => PcOk x) (fun _ d => d = .none) nof
theorem ev_kind {G : Gd} {ρ : List Sl} {z : Str} {r : List PyData} {i : Nat} (h : ρ[i]? = some (.d (.tuple (.str z :: r)))) : Ev G (tOp (rIxT G.K) (tVar i) (tC (.int 0))) ρ (· = .str z) := ev_op (ev_var h) ev_int (rv_ixT (atI_nat (j := 0) rfl))
theorem ev_fld {G : Gd} {ρ : List Sl} {r : List PyData} {d : PyData} {i : Nat} {j : Nat} (h : ρ[i]? = some (.d (.tuple r))) (hj : r[j]? = some d) : Ev G (tOp (rIxT G.K) (tVar i) (tC (.int j))) ρ (· = d) := ev_op (ev_var h) ev_int (rv_ixT (atI_nat hj))
theorem ok_number_fault (T : Tx K mg) (F : FnP K "number_fault" s_number_fault f fd) (k_is_prime : Kn P w K mg base 4 "is_prime" ["thing"] (sp_is_prime K CT) []) (k_is_above_nought : Kn P w K mg base 2 "is_above_nought" ["thing"] (sp_is_above_nought K CT) []) (k_is_power : Kn P w K mg base 3 "is_power" ["thing"] (sp_is_power K CT) []) (k_is_index : Kn P w K mg base 3 "is_index" ["many", "thing"] (sp_is_index K CT) []) : FnOk P w K mg base (L2.CX P w) 5 f fd ["piece"] (sp_number_fault K CT) := by
  refine fn_x F sc_number_fault (fun _ => rfl) fun cdv A outer s H E x hr hp => ?_
  have nd := sc_number_fault.nd
  refine ⟨_, (pss_cons (ps_set (i := 1) nd rfl (Or.inl rfl) (pe_ix (ix_tupK (K := K)) (pv 0) pe_int (fun _ _ => rfl))) (pss_cons (ps_if (pt_cmpR (in_seqK (K := K)) (pv 1) (pe_tup (pa_cons (pe_gstr T.c_POWER) (pa_cons (pe_gstr T.c_KNOT) (pa_cons (pe_gstr T.c_TURN) pa_nil)))) rfl) (pss_one (ps_set (i := 2) nd rfl (Or.inl rfl) (pe_kn k_is_prime hr (pa_cons (pe_ix (ix_tupK (K := K)) (pv 0) pe_int (fun _ _ => rfl)) pa_nil)))) (pss_one (ps_set (i := 2) nd rfl (Or.inl rfl) (pe_kn k_is_above_nought hr (pa_cons (pe_ix (ix_tupK (K := K)) (pv 0) pe_int (fun _ _ => rfl)) pa_nil))))) (pss_cons (ps_if (pt_not (pt_val (pv 2))) (pss_one (ps_ret pe_int)) pss_nil) (pss_cons (ps_if (PW.pt (pw_or (PW.pt (pw_and (pt_cmpR op_eq (pv 1) (pe_gstr T.c_POWER) (nomark _)) (pw_and1 (pt_not (pt_val (pe_kn k_is_power hr (pa_cons (pe_ix (ix_tupK (K := K)) (pv 0) pe_int (fun _ _ => rfl)) pa_nil))))))) (pw_or1 (PW.pt (pw_and (pt_cmpR op_eq (pv 1) (pe_gstr T.c_ACT) (nomark _)) (pw_and1 (pt_not (pt_val (pe_kn k_is_above_nought hr (pa_cons (pe_ix (ix_tupK (K := K)) (pv 0) pe_int (fun _ _ => rfl)) pa_nil)))))))))) (pss_one (ps_ret pe_int)) pss_nil) (pss_cons (ps_if (PW.pt (pw_or (PW.pt (pw_and (pt_cmpR op_eq (pv 1) (pe_gstr T.c_TURN) (nomark _)) (pw_and1 (pt_not (pt_val (pe_kn k_is_prime hr (pa_cons (pe_ix (ix_tupK (K := K)) (pv 0) pe_int (fun _ _ => rfl)) pa_nil))))))) (pw_or1 (PW.pt (pw_and (pt_cmpR op_eq (pv 1) (pe_gstr T.c_ACT) (nomark _)) (pw_and1 (pt_not (pt_val (pe_kn k_is_index hr (pa_cons (pe_ix (ix_tupK (K := K)) (pv 0) pe_int (fun _ _ => rfl)) (pa_cons (pe_ix (ix_tupK (K := K)) (pv 0) pe_int (fun _ _ => rfl)) pa_nil))))))))))) (pss_one (ps_ret pe_int)) pss_nil) (pss_one (ps_ret pe_non))))))), ?_⟩
  have knds : ∀ {G : Gd} {ρ : List Sl}, Ev G (tTup (tCons (tC (.str "power")) (tCons (tC (.str "knot")) (tCons (tC (.str "turn")) tNil)))) ρ (· = .tuple ([("power" : Str), "knot", "turn"].map .str)) := ev_tup (ea_cons ev_str (ea_cons ev_str (ea_cons ev_str ea_nil)))
  cases x with
  | ring m =>
    refine sv_setX (ev_kind rfl) (sv_seq (M := fun ρ' => ρ' = [.d (Pc.ring m).enc, .d (.str "ring"), .d (.bool true)]) (sv_ifF (et_inS (ev_var rfl) knds (by decide)) (sv_set1 (ev_call0 (.int m) (ea_cons (ev_fld (j := 1) rfl rfl) ea_nil) trivial) fun x ex => ?_)) fun ρ' e => ?_)
    · have h : isPos (.int m) = true := by
        have := hp.1
        simp [isPos, isI, valI]
        omega
      rw [ex, h]
      rfl
    · subst e
      exact sv_whenF (et_is (et_not (et_test (ev_var rfl))) rfl) (sv_whenF (et_orF (et_andF (et_eqS (ev_var rfl) ev_str (by decide))) (et_andF (et_eqS (ev_var rfl) ev_str (by decide)))) (sv_whenF (et_orF (et_andF (et_eqS (ev_var rfl) ev_str (by decide))) (et_andF (et_eqS (ev_var rfl) ev_str (by decide)))) (sv_retX ev_non)))
  | knot p =>
    refine sv_setX (ev_kind rfl) (sv_seq (M := fun ρ' => ρ' = [.d (Pc.knot p).enc, .d (.str "knot"), .d (.bool true)]) (sv_ifT (et_inS (ev_var rfl) knds (by decide)) (sv_set1 (ev_call0 (.int p) (ea_cons (ev_fld (j := 1) rfl rfl) ea_nil) trivial) fun x ex => ?_)) fun ρ' e => ?_)
    · have h : isPrm (.int p) = true := hp
      rw [ex, h]
      rfl
    · subst e
      exact sv_whenF (et_is (et_not (et_test (ev_var rfl))) rfl) (sv_whenF (et_orF (et_andF (et_eqS (ev_var rfl) ev_str (by decide))) (et_andF (et_eqS (ev_var rfl) ev_str (by decide)))) (sv_whenF (et_orF (et_andF (et_eqS (ev_var rfl) ev_str (by decide))) (et_andF (et_eqS (ev_var rfl) ev_str (by decide)))) (sv_retX ev_non)))
  | power p k =>
    refine sv_setX (ev_kind rfl) (sv_seq (M := fun ρ' => ρ' = [.d (Pc.power p k).enc, .d (.str "power"), .d (.bool true)]) (sv_ifT (et_inS (ev_var rfl) knds (by decide)) (sv_set1 (ev_call0 (.int p) (ea_cons (ev_fld (j := 1) rfl rfl) ea_nil) trivial) fun x ex => ?_)) fun ρ' e => ?_)
    · have h : isPrm (.int p) = true := hp.1
      rw [ex, h]
      rfl
    · subst e
      have h : isPow (.int k) = true := by
        obtain ⟨_, h1, h2⟩ := hp
        show ((true && decide ((0 : Int) < (k : Int))) && decide ((k : Int) ≤ 6)) = true
        rw [decide_eq_true (show (0 : Int) < (k : Int) by omega), decide_eq_true (show (k : Int) ≤ 6 by omega)]
        rfl
      exact sv_whenF (et_is (et_not (et_test (ev_var rfl))) rfl) (sv_whenF (et_orF (et_andT (et_eqS (ev_var rfl) ev_str (by decide)) (et_is (et_not (et_test (ev_call0 (.int k) (ea_cons (ev_fld (j := 2) rfl rfl) ea_nil) trivial))) (by rw [h]; rfl))) (et_andF (et_eqS (ev_var rfl) ev_str (by decide))))
        (sv_whenF (et_orF (et_andF (et_eqS (ev_var rfl) ev_str (by decide))) (et_andF (et_eqS (ev_var rfl) ev_str (by decide)))) (sv_retX ev_non)))
  | turn p t q =>
    refine sv_setX (ev_kind rfl) (sv_seq (M := fun ρ' => ρ' = [.d (Pc.turn p t q).enc, .d (.str "turn"), .d (.bool true)]) (sv_ifT (et_inS (ev_var rfl) knds (by decide)) (sv_set1 (ev_call0 (.int p) (ea_cons (ev_fld (j := 1) rfl rfl) ea_nil) trivial) fun x ex => ?_)) fun ρ' e => ?_)
    · have h : isPrm (.int p) = true := hp.1
      rw [ex, h]
      rfl
    · subst e
      have h : isPrm (.int q) = true := hp.2.2.1
      exact sv_whenF (et_is (et_not (et_test (ev_var rfl))) rfl) (sv_whenF (et_orF (et_andF (et_eqS (ev_var rfl) ev_str (by decide))) (et_andF (et_eqS (ev_var rfl) ev_str (by decide))))
        (sv_whenF (et_orF (et_andT (et_eqS (ev_var rfl) ev_str (by decide)) (et_is (et_not (et_test (ev_call0 (.int q) (ea_cons (ev_fld (j := 3) rfl rfl) ea_nil) trivial))) (by rw [h]; rfl))) (et_andF (et_eqS (ev_var rfl) ev_str (by decide)))) (sv_retX ev_non)))
  | act m d u =>
    obtain ⟨h1, h2, h3, h4, h5, h6⟩ := hp
    refine sv_setX (ev_kind rfl) (sv_seq (M := fun ρ' => ρ' = [.d (Pc.act m d u).enc, .d (.str "act"), .d (.bool true)]) (sv_ifF (et_inS (ev_var rfl) knds (by decide)) (sv_set1 (ev_call0 (.int m) (ea_cons (ev_fld (j := 1) rfl rfl) ea_nil) trivial) fun x ex => ?_)) fun ρ' e => ?_)
    · have h : isPos (.int m) = true := by
        simp [isPos, isI, valI]
        omega
      rw [ex, h]
      rfl
    · subst e
      have h : isPos (.int d) = true := by
        simp [isPos, isI, valI]
        omega
      have h' : isIdx m (.int u) = true := by
        simp [isIdx, isNum, isI, valI]
        omega
      exact sv_whenF (et_is (et_not (et_test (ev_var rfl))) rfl) (sv_whenF (et_orF (et_andF (et_eqS (ev_var rfl) ev_str (by decide))) (et_andT (et_eqS (ev_var rfl) ev_str (by decide)) (et_is (et_not (et_test (ev_call0 (.int d) (ea_cons (ev_fld (j := 2) rfl rfl) ea_nil) trivial))) (by rw [h]; rfl))))
        (sv_whenF (et_orF (et_andF (et_eqS (ev_var rfl) ev_str (by decide))) (et_andT (et_eqS (ev_var rfl) ev_str (by decide)) (et_is (et_not (et_test (ev_call0 ((m : Int), .int u) (ea_cons (ev_fld (j := 1) rfl rfl) (ea_cons (ev_fld (j := 3) rfl rfl) ea_nil)) trivial))) (by rw [h']; rfl)))) (sv_retX ev_non)))
/-! ### tables, turns, acts -/
def isTab (p : Int) (rows : List (List PyData)) : Bool := isPow (.int rows.length) && ((rows.map fun r => tupOf (.tuple r) rows.length).all id && (rows.flatMap fun r => r.map fun x => isIdx p x).all id)
theorem rc_all' {K : PySem.W.Frag} {bs : List Bool} {b : Bool} (h : bs.all id = b) : Rc K (rAll K) [.list (bs.map .bool)] (· = .bool b) := h ▸ rc_all
theorem sc_is_table : FnScope ["prime", "thing", "one", "number"] ["prime", "thing"] (defScope s_is_table) := ⟨rfl, rfl, rfl, by decide +kernel, rfl, by decide +kernel, by decide +kernel⟩
abbrev sp_is_table (K : PySem.W.Frag) (CT : Addr) : Sp := spX K CT (fun q : Int × List (List PyData) => [.int q.1, .tuple (q.2.map .tuple)]) (fun q => q.2.length ≤ 100000 ∧ ∀ r ∈ q.2, r.length ≤ 100000) (fun q d => d = .bool (isTab q.1 q.2)) nof
theorem inj_tup (a b : List PyData) (h : PyData.tuple a = PyData.tuple b) : a = b := by cases h; rfl
theorem ok_is_table (T : Tx K mg) (F : FnP K "is_table" s_is_table f fd) (k_is_power : Kn P w K mg base 3 "is_power" ["thing"] (sp_is_power K CT) []) (k_is_index : Kn P w K mg base 3 "is_index" ["many", "thing"] (sp_is_index K CT) []) (k_is_tuple_of : Kn P w K mg base 1 "is_tuple_of" ["thing", "size"] (sp_is_tuple_of K CT) []) : FnOk P w K mg base (L2.CX P w) 4 f fd ["prime", "thing"] (sp_is_table K CT) := by
  refine fn_x F sc_is_table (fun _ => rfl) fun cdv A outer s H E q hr hp => ?_
  obtain ⟨p, rows⟩ := q
  obtain ⟨hl, hl1⟩ := hp
  simp only at hl hl1
  have nd := sc_is_table.nd
  refine ⟨_, (pss_cons (ps_if (PW.pt (pw_or (pt_not (pt_val (pe_callB (id := "isinstance") (c_isiK (K := K)) (by rfl) T.b_isinstance (by decide +kernel) (pa_cons (pv 1) (pa_cons (pe_ty (n := "tuple") T.b_tuple) pa_nil))))) (pw_or1 (pt_not (pt_val (pe_kn k_is_power hr (pa_cons (pe_callB (id := "len") (c_lenK (K := K)) (by rfl) T.b_len PySem.boot_len (pa_cons (pv 1) pa_nil)) pa_nil))))))) (pss_one (ps_ret pe_bl)) pss_nil) (pss_cons (ps_if (pt_not (pt_val (pe_callB (id := "all") (c_allK (K := K) rfl) (by rfl) T.b_all (by decide +kernel) (pa_cons (pe_lc rfl nd (pi_tupK (K := K) (pv 1)) (blkOk_by (own := [("one", 2)]) (by kernel_rfl)) (fun _ _ _ _ _ => (pg_name (i := 2) nd rfl (Or.inl rfl))) (fun _ _ _ _ _ => pts_nil) (fun _ _ _ _ _ => (pe_kn k_is_tuple_of hr (pa_cons (pv 2) (pa_cons (pe_callB (id := "len") (c_lenK (K := K)) (by rfl) T.b_len PySem.boot_len (pa_cons (pv 1) pa_nil)) pa_nil))))) pa_nil)))) (pss_one (ps_ret pe_bl)) pss_nil) (pss_one (ps_ret (pe_callB (id := "all") (c_allK (K := K) rfl) (by rfl) T.b_all (by decide +kernel) (pa_cons (pe_lc2 rfl nd (pi_tupK (K := K) (pv 1)) (blkOk_by (own := [("one", 2), ("number", 3)]) (by kernel_rfl)) (vs1 := [3]) (by decide) (fun _ _ _ _ _ => (pg_name (i := 2) nd rfl (Or.inl rfl))) (fun _ _ _ _ _ => pts_nil) (fun _ _ _ _ _ => (pi_tupK (K := K) (pv 2))) (fun _ _ _ _ _ => (pg_name (i := 3) nd rfl (Or.inl rfl))) (fun _ _ _ _ _ => pts_nil) (fun _ _ _ _ _ => (pe_kn k_is_index hr (pa_cons (pv 0) (pa_cons (pv 3) pa_nil))))) pa_nil)))))), ?_⟩
  show Sv _ _ _ _ (fun d => d = .bool (isTab p rows))
  have len : ∀ {G : Gd} {ρ : List Sl}, ρ[1]? = some (.d (.tuple (rows.map .tuple))) → Ev G (tCB (rLenQ G.K) (tCons (tVar 1) tNil)) ρ (· = .int rows.length) := fun h => (ev_cb (ea_cons (ev_var h) ea_nil) rc_lenT).is (by rw [List.length_map])
  unfold isTab
  refine sv_when (et_orF (et_is (et_not (et_test (ev_isi (ev_var rfl) (kit_x (isi_T _))))) rfl) ( et_not (et_test (ev_call0 (PyData.int rows.length) (ea_cons (len rfl) ea_nil) trivial)))) (fun e => ?_) fun e => ?_
  · have e' : isPow (.int rows.length) = false := by simpa using e
    rw [e']
    exact sv_retX ev_bl
  · have e' : isPow (.int rows.length) = true := by simpa using e
    rw [e', Bool.true_and]
    refine sv_when (et_not (et_test (ev_cb (ea_cons (ev_mapM inj_tup (fun r => tupOf (.tuple r) rows.length) PyData.bool (ei_tup (ev_var rfl)) (by decide) (by show rows.length ≤ _; omega) fun r hr => ev_call0 (PyData.tuple r, (rows.length : Int)) (ea_cons (ev_var rfl) (ea_cons (len rfl) ea_nil)) trivial) ea_nil) rc_all))) (fun e2 => ?_) fun e2 => ?_
    · have e3 : (rows.map fun r => tupOf (.tuple r) rows.length).all id = false := by simpa using e2
      rw [e3]
      exact sv_retX ev_bl
    · have e3 : (rows.map fun r => tupOf (.tuple r) rows.length).all id = true := by
        rw [Bool.not_eq_false'] at e2
        exact e2
      rw [e3, Bool.true_and]
      have n6 : rows.length ≤ 6 := by
        have h1 := of_decide_eq_true (Bool.and_eq_true_iff.mp e').2
        have h2 : (rows.length : Int) ≤ 6 := h1
        omega
      have r6 : ∀ r ∈ rows, r.length ≤ 6 := fun r hr => by
        have h1 := List.all_eq_true.mp e3 _ (List.mem_map.mpr ⟨r, hr, rfl⟩)
        have h2 : (true && decide ((r.length : Int) = rows.length)) = true := h1
        have h3 : (r.length : Int) = rows.length := by simpa using h2
        omega
      refine sv_retX (ev_cb (ea_cons ((ev_lc2 (fun x => match x with | .tuple r => r | _ => []) (fun _ y => .bool (isIdx p y)) (ei_tup (ev_var rfl)) (by decide) (by decide) (by rw [List.length_map]; show rows.length ≤ _; omega) (fun x hx => ?_) (fun x hx => ?_) (fun x hx y hy => ?_)).is ?_) ea_nil) rc_all)
      · obtain ⟨r, hr, rfl⟩ := List.mem_map.mp hx
        have := r6 r hr
        show r.length ≤ 1000
        omega
      · obtain ⟨r, hr, rfl⟩ := List.mem_map.mp hx
        exact ei_tup (ev_var rfl)
      · exact ev_call0 (p, y) (ea_cons (ev_var rfl) (ea_cons (ev_var rfl) ea_nil)) trivial
      · congr 1
        rw [List.map_flatMap, List.flatMap_map]
        simp [List.map_map, Function.comp_def]
/-- a table's rows as data -/
def matR (t : Mat) : List (List PyData) := t.map fun r => r.map PyData.int
theorem matR_tab (t : Mat) : PyData.tuple ((matR t).map .tuple) = tabD t := by
  unfold matR
  rw [List.map_map]
  rfl
theorem isTab_mat {p : Int} {t : Mat} (h : TabOk p t) : isTab p (matR t) = true := by
  obtain ⟨h1, h2, h3⟩ := h
  have el : (matR t).length = t.length := by simp [matR]
  unfold isTab
  rw [el]
  have a1 : isPow (.int t.length) = true := by
    show ((true && decide ((0 : Int) < (t.length : Int))) && decide ((t.length : Int) ≤ 6)) = true
    rw [decide_eq_true (show (0 : Int) < (t.length : Int) by omega), decide_eq_true (show (t.length : Int) ≤ 6 by omega)]
    rfl
  have a2 : ((matR t).map fun r => tupOf (.tuple r) t.length).all id = true := by
    rw [List.all_eq_true]
    intro b hb
    obtain ⟨r, hr, rfl⟩ := List.mem_map.mp hb
    obtain ⟨q, hq, rfl⟩ := List.mem_map.mp hr
    show (true && decide (((q.map PyData.int).length : Int) = t.length)) = true
    rw [List.length_map, h1.row q hq]
    simp
  have a3 : ((matR t).flatMap fun r => r.map fun x => isIdx p x).all id = true := by
    rw [List.all_eq_true]
    intro b hb
    obtain ⟨r, hr, hb⟩ := List.mem_flatMap.mp hb
    obtain ⟨q, hq, rfl⟩ := List.mem_map.mp hr
    obtain ⟨x, hx, rfl⟩ := List.mem_map.mp hb
    obtain ⟨i, hi, rfl⟩ := List.mem_map.mp hx
    have := h1.num q hq i hi
    show ((true && decide (0 ≤ i)) && decide (i < p)) = true
    rw [decide_eq_true this.1, decide_eq_true this.2]
    rfl
  rw [a1, a2, a3]
  rfl
theorem sc_turn_fault : FnScope ["piece", "unit", "kind", "prime", "rows", "other"] ["piece"] (defScope s_turn_fault) := ⟨rfl, rfl, rfl, by decide +kernel, rfl, by decide +kernel, by decide +kernel⟩
abbrev sp_turn_fault (K : PySem.W.Frag) (CT : Addr) : Sp := spX K CT (fun q : Nat × Mat × Nat => [(Pc.turn q.1 q.2.1 q.2.2).enc]) (fun q => 1 < q.1 ∧ q.1 < 10000 ∧ TabOk q.1 q.2.1) (fun q d => isNone d = turnOk q.1 q.2.1 q.2.2) nof
theorem ok_turn_fault (T : Tx K mg) (F : FnP K "turn_fault" s_turn_fault f fd) (k_table_one : Kn P w K mg base 1 "table_one" ["size"] (sp_table_one K CT) []) (k_is_table : Kn P w K mg base 4 "is_table" ["prime", "thing"] (sp_is_table K CT) []) (k_table_power : Kn P w K mg base 2 "table_power" ["prime", "rows", "exponent"] (sp_table_power K CT) []) : FnOk P w K mg base (L2.CX P w) 5 f fd ["piece"] (sp_turn_fault K CT) := by
  refine fn_x F sc_turn_fault (fun _ => rfl) fun cdv A outer s H E q hr hp => ?_
  obtain ⟨p, t, q⟩ := q
  obtain ⟨hp1, hp2, ht⟩ := hp
  simp only at hp1 hp2 ht
  have nd := sc_turn_fault.nd
  refine ⟨_, (pss_cons (ps_asg (pv 0) (pg_tup (by rfl) (pgs_cons (pg_name (i := 2) nd rfl (Or.inl rfl)) (pgs_cons (pg_name (i := 3) nd rfl (Or.inl rfl)) (pgs_cons (pg_name (i := 4) nd rfl (Or.inl rfl)) (pgs_cons (pg_name (i := 5) nd rfl (Or.inl rfl)) pgs_nil)))))) (pss_cons (ps_if (pt_not (pt_val (pe_kn k_is_table hr (pa_cons (pv 3) (pa_cons (pv 4) pa_nil))))) (pss_one (ps_ret pe_str)) pss_nil) (pss_cons (ps_if (pt_cmpR op_eq (pv 3) (pv 5) (nomark _)) (pss_one (ps_ret pe_str)) pss_nil) (pss_cons (ps_set (i := 1) nd rfl (Or.inl rfl) (pe_kn k_table_one hr (pa_cons (pe_callB (id := "len") (c_lenK (K := K)) (by rfl) T.b_len PySem.boot_len (pa_cons (pv 4) pa_nil)) pa_nil))) (pss_one (ps_ret (pe_ifExp (PW.pt (pw_or (pt_cmpR (eqDK (K := K) hr.units) (pv 4) (pv 1) (nomark _)) (pw_or1 (pt_cmpR (neDK (K := K) hr.units) (pe_kn k_table_power hr (pa_cons (pv 3) (pa_cons (pv 4) (pa_cons (pv 5) pa_nil)))) (pv 1) (nomark _))))) pe_str pe_non))))))), ?_⟩
  have ht2 := ht.2
  refine sv_unp (ev_var rfl) (gv_tup (gvs_cons gv_name (gvs_cons gv_name (gvs_cons gv_name (gvs_cons gv_name gvs_nil)))) rfl) ?_
  refine sv_whenF (et_is (et_not (et_test (ev_call0 ((p : Int), matR t) (ea_cons (ev_var rfl) (ea_cons ((ev_var (x := tabD t) rfl).is (matR_tab t).symm) ea_nil)) ?_))) (by rw [isTab_mat ht]; rfl)) ?_
  · constructor
    · simp [matR]; omega
    · intro r hr
      obtain ⟨q, hq, rfl⟩ := List.mem_map.mp hr
      rw [List.length_map, ht.1.row q hq]
      omega
  refine sv_when (et_test (ev_op (ev_var rfl) (ev_var rfl) rv_eqI)) (fun e => ?_) fun e => ?_
  · have e' : p = q := by
      have z : (p : Int) = q := by simpa using e
      omega
    refine sv_ret ev_str fun d ed => ?_
    rw [ed]
    show false = turnOk p t q
    unfold turnOk
    rw [decide_eq_true e']
    rfl
  · have e' : ¬ p = q := by
      have z : ¬ (p : Int) = q := by simpa using e
      omega
    refine sv_setX (ev_call0 (G := ⟨K, CT, E, nof (p, t, q)⟩) t.length ((ea_cons (ev_cb (ea_cons (ev_var rfl) ea_nil) rc_lenT) ea_nil).imp fun d q => by rw [q, List.length_map]) (by show t.length ≤ 1000; omega)) ?_
    have pw : TabOk p t := ht
    refine sv_retX (ev_if (Pb := (· = !(!decide (t = unitM t.length) && decide (powL p t.length q (unitM t.length) t = unitM t.length)))) (et_is (et_or (et_test (ev_op (ev_var rfl) (ev_var rfl) (rv_eqD (shaped_tab _) (shaped_tab _)))) fun _ => et_test (ev_op (ev_call0 ((p : Int), t.length, t, q) (ea_cons (ev_var rfl) (ea_cons (ev_var rfl) (ea_cons (ev_var rfl) ea_nil))) ⟨by show (1 : Int) < (p : Int); omega, by show (p : Int) ≤ 10000; omega, by show t.length ≤ 1000; omega, ht.1⟩) (ev_var rfl) (rv_neD (shaped_tab _) (shaped_tab _)))) ?_) (fun e2 => ?_) fun e2 => ?_)
    · rw [eqv_tab, eqv_tab]
      cases decide (t = unitM t.length) <;> simp
    · refine ev_str.imp fun d ed => ?_
      rw [ed]
      show false = turnOk p t q
      unfold turnOk
      rw [decide_eq_false e']
      have e3 : (!decide (t = unitM t.length) && decide (powL p t.length q (unitM t.length) t = unitM t.length)) = false := by
        rw [eq_comm, Bool.not_eq_true'] at e2
        exact e2
      rw [e3]
      rfl
    · refine ev_non.imp fun d ed => ?_
      rw [ed]
      show true = turnOk p t q
      unfold turnOk
      rw [decide_eq_false e']
      have e3 : (!decide (t = unitM t.length) && decide (powL p t.length q (unitM t.length) t = unitM t.length)) = true := by
        rw [eq_comm, Bool.not_eq_false'] at e2
        exact e2
      rw [e3]
      rfl
theorem sc_act_fault : FnScope ["piece", "kind", "many", "times", "unit"] ["piece"] (defScope s_act_fault) := ⟨rfl, rfl, rfl, by decide +kernel, rfl, by decide +kernel, by decide +kernel⟩
abbrev sp_act_fault (K : PySem.W.Frag) (CT : Addr) : Sp := spX K CT (fun q : Nat × Nat × Nat => [(Pc.act q.1 q.2.1 q.2.2).enc]) (fun q => 1 ≤ q.1 ∧ q.1 < 2 ^ 400) (fun q d => isNone d = actOk q.1 q.2.1 q.2.2) nof
theorem ok_act_fault (T : Tx K mg) (F : FnP K "act_fault" s_act_fault f fd) (k_common_of : Kn P w K mg base 1 "common_of" ["one", "other"] (sp_common_of K CT) []) (k_power_at : Kn P w K mg base 1 "power_at" ["base", "exponent", "modulus"] (sp_power_at K CT) []) : FnOk P w K mg base (L2.CX P w) 2 f fd ["piece"] (sp_act_fault K CT) := by
  refine fn_x F sc_act_fault (fun _ => rfl) fun cdv A outer s H E q hr hp => ?_
  obtain ⟨m, n, u⟩ := q
  obtain ⟨hp1, hp2⟩ := hp
  simp only at hp1 hp2
  have nd := sc_act_fault.nd
  refine ⟨_, (pss_cons (ps_asg (pv 0) (pg_tup (by rfl) (pgs_cons (pg_name (i := 1) nd rfl (Or.inl rfl)) (pgs_cons (pg_name (i := 2) nd rfl (Or.inl rfl)) (pgs_cons (pg_name (i := 3) nd rfl (Or.inl rfl)) (pgs_cons (pg_name (i := 4) nd rfl (Or.inl rfl)) pgs_nil)))))) (pss_cons (ps_if (pt_cmpR op_gt (pe_kn k_common_of hr (pa_cons (pv 2) (pa_cons (pv 3) pa_nil))) pe_int (nomark _)) (pss_one (ps_ret pe_str)) pss_nil) (pss_one (ps_ret (pe_ifExp (pt_cmpR op_eq (pe_kn k_power_at hr (pa_cons (pv 4) (pa_cons (pv 3) (pa_cons (pv 2) pa_nil)))) (pe_op op_mod pe_int (pv 2)) (nomark _)) pe_non pe_str))))), ?_⟩
  refine sv_unp (ev_var rfl) (gv_tup (gvs_cons gv_name (gvs_cons gv_name (gvs_cons gv_name (gvs_cons gv_name gvs_nil)))) rfl) ?_
  refine sv_when (et_test (ev_op (ev_call0 (m, n) (ea_cons (ev_var rfl) (ea_cons (ev_var rfl) ea_nil)) trivial) ev_int rv_gt)) (fun e => ?_) fun e => ?_
  · have e' : ¬ Nat.gcd m n ≤ 1 := by
      have : (1 : Int) < (Nat.gcd m n : Int) := by simpa using e
      omega
    refine sv_ret ev_str fun d ed => ?_
    rw [ed]
    show false = actOk m n u
    unfold actOk
    rw [decide_eq_false e']
    rfl
  · have e' : Nat.gcd m n ≤ 1 := by
      have : ¬ (1 : Int) < (Nat.gcd m n : Int) := by simpa using e
      omega
    refine sv_retX (ev_if (et_test (ev_op (ev_call0 (u, n, m) (ea_cons (ev_var rfl) (ea_cons (ev_var rfl) (ea_cons (ev_var rfl) ea_nil))) ⟨by show 0 < m; omega, hp2⟩) (ev_op ev_int (ev_var rfl) (rv_mod (by omega))) rv_eqI)) (fun e2 => ?_) fun e2 => ?_)
    · have e3 : u ^ n % m = 1 % m := by
        have z : ((u ^ n % m : Nat) : Int) = 1 % (m : Int) := of_decide_eq_true e2.symm
        exact_mod_cast z
      refine ev_non.imp fun d ed => ?_
      rw [ed]
      show true = actOk m n u
      unfold actOk
      rw [decide_eq_true e', decide_eq_true e3]
      rfl
    · have e3 : ¬ u ^ n % m = 1 % m := by
        have z : ¬ ((u ^ n % m : Nat) : Int) = 1 % (m : Int) := of_decide_eq_false e2.symm
        exact_mod_cast z
      refine ev_str.imp fun d ed => ?_
      rw [ed]
      show false = actOk m n u
      unfold actOk
      rw [decide_eq_true e', decide_eq_false e3]
      rfl
end
end K13
set_option maxHeartbeats 4000000
/-! Rules: tests of good ones, texts. -/
namespace K13
open PySem L2
theorem isNone_eq {d : PyData} (h : isNone d = true) : d = .none := by cases d <;> first | rfl | cases h
section
variable {G : Gd} {ρ : List Sl} {t ta tb tc te : TE} {ts tu tw : TS} {u v : TT} {P R : DP} {x y z d : PyData} {ds xs es : List PyData} {tA : TA} {K : PySem.W.Frag} {N M : List Sl → Prop} {b : Bool}
  {α : Type} {args : α → List PyData} {pre : α → Prop} {post : α → DP} {flt : α → Int → Prop} {dvs : List V} {E : XK}
theorem ev_callD (hd : ∀ K H, DpAll K H dvs es) (a : α) (ha : EvA G tA ρ (· = xs)) (e : xs ++ es = args a) (hp : pre a) : Ev G (tCall (spX G.K G.CT args pre post nof) dvs E tA) ρ (post a) :=
  ev_callg (es := es) (.inr fun _ _ _ z => z) hd ha fun ys ey => ⟨a, by rw [ey, e], hp, fun _ z => z, fun _ z => z.elim⟩
theorem et_isN (h : Ev G ta ρ P) (hb : ∀ d, P d → isNone d = b) : EvT G (tTest (tOp (fun x y H Q => y = .non ∧ Q (.bl (decide (x = .non))) H) ta (tC .non))) ρ (· = b) :=
  et_testg (ev_opg (P := fun d => d = .bool b) h ev_non fun x y hx hy => by rw [hy, ← hb x hx]; exact rv_isN) fun d e => ⟨b, e, rfl⟩
theorem et_notN (h : Ev G ta ρ P) (hb : ∀ d, P d → isNone d = b) : EvT G (tTest (tOp (fun x y H Q => y = .non ∧ Q (.bl (!decide (x = .non))) H) ta (tC .non))) ρ (· = !b) :=
  et_testg (ev_opg (P := fun d => d = .bool (!b)) h ev_non fun x y hx hy => by rw [hy, ← hb x hx]; exact rv_notN) fun d e => ⟨!b, e, rfl⟩
theorem ev_isNV (h : Ev G ta ρ P) (hb : ∀ d, P d → isNone d = b) : Ev G (tOp (fun x y H Q => y = .non ∧ Q (.bl (decide (x = .non))) H) ta (tC .non)) ρ (· = .bool b) :=
  ev_opg (P := fun d => d = .bool b) h ev_non fun x y hx hy => by rw [hy, ← hb x hx]; exact rv_isN
end
/-! ### lengths -/
theorem sum_le {l : List Nat} {c : Nat} (h : ∀ x ∈ l, x ≤ c) : l.sum ≤ l.length * c := by
  induction l with
  | nil => simp
  | cons a r ih =>
    have h1 := h a (List.mem_cons_self ..)
    have h2 := ih fun x hx => h x (List.mem_cons_of_mem _ hx)
    rw [List.sum_cons, List.length_cons, Nat.succ_mul]
    omega
theorem lens_le {l : List Str} {c : Nat} (h : ∀ x ∈ l, x.length ≤ c) : (l.map (·.length)).sum ≤ l.length * c := by
  have := sum_le (l := l.map (·.length)) (c := c) fun x hx => by
    obtain ⟨y, hy, rfl⟩ := List.mem_map.mp hx
    exact h y hy
  rwa [List.length_map] at this
theorem join_le {s : Str} {l : List Str} {c : Nat} (h : ∀ x ∈ l, x.length ≤ c) : (Txt.join s l).length ≤ l.length * (c + s.length) := by
  have h1 : (Txt.join s l).length ≤ (l.map (·.length)).sum + l.length * s.length := by
    unfold Txt.join
    rw [StrLaws.glued_eq_join]
    exact StrLaws.join_length_le s l
  have h2 := lens_le h
  rw [Nat.mul_add]
  omega
theorem strI_le {i : Int} {k : Nat} (h0 : 0 ≤ i) (hk : 0 < k) (h : i < 10 ^ k) : (strI i).length ≤ k := PyProof.Rows.toString_length_le h0 hk h
theorem strN_le {n k : Nat} (hk : 0 < k) (h : n < 10 ^ k) : (strI n).length ≤ k := strI_le (by omega) hk (by
  have e : ((10 : Int) ^ k) = ((10 ^ k : Nat) : Int) := (Int.natCast_pow 10 k).symm
  rw [e]
  exact Int.ofNat_lt.mpr h)
theorem small_log {i : Int} (h0 : 0 ≤ i) (h : i < 2 ^ 400) : i.natAbs.log2 < 1920 := by
  by_cases hz : i.natAbs = 0
  · rw [hz]; decide
  · have h1 : i.natAbs < 2 ^ 400 := by omega
    have h2 := (Nat.log2_lt hz).mpr h1
    omega
theorem small_n {n : Nat} (h : n < 10 ^ 60) : ((n : Int)).natAbs.log2 < 1920 := small_log (by omega) (by
  have : (10 : Nat) ^ 60 < 2 ^ 400 := by decide
  have h2 : n < 2 ^ 400 := Nat.lt_trans h this
  omega)
theorem tab_num {p : Int} {t : Mat} (h : TabOk p t) (hp : p ≤ 10000) {r : List Int} (hr : r ∈ t) {x : Int} (hx : x ∈ r) : 0 ≤ x ∧ x < 10000 := by
  have := h.1.num r hr x hx
  omega
theorem row_le {p : Int} {t : Mat} (h : TabOk p t) (hp : p ≤ 10000) {r : List Int} (hr : r ∈ t) : (Txt.join "," (r.map strI)).length ≤ 30 := by
  have h1 := join_le (s := ",") (l := r.map strI) (c := 4) fun x hx => by
    obtain ⟨i, hi, rfl⟩ := List.mem_map.mp hx
    obtain ⟨a, b⟩ := tab_num h hp hr hi
    exact strI_le a (by decide) b
  have h2 := h.1.row r hr
  have h3 := h.2.2
  rw [List.length_map, h2] at h1
  have e : (("," : Str)).length = 1 := rfl
  rw [e] at h1
  omega
theorem tabW_le {p : Int} {t : Mat} (h : TabOk p t) (hp : p ≤ 10000) : (tabW t).length ≤ 200 := by
  have h1 := join_le (s := "/") (l := t.map fun r => Txt.join "," (r.map strI)) (c := 30) fun x hx => by
    obtain ⟨r, hr, rfl⟩ := List.mem_map.mp hx
    exact row_le h hp hr
  have h3 := h.2.2
  rw [List.length_map] at h1
  have e : (("/" : Str)).length = 1 := rfl
  rw [e] at h1
  unfold tabW
  omega
theorem ws_le {x : Pc} (h : PcOk x) : ∀ s ∈ x.ws, s.length ≤ 200 := by
  have pl : ∀ {p : Nat}, prm p = true → (strI p).length ≤ 200 := fun {p} hp => by
    have := prm_lt hp
    have := strN_le (n := p) (k := 4) (by decide) (by omega)
    omega
  have nl : ∀ {n : Nat}, n < 10 ^ 60 → (strI n).length ≤ 200 := fun {n} hn => by
    have := strN_le (n := n) (k := 60) (by decide) hn
    omega
  have key : ∀ {a : Str} {l : List Str}, a.length ≤ 200 → (∀ s ∈ l, s.length ≤ 200) → ∀ s ∈ a :: l, s.length ≤ 200 := fun h1 h2 s hs => by
    rcases List.mem_cons.mp hs with e | e
    · rw [e]; exact h1
    · exact h2 s e
  have nil : ∀ s ∈ ([] : List Str), s.length ≤ 200 := fun s hs => by cases hs
  cases x with
  | ring m => exact key (by decide) (key (nl h.2) nil)
  | power p k => exact key (by decide) (key (pl h.1) (key (nl (Nat.lt_of_le_of_lt h.2.2 (by decide))) nil))
  | knot p => exact key (by decide) (key (pl h) nil)
  | turn p t q => exact key (by decide) (key (pl h.1) (key (tabW_le h.2.1 (by have := prm_lt h.1; omega)) (key (pl h.2.2.1) nil)))
  | act m d u =>
    obtain ⟨h1, h2, h3, h4, h5, h6⟩ := h
    exact key (by decide) (key (nl h2) (key (nl h4) (key (nl (Nat.lt_trans h5 h2)) nil)))
theorem txt_le {x : Pc} (h : PcOk x) : x.txt.length ≤ 1000 := by
  have h1 := join_le (s := " ") (ws_le h)
  have h2 : x.ws.length ≤ 4 := by cases x <;> simp [Pc.ws]
  have e : ((" " : Str)).length = 1 := rfl
  rw [e] at h1
  unfold Pc.txt
  omega
/-- a rule, by its pieces -/
structure RuleOk (r : List Pc) : Prop where
  ne : r ≠ []
  ok : ∀ x ∈ r, PcOk x
  few : r.length ≤ 10000
abbrev ruleD (r : List Pc) : PyData := .tuple (r.map Pc.enc)
section
variable {P : Program} {w : World} {K : PySem.W.Frag} {mg : Str → Option Value} {base : Heap} {f : Addr} {fd : FuncData} {CT : Addr} {sz : Addr}
theorem sc_piece_fault : FnScope ["piece", "k", "spot", "fault"] ["piece", "k"] (defScope s_piece_fault) := ⟨rfl, rfl, rfl, by decide +kernel, rfl, by decide +kernel, by decide +kernel⟩
abbrev sp_piece_fault (K : PySem.W.Frag) (CT : Addr) : Sp := spX K CT (fun q : Pc × Nat => [q.1.enc, .int q.2]) (fun q => PcOk q.1) (fun _ d => d = .none) nof
theorem ok_piece_fault (T : Tx K mg) (F : FnP K "piece_fault" s_piece_fault f fd) (k_number_fault : Kn P w K mg base 5 "number_fault" ["piece"] (sp_number_fault K CT) []) (k_is_piece_shape : Kn P w K mg base 1 "is_piece_shape" ["thing"] (sp_is_piece_shape K CT) []) (k_turn_fault : Kn P w K mg base 5 "turn_fault" ["piece"] (sp_turn_fault K CT) []) (k_act_fault : Kn P w K mg base 2 "act_fault" ["piece"] (sp_act_fault K CT) []) : FnOk P w K mg base (L2.CX P w) 6 f fd ["piece", "k"] (sp_piece_fault K CT) := by
  refine fn_x F sc_piece_fault (fun _ => rfl) fun cdv A outer s H E q hr hp => ?_
  obtain ⟨x, k⟩ := q
  have nd := sc_piece_fault.nd
  refine ⟨_, (pss_cons (ps_if (pt_not (pt_val (pe_kn k_is_piece_shape hr (pa_cons (pv 0) pa_nil)))) (pss_one (ps_ret (pe_tup (pa_cons pe_str (pa_cons (pv 1) pa_nil))))) pss_nil) (pss_cons (ps_set (i := 2) nd rfl (Or.inl rfl) (pe_kn k_number_fault hr (pa_cons (pv 0) pa_nil))) (pss_cons (ps_if (pt_cmpR op_notN (pv 2) pe_non (nomark _)) (pss_one (ps_ret (pe_tup (pa_cons pe_str (pa_cons (pe_tup (pa_cons (pv 1) (pa_cons (pv 2) pa_nil))) pa_nil))))) pss_nil) (pss_cons (ps_set (i := 3) nd rfl (Or.inl rfl) (pe_ifExp (pt_cmpR op_eq (pe_ix (ix_tupK (K := K)) (pv 0) pe_int (fun _ _ => rfl)) (pe_gstr T.c_TURN) (nomark _)) (pe_kn k_turn_fault hr (pa_cons (pv 0) pa_nil)) (pe_ifExp (pt_cmpR op_eq (pe_ix (ix_tupK (K := K)) (pv 0) pe_int (fun _ _ => rfl)) (pe_gstr T.c_ACT) (nomark _)) (pe_kn k_act_fault hr (pa_cons (pv 0) pa_nil)) pe_non))) (pss_one (ps_ret (pe_ifExp (pt_cmpR op_isN (pv 3) pe_non (nomark _)) pe_non (pe_tup (pa_cons (pv 3) (pa_cons (pv 1) pa_nil)))))))))), ?_⟩
  refine sv_whenF (et_is (et_not (et_test (ev_call0 x (ea_cons (ev_var rfl) ea_nil) trivial))) rfl) (sv_setX (ev_call0 (G := ⟨K, CT, E, nof (x, k)⟩) x (ea_cons (ev_var rfl) ea_nil) hp) (sv_whenF (et_is (et_notN (b := true) (ev_var rfl) fun d e => by rw [e]; rfl) rfl) (sv_setX (x := .none) ?_ (sv_retX (ev_ifT (et_isN (ev_var rfl) fun d e => by rw [e]; rfl) ev_non)))))
  cases x with
  | ring m => exact ev_ifF (et_eqS (ev_kind rfl) ev_str (by decide)) (ev_ifF (et_eqS (ev_kind rfl) ev_str (by decide)) ev_non)
  | power p k => exact ev_ifF (et_eqS (ev_kind rfl) ev_str (by decide)) (ev_ifF (et_eqS (ev_kind rfl) ev_str (by decide)) ev_non)
  | knot p => exact ev_ifF (et_eqS (ev_kind rfl) ev_str (by decide)) (ev_ifF (et_eqS (ev_kind rfl) ev_str (by decide)) ev_non)
  | turn p t q =>
    obtain ⟨h1, h2, h3, h4⟩ := hp
    have hp := prm_lt h1
    exact ev_ifT (et_eqS (ev_kind rfl) ev_str (by decide)) ((ev_call0 (p, t, q) (ea_cons (ev_var rfl) ea_nil) ⟨hp.1, hp.2, h2⟩).imp fun d e => isNone_eq (e.trans h4))
  | act m d u =>
    obtain ⟨h1, h2, h3, h4, h5, h6⟩ := hp
    have hm : m < 2 ^ 400 := Nat.lt_trans h2 (by decide)
    exact ev_ifF (et_eqS (ev_kind rfl) ev_str (by decide)) (ev_ifT (et_eqS (ev_kind rfl) ev_str (by decide)) ((ev_call0 (m, d, u) (ea_cons (ev_var rfl) ea_nil) ⟨h1, hm⟩).imp fun d e => isNone_eq (e.trans h6)))
theorem sc_rule_fault : FnScope ["thing", "k", "piece", "fault"] ["thing"] (defScope s_rule_fault) := ⟨rfl, rfl, rfl, by decide +kernel, rfl, by decide +kernel, by decide +kernel⟩
abbrev sp_rule_fault (K : PySem.W.Frag) (CT : Addr) : Sp := spX K CT (fun r : List Pc => [ruleD r]) RuleOk (fun _ d => d = .none) nof
theorem ok_rule_fault (T : Tx K mg) (F : FnP K "rule_fault" s_rule_fault f fd) (k_piece_fault : Kn P w K mg base 6 "piece_fault" ["piece", "k"] (sp_piece_fault K CT) []) : FnOk P w K mg base (L2.CX P w) 7 f fd ["thing"] (sp_rule_fault K CT) := by
  refine fn_x F sc_rule_fault (fun _ => rfl) fun cdv A outer s H E r hr hp => ?_
  have nd := sc_rule_fault.nd
  refine ⟨_, (pss_cons (ps_if (PW.pt (pw_or (pt_not (pt_val (pe_callB (id := "isinstance") (c_isiK (K := K)) (by rfl) T.b_isinstance (by decide +kernel) (pa_cons (pv 0) (pa_cons (pe_ty (n := "tuple") T.b_tuple) pa_nil))))) (pw_or1 (pt_cmpR op_eq (pe_callB (id := "len") (c_lenK (K := K)) (by rfl) T.b_len PySem.boot_len (pa_cons (pv 0) pa_nil)) pe_int (nomark _))))) (pss_one (ps_ret (pe_tup (pa_cons pe_str (pa_cons (pe_un un_neg pe_int) pa_nil))))) pss_nil) (pss_cons (ps_for (passes_of rfl) rfl (pi_enumT (by rfl) T.b_enumerate (pa_cons (pv 0) pa_nil)) (pg_tup (by rfl) (pgs_cons (pg_name (i := 1) nd rfl (Or.inl rfl)) (pgs_cons (pg_name (i := 2) nd rfl (Or.inl rfl)) pgs_nil))) (pss_cons (ps_set (i := 3) nd rfl (Or.inl rfl) (pe_kn k_piece_fault hr (pa_cons (pv 2) (pa_cons (pv 1) pa_nil)))) (pss_one (ps_if (pt_cmpR op_notN (pv 3) pe_non (nomark _)) (pss_one (ps_ret (pv 3))) pss_nil)))) (pss_one (ps_ret pe_non)))), ?_⟩
  have hl : 0 < r.length := List.length_pos_iff.mpr hp.ne
  refine sv_whenF (et_orF (et_is (et_not (et_test (ev_isi (ev_var rfl) (kit_x (isi_T _))))) rfl) (et_eqI (ev_cb (ea_cons (ev_var rfl) ea_nil) rc_lenT) ev_int (by rw [List.length_map]; exact decide_eq_false (by omega)))) ?_
  refine sv_seq (M := fun _ => True) (sv_for (ei_enumT (ea_cons (ev_var rfl) ea_nil)) (fun i ρ' => ∃ a b c, ρ' = [.d (ruleD r), a, b, c]) ⟨_, _, _, rfl⟩ ?_ fun _ _ => trivial) fun ρ' _ => sv_retX ev_non
  rintro i x ρ' hx ⟨a, b, c, rfl⟩
  obtain ⟨y, hy, rfl⟩ := enumD_at hx
  rw [List.getElem?_map] at hy
  cases hz : r[i]? with
  | none => rw [hz] at hy; cases hy
  | some z =>
    rw [hz] at hy
    cases hy
    have ok := hp.ok z (List.mem_of_getElem? hz)
    refine ⟨_, gv_tup (gvs_cons gv_name (gvs_cons gv_name gvs_nil)) rfl, ?_⟩
    refine sv_setX (ev_call0 (G := ⟨K, CT, E, nof r⟩) (z, i) (ea_cons (ev_var rfl) (ea_cons (ev_var rfl) ea_nil)) ok) (sv_ifF (et_is (et_notN (b := true) (ev_var rfl) fun d e => by rw [e]; rfl) rfl) (sv_next ⟨_, _, _, rfl⟩))
theorem sc_want : FnScope ["is_right", "name", "place"] ["is_right", "name", "place"] (defScope s_want) := ⟨rfl, rfl, rfl, by decide +kernel, rfl, by decide +kernel, by decide +kernel⟩
abbrev sp_want (K : PySem.W.Frag) (CT : Addr) : Sp := spX K CT (fun q : Str × Int => [.bool true, .str q.1, .int q.2]) (fun _ => True) (fun _ d => d = .none) nof
theorem ok_want (T : Tx K mg) (F : FunD K "want" "want" (defArgs s_want) (defBody s_want) (defScope s_want) [.int (-1)] [] f fd)  : FnOk P w K mg base (L2.CX P w) 1 f fd ["is_right", "name", "place"] (sp_want K CT) := by
  refine fn_x F sc_want (fun _ => rfl) fun cdv A outer s H E q hr hp => ?_
  have nd := sc_want.nd
  refine ⟨_, (pss_one (ps_if (pt_not (pt_val (pv 0))) (pss_one ps_never) pss_nil)), ?_⟩
  exact sv_ifF (et_is (et_not (et_test (ev_var rfl))) rfl) (sv_next rfl)
theorem sc_want_rule : FnScope ["thing", "name"] ["thing", "name"] (defScope s_want_rule) := ⟨rfl, rfl, rfl, by decide +kernel, rfl, by decide +kernel, by decide +kernel⟩
abbrev sp_want_rule (K : PySem.W.Frag) (CT : Addr) : Sp := spX K CT (fun q : List Pc × Str => [ruleD q.1, .str q.2]) (fun q => RuleOk q.1) (fun _ d => d = .none) nof
theorem dv_int {i : Int} (K : PySem.W.Frag) (H : Hp) : DpAll K H [.int i] [.int i] := .cons (.int _) .nil
theorem dv_str {i : Str} (K : PySem.W.Frag) (H : Hp) : DpAll K H [.str i] [.str i] := .cons (.str _) .nil
theorem ok_want_rule (T : Tx K mg) (F : FunD K "want_rule" "want_rule" (defArgs s_want_rule) (defBody s_want_rule) (defScope s_want_rule) [.str "rule"] [] f fd) (k_want : Kn P w K mg base 1 "want" ["is_right", "name", "place"] (sp_want K CT) [.int (-1)]) (k_rule_fault : Kn P w K mg base 7 "rule_fault" ["thing"] (sp_rule_fault K CT) []) : FnOk P w K mg base (L2.CX P w) 8 f fd ["thing", "name"] (sp_want_rule K CT) := by
  refine fn_x F sc_want_rule (fun _ => rfl) fun cdv A outer s H E q hr hp => ?_
  obtain ⟨r, nm⟩ := q
  have nd := sc_want_rule.nd
  refine ⟨_, (pss_one (ps_expr (pe_kn k_want hr (pa_cons (pe_cmpR op_isN (pe_kn k_rule_fault hr (pa_cons (pv 0) pa_nil)) pe_non (nomark _)) (pa_cons (pv 1) pa_nil))))), ?_⟩
  exact sv_drop (ev_callD dv_int (nm, -1) (ea_cons (ev_isNV (ev_call0 r (ea_cons (ev_var rfl) ea_nil) hp) fun d e => by rw [e]; rfl) (ea_cons (ev_var rfl) ea_nil)) rfl trivial) rfl
theorem sc_is_rule : FnScope ["thing"] ["thing"] (defScope s_is_rule) := ⟨rfl, rfl, rfl, by decide +kernel, rfl, by decide +kernel, by decide +kernel⟩
abbrev sp_is_rule (K : PySem.W.Frag) (CT : Addr) : Sp := spX K CT (fun r : List Pc => [ruleD r]) RuleOk (fun _ d => d = .bool true) nof
theorem ok_is_rule (T : Tx K mg) (F : FnP K "is_rule" s_is_rule f fd) (k_rule_fault : Kn P w K mg base 7 "rule_fault" ["thing"] (sp_rule_fault K CT) []) : FnOk P w K mg base (L2.CX P w) 8 f fd ["thing"] (sp_is_rule K CT) := by
  refine fn_x F sc_is_rule (fun _ => rfl) fun cdv A outer s H E r hr hp => ?_
  have nd := sc_is_rule.nd
  refine ⟨_, (pss_one (ps_ret (pe_cmpR op_isN (pe_kn k_rule_fault hr (pa_cons (pv 0) pa_nil)) pe_non (nomark _)))), ?_⟩
  exact sv_retX (ev_isNV (ev_call0 r (ea_cons (ev_var rfl) ea_nil) hp) fun d e => by rw [e]; rfl)
theorem sc_table_word : FnScope ["rows", "row", "number"] ["rows"] (defScope s_table_word) := ⟨rfl, rfl, rfl, by decide +kernel, rfl, by decide +kernel, by decide +kernel⟩
abbrev sp_table_word (K : PySem.W.Frag) (CT : Addr) : Sp := spX K CT (fun q : Int × Mat => [tabD q.2]) (fun q => TabOk q.1 q.2 ∧ q.1 ≤ 10000) (fun q d => d = .str (tabW q.2)) nof
theorem inj_rowD (a b : List Int) (h : rowD a = rowD b) : a = b := by
  have h1 : a.map PyData.int = b.map PyData.int := PyData.tuple.inj h
  exact List.map_inj_right (fun x y e => by cases e; rfl) |>.mp h1
theorem ok_table_word (T : Tx K mg) (F : FnP K "table_word" s_table_word f fd)  : FnOk P w K mg base (L2.CX P w) 1 f fd ["rows"] (sp_table_word K CT) := by
  refine fn_x F sc_table_word (fun _ => rfl) fun cdv A outer s H E q hr hp => ?_
  obtain ⟨p, t⟩ := q
  obtain ⟨ht, hp⟩ := hp
  simp only at ht hp
  have nd := sc_table_word.nd
  refine ⟨_, (pss_one (ps_ret (pe_joinK (K := K) (pe_gstr T.c_SLASH) (pe_lc rfl nd (pi_tupK (K := K) (pv 0)) (blkOk_by (own := [("row", 1)]) (by kernel_rfl)) (fun _ _ _ _ _ => (pg_name (i := 1) nd rfl (Or.inl rfl))) (fun _ _ _ _ _ => pts_nil) (fun _ _ _ _ _ => (pe_joinK (K := K) (pe_gstr T.c_COMMA) (pe_lc rfl nd (pi_tupK (K := K) (pv 1)) (blkOk_by (own := [("number", 2)]) (by kernel_rfl)) (fun _ _ _ _ _ => (pg_name (i := 2) nd rfl (Or.inl rfl))) (fun _ _ _ _ _ => pts_nil) (fun _ _ _ _ _ => (pe_joined1 (pe_fmt (pv 2))))))))))), ?_⟩
  have h6 := ht.2.2
  refine sv_retX (ev_m1 ev_str (ev_mapM (L := t) inj_rowD (fun r => Txt.join "," (r.map strI)) PyData.str (ei_tup (ev_var rfl)) (by decide) (by show t.length ≤ _; omega) fun r hr => ?_) (rm_join ?_))
  · have hrl := ht.1.row r hr
    refine ev_m1 ev_str (ev_mapM inj_int strI PyData.str (ei_tup (ev_var rfl)) (by decide) (by omega) fun i hi => ev_fmtI (ev_var rfl) ?_) (rm_join ?_)
    · obtain ⟨a, b⟩ := tab_num ht hp hr hi
      exact small_log a (by omega)
    · have h1 := lens_le (l := r.map strI) (c := 4) fun x hx => by
        obtain ⟨i, hi, rfl⟩ := List.mem_map.mp hx
        obtain ⟨a, b⟩ := tab_num ht hp hr hi
        exact strI_le a (by decide) b
      rw [List.length_map] at h1 ⊢
      have e : (("," : Str)).length = 1 := rfl
      rw [e]
      omega
  · have h1 := lens_le (l := t.map fun r => Txt.join "," (r.map strI)) (c := 30) fun x hx => by
      obtain ⟨r, hr, rfl⟩ := List.mem_map.mp hx
      exact row_le ht hp hr
    rw [List.length_map] at h1 ⊢
    have e : (("/" : Str)).length = 1 := rfl
    rw [e]
    omega
/-- f"{x}" of a text or an int -/
def fmtD : PyData → PyData
  | .str s => .str s
  | .int i => .str (strI i)
  | d => d
theorem ev_fmtD {G : Gd} {ρ : List Sl} {t : TE} {x : PyData} {s : Str} (h : Ev G t ρ (· = x)) (hx : (x = .str s ∧ s.length ≤ 16777216) ∨ ∃ i, x = .int i ∧ s = strI i ∧ i.natAbs.log2 < 1920) : Ev G (tFmt t) ρ (· = .str s) := by
  rcases hx with ⟨rfl, h1⟩ | ⟨i, rfl, rfl, h1⟩
  · exact ev_fmtS h h1
  · exact ev_fmtI h h1
theorem sc_piece_words : FnScope ["piece", "one"] ["piece"] (defScope s_piece_words) := ⟨rfl, rfl, rfl, by decide +kernel, rfl, by decide +kernel, by decide +kernel⟩
abbrev sp_piece_words (K : PySem.W.Frag) (CT : Addr) : Sp := spX K CT (fun x : Pc => [x.enc]) PcOk (fun x d => d = .str x.txt) nof
/-- the items of a piece that is no turn, and their words -/
inductive Fm : PyData → Str → Prop
  | str (s : Str) : s.length ≤ 200 → Fm (.str s) s
  | int (n : Nat) : n < 10 ^ 60 → Fm (.int n) (strI n)
theorem Fm.eq {d : PyData} {s : Str} (h : Fm d s) : fmtD d = .str s := by cases h <;> rfl
theorem Fm.ev {G : Gd} {ρ : List Sl} {t : TE} {d : PyData} {s : Str} (h : Fm d s) (e : Ev G t ρ (· = d)) : Ev G (tFmt t) ρ (· = .str s) := by
  cases h with
  | str s h => exact ev_fmtS e (by omega)
  | int n h => exact ev_fmtI e (small_n h)
theorem words_of {K : PySem.W.Frag} {E : XK} {x : Pc} {CT : Addr} (h : All2 Fm x.fs x.ws) (ok : PcOk x) : Ev ⟨K, CT, E, nof x⟩ (tM1 (rJoin K) (tC (.str " ")) (tLc (iTup K (tVar 0)) (gName 1) tYes (tFmt (tVar 1)) [1])) [.d x.enc, .no] (· = .str x.txt) := by
  have e1 : x.fs.map fmtD = x.ws.map .str := by
    have : ∀ {a : List PyData} {b : List Str}, All2 Fm a b → a.map fmtD = b.map .str := fun {a b} h => by
      induction h with
      | nil => rfl
      | cons h1 _ ih => rw [List.map_cons, List.map_cons, ih, h1.eq]
    exact this h
  have e2 : ∀ d ∈ x.fs, ∃ s, Fm d s := by
    have : ∀ {a : List PyData} {b : List Str}, All2 Fm a b → ∀ d ∈ a, ∃ s, Fm d s := fun {a b} h => by
      induction h with
      | nil => intro d hd; cases hd
      | cons h1 _ ih =>
        intro d hd
        rcases List.mem_cons.mp hd with e | e
        · exact ⟨_, e ▸ h1⟩
        · exact ih d e
    exact this h
  refine ev_m1 ev_str ((ev_map fmtD (ei_tup (ev_var rfl)) (by decide) (by cases x <;> simp [Pc.fs]) fun d hd => ?_).is (by rw [e1])) (rm_join ?_)
  · obtain ⟨s, hs⟩ := e2 d hd
    exact (hs.ev (ev_var rfl)).is hs.eq.symm
  · have h1 := lens_le (ws_le ok)
    have h2 : x.ws.length ≤ 4 := by cases x <;> simp [Pc.ws]
    have e : ((" " : Str)).length = 1 := rfl
    rw [e]
    omega
theorem ok_piece_words (T : Tx K mg) (F : FnP K "piece_words" s_piece_words f fd) (k_table_word : Kn P w K mg base 1 "table_word" ["rows"] (sp_table_word K CT) []) : FnOk P w K mg base (L2.CX P w) 2 f fd ["piece"] (sp_piece_words K CT) := by
  refine fn_x F sc_piece_words (fun _ => rfl) fun cdv A outer s H E x hr hp => ?_
  have nd := sc_piece_words.nd
  refine ⟨_, (pss_cons (ps_if (pt_cmpR op_eq (pe_ix (ix_tupK (K := K)) (pv 0) pe_int (fun _ _ => rfl)) (pe_gstr T.c_TURN) (nomark _)) (pss_one (ps_ret (pe_joined (PJ.cons (pe_fmt (pe_ix (ix_tupK (K := K)) (pv 0) pe_int (fun _ _ => rfl))) (PJ.cons pe_str (PJ.cons (pe_fmt (pe_ix (ix_tupK (K := K)) (pv 0) pe_int (fun _ _ => rfl))) (PJ.cons pe_str (PJ.cons (pe_fmt (pe_kn k_table_word hr (pa_cons (pe_ix (ix_tupK (K := K)) (pv 0) pe_int (fun _ _ => rfl)) pa_nil))) (PJ.cons pe_str (PJ.cons (pe_fmt (pe_ix (ix_tupK (K := K)) (pv 0) pe_int (fun _ _ => rfl))) PJ.nil)))))))))) pss_nil) (pss_one (ps_ret (pe_joinK (K := K) pe_str (pe_lc rfl nd (pi_tupK (K := K) (pv 0)) (blkOk_by (own := [("one", 1)]) (by kernel_rfl)) (fun _ _ _ _ _ => (pg_name (i := 1) nd rfl (Or.inl rfl))) (fun _ _ _ _ _ => pts_nil) (fun _ _ _ _ _ => (pe_joined1 (pe_fmt (pv 1))))))))), ?_⟩
  have pn : ∀ {p : Nat}, prm p = true → p < 10 ^ 60 := fun {p} h => by
    have h1 := prm_lt h
    exact Nat.lt_trans h1.2 (by decide)
  cases x with
  | ring m => exact sv_whenF (et_eqS (ev_kind rfl) ev_str (by decide)) (sv_retX (words_of (.cons (.str _ (by decide)) (.cons (.int _ hp.2) .nil)) hp))
  | power p k => exact sv_whenF (et_eqS (ev_kind rfl) ev_str (by decide)) (sv_retX (words_of (.cons (.str _ (by decide)) (.cons (.int _ (pn hp.1)) (.cons (.int _ (by have := hp.2; exact Nat.lt_of_le_of_lt this.2 (by decide))) .nil))) hp))
  | knot p => exact sv_whenF (et_eqS (ev_kind rfl) ev_str (by decide)) (sv_retX (words_of (.cons (.str _ (by decide)) (.cons (.int _ (pn hp)) .nil)) hp))
  | act m d u =>
    have hp' := hp
    obtain ⟨h1, h2, h3, h4, h5, h6⟩ := hp
    exact sv_whenF (et_eqS (ev_kind rfl) ev_str (by decide)) (sv_retX (words_of (.cons (.str _ (by decide)) (.cons (.int _ h2) (.cons (.int _ h4) (.cons (.int _ (Nat.lt_trans h5 h2)) .nil)))) hp'))
  | turn p t q =>
    have hp' := hp
    obtain ⟨h1, h2, h3, h4⟩ := hp
    have hp1 := prm_lt h1
    have wl := ws_le hp'
    have l1 : (strI p).length ≤ 200 := wl _ (by simp [Pc.ws])
    have l2 : (tabW t).length ≤ 200 := wl _ (by simp [Pc.ws])
    have l3 : (strI q).length ≤ 200 := wl _ (by simp [Pc.ws])
    have c1 : (("turn" : Str)).length = 4 := rfl
    have c2 : ((" " : Str)).length = 1 := rfl
    have c0 : (Str.empty).length = 0 := rfl
    have la : ∀ a b : Str, (a ++ b).length = a.length + b.length := fun a b => Str.length_append a b
    refine sv_whenT (et_eqS (ev_kind rfl) ev_str (by decide)) (sv_retX ((ev_joined (ej_cons (ev_fmtS (ev_kind rfl) (by decide)) ?_ (ej_cons ev_str ?_ (ej_cons (ev_fmtI (ev_fld (j := 1) rfl rfl) (small_n (pn h1))) ?_ (ej_cons ev_str ?_ (ej_cons (ev_fmtS (ev_call0 (G := ⟨K, CT, E, nof (Pc.turn p t q)⟩) ((p : Int), t) (ea_cons (ev_fld (j := 2) rfl rfl) ea_nil) ⟨h2, by show (p : Int) ≤ 10000; omega⟩) (by show (tabW t).length ≤ _; omega)) ?_
      (ej_cons ev_str ?_ (ej_cons (ev_fmtI (ev_fld (j := 3) rfl rfl) (small_n (pn h3))) ?_ ej_nil)))))))).is ?_))
    all_goals first | (simp only [la, c0, c1, c2]; show _ ≤ 16777216; omega) | skip
    show PyData.str _ = PyData.str (Pc.turn p t q).txt
    congr 1
theorem sc_rule_text : FnScope ["rule", "piece"] ["rule"] (defScope s_rule_text) := ⟨rfl, rfl, rfl, by decide +kernel, rfl, by decide +kernel, by decide +kernel⟩
abbrev sp_rule_text (K : PySem.W.Frag) (CT : Addr) : Sp := spX K CT (fun r : List Pc => [ruleD r]) RuleOk (fun r d => d = .str (ruleW r)) nof
theorem inj_pc (a b : Pc) (h : a.enc = b.enc) : a = b := by
  have rows : ∀ {t u : Mat}, tabD t = tabD u → t = u := fun {t u} h => by
    have h1 : t.map rowD = u.map rowD := PyData.tuple.inj h
    exact List.map_inj_right (fun x y e => inj_rowD x y e) |>.mp h1
  cases a <;> cases b <;> simp [Pc.enc, Pc.fs] at h ⊢
  all_goals first
    | omega
    | exact absurd h.1 (by decide)
    | exact ⟨by omega, rows (congrArg PyData.tuple h.2.1), by omega⟩
theorem ok_rule_text (T : Tx K mg) (F : FnP K "rule_text" s_rule_text f fd) (k_want_rule : Kn P w K mg base 8 "want_rule" ["thing", "name"] (sp_want_rule K CT) [.str "rule"]) (k_piece_words : Kn P w K mg base 2 "piece_words" ["piece"] (sp_piece_words K CT) []) : FnOk P w K mg base (L2.CX P w) 9 f fd ["rule"] (sp_rule_text K CT) := by
  refine fn_x F sc_rule_text (fun _ => rfl) fun cdv A outer s H E r hr hp => ?_
  have nd := sc_rule_text.nd
  refine ⟨_, (pss_cons (ps_expr (pe_kn k_want_rule hr (pa_cons (pv 0) pa_nil))) (pss_one (ps_ret (pe_joinK (K := K) (pe_joined (PJ.cons pe_str (PJ.cons (pe_fmt (pe_gstr T.c_BAR)) (PJ.cons pe_str PJ.nil)))) (pe_lc rfl nd (pi_tupK (K := K) (pv 0)) (blkOk_by (own := [("piece", 1)]) (by kernel_rfl)) (fun _ _ _ _ _ => (pg_name (i := 1) nd rfl (Or.inl rfl))) (fun _ _ _ _ _ => pts_nil) (fun _ _ _ _ _ => (pe_kn k_piece_words hr (pa_cons (pv 1) pa_nil)))))))), ?_⟩
  have few := hp.few
  refine sv_seq (M := fun ρ' => ρ' = [.d (ruleD r), .no]) (sv_drop (ev_callD (G := ⟨K, CT, E, nof r⟩) dv_str ((r, "rule") : List Pc × Str) (ea_cons (ev_var rfl) ea_nil) rfl hp) rfl) fun ρ' e => ?_
  subst e
  refine sv_retX (ev_m1 (ev_joined (ej_cons ev_str (by decide) (ej_cons (ev_fmtS ev_str (by decide)) (by decide) (ej_cons ev_str (by decide) ej_nil)))) (ev_mapM inj_pc Pc.txt PyData.str (ei_tup (ev_var rfl)) (by decide) (by show r.length ≤ _; omega) fun x hx => ev_call0 x (ea_cons (ev_var rfl) ea_nil) (hp.ok x hx)) (rm_join ?_))
  have h1 := lens_le (l := r.map Pc.txt) (c := 1000) fun s hs => by
    obtain ⟨x, hx, rfl⟩ := List.mem_map.mp hs
    exact txt_le (hp.ok x hx)
  rw [List.length_map] at h1 ⊢
  have e : ((" | " : Str)).length = 3 := rfl
  show _ + _ * ((" | " : Str)).length ≤ _
  rw [e]
  omega
end
end K13
set_option maxHeartbeats 4000000
/-! The text error: its own beginning (super().__init__(..), two fields), its making, its raise. -/
namespace K13
open PySem PySem.Spec PyProof.Rows PySem.W PySem.Calls PySem.HandSPX
/-- what its first call is asked of -/
def recvE : List Stmt → Expr
  | .Expr (.Call (.Attribute o _ _) _ _ _) _ :: _ => o
  | _ => .Name "super" ⟨0, 0, 0, 0⟩
abbrev iFn (doc pm : Value) (an : Option Addr) (cda cc : Addr) (ct : Value) : FuncData := { name := "__init__", qualname := "InvalidText.__init__", params := L2.defArgs s_init, body := .stmts (L2.defBody s_init), scope := L2.defScope s_init, globals := mainGlobals, closure := [("__class__", cc)], defaults := .none, kwdefaults := .none, doc := doc, pyModule := pm, annotations := an, code := .ref cda, closureTuple := ct, builtins := builtinsNs }
/-- what the written part says of InvalidText, at C, and of its __init__, at fI; cc the cell that holds it -/
structure TxtX (K : Frag) (mg : PySem.Str → Option Value) (C fI : Addr) : Prop where
  gC : mg "InvalidText" = some (.ref C)
  fS : mg "super" = none
  cls : ∃ nm q N bs bm sn sub ab col dd k0 k1 k2 k3 k5, K.lookup C = some (excClassObj nm q C N bs bm true sn sub ab col dd k0 k1 k2 k3 k5 "ValueError.__new__") ∧ refsVE bm = true
  ei : excInitIn K C He.veBase "ValueError.__new__" = true
  sa : findIn K (.ref C) "__setattr__" = some (some (.builtin "object.__setattr__"))
  ga : findIn K (.ref C) "__getattribute__" = some (some (.builtin "BaseException.__getattribute__"))
  gg : findIn K (.ref C) "__getattr__" = some none
  noL : findIn K (.ref C) "line" = some none
  noF : findIn K (.ref C) "field" = some none
  iC : findIn K (.ref C) "__init__" = some (some (.ref fI))
  tC : typeIn K (.ref fI) = some (.type "function")
  kC : keepIn K (.ref C) = true
  exC : subIn K (.ref C) (.type "BaseException") = some true
  tyC : typeIn K (.ref C) = some (.type "type")
  hdC : hasDictIn K C = true
  sup : ks_superIn K C C "__init__" = some (some (.builtin "ValueError.__init__"))
  veC : subIn K (.ref C) (.type "ValueError") = some true
  mro : mroIn K C (.ref C) = some true
  thr : nsIn K cStatics "thirdparty.any" = some none
  fn : ∃ (oc : Value) (od : Option Addr) (doc pm : Value) (an : Option Addr) (cda cc : Addr) (ct : Value) (osl : Array (Option Value)) (o1 : Value) (d1 : Option Addr) (vs : Array Value) (sl1 : Array (Option Value)) (tf : Tok) (o2 : Value) (d2 : Option Addr) (sl2 : Array (Option Value)),
    K.lookup fI = some ⟨oc, od, .func (iFn doc pm an cda cc ct), osl⟩ ∧ codeIn K (.ref cda) "InvalidText.__init__" = true ∧ K.lookup cda = some ⟨o1, d1, .fields vs, sl1⟩ ∧ vs[2]? = some (.str "/claim/cut.py" tf) ∧ K.lookup cc = some ⟨o2, d2, .cell (some (.ref C)), sl2⟩
/-- what the program's text says of its file and of super -/
structure ProgX (P : Program) : Prop where
  file : ((P.main.file : PySem.Str) == ("/claim/cut.py" : PySem.Str)) = true
  sup : (P.main.scope.names.lookup ("super" : PySem.Str)).isSome = false
/-- what __init__ leaves of a fresh exception at x -/
structure IEnd (h0 h' : Heap) (x C dx : Addr) (v1 v2 : Value) : Prop where
  keep : ∀ b o, h0.get? b = some o → h'.get? b = some o
  obj : ∃ t1, h'.get? x = some { cls := .ref C, dict := some dx, data := .fields #[.ref t1, .none, .none, .none, .bool false, .none] }
  dbig : h0.objs.size ≤ dx
  dne : dx ≠ x
  ns : h'.Ns1 dx (fun y => if y = "field" then some v2 else if y = "line" then some v1 else none)
section
variable {prog : Program} {w : World} {A : Around} {E : Value → Shared → Prop} {R : Result → Shared → Prop} {s : Shared} {K : Frag} {mg mb : PySem.Str → Option Value} {C fI : Addr}
theorem it_init (T : TxtX K mg C fI) (PX : ProgX prog) {h0 : Heap} {x t0 : Addr} {v1 v2 : Value} (X0 : K.In h0) (hg : h0.Ns mainGlobals mg) (hb : h0.Ns builtinsNs mb) (hbb : ∀ y : PySem.Str, y ≠ "__name__" → mb y = bootBuiltins y) (k0 : ∀ b o, h0.get? b = some o → s.heap.get? b = some o) (z0 : h0.objs.size ≤ s.heap.objs.size)
    (hlim : s.heap.NoLimit) (hx : s.heap.get? x = some (excO C t0)) (nx : h0.get? x = none) (hroom : A.depth < recursionLimit)
    (hq : ∀ h' tk dx, IEnd h0 h' x C dx v1 v2 → R (.ok (.ret .none)) { s with heap := h', toks := tk }) :
    codeAny (model prog w) A (.call (.ref fI) ⟨[.ref x, v1, v2], []⟩) R s := by
  obtain ⟨oc, od, doc, pm, an, cda, cc, ct, osl, o1, d1, vs, sl1, tf, o2, d2, sl2, lk, hcd, lc, hvs, lcc⟩ := T.fn
  obtain ⟨nm, q, N, bs, bm, sn, sub, ab, col, dd, y0, y1, y2, y3, y5, hC, hbm⟩ := T.cls
  have hcl : clsIn K C = some { name := nm, bases := bs, mro := .ref C :: bm, ns := N, qualname := q, hasDict := true, slotNames := sn, subclasses := sub, abstract := ab, collection := col, hasDel := false } := by unfold clsIn; rw [hC] <;> rfl
  have X : K.In s.heap := X0.keeps k0
  refine ks_codeAny_call_defAt (binds := [("self", .ref x), ("line", v1), ("field", v2)]) hroom (X _ _ lk) rfl hlim (codeRec_of X hcd) rfl (BindsTo.of_eq (by first | rfl | with_unfolding_all rfl)) (show ∀ z ∈ (L2.defScope s_init).names, z.2 ≠ .cell by decide +kernel) (fun z hz => ?_) fun h1 hn k1 => ?_
  · rcases List.mem_cons.mp hz with e | hz
    · rw [e]; rfl
    rcases List.mem_cons.mp hz with e | hz
    · rw [e]; rfl
    rw [List.mem_singleton.mp hz]
    rfl
  have X1 : K.In h1 := X.keeps k1
  generalize hL : s.heap.objs.size = L at hn ⊢
  have Lx : L ≠ x := by rw [← hL]; exact Nat.ne_of_gt (Heap.lt_size hx)
  have hx1 := k1 _ _ hx
  refine ks_wpAt_execs_cons (ks_wpAt_Expr_any (ks_wpAt_MethodCall (pl := L2.plainOf (recvE (L2.defBody s_init)) (callEnv (iFn doc pm an cda cc ct) L fI)) ?_ ?_))
  · obtain ⟨oC, hoC, hdC⟩ : ∃ oC, h1.get? C = some oC ∧ oC.data = .cls { name := nm, bases := bs, mro := .ref C :: bm, ns := N, qualname := q, hasDict := true, slotNames := sn, subclasses := sub, abstract := ab, collection := col, hasDel := false } := ⟨_, X1 _ _ hC, rfl⟩
    have kk : ∀ b o, h0.get? b = some o → h1.get? b = some o := fun b o e => k1 b o (k0 b o e)
    refine ks_wpAt_super_base rfl rfl (by decide) rfl (X1 _ _ lk) rfl rfl rfl (X1 _ _ lc) rfl hvs PX.file PX.sup ?_
    refine ks_loadName_global rfl rfl (loadGlobal_builtin (hg.keeps kk) T.fS (hb.keeps kk) ((hbb _ (by decide)).trans (by decide +kernel)) ⟨rfl, ?_⟩)
    refine wpAny_loadName_free rfl rfl rfl ⟨_, X1 _ _ lcc, rfl⟩ ?_
    refine wpAny_loadName_local rfl rfl hn rfl ?_
    refine ks_wpAny_isType_cls hoC hdC ⟨rfl, ?_⟩
    refine ks_wpAny_call_super hoC hdC hx1 rfl (fun c e => by cases e) (looks_mroIn X1 T.mro) (fun h2 e2 k2 => ?_)
    have lL : L < h1.objs.size := hn.lt
    have hx2 := k2 _ _ hx1
    have F2 : PyProof.Rows.Fr h0 L h2 (fun y => ([(("self" : PySem.Str), Value.ref x), ("line", v1), ("field", v2)] : List (PySem.Str × Value)).reverse.lookup y) := ⟨hn.at fun o e => k2 _ o e, fun b o e => k2 b o (kk b o e), by rw [← hL]; exact z0⟩
    have nso : h0.get? h1.objs.size = none := by
      cases e : h0.get? h1.objs.size with
      | none => rfl
      | some o => exact absurd (Heap.lt_size (kk _ _ e)) (Nat.lt_irrefl _)
    have xs : x < h1.objs.size := Heap.lt_size hx1
    have N2 : News h0 L h2 [(h1.objs.size, ks_superObj C x C), (x, excO C t0)] := fun p hp => by
      rcases List.mem_cons.mp hp with e | hp
      · rw [e]; exact ⟨e2, Nat.ne_of_gt lL, nso⟩
      · rw [List.mem_singleton.mp hp]; exact ⟨hx2, Ne.symm Lx, nx⟩
    refine kxs_method kxs_ValueError F2 X0 N2 (List.mem_cons_self ..) (ox := excO C t0) (odx := none) ⟨hx2, rfl, rfl, trivial⟩ T.thr T.sup T.veC (by decide) fun u h3 F3 N3 l3 => ?_
    show wpAny _ _ (callWith _ (.ref u) [] [(false, eval (.Name "line" _) _), (false, eval (.Name "field" _) _)] []) _ _ _
    refine kxs_callWith (i := "ValueError.__init__") (x := x) rfl (evalArgs_plain (spliced_cons (wpAny_Name (wpAny_loadName_local rfl rfl F3.ns rfl (spliced_cons (wpAny_Name (wpAny_loadName_local rfl rfl F3.ns rfl (spliced_nil ⟨kxs_at N3 (List.mem_cons_self ..), ?_⟩))))))))
    have ux : u ≠ x := Nat.ne_of_gt (l3 (x, excO C t0) (by simp))
    have sx : h1.objs.size ≠ x := Nat.ne_of_gt xs
    refine kxs_call F3 X0 N3 F.excBase_ValueError T.ei (List.mem_cons_self ..) (t := t0) (dv := none) (c2 := .none) (.tail ux (.tail sx (.head fun p hp => by cases hp))) (by rw [sizeLine_eq]; show 2 ≤ 16777216; decide) fun t1 h4 F4 N4 l4 => ?_
    have hx4 : h4.get? x = some (excO C t1) := (N4 (x, excO C t1) (by simp)).1
    have X4 : K.In h4 := X0.keeps F4.keep
    refine wpAt_of_wpAny (wpAny_execs_cons (plainObj_wpAny_Assign_Attribute (wpAny_Name (wpAny_loadName_local rfl rfl F4.ns rfl (wpAny_Name (wpAny_loadName_local rfl rfl F4.ns rfl ?_))))))
    refine set_plain X4 (ox := excO C t1) (od := none) ⟨hx4, rfl, rfl, trivial⟩ T.sa ?_
    refine exc_osa X4 hx4 hcl (show refsVE (.ref C :: bm) = true from hbm) rfl T.noL (fun h5 tk5 dx k5 dn dne hx5 hn5 => ?_)
    have c5 : ∀ b o, h0.get? b = some o → h5.get? b = some o := fun b o e => k5 b o (fun z => by rw [z, nx] at e; cases e) (F4.keep b o e)
    have X5 : K.In h5 := X0.keeps c5
    have L5 : h5.Ns L (fun y => ([(("self" : PySem.Str), Value.ref x), ("line", v1), ("field", v2)] : List (PySem.Str × Value)).reverse.lookup y) := F4.ns.at fun o e => k5 _ o Lx e
    have lL4 : L < h4.objs.size := F4.ns.lt
    obtain ⟨oD, esD, epD, hoD, hdD, hcD⟩ := hn5.count (Within.cons "line" v1 Within.nil)
    refine wpAny_execs_cons (plainObj_wpAny_Assign_Attribute (wpAny_Name (wpAny_loadName_local rfl rfl L5 rfl (wpAny_Name (wpAny_loadName_local rfl rfl L5 rfl ?_)))))
    refine set_plain X5 (ox := { cls := .ref C, dict := some dx, data := .fields #[.ref t1, .none, .none, .none, .bool false, .none] }) (od := some oD) ⟨hx5, rfl, rfl, hoD⟩ T.sa ?_
    refine OEX.osa_old X5 hx5 hn5 (Within.cons "line" v1 Within.nil) (by decide) hcl (show refsVE (.ref C :: bm) = true from hbm) rfl T.noF fun h6 tk6 k6 hn6 => ?_
    refine wpAny_execs_nil (hq h6 tk6 dx ⟨fun b o e => k6 b o (Nat.ne_of_lt (Nat.lt_of_lt_of_le (Heap.lt_size (F4.keep b o e)) dn)) (c5 b o e), ⟨t1, k6 _ _ (Ne.symm dne) hx5⟩, ?_, dne, hn6⟩)
    exact Nat.le_trans (Nat.le_trans (hL ▸ z0) (Nat.le_of_lt lL4)) dn
  · rfl
/-- a made InvalidText -/
structure XMade (h h' : Heap) (e C d : Addr) (v1 v2 : Value) : Prop where
  keep : ∀ b o, h.get? b = some o → h'.get? b = some o
  new : h.objs.size ≤ e
  obj : ∃ oe vs, h'.get? e = some oe ∧ oe.cls = .ref C ∧ oe.dict = some d ∧ oe.data = .fields vs ∧ vs[1]? = some .none
  dbig : h.objs.size ≤ d
  dne : d ≠ e
  ns : h'.Ns1 d (fun y => if y = "field" then some v2 else if y = "line" then some v1 else none)
theorem it_made (T : TxtX K mg C fI) (PX : ProgX prog) {v1 v2 : Value} (X : K.In s.heap) (hg : s.heap.Ns mainGlobals mg) (hb : s.heap.Ns builtinsNs mb) (hbb : ∀ y : PySem.Str, y ≠ "__name__" → mb y = bootBuiltins y) (hlim : s.heap.NoLimit) (hroom : A.depth + 1 < recursionLimit)
    (hq : ∀ h' tk e d, XMade s.heap h' e C d v1 v2 → R (.ok (.ret (.ref e))) { s with heap := h', toks := tk }) :
    codeAny (model prog w) A (.call (.ref C) ⟨[v1, v2], []⟩) R s := by
  obtain ⟨nm, q, N, bs, bm, sn, sub, ab, col, dd, y0, y1, y2, y3, y5, hC, hbm⟩ := T.cls
  obtain ⟨hp, g, dr, tk, os⟩ := s
  have k : ∀ b o, hp.get? b = some o → ((hp.push (kdv_tup [v1, v2])).push (excO C hp.objs.size)).get? b = some o := fun b o e => Heap.get?_push_of_some _ (Heap.get?_push_of_some _ e)
  have got : ((hp.push (kdv_tup [v1, v2])).push (excO C hp.objs.size)).get? (hp.objs.size + 1) = some (excO C hp.objs.size) := by heap_get
  have none1 : hp.get? (hp.objs.size + 1) = none := by
    cases e : hp.get? (hp.objs.size + 1) with
    | none => rfl
    | some o => exact absurd (Nat.lt_of_succ_lt (Heap.lt_size e)) (Nat.lt_irrefl _)
  refine call_own F.excBase_ValueError (fun Y => refsVE_contains Y bm hbm) (X _ _ hC) (looks_findIn X T.iC) (fun self => bind_fn X self T.tC) (by rw [sizeLine_eq]; show 2 ≤ 16777216; decide) ?_
  refine it_init (s := ⟨(hp.push (kdv_tup [v1, v2])).push (excO C hp.objs.size), g, dr, tk, os⟩) T PX X hg hb hbb k ?_ (hlim.keeps k) got none1 ?_ fun h' tk' dx M => ?_
  · show hp.objs.size ≤ ((hp.push (kdv_tup [v1, v2])).push (excO C hp.objs.size)).objs.size
    rw [Heap.size_push, Heap.size_push]
    exact Nat.le_trans (Nat.le_succ _) (Nat.le_succ _)
  · show A.depth + 1 < recursionLimit
    exact hroom
  · obtain ⟨t1, e1⟩ := M.obj
    exact ⟨rfl, hq h' tk' (hp.objs.size + 1) dx ⟨M.keep, Nat.le_succ _, ⟨_, _, e1, rfl, rfl, rfl, rfl⟩, M.dbig, M.dne, M.ns⟩⟩
end
end K13
namespace K13
open PySem PySem.Spec PyProof.Rows L2
theorem relO_it {v1 v2 : V} {u1 u2 : Value} (r1 : RelV v1 u1) (r2 : RelV v2 u2) (f : PySem.Str) : RelO (List.lookup f [(("field" : PySem.Str), v2), ("line", v1)]) (if f = "field" then some u2 else if f = "line" then some u1 else none) := by
  by_cases h1 : f = "field"
  · subst h1
    exact r2
  · rw [if_neg h1]
    have q1 : (f == ("field" : PySem.Str)) = false := by simpa using h1
    by_cases h2 : f = "line"
    · subst h2
      exact r1
    · rw [if_neg h2]
      have q2 : (f == ("line" : PySem.Str)) = false := by simpa using h2
      have q : List.lookup f [(("field" : PySem.Str), v2), ("line", v1)] = none := by simp [List.lookup, q1, q2]
      rw [q]
      trivial
section
variable {X : Cx} {C fI : Addr}
/-- InvalidText(a, b) -/
def tMkX (C : Addr) (ta : TA) : L2.St → Hp → XK → Prop := fun σ H Q => ta σ H fun vs H1 => ∃ v1 v2, vs = [v1, v2] ∧ ∀ d, H1 d = none → Q (.ref C) (some d) (upd H1 d (.xd [(("field" : PySem.Str), v2), ("line", v1)]))
theorem pmk_X {a b : Expr} {ta : TA} {p pos : Pos} {k : Nat} (T : TxtX X.K X.mg C fI) (PX : ProgX X.prog) (hr : Room k X.A) (ha : PA X [a, b] ta) (hg : Gl X "InvalidText" := by rfl)
    (he : starEach (a :: [b]) X.env = (false, eval a X.env) :: starEach [b] X.env := by rfl) (hpl : (backTo pos (starEach [b] X.env)).any (·.1) = false := by rfl) :
    PMk X (.Call (.Name "InvalidText" p) [a, b] [] pos) (tMkX C ta) := by
  intro pins s σ H Q I h
  refine wpAny_Call_Name_kw (ld_glob I hg T.gC (PySem.W.callWith_K (h₀ := X.base) I.ok.mod.kin T.kC (thn (ha.run pos pins s σ H _ I h) fun us s1 hh => ?_) he hpl))
  obtain ⟨vs, H1, I1, r1, v1, v2, ev, q1⟩ := hh
  subst ev
  refine ⟨I1.kIn, ?_⟩
  obtain ⟨u1, u2, rfl, ru1, ru2⟩ := r1.two
  show wpAny _ _ (call (.ref C) [u1, u2]) _ _ _
  have M := I1.ok.mod
  obtain ⟨mb, hb, hbb⟩ := M.blt
  have kb : ∀ b o, X.base.get? b = some o → s1.heap.get? b = some o := fun b o e => (I1.bs b o e).1
  obtain ⟨hp, g, dr, tk, os⟩ := s1
  refine wpAny_call (it_made T PX I1.kIn (M.glob.keeps kb) (hb.keeps kb) hbb I1.nolimit (by have := hr.dp; omega) fun h' tk' e d M => ?_)
  show MkP X pins σ Q (.ref e) ⟨h', g, dr, tk', os⟩
  obtain ⟨oe, fv, hoe, hc, hd, hdat, h1⟩ := M.obj
  have hns := M.ns
  obtain ⟨Gq, g1, g2⟩ := restrict h' fun b => decide (b ≠ e)
  have gk : ∀ b, b ≠ e → Gq.get? b = h'.get? b := fun b hb => g1 b (decide_eq_true hb)
  have ge : Gq.get? e = none := g2 e (by simp)
  have old : ∀ b o, hp.get? b = some o → Gq.get? b = some o := fun b o z => (gk b (Nat.ne_of_lt (Nat.lt_of_lt_of_le (Heap.lt_size z) M.new))).trans (M.keep b o z)
  have ob : ObjOk X.prog X.w (upd H1 d (.xd [(("field" : PySem.Str), v2), ("line", v1)])) Gq d (.xd [(("field" : PySem.Str), v2), ("line", v1)]) := ⟨_, hns.at (fun o z => (gk d M.dne).trans z), fun f => relO_it ru1 ru2 f⟩
  have J : Inv X pins σ (upd H1 d (.xd [(("field" : PySem.Str), v2), ("line", v1)])) ⟨Gq, g, dr, tk', os⟩ := I1.laid (t' := tk') old M.dbig ob
  refine ⟨e, oe, fv, ⟨Gq, g, dr, tk', os⟩, _, .ref C, some d, rfl, J, fun b o z => ?_, ge, hoe, ⟨hc, hd⟩, hdat, h1, ?_, rfl, I1.bare, raises_own T.exC T.tyC, q1 d (I1.hok.fresh M.dbig)⟩
  · by_cases hb : b = e
    · have z' : Gq.get? b = some o := z
      rw [hb, ge] at z'; cases z'
    · exact (gk b hb).symm.trans z
  · rw [upd_ne (Ne.symm M.dne)]
    exact I1.hok.fresh M.new
/-- raise InvalidText(a, b) -/
def tRaiseX (C : Addr) (W : WX) (ta : TA) : TS := fun _ σ H => tMkX C ta σ H fun cls d H' => W cls d σ H'
theorem ps_raiseX {a b : Expr} {ta : TA} {W : WX} {p pos pos2 : Pos} {k : Nat} (hc : X.calm = true) (T : TxtX X.K X.mg C fI) (PX : ProgX X.prog) (hr : Room k X.A) (tk : Takes X W) (ha : PA X [a, b] ta) (hg : Gl X "InvalidText" := by rfl)
    (he : starEach (a :: [b]) X.env = (false, eval a X.env) :: starEach [b] X.env := by rfl) (hpl : (backTo pos (starEach [b] X.env)).any (·.1) = false := by rfl) :
    PS X (.Raise (some (.Call (.Name "InvalidText" p) [a, b] [] pos)) none pos2) (tRaiseX C W ta) := ps_raise hc tk (pmk_X T PX hr ha hg he hpl)
end
/-- a raise of the text error, with the line 0 and a field that may be told -/
theorem sv_raise {G : Gd} {ρ : List Sl} {tA : TA} {N : List Sl → Prop} {R : DP} {f : Int} (h : EvA G tA ρ (· = [.int 0, .int f])) (hf : G.F f) : Sv G (tRaiseX G.CT (fun cls d _ H => G.E cls d H) tA) ρ N R := fun C A H σ D hk I X qn qr => h C A H σ _ hk I X fun vs ds H1 I1 f1 n1 d1 p1 => by
  subst p1
  obtain ⟨v, w, rfl, dv, dw⟩ := dp2 d1
  rw [dp_int dv, dp_int dw]
  refine ⟨_, _, rfl, fun d hd => ?_⟩
  exact X f d _ (fun b o e n => by rw [upd_ne (ne_of_none (I1.keep b o e n) hd)]; exact I1.keep b o e n) (I1.no0 hd).2 upd_same hf
end K13
set_option maxHeartbeats 4000000
/-! The readers: mirrors that answer or tell the faulty place; the defs compute them. -/
namespace K13
open PySem L2
/-! ### mirrors -/
abbrev Rd (α : Type) := Except Nat α
theorem ok_bind {α β : Type} (a : α) (f : α → Rd β) : ((Except.ok a : Rd α) >>= f) = f a := rfl
theorem er_bind {α β : Type} (e : Nat) (f : α → Rd β) : ((Except.error e : Rd α) >>= f) = Except.error e := rfl
def dgL : List Nat := ("0123456789" : Str).cps.toList
def numOk (s : Str) : Bool := (decide (1 ≤ s.length) && decide (s.length ≤ 60)) && ((s.cps.toList.map fun c => decide (c ∈ dgL)).all id && (decide (s = "0") || !decide (s.cps.toList.head? = some 48)))
/-- the number that a word writes -/
def numOf (s : Str) : Option Nat := if numOk s = true then some (NumText.digitsVal s.cps.toList) else none
def optD : Option Nat → PyData
  | none => .none
  | some n => .int n
theorem isNone_opt (o : Option Nat) : isNone (optD o) = o.isNone := by cases o <;> rfl
abbrev wsD (ws : List Str) : PyData := .list (ws.map .str)
def wAt (ws : List Str) (i : Nat) : Rd Str := match ws[i]? with
  | some w => .ok w
  | none => .error i
def nAt (ws : List Str) (i : Nat) : Rd Nat := wAt ws i >>= fun w => match numOf w with
  | some n => .ok n
  | none => .error i
def inB (n lo : Nat) : Option Nat → Bool
  | none => decide (lo ≤ n)
  | some hi => decide (lo ≤ n) && decide (n < hi)
def nIn (ws : List Str) (i lo : Nat) (hi : Option Nat) : Rd Nat := nAt ws i >>= fun n => if inB n lo hi = true then .ok n else .error i
def pAt (ws : List Str) (i : Nat) : Rd Nat := nAt ws i >>= fun n => if prm n = true then .ok n else .error i
abbrev ORow := List (Option Nat)
def rowsOf (w : Str) : List ORow := (Txt.split w "/").map fun r => (Txt.split r ",").map numOf
def rowsD (m : List ORow) : List (List PyData) := m.map fun r => r.map optD
def matOf (m : List ORow) : Mat := m.map fun r => r.map fun o => ((o.getD 0 : Nat) : Int)
def tAt (ws : List Str) (i p : Nat) : Rd Mat := wAt ws i >>= fun w => if isTab p (rowsD (rowsOf w)) = true then .ok (matOf (rowsOf w)) else .error i
def turnAt (ws : List Str) (i : Nat) : Rd Pc := pAt ws (i + 1) >>= fun p => tAt ws (i + 2) p >>= fun t => pAt ws (i + 3) >>= fun q => if turnOk p t q = true then .ok (.turn p t q) else .error (i + 3)
def actAt (ws : List Str) (i : Nat) : Rd Pc := nIn ws (i + 1) 1 none >>= fun m => nIn ws (i + 2) 1 none >>= fun d => if Nat.gcd m d ≤ 1 then nIn ws (i + 3) 0 (some m) >>= fun u => if actOk m d u = true then .ok (.act m d u) else .error (i + 3) else .error (i + 2)
def pieceAt (ws : List Str) (i : Nat) : Rd Pc := wAt ws i >>= fun k =>
  if k = "turn" then turnAt ws i else if k = "act" then actAt ws i else if k = "ring" then nIn ws (i + 1) 1 none >>= fun m => .ok (.ring m) else if k = "knot" then pAt ws (i + 1) >>= fun p => .ok (.knot p)
  else if k = "power" then pAt ws (i + 1) >>= fun p => nIn ws (i + 2) 1 (some 7) >>= fun e => .ok (.power p e) else .error i
def Pc.size : Pc → Nat
  | .ring _ => 2
  | .power _ _ => 3
  | .knot _ => 2
  | .turn _ _ _ => 4
  | .act _ _ _ => 4
theorem Pc.size_pos (x : Pc) : 2 ≤ x.size := by cases x <;> simp [Pc.size]
def moreAt (ws : List Str) (i : Nat) (acc : List Pc) : Rd (List Pc) :=
  if h : i < ws.length then (if ws[i] = "|" then pieceAt ws (i + 1) >>= fun x => moreAt ws (i + 1 + x.size) (acc ++ [x]) else .error i) else .ok acc
termination_by ws.length - i
decreasing_by
  have := Pc.size_pos x
  omega
def rulePs (ws : List Str) : Rd (List Pc) := pieceAt ws 0 >>= fun x => moreAt ws x.size [x]
def ruleRd (s : Str) : Rd (List Pc) := rulePs (Txt.split s " ")
/-! ### lengths of parts -/
theorem sjoin_len (y : Str) : ∀ parts : List Str, parts ≠ [] → (Str.join y parts).length + y.length = (parts.map fun p => p.length + y.length).sum
  | [], h => absurd rfl h
  | [x], _ => by
    show x.length + y.length = _
    simp
  | x :: z :: r, _ => by
    have ih := sjoin_len y (z :: r) (by simp)
    show (x ++ y ++ Str.join y (z :: r)).length + y.length = _
    rw [List.map_cons, List.sum_cons, ← ih, Str.length_append, Str.length_append]
    omega
theorem sum_ge {l : List Nat} {x : Nat} (h : x ∈ l) : x ≤ l.sum := by
  induction l with
  | nil => cases h
  | cons a r ih =>
    rw [List.sum_cons]
    rcases List.mem_cons.mp h with e | e
    · rw [e]; omega
    · have := ih e; omega
theorem sum_cnt {l : List Nat} {c : Nat} (h : ∀ x ∈ l, c ≤ x) : l.length * c ≤ l.sum := by
  induction l with
  | nil => simp
  | cons a r ih =>
    have h1 := h a (List.mem_cons_self ..)
    have h2 := ih fun x hx => h x (List.mem_cons_of_mem _ hx)
    rw [List.sum_cons, List.length_cons, Nat.succ_mul]
    omega
theorem split_part {x y p : Str} (h : p ∈ Txt.split x y) : p.length ≤ x.length := by
  have h1 := sjoin_len y (Txt.split x y) (fun e => by rw [e] at h; cases h)
  rw [StrLaws.join_split] at h1
  have h2 := sum_ge (List.mem_map.mpr ⟨p, h, rfl⟩ : p.length + y.length ∈ (Txt.split x y).map fun p => p.length + y.length)
  omega
theorem split_many {x y : Str} (hy : 1 ≤ y.length) : (Txt.split x y).length ≤ x.length + 1 := by
  by_cases he : Txt.split x y = []
  · rw [he]; simp
  · have h1 := sjoin_len y (Txt.split x y) he
    rw [StrLaws.join_split] at h1
    have h2 := sum_cnt (l := (Txt.split x y).map fun p => p.length + y.length) (c := y.length) fun z hz => by
      obtain ⟨p, hp, rfl⟩ := List.mem_map.mp hz
      omega
    rw [List.length_map] at h2
    have h3 : (Txt.split x y).length * y.length ≤ (x.length + 1) * y.length := by
      rw [Nat.succ_mul]
      have : x.length ≤ x.length * y.length := Nat.le_mul_of_pos_right _ hy
      omega
    exact Nat.le_of_mul_le_mul_right h3 hy
/-! ### promises of readers -/
abbrev flR {α β : Type} (m : α → Rd β) : α → Int → Prop := fun a f => ∃ e : Nat, f = e ∧ m a = .error e
abbrev spR (K : PySem.W.Frag) (CT : Addr) {α β : Type} (args : α → List PyData) (pre : α → Prop) (m : α → Rd β) (enc : β → PyData) : Sp := spX K CT args pre (fun a d => ∃ x, m a = .ok x ∧ d = enc x) (flR m)
section
variable {G : Gd} {ρ : List Sl} {t ta tb tc te : TE} {tA : TA} {α β : Type} {args : α → List PyData} {pre : α → Prop} {m : α → Rd β} {enc : β → PyData} {x : β} {e : Nat}
theorem ev_ok (a : α) (ha : EvA G tA ρ (· = args a)) (hp : pre a) (h : m a = .ok x) : Ev G (tCall (spX G.K G.CT args pre (fun a d => ∃ x, m a = .ok x ∧ d = enc x) (flR m)) [] G.E tA) ρ (· = enc x) :=
  (ev_callX a ha hp fun f hf => by obtain ⟨e, _, h2⟩ := hf; rw [h] at h2; cases h2).imp fun d ⟨y, h1, h2⟩ => by rw [h] at h1; cases h1; exact h2
theorem ev_er (a : α) (ha : EvA G tA ρ (· = args a)) (hp : pre a) (h : m a = .error e) (hf : G.F e) : Ev G (tCall (spX G.K G.CT args pre (fun a d => ∃ x, m a = .ok x ∧ d = enc x) (flR m)) [] G.E tA) ρ (fun _ => False) :=
  (ev_callX a ha hp fun f hf' => by obtain ⟨e', h1, h2⟩ := hf'; rw [h] at h2; cases h2; rw [h1]; exact hf).imp fun d ⟨y, h1, h2⟩ => by rw [h] at h1; cases h1
theorem ev_m1F {r : V → List V → Hp → VK → Prop} {P : DP} (ho : Ev G t ρ (fun _ => False)) : Ev G (tM1 r t te) ρ P := fun C A H σ Q hk I X q => ho C A H σ _ hk I X fun v d H1 I1 f1 n1 d1 p1 => p1.elim
theorem ea_noL {tr : TA} {P : List PyData → Prop} (h : Ev G t ρ (fun _ => False)) (hr : EvA G tr ρ P) {Q : List PyData → Prop} : EvA G (tCons t tr) ρ Q := (ea_consg h hr).imp fun d ⟨_, _, _, z, _⟩ => z.elim
end
section
variable {P : Program} {w : World} {K : PySem.W.Frag} {mg : Str → Option Value} {base : Heap} {f : Addr} {fd : FuncData} {CT fI : Addr} {sz : Addr}
theorem sc_number_of : FnScope ["word", "sign"] ["word"] (defScope s_number_of) := ⟨rfl, rfl, rfl, by decide +kernel, rfl, by decide +kernel, by decide +kernel⟩
abbrev sp_number_of (K : PySem.W.Frag) (CT : Addr) : Sp := spX K CT (fun s : Str => [.str s]) (fun s => s.length ≤ 1000000) (fun s d => d = optD (numOf s)) nof
theorem dg_all {s : Str} (h : (s.cps.toList.map fun c => decide (c ∈ dgL)).all id = true) : NumText.AllDigits s.cps.toList := fun c hc => by
  have h1 := List.all_eq_true.mp h _ (List.mem_map.mpr ⟨c, hc, rfl⟩)
  have h2 : c ∈ dgL := of_decide_eq_true h1
  have h3 : c ∈ [48, 49, 50, 51, 52, 53, 54, 55, 56, 57] := h2
  simp at h3
  omega
theorem int_dg {s : Str} (h : (s.cps.toList.map fun c => decide (c ∈ dgL)).all id = true) (h1 : 1 ≤ s.length) (h2 : s.length ≤ 60) : PySem.intText? s = some ((NumText.digitsVal s.cps.toList : Nat) : Int) :=
  intText_digits (dg_all h) (fun e => by
    have : s.length = s.cps.toList.length := by simp [Str.length]
    rw [this, e] at h1
    simp at h1) (by omega)
theorem et_neI {G : Gd} {ρ : List Sl} {ta tb : TE} {a c : Int} {b : Bool} (ha : Ev G ta ρ (· = .int a)) (hc : Ev G tb ρ (· = .int c)) (e : (!decide (a = c)) = b) : EvT G (tTest (tOp rNe ta tb)) ρ (· = b) := et_is (et_test (ev_op ha hc rv_neI)) e
theorem et_neS {G : Gd} {ρ : List Sl} {ta tb : TE} {a c : Str} {b : Bool} (ha : Ev G ta ρ (· = .str a)) (hc : Ev G tb ρ (· = .str c)) (e : (!decide (a = c)) = b) : EvT G (tTest (tOp rNe ta tb)) ρ (· = b) := et_is (et_test (ev_op ha hc rv_neS)) e
theorem ok_number_of (T : Tx K mg) (F : FnP K "number_of" s_number_of f fd)  : FnOk P w K mg base (L2.CX P w) 1 f fd ["word"] (sp_number_of K CT) := by
  refine fn_x F sc_number_of (fun _ => rfl) fun cdv A outer s H E x hr hp => ?_
  have nd := sc_number_of.nd
  refine ⟨_, (pss_cons (ps_if (PW.pt (pw_or (pt_not (pt_chain op_le op_le pe_int (pe_callB (id := "len") call_len_str (by rfl) T.b_len PySem.boot_len (pa_cons (pv 0) pa_nil)) (pe_gint T.c_MOST_DIGITS))) (pw_or1 (pt_not (pt_val (pe_callB (id := "all") (c_allK (K := K) rfl) (by rfl) T.b_all (by decide +kernel) (pa_cons (pe_lc rfl nd (pi_str (pv 0)) (blkOk_by (own := [("sign", 1)]) (by kernel_rfl)) (fun _ _ _ _ _ => (pg_name (i := 1) nd rfl (Or.inl rfl))) (fun _ _ _ _ _ => pts_nil) (fun _ _ _ _ _ => (pe_cmpR op_in_sign (pv 1) (pe_gstr T.c_DIGITS) rfl))) pa_nil))))))) (pss_one (ps_ret pe_non)) pss_nil) (pss_one (ps_ret (pe_ifExp (PW.pt (pw_or (pt_cmpR op_eq (pv 0) pe_str (nomark _)) (pw_or1 (pt_cmpR op_ne (pe_ix ix_str (pv 0) pe_int (fun _ _ => rfl)) pe_str (nomark _))))) (pe_callTy (T := "int") call_int_str (by rfl) T.b_int (by decide +kernel) (pa_cons (pv 0) pa_nil)) pe_non)))), ?_⟩
  have hx : x.length = x.cps.toList.length := by simp [Str.length]
  have c1 : EvT ⟨K, CT, E, nof x⟩ (tNot (tTest (tChain (rI0 fun i j => .bl (decide (i ≤ j))) (rI0 fun i j => .bl (decide (i ≤ j))) (tC (.int 1)) (tCB rLenS (tCons (tVar 0) tNil)) (tC (.int 60))))) [.d (.str x), .no] (· = !(decide (1 ≤ x.length) && decide (x.length ≤ 60))) :=
    et_is (et_not (et_test (ev_chain ev_int (ev_cb (ea_cons (ev_var rfl) ea_nil) (rc_lenS (by omega))) ev_int rv_le fun _ => rv_le))) (by
      have a1 : decide ((1 : Int) ≤ (x.length : Int)) = decide (1 ≤ x.length) := by congr 1; apply propext; omega
      have a2 : decide ((x.length : Int) ≤ (60 : Int)) = decide (x.length ≤ 60) := by congr 1; apply propext; omega
      rw [a1, a2])
  have c2 : EvT ⟨K, CT, E, nof x⟩ (tNot (tTest (tCB (rAll K) (tCons (tLc (iStr (tVar 0)) (gName 1) tYes (tOp (fun x y H Q => ∃ (c : Nat) (z : Str), x = .str ⟨#[c]⟩ ∧ y = .str z ∧ Q (.bl (decide (c ∈ z.cps.toList))) H) (tVar 1) (tC (.str "0123456789"))) [1]) tNil)))) [.d (.str x), .no] (· = !((x.cps.toList.map fun c => decide (c ∈ dgL)).all id)) :=
    et_not (et_test (ev_cb (ea_cons (ev_mapM inj_sgn (fun c => decide (c ∈ dgL)) PyData.bool (ei_str (ev_var rfl)) (by decide) (by omega) fun c hc => ev_op (ev_var rfl) ev_str rv_inSign) ea_nil) rc_all))
  refine sv_when (et_or c1 fun _ => c2) (fun e => ?_) fun e => ?_
  · refine sv_ret ev_non fun d ed => ?_
    have h : numOk x = false := by
      unfold numOk
      rw [← Bool.not_and] at e
      simp only [Bool.not_eq_true'] at e
      rw [← Bool.and_assoc, e]
      rfl
    rw [ed]
    show _ = optD (numOf x)
    unfold numOf
    rw [if_neg (by rw [h]; decide)]
    rfl
  · rw [← Bool.not_and] at e
    simp only [Bool.not_eq_false'] at e
    obtain ⟨e1, e2⟩ := Bool.and_eq_true_iff.mp e
    obtain ⟨e3, e4⟩ := Bool.and_eq_true_iff.mp e1
    have l1 := of_decide_eq_true e3
    have l2 := of_decide_eq_true e4
    cases hl : x.cps.toList with
    | nil => rw [hx, hl] at l1; simp at l1
    | cons c r =>
      have key : ∀ b, (decide (x = "0") || !decide (x.cps.toList.head? = some 48)) = b → numOk x = b := fun b hb => by
        unfold numOk
        rw [hb, ← Bool.and_assoc, e]
        simp
      have c3 : (!decide ((⟨#[c]⟩ : Str) = "0")) = !decide (x.cps.toList.head? = some 48) := by
        rw [hl]
        congr 1
        have : ((⟨#[c]⟩ : Str) = "0") = (([c] ++ r).head? = some 48) := by
          apply propext
          constructor
          · intro h
            have h2 : (⟨#[c]⟩ : Str).cps.toList = [48] := by rw [h]; rfl
            simp at h2
            simp [h2]
          · intro h
            simp at h
            rw [h]
            rfl
        exact decide_eq_decide.mpr (iff_of_eq this)
      refine sv_retX (ev_if (et_or (et_test (ev_op (ev_var rfl) ev_str rv_eqS)) fun _ => et_neS (ev_op (ev_var rfl) ev_int (rv_ixS (c := c) (by omega) (atI_nat (j := 0) (by rw [hl]; rfl)))) ev_str c3) (fun e5 => ?_) fun e5 => ?_)
      · have h := key true e5.symm
        refine ((ev_cb (ea_cons (ev_var rfl) ea_nil) (rc_intS (int_dg e2 l1 l2) (by omega))).imp fun d ed => ?_)
        rw [ed]
        show _ = optD (numOf x)
        unfold numOf
        rw [if_pos h]
        rfl
      · have h := key false e5.symm
        refine ev_non.imp fun d ed => ?_
        rw [ed]
        show _ = optD (numOf x)
        unfold numOf
        rw [if_neg (by rw [h]; decide)]
        rfl
/-- words of a line: none too long -/
def WsOk (ws : List Str) : Prop := ws.length ≤ 50000 ∧ ∀ w ∈ ws, w.length ≤ 50000
theorem wAt_mem {ws : List Str} {i : Nat} {w : Str} (h : wAt ws i = .ok w) : w ∈ ws := by
  unfold wAt at h
  cases e : ws[i]? with
  | none => rw [e] at h; cases h
  | some v => rw [e] at h; cases h; exact List.mem_of_getElem? e
theorem sc_word_at : FnScope ["words", "line", "spot"] ["words", "line", "spot"] (defScope s_word_at) := ⟨rfl, rfl, rfl, by decide +kernel, rfl, by decide +kernel, by decide +kernel⟩
abbrev sp_word_at (K : PySem.W.Frag) (CT : Addr) : Sp := spR K CT (fun q : List Str × Nat => [wsD q.1, .int 0, .int q.2]) (fun _ => True) (fun q => wAt q.1 q.2) PyData.str
theorem ok_word_at (T : Tx K mg) (F : FnP K "word_at" s_word_at f fd)  (TX : TxtX K mg CT fI) (PX : ProgX P) : FnOk P w K mg base (L2.CX P w) 1 f fd ["words", "line", "spot"] (sp_word_at K CT) := by
  refine fn_x F sc_word_at (fun _ => rfl) fun cdv A outer s H E q hr hp => ?_
  obtain ⟨ws, i⟩ := q
  have nd := sc_word_at.nd
  refine ⟨_, (pss_cons (ps_if (pt_cmpR op_ge (pv 2) (pe_callB (id := "len") (c_lenK (K := K)) (by rfl) T.b_len PySem.boot_len (pa_cons (pv 0) pa_nil)) (nomark _)) (pss_one (ps_raiseX rfl TX PX hr (takes_of rfl rfl rfl rfl) (pa_cons (pv 1) (pa_cons (pv 2) pa_nil)))) pss_nil) (pss_one (ps_ret (pe_ix (ix_listK (K := K)) (pv 0) (pv 2) (fun _ _ => rfl))))), ?_⟩
  have ln : ((ws.map PyData.str).length : Int) = ws.length := by rw [List.length_map]
  refine sv_when (et_test (ev_op (ev_var rfl) (ev_cb (ea_cons (ev_var rfl) ea_nil) rc_lenL) rv_ge)) (fun e => ?_) fun e => ?_
  · have h := of_decide_eq_true e
    have h2 : ws[i]? = none := List.getElem?_eq_none (by rw [ln] at h; omega)
    exact sv_raise (f := i) (ea_cons (ev_var rfl) (ea_cons (ev_var rfl) ea_nil)) ⟨i, rfl, by show wAt ws i = _; unfold wAt; rw [h2]⟩
  · have h := of_decide_eq_false e
    have hi : i < ws.length := by rw [ln] at h; omega
    have h2 : ws[i]? = some ws[i] := by simp [hi]
    refine sv_retX ((ev_op (ev_var rfl) (ev_var rfl) (rv_ixL (d := .str ws[i]) (atI_nat (by rw [List.getElem?_map, h2]; rfl)))).imp fun d ed => ⟨ws[i], ?_, ed⟩)
    show wAt ws i = _
    unfold wAt
    rw [h2]
/-- number_of(word_at(..)) -/
theorem ev_nw {G : Gd} {ρ : List Sl} {ws : List Str} {i : Nat} {t1 t2 t3 : TE} {E1 : XK} (h1 : Ev G t1 ρ (· = wsD ws)) (h2 : Ev G t2 ρ (· = .int 0)) (h3 : Ev G t3 ρ (· = .int i)) (hw : WsOk ws) (hf : ∀ e, wAt ws i = .error e → G.F e) :
    Ev G (tCall (sp_number_of G.K G.CT) [] E1 (tCons (tCall (sp_word_at G.K G.CT) [] G.E (tCons t1 (tCons t2 (tCons t3 tNil)))) tNil)) ρ (fun d => ∃ w, wAt ws i = .ok w ∧ d = optD (numOf w)) := by
  cases e : wAt ws i with
  | ok w => exact (ev_call0 w (ea_cons (ev_ok (ws, i) (ea_cons h1 (ea_cons h2 (ea_cons h3 ea_nil))) trivial e) ea_nil) (by have := hw.2 w (wAt_mem e); show w.length ≤ _; omega)).imp fun d ed => ⟨w, rfl, ed⟩
  | error j => exact ev_callg (es := []) (Ps := fun _ => False) (.inr fun _ _ _ z => z) (fun _ _ => .nil) (ea_noL (ev_er (ws, i) (ea_cons h1 (ea_cons h2 (ea_cons h3 ea_nil))) trivial e (hf j e)) ea_nil) fun _ z => z.elim
theorem nAt_er {ws : List Str} {i e : Nat} (h : wAt ws i = .error e) : nAt ws i = .error e := by unfold nAt; rw [h]; rfl
theorem nAt_w {ws : List Str} {i : Nat} {w : Str} (h : wAt ws i = .ok w) : nAt ws i = match numOf w with | some n => .ok n | none => .error i := by unfold nAt; rw [h]; rfl
def optI : Option Nat → PyData := optD
theorem sc_prime_at : FnScope ["words", "line", "spot", "found"] ["words", "line", "spot"] (defScope s_prime_at) := ⟨rfl, rfl, rfl, by decide +kernel, rfl, by decide +kernel, by decide +kernel⟩
abbrev sp_prime_at (K : PySem.W.Frag) (CT : Addr) : Sp := spR K CT (fun q : List Str × Nat => [wsD q.1, .int 0, .int q.2]) (fun q => WsOk q.1) (fun q => pAt q.1 q.2) (fun n : Nat => .int n)
theorem ok_prime_at (T : Tx K mg) (F : FnP K "prime_at" s_prime_at f fd) (k_number_of : Kn P w K mg base 1 "number_of" ["word"] (sp_number_of K CT) []) (k_word_at : Kn P w K mg base 1 "word_at" ["words", "line", "spot"] (sp_word_at K CT) []) (k_is_prime : Kn P w K mg base 4 "is_prime" ["thing"] (sp_is_prime K CT) []) (TX : TxtX K mg CT fI) (PX : ProgX P) : FnOk P w K mg base (L2.CX P w) 5 f fd ["words", "line", "spot"] (sp_prime_at K CT) := by
  refine fn_x F sc_prime_at (fun _ => rfl) fun cdv A outer s H E q hr hp => ?_
  obtain ⟨ws, i⟩ := q
  have nd := sc_prime_at.nd
  refine ⟨_, (pss_cons (ps_set (i := 3) nd rfl (Or.inl rfl) (pe_kn k_number_of hr (pa_cons (pe_knX k_word_at hr (passes_call (takes_of rfl rfl rfl rfl) fun _ _ _ _ h => h) (pa_cons (pv 0) (pa_cons (pv 1) (pa_cons (pv 2) pa_nil)))) pa_nil))) (pss_cons (ps_if (PW.pt (pw_or (pt_cmpR op_isN (pv 3) pe_non (nomark _)) (pw_or1 (pt_not (pt_val (pe_kn k_is_prime hr (pa_cons (pv 3) pa_nil))))))) (pss_one (ps_raiseX rfl TX PX hr (takes_of rfl rfl rfl rfl) (pa_cons (pv 1) (pa_cons (pv 2) pa_nil)))) pss_nil) (pss_one (ps_ret (pv 3))))), ?_⟩
  refine sv_set (ev_nw (ev_var rfl) (ev_var rfl) (ev_var rfl) hp fun e he => ⟨e, rfl, ?_⟩) fun d hd => ?_
  · show pAt ws i = _
    unfold pAt
    rw [nAt_er he]
    rfl
  obtain ⟨wd, e1, rfl⟩ := hd
  have hn := nAt_w e1
  cases hz : numOf wd with
  | none =>
    rw [hz] at hn
    refine sv_whenT (et_orT (et_isN (b := true) (ev_var rfl) fun d ed => by rw [ed]; rfl)) (sv_raise (f := i) (ea_cons (ev_var rfl) (ea_cons (ev_var rfl) ea_nil)) ⟨i, rfl, ?_⟩)
    show pAt ws i = _
    unfold pAt
    rw [hn]
    rfl
  | some n =>
    rw [hz] at hn
    refine sv_when (et_orF (et_isN (b := false) (ev_var rfl) fun d ed => by rw [ed]; rfl) (et_not (et_test (ev_call0 (.int n) (ea_cons (ev_var rfl) ea_nil) trivial)))) (fun e => ?_) fun e => ?_
    · have h : prm n = false := by simpa [prm] using e
      refine sv_raise (f := i) (ea_cons (ev_var rfl) (ea_cons (ev_var rfl) ea_nil)) ⟨i, rfl, ?_⟩
      show pAt ws i = _
      unfold pAt
      rw [hn, ok_bind, h]
      rfl
    · have h : prm n = true := by simpa [prm] using e
      refine sv_retX ((ev_var rfl).imp fun d ed => ⟨n, ?_, ed⟩)
      show pAt ws i = _
      unfold pAt
      rw [hn, ok_bind, h]
      rfl
theorem sc_number_within : FnScope ["words", "line", "spot", "least", "most", "found"] ["words", "line", "spot", "least", "most"] (defScope s_number_within) := ⟨rfl, rfl, rfl, by decide +kernel, rfl, by decide +kernel, by decide +kernel⟩
abbrev sp_number_within (K : PySem.W.Frag) (CT : Addr) : Sp := spR K CT (fun q : List Str × Nat × Nat × Option Nat => [wsD q.1, .int 0, .int q.2.1, .int q.2.2.1, optD q.2.2.2]) (fun q => WsOk q.1) (fun q => nIn q.1 q.2.1 q.2.2.1 q.2.2.2) (fun n : Nat => .int n)
theorem ok_number_within (T : Tx K mg) (F : FnP K "number_within" s_number_within f fd) (k_number_of : Kn P w K mg base 1 "number_of" ["word"] (sp_number_of K CT) []) (k_word_at : Kn P w K mg base 1 "word_at" ["words", "line", "spot"] (sp_word_at K CT) []) (TX : TxtX K mg CT fI) (PX : ProgX P) : FnOk P w K mg base (L2.CX P w) 2 f fd ["words", "line", "spot", "least", "most"] (sp_number_within K CT) := by
  refine fn_x F sc_number_within (fun _ => rfl) fun cdv A outer s H E q hr hp => ?_
  obtain ⟨ws, i, lo, hi⟩ := q
  have nd := sc_number_within.nd
  refine ⟨_, (pss_cons (ps_set (i := 5) nd rfl (Or.inl rfl) (pe_kn k_number_of hr (pa_cons (pe_knX k_word_at hr (passes_call (takes_of rfl rfl rfl rfl) fun _ _ _ _ h => h) (pa_cons (pv 0) (pa_cons (pv 1) (pa_cons (pv 2) pa_nil)))) pa_nil))) (pss_cons (ps_if (PW.pt (pw_or (pt_cmpR op_isN (pv 5) pe_non (nomark _)) (pw_or (pt_cmpR op_lt (pv 5) (pv 3) (nomark _)) (pw_or1 (PW.pt (pw_and (pt_cmpR op_notN (pv 4) pe_non (nomark _)) (pw_and1 (pt_cmpR op_ge (pv 5) (pv 4) (nomark _))))))))) (pss_one (ps_raiseX rfl TX PX hr (takes_of rfl rfl rfl rfl) (pa_cons (pv 1) (pa_cons (pv 2) pa_nil)))) pss_nil) (pss_one (ps_ret (pv 5))))), ?_⟩
  refine sv_set (ev_nw (ev_var rfl) (ev_var rfl) (ev_var rfl) hp fun e he => ⟨e, rfl, ?_⟩) fun d hd => ?_
  · show nIn ws i lo hi = _
    unfold nIn
    rw [nAt_er he]
    rfl
  obtain ⟨wd, e1, rfl⟩ := hd
  have hn := nAt_w e1
  cases hz : numOf wd with
  | none =>
    rw [hz] at hn
    refine sv_whenT (et_orT (et_isN (b := true) (ev_var rfl) fun d ed => by rw [ed]; rfl)) (sv_raise (f := i) (ea_cons (ev_var rfl) (ea_cons (ev_var rfl) ea_nil)) ⟨i, rfl, ?_⟩)
    show nIn ws i lo hi = _
    unfold nIn
    rw [hn]
    rfl
  | some n =>
    rw [hz] at hn
    have key : ∀ b, inB n lo hi = b → nIn ws i lo hi = if b = true then .ok n else .error i := fun b hb => by
      unfold nIn
      rw [hn, ok_bind, hb]
    refine sv_when (b := !inB n lo hi) (et_orF (et_isN (b := false) (ev_var rfl) fun d ed => by rw [ed]; rfl) ?_) (fun e => ?_) fun e => ?_
    · have lt : decide ((n : Int) < (lo : Int)) = !decide (lo ≤ n) := by
        by_cases h : lo ≤ n
        · rw [decide_eq_true h, decide_eq_false (by omega)]; rfl
        · rw [decide_eq_false h, decide_eq_true (by omega)]; rfl
      cases hi with
      | none =>
        refine et_is (et_or (et_test (ev_op (ev_var rfl) (ev_var rfl) rv_lt)) fun _ => et_andF (et_is (et_notN (b := true) (ev_var rfl) fun d ed => by rw [ed]; rfl) rfl)) ?_
        rw [lt, Bool.or_false]
        rfl
      | some m =>
        refine et_is (et_or (et_test (ev_op (ev_var rfl) (ev_var rfl) rv_lt)) fun _ => et_andT (et_is (et_notN (b := false) (ev_var rfl) fun d ed => by rw [ed]; rfl) rfl) (et_test (ev_op (ev_var rfl) (ev_var rfl) rv_ge))) ?_
        have ge : decide ((m : Int) ≤ (n : Int)) = !decide (n < m) := by
          by_cases h : n < m
          · rw [decide_eq_true h, decide_eq_false (by omega)]; rfl
          · rw [decide_eq_false h, decide_eq_true (by omega)]; rfl
        rw [lt, ge, ← Bool.not_and]
        rfl
    · rw [Bool.not_eq_true'] at e
      exact sv_raise (f := i) (ea_cons (ev_var rfl) (ea_cons (ev_var rfl) ea_nil)) ⟨i, rfl, (key _ e).trans (if_neg Bool.false_ne_true)⟩
    · rw [Bool.not_eq_false'] at e
      exact sv_retX ((ev_var rfl).imp fun d ed => ⟨n, (key _ e).trans (if_pos rfl), ed⟩)
theorem sc_table_at : FnScope ["words", "line", "spot", "prime", "rows", "row", "part"] ["words", "line", "spot", "prime"] (defScope s_table_at) := ⟨rfl, rfl, rfl, by decide +kernel, rfl, by decide +kernel, by decide +kernel⟩
abbrev sp_table_at (K : PySem.W.Frag) (CT : Addr) : Sp := spR K CT (fun q : List Str × Nat × Nat => [wsD q.1, .int 0, .int q.2.1, .int q.2.2]) (fun q => WsOk q.1) (fun q => tAt q.1 q.2.1 q.2.2) tabD
abbrev rowO (r : ORow) : PyData := .tuple (r.map optD)
theorem rowsOf_len {wd : Str} : (rowsOf wd).length ≤ wd.length + 1 ∧ ∀ r ∈ rowsOf wd, r.length ≤ wd.length + 1 := by
  unfold rowsOf
  refine ⟨by rw [List.length_map]; exact split_many (by decide), fun r hr => ?_⟩
  obtain ⟨p, hp, rfl⟩ := List.mem_map.mp hr
  rw [List.length_map]
  have h1 := split_part hp
  have h2 := split_many (x := p) (y := ",") (by decide)
  omega
/-- a table whose rows are right holds numbers -/
theorem tab_of {p : Int} {m : List ORow} (h : isTab p (rowsD m) = true) : PyData.tuple ((rowsD m).map .tuple) = tabD (matOf m) ∧ TabOk p (matOf m) := by
  unfold isTab at h
  obtain ⟨h1, h2⟩ := Bool.and_eq_true_iff.mp h
  obtain ⟨h2, h3⟩ := Bool.and_eq_true_iff.mp h2
  have el : (rowsD m).length = m.length := by simp [rowsD]
  rw [el] at h1 h2
  have num : ∀ r ∈ m, ∀ o ∈ r, ∃ n : Nat, o = some n ∧ (n : Int) < p := fun r hr o ho => by
    have z := List.all_eq_true.mp h3 _ (List.mem_flatMap.mpr ⟨r.map optD, List.mem_map.mpr ⟨r, hr, rfl⟩, List.mem_map.mpr ⟨optD o, List.mem_map.mpr ⟨o, ho, rfl⟩, rfl⟩⟩)
    cases o with
    | none => cases z
    | some n =>
      have z2 : ((true && decide ((0 : Int) ≤ (n : Int))) && decide ((n : Int) < p)) = true := z
      exact ⟨n, rfl, of_decide_eq_true (Bool.and_eq_true_iff.mp z2).2⟩
  refine ⟨?_, ⟨?_, ?_, ?_⟩, ?_, ?_⟩
  · show PyData.tuple _ = PyData.tuple _
    congr 1
    unfold rowsD matOf
    rw [List.map_map, List.map_map]
    refine List.map_congr_left fun r hr => ?_
    show PyData.tuple _ = PyData.tuple _
    congr 1
    rw [List.map_map]
    refine List.map_congr_left fun o ho => ?_
    obtain ⟨n, rfl, _⟩ := num r hr o ho
    rfl
  · rfl
  · intro r hr
    obtain ⟨q, hq, rfl⟩ := List.mem_map.mp hr
    have z := List.all_eq_true.mp h2 _ (List.mem_map.mpr ⟨q.map optD, List.mem_map.mpr ⟨q, hq, rfl⟩, rfl⟩)
    have z2 : (true && decide (((q.map optD).length : Int) = m.length)) = true := z
    have z3 : (q.length : Int) = m.length := by simpa using z2
    rw [List.length_map]
    unfold matOf
    rw [List.length_map]
    omega
  · intro r hr x hx
    obtain ⟨q, hq, rfl⟩ := List.mem_map.mp hr
    obtain ⟨o, ho, rfl⟩ := List.mem_map.mp hx
    obtain ⟨n, rfl, hn⟩ := num q hq o ho
    exact ⟨Int.natCast_nonneg _, hn⟩
  · have z : ((true && decide ((0 : Int) < (m.length : Int))) && decide ((m.length : Int) ≤ 6)) = true := h1
    obtain ⟨z1, z2⟩ := Bool.and_eq_true_iff.mp z
    have z3 := of_decide_eq_true (Bool.and_eq_true_iff.mp z1).2
    unfold matOf
    rw [List.length_map]
    omega
  · have z : ((true && decide ((0 : Int) < (m.length : Int))) && decide ((m.length : Int) ≤ 6)) = true := h1
    obtain ⟨z1, z2⟩ := Bool.and_eq_true_iff.mp z
    have z3 := of_decide_eq_true z2
    unfold matOf
    rw [List.length_map]
    omega
theorem ok_table_at (T : Tx K mg) (F : FnP K "table_at" s_table_at f fd) (k_is_table : Kn P w K mg base 4 "is_table" ["prime", "thing"] (sp_is_table K CT) []) (k_number_of : Kn P w K mg base 1 "number_of" ["word"] (sp_number_of K CT) []) (k_word_at : Kn P w K mg base 1 "word_at" ["words", "line", "spot"] (sp_word_at K CT) []) (TX : TxtX K mg CT fI) (PX : ProgX P) : FnOk P w K mg base (L2.CX P w) 5 f fd ["words", "line", "spot", "prime"] (sp_table_at K CT) := by
  refine fn_x F sc_table_at (fun _ => rfl) fun cdv A outer s H E q hr hp => ?_
  obtain ⟨ws, i, p⟩ := q
  have hw : WsOk ws := hp
  have nd := sc_table_at.nd
  refine ⟨_, (pss_cons (ps_setLc (i := 4) rfl nd rfl rfl (sw_true rfl rfl rfl (by decide +kernel)) (pi_listK (K := K) (pe_split (pe_knX k_word_at hr (passes_call (takes_of rfl rfl rfl rfl) fun _ _ _ _ h => h) (pa_cons (pv 0) (pa_cons (pv 1) (pa_cons (pv 2) pa_nil)))) (pe_gstr T.c_SLASH))) (blkOk_by (own := [("row", 5)]) (by kernel_rfl)) (fun _ _ _ _ _ => (pg_name (i := 5) nd rfl (Or.inl rfl))) (fun _ _ _ _ _ => pts_nil) (fun _ _ _ _ _ => (pe_callTy (T := "tuple") (ct_tupK (K := K)) (by rfl) T.b_tuple (by decide +kernel) (pa_cons (pe_lc rfl nd (pi_listK (K := K) (pe_split (pv 5) (pe_gstr T.c_COMMA))) (blkOk_by (own := [("part", 6)]) (by kernel_rfl)) (fun _ _ _ _ _ => (pg_name (i := 6) nd rfl (Or.inl rfl))) (fun _ _ _ _ _ => pts_nil) (fun _ _ _ _ _ => (pe_kn k_number_of hr (pa_cons (pv 6) pa_nil)))) pa_nil)))) (pss_cons (ps_if (pt_not (pt_val (pe_kn k_is_table hr (pa_cons (pv 3) (pa_cons (pe_callTy (T := "tuple") (ct_tupK (K := K)) (by rfl) T.b_tuple (by decide +kernel) (pa_cons (pv 4) pa_nil)) pa_nil))))) (pss_one (ps_raiseX rfl TX PX hr (takes_of rfl rfl rfl rfl) (pa_cons (pv 1) (pa_cons (pv 2) pa_nil)))) pss_nil) (pss_one (ps_ret (pe_callTy (T := "tuple") (ct_tupK (K := K)) (by rfl) T.b_tuple (by decide +kernel) (pa_cons (pv 4) pa_nil)))))), ?_⟩
  cases hwd : wAt ws i with
  | error e =>
    have hf : tAt ws i p = .error e := by unfold tAt; rw [hwd]; rfl
    refine sv_set (P := fun _ => False) ((ev_lc (b := fun _ => true) (Pe := fun _ _ => False) (PL := fun _ => False) (ei_listg (P := fun _ => False) (ev_m1F (ev_er (G := ⟨K, CT, E, flR (fun q : List Str × Nat × Nat => tAt q.1 q.2.1 q.2.2) (ws, i, p)⟩) (ws, i) (ea_cons (ev_var rfl) (ea_cons (ev_var rfl) (ea_cons (ev_var rfl) ea_nil))) trivial hwd ⟨e, rfl, hf⟩)) fun _ z => z.elim) (by decide) (fun _ z => z.elim) (fun _ z => z.elim) (fun _ z => z.elim)).imp fun d ⟨_, _, z, _⟩ => z) fun x z => z.elim
  | ok wd =>
    have hl := hw.2 wd (wAt_mem hwd)
    obtain ⟨l1, l2⟩ := rowsOf_len (wd := wd)
    have hm : (rowsOf wd).map rowO = (rowsD (rowsOf wd)).map .tuple := by
      unfold rowsD
      rw [List.map_map]
      rfl
    refine sv_setX (x := .list ((rowsD (rowsOf wd)).map .tuple)) ((ev_mapM inj_str (fun r => (Txt.split r ",").map numOf) rowO (ei_list (ev_m1 (ev_ok (ws, i) (ea_cons (ev_var rfl) (ea_cons (ev_var rfl) (ea_cons (ev_var rfl) ea_nil))) trivial hwd) ev_str (rm_split (by decide) (by omega)))) (by decide) (by have := split_many (x := wd) (y := "/") (by decide); omega) fun r hr => ?_).is (by rw [← hm]; rfl)) ?_
    · have r1 := split_part hr
      exact ev_cb (ea_cons (ev_mapM inj_str numOf optD (ei_list (ev_m1 (ev_var rfl) ev_str (rm_split (by decide) (by omega)))) (by decide) (by have := split_many (x := r) (y := ",") (by decide); omega) fun q hq => ev_call0 q (ea_cons (ev_var rfl) ea_nil) (by have := split_part hq; show q.length ≤ _; omega)) ea_nil) rc_tupL
    · refine sv_when (et_not (et_test (ev_call0 ((p : Int), rowsD (rowsOf wd)) (ea_cons (ev_var rfl) (ea_cons (ev_cb (ea_cons (ev_var rfl) ea_nil) rc_tupL) ea_nil)) ?_))) (fun e => ?_) fun e => ?_
      · constructor
        · show (rowsD (rowsOf wd)).length ≤ 100000
          unfold rowsD
          rw [List.length_map]
          omega
        · intro r hr
          obtain ⟨q, hq, rfl⟩ := List.mem_map.mp hr
          have := l2 q hq
          rw [List.length_map]
          omega
      · have h : isTab p (rowsD (rowsOf wd)) = false := by simpa using e
        refine sv_raise (f := i) (ea_cons (ev_var rfl) (ea_cons (ev_var rfl) ea_nil)) ⟨i, rfl, ?_⟩
        show tAt ws i p = _
        unfold tAt
        rw [hwd, ok_bind, h]
        rfl
      · have h : isTab p (rowsD (rowsOf wd)) = true := by simpa using e
        refine sv_retX ((ev_cb (ea_cons (ev_var rfl) ea_nil) rc_tupL).imp fun d ed => ⟨matOf (rowsOf wd), ?_, ed.trans (tab_of h).1⟩)
        show tAt ws i p = _
        unfold tAt
        rw [hwd, ok_bind, h]
        rfl
theorem prm_int {n : Nat} (h : prm n = true) : (1 : Int) < (n : Int) ∧ (n : Int) < 10000 := by
  have := prm_lt h
  omega
theorem pAt_prm {ws : List Str} {i n : Nat} (h : pAt ws i = .ok n) : prm n = true := by
  unfold pAt at h
  cases e : nAt ws i with
  | error j => rw [e, er_bind] at h; cases h
  | ok m =>
    rw [e, ok_bind] at h
    split at h
    · cases h; assumption
    · cases h
theorem tAt_ok {ws : List Str} {i p : Nat} {t : Mat} (h : tAt ws i p = .ok t) : TabOk p t := by
  unfold tAt at h
  cases e : wAt ws i with
  | error j => rw [e, er_bind] at h; cases h
  | ok m =>
    rw [e, ok_bind] at h
    split at h
    · rename_i z
      cases h
      exact (tab_of z).2
    · cases h
theorem fold_lt : ∀ (l : List Nat) (a : Nat), NumText.AllDigits l → l.foldl (fun acc c => acc * 10 + (c - 48)) a < (a + 1) * 10 ^ l.length
  | [], a, _ => by simp
  | c :: r, a, h => by
    have hc := h.head
    have ih := fold_lt r (a * 10 + (c - 48)) h.tail
    rw [List.foldl_cons, List.length_cons, Nat.pow_succ']
    refine Nat.lt_of_lt_of_le ih ?_
    rw [← Nat.mul_assoc]
    exact Nat.mul_le_mul_right _ (by omega)
theorem digitsVal_lt {l : List Nat} (h : NumText.AllDigits l) : NumText.digitsVal l < 10 ^ l.length := by
  have := fold_lt l 0 h
  simpa [NumText.digitsVal] using this
theorem numOf_lt {s : Str} {n : Nat} (h : numOf s = some n) : n < 10 ^ 60 := by
  unfold numOf at h
  split at h
  · rename_i z
    unfold numOk at z
    obtain ⟨z1, z2⟩ := Bool.and_eq_true_iff.mp z
    obtain ⟨z3, z4⟩ := Bool.and_eq_true_iff.mp z2
    have l2 := of_decide_eq_true (Bool.and_eq_true_iff.mp z1).2
    have e : s.length = s.cps.toList.length := by simp [Str.length]
    have h2 := digitsVal_lt (dg_all z3)
    cases h
    refine Nat.lt_of_lt_of_le h2 (Nat.pow_le_pow_right (by decide) (by omega))
  · cases h
theorem nAt_lt {ws : List Str} {i n : Nat} (h : nAt ws i = .ok n) : n < 10 ^ 60 := by
  unfold nAt at h
  cases e : wAt ws i with
  | error j => rw [e, er_bind] at h; cases h
  | ok m =>
    rw [e, ok_bind] at h
    cases e2 : numOf m with
    | none => rw [e2] at h; cases h
    | some k => rw [e2] at h; cases h; exact numOf_lt e2
theorem nIn_ok {ws : List Str} {i lo n : Nat} {hi : Option Nat} (h : nIn ws i lo hi = .ok n) : nAt ws i = .ok n ∧ n < 10 ^ 60 ∧ inB n lo hi = true := by
  unfold nIn at h
  cases e : nAt ws i with
  | error j => rw [e, er_bind] at h; cases h
  | ok m =>
    rw [e, ok_bind] at h
    split at h
    · cases h
      exact ⟨rfl, nAt_lt e, by assumption⟩
    · cases h
theorem sc_turn_at : FnScope ["words", "line", "spot", "prime", "rows", "other"] ["words", "line", "spot"] (defScope s_turn_at) := ⟨rfl, rfl, rfl, by decide +kernel, rfl, by decide +kernel, by decide +kernel⟩
abbrev sp_turn_at (K : PySem.W.Frag) (CT : Addr) : Sp := spR K CT (fun q : List Str × Nat => [wsD q.1, .int 0, .int q.2]) (fun q => WsOk q.1) (fun q => turnAt q.1 q.2) Pc.enc
theorem ev_plus {G : Gd} {ρ : List Sl} {t : TE} {i j : Nat} (h : Ev G t ρ (· = .int i)) : Ev G (tOp (rI0 fun i j => .int (i + j)) t (tC (.int j))) ρ (· = .int ((i + j : Nat) : Int)) := (ev_op h ev_int rv_add).is (by congr 1)
theorem ok_turn_at (T : Tx K mg) (F : FnP K "turn_at" s_turn_at f fd) (k_prime_at : Kn P w K mg base 5 "prime_at" ["words", "line", "spot"] (sp_prime_at K CT) []) (k_table_at : Kn P w K mg base 5 "table_at" ["words", "line", "spot", "prime"] (sp_table_at K CT) []) (k_turn_fault : Kn P w K mg base 5 "turn_fault" ["piece"] (sp_turn_fault K CT) []) (TX : TxtX K mg CT fI) (PX : ProgX P) : FnOk P w K mg base (L2.CX P w) 6 f fd ["words", "line", "spot"] (sp_turn_at K CT) := by
  refine fn_x F sc_turn_at (fun _ => rfl) fun cdv A outer s H E q hr hp => ?_
  obtain ⟨ws, i⟩ := q
  have hw : WsOk ws := hp
  have nd := sc_turn_at.nd
  refine ⟨_, (pss_cons (ps_set (i := 3) nd rfl (Or.inl rfl) (pe_knX k_prime_at hr (passes_call (takes_of rfl rfl rfl rfl) fun _ _ _ _ h => h) (pa_cons (pv 0) (pa_cons (pv 1) (pa_cons (pe_op op_add (pv 2) pe_int) pa_nil))))) (pss_cons (ps_set (i := 4) nd rfl (Or.inl rfl) (pe_knX k_table_at hr (passes_call (takes_of rfl rfl rfl rfl) fun _ _ _ _ h => h) (pa_cons (pv 0) (pa_cons (pv 1) (pa_cons (pe_op op_add (pv 2) pe_int) (pa_cons (pv 3) pa_nil)))))) (pss_cons (ps_set (i := 5) nd rfl (Or.inl rfl) (pe_knX k_prime_at hr (passes_call (takes_of rfl rfl rfl rfl) fun _ _ _ _ h => h) (pa_cons (pv 0) (pa_cons (pv 1) (pa_cons (pe_op op_add (pv 2) pe_int) pa_nil))))) (pss_cons (ps_if (pt_cmpR op_notN (pe_kn k_turn_fault hr (pa_cons (pe_tup (pa_cons (pe_gstr T.c_TURN) (pa_cons (pv 3) (pa_cons (pv 4) (pa_cons (pv 5) pa_nil))))) pa_nil)) pe_non (nomark _)) (pss_one (ps_raiseX rfl TX PX hr (takes_of rfl rfl rfl rfl) (pa_cons (pv 1) (pa_cons (pe_op op_add (pv 2) pe_int) pa_nil)))) pss_nil) (pss_one (ps_ret (pe_tup (pa_cons (pe_gstr T.c_TURN) (pa_cons (pv 3) (pa_cons (pv 4) (pa_cons (pv 5) pa_nil))))))))))), ?_⟩
  cases h1 : pAt ws (i + 1) with
  | error e => exact sv_set (ev_er (ws, i + 1) (ea_cons (ev_var rfl) (ea_cons (ev_var rfl) (ea_cons (ev_plus (ev_var rfl)) ea_nil))) hw h1 ⟨e, rfl, by show turnAt ws i = _; unfold turnAt; rw [h1]; rfl⟩) fun _ z => z.elim
  | ok p =>
    have hp1 := prm_lt (pAt_prm h1)
    refine sv_setX (ev_ok (ws, i + 1) (ea_cons (ev_var rfl) (ea_cons (ev_var rfl) (ea_cons (ev_plus (ev_var rfl)) ea_nil))) hw h1) ?_
    cases h2 : tAt ws (i + 2) p with
    | error e => exact sv_set (ev_er (ws, i + 2, p) (ea_cons (ev_var rfl) (ea_cons (ev_var rfl) (ea_cons (ev_plus (ev_var rfl)) (ea_cons (ev_var rfl) ea_nil)))) hw h2 ⟨e, rfl, by show turnAt ws i = _; unfold turnAt; rw [h1, ok_bind, h2]; rfl⟩) fun _ z => z.elim
    | ok t =>
      refine sv_setX (ev_ok (ws, i + 2, p) (ea_cons (ev_var rfl) (ea_cons (ev_var rfl) (ea_cons (ev_plus (ev_var rfl)) (ea_cons (ev_var rfl) ea_nil)))) hw h2) ?_
      cases h3 : pAt ws (i + 3) with
      | error e => exact sv_set (ev_er (ws, i + 3) (ea_cons (ev_var rfl) (ea_cons (ev_var rfl) (ea_cons (ev_plus (ev_var rfl)) ea_nil))) hw h3 ⟨e, rfl, by show turnAt ws i = _; unfold turnAt; rw [h1, ok_bind, h2, ok_bind, h3]; rfl⟩) fun _ z => z.elim
      | ok q =>
        refine sv_setX (ev_ok (ws, i + 3) (ea_cons (ev_var rfl) (ea_cons (ev_var rfl) (ea_cons (ev_plus (ev_var rfl)) ea_nil))) hw h3) ?_
        have key : turnAt ws i = if turnOk p t q = true then .ok (.turn p t q) else .error (i + 3) := by
          unfold turnAt
          rw [h1, ok_bind, h2, ok_bind, h3]
          rfl
        have tup : ∀ {G : Gd}, Ev G (tTup (tCons (tC (.str "turn")) (tCons (tVar 3) (tCons (tVar 4) (tCons (tVar 5) tNil))))) [.d (wsD ws), .d (.int 0), .d (.int i), .d (.int p), .d (tabD t), .d (.int q)] (· = (Pc.turn p t q).enc) := ev_tup (ea_cons ev_str (ea_cons (ev_var rfl) (ea_cons (ev_var rfl) (ea_cons (ev_var rfl) ea_nil)))) (by simp [Pc.fs])
        refine sv_when (b := !turnOk p t q) (et_notN (b := turnOk p t q) (ev_call0 (p, t, q) (ea_cons tup ea_nil) ⟨hp1.1, hp1.2, tAt_ok h2⟩) fun d hd => hd) (fun e => ?_) fun e => ?_
        · rw [Bool.not_eq_true'] at e
          exact sv_raise (f := ((i + 3 : Nat) : Int)) (ea_cons (ev_var rfl) (ea_cons (ev_plus (ev_var rfl)) ea_nil)) ⟨i + 3, rfl, key.trans (by rw [e]; rfl)⟩
        · rw [Bool.not_eq_false'] at e
          exact sv_retX (tup.imp fun d ed => ⟨_, key.trans (by rw [e]; rfl), ed⟩)
theorem sc_act_at : FnScope ["words", "line", "spot", "many", "size", "unit"] ["words", "line", "spot"] (defScope s_act_at) := ⟨rfl, rfl, rfl, by decide +kernel, rfl, by decide +kernel, by decide +kernel⟩
abbrev sp_act_at (K : PySem.W.Frag) (CT : Addr) : Sp := spR K CT (fun q : List Str × Nat => [wsD q.1, .int 0, .int q.2]) (fun q => WsOk q.1) (fun q => actAt q.1 q.2) Pc.enc
theorem ok_act_at (T : Tx K mg) (F : FnP K "act_at" s_act_at f fd) (k_number_within : Kn P w K mg base 2 "number_within" ["words", "line", "spot", "least", "most"] (sp_number_within K CT) []) (k_common_of : Kn P w K mg base 1 "common_of" ["one", "other"] (sp_common_of K CT) []) (k_act_fault : Kn P w K mg base 2 "act_fault" ["piece"] (sp_act_fault K CT) []) (TX : TxtX K mg CT fI) (PX : ProgX P) : FnOk P w K mg base (L2.CX P w) 3 f fd ["words", "line", "spot"] (sp_act_at K CT) := by
  refine fn_x F sc_act_at (fun _ => rfl) fun cdv A outer s H E q hr hp => ?_
  obtain ⟨ws, i⟩ := q
  have hw : WsOk ws := hp
  have nd := sc_act_at.nd
  refine ⟨_, (pss_cons (ps_set (i := 3) nd rfl (Or.inl rfl) (pe_knX k_number_within hr (passes_call (takes_of rfl rfl rfl rfl) fun _ _ _ _ h => h) (pa_cons (pv 0) (pa_cons (pv 1) (pa_cons (pe_op op_add (pv 2) pe_int) (pa_cons pe_int (pa_cons pe_non pa_nil))))))) (pss_cons (ps_set (i := 4) nd rfl (Or.inl rfl) (pe_knX k_number_within hr (passes_call (takes_of rfl rfl rfl rfl) fun _ _ _ _ h => h) (pa_cons (pv 0) (pa_cons (pv 1) (pa_cons (pe_op op_add (pv 2) pe_int) (pa_cons pe_int (pa_cons pe_non pa_nil))))))) (pss_cons (ps_if (pt_cmpR op_gt (pe_kn k_common_of hr (pa_cons (pv 3) (pa_cons (pv 4) pa_nil))) pe_int (nomark _)) (pss_one (ps_raiseX rfl TX PX hr (takes_of rfl rfl rfl rfl) (pa_cons (pv 1) (pa_cons (pe_op op_add (pv 2) pe_int) pa_nil)))) pss_nil) (pss_cons (ps_set (i := 5) nd rfl (Or.inl rfl) (pe_knX k_number_within hr (passes_call (takes_of rfl rfl rfl rfl) fun _ _ _ _ h => h) (pa_cons (pv 0) (pa_cons (pv 1) (pa_cons (pe_op op_add (pv 2) pe_int) (pa_cons pe_int (pa_cons (pv 3) pa_nil))))))) (pss_cons (ps_if (pt_cmpR op_notN (pe_kn k_act_fault hr (pa_cons (pe_tup (pa_cons (pe_gstr T.c_ACT) (pa_cons (pv 3) (pa_cons (pv 4) (pa_cons (pv 5) pa_nil))))) pa_nil)) pe_non (nomark _)) (pss_one (ps_raiseX rfl TX PX hr (takes_of rfl rfl rfl rfl) (pa_cons (pv 1) (pa_cons (pe_op op_add (pv 2) pe_int) pa_nil)))) pss_nil) (pss_one (ps_ret (pe_tup (pa_cons (pe_gstr T.c_ACT) (pa_cons (pv 3) (pa_cons (pv 4) (pa_cons (pv 5) pa_nil)))))))))))), ?_⟩
  have ag : ∀ {G : Gd} {ρ : List Sl} {j : Nat}, ρ[0]? = some (.d (wsD ws)) → ρ[1]? = some (.d (.int 0)) → ρ[2]? = some (.d (.int i)) → EvA G (tCons (tVar 0) (tCons (tVar 1) (tCons (tOp (rI0 fun i j => .int (i + j)) (tVar 2) (tC (.int j))) (tCons (tC (.int 1)) (tCons (tC .non) tNil))))) ρ (· = [wsD ws, .int 0, .int ((i + j : Nat) : Int), .int ((1 : Nat) : Int), optD none]) := fun a b c => ea_cons (ev_var a) (ea_cons (ev_var b) (ea_cons (ev_plus (ev_var c)) (ea_cons ev_int (ea_cons ev_non ea_nil))))
  cases h1 : nIn ws (i + 1) 1 none with
  | error e => exact sv_set (ev_er (ws, i + 1, 1, none) (ag rfl rfl rfl) hw h1 ⟨e, rfl, by show actAt ws i = _; unfold actAt; rw [h1]; rfl⟩) fun _ z => z.elim
  | ok m =>
    refine sv_setX (ev_ok (ws, i + 1, 1, none) (ag rfl rfl rfl) hw h1) ?_
    cases h2 : nIn ws (i + 2) 1 none with
    | error e => exact sv_set (ev_er (ws, i + 2, 1, none) (ag rfl rfl rfl) hw h2 ⟨e, rfl, by show actAt ws i = _; unfold actAt; rw [h1, ok_bind, h2]; rfl⟩) fun _ z => z.elim
    | ok d =>
      refine sv_setX (ev_ok (ws, i + 2, 1, none) (ag rfl rfl rfl) hw h2) ?_
      refine sv_when (et_test (ev_op (ev_call0 (m, d) (ea_cons (ev_var rfl) (ea_cons (ev_var rfl) ea_nil)) trivial) ev_int rv_gt)) (fun e => ?_) fun e => ?_
      · have h : ¬ Nat.gcd m d ≤ 1 := by
          have : (1 : Int) < (Nat.gcd m d : Int) := of_decide_eq_true e
          omega
        exact sv_raise (f := ((i + 2 : Nat) : Int)) (ea_cons (ev_var rfl) (ea_cons (ev_plus (ev_var rfl)) ea_nil)) ⟨i + 2, rfl, by show actAt ws i = _; unfold actAt; rw [h1, ok_bind, h2, ok_bind, if_neg h]⟩
      · have h : Nat.gcd m d ≤ 1 := by
          have : ¬ (1 : Int) < (Nat.gcd m d : Int) := of_decide_eq_false e
          omega
        have a3 : ∀ {G : Gd} {ρ : List Sl}, ρ[0]? = some (.d (wsD ws)) → ρ[1]? = some (.d (.int 0)) → ρ[2]? = some (.d (.int i)) → ρ[3]? = some (.d (.int m)) → EvA G (tCons (tVar 0) (tCons (tVar 1) (tCons (tOp (rI0 fun i j => .int (i + j)) (tVar 2) (tC (.int 3))) (tCons (tC (.int 0)) (tCons (tVar 3) tNil))))) ρ (· = [wsD ws, .int 0, .int ((i + 3 : Nat) : Int), .int ((0 : Nat) : Int), optD (some m)]) := fun a b c e => ea_cons (ev_var a) (ea_cons (ev_var b) (ea_cons (ev_plus (ev_var c)) (ea_cons ev_int (ea_cons (ev_var e) ea_nil))))
        cases h3 : nIn ws (i + 3) 0 (some m) with
        | error e => exact sv_set (ev_er (ws, i + 3, 0, some m) (a3 rfl rfl rfl rfl) hw h3 ⟨e, rfl, by show actAt ws i = _; unfold actAt; rw [h1, ok_bind, h2, ok_bind, if_pos h, h3]; rfl⟩) fun _ z => z.elim
        | ok u =>
          refine sv_setX (ev_ok (ws, i + 3, 0, some m) (a3 rfl rfl rfl rfl) hw h3) ?_
          have key : actAt ws i = if actOk m d u = true then .ok (.act m d u) else .error (i + 3) := by
            unfold actAt
            rw [h1, ok_bind, h2, ok_bind, if_pos h, h3]
            rfl
          obtain ⟨_, n1, n2⟩ := nIn_ok h1
          have hm1 : 1 ≤ m := of_decide_eq_true n2
          have hm2 : m < 2 ^ 400 := Nat.lt_trans n1 (by decide)
          have tup : ∀ {G : Gd}, Ev G (tTup (tCons (tC (.str "act")) (tCons (tVar 3) (tCons (tVar 4) (tCons (tVar 5) tNil))))) [.d (wsD ws), .d (.int 0), .d (.int i), .d (.int m), .d (.int d), .d (.int u)] (· = (Pc.act m d u).enc) := ev_tup (ea_cons ev_str (ea_cons (ev_var rfl) (ea_cons (ev_var rfl) (ea_cons (ev_var rfl) ea_nil)))) (by simp [Pc.fs])
          refine sv_when (b := !actOk m d u) (et_notN (b := actOk m d u) (ev_call0 (m, d, u) (ea_cons tup ea_nil) ⟨hm1, hm2⟩) fun d hd => hd) (fun e => ?_) fun e => ?_
          · rw [Bool.not_eq_true'] at e
            exact sv_raise (f := ((i + 3 : Nat) : Int)) (ea_cons (ev_var rfl) (ea_cons (ev_plus (ev_var rfl)) ea_nil)) ⟨i + 3, rfl, key.trans (by rw [e]; rfl)⟩
          · rw [Bool.not_eq_false'] at e
            exact sv_retX (tup.imp fun d ed => ⟨_, key.trans (by rw [e]; rfl), ed⟩)
end
end K13
set_option maxHeartbeats 4000000
/-! A piece, a rule read. -/
namespace K13
open PySem L2
def Pc.kind : Pc → Str
  | .ring _ => "ring"
  | .power _ _ => "power"
  | .knot _ => "knot"
  | .turn _ _ _ => "turn"
  | .act _ _ _ => "act"
theorem Pc.at0 (x : Pc) : x.fs[0]? = some (.str x.kind) := by cases x <;> rfl
theorem Pc.sz (x : Pc) : (x.kind, (x.size : Int)) ∈ [(("ring" : Str), (2 : Int)), ("power", 3), ("knot", 2), ("turn", 4), ("act", 4)] := by
  cases x
  · exact (by decide : (("ring" : Str), (2 : Int)) ∈ [(("ring" : Str), (2 : Int)), ("power", 3), ("knot", 2), ("turn", 4), ("act", 4)])
  · exact (by decide : (("power" : Str), (3 : Int)) ∈ [(("ring" : Str), (2 : Int)), ("power", 3), ("knot", 2), ("turn", 4), ("act", 4)])
  · exact (by decide : (("knot" : Str), (2 : Int)) ∈ [(("ring" : Str), (2 : Int)), ("power", 3), ("knot", 2), ("turn", 4), ("act", 4)])
  · exact (by decide : (("turn" : Str), (4 : Int)) ∈ [(("ring" : Str), (2 : Int)), ("power", 3), ("knot", 2), ("turn", 4), ("act", 4)])
  · exact (by decide : (("act" : Str), (4 : Int)) ∈ [(("ring" : Str), (2 : Int)), ("power", 3), ("knot", 2), ("turn", 4), ("act", 4)])
section
variable {G : Gd} {ρ : List Sl} {t ta tb tc te : TE} {tA : TA} {α β : Type} {args : α → List PyData} {pre : α → Prop} {m : α → Rd β} {enc : β → PyData} {x : β} {e : Nat}
theorem ea_no {tr : TA} {Q : List PyData → Prop} (h : Ev G t ρ (fun _ => False)) : EvA G (tCons t tr) ρ Q := fun C A H σ q hk I X k => h C A H σ _ hk I X fun v d H1 I1 f1 n1 d1 p1 => p1.elim
theorem ev_tail (a : α) (ha : EvA G tA ρ (· = args a)) (hp : pre a) {M : Rd β} (h : M = m a) (hf : ∀ e, M = .error e → G.F e) : Ev G (tCall (spX G.K G.CT args pre (fun a d => ∃ x, m a = .ok x ∧ d = enc x) (flR m)) [] G.E tA) ρ (fun d => ∃ x, M = .ok x ∧ d = enc x) :=
  (ev_callX a ha hp fun f ⟨e, h1, h2⟩ => by rw [h1]; exact hf e (h.trans h2)).imp fun d ⟨y, h1, h2⟩ => ⟨y, h.trans h1, h2⟩
end
section
variable {P : Program} {w : World} {K : PySem.W.Frag} {mg : Str → Option Value} {base : Heap} {f : Addr} {fd : FuncData} {CT fI : Addr} {sz : Addr}
theorem sc_piece_at : FnScope ["words", "line", "spot", "kind"] ["words", "line", "spot"] (defScope s_piece_at) := ⟨rfl, rfl, rfl, by decide +kernel, rfl, by decide +kernel, by decide +kernel⟩
abbrev sp_piece_at (K : PySem.W.Frag) (CT : Addr) : Sp := spR K CT (fun q : List Str × Nat => [wsD q.1, .int 0, .int q.2]) (fun q => WsOk q.1) (fun q => pieceAt q.1 q.2) Pc.enc
theorem ok_piece_at (T : Tx K mg) (F : FnP K "piece_at" s_piece_at f fd) (k_word_at : Kn P w K mg base 1 "word_at" ["words", "line", "spot"] (sp_word_at K CT) []) (k_turn_at : Kn P w K mg base 6 "turn_at" ["words", "line", "spot"] (sp_turn_at K CT) []) (k_act_at : Kn P w K mg base 3 "act_at" ["words", "line", "spot"] (sp_act_at K CT) []) (k_prime_at : Kn P w K mg base 5 "prime_at" ["words", "line", "spot"] (sp_prime_at K CT) []) (k_number_within : Kn P w K mg base 2 "number_within" ["words", "line", "spot", "least", "most"] (sp_number_within K CT) []) (TX : TxtX K mg CT fI) (PX : ProgX P) : FnOk P w K mg base (L2.CX P w) 7 f fd ["words", "line", "spot"] (sp_piece_at K CT) := by
  refine fn_x F sc_piece_at (fun _ => rfl) fun cdv A outer s H E q hr hp => ?_
  obtain ⟨ws, i⟩ := q
  have hw : WsOk ws := hp
  have nd := sc_piece_at.nd
  refine ⟨_, (pss_cons (ps_set (i := 3) nd rfl (Or.inl rfl) (pe_knX k_word_at hr (passes_call (takes_of rfl rfl rfl rfl) fun _ _ _ _ h => h) (pa_cons (pv 0) (pa_cons (pv 1) (pa_cons (pv 2) pa_nil))))) (pss_cons (ps_if (pt_cmpR op_eq (pv 3) (pe_gstr T.c_TURN) (nomark _)) (pss_one (ps_ret (pe_knX k_turn_at hr (passes_call (takes_of rfl rfl rfl rfl) fun _ _ _ _ h => h) (pa_cons (pv 0) (pa_cons (pv 1) (pa_cons (pv 2) pa_nil)))))) pss_nil) (pss_cons (ps_if (pt_cmpR op_eq (pv 3) (pe_gstr T.c_ACT) (nomark _)) (pss_one (ps_ret (pe_knX k_act_at hr (passes_call (takes_of rfl rfl rfl rfl) fun _ _ _ _ h => h) (pa_cons (pv 0) (pa_cons (pv 1) (pa_cons (pv 2) pa_nil)))))) pss_nil) (pss_cons (ps_if (pt_cmpR op_eq (pv 3) (pe_gstr T.c_RING) (nomark _)) (pss_one (ps_ret (pe_tup (pa_cons (pv 3) (pa_cons (pe_knX k_number_within hr (passes_call (takes_of rfl rfl rfl rfl) fun _ _ _ _ h => h) (pa_cons (pv 0) (pa_cons (pv 1) (pa_cons (pe_op op_add (pv 2) pe_int) (pa_cons pe_int (pa_cons pe_non pa_nil)))))) pa_nil))))) pss_nil) (pss_cons (ps_if (pt_cmpR op_eq (pv 3) (pe_gstr T.c_KNOT) (nomark _)) (pss_one (ps_ret (pe_tup (pa_cons (pv 3) (pa_cons (pe_knX k_prime_at hr (passes_call (takes_of rfl rfl rfl rfl) fun _ _ _ _ h => h) (pa_cons (pv 0) (pa_cons (pv 1) (pa_cons (pe_op op_add (pv 2) pe_int) pa_nil)))) pa_nil))))) pss_nil) (pss_cons (ps_if (pt_cmpR op_ne (pv 3) (pe_gstr T.c_POWER) (nomark _)) (pss_one (ps_raiseX rfl TX PX hr (takes_of rfl rfl rfl rfl) (pa_cons (pv 1) (pa_cons (pv 2) pa_nil)))) pss_nil) (pss_one (ps_ret (pe_tup (pa_cons (pv 3) (pa_cons (pe_knX k_prime_at hr (passes_call (takes_of rfl rfl rfl rfl) fun _ _ _ _ h => h) (pa_cons (pv 0) (pa_cons (pv 1) (pa_cons (pe_op op_add (pv 2) pe_int) pa_nil)))) (pa_cons (pe_knX k_number_within hr (passes_call (takes_of rfl rfl rfl rfl) fun _ _ _ _ h => h) (pa_cons (pv 0) (pa_cons (pv 1) (pa_cons (pe_op op_add (pv 2) pe_int) (pa_cons pe_int (pa_cons (pe_op op_add (pe_gint T.c_MOST_POWER) pe_int) pa_nil)))))) pa_nil)))))))))))), ?_⟩
  have a3 : ∀ {G : Gd} {ρ : List Sl}, ρ[0]? = some (.d (wsD ws)) → ρ[1]? = some (.d (.int 0)) → ρ[2]? = some (.d (.int i)) → EvA G (tCons (tVar 0) (tCons (tVar 1) (tCons (tVar 2) tNil))) ρ (· = [wsD ws, .int 0, .int i]) := fun a b c => ea_cons (ev_var a) (ea_cons (ev_var b) (ea_cons (ev_var c) ea_nil))
  cases h1 : wAt ws i with
  | error e => exact sv_set (ev_er (ws, i) (a3 rfl rfl rfl) trivial h1 ⟨e, rfl, by show pieceAt ws i = _; unfold pieceAt; rw [h1]; rfl⟩) fun _ z => z.elim
  | ok k =>
    refine sv_setX (ev_ok (ws, i) (a3 rfl rfl rfl) trivial h1) ?_
    have key : pieceAt ws i = if k = "turn" then turnAt ws i else if k = "act" then actAt ws i else if k = "ring" then nIn ws (i + 1) 1 none >>= fun m => .ok (.ring m) else if k = "knot" then pAt ws (i + 1) >>= fun p => .ok (.knot p)
      else if k = "power" then pAt ws (i + 1) >>= fun p => nIn ws (i + 2) 1 (some 7) >>= fun e => .ok (.power p e) else .error i := by
        unfold pieceAt
        rw [h1, ok_bind]
    have ff : ∀ e, pieceAt ws i = .error e → flR (fun q : List Str × Nat => pieceAt q.1 q.2) (ws, i) (e : Int) := fun e h => ⟨e, rfl, h⟩
    refine sv_when (et_test (ev_op (ev_var rfl) ev_str rv_eqS)) (fun e => ?_) fun e => ?_
    · exact sv_retX (ev_tail (ws, i) (a3 rfl rfl rfl) hw (key.trans (if_pos (of_decide_eq_true e))) ff)
    rw [if_neg (of_decide_eq_false e)] at key
    refine sv_when (et_test (ev_op (ev_var rfl) ev_str rv_eqS)) (fun e => ?_) fun e => ?_
    · exact sv_retX (ev_tail (ws, i) (a3 rfl rfl rfl) hw (key.trans (if_pos (of_decide_eq_true e))) ff)
    rw [if_neg (of_decide_eq_false e)] at key
    have n5 : ∀ {G : Gd} {ρ : List Sl}, ρ[0]? = some (.d (wsD ws)) → ρ[1]? = some (.d (.int 0)) → ρ[2]? = some (.d (.int i)) → EvA G (tCons (tVar 0) (tCons (tVar 1) (tCons (tOp (rI0 fun i j => .int (i + j)) (tVar 2) (tC (.int 1))) (tCons (tC (.int 1)) (tCons (tC .non) tNil))))) ρ (· = [wsD ws, .int 0, .int ((i + 1 : Nat) : Int), .int ((1 : Nat) : Int), optD none]) := fun a b c => ea_cons (ev_var a) (ea_cons (ev_var b) (ea_cons (ev_plus (ev_var c)) (ea_cons ev_int (ea_cons ev_non ea_nil))))
    have n3 : ∀ {G : Gd} {ρ : List Sl}, ρ[0]? = some (.d (wsD ws)) → ρ[1]? = some (.d (.int 0)) → ρ[2]? = some (.d (.int i)) → EvA G (tCons (tVar 0) (tCons (tVar 1) (tCons (tOp (rI0 fun i j => .int (i + j)) (tVar 2) (tC (.int 1))) tNil))) ρ (· = [wsD ws, .int 0, .int ((i + 1 : Nat) : Int)]) := fun a b c => ea_cons (ev_var a) (ea_cons (ev_var b) (ea_cons (ev_plus (ev_var c)) ea_nil))
    refine sv_when (et_test (ev_op (ev_var rfl) ev_str rv_eqS)) (fun e => ?_) fun e => ?_
    · have ek := of_decide_eq_true e
      subst ek
      rw [if_pos rfl] at key
      cases h2 : nIn ws (i + 1) 1 none with
      | error j => exact sv_ret (P := fun _ => False) ((ev_tupg (Ps := fun _ => False) (ea_consg (ev_var rfl) (ea_no (Q := fun _ => False) (ev_er (ws, i + 1, 1, none) (n5 rfl rfl rfl) hw h2 (ff j (key.trans (by rw [h2]; rfl))))) |>.imp fun d ⟨_, _, _, _, z⟩ => z) (fun _ z => z.elim)).imp fun d ⟨_, _, z⟩ => z) fun _ z => z.elim
      | ok m => exact sv_retX ((ev_tup (ea_cons (ev_var rfl) (ea_cons (ev_ok (ws, i + 1, 1, none) (n5 rfl rfl rfl) hw h2) ea_nil)) (by simp)).imp fun d ed => ⟨.ring m, key.trans (by rw [h2]; rfl), ed⟩)
    rw [if_neg (of_decide_eq_false e)] at key
    refine sv_when (et_test (ev_op (ev_var rfl) ev_str rv_eqS)) (fun e => ?_) fun e => ?_
    · have ek := of_decide_eq_true e
      subst ek
      rw [if_pos rfl] at key
      cases h2 : pAt ws (i + 1) with
      | error j => exact sv_ret (P := fun _ => False) ((ev_tupg (Ps := fun _ => False) (ea_consg (ev_var rfl) (ea_no (Q := fun _ => False) (ev_er (ws, i + 1) (n3 rfl rfl rfl) hw h2 (ff j (key.trans (by rw [h2]; rfl))))) |>.imp fun d ⟨_, _, _, _, z⟩ => z) (fun _ z => z.elim)).imp fun d ⟨_, _, z⟩ => z) fun _ z => z.elim
      | ok m => exact sv_retX ((ev_tup (ea_cons (ev_var rfl) (ea_cons (ev_ok (ws, i + 1) (n3 rfl rfl rfl) hw h2) ea_nil)) (by simp)).imp fun d ed => ⟨.knot m, key.trans (by rw [h2]; rfl), ed⟩)
    rw [if_neg (of_decide_eq_false e)] at key
    refine sv_when (et_test (ev_op (ev_var rfl) ev_str rv_neS)) (fun e => ?_) fun e => ?_
    · have ek : ¬ k = "power" := by simpa using e
      rw [if_neg ek] at key
      exact sv_raise (f := i) (ea_cons (ev_var rfl) (ea_cons (ev_var rfl) ea_nil)) (ff i key)
    · have ek : k = "power" := by simpa using e
      subst ek
      rw [if_pos rfl] at key
      have n6 : ∀ {G : Gd} {ρ : List Sl}, ρ[0]? = some (.d (wsD ws)) → ρ[1]? = some (.d (.int 0)) → ρ[2]? = some (.d (.int i)) → EvA G (tCons (tVar 0) (tCons (tVar 1) (tCons (tOp (rI0 fun i j => .int (i + j)) (tVar 2) (tC (.int 2))) (tCons (tC (.int 1)) (tCons (tOp (rI0 fun i j => .int (i + j)) (tC (.int 6)) (tC (.int 1))) tNil))))) ρ (· = [wsD ws, .int 0, .int ((i + 2 : Nat) : Int), .int ((1 : Nat) : Int), optD (some 7)]) := fun a b c => ea_cons (ev_var a) (ea_cons (ev_var b) (ea_cons (ev_plus (ev_var c)) (ea_cons ev_int (ea_cons (ev_op ev_int ev_int rv_add) ea_nil))))
      cases h2 : pAt ws (i + 1) with
      | error j => exact sv_ret (P := fun _ => False) ((ev_tupg (Ps := fun _ => False) (ea_consg (ev_var rfl) (ea_no (Q := fun _ => False) (ev_er (ws, i + 1) (n3 rfl rfl rfl) hw h2 (ff j (key.trans (by rw [h2]; rfl))))) |>.imp fun d ⟨_, _, _, _, z⟩ => z) (fun _ z => z.elim)).imp fun d ⟨_, _, z⟩ => z) fun _ z => z.elim
      | ok m =>
        cases h3 : nIn ws (i + 2) 1 (some 7) with
        | error j => exact sv_ret (P := fun _ => False) ((ev_tupg (Ps := fun _ => False) (ea_consg (ev_var rfl) (ea_consg (ev_ok (ws, i + 1) (n3 rfl rfl rfl) hw h2) (ea_no (Q := fun _ => False) (ev_er (ws, i + 2, 1, some 7) (n6 rfl rfl rfl) hw h3 (ff j (key.trans (by rw [h2, ok_bind, h3]; rfl)))))) |>.imp fun d ⟨_, _, _, _, _, _, _, _, z⟩ => z) (fun _ z => z.elim)).imp fun d ⟨_, _, z⟩ => z) fun _ z => z.elim
        | ok n => exact sv_retX ((ev_tup (ea_cons (ev_var rfl) (ea_cons (ev_ok (ws, i + 1) (n3 rfl rfl rfl) hw h2) (ea_cons (ev_ok (ws, i + 2, 1, some 7) (n6 rfl rfl rfl) hw h3) ea_nil))) (by simp)).imp fun d ed => ⟨.power m n, key.trans (by rw [h2, ok_bind, h3]; rfl), ed⟩)
theorem sc_rule_of_words : FnScope ["words", "line", "start", "found", "spot", "piece"] ["words", "line", "start"] (defScope s_rule_of_words) := ⟨rfl, rfl, rfl, by decide +kernel, rfl, by decide +kernel, by decide +kernel⟩
abbrev sp_rule_of_words (K : PySem.W.Frag) (CT : Addr) : Sp := spR K CT (fun ws : List Str => [wsD ws, .int 0, .int 0]) WsOk rulePs ruleD
theorem wAt_lt {ws : List Str} {i : Nat} {w : Str} (h : wAt ws i = .ok w) : i < ws.length := by
  unfold wAt at h
  cases e : ws[i]? with
  | none => rw [e] at h; cases h
  | some v => exact (List.getElem?_eq_some_iff.mp e).1
theorem nAt_len {ws : List Str} {i n : Nat} (h : nAt ws i = .ok n) : i < ws.length := by
  unfold nAt at h
  cases e : wAt ws i with
  | error j => rw [e, er_bind] at h; cases h
  | ok m => exact wAt_lt e
theorem pAt_len {ws : List Str} {i n : Nat} (h : pAt ws i = .ok n) : i < ws.length := by
  unfold pAt at h
  cases e : nAt ws i with
  | error j => rw [e, er_bind] at h; cases h
  | ok m => exact nAt_len e
/-- what a read piece is, by cases -/
theorem pieceAt_ok {ws : List Str} {i : Nat} {x : Pc} (h : pieceAt ws i = .ok x) : wAt ws i = .ok x.kind ∧ i + x.size ≤ ws.length ∧ (match x with
    | .ring m => nIn ws (i + 1) 1 none = .ok m
    | .power p k => pAt ws (i + 1) = .ok p ∧ nIn ws (i + 2) 1 (some 7) = .ok k
    | .knot p => pAt ws (i + 1) = .ok p
    | .turn p t q => pAt ws (i + 1) = .ok p ∧ tAt ws (i + 2) p = .ok t ∧ pAt ws (i + 3) = .ok q ∧ turnOk p t q = true
    | .act m d u => nIn ws (i + 1) 1 none = .ok m ∧ nIn ws (i + 2) 1 none = .ok d ∧ nIn ws (i + 3) 0 (some m) = .ok u ∧ actOk m d u = true) := by
  unfold pieceAt at h
  cases h1 : wAt ws i with
  | error e => rw [h1, er_bind] at h; cases h
  | ok k =>
    rw [h1, ok_bind] at h
    by_cases k1 : k = "turn"
    · subst k1
      rw [if_pos rfl] at h
      unfold turnAt at h
      cases h2 : pAt ws (i + 1) with
      | error e => rw [h2, er_bind] at h; cases h
      | ok p =>
        rw [h2, ok_bind] at h
        cases h3 : tAt ws (i + 2) p with
        | error e => rw [h3, er_bind] at h; cases h
        | ok t =>
          rw [h3, ok_bind] at h
          cases h4 : pAt ws (i + 3) with
          | error e => rw [h4, er_bind] at h; cases h
          | ok q =>
            rw [h4, ok_bind] at h
            split at h
            · rename_i ht
              cases h
              have := pAt_len h4
              exact ⟨rfl, by simp only [Pc.size]; omega, by first | rfl | assumption, by first | rfl | assumption, by first | rfl | assumption, ht⟩
            · cases h
    rw [if_neg k1] at h
    by_cases k2 : k = "act"
    · subst k2
      rw [if_pos rfl] at h
      unfold actAt at h
      cases h2 : nIn ws (i + 1) 1 none with
      | error e => rw [h2, er_bind] at h; cases h
      | ok m =>
        rw [h2, ok_bind] at h
        cases h3 : nIn ws (i + 2) 1 none with
        | error e => rw [h3, er_bind] at h; cases h
        | ok d =>
          rw [h3, ok_bind] at h
          split at h
          · cases h4 : nIn ws (i + 3) 0 (some m) with
            | error e => rw [h4, er_bind] at h; cases h
            | ok u =>
              rw [h4, ok_bind] at h
              split at h
              · rename_i ht
                cases h
                have := nAt_len (nIn_ok h4).1
                exact ⟨rfl, by simp only [Pc.size]; omega, by first | rfl | assumption, by first | rfl | assumption, by first | rfl | assumption, ht⟩
              · cases h
          · cases h
    rw [if_neg k2] at h
    by_cases k3 : k = "ring"
    · subst k3
      rw [if_pos rfl] at h
      cases h2 : nIn ws (i + 1) 1 none with
      | error e => rw [h2, er_bind] at h; cases h
      | ok m =>
        rw [h2, ok_bind] at h
        cases h
        have := nAt_len (nIn_ok h2).1
        exact ⟨rfl, by simp only [Pc.size]; omega, rfl⟩
    rw [if_neg k3] at h
    by_cases k4 : k = "knot"
    · subst k4
      rw [if_pos rfl] at h
      cases h2 : pAt ws (i + 1) with
      | error e => rw [h2, er_bind] at h; cases h
      | ok m =>
        rw [h2, ok_bind] at h
        cases h
        have := pAt_len h2
        exact ⟨rfl, by simp only [Pc.size]; omega, rfl⟩
    rw [if_neg k4] at h
    by_cases k5 : k = "power"
    · subst k5
      rw [if_pos rfl] at h
      cases h2 : pAt ws (i + 1) with
      | error e => rw [h2, er_bind] at h; cases h
      | ok m =>
        rw [h2, ok_bind] at h
        cases h3 : nIn ws (i + 2) 1 (some 7) with
        | error e => rw [h3, er_bind] at h; cases h
        | ok n =>
          rw [h3, ok_bind] at h
          cases h
          have := nAt_len (nIn_ok h3).1
          exact ⟨rfl, by simp only [Pc.size]; omega, rfl, rfl⟩
    rw [if_neg k5] at h
    cases h
theorem pieceAt_good {ws : List Str} {i : Nat} {x : Pc} (h : pieceAt ws i = .ok x) : PcOk x := by
  obtain ⟨_, _, h⟩ := pieceAt_ok h
  cases x with
  | ring m => exact ⟨of_decide_eq_true (nIn_ok h).2.2, (nIn_ok h).2.1⟩
  | power p k =>
    obtain ⟨h1, h2⟩ := h
    have z : (decide (1 ≤ k) && decide (k < 7)) = true := (nIn_ok h2).2.2
    obtain ⟨z1, z2⟩ := Bool.and_eq_true_iff.mp z
    exact ⟨pAt_prm h1, of_decide_eq_true z1, Nat.le_of_lt_succ (of_decide_eq_true z2)⟩
  | knot p => exact pAt_prm h
  | turn p t q =>
    obtain ⟨h1, h2, h3, h4⟩ := h
    exact ⟨pAt_prm h1, tAt_ok h2, pAt_prm h3, h4⟩
  | act m d u =>
    obtain ⟨h1, h2, h3, h4⟩ := h
    have z : (decide (0 ≤ u) && decide (u < m)) = true := (nIn_ok h3).2.2
    exact ⟨of_decide_eq_true (nIn_ok h1).2.2, (nIn_ok h1).2.1, of_decide_eq_true (nIn_ok h2).2.2, (nIn_ok h2).2.1, of_decide_eq_true (Bool.and_eq_true_iff.mp z).2, h4⟩
theorem ok_rule_of_words (T : Tx K mg) (F : FnP K "rule_of_words" s_rule_of_words f fd) (k_piece_at : Kn P w K mg base 7 "piece_at" ["words", "line", "spot"] (sp_piece_at K CT) []) (TX : TxtX K mg CT fI) (PX : ProgX P) (hS : Sz K w mg sz) : FnOk P w K mg base (L2.CX P w) 8 f fd ["words", "line", "start"] (sp_rule_of_words K CT) := by
  refine fn_x F sc_rule_of_words (fun _ => rfl) fun cdv A outer s H E ws hr hw => ?_
  have nd := sc_rule_of_words.nd
  refine ⟨_, (pss_cons (ps_set (i := 3) nd rfl (Or.inl rfl) (pe_lst (pa_cons (pe_knX k_piece_at hr (passes_call (takes_of rfl rfl rfl rfl) fun _ _ _ _ h => h) (pa_cons (pv 0) (pa_cons (pv 1) (pa_cons (pv 2) pa_nil)))) pa_nil))) (pss_cons (ps_set (i := 4) nd rfl (Or.inl rfl) (pe_op op_add (pv 2) (pe_ix ix_kdict (pe_sizes hS) (pe_ix (ix_tupK (K := K)) (pe_ix (ix_listK (K := K)) (pv 3) pe_int (fun _ _ => rfl)) pe_int (fun _ _ => rfl)) (fun _ _ => rfl)))) (pss_cons (ps_while (passes_of rfl) (pt_cmpR op_lt (pv 4) (pe_callB (id := "len") (c_lenK (K := K)) (by rfl) T.b_len PySem.boot_len (pa_cons (pv 0) pa_nil)) (nomark _)) (pss_cons (ps_if (pt_cmpR op_ne (pe_ix (ix_listK (K := K)) (pv 0) (pv 4) (fun _ _ => rfl)) (pe_gstr T.c_BAR) (nomark _)) (pss_one (ps_raiseX rfl TX PX hr (takes_of rfl rfl rfl rfl) (pa_cons (pv 1) (pa_cons (pv 4) pa_nil)))) pss_nil) (pss_cons (ps_set (i := 5) nd rfl (Or.inl rfl) (pe_knX k_piece_at hr (passes_call (takes_of rfl rfl rfl rfl) fun _ _ _ _ h => h) (pa_cons (pv 0) (pa_cons (pv 1) (pa_cons (pe_op op_add (pv 4) pe_int) pa_nil))))) (pss_cons (ps_expr (pe_bm PySem.F.plainAttrs_list PySem.F.slot_list_append PySem.F.type_list_append mt_append (pv 3) (pa_cons (pv 5) pa_nil))) (pss_one (ps_set (i := 4) nd rfl (Or.inl rfl) (pe_op op_add (pe_op op_add (pv 4) pe_int) (pe_ix ix_kdict (pe_sizes hS) (pe_ix (ix_tupK (K := K)) (pv 5) pe_int (fun _ _ => rfl)) (fun _ _ => rfl))))))))) (pss_one (ps_ret (pe_callTy (T := "tuple") (ct_tupK (K := K)) (by rfl) T.b_tuple (by decide +kernel) (pa_cons (pv 3) pa_nil))))))), ?_⟩
  have a0 : ∀ {G : Gd} {ρ : List Sl}, ρ[0]? = some (.d (wsD ws)) → ρ[1]? = some (.d (.int 0)) → ρ[2]? = some (.d (.int 0)) → EvA G (tCons (tVar 0) (tCons (tVar 1) (tCons (tVar 2) tNil))) ρ (· = [wsD ws, .int 0, .int ((0 : Nat) : Int)]) := fun a b c => ea_cons (ev_var a) (ea_cons (ev_var b) (ea_cons (ev_var c) ea_nil))
  have ff : ∀ e, rulePs ws = .error e → flR rulePs ws (e : Int) := fun e h => ⟨e, rfl, h⟩
  cases h1 : pieceAt ws 0 with
  | error e => exact sv_set (P := fun _ => False) ((ev_lstg (Ps := fun _ => False) (ea_no (ev_er (ws, 0) (a0 rfl rfl rfl) hw h1 (ff e (by unfold rulePs; rw [h1]; rfl)))) (fun _ z => z.elim)).imp fun d ⟨_, _, z⟩ => z) fun _ z => z.elim
  | ok x =>
    obtain ⟨_, hl, _⟩ := pieceAt_ok h1
    have hs := x.size_pos
    have key : rulePs ws = moreAt ws x.size [x] := by unfold rulePs; rw [h1]; rfl
    refine sv_own (ea_cons (ev_ok (ws, 0) (a0 rfl rfl rfl) hw h1) ea_nil) (by simp) ?_
    refine sv_setX (x := .int (x.size : Int)) ((ev_op (ev_var rfl) (ev_szIx hS (ev_op (ev_ixO rfl ev_int (atI_nat (j := 0) rfl)) ev_int (rv_ixT (atI_nat (j := 0) x.at0))) x.sz) rv_add).is (by rw [Int.zero_add])) ?_
    refine sv_seq (M := fun ρ' => ∃ a b c acc d e, ρ' = [a, b, c, .own (acc.map Pc.enc), d, e] ∧ rulePs ws = .ok acc) (sv_while (fun m ρ' => ∃ (sp : Nat) (acc : List Pc) (e : Sl), ρ' = [.d (wsD ws), .d (.int 0), .d (.int 0), .own (acc.map Pc.enc), .d (.int sp), e] ∧ m = ws.length - sp ∧ rulePs ws = moreAt ws sp acc ∧ acc.length ≤ sp) _ ⟨x.size, [x], .no, rfl, rfl, key, by simp; omega⟩ ?_) fun ρ' h => ?_
    · rintro m ρ' ⟨sp, acc, e, rfl, rfl, hk, ha⟩
      refine ⟨_, et_test (ev_op (ev_var rfl) (ev_cb (ea_cons (ev_var rfl) ea_nil) rc_lenL) rv_lt), fun h => ?_, fun h => ?_⟩
      · have hsp : sp < ws.length := by
          have := of_decide_eq_true h
          rw [List.length_map] at this
          omega
        have few := hw.1
        have g1 : ws[sp]? = some ws[sp] := by simp [hsp]
        rw [moreAt, dif_pos hsp] at hk
        refine sv_when (et_test (ev_op (ev_op (ev_var rfl) (ev_var rfl) (rv_ixL (d := .str ws[sp]) (atI_nat (by rw [List.getElem?_map, g1]; rfl)))) ev_str rv_neS)) (fun e1 => ?_) fun e1 => ?_
        · have n1 : ¬ ws[sp] = "|" := by simpa using e1
          rw [if_neg n1] at hk
          exact sv_raise (f := sp) (ea_cons (ev_var rfl) (ea_cons (ev_var rfl) ea_nil)) (ff sp hk)
        · have n1 : ws[sp] = "|" := by simpa using e1
          rw [if_pos n1] at hk
          have a1 : ∀ {G : Gd} {ρ : List Sl}, ρ[0]? = some (.d (wsD ws)) → ρ[1]? = some (.d (.int 0)) → ρ[4]? = some (.d (.int sp)) → EvA G (tCons (tVar 0) (tCons (tVar 1) (tCons (tOp (rI0 fun i j => .int (i + j)) (tVar 4) (tC (.int 1))) tNil))) ρ (· = [wsD ws, .int 0, .int ((sp + 1 : Nat) : Int)]) := fun a b c => ea_cons (ev_var a) (ea_cons (ev_var b) (ea_cons (ev_plus (ev_var c)) ea_nil))
          cases h2 : pieceAt ws (sp + 1) with
          | error j => exact sv_set (ev_er (ws, sp + 1) (a1 rfl rfl rfl) hw h2 (ff j (by rw [hk, h2]; rfl))) fun _ z => z.elim
          | ok y =>
            rw [h2, ok_bind] at hk
            have hy := y.size_pos
            refine sv_setX (ev_ok (ws, sp + 1) (a1 rfl rfl rfl) hw h2) (sv_app (P := (· = y.enc)) (xs := acc.map Pc.enc) rfl (ev_var rfl) (by rw [List.length_map]; omega) fun z ez => ?_)
            subst ez
            refine sv_set1 (P := (· = .int ((sp + 1 + y.size : Nat) : Int))) ((ev_op (ev_plus (ev_var rfl)) (ev_szIx hS (ev_op (ev_var rfl) ev_int (rv_ixT (atI_nat (j := 0) y.at0))) y.sz) rv_add).is (by congr 1)) fun z ez => ?_
            subst ez
            refine ⟨ws.length - (sp + 1 + y.size), by omega, sp + 1 + y.size, acc ++ [y], .d y.enc, by rw [List.map_append]; rfl, rfl, hk, ?_⟩
            rw [List.length_append]
            simp
            omega
      · have hsp : ¬ sp < ws.length := by
          have := of_decide_eq_false h
          rw [List.length_map] at this
          omega
        rw [moreAt, dif_neg hsp] at hk
        exact ⟨_, _, _, acc, _, _, rfl, hk⟩
    · obtain ⟨a, b, c, acc, d, e, rfl, hk⟩ := h
      exact sv_retX ((ev_tupO rfl).imp fun d ed => ⟨acc, hk, ed⟩)
theorem sc_rule_read : FnScope ["text"] ["text"] (defScope s_rule_read) := ⟨rfl, rfl, rfl, by decide +kernel, rfl, by decide +kernel, by decide +kernel⟩
abbrev sp_rule_read (K : PySem.W.Frag) (CT : Addr) : Sp := spR K CT (fun s : Str => [.str s]) (fun s => s.length ≤ 40000) ruleRd ruleD
theorem ws_split {s : Str} (h : s.length ≤ 40000) : WsOk (Txt.split s " ") := by
  have h1 := split_many (x := s) (y := " ") (by decide)
  exact ⟨by omega, fun p hp => by have := split_part hp; omega⟩
theorem ok_rule_read (T : Tx K mg) (F : FnP K "rule_read" s_rule_read f fd) (k_want : Kn P w K mg base 1 "want" ["is_right", "name", "place"] (sp_want K CT) [.int (-1)]) (k_rule_of_words : Kn P w K mg base 8 "rule_of_words" ["words", "line", "start"] (sp_rule_of_words K CT) []) : FnOk P w K mg base (L2.CX P w) 9 f fd ["text"] (sp_rule_read K CT) := by
  refine fn_x F sc_rule_read (fun _ => rfl) fun cdv A outer s H E x hr hx => ?_
  have nd := sc_rule_read.nd
  refine ⟨_, (pss_cons (ps_expr (pe_kn k_want hr (pa_cons (pe_callB (id := "isinstance") (c_isiK (K := K)) (by rfl) T.b_isinstance (by decide +kernel) (pa_cons (pv 0) (pa_cons (pe_ty (n := "str") T.b_str) pa_nil))) (pa_cons pe_str pa_nil)))) (pss_one (ps_ret (pe_knX k_rule_of_words hr (passes_call (takes_of rfl rfl rfl rfl) fun _ _ _ _ h => h) (pa_cons (pe_split (pv 0) pe_str) (pa_cons pe_int (pa_cons pe_int pa_nil))))))), ?_⟩
  have hx' : x.length ≤ 40000 := hx
  refine sv_seq (M := fun ρ' => ρ' = [.d (.str x)]) (sv_drop (ev_callD (G := ⟨K, CT, E, flR ruleRd x⟩) dv_int ((("text" : Str), (-1 : Int)) : Str × Int) (ea_cons (ev_isi (ev_var rfl) isi_str) (ea_cons ev_str ea_nil)) rfl trivial) rfl) fun ρ' e => ?_
  subst e
  exact sv_retX (ev_tail (Txt.split x " ") (ea_cons (ev_m1 (ev_var rfl) ev_str (rm_split (by decide) (by omega))) (ea_cons ev_int (ea_cons ev_int ea_nil))) (ws_split hx') rfl fun e h => ⟨e, rfl, h⟩)
end
end K13
set_option maxHeartbeats 4000000
/-! The law's own arithmetic: the same answers by other words. -/
namespace K13
open PySem L2
theorem eqv_nil (xs : List PyData) : PyData.eqv (.list xs) (.list []) = decide (xs = []) := by
  cases xs with
  | nil => rfl
  | cons a r =>
    show PyData.eqvAll (a :: r) [] = _
    simp [PyData.eqvAll]
theorem shaped_nil : SeqAt.shaped (.list []) = true := by decide
theorem lay_opts : ∀ a : ORow, PyData.canLayAll0 (a.map optD) = true ∧ PyData.depthAll (a.map optD) = 0
  | [] => ⟨rfl, rfl⟩
  | i :: a => by
    obtain ⟨h1, h2⟩ := lay_opts a
    rw [List.map_cons]
    cases i with
    | none => exact ⟨by rw [PyData.canLayAll0, h1]; rfl, by rw [PyData.depthAll, h2]; rfl⟩
    | some n => exact ⟨by rw [PyData.canLayAll0, h1]; rfl, by rw [PyData.depthAll, h2]; rfl⟩
theorem shaped_opts (a : ORow) : SeqAt.shaped (.list (a.map optD)) = true := by
  obtain ⟨h1, h2⟩ := lay_opts a
  unfold SeqAt.shaped
  have e1 : PyData.canLay0 (.list (a.map optD)) = true := h1
  have e2 : PyData.depth (.list (a.map optD)) = PyData.depthAll (a.map optD) + 1 := rfl
  rw [e1, e2, h2]
  rfl
theorem inj_opt (a b : Option Nat) (h : optD a = optD b) : a = b := by
  cases a <;> cases b <;> first | rfl | (cases h; rfl) | cases h
theorem inj_rowO (a b : ORow) (h : rowO a = rowO b) : a = b := List.map_inj_right (fun x y e => inj_opt x y e) |>.mp (PyData.tuple.inj h)
/-! ### primes by the small primes -/
def smallP : List Int := [2, 3, 5, 7, 11, 13, 17, 19, 23, 29, 31, 37, 41, 43, 47, 53, 59, 61, 67, 71, 73, 79, 83, 89, 97]
theorem small_div : ∀ q ∈ rngI 2 98, ∃ p ∈ smallP, p ≤ q ∧ q % p = 0 := by decide
theorem small_in : ∀ p ∈ smallP, p ∈ rngI 2 98 := by decide
theorem small_pos : ∀ p ∈ smallP, 2 ≤ p := by decide
/-- no small prime below n divides it: n has no part among 2 .. 99 -/
theorem small_prime (n : Nat) (h2 : 2 ≤ n) (h4 : n < 10000) : decide ((smallP.filter fun p => decide (p < (n : Int)) && decide ((n : Int) % p = 0)) = []) = prm n := by
  have e1 : prm n = (((rngI 2 98).filter fun p => decide (p < (n : Int))).map fun p => decide (0 < (n : Int) % p)).all id := by
    unfold prm isPrm isIdx isNum isPrimeBy
    have a1 : decide ((0 : Int) ≤ (n : Int)) = true := decide_eq_true (by omega)
    have a2 : decide ((n : Int) < 10000) = true := decide_eq_true (by omega)
    have a3 : decide ((1 : Int) < (n : Int)) = true := decide_eq_true (by omega)
    show (((true && decide ((0 : Int) ≤ (n : Int))) && decide ((n : Int) < 10000)) && (decide ((1 : Int) < (n : Int)) && _)) = _
    rw [a1, a2, a3]
    rfl
  rw [e1]
  apply Bool.eq_iff_iff.mpr
  rw [decide_eq_true_iff, List.all_eq_true]
  constructor
  · intro h b hb
    obtain ⟨q, hq, rfl⟩ := List.mem_map.mp hb
    obtain ⟨hq1, hq2⟩ := List.mem_filter.mp hq
    have hq3 : q < (n : Int) := of_decide_eq_true hq2
    show decide (0 < (n : Int) % q) = true
    apply decide_eq_true
    have hqp := rngI_mem hq1
    have nn := Int.emod_nonneg (n : Int) (show q ≠ 0 by omega)
    rcases Int.lt_or_eq_of_le nn with z | z
    · exact z
    · exfalso
      obtain ⟨p, hp, hpq, hd⟩ := small_div q hq1
      have pd : p ∣ (n : Int) := Int.dvd_trans (Int.dvd_of_emod_eq_zero hd) (Int.dvd_of_emod_eq_zero z.symm)
      have : p ∈ smallP.filter fun p => decide (p < (n : Int)) && decide ((n : Int) % p = 0) := List.mem_filter.mpr ⟨hp, by rw [decide_eq_true (show p < (n : Int) by omega), decide_eq_true (Int.emod_eq_zero_of_dvd pd)]; rfl⟩
      rw [h] at this
      cases this
  · intro h
    apply List.filter_eq_nil_iff.mpr
    intro p hp hz
    obtain ⟨z1, z2⟩ := Bool.and_eq_true_iff.mp hz
    have z3 := of_decide_eq_true z1
    have z4 := of_decide_eq_true z2
    have := h _ (List.mem_map.mpr ⟨p, List.mem_filter.mpr ⟨small_in p hp, z1⟩, rfl⟩)
    have z5 : 0 < (n : Int) % p := of_decide_eq_true this
    omega
section
variable {P : Program} {w : World} {K : PySem.W.Frag} {mg : Str → Option Value} {base : Heap} {f : Addr} {fd : FuncData} {CT fI : Addr} {sz : Addr}
theorem sc_law_is_whole : FnScope ["_law_item"] ["_law_item"] (defScope s_law_is_whole) := ⟨rfl, rfl, rfl, by decide +kernel, rfl, by decide +kernel, by decide +kernel⟩
abbrev sp_law_is_whole (K : PySem.W.Frag) (CT : Addr) : Sp := spX K CT (fun x : PyData => [x]) (fun _ => True) (fun x d => d = .bool (isI x)) nof
theorem ok_law_is_whole (T : Tx K mg) (F : FnP K "_law_is_whole" s_law_is_whole f fd)  : FnOk P w K mg base (L2.CX P w) 1 f fd ["_law_item"] (sp_law_is_whole K CT) := by
  refine fn_x F sc_law_is_whole (fun _ => rfl) fun cdv A outer s H E x hr hp => ?_
  have nd := sc_law_is_whole.nd
  refine ⟨_, (pss_one (ps_ret (pe_and (pe_callB (id := "isinstance") (c_isiK (K := K)) (by rfl) T.b_isinstance (by decide +kernel) (pa_cons (pv 0) (pa_cons (pe_ty (n := "int") T.b_int) pa_nil))) (pe_one (pe_not (pe_callB (id := "isinstance") (c_isiK (K := K)) (by rfl) T.b_isinstance (by decide +kernel) (pa_cons (pv 0) (pa_cons (pe_ty (n := "bool") T.b_bool) pa_nil)))))))), ?_⟩
  have e : isI x = (isIB x && !isBB x) := by cases x <;> rfl
  show Sv _ _ _ _ (fun d => d = .bool (isI x))
  rw [e]
  exact sv_retX (ev_andV (ev_isi (ev_var rfl) (kit_x (isi_I x))) fun _ => ev_notV (ev_isi (ev_var rfl) (kit_x (isi_B x))))
theorem sc_law_is_prime : FnScope ["_law_item", "_law_small", "_law_p"] ["_law_item"] (defScope s_law_is_prime) := ⟨rfl, rfl, rfl, by decide +kernel, rfl, by decide +kernel, by decide +kernel⟩
abbrev sp_law_is_prime (K : PySem.W.Frag) (CT : Addr) : Sp := spX K CT (fun n : Nat => [.int n]) (fun _ => True) (fun n d => d = .bool (prm n)) nof
theorem ok_law_is_prime (T : Tx K mg) (F : FnP K "_law_is_prime" s_law_is_prime f fd) (k_law_is_whole : Kn P w K mg base 1 "_law_is_whole" ["_law_item"] (sp_law_is_whole K CT) []) : FnOk P w K mg base (L2.CX P w) 2 f fd ["_law_item"] (sp_law_is_prime K CT) := by
  refine fn_x F sc_law_is_prime (fun _ => rfl) fun cdv A outer s H E n hr hp => ?_
  have nd := sc_law_is_prime.nd
  refine ⟨_, (pss_cons (ps_if (PW.pt (pw_or (pt_not (pt_val (pe_kn k_law_is_whole hr (pa_cons (pv 0) pa_nil)))) (pw_or (pt_cmpR op_lt (pv 0) pe_int (nomark _)) (pw_or1 (pt_cmpR op_ge (pv 0) pe_int (nomark _)))))) (pss_one (ps_ret pe_bl)) pss_nil) (pss_cons (ps_set (i := 1) nd rfl (Or.inl rfl) (pe_lst (pa_cons pe_int (pa_cons pe_int (pa_cons pe_int (pa_cons pe_int (pa_cons pe_int (pa_cons pe_int (pa_cons pe_int (pa_cons pe_int (pa_cons pe_int (pa_cons pe_int (pa_cons pe_int (pa_cons pe_int (pa_cons pe_int (pa_cons pe_int (pa_cons pe_int (pa_cons pe_int (pa_cons pe_int (pa_cons pe_int (pa_cons pe_int (pa_cons pe_int (pa_cons pe_int (pa_cons pe_int (pa_cons pe_int (pa_cons pe_int (pa_cons pe_int pa_nil))))))))))))))))))))))))))) (pss_one (ps_ret (pe_cmpR (eqDK (K := K) hr.units) (pe_lc rfl nd (pi_listK (K := K) (pv 1)) (blkOk_by (own := [("_law_p", 2)]) (by kernel_rfl)) (fun _ _ _ _ _ => (pg_name (i := 2) nd rfl (Or.inl rfl))) (fun _ _ _ _ _ => (pts_one (PW.pt (pw_and (pt_cmpR op_lt (pv 2) (pv 0) (nomark _)) (pw_and1 (pt_cmpR op_eq (pe_op op_mod (pe_callTy (T := "int") call_int1 (by rfl) T.b_int (by decide +kernel) (pa_cons (pv 0) pa_nil)) (pv 2)) pe_int (nomark _))))))) (fun _ _ _ _ _ => (pv 2))) (pe_lst pa_nil) (nomark _)))))), ?_⟩
  refine sv_when (et_orF (et_is (et_not (et_test (ev_call0 (.int n) (ea_cons (ev_var rfl) ea_nil) trivial))) rfl) (et_or (et_test (ev_op (ev_var rfl) ev_int rv_lt)) fun _ => et_test (ev_op (ev_var rfl) ev_int rv_ge))) (fun e => ?_) fun e => ?_
  · refine sv_ret ev_bl fun d ed => ?_
    rw [ed]
    show PyData.bool false = .bool (prm n)
    congr 1
    cases h : prm n with
    | false => rfl
    | true =>
      have := prm_lt h
      rw [decide_eq_false (show ¬ (n : Int) < 2 by omega), decide_eq_false (show ¬ (10000 : Int) ≤ (n : Int) by omega)] at e
      cases e
  · obtain ⟨e1, e2⟩ := Bool.or_eq_false_iff.mp e
    have h2 := of_decide_eq_false e1
    have h4 := of_decide_eq_false e2
    have sm : smallP.length ≤ 10000000 := by decide
    refine sv_setX (x := .list (smallP.map .int)) (ev_lst (ea_cons ev_int (ea_cons ev_int (ea_cons ev_int (ea_cons ev_int (ea_cons ev_int (ea_cons ev_int (ea_cons ev_int (ea_cons ev_int (ea_cons ev_int (ea_cons ev_int (ea_cons ev_int (ea_cons ev_int (ea_cons ev_int (ea_cons ev_int (ea_cons ev_int (ea_cons ev_int (ea_cons ev_int (ea_cons ev_int (ea_cons ev_int (ea_cons ev_int (ea_cons ev_int (ea_cons ev_int (ea_cons ev_int (ea_cons ev_int (ea_cons ev_int ea_nil))))))))))))))))))))))))) (by decide)) ?_
    refine sv_retX (Ev.is (ev_op (ev_lcM inj_int (fun p => decide (p < (n : Int)) && decide ((n : Int) % p = 0)) id PyData.int (ei_list (ev_var rfl)) (by decide) sm (fun p hp => et_and (et_test (ev_op (ev_var rfl) (ev_var rfl) rv_lt)) fun _ => et_test (ev_op (ev_op (ev_cb (ea_cons (ev_var rfl) ea_nil) rc_intI) (ev_var rfl) (rv_mod (by have := small_pos p hp; omega))) ev_int rv_eqI)) (fun p hp _ => ev_var rfl)) (ev_lst ea_nil) (rv_eqD (shaped_ints _) shaped_nil)) ?_)
    rw [eqv_nil, List.map_id, ← small_prime n (by omega) (by omega)]
    congr 1
    exact decide_eq_decide.mpr List.map_eq_nil_iff
theorem sc_law_is_table : FnScope ["_law_p", "_law_rows", "_law_own", "_law_one"] ["_law_p", "_law_rows"] (defScope s_law_is_table) := ⟨rfl, rfl, rfl, by decide +kernel, rfl, by decide +kernel, by decide +kernel⟩
abbrev sp_law_is_table (K : PySem.W.Frag) (CT : Addr) : Sp := spX K CT (fun q : Nat × List ORow => [.int q.1, .tuple ((rowsD q.2).map .tuple)]) (fun q => q.2.length ≤ 100000 ∧ ∀ r ∈ q.2, r.length ≤ 100000) (fun q d => d = .bool (isTab q.1 (rowsD q.2))) nof
theorem rowsD_map (m : List ORow) : (rowsD m).map .tuple = m.map rowO := by
  unfold rowsD
  rw [List.map_map]
  rfl
/-- one row as the law looks at it -/
def rowB (p n : Nat) (r : ORow) : Bool := decide (r.length = n) && r.all fun o => isIdx p (optD o)
theorem isTab_rows (p : Nat) (m : List ORow) : isTab p (rowsD m) = (decide (1 ≤ m.length) && decide (m.length ≤ 6) && m.all (rowB p m.length)) := by
  unfold isTab
  have el : (rowsD m).length = m.length := by simp [rowsD]
  rw [el]
  have a1 : isPow (.int m.length) = (decide (1 ≤ m.length) && decide (m.length ≤ 6)) := by
    show ((true && decide ((0 : Int) < (m.length : Int))) && decide ((m.length : Int) ≤ 6)) = _
    rw [Bool.true_and]
    congr 1
    · exact decide_eq_decide.mpr (by omega)
    · exact decide_eq_decide.mpr (by omega)
  rw [a1]
  congr 1
  apply Bool.eq_iff_iff.mpr
  rw [Bool.and_eq_true, List.all_eq_true, List.all_eq_true, List.all_eq_true]
  constructor
  · rintro ⟨h1, h2⟩ r hr
    unfold rowB
    have z1 := h1 _ (List.mem_map.mpr ⟨r.map optD, List.mem_map.mpr ⟨r, hr, rfl⟩, rfl⟩)
    have z2 : (true && decide (((r.map optD).length : Int) = m.length)) = true := z1
    have z3 : r.length = m.length := by
      have := of_decide_eq_true (Bool.and_eq_true_iff.mp z2).2
      rw [List.length_map] at this
      omega
    rw [decide_eq_true z3, Bool.true_and, List.all_eq_true]
    intro o ho
    exact h2 _ (List.mem_flatMap.mpr ⟨r.map optD, List.mem_map.mpr ⟨r, hr, rfl⟩, List.mem_map.mpr ⟨optD o, List.mem_map.mpr ⟨o, ho, rfl⟩, rfl⟩⟩)
  · intro h
    refine ⟨fun b hb => ?_, fun b hb => ?_⟩
    · obtain ⟨x, hx, rfl⟩ := List.mem_map.mp hb
      obtain ⟨r, hr, rfl⟩ := List.mem_map.mp hx
      have z := (Bool.and_eq_true_iff.mp (h r hr)).1
      have z1 := of_decide_eq_true z
      show (true && decide (((r.map optD).length : Int) = m.length)) = true
      rw [List.length_map, decide_eq_true (by omega)]
      rfl
    · obtain ⟨x, hx, hb⟩ := List.mem_flatMap.mp hb
      obtain ⟨r, hr, rfl⟩ := List.mem_map.mp hx
      obtain ⟨y, hy, rfl⟩ := List.mem_map.mp hb
      obtain ⟨o, ho, rfl⟩ := List.mem_map.mp hy
      have z := (Bool.and_eq_true_iff.mp (h r hr)).2
      exact List.all_eq_true.mp z o ho
theorem ok_law_is_table (T : Tx K mg) (F : FnP K "_law_is_table" s_law_is_table f fd) (k_law_is_whole : Kn P w K mg base 1 "_law_is_whole" ["_law_item"] (sp_law_is_whole K CT) []) : FnOk P w K mg base (L2.CX P w) 2 f fd ["_law_p", "_law_rows"] (sp_law_is_table K CT) := by
  refine fn_x F sc_law_is_table (fun _ => rfl) fun cdv A outer s H E q hr hp => ?_
  obtain ⟨p, m⟩ := q
  obtain ⟨hl, hl1⟩ := hp
  simp only at hl hl1
  have nd := sc_law_is_table.nd
  refine ⟨_, (pss_cons (ps_if (PW.pt (pw_or (pt_not (pt_val (pe_callB (id := "isinstance") (c_isiK (K := K)) (by rfl) T.b_isinstance (by decide +kernel) (pa_cons (pv 1) (pa_cons (pe_ty (n := "tuple") T.b_tuple) pa_nil))))) (pw_or1 (pt_not (pt_chain op_le op_le pe_int (pe_callB (id := "len") (c_lenK (K := K)) (by rfl) T.b_len PySem.boot_len (pa_cons (pv 1) pa_nil)) pe_int))))) (pss_one (ps_ret pe_bl)) pss_nil) (pss_cons (ps_for (passes_of rfl) rfl (pi_tupK (K := K) (pv 1)) (pg_name (i := 2) nd rfl (Or.inl rfl)) (pss_cons (ps_if (PW.pt (pw_or (pt_not (pt_val (pe_callB (id := "isinstance") (c_isiK (K := K)) (by rfl) T.b_isinstance (by decide +kernel) (pa_cons (pv 2) (pa_cons (pe_ty (n := "tuple") T.b_tuple) pa_nil))))) (pw_or1 (pt_cmpR op_ne (pe_callB (id := "len") (c_lenK (K := K)) (by rfl) T.b_len PySem.boot_len (pa_cons (pv 2) pa_nil)) (pe_callB (id := "len") (c_lenK (K := K)) (by rfl) T.b_len PySem.boot_len (pa_cons (pv 1) pa_nil)) (nomark _))))) (pss_one (ps_ret pe_bl)) pss_nil) (pss_one (ps_if (pt_cmpR (neDK (K := K) hr.units) (pe_lc rfl nd (pi_tupK (K := K) (pv 2)) (blkOk_by (own := [("_law_one", 3)]) (by kernel_rfl)) (fun _ _ _ _ _ => (pg_name (i := 3) nd rfl (Or.inl rfl))) (fun _ _ _ _ _ => (pts_one (PW.pt (pw_or (pt_not (pt_val (pe_kn k_law_is_whole hr (pa_cons (pv 3) pa_nil)))) (pw_or1 (pt_not (pt_chain op_le op_lt pe_int (pv 3) (pv 0)))))))) (fun _ _ _ _ _ => (pv 3))) (pe_lst pa_nil) (nomark _)) (pss_one (ps_ret pe_bl)) pss_nil)))) (pss_one (ps_ret pe_bl)))), ?_⟩
  show Sv _ _ _ _ (fun d => d = .bool (isTab p (rowsD m)))
  rw [isTab_rows]
  have em : PyData.tuple ((rowsD m).map .tuple) = .tuple (m.map rowO) := by rw [rowsD_map]
  have len : ∀ {G : Gd} {ρ : List Sl}, ρ[1]? = some (.d (.tuple ((rowsD m).map .tuple))) → Ev G (tCB (rLenQ G.K) (tCons (tVar 1) tNil)) ρ (· = .int m.length) := fun h => (ev_cb (ea_cons (ev_var h) ea_nil) rc_lenT).is (by rw [rowsD_map, List.length_map])
  refine sv_when (et_orF (et_is (et_not (et_test (ev_isi (ev_var rfl) (kit_x (isi_T _))))) rfl) (et_not (et_test (ev_chain ev_int (len rfl) ev_int rv_le fun _ => rv_le)))) (fun e => ?_) fun e => ?_
  · have h : (decide (1 ≤ m.length) && decide (m.length ≤ 6)) = false := by
      rw [Bool.not_eq_true'] at e
      rw [← e]
      congr 1
      · exact decide_eq_decide.mpr (by omega)
      · exact decide_eq_decide.mpr (by omega)
    rw [h]
    exact sv_retX ev_bl
  · have h : (decide (1 ≤ m.length) && decide (m.length ≤ 6)) = true := by
      rw [Bool.not_eq_false'] at e
      rw [← e]
      congr 1
      · exact decide_eq_decide.mpr (by omega)
      · exact decide_eq_decide.mpr (by omega)
    rw [h, Bool.true_and]
    refine sv_seq (M := fun _ => m.all (rowB p m.length) = true) (sv_for (xs := m.map rowO) (ei_tup ((ev_var rfl).is em)) (fun i ρ' => (∃ a b, ρ' = [.d (.int p), .d (.tuple ((rowsD m).map .tuple)), a, b]) ∧ (m.take i).all (rowB p m.length) = true) ⟨⟨_, _, rfl⟩, by simp⟩ ?_ ?_) fun ρ' hm => by rw [hm]; exact sv_retX ev_bl
    · rintro i x ρ' hx ⟨⟨a, b, rfl⟩, hi⟩
      rw [List.getElem?_map] at hx
      cases hz : m[i]? with
      | none => rw [hz] at hx; cases hx
      | some r =>
        rw [hz] at hx
        cases hx
        have hrm := List.mem_of_getElem? hz
        have lr := hl1 r hrm
        have bad : rowB p m.length r = false → m.all (rowB p m.length) = false := fun h => by
          cases z : m.all (rowB p m.length) with
          | false => rfl
          | true => rw [List.all_eq_true.mp z r hrm] at h; cases h
        refine ⟨_, gv_name, ?_⟩
        refine sv_when (et_orF (et_is (et_not (et_test (ev_isi (ev_var rfl) (kit_x (isi_T _))))) rfl) (et_neI (ev_cb (ea_cons (ev_var rfl) ea_nil) rc_lenT) (len rfl) rfl)) (fun e2 => ?_) fun e2 => ?_
        · have h2 : rowB p m.length r = false := by
            rw [Bool.not_eq_true'] at e2
            have := of_decide_eq_false e2
            rw [List.length_map] at this
            unfold rowB
            rw [decide_eq_false (by omega)]
            rfl
          rw [bad h2]
          exact sv_retX ev_bl
        · have h2 : r.length = m.length := by
            rw [Bool.not_eq_false'] at e2
            have := of_decide_eq_true e2
            rw [List.length_map] at this
            omega
          refine sv_if (Pb := (· = !(r.all fun o => isIdx p (optD o)))) (et_is (et_test (ev_op (ev_lcM inj_opt (fun o => !isIdx p (optD o)) id optD (ei_tup (ev_var rfl)) (by decide) (by omega) (fun o ho => ?_) (fun o ho _ => ev_var rfl)) (ev_lst ea_nil) (rv_neD (shaped_opts _) shaped_nil))) ?_) (fun e3 => ?_) fun e3 => ?_
          · cases o with
            | none => exact et_is (et_orT (et_is (et_not (et_test (ev_call0 .none (ea_cons (ev_var rfl) ea_nil) trivial))) rfl)) rfl
            | some n =>
              refine et_is (et_orF (et_is (et_not (et_test (ev_call0 (.int n) (ea_cons (ev_var rfl) ea_nil) trivial))) rfl) (et_not (et_test (ev_chain ev_int (ev_var rfl) (ev_var rfl) rv_le fun _ => rv_lt)))) ?_
              rfl
          · rw [eqv_nil, List.map_id]
            congr 1
            apply Bool.eq_iff_iff.mpr
            rw [decide_eq_true_iff, List.map_eq_nil_iff, List.filter_eq_nil_iff, List.all_eq_true]
            constructor
            · intro h o ho
              have := h o ho
              simpa using this
            · intro h o ho
              simp [h o ho]
          · have h3 : rowB p m.length r = false := by
              rw [eq_comm, Bool.not_eq_true'] at e3
              unfold rowB
              rw [e3, Bool.and_false]
            rw [bad h3]
            exact sv_retX ev_bl
          · refine sv_next ⟨⟨_, _, rfl⟩, ?_⟩
            rw [eq_comm, Bool.not_eq_false'] at e3
            have h3 : rowB p m.length r = true := by
              unfold rowB
              rw [e3, decide_eq_true h2]
              rfl
            rw [List.take_succ, hz, List.all_append, hi]
            simp [h3]
    · rintro ρ' ⟨_, h⟩
      rw [List.length_map, List.take_length] at h
      exact h
theorem sc_law_product : FnScope ["_law_p", "_law_one", "_law_two", "_law_found", "_law_own", "_law_late", "_law_j", "_law_k"] ["_law_p", "_law_one", "_law_two"] (defScope s_law_product) := ⟨rfl, rfl, rfl, by decide +kernel, rfl, by decide +kernel, by decide +kernel⟩
abbrev sp_law_product (K : PySem.W.Frag) (CT : Addr) : Sp := spX K CT (fun p : Int × Nat × Mat × Mat => [.int p.1, tabD p.2.2.1, tabD p.2.2.2]) (fun p => 0 < p.1 ∧ p.1 ≤ 10000 ∧ p.2.1 ≤ 1000 ∧ MatOk p.1 p.2.1 p.2.2.1 ∧ MatOk p.1 p.2.1 p.2.2.2) (fun p d => d = tabD (mulM p.1 p.2.1 p.2.2.1 p.2.2.2)) nof
theorem ok_law_product (T : Tx K mg) (F : FnP K "_law_product" s_law_product f fd)  : FnOk P w K mg base (L2.CX P w) 1 f fd ["_law_p", "_law_one", "_law_two"] (sp_law_product K CT) := by
  refine fn_x F sc_law_product (fun _ => rfl) fun cdv A outer s H E q hr hp => ?_
  obtain ⟨p, n, a, b⟩ := q
  obtain ⟨hp0, hp1, hn, ha, hb⟩ := hp
  simp only at hp0 hp1 hn ha hb
  have nd := sc_law_product.nd
  refine ⟨_, (pss_cons (ps_set (i := 3) nd rfl (Or.inl rfl) (pe_lst pa_nil)) (pss_cons (ps_for (passes_of rfl) rfl (pi_tupK (K := K) (pv 1)) (pg_name (i := 4) nd rfl (Or.inr rfl)) (pss_cons (ps_set (i := 5) nd rfl (Or.inl rfl) (pe_lst pa_nil)) (pss_cons (ps_for (passes_of rfl) rfl (pi_range1 (by rfl) T.b_range (pa_cons (pe_callB (id := "len") (c_lenK (K := K)) (by rfl) T.b_len PySem.boot_len (pa_cons (pv 2) pa_nil)) pa_nil)) (pg_name (i := 6) nd rfl (Or.inr rfl)) (pss_one (ps_expr (pe_bm PySem.F.plainAttrs_list PySem.F.slot_list_append PySem.F.type_list_append mt_append (pv 5) (pa_cons (pe_op op_mod (pe_callTy (T := "int") call_int1 (by rfl) T.b_int (by decide +kernel) (pa_cons (pe_callB (id := "sum") (c_sumK (K := K) rfl) (by rfl) T.b_sum (by decide +kernel) (pa_cons (pe_lc rfl nd (pi_range1 (by rfl) T.b_range (pa_cons (pe_callB (id := "len") (c_lenK (K := K)) (by rfl) T.b_len PySem.boot_len (pa_cons (pv 2) pa_nil)) pa_nil)) (blkOk_by (own := [("_law_k", 7)]) (by kernel_rfl)) (fun _ _ _ _ _ => (pg_name (i := 7) nd rfl (Or.inl rfl))) (fun _ _ _ _ _ => pts_nil) (fun _ _ _ _ _ => (pe_op op_mul (pe_ix (ix_tupK (K := K)) (pv 4) (pv 7) (fun _ _ => rfl)) (pe_ix (ix_tupK (K := K)) (pe_ix (ix_tupK (K := K)) (pv 2) (pv 7) (fun _ _ => rfl)) (pv 6) (fun _ _ => rfl))))) pa_nil)) pa_nil)) (pv 0)) pa_nil))))) (pss_one (ps_expr (pe_bm PySem.F.plainAttrs_list PySem.F.slot_list_append PySem.F.type_list_append mt_append (pv 3) (pa_cons (pe_callTy (T := "tuple") (ct_tupK (K := K)) (by rfl) T.b_tuple (by decide +kernel) (pa_cons (pv 5) pa_nil)) pa_nil))))))) (pss_one (ps_ret (pe_callTy (T := "tuple") (ct_tupK (K := K)) (by rfl) T.b_tuple (by decide +kernel) (pa_cons (pv 3) pa_nil)))))), ?_⟩
  have hbl := hb.len
  have rng : ∀ {G : Gd} {ρ : List Sl}, ρ[2]? = some (.d (tabD b)) → EvI G (iRng1 (tCons (tCB (rLenQ G.K) (tCons (tVar 2) tNil)) tNil)) ρ (· = (rngI 0 n).map PyData.int) := fun {G ρ} h => by
    have := ei_rng1 (G := G) (ρ := ρ) (j := (n : Int)) ((ea_cons (ev_cb (ea_cons (ev_var h) ea_nil) rc_lenT) ea_nil).imp fun d e => by rw [e, List.length_map, hbl]) (by omega) (by omega)
    exact this
  refine sv_own ea_nil (by decide) ?_
  refine sv_seq (M := fun ρ' => ∃ x y z u, ρ' = [.d (.int p), .d (tabD a), .d (tabD b), .own ((mulM p n a b).map rowD), x, y, z, u]) (sv_for (ei_tup (ev_var rfl)) (fun i ρ' => ∃ x y z u, ρ' = [.d (.int p), .d (tabD a), .d (tabD b), .own (((mulM p n a b).take i).map rowD), x, y, z, u]) ⟨_, _, _, _, rfl⟩ ?_ ?_) ?_
  · rintro i x ρ' hx ⟨_, _, _, _, rfl⟩
    rw [List.getElem?_map] at hx
    cases er : a[i]? with
    | none => rw [er] at hx; cases hx
    | some r =>
      rw [er] at hx
      cases hx
      have hr1 : r ∈ a := List.mem_of_getElem? er
      have hrl := ha.row r hr1
      have hi : i < a.length := (List.getElem?_eq_some_iff.mp er).1
      have hal := ha.len
      have rowLen : (mulRow p n r b).length = n := by simp [mulRow, rngI_len]
      refine ⟨_, gv_name, sv_own ea_nil (by decide) ?_⟩
      refine sv_seq (M := fun ρ' => ∃ z u, ρ' = [.d (.int p), .d (tabD a), .d (tabD b), .own (((mulM p n a b).take i).map rowD), .d (rowD r), .own ((mulRow p n r b).map .int), z, u]) (sv_for (rng rfl) (fun j ρ' => ∃ z u, ρ' = [.d (.int p), .d (tabD a), .d (tabD b), .own (((mulM p n a b).take i).map rowD), .d (rowD r), .own (((mulRow p n r b).take j).map .int), z, u]) ⟨_, _, rfl⟩ ?_ ?_) ?_
      · rintro j y ρ' hy ⟨z, u, rfl⟩
        rw [List.getElem?_map] at hy
        cases eh : (rngI 0 n)[j]? with
        | none => rw [eh] at hy; cases hy
        | some h =>
          rw [eh] at hy
          cases hy
          have hh' := rngI_mem (List.mem_of_getElem? eh)
          have hj : j < n := by have := (List.getElem?_eq_some_iff.mp eh).1; rwa [rngI_len] at this
          refine ⟨_, gv_name, sv_appL (P := (· = .int (((rngI 0 n).map fun k => getI r k * getI (getR b k) h).sum % p))) (xs := ((mulRow p n r b).take j).map .int) rfl ?_ (by simp; omega) fun d ed => ⟨.d (.int h), u, ?_⟩⟩
          · refine ev_op (ev_cb (ea_cons (ev_cb (ea_cons (ev_mapM inj_int (fun k => getI r k * getI (getR b k) h) PyData.int (rng rfl) (by decide) (by rw [rngI_len]; omega) fun k hk => ?_) ea_nil) rc_sum) ea_nil) rc_intI) (ev_var rfl) (rv_mod hp0)
            have hk' := rngI_mem hk
            have hb1 := hb.getR hk'.1 (by omega : k < n)
            have hx := ha.num r hr1 _ (getI_mem hrl hk'.1 (by omega))
            exact ev_op (ev_op (ev_var rfl) (ev_var rfl) (rv_ixT (atI_map hrl hk'.1 (by omega) 0))) (ev_op (ev_op (ev_var rfl) (ev_var rfl) (rv_ixT (atI_map hb.len hk'.1 (by omega) []))) (ev_var rfl) (rv_ixT (atI_map (hb.row _ hb1) hh'.1 (by omega) 0))) (rv_mul (.inl (by unfold getI at hx; omega)))
          · rw [ed]
            have e1 : (mulRow p n r b).take (j + 1) = (mulRow p n r b).take j ++ [((rngI 0 n).map fun k => getI r k * getI (getR b k) h).sum % p] := by
              rw [List.take_succ]
              unfold mulRow
              rw [List.getElem?_map, eh]
              rfl
            rw [e1, List.map_append]
            rfl
      · rintro ρ' ⟨z, u, rfl⟩
        have e1 : (mulRow p n r b).take n = mulRow p n r b := List.take_of_length_le (by omega)
        refine ⟨z, u, ?_⟩
        rw [List.length_map, rngI_len, e1]
      · rintro ρ' ⟨z, u, rfl⟩
        refine sv_appL (P := (· = rowD (mulRow p n r b))) (xs := ((mulM p n a b).take i).map rowD) rfl (ev_tupO rfl) (by simp; omega) fun d ed => ⟨.d (rowD r), .own ((mulRow p n r b).map .int), z, u, ?_⟩
        rw [ed]
        have e1 : (mulM p n a b).take (i + 1) = (mulM p n a b).take i ++ [mulRow p n r b] := by
          rw [List.take_succ]
          unfold mulM
          rw [List.getElem?_map, er]
          rfl
        rw [e1, List.map_append]
        rfl
  · rintro ρ' ⟨x, y, z, u, rfl⟩
    refine ⟨x, y, z, u, ?_⟩
    rw [List.length_map, List.take_of_length_le (by simp [mulM])]
  · rintro ρ' ⟨x, y, z, u, rfl⟩
    exact sv_retX (ev_tupO rfl)
theorem sc_law_does_turn : FnScope ["_law_p", "_law_rows", "_law_q", "_law_size", "_law_plain", "_law_found", "_law_base", "_law_rest", "_law_i", "_law_j"] ["_law_p", "_law_rows", "_law_q"] (defScope s_law_does_turn) := ⟨rfl, rfl, rfl, by decide +kernel, rfl, by decide +kernel, by decide +kernel⟩
abbrev sp_law_does_turn (K : PySem.W.Frag) (CT : Addr) : Sp := spX K CT (fun q : Nat × Mat × Nat => [.int q.1, tabD q.2.1, .int q.2.2]) (fun q => 1 < q.1 ∧ q.1 < 10000 ∧ TabOk q.1 q.2.1) (fun q d => d = .bool (!decide (q.2.1 = unitM q.2.1.length) && decide (powL q.1 q.2.1.length q.2.2 (unitM q.2.1.length) q.2.1 = unitM q.2.1.length))) nof
theorem ok_law_does_turn (T : Tx K mg) (F : FnP K "_law_does_turn" s_law_does_turn f fd) (k_law_product : Kn P w K mg base 1 "_law_product" ["_law_p", "_law_one", "_law_two"] (sp_law_product K CT) []) : FnOk P w K mg base (L2.CX P w) 2 f fd ["_law_p", "_law_rows", "_law_q"] (sp_law_does_turn K CT) := by
  refine fn_x F sc_law_does_turn (fun _ => rfl) fun cdv A outer s H E q hr hp => ?_
  obtain ⟨p, a, e⟩ := q
  obtain ⟨hp0, hp1, ha'⟩ := hp
  simp only at hp0 hp1 ha'
  have ha := ha'.1
  have hn := ha'.2.2
  generalize hnn : a.length = n at ha hn
  have nd := sc_law_does_turn.nd
  refine ⟨_, (pss_cons (ps_set (i := 3) nd rfl (Or.inr rfl) (pe_callB (id := "len") (c_lenK (K := K)) (by rfl) T.b_len PySem.boot_len (pa_cons (pv 1) pa_nil))) (pss_cons (ps_set (i := 4) nd rfl (Or.inl rfl) (pe_callTy (T := "tuple") (ct_tupK (K := K)) (by rfl) T.b_tuple (by decide +kernel) (pa_cons (pe_lc rfl nd (pi_range1 (by rfl) T.b_range (pa_cons (pv 3) pa_nil)) (blkOk_by (own := [("_law_i", 8)]) (by kernel_rfl)) (fun _ _ _ _ _ => (pg_name (i := 8) nd rfl (Or.inr rfl))) (fun _ _ _ _ _ => pts_nil) (fun _ _ _ _ _ => (pe_callTy (T := "tuple") (ct_tupK (K := K)) (by rfl) T.b_tuple (by decide +kernel) (pa_cons (pe_lc rfl nd (pi_range1 (by rfl) T.b_range (pa_cons (pv 3) pa_nil)) (blkOk_by (own := [("_law_j", 9)]) (by kernel_rfl)) (fun _ _ _ _ _ => (pg_name (i := 9) nd rfl (Or.inl rfl))) (fun _ _ _ _ _ => pts_nil) (fun _ _ _ _ _ => (pe_callTy (T := "int") call_int1 (by rfl) T.b_int (by decide +kernel) (pa_cons (pe_cmpR op_eq (pv 8) (pv 9) (nomark _)) pa_nil)))) pa_nil)))) pa_nil))) (pss_cons (ps_par3 (i := 5) (j := 6) (l := 7) (by rfl) nd rfl rfl rfl (by decide) (by decide) (by decide) rfl rfl rfl (pa_cons (pv 4) (pa_cons (pv 1) (pa_cons (pv 2) pa_nil))) (by rfl)) (pss_cons (ps_while (passes_of rfl) (pt_cmpR op_gt (pv 7) pe_int (nomark _)) (pss_cons (ps_if (pt_cmpR op_eq (pe_op op_mod (pe_callTy (T := "int") call_int1 (by rfl) T.b_int (by decide +kernel) (pa_cons (pv 7) pa_nil)) pe_int) pe_int (nomark _)) (pss_one (ps_set (i := 5) nd rfl (Or.inl rfl) (pe_kn k_law_product hr (pa_cons (pv 0) (pa_cons (pv 5) (pa_cons (pv 6) pa_nil)))))) pss_nil) (pss_one (ps_par (i := 6) (j := 7) (by rfl) nd rfl rfl (by decide) rfl rfl (pa_cons (pe_kn k_law_product hr (pa_cons (pv 0) (pa_cons (pv 6) (pa_cons (pv 6) pa_nil)))) (pa_cons (pe_op op_fdiv (pv 7) pe_int) pa_nil)) (by rfl))))) (pss_one (ps_ret (pe_and (pe_cmpR (neDK (K := K) hr.units) (pv 1) (pv 4) (nomark _)) (pe_one (pe_cmpR (eqDK (K := K) hr.units) (pv 5) (pv 4) (nomark _)))))))))), ?_⟩
  show Sv _ _ _ _ (fun d => d = .bool (!decide (a = unitM n) && decide (powL p n e (unitM n) a = unitM n)))
  refine sv_setX (x := .int n) ((ev_cb (ea_cons (ev_var rfl) ea_nil) rc_lenT).is (by rw [List.length_map, hnn])) ?_
  refine sv_setX (x := tabD (unitM n)) (ev_cb (ea_cons (ev_mapM inj_int (fun j => (rngI 0 n).map fun k => if decide (j = k) = true then (1 : Int) else 0) rowD (ei_rng1 (ea_cons (ev_var rfl) ea_nil) (by omega) (by omega)) (by decide) (by rw [rngI_len]; omega) fun j hj => ?_) ea_nil) rc_tupL) ?_
  · exact ev_cb (ea_cons (ev_mapM inj_int (fun k => if decide (j = k) = true then (1 : Int) else 0) PyData.int (ei_rng1 (ea_cons (ev_var rfl) ea_nil) (by omega) (by omega)) (by decide) (by rw [rngI_len]; omega) fun k hk => ev_cb (ea_cons (ev_op (ev_var rfl) (ev_var rfl) rv_eqI) ea_nil) rc_intB) ea_nil) rc_tupL
  refine sv_par3 (ea_cons (ev_var rfl) (ea_cons (ev_var rfl) (ea_cons (ev_var rfl) ea_nil))) ?_
  have ok : ∀ {x y : Mat}, MatOk p n x → MatOk p n y → MatOk p n (mulM p n x y) := fun hx hy => mulM_ok (by omega) hx.len
  refine sv_seq (M := fun ρ' => ∃ y z u v, ρ' = [.d (.int p), .d (tabD a), .d (.int e), .d (.int n), .d (tabD (unitM n)), .d (tabD (powL p n e (unitM n) a)), y, z, u, v]) (sv_while (fun k ρ' => ∃ fo la : Mat, ∃ u v, ρ' = [.d (.int p), .d (tabD a), .d (.int e), .d (.int n), .d (tabD (unitM n)), .d (tabD fo), .d (tabD la), .d (.int k), u, v] ∧ MatOk p n fo ∧ MatOk p n la ∧ powL p n k fo la = powL p n e (unitM n) a) e ⟨unitM n, a, _, _, rfl, unitM_ok (by omega) n, ha, rfl⟩ ?_) fun ρ' h => ?_
  · rintro k ρ' ⟨fo, la, u, v, rfl, h1, h2, h3⟩
    refine ⟨_, et_test (ev_op (ev_var rfl) ev_int rv_gt), fun h => ?_, fun h => ?_⟩
    · have hk : 0 < k := by simpa using h
      rw [powL, dif_neg (by omega)] at h3
      have cp : ∀ {x y : Mat}, MatOk p n x → MatOk p n y → (0 : Int) < (p : Int) ∧ (p : Int) ≤ 10000 ∧ n ≤ 1000 ∧ MatOk p n x ∧ MatOk p n y := fun hx hy => ⟨by omega, by omega, by omega, hx, hy⟩
      refine sv_seq (M := fun ρ' => ρ' = [.d (.int p), .d (tabD a), .d (.int e), .d (.int n), .d (tabD (unitM n)), .d (tabD (if k % 2 = 1 then mulM p n fo la else fo)), .d (tabD la), .d (.int k), u, v]) (sv_if (et_test (ev_op (ev_op (ev_cb (ea_cons (ev_var rfl) ea_nil) rc_intI) ev_int (rv_mod (by decide))) ev_int rv_eqI)) (fun e1 => ?_) (fun e1 => ?_)) fun ρ' e2 => ?_
      · have e2 : (k : Int) % 2 = 1 := by simpa using e1.symm
        refine sv_set1 (ev_call0 (G := ⟨K, CT, E, nof (p, a, e)⟩) ((p : Int), n, fo, la) (ea_cons (ev_var rfl) (ea_cons (ev_var rfl) (ea_cons (ev_var rfl) ea_nil))) (cp h1 h2)) fun x ex => ?_
        rw [if_pos (by omega), ex]
        rfl
      · have e2 : (k : Int) % 2 ≠ 1 := by simpa using e1.symm
        refine sv_next ?_
        rw [if_neg (by omega)]
      · subst e2
        refine sv_parL (x := tabD (mulM p n la la)) (y := .int ((k / 2 : Nat) : Int)) (ea_cons (ev_call0 (G := ⟨K, CT, E, nof (p, a, e)⟩) ((p : Int), n, la, la) (ea_cons (ev_var rfl) (ea_cons (ev_var rfl) (ea_cons (ev_var rfl) ea_nil))) (cp h2 h2)) (ea_cons (ev_op (ev_var rfl) ev_int (rv_div ⟨by decide, by decide⟩)) ea_nil)) ⟨k / 2, by omega, _, _, u, v, rfl, ?_, ok h2 h2, h3⟩
        split
        · exact ok h1 h2
        · exact h1
    · have hk : k = 0 := by
        have : ¬ (0 : Int) < k := by simpa using h
        omega
      subst hk
      rw [powL, dif_pos rfl] at h3
      exact ⟨_, _, _, _, by rw [h3]⟩
  · obtain ⟨y, z, u, v, rfl⟩ := h
    refine sv_retX (Ev.is (ev_andV (ev_op (ev_var rfl) (ev_var rfl) (rv_neD (shaped_tab _) (shaped_tab _))) fun _ => ev_op (ev_var rfl) (ev_var rfl) (rv_eqD (shaped_tab _) (shaped_tab _))) ?_)
    rw [eqv_tab, eqv_tab]
theorem sc_law_share : FnScope ["_law_one", "_law_other"] ["_law_one", "_law_other"] (defScope s_law_share) := ⟨rfl, rfl, rfl, by decide +kernel, rfl, by decide +kernel, by decide +kernel⟩
abbrev sp_law_share (K : PySem.W.Frag) (CT : Addr) : Sp := spX K CT (fun p : Nat × Nat => [.int p.1, .int p.2]) (fun _ => True) (fun p d => d = .int (Nat.gcd p.1 p.2 : Nat)) nof
theorem ok_law_share (T : Tx K mg) (F : FnP K "_law_share" s_law_share f fd)  : FnOk P w K mg base (L2.CX P w) 1 f fd ["_law_one", "_law_other"] (sp_law_share K CT) := by
  refine fn_x F sc_law_share (fun _ => rfl) fun cdv A outer s H E p hr hp => ?_
  have nd := sc_law_share.nd
  refine ⟨_, (pss_cons (ps_while (passes_of rfl) (pt_cmpR op_gt (pv 1) pe_int (nomark _)) (pss_one (ps_par (i := 0) (j := 1) (by rfl) nd rfl rfl (by decide) rfl rfl (pa_cons (pv 1) (pa_cons (pe_op op_mod (pe_callTy (T := "int") call_int1 (by rfl) T.b_int (by decide +kernel) (pa_cons (pv 0) pa_nil)) (pv 1)) pa_nil)) (by rfl)))) (pss_one (ps_ret (pv 0)))), ?_⟩
  refine sv_seq (M := fun ρ' => ρ' = [.d (.int (Nat.gcd p.1 p.2 : Nat)), .d (.int 0)]) (sv_while (fun m ρ' => ∃ a : Nat, ρ' = [.d (.int a), .d (.int m)] ∧ Nat.gcd a m = Nat.gcd p.1 p.2) p.2 ⟨p.1, rfl, rfl⟩ ?_) fun ρ' e => by rw [e]; exact sv_retX (ev_var rfl)
  rintro m ρ' ⟨a, rfl, hg⟩
  refine ⟨_, et_test (ev_op (ev_var rfl) ev_int rv_gt), fun h => ?_, fun h => ?_⟩
  · have hm : 0 < m := by simpa using h
    refine sv_parL (ea_cons (ev_var rfl) (ea_cons (ev_op (ev_cb (ea_cons (ev_var rfl) ea_nil) rc_intI) (ev_var rfl) (rv_mod (by omega))) ea_nil)) ⟨a % m, Nat.mod_lt _ hm, m, rfl, ?_⟩
    rw [← hg, Nat.gcd_comm m, ← Nat.gcd_rec, Nat.gcd_comm]
  · have hm : m = 0 := by
      have : ¬ (0 : Int) < m := by simpa using h
      omega
    subst hm
    rw [← hg, Nat.gcd_zero_right]
    rfl
theorem sc_law_does_act : FnScope ["_law_m", "_law_d", "_law_u", "_law_found", "_law_base", "_law_rest"] ["_law_m", "_law_d", "_law_u"] (defScope s_law_does_act) := ⟨rfl, rfl, rfl, by decide +kernel, rfl, by decide +kernel, by decide +kernel⟩
abbrev sp_law_does_act (K : PySem.W.Frag) (CT : Addr) : Sp := spX K CT (fun q : Nat × Nat × Nat => [.int q.1, .int q.2.1, .int q.2.2]) (fun q => 0 < q.1 ∧ q.1 < 2 ^ 400 ∧ q.2.2 < q.1) (fun q d => d = .bool (decide (q.2.2 ^ q.2.1 % q.1 = 1 % q.1))) nof
theorem wide_le {a b m : Nat} (ha : a ≤ m) (hb : b ≤ m) (hm : m < 2 ^ 400) : CMulW (a : Int) (b : Int) := wide_mul (a := 400) (b := 400) (by omega) (by omega) (by decide) (by decide) (by decide)
theorem ok_law_does_act (T : Tx K mg) (F : FnP K "_law_does_act" s_law_does_act f fd)  : FnOk P w K mg base (L2.CX P w) 1 f fd ["_law_m", "_law_d", "_law_u"] (sp_law_does_act K CT) := by
  refine fn_x F sc_law_does_act (fun _ => rfl) fun cdv A outer s H E p hr hp => ?_
  obtain ⟨m, e, b⟩ := p
  obtain ⟨hm0, hm, hb⟩ := hp
  simp only at hm0 hm hb
  have nd := sc_law_does_act.nd
  refine ⟨_, (pss_cons (ps_par3 (i := 3) (j := 4) (l := 5) (by rfl) nd rfl rfl rfl (by decide) (by decide) (by decide) rfl rfl rfl (pa_cons pe_int (pa_cons (pv 2) (pa_cons (pv 1) pa_nil))) (by rfl)) (pss_cons (ps_while (passes_of rfl) (pt_cmpR op_gt (pv 5) pe_int (nomark _)) (pss_cons (ps_if (pt_cmpR op_eq (pe_op op_mod (pe_callTy (T := "int") call_int1 (by rfl) T.b_int (by decide +kernel) (pa_cons (pv 5) pa_nil)) pe_int) pe_int (nomark _)) (pss_one (ps_set (i := 3) nd rfl (Or.inl rfl) (pe_op op_mod (pe_callTy (T := "int") call_int1 (by rfl) T.b_int (by decide +kernel) (pa_cons (pe_op op_mulW (pv 3) (pv 4)) pa_nil)) (pv 0)))) pss_nil) (pss_one (ps_par (i := 4) (j := 5) (by rfl) nd rfl rfl (by decide) rfl rfl (pa_cons (pe_op op_mod (pe_callTy (T := "int") call_int1 (by rfl) T.b_int (by decide +kernel) (pa_cons (pe_op op_mulW (pv 4) (pv 4)) pa_nil)) (pv 0)) (pa_cons (pe_op op_fdiv (pv 5) pe_int) pa_nil)) (by rfl))))) (pss_one (ps_ret (pe_cmpR op_eq (pe_op op_mod (pe_callTy (T := "int") call_int1 (by rfl) T.b_int (by decide +kernel) (pa_cons (pe_op op_sub (pv 3) pe_int) pa_nil)) (pv 0)) pe_int (nomark _)))))), ?_⟩
  have hmi : (0 : Int) < (m : Int) := by omega
  refine sv_par3 (ea_cons ev_int (ea_cons (ev_var rfl) (ea_cons (ev_var rfl) ea_nil))) ?_
  refine sv_seq (M := fun ρ' => ∃ x y : Sl, ∃ fo : Nat, ρ' = [.d (.int m), .d (.int e), .d (.int b), .d (.int fo), x, y] ∧ fo % m = b ^ e % m) (sv_while (fun k ρ' => ∃ fo la : Nat, ρ' = [.d (.int m), .d (.int e), .d (.int b), .d (.int fo), .d (.int la), .d (.int k)] ∧ fo ≤ m ∧ la ≤ m ∧ fo * la ^ k % m = b ^ e % m) e ⟨1, b, rfl, hm0, by omega, by rw [Nat.one_mul]⟩ ?_) fun ρ' h => ?_
  · rintro k ρ' ⟨fo, la, rfl, h1, h2, h3⟩
    refine ⟨_, et_test (ev_op (ev_var rfl) ev_int rv_gt), fun h => ?_, fun h => ?_⟩
    · have hk : 0 < k := by simpa using h
      refine sv_seq (M := fun ρ' => ρ' = [.d (.int m), .d (.int e), .d (.int b), .d (.int ((if k % 2 = 1 then fo * la % m else fo : Nat) : Int)), .d (.int la), .d (.int k)]) (sv_if (et_test (ev_op (ev_op (ev_cb (ea_cons (ev_var rfl) ea_nil) rc_intI) ev_int (rv_mod (by decide))) ev_int rv_eqI)) (fun e1 => ?_) (fun e1 => ?_)) fun ρ' e2 => ?_
      · have e2 : (k : Int) % 2 = 1 := by simpa using e1.symm
        refine sv_set1 (ev_op (ev_cb (ea_cons (ev_op (ev_var rfl) (ev_var rfl) (rv_I (fun _ _ => .int _) (wide_le h1 h2 hm))) ea_nil) rc_intI) (ev_var rfl) (rv_mod hmi)) fun x ex => ?_
        rw [if_pos (by omega), ex]
        rfl
      · have e2 : (k : Int) % 2 ≠ 1 := by simpa using e1.symm
        refine sv_next ?_
        rw [if_neg (by omega)]
      · subst e2
        refine sv_parL (x := .int ((la * la % m : Nat) : Int)) (y := .int ((k / 2 : Nat) : Int)) (ea_cons (ev_op (ev_cb (ea_cons (ev_op (ev_var rfl) (ev_var rfl) (rv_I (fun _ _ => .int _) (wide_le h2 h2 hm))) ea_nil) rc_intI) (ev_var rfl) (rv_mod hmi)) (ea_cons (ev_op (ev_var rfl) ev_int (rv_div ⟨by decide, by decide⟩)) ea_nil)) ⟨k / 2, by omega, if k % 2 = 1 then fo * la % m else fo, la * la % m, rfl, ?_, Nat.le_of_lt (Nat.mod_lt _ hm0), ?_⟩
        · split
          · exact Nat.le_of_lt (Nat.mod_lt _ hm0)
          · exact h1
        · rw [← h3]
          exact pow_step fo la k m
    · have hk : k = 0 := by
        have : ¬ (0 : Int) < k := by simpa using h
        omega
      subst hk
      rw [Nat.pow_zero, Nat.mul_one] at h3
      exact ⟨_, _, fo, rfl, h3⟩
  · obtain ⟨x, y, fo, rfl, h3⟩ := h
    refine sv_retX (Ev.is (ev_op (ev_op (ev_cb (ea_cons (ev_op (ev_var rfl) ev_int rv_sub) ea_nil) rc_intI) (ev_var rfl) (rv_mod hmi)) ev_int rv_eqI) ?_)
    congr 1
    refine decide_eq_decide.mpr ?_
    show ((fo : Int) - 1) % (m : Int) = 0 ↔ b ^ e % m = 1 % m
    rw [← h3, ← Int.emod_eq_emod_iff_emod_sub_eq_zero]
    constructor
    · intro h
      have : ((fo % m : Nat) : Int) = ((1 % m : Nat) : Int) := by
        rw [Int.natCast_emod, Int.natCast_emod]
        exact h
      exact_mod_cast this
    · intro h
      have : ((fo % m : Nat) : Int) = ((1 % m : Nat) : Int) := by rw [h]
      rw [Int.natCast_emod, Int.natCast_emod] at this
      exact this
end
end K13
set_option maxHeartbeats 4000000
/-! The law's own reader: word by word the same answers. -/
namespace K13
open PySem PySem.Spec PyProof.Rows L2
/-! ### a list against the empty one -/
def rNeNil (K : PySem.W.Frag) : R2 := fun x y H Q => ∃ a b xs, x = .ref a ∧ y = .ref b ∧ SqL K H a xs ∧ SqL K H b [] ∧ Q (.bl (!xs.isEmpty)) H
theorem op_neNil {X : Cx} {K : PySem.W.Frag} (hu : X.A.units + 64 < cLine) (h : X.K = K := by rfl) : OpR X (compareOp .NotEq) (rNeNil K) := by
  subst h
  intro pins s σ H x y v u Q I rx ry h
  obtain ⟨a, b, xs, rfl, rfl, h1, h2, q⟩ := h
  obtain rfl : v = Value.ref a := rx
  obtain rfl : u = Value.ref b := ry
  obtain ⟨i1, r1, p1, _⟩ := I.list h1
  obtain ⟨i2, r2, p2, _⟩ := I.list h2
  have l1 := r1.length
  have l2 := r2.length
  have e2 : i2 = [] := List.length_eq_zero_iff.mp l2.symm
  subst e2
  cases xs with
  | nil =>
    have e1 : i1 = [] := List.length_eq_zero_iff.mp l1.symm
    subst e1
    exact SeqAt.RcNeAt.lists (e := fun _ => true) p1.isList p2.isList rfl (by omega) (fun j j1 _ => absurd j1 (Nat.not_lt_zero j)) X.prog X.w _ _ ⟨.bl false, H, I, rfl, q⟩
  | cons z r =>
    refine SeqAt.RcNeAt.lists_lengths p1.isList p2.isList ?_ (by omega) X.prog X.w _ _ ⟨.bl true, H, I, rfl, q⟩
    rw [List.size_toArray, List.size_toArray, ← l1]
    rfl
theorem rv_neNil {K : PySem.W.Frag} {ds : List PyData} : Rv K (rNeNil K) (.list ds) (.list []) (· = .bool (!ds.isEmpty)) := rv_pure (g := .bl (!ds.isEmpty)) (fun _ _ => .bl _) fun A H v w Q d1 d2 q => by
  obtain ⟨a, vs, rfl, s, da⟩ := dp_lst d1
  obtain ⟨b, ws, rfl, s2, db⟩ := dp_lst d2
  cases db
  refine ⟨a, b, vs, rfl, rfl, Same.seq hid_to s, Same.seq hid_to s2, ?_⟩
  have e : vs.isEmpty = ds.isEmpty := by cases da <;> rfl
  rw [e]
  exact q
section
variable {P : Program} {w : World} {K : PySem.W.Frag} {mg : PySem.Str → Option Value} {base : Heap} {f : Addr} {fd : FuncData} {CT fI : Addr} {sz : Addr}
theorem sc_law_number : FnScope ["_law_word", "_law_sign"] ["_law_word"] (defScope s_law_number) := ⟨rfl, rfl, rfl, by decide +kernel, rfl, by decide +kernel, by decide +kernel⟩
abbrev sp_law_number (K : PySem.W.Frag) (CT : Addr) : Sp := spX K CT (fun s : PySem.Str => [.str s]) (fun s => s.length ≤ 1000000) (fun s d => d = optD (numOf s)) nof
theorem empty_iff (x : PySem.Str) : decide (x = ("" : PySem.Str)) = !decide (1 ≤ x.length) := by
  by_cases h : 1 ≤ x.length
  · rw [decide_eq_true h]
    refine decide_eq_false fun e => ?_
    rw [e] at h
    exact absurd h (by decide)
  · rw [decide_eq_false h]
    refine decide_eq_true ?_
    have hl : x.cps.toList.length = 0 := by
      have : x.length = x.cps.toList.length := by simp [Str.length]
      omega
    apply Str.ext'
    apply Array.toList_inj.mp
    rw [List.length_eq_zero_iff.mp hl]
    rfl
theorem ok_law_number (T : Tx K mg) (F : FnP K "_law_number" s_law_number f fd)  : FnOk P w K mg base (L2.CX P w) 1 f fd ["_law_word"] (sp_law_number K CT) := by
  refine fn_x F sc_law_number (fun _ => rfl) fun cdv A outer s H E x hr hp => ?_
  have nd := sc_law_number.nd
  refine ⟨_, (pss_cons (ps_if (PW.pt (pw_or (pt_cmpR op_eq (pv 0) pe_str (nomark _)) (pw_or (pt_cmpR op_gt (pe_callB (id := "len") call_len_str (by rfl) T.b_len PySem.boot_len (pa_cons (pv 0) pa_nil)) pe_int (nomark _)) (pw_or1 (pt_cmpR (op_neNil (K := K) hr.units) (pe_lc rfl nd (pi_str (pv 0)) (blkOk_by (own := [("_law_sign", 1)]) (by kernel_rfl)) (fun _ _ _ _ _ => (pg_name (i := 1) nd rfl (Or.inl rfl))) (fun _ _ _ _ _ => (pts_one (pt_cmpR op_notIn_sign (pv 1) pe_str rfl))) (fun _ _ _ _ _ => (pv 1))) (pe_lst pa_nil) (nomark _)))))) (pss_one (ps_ret pe_non)) pss_nil) (pss_one (ps_ret (pe_ifExp (PW.pt (pw_or (pt_cmpR op_eq (pv 0) pe_str (nomark _)) (pw_or1 (pt_cmpR op_ne (pe_ix ix_str (pv 0) pe_int (fun _ _ => rfl)) pe_str (nomark _))))) (pe_callTy (T := "int") call_int_str (by rfl) T.b_int (by decide +kernel) (pa_cons (pv 0) pa_nil)) pe_non)))), ?_⟩
  have hx : x.length = x.cps.toList.length := by simp [Str.length]
  have hp' : x.length ≤ 1000000 := hp
  refine sv_when (b := !((decide (1 ≤ x.length) && decide (x.length ≤ 60)) && (x.cps.toList.map fun c => decide (c ∈ dgL)).all id)) (et_is (et_or (et_test (ev_op (ev_var rfl) ev_str rv_eqS)) fun _ => et_or (et_test (ev_op (ev_cb (ea_cons (ev_var rfl) ea_nil) (rc_lenS (by omega))) ev_int rv_gt)) fun _ => et_test (ev_op (ev_lcM inj_sgn (fun c => !decide (c ∈ dgL)) id (fun c => PyData.str ⟨#[c]⟩) (ei_str (ev_var rfl)) (by decide) (by omega) (fun c hc => et_test (ev_op (ev_var rfl) ev_str rv_notInSign)) (fun c hc _ => ev_var rfl)) (ev_lst ea_nil) rv_neNil)) ?_) (fun e => ?_) fun e => ?_
  · rw [empty_iff]
    have a2 : decide ((60 : Int) < (x.length : Int)) = !decide (x.length ≤ 60) := by
      by_cases h : x.length ≤ 60
      · rw [decide_eq_true h, decide_eq_false (by omega)]; rfl
      · rw [decide_eq_false h, decide_eq_true (by omega)]; rfl
    have a3 : (((x.cps.toList.filter fun c => !decide (c ∈ dgL)).map id).map fun c => PyData.str ⟨#[c]⟩).isEmpty = (x.cps.toList.map fun c => decide (c ∈ dgL)).all id := by
      apply Bool.eq_iff_iff.mpr
      rw [List.isEmpty_iff, List.map_eq_nil_iff, List.map_eq_nil_iff, List.filter_eq_nil_iff, List.all_eq_true]
      constructor
      · intro h b hb
        obtain ⟨c, hc, rfl⟩ := List.mem_map.mp hb
        have := h c hc
        simpa using this
      · intro h c hc
        have := h _ (List.mem_map.mpr ⟨c, hc, rfl⟩)
        simpa using this
    rw [a2, a3, Bool.not_and, Bool.not_and, Bool.or_assoc]
  · refine sv_ret ev_non fun d ed => ?_
    rw [Bool.not_eq_true'] at e
    have h : numOk x = false := by
      unfold numOk
      rw [← Bool.and_assoc, e]
      rfl
    rw [ed]
    show _ = optD (numOf x)
    unfold numOf
    rw [if_neg (by rw [h]; decide)]
    rfl
  · rw [Bool.not_eq_false'] at e
    obtain ⟨e1, e2⟩ := Bool.and_eq_true_iff.mp e
    obtain ⟨e3, e4⟩ := Bool.and_eq_true_iff.mp e1
    have l1 := of_decide_eq_true e3
    have l2 := of_decide_eq_true e4
    cases hl : x.cps.toList with
    | nil => rw [hx, hl] at l1; simp at l1
    | cons c r =>
      have key : ∀ b, (decide (x = "0") || !decide (x.cps.toList.head? = some 48)) = b → numOk x = b := fun b hb => by
        unfold numOk
        rw [hb, ← Bool.and_assoc, e]
        simp
      have c3 : (!decide ((⟨#[c]⟩ : PySem.Str) = "0")) = !decide (x.cps.toList.head? = some 48) := by
        rw [hl]
        congr 1
        have : ((⟨#[c]⟩ : PySem.Str) = "0") = (([c] ++ r).head? = some 48) := by
          apply propext
          constructor
          · intro h
            have h2 : (⟨#[c]⟩ : PySem.Str).cps.toList = [48] := by rw [h]; rfl
            simp at h2
            simp [h2]
          · intro h
            simp at h
            rw [h]
            rfl
        exact decide_eq_decide.mpr (iff_of_eq this)
      refine sv_retX (ev_if (et_or (et_test (ev_op (ev_var rfl) ev_str rv_eqS)) fun _ => et_neS (ev_op (ev_var rfl) ev_int (rv_ixS (c := c) (by omega) (atI_nat (j := 0) (by rw [hl]; rfl)))) ev_str c3) (fun e5 => ?_) fun e5 => ?_)
      · have h := key true e5.symm
        refine ((ev_cb (ea_cons (ev_var rfl) ea_nil) (rc_intS (int_dg e2 l1 l2) (by omega))).imp fun d ed => ?_)
        rw [ed]
        show _ = optD (numOf x)
        unfold numOf
        rw [if_pos h]
        rfl
      · have h := key false e5.symm
        refine ev_non.imp fun d ed => ?_
        rw [ed]
        show _ = optD (numOf x)
        unfold numOf
        rw [if_neg (by rw [h]; decide)]
        rfl
theorem sc_law_rows_in : FnScope ["_law_word", "_law_own", "_law_part"] ["_law_word"] (defScope s_law_rows_in) := ⟨rfl, rfl, rfl, by decide +kernel, rfl, by decide +kernel, by decide +kernel⟩
abbrev sp_law_rows_in (K : PySem.W.Frag) (CT : Addr) : Sp := spX K CT (fun s : PySem.Str => [.str s]) (fun s => s.length ≤ 50000) (fun s d => d = .tuple ((rowsD (rowsOf s)).map .tuple)) nof
theorem ok_law_rows_in (T : Tx K mg) (F : FnP K "_law_rows_in" s_law_rows_in f fd) (k_law_number : Kn P w K mg base 1 "_law_number" ["_law_word"] (sp_law_number K CT) []) : FnOk P w K mg base (L2.CX P w) 2 f fd ["_law_word"] (sp_law_rows_in K CT) := by
  refine fn_x F sc_law_rows_in (fun _ => rfl) fun cdv A outer s H E wd hr hp => ?_
  have hl : wd.length ≤ 50000 := hp
  have nd := sc_law_rows_in.nd
  refine ⟨_, (pss_one (ps_ret (pe_callTy (T := "tuple") (ct_tupK (K := K)) (by rfl) T.b_tuple (by decide +kernel) (pa_cons (pe_lc rfl nd (pi_listK (K := K) (pe_split (pv 0) pe_str)) (blkOk_by (own := [("_law_own", 1)]) (by kernel_rfl)) (fun _ _ _ _ _ => (pg_name (i := 1) nd rfl (Or.inl rfl))) (fun _ _ _ _ _ => pts_nil) (fun _ _ _ _ _ => (pe_callTy (T := "tuple") (ct_tupK (K := K)) (by rfl) T.b_tuple (by decide +kernel) (pa_cons (pe_lc rfl nd (pi_listK (K := K) (pe_split (pv 1) pe_str)) (blkOk_by (own := [("_law_part", 2)]) (by kernel_rfl)) (fun _ _ _ _ _ => (pg_name (i := 2) nd rfl (Or.inl rfl))) (fun _ _ _ _ _ => pts_nil) (fun _ _ _ _ _ => (pe_kn k_law_number hr (pa_cons (pv 2) pa_nil)))) pa_nil)))) pa_nil)))), ?_⟩
  refine sv_retX ((ev_cb (ea_cons (ev_mapM inj_str (fun r => (Txt.split r ",").map numOf) rowO (ei_list (ev_m1 (ev_var rfl) ev_str (rm_split (by decide) (by omega)))) (by decide) (by have := split_many (x := wd) (y := "/") (by decide); omega) fun r hr => ?_) ea_nil) rc_tupL).is (by rw [rowsD_map]; rfl))
  have r1 := split_part hr
  exact ev_cb (ea_cons (ev_mapM inj_str numOf optD (ei_list (ev_m1 (ev_var rfl) ev_str (rm_split (by decide) (by omega)))) (by decide) (by have := split_many (x := r) (y := ",") (by decide); omega) fun q hq => ev_call0 q (ea_cons (ev_var rfl) ea_nil) (by have := split_part hq; show q.length ≤ _; omega)) ea_nil) rc_tupL
/-! ### a piece word by word -/
inductive Sg where
  | ring0
  | power0
  | power1 (p : Nat)
  | knot0
  | turn0
  | turn1 (p : Nat)
  | turn2 (p : Nat) (t : Mat)
  | act0
  | act1 (m : Nat)
  | act2 (m d : Nat)
def Sg.fs : Sg → List PyData
  | .ring0 => [.str "ring"]
  | .power0 => [.str "power"]
  | .power1 p => [.str "power", .int p]
  | .knot0 => [.str "knot"]
  | .turn0 => [.str "turn"]
  | .turn1 p => [.str "turn", .int p]
  | .turn2 p t => [.str "turn", .int p, tabD t]
  | .act0 => [.str "act"]
  | .act1 m => [.str "act", .int m]
  | .act2 m d => [.str "act", .int m, .int d]
def Sg.isRows : Sg → Bool
  | .turn1 _ => true
  | _ => false
def Sg.late (g : Sg) (wd : PySem.Str) : PyData := if g.isRows = true then .tuple ((rowsD (rowsOf wd)).map .tuple) else optD (numOf wd)
def Sg.step (g : Sg) (wd : PySem.Str) : Option (Sg ⊕ Pc) := match g with
  | .ring0 => (numOf wd).bind fun n => if 1 ≤ n then some (.inr (.ring n)) else none
  | .power0 => (numOf wd).bind fun n => if prm n = true then some (.inl (.power1 n)) else none
  | .power1 p => (numOf wd).bind fun n => if 1 ≤ n ∧ n ≤ 6 then some (.inr (.power p n)) else none
  | .knot0 => (numOf wd).bind fun n => if prm n = true then some (.inr (.knot n)) else none
  | .turn0 => (numOf wd).bind fun n => if prm n = true then some (.inl (.turn1 n)) else none
  | .turn1 p => if isTab p (rowsD (rowsOf wd)) = true then some (.inl (.turn2 p (matOf (rowsOf wd)))) else none
  | .turn2 p t => (numOf wd).bind fun n => if prm n = true ∧ turnOk p t n = true then some (.inr (.turn p t n)) else none
  | .act0 => (numOf wd).bind fun n => if 1 ≤ n then some (.inl (.act1 n)) else none
  | .act1 m => (numOf wd).bind fun n => if 1 ≤ n ∧ Nat.gcd m n = 1 then some (.inl (.act2 m n)) else none
  | .act2 m d => (numOf wd).bind fun n => if n < m ∧ n ^ d % m = 1 % m then some (.inr (.act m d n)) else none
def Sg.Ok : Sg → Prop
  | .turn1 p => prm p = true
  | .turn2 p t => prm p = true ∧ TabOk p t
  | .act1 m => 1 ≤ m ∧ m < 10 ^ 60
  | .act2 m d => 1 ≤ m ∧ m < 10 ^ 60 ∧ 1 ≤ d
  | _ => True
theorem sc_law_stands : FnScope ["_law_parts", "_law_late", "_law_name", "_law_j"] ["_law_parts", "_law_late"] (defScope s_law_stands) := ⟨rfl, rfl, rfl, by decide +kernel, rfl, by decide +kernel, by decide +kernel⟩
abbrev sp_law_stands (K : PySem.W.Frag) (CT : Addr) : Sp := spX K CT (fun q : Sg × PySem.Str => [.list q.1.fs, q.1.late q.2]) (fun q => q.1.Ok ∧ q.2.length ≤ 50000) (fun q d => d = .bool (q.1.step q.2).isSome) nof
theorem some_ite {α : Type} {c : Prop} [Decidable c] {x : α} : (if c then some x else none).isSome = decide c := by
  by_cases h : c
  · rw [if_pos h, decide_eq_true h]; rfl
  · rw [if_neg h, decide_eq_false h]; rfl
theorem ok_law_stands (T : Tx K mg) (F : FnP K "_law_stands" s_law_stands f fd) (k_law_is_table : Kn P w K mg base 2 "_law_is_table" ["_law_p", "_law_rows"] (sp_law_is_table K CT) []) (k_law_is_prime : Kn P w K mg base 2 "_law_is_prime" ["_law_item"] (sp_law_is_prime K CT) []) (k_law_does_turn : Kn P w K mg base 2 "_law_does_turn" ["_law_p", "_law_rows", "_law_q"] (sp_law_does_turn K CT) []) (k_law_does_act : Kn P w K mg base 1 "_law_does_act" ["_law_m", "_law_d", "_law_u"] (sp_law_does_act K CT) []) (k_law_share : Kn P w K mg base 1 "_law_share" ["_law_one", "_law_other"] (sp_law_share K CT) []) : FnOk P w K mg base (L2.CX P w) 3 f fd ["_law_parts", "_law_late"] (sp_law_stands K CT) := by
  refine fn_x F sc_law_stands (fun _ => rfl) fun cdv A outer s H E q hr hp => ?_
  obtain ⟨g, wd⟩ := q
  obtain ⟨hg, hw⟩ := hp
  simp only at hg hw
  have nd := sc_law_stands.nd
  refine ⟨_, (pss_cons (ps_par (i := 2) (j := 3) (by rfl) nd rfl rfl (by decide) rfl rfl (pa_cons (pe_ix (ix_listK (K := K)) (pv 0) pe_int (fun _ _ => rfl)) (pa_cons (pe_callB (id := "len") (c_lenK (K := K)) (by rfl) T.b_len PySem.boot_len (pa_cons (pv 0) pa_nil)) pa_nil)) (by rfl)) (pss_cons (ps_if (PW.pt (pw_and (pt_cmpR op_eq (pv 2) pe_str (nomark _)) (pw_and1 (pt_cmpR op_eq (pv 3) pe_int (nomark _))))) (pss_one (ps_ret (pe_kn k_law_is_table hr (pa_cons (pe_ix (ix_listK (K := K)) (pv 0) pe_int (fun _ _ => rfl)) (pa_cons (pv 1) pa_nil))))) pss_nil) (pss_cons (ps_if (pt_cmpR op_isN (pv 1) pe_non (nomark _)) (pss_one (ps_ret pe_bl)) pss_nil) (pss_cons (ps_if (PW.pt (pw_or (pt_cmpR op_eq (pv 2) pe_str (nomark _)) (pw_or1 (PW.pt (pw_and (pt_cmpR (in_seqK (K := K)) (pv 2) (pe_tup (pa_cons pe_str (pa_cons pe_str pa_nil))) rfl) (pw_and1 (pt_cmpR op_eq (pv 3) pe_int (nomark _)))))))) (pss_one (ps_ret (pe_kn k_law_is_prime hr (pa_cons (pv 1) pa_nil)))) pss_nil) (pss_cons (ps_if (pt_cmpR op_eq (pv 2) pe_str (nomark _)) (pss_one (ps_ret (pe_chain op_le op_le pe_int (pv 1) pe_int))) pss_nil) (pss_cons (ps_if (pt_cmpR op_eq (pv 2) pe_str (nomark _)) (pss_one (ps_ret (pe_and (pe_kn k_law_is_prime hr (pa_cons (pv 1) pa_nil)) (pe_and (pe_cmpR op_ne (pv 1) (pe_ix (ix_listK (K := K)) (pv 0) pe_int (fun _ _ => rfl)) (nomark _)) (pe_one (pe_kn k_law_does_turn hr (pa_cons (pe_ix (ix_listK (K := K)) (pv 0) pe_int (fun _ _ => rfl)) (pa_cons (pe_ix (ix_listK (K := K)) (pv 0) pe_int (fun _ _ => rfl)) (pa_cons (pv 1) pa_nil))))))))) pss_nil) (pss_cons (ps_if (PW.pt (pw_and (pt_cmpR op_eq (pv 2) pe_str (nomark _)) (pw_and1 (pt_cmpR op_eq (pv 3) pe_int (nomark _))))) (pss_one (ps_ret (pe_and (pe_cmpR op_lt (pv 1) (pe_ix (ix_listK (K := K)) (pv 0) pe_int (fun _ _ => rfl)) (nomark _)) (pe_one (pe_kn k_law_does_act hr (pa_cons (pe_ix (ix_listK (K := K)) (pv 0) pe_int (fun _ _ => rfl)) (pa_cons (pe_ix (ix_listK (K := K)) (pv 0) pe_int (fun _ _ => rfl)) (pa_cons (pv 1) pa_nil)))))))) pss_nil) (pss_one (ps_ret (pe_and (pe_cmpR op_gt (pv 1) pe_int (nomark _)) (pe_one (pe_or (pe_cmpR op_eq (pv 2) pe_str (nomark _)) (pe_or (pe_cmpR op_eq (pv 3) pe_int (nomark _)) (pe_one (pe_cmpR op_eq (pe_kn k_law_share hr (pa_cons (pe_ix (ix_listK (K := K)) (pv 0) pe_int (fun _ _ => rfl)) (pa_cons (pv 1) pa_nil))) pe_int (nomark _)))))))))))))))), ?_⟩
  have ix : ∀ {G : Gd} {ρ : List Sl} {r : List PyData} {d : PyData} (j : Nat), ρ[0]? = some (.d (.list r)) → r[j]? = some d → Ev G (tOp (rIxL G.K) (tVar 0) (tC (.int j))) ρ (· = d) := fun j h hj => ev_op (ev_var h) ev_int (rv_ixL (atI_nat hj))
  have two : ∀ {G : Gd} {ρ : List Sl}, Ev G (tTup (tCons (tC (.str "power")) (tCons (tC (.str "turn")) tNil))) ρ (· = .tuple ([("power" : PySem.Str), "turn"].map .str)) := ev_tup (ea_cons ev_str (ea_cons ev_str ea_nil))
  have noN : ∀ {G : Gd} {ρ : List Sl}, ρ[1]? = some (.d .none) → EvT G (tTest (tOp (fun x y H Q => y = .non ∧ Q (.bl (decide (x = .non))) H) (tVar 1) (tC .non))) ρ (· = true) := fun h => et_isN (ev_var h) fun d e => by rw [e]; rfl
  have isN : ∀ {G : Gd} {ρ : List Sl} {n : Int}, ρ[1]? = some (.d (.int n)) → EvT G (tTest (tOp (fun x y H Q => y = .non ∧ Q (.bl (decide (x = .non))) H) (tVar 1) (tC .non))) ρ (· = false) := fun h => et_isN (ev_var h) fun d e => by rw [e]; rfl
  have lt0 : ∀ n : Nat, decide ((0 : Int) < (n : Int)) = decide (1 ≤ n) := fun n => decide_eq_decide.mpr (by omega)
  cases g with
  | ring0 =>
    refine sv_par (ea_cons (ix 0 rfl rfl) (ea_cons (ev_cb (ea_cons (ev_var rfl) ea_nil) rc_lenL) ea_nil)) (sv_whenF (et_andF (et_eqS (ev_var rfl) ev_str (by decide))) ?_)
    cases hn : numOf wd with
    | none =>
      refine sv_whenT (noN (by show some (Sl.d (optD (numOf wd))) = _; rw [hn]; rfl)) (sv_ret ev_bl fun d ed => ?_)
      rw [ed]
      show PyData.bool false = .bool (Sg.step (.ring0) wd).isSome
      simp [Sg.step, hn]
    | some n =>
      have h1 : ([Sl.d (PyData.list (Sg.fs (.ring0))), Sl.d (Sg.late (.ring0) wd), .d (.str "ring"), .d (.int 1)] : List Sl) = [Sl.d (PyData.list (Sg.fs (.ring0))), Sl.d (.int n), .d (.str "ring"), .d (.int 1)] := by
        unfold Sg.late
        rw [hn]
        rfl
      show Sv _ _ [Sl.d (PyData.list (Sg.fs (.ring0))), Sl.d (Sg.late (.ring0) wd), .d (.str "ring"), .d (.int 1)] _ _
      rw [h1]
      refine sv_whenF (isN rfl) ?_
      refine sv_whenF (et_orF (et_eqS (ev_var rfl) ev_str (by decide)) (et_andF (et_inS (ev_var rfl) two (by decide)))) (sv_whenF (et_eqS (ev_var rfl) ev_str (by decide)) (sv_whenF (et_eqS (ev_var rfl) ev_str (by decide)) (sv_whenF (et_andF (et_eqS (ev_var rfl) ev_str (by decide))) ?_)))
      refine sv_retX (Ev.is (ev_andV (ev_op (ev_var rfl) ev_int rv_gt) fun _ => ev_orV (c := false) (ev_op (ev_var rfl) ev_str rv_eqS) fun h => absurd h (by decide)) ?_)
      rw [lt0]
      show _ = PyData.bool (Sg.step (.ring0) wd).isSome
      simp only [Sg.step]
      rw [hn, Option.bind_some, some_ite]
      congr 1
      simp
  | power0 =>
    refine sv_par (ea_cons (ix 0 rfl rfl) (ea_cons (ev_cb (ea_cons (ev_var rfl) ea_nil) rc_lenL) ea_nil)) (sv_whenF (et_andF (et_eqS (ev_var rfl) ev_str (by decide))) ?_)
    cases hn : numOf wd with
    | none =>
      refine sv_whenT (noN (by show some (Sl.d (optD (numOf wd))) = _; rw [hn]; rfl)) (sv_ret ev_bl fun d ed => ?_)
      rw [ed]
      show PyData.bool false = .bool (Sg.step (.power0) wd).isSome
      simp [Sg.step, hn]
    | some n =>
      have h1 : ([Sl.d (PyData.list (Sg.fs (.power0))), Sl.d (Sg.late (.power0) wd), .d (.str "power"), .d (.int 1)] : List Sl) = [Sl.d (PyData.list (Sg.fs (.power0))), Sl.d (.int n), .d (.str "power"), .d (.int 1)] := by
        unfold Sg.late
        rw [hn]
        rfl
      show Sv _ _ [Sl.d (PyData.list (Sg.fs (.power0))), Sl.d (Sg.late (.power0) wd), .d (.str "power"), .d (.int 1)] _ _
      rw [h1]
      refine sv_whenF (isN rfl) ?_
      refine sv_whenT (et_orF (et_eqS (ev_var rfl) ev_str (by decide)) (et_andT (et_inS (ev_var rfl) two (by decide)) (et_eqI (ev_var rfl) ev_int (by decide)))) (sv_retX (Ev.is (ev_call0 n (ea_cons (ev_var rfl) ea_nil) trivial) ?_))
      show _ = PyData.bool (Sg.step (.power0) wd).isSome
      simp only [Sg.step]
      rw [hn, Option.bind_some, some_ite]
      congr 1
      simp
  | power1 p =>
    refine sv_par (ea_cons (ix 0 rfl rfl) (ea_cons (ev_cb (ea_cons (ev_var rfl) ea_nil) rc_lenL) ea_nil)) (sv_whenF (et_andF (et_eqS (ev_var rfl) ev_str (by decide))) ?_)
    cases hn : numOf wd with
    | none =>
      refine sv_whenT (noN (by show some (Sl.d (optD (numOf wd))) = _; rw [hn]; rfl)) (sv_ret ev_bl fun d ed => ?_)
      rw [ed]
      show PyData.bool false = .bool (Sg.step (.power1 p) wd).isSome
      simp [Sg.step, hn]
    | some n =>
      have h1 : ([Sl.d (PyData.list (Sg.fs (.power1 p))), Sl.d (Sg.late (.power1 p) wd), .d (.str "power"), .d (.int 2)] : List Sl) = [Sl.d (PyData.list (Sg.fs (.power1 p))), Sl.d (.int n), .d (.str "power"), .d (.int 2)] := by
        unfold Sg.late
        rw [hn]
        rfl
      show Sv _ _ [Sl.d (PyData.list (Sg.fs (.power1 p))), Sl.d (Sg.late (.power1 p) wd), .d (.str "power"), .d (.int 2)] _ _
      rw [h1]
      refine sv_whenF (isN rfl) ?_
      refine sv_whenF (et_orF (et_eqS (ev_var rfl) ev_str (by decide)) (et_andT (et_inS (ev_var rfl) two (by decide)) (et_eqI (ev_var rfl) ev_int (by decide)))) (sv_whenT (et_eqS (ev_var rfl) ev_str (by decide)) (sv_retX (Ev.is (ev_chain ev_int (ev_var rfl) ev_int rv_le fun _ => rv_le) ?_)))
      show _ = PyData.bool (Sg.step (.power1 p) wd).isSome
      simp only [Sg.step]
      rw [hn, Option.bind_some, some_ite]
      congr 1
      rw [← Bool.decide_and]
      exact decide_eq_decide.mpr (by omega)
  | knot0 =>
    refine sv_par (ea_cons (ix 0 rfl rfl) (ea_cons (ev_cb (ea_cons (ev_var rfl) ea_nil) rc_lenL) ea_nil)) (sv_whenF (et_andF (et_eqS (ev_var rfl) ev_str (by decide))) ?_)
    cases hn : numOf wd with
    | none =>
      refine sv_whenT (noN (by show some (Sl.d (optD (numOf wd))) = _; rw [hn]; rfl)) (sv_ret ev_bl fun d ed => ?_)
      rw [ed]
      show PyData.bool false = .bool (Sg.step (.knot0) wd).isSome
      simp [Sg.step, hn]
    | some n =>
      have h1 : ([Sl.d (PyData.list (Sg.fs (.knot0))), Sl.d (Sg.late (.knot0) wd), .d (.str "knot"), .d (.int 1)] : List Sl) = [Sl.d (PyData.list (Sg.fs (.knot0))), Sl.d (.int n), .d (.str "knot"), .d (.int 1)] := by
        unfold Sg.late
        rw [hn]
        rfl
      show Sv _ _ [Sl.d (PyData.list (Sg.fs (.knot0))), Sl.d (Sg.late (.knot0) wd), .d (.str "knot"), .d (.int 1)] _ _
      rw [h1]
      refine sv_whenF (isN rfl) ?_
      refine sv_whenT (et_orT (et_eqS (ev_var rfl) ev_str (by decide))) (sv_retX (Ev.is (ev_call0 n (ea_cons (ev_var rfl) ea_nil) trivial) ?_))
      show _ = PyData.bool (Sg.step (.knot0) wd).isSome
      simp only [Sg.step]
      rw [hn, Option.bind_some, some_ite]
      congr 1
      simp
  | turn0 =>
    refine sv_par (ea_cons (ix 0 rfl rfl) (ea_cons (ev_cb (ea_cons (ev_var rfl) ea_nil) rc_lenL) ea_nil)) (sv_whenF (et_andT (et_eqS (ev_var rfl) ev_str (by decide)) (et_eqI (ev_var rfl) ev_int rfl)) ?_)
    cases hn : numOf wd with
    | none =>
      refine sv_whenT (noN (by show some (Sl.d (optD (numOf wd))) = _; rw [hn]; rfl)) (sv_ret ev_bl fun d ed => ?_)
      rw [ed]
      show PyData.bool false = .bool (Sg.step (.turn0) wd).isSome
      simp [Sg.step, hn]
    | some n =>
      have h1 : ([Sl.d (PyData.list (Sg.fs (.turn0))), Sl.d (Sg.late (.turn0) wd), .d (.str "turn"), .d (.int 1)] : List Sl) = [Sl.d (PyData.list (Sg.fs (.turn0))), Sl.d (.int n), .d (.str "turn"), .d (.int 1)] := by
        unfold Sg.late
        rw [hn]
        rfl
      show Sv _ _ [Sl.d (PyData.list (Sg.fs (.turn0))), Sl.d (Sg.late (.turn0) wd), .d (.str "turn"), .d (.int 1)] _ _
      rw [h1]
      refine sv_whenF (isN rfl) ?_
      refine sv_whenT (et_orF (et_eqS (ev_var rfl) ev_str (by decide)) (et_andT (et_inS (ev_var rfl) two (by decide)) (et_eqI (ev_var rfl) ev_int (by decide)))) (sv_retX (Ev.is (ev_call0 n (ea_cons (ev_var rfl) ea_nil) trivial) ?_))
      show _ = PyData.bool (Sg.step (.turn0) wd).isSome
      simp only [Sg.step]
      rw [hn, Option.bind_some, some_ite]
      congr 1
      simp
  | turn1 p =>
    refine sv_par (ea_cons (ix 0 rfl rfl) (ea_cons (ev_cb (ea_cons (ev_var rfl) ea_nil) rc_lenL) ea_nil)) (sv_whenT (et_andT (et_eqS (ev_var rfl) ev_str (by decide)) (et_eqI (ev_var rfl) ev_int rfl)) ?_)
    obtain ⟨l1, l2⟩ := rowsOf_len (wd := wd)
    refine sv_retX (Ev.is (ev_call0 (p, rowsOf wd) (ea_cons (ix 1 rfl rfl) (ea_cons (ev_var rfl) ea_nil)) ⟨by show (rowsOf wd).length ≤ _; omega, fun r hr => by have := l2 r hr; omega⟩) ?_)
    show _ = PyData.bool (Sg.step (.turn1 p) wd).isSome
    simp only [Sg.step]
    rw [some_ite]
    congr 1
    simp
  | turn2 p t =>
    refine sv_par (ea_cons (ix 0 rfl rfl) (ea_cons (ev_cb (ea_cons (ev_var rfl) ea_nil) rc_lenL) ea_nil)) (sv_whenF (et_andT (et_eqS (ev_var rfl) ev_str (by decide)) (et_eqI (ev_var rfl) ev_int rfl)) ?_)
    cases hn : numOf wd with
    | none =>
      refine sv_whenT (noN (by show some (Sl.d (optD (numOf wd))) = _; rw [hn]; rfl)) (sv_ret ev_bl fun d ed => ?_)
      rw [ed]
      show PyData.bool false = .bool (Sg.step (.turn2 p t) wd).isSome
      simp [Sg.step, hn]
    | some n =>
      have h1 : ([Sl.d (PyData.list (Sg.fs (.turn2 p t))), Sl.d (Sg.late (.turn2 p t) wd), .d (.str "turn"), .d (.int 3)] : List Sl) = [Sl.d (PyData.list (Sg.fs (.turn2 p t))), Sl.d (.int n), .d (.str "turn"), .d (.int 3)] := by
        unfold Sg.late
        rw [hn]
        rfl
      show Sv _ _ [Sl.d (PyData.list (Sg.fs (.turn2 p t))), Sl.d (Sg.late (.turn2 p t) wd), .d (.str "turn"), .d (.int 3)] _ _
      rw [h1]
      refine sv_whenF (isN rfl) ?_
      obtain ⟨g1, g2⟩ := hg
      have g3 := prm_lt g1
      refine sv_whenF (et_orF (et_eqS (ev_var rfl) ev_str (by decide)) (et_andT (et_inS (ev_var rfl) two (by decide)) (et_eqI (ev_var rfl) ev_int (by decide)))) (sv_whenF (et_eqS (ev_var rfl) ev_str (by decide)) (sv_whenT (et_eqS (ev_var rfl) ev_str (by decide)) (sv_retX (Ev.is (ev_andV (ev_call0 n (ea_cons (ev_var rfl) ea_nil) trivial) fun _ => ev_andV (ev_op (ev_var rfl) (ix 1 rfl rfl) rv_neI) fun _ => ev_call0 (p, t, n) (ea_cons (ix 1 rfl rfl) (ea_cons (ix 2 rfl rfl) (ea_cons (ev_var rfl) ea_nil))) ⟨g3.1, g3.2, g2⟩) ?_))))
      show _ = PyData.bool (Sg.step (.turn2 p t) wd).isSome
      simp only [Sg.step]
      rw [hn, Option.bind_some, some_ite]
      congr 1
      rw [Bool.decide_and]
      have e1 : decide ((n : Int) = (p : Int)) = decide (p = n) := decide_eq_decide.mpr (by omega)
      rw [e1]
      unfold turnOk
      simp
  | act0 =>
    refine sv_par (ea_cons (ix 0 rfl rfl) (ea_cons (ev_cb (ea_cons (ev_var rfl) ea_nil) rc_lenL) ea_nil)) (sv_whenF (et_andF (et_eqS (ev_var rfl) ev_str (by decide))) ?_)
    cases hn : numOf wd with
    | none =>
      refine sv_whenT (noN (by show some (Sl.d (optD (numOf wd))) = _; rw [hn]; rfl)) (sv_ret ev_bl fun d ed => ?_)
      rw [ed]
      show PyData.bool false = .bool (Sg.step (.act0) wd).isSome
      simp [Sg.step, hn]
    | some n =>
      have h1 : ([Sl.d (PyData.list (Sg.fs (.act0))), Sl.d (Sg.late (.act0) wd), .d (.str "act"), .d (.int 1)] : List Sl) = [Sl.d (PyData.list (Sg.fs (.act0))), Sl.d (.int n), .d (.str "act"), .d (.int 1)] := by
        unfold Sg.late
        rw [hn]
        rfl
      show Sv _ _ [Sl.d (PyData.list (Sg.fs (.act0))), Sl.d (Sg.late (.act0) wd), .d (.str "act"), .d (.int 1)] _ _
      rw [h1]
      refine sv_whenF (isN rfl) ?_
      refine sv_whenF (et_orF (et_eqS (ev_var rfl) ev_str (by decide)) (et_andF (et_inS (ev_var rfl) two (by decide)))) (sv_whenF (et_eqS (ev_var rfl) ev_str (by decide)) (sv_whenF (et_eqS (ev_var rfl) ev_str (by decide)) (sv_whenF (et_andT (et_eqS (ev_var rfl) ev_str (by decide)) (et_eqI (ev_var rfl) ev_int (by decide))) ?_)))
      refine sv_retX (Ev.is (ev_andV (ev_op (ev_var rfl) ev_int rv_gt) fun _ => ev_orV (ev_op (ev_var rfl) ev_str rv_eqS) fun _ => ev_orV (c := false) (ev_op (ev_var rfl) ev_int rv_eqI) fun h => absurd h (by decide)) ?_)
      rw [lt0]
      show _ = PyData.bool (Sg.step (.act0) wd).isSome
      simp only [Sg.step]
      rw [hn, Option.bind_some, some_ite]
      congr 1
      simp
  | act1 m =>
    refine sv_par (ea_cons (ix 0 rfl rfl) (ea_cons (ev_cb (ea_cons (ev_var rfl) ea_nil) rc_lenL) ea_nil)) (sv_whenF (et_andF (et_eqS (ev_var rfl) ev_str (by decide))) ?_)
    cases hn : numOf wd with
    | none =>
      refine sv_whenT (noN (by show some (Sl.d (optD (numOf wd))) = _; rw [hn]; rfl)) (sv_ret ev_bl fun d ed => ?_)
      rw [ed]
      show PyData.bool false = .bool (Sg.step (.act1 m) wd).isSome
      simp [Sg.step, hn]
    | some n =>
      have h1 : ([Sl.d (PyData.list (Sg.fs (.act1 m))), Sl.d (Sg.late (.act1 m) wd), .d (.str "act"), .d (.int 2)] : List Sl) = [Sl.d (PyData.list (Sg.fs (.act1 m))), Sl.d (.int n), .d (.str "act"), .d (.int 2)] := by
        unfold Sg.late
        rw [hn]
        rfl
      show Sv _ _ [Sl.d (PyData.list (Sg.fs (.act1 m))), Sl.d (Sg.late (.act1 m) wd), .d (.str "act"), .d (.int 2)] _ _
      rw [h1]
      refine sv_whenF (isN rfl) ?_
      refine sv_whenF (et_orF (et_eqS (ev_var rfl) ev_str (by decide)) (et_andF (et_inS (ev_var rfl) two (by decide)))) (sv_whenF (et_eqS (ev_var rfl) ev_str (by decide)) (sv_whenF (et_eqS (ev_var rfl) ev_str (by decide)) (sv_whenF (et_andT (et_eqS (ev_var rfl) ev_str (by decide)) (et_eqI (ev_var rfl) ev_int (by decide))) ?_)))
      refine sv_retX (Ev.is (ev_andV (ev_op (ev_var rfl) ev_int rv_gt) fun _ => ev_orV (ev_op (ev_var rfl) ev_str rv_eqS) fun _ => ev_orV (ev_op (ev_var rfl) ev_int rv_eqI) fun _ => ev_op (ev_call0 (m, n) (ea_cons (ix 1 rfl rfl) (ea_cons (ev_var rfl) ea_nil)) trivial) ev_int rv_eqI) ?_)
      rw [lt0]
      show _ = PyData.bool (Sg.step (.act1 m) wd).isSome
      simp only [Sg.step]
      rw [hn, Option.bind_some, some_ite]
      congr 1
      rw [Bool.decide_and]
      have e1 : decide (((Nat.gcd m n : Nat) : Int) = 1) = decide (Nat.gcd m n = 1) := decide_eq_decide.mpr (by omega)
      rw [e1]
      congr 1
  | act2 m e =>
    refine sv_par (ea_cons (ix 0 rfl rfl) (ea_cons (ev_cb (ea_cons (ev_var rfl) ea_nil) rc_lenL) ea_nil)) (sv_whenF (et_andF (et_eqS (ev_var rfl) ev_str (by decide))) ?_)
    cases hn : numOf wd with
    | none =>
      refine sv_whenT (noN (by show some (Sl.d (optD (numOf wd))) = _; rw [hn]; rfl)) (sv_ret ev_bl fun d ed => ?_)
      rw [ed]
      show PyData.bool false = .bool (Sg.step (.act2 m e) wd).isSome
      simp [Sg.step, hn]
    | some n =>
      have h1 : ([Sl.d (PyData.list (Sg.fs (.act2 m e))), Sl.d (Sg.late (.act2 m e) wd), .d (.str "act"), .d (.int 3)] : List Sl) = [Sl.d (PyData.list (Sg.fs (.act2 m e))), Sl.d (.int n), .d (.str "act"), .d (.int 3)] := by
        unfold Sg.late
        rw [hn]
        rfl
      show Sv _ _ [Sl.d (PyData.list (Sg.fs (.act2 m e))), Sl.d (Sg.late (.act2 m e) wd), .d (.str "act"), .d (.int 3)] _ _
      rw [h1]
      refine sv_whenF (isN rfl) ?_
      obtain ⟨g1, g2, g3⟩ := hg
      refine sv_whenF (et_orF (et_eqS (ev_var rfl) ev_str (by decide)) (et_andF (et_inS (ev_var rfl) two (by decide)))) (sv_whenF (et_eqS (ev_var rfl) ev_str (by decide)) (sv_whenF (et_eqS (ev_var rfl) ev_str (by decide)) (sv_whenT (et_andT (et_eqS (ev_var rfl) ev_str (by decide)) (et_eqI (ev_var rfl) ev_int (by decide))) ?_)))
      refine sv_retX (Ev.is (ev_andV (ev_op (ev_var rfl) (ix 1 rfl rfl) rv_lt) fun h => ev_call0 (m, e, n) (ea_cons (ix 1 rfl rfl) (ea_cons (ix 2 rfl rfl) (ea_cons (ev_var rfl) ea_nil))) ⟨by show 0 < m; omega, Nat.lt_trans g2 (by decide), by have := of_decide_eq_true h; show n < m; omega⟩) ?_)
      show _ = PyData.bool (Sg.step (.act2 m e) wd).isSome
      simp only [Sg.step]
      rw [hn, Option.bind_some, some_ite]
      congr 1
      rw [Bool.decide_and]
      have e1 : decide ((n : Int) < (m : Int)) = decide (n < m) := decide_eq_decide.mpr (by omega)
      rw [e1]
end
end K13
set_option maxHeartbeats 4000000
/-! The law's reading of a piece and of a line. -/
namespace K13
open PySem L2
/-! ### an own list as an argument -/
/-- no list within (to a small depth) -/
def noL3 : PyData → Bool
  | .list _ => false
  | .tuple _ => false
  | .dict _ => false
  | _ => true
def noL2 : PyData → Bool
  | .list _ => false
  | .tuple xs => xs.all noL3
  | .dict _ => false
  | _ => true
def noL1 : PyData → Bool
  | .list _ => false
  | .tuple xs => xs.all noL2
  | .dict _ => false
  | _ => true
def noList : PyData → Bool
  | .list _ => false
  | .tuple xs => xs.all noL1
  | .dict _ => false
  | _ => true
section
variable {K : PySem.W.Frag} {A : Addr → Bool} {H : Hp} {l : Addr} {ls : List V}
theorem seqT_but (hl : H l = some (.lst ls)) {a : Addr} {vs : List V} (h : SqT K (hid (butA A l) H) a vs) : SqT K (hid A H) a vs := by
  have key : ∀ o, hid (butA A l) H a = some o → (∀ xs, o ≠ .lst xs) → hid A H a = some o := fun o e n => by
    obtain ⟨e1, e2⟩ := hid_some e
    have na : a ≠ l := fun z => by rw [z, hl] at e2; cases e2; exact n _ rfl
    have : A a = false := by
      cases q : A a with
      | false => rfl
      | true => simp [butA, q, na] at e1
    rw [hid_at this]
    exact e2
  rcases h with (h | ⟨o, h⟩) | h
  · exact .inl (.inl (key _ h fun xs z => by cases z))
  · exact .inl (.inr ⟨o, key _ h fun xs z => by cases z⟩)
  · exact .inr h
theorem dp_but3 (hl : H l = some (.lst ls)) {v : V} {d : PyData} (h : Dp K (hid (butA A l) H) v d) (n : noL3 d = true) : Dp K (hid A H) v d := by
  cases h with
  | non => exact .non
  | bl b => exact .bl b
  | int i => exact .int i
  | str s => exact .str s
  | lst _ _ => cases n
  | tup _ _ => cases n
theorem dpAll_imp {H1 H2 : Hp} {P : PyData → Bool} (k : ∀ v d, Dp K H1 v d → P d = true → Dp K H2 v d) : ∀ {vs : List V} {ds : List PyData}, DpAll K H1 vs ds → ds.all P = true → DpAll K H2 vs ds
  | _, _, .nil, _ => .nil
  | _, _, .cons h t, n => by
    rw [List.all_cons, Bool.and_eq_true] at n
    exact .cons (k _ _ h n.1) (dpAll_imp k t n.2)
theorem dp_but2 (hl : H l = some (.lst ls)) {v : V} {d : PyData} (h : Dp K (hid (butA A l) H) v d) (n : noL2 d = true) : Dp K (hid A H) v d := by
  cases h with
  | non => exact .non
  | bl b => exact .bl b
  | int i => exact .int i
  | str s => exact .str s
  | lst _ _ => cases n
  | tup s a => exact .tup (seqT_but hl s) (dpAll_imp (fun v d h n => dp_but3 hl h n) a n)
theorem dp_but1 (hl : H l = some (.lst ls)) {v : V} {d : PyData} (h : Dp K (hid (butA A l) H) v d) (n : noL1 d = true) : Dp K (hid A H) v d := by
  cases h with
  | non => exact .non
  | bl b => exact .bl b
  | int i => exact .int i
  | str s => exact .str s
  | lst _ _ => cases n
  | tup s a => exact .tup (seqT_but hl s) (dpAll_imp (fun v d h n => dp_but2 hl h n) a n)
theorem dp_but (hl : H l = some (.lst ls)) {v : V} {d : PyData} (h : Dp K (hid (butA A l) H) v d) (n : noList d = true) : Dp K (hid A H) v d := by
  cases h with
  | non => exact .non
  | bl b => exact .bl b
  | int i => exact .int i
  | str s => exact .str s
  | lst _ _ => cases n
  | tup s a => exact .tup (seqT_but hl s) (dpAll_imp (fun v d h n => dp_but1 hl h n) a n)
end
section
variable {G : Gd} {ρ : List Sl} {tA : TA} {xs ys : List PyData} {α : Type} {args : α → List PyData} {pre : α → Prop} {post : α → DP} {E : XK}
theorem ev_callO {i : Nat} (hi : ρ[i]? = some (.own xs)) (a : α) (ha : EvA G tA ρ (· = ys)) (e : PyData.list xs :: ys = args a) (hp : pre a) (hf : ∀ d, post a d → noList d = true) :
    Ev G (tCall (spX G.K G.CT args pre post nof) [] E (tCons (tVar i) tA)) ρ (post a) := fun C A H σ Q hk I X q => by
  have s := I.sl i
  rw [hi] at s
  obtain ⟨l, vs, e1, e2, e3, e4, e5, e6⟩ := s
  refine ⟨.ref l, e1, ha C A H σ _ hk I X fun ws zs H1 I1 f1 n1 d1 p1 => ?_⟩
  subst p1
  have h1 := f1 l _ e5 e3
  have le : Same (hid A H1) (hid (butA A l) H1) := hid_le fun b hb => butA_of hb
  refine ⟨butA A l, a, fun b hb => I1.al b (butA_of hb), ?_, hp, fun v d H2 s2 d2 p2 => ?_, fun f dd H2 _ _ _ z => z.elim⟩
  · rw [← e, List.append_nil]
    refine .cons (.lst (SqL.of ?_) (hk ▸ dpAll_mono le (dpAll_mono (I.fr_hid f1) e6))) (hk ▸ dpAll_mono le d1)
    rw [hid_at butA_at]
    exact h1
  · exact q v d H2 (I1.same s2) (f1.trans (Fr.of s2)) (fun b z => n1 b (nn_of s2 b z)) (hk ▸ dp_but (s2 l _ h1) d2 (hf d p2)) p2
end
/-! ### a piece word by word -/
def Sg.size : Sg → Nat
  | .ring0 => 2
  | .power0 => 3
  | .power1 _ => 3
  | .knot0 => 2
  | .turn0 => 4
  | .turn1 _ => 4
  | .turn2 _ _ => 4
  | .act0 => 4
  | .act1 _ => 4
  | .act2 _ _ => 4
def runSg (ws : List Str) (s : Nat) : Nat → Sg → Rd Pc
  | 0, _ => .error 0
  | k + 1, g => wAt ws (s + g.fs.length) >>= fun wd => match g.step wd with
    | none => .error (s + g.fs.length)
    | some (.inl g') => runSg ws s k g'
    | some (.inr x) => .ok x
def startSg (k : Str) : Option Sg := if k = "turn" then some .turn0 else if k = "act" then some .act0 else if k = "ring" then some .ring0 else if k = "knot" then some .knot0 else if k = "power" then some .power0 else none
theorem opt_bind {α : Type} {wd : Str} {f : Nat → Option α} {x : α} (h : (numOf wd).bind f = some x) : ∃ n, numOf wd = some n ∧ f n = some x := by
  cases e : numOf wd with
  | none => rw [e] at h; cases h
  | some n => rw [e] at h; exact ⟨n, rfl, h⟩
theorem ite_some {α : Type} {c : Prop} [Decidable c] {x y : α} (h : (if c then some x else none) = some y) : c ∧ x = y := by
  by_cases hc : c
  · rw [if_pos hc] at h; exact ⟨hc, Option.some.inj h⟩
  · rw [if_neg hc] at h; cases h
theorem step_inl {g g' : Sg} {wd : Str} (h : g.step wd = some (.inl g')) : g'.fs = g.fs ++ [g.late wd] ∧ g'.size = g.size ∧ g'.fs.length < g.size ∧ (g.Ok → g'.Ok) := by
  cases g with
  | turn1 p =>
    simp only [Sg.step] at h
    obtain ⟨z, e⟩ := ite_some h
    cases e
    refine ⟨?_, rfl, by simp [Sg.fs, Sg.size], fun hp => ⟨hp, (tab_of z).2⟩⟩
    show [PyData.str "turn", .int p, tabD (matOf (rowsOf wd))] = [PyData.str "turn", .int p, Sg.late (.turn1 p) wd]
    rw [← (tab_of z).1]
    rfl
  | ring0 =>
    simp only [Sg.step] at h
    obtain ⟨n, hn, h⟩ := opt_bind h
    obtain ⟨z, e⟩ := ite_some h
    cases e
  | power0 =>
    simp only [Sg.step] at h
    obtain ⟨n, hn, h⟩ := opt_bind h
    obtain ⟨z, e⟩ := ite_some h
    cases e
    exact ⟨by simp [Sg.fs, Sg.late, Sg.isRows, hn, optD], rfl, by simp [Sg.fs, Sg.size], fun _ => trivial⟩
  | power1 p =>
    simp only [Sg.step] at h
    obtain ⟨n, hn, h⟩ := opt_bind h
    obtain ⟨z, e⟩ := ite_some h
    cases e
  | knot0 =>
    simp only [Sg.step] at h
    obtain ⟨n, hn, h⟩ := opt_bind h
    obtain ⟨z, e⟩ := ite_some h
    cases e
  | turn0 =>
    simp only [Sg.step] at h
    obtain ⟨n, hn, h⟩ := opt_bind h
    obtain ⟨z, e⟩ := ite_some h
    cases e
    exact ⟨by simp [Sg.fs, Sg.late, Sg.isRows, hn, optD], rfl, by simp [Sg.fs, Sg.size], fun _ => z⟩
  | turn2 p t =>
    simp only [Sg.step] at h
    obtain ⟨n, hn, h⟩ := opt_bind h
    obtain ⟨z, e⟩ := ite_some h
    cases e
  | act0 =>
    simp only [Sg.step] at h
    obtain ⟨n, hn, h⟩ := opt_bind h
    obtain ⟨z, e⟩ := ite_some h
    cases e
    exact ⟨by simp [Sg.fs, Sg.late, Sg.isRows, hn, optD], rfl, by simp [Sg.fs, Sg.size], fun _ => ⟨z, numOf_lt hn⟩⟩
  | act1 m =>
    simp only [Sg.step] at h
    obtain ⟨n, hn, h⟩ := opt_bind h
    obtain ⟨z, e⟩ := ite_some h
    cases e
    exact ⟨by simp [Sg.fs, Sg.late, Sg.isRows, hn, optD], rfl, by simp [Sg.fs, Sg.size], fun hp => ⟨hp.1, hp.2, z.1⟩⟩
  | act2 m d =>
    simp only [Sg.step] at h
    obtain ⟨n, hn, h⟩ := opt_bind h
    obtain ⟨z, e⟩ := ite_some h
    cases e
theorem step_inr {g : Sg} {x : Pc} {wd : Str} (h : g.step wd = some (.inr x)) : x.fs = g.fs ++ [g.late wd] ∧ x.size = g.size ∧ x.fs.length = g.size := by
  cases g <;> simp only [Sg.step] at h
  case turn1 p =>
    obtain ⟨z, e⟩ := ite_some h
    cases e
  all_goals
    obtain ⟨n, hn, h⟩ := opt_bind h
    obtain ⟨z, e⟩ := ite_some h
    cases e
    try exact ⟨by simp [Pc.fs, Sg.fs, Sg.late, Sg.isRows, hn, optD], rfl, by simp [Pc.fs, Sg.size]⟩
theorem start_ok {k : Str} {g : Sg} (h : startSg k = some g) : g.fs = [.str k] ∧ g.Ok := by
  unfold startSg at h
  by_cases h1 : k = "turn"
  · rw [if_pos h1] at h; cases h; rw [h1]; exact ⟨rfl, trivial⟩
  rw [if_neg h1] at h
  by_cases h2 : k = "act"
  · rw [if_pos h2] at h; cases h; rw [h2]; exact ⟨rfl, trivial⟩
  rw [if_neg h2] at h
  by_cases h3 : k = "ring"
  · rw [if_pos h3] at h; cases h; rw [h3]; exact ⟨rfl, trivial⟩
  rw [if_neg h3] at h
  by_cases h4 : k = "knot"
  · rw [if_pos h4] at h; cases h; rw [h4]; exact ⟨rfl, trivial⟩
  rw [if_neg h4] at h
  by_cases h5 : k = "power"
  · rw [if_pos h5] at h; cases h; rw [h5]; exact ⟨rfl, trivial⟩
  rw [if_neg h5] at h
  cases h
/-- reading word by word is the program's reading -/
theorem nAt_b (ws : List Str) (i : Nat) : nAt ws i = wAt ws i >>= fun w => match numOf w with | some n => .ok n | none => .error i := rfl
/-- one number read and looked at -/
theorem p_step {β : Type} {ws : List Str} {i : Nat} {f : Nat → Rd β} {g : Nat → Option (Sg ⊕ Pc)} {k : Sg ⊕ Pc → Rd β} (h : ∀ n, prm n = true → (∃ y, g n = some y ∧ k y = f n) ∨ (g n = none ∧ f n = .error i)) (h' : ∀ n, ¬ prm n = true → g n = none) :
    (pAt ws i >>= f) = wAt ws i >>= fun wd => match (numOf wd).bind g with | none => .error i | some y => k y := by
  unfold pAt
  rw [nAt_b]
  cases wAt ws i with
  | error e => rfl
  | ok wd =>
    simp only [ok_bind]
    cases numOf wd with
    | none => rfl
    | some n =>
      simp only [ok_bind, Option.bind_some]
      by_cases z : prm n = true
      · rw [if_pos z, ok_bind]
        rcases h n z with ⟨y, e1, e2⟩ | ⟨e1, e2⟩
        · rw [e1]
          exact e2.symm
        · rw [e1, e2]
      · rw [if_neg z, h' n z]
        rfl
theorem n_step {β : Type} {ws : List Str} {i lo : Nat} {hi : Option Nat} {f : Nat → Rd β} {g : Nat → Option (Sg ⊕ Pc)} {k : Sg ⊕ Pc → Rd β} (h : ∀ n, inB n lo hi = true → (∃ y, g n = some y ∧ k y = f n) ∨ (g n = none ∧ f n = .error i)) (h' : ∀ n, ¬ inB n lo hi = true → g n = none) :
    (nIn ws i lo hi >>= f) = wAt ws i >>= fun wd => match (numOf wd).bind g with | none => .error i | some y => k y := by
  unfold nIn
  rw [nAt_b]
  cases wAt ws i with
  | error e => rfl
  | ok wd =>
    simp only [ok_bind]
    cases numOf wd with
    | none => rfl
    | some n =>
      simp only [ok_bind, Option.bind_some]
      by_cases z : inB n lo hi = true
      · rw [if_pos z, ok_bind]
        rcases h n z with ⟨y, e1, e2⟩ | ⟨e1, e2⟩
        · rw [e1]
          exact e2.symm
        · rw [e1, e2]
      · rw [if_neg z, h' n z]
        rfl
/-- what is done behind a step -/
def goSg (ws : List Str) (s k : Nat) : Sg ⊕ Pc → Rd Pc
  | .inl g => runSg ws s k g
  | .inr x => .ok x
theorem run_b (ws : List Str) (s k : Nat) (g : Sg) : runSg ws s (k + 1) g = wAt ws (s + g.fs.length) >>= fun wd => match g.step wd with | none => .error (s + g.fs.length) | some y => goSg ws s k y := by
  show (wAt ws (s + g.fs.length) >>= fun wd => match g.step wd with | none => .error (s + g.fs.length) | some (.inl g') => runSg ws s k g' | some (.inr x) => .ok x) = _
  congr 1
  funext wd
  cases g.step wd with
  | none => rfl
  | some y => cases y <;> rfl
/-- reading word by word is the program's reading -/
theorem piece_run (ws : List Str) (s : Nat) : pieceAt ws s = wAt ws s >>= fun k => match startSg k with
    | none => .error s
    | some g => runSg ws s (g.size - 1) g := by
  unfold pieceAt
  cases h0 : wAt ws s with
  | error e => rfl
  | ok k =>
    rw [ok_bind, ok_bind]
    unfold startSg
    by_cases h1 : k = "turn"
    · rw [if_pos h1, if_pos h1]
      show turnAt ws s = runSg ws s 3 .turn0
      rw [run_b]
      unfold turnAt
      refine p_step (g := fun n => if prm n = true then some (.inl (.turn1 n)) else none) (fun p hp => .inl ⟨_, if_pos hp, ?_⟩) fun n z => if_neg z
      show runSg ws s 2 (.turn1 p) = _
      rw [run_b]
      show (wAt ws (s + 2) >>= _) = _
      unfold tAt
      cases wAt ws (s + 2) with
      | error e => rfl
      | ok wd =>
        simp only [ok_bind, Sg.step]
        by_cases z : isTab p (rowsD (rowsOf wd)) = true
        · rw [if_pos z, if_pos z, ok_bind]
          show runSg ws s 1 (.turn2 p (matOf (rowsOf wd))) = _
          rw [run_b]
          refine (p_step (g := fun n => if prm n = true ∧ turnOk p (matOf (rowsOf wd)) n = true then some (.inr (.turn p (matOf (rowsOf wd)) n)) else none) (k := goSg ws s 0) ?_ ?_).symm
          · intro q hq
            by_cases y : turnOk p (matOf (rowsOf wd)) q = true
            · exact .inl ⟨_, if_pos ⟨hq, y⟩, by rw [if_pos y]; rfl⟩
            · exact .inr ⟨if_neg fun z => y z.2, if_neg y⟩
          · intro n hn
            exact if_neg fun z => hn z.1
        · rw [if_neg z, if_neg z]
          rfl
    rw [if_neg h1, if_neg h1]
    by_cases h2 : k = "act"
    · rw [if_pos h2, if_pos h2]
      show actAt ws s = runSg ws s 3 .act0
      rw [run_b]
      unfold actAt
      refine n_step (lo := 1) (hi := none) (g := fun n => if 1 ≤ n then some (.inl (.act1 n)) else none) (fun m hm => .inl ⟨_, if_pos (of_decide_eq_true hm), ?_⟩) fun n z => if_neg fun y => z (decide_eq_true y)
      show runSg ws s 2 (.act1 m) = _
      rw [run_b]
      refine (n_step (lo := 1) (hi := none) (g := fun n => if 1 ≤ n ∧ Nat.gcd m n = 1 then some (.inl (.act2 m n)) else none) (k := goSg ws s 1) (fun d hd => ?_) fun n z => if_neg fun y => z (decide_eq_true y.1)).symm
      have m1 : 1 ≤ m := of_decide_eq_true hm
      have d1 : 1 ≤ d := of_decide_eq_true hd
      have gp : 0 < Nat.gcd m d := Nat.gcd_pos_of_pos_left _ m1
      by_cases z : Nat.gcd m d ≤ 1
      · refine .inl ⟨_, if_pos ⟨d1, by omega⟩, ?_⟩
        rw [if_pos z]
        show runSg ws s 1 (.act2 m d) = _
        rw [run_b]
        refine (n_step (g := fun n => if n < m ∧ n ^ d % m = 1 % m then some (.inr (.act m d n)) else none) (k := goSg ws s 0) (fun u hu => ?_) fun n z => if_neg fun y => z ?_).symm
        · have z1 : (decide (0 ≤ u) && decide (u < m)) = true := hu
          have z2 : u < m := of_decide_eq_true (Bool.and_eq_true_iff.mp z1).2
          have z3 : actOk m d u = decide (u ^ d % m = 1 % m) := by unfold actOk; rw [decide_eq_true z]; rfl
          by_cases y : u ^ d % m = 1 % m
          · exact .inl ⟨_, if_pos ⟨z2, y⟩, by rw [if_pos (by rw [z3, decide_eq_true y])]; rfl⟩
          · exact .inr ⟨if_neg fun q => y q.2, if_neg (by rw [z3, decide_eq_false y]; decide)⟩
        · show (decide (0 ≤ n) && decide (n < m)) = true
          rw [decide_eq_true (Nat.zero_le n), decide_eq_true y.1]
          rfl
      · exact .inr ⟨if_neg fun y => z (by omega), if_neg z⟩
    rw [if_neg h2, if_neg h2]
    by_cases h3 : k = "ring"
    · rw [if_pos h3, if_pos h3]
      show _ = runSg ws s 1 .ring0
      rw [run_b]
      exact n_step (lo := 1) (hi := none) (g := fun n => if 1 ≤ n then some (.inr (.ring n)) else none) (fun m hm => .inl ⟨_, if_pos (of_decide_eq_true hm), rfl⟩) fun n z => if_neg fun y => z (decide_eq_true y)
    rw [if_neg h3, if_neg h3]
    by_cases h4 : k = "knot"
    · rw [if_pos h4, if_pos h4]
      show _ = runSg ws s 1 .knot0
      rw [run_b]
      exact p_step (g := fun n => if prm n = true then some (.inr (.knot n)) else none) (fun p hp => .inl ⟨_, if_pos hp, rfl⟩) fun n z => if_neg z
    rw [if_neg h4, if_neg h4]
    by_cases h5 : k = "power"
    · rw [if_pos h5, if_pos h5]
      show _ = runSg ws s 2 .power0
      rw [run_b]
      refine p_step (g := fun n => if prm n = true then some (.inl (.power1 n)) else none) (fun p hp => .inl ⟨_, if_pos hp, ?_⟩) fun n z => if_neg z
      show runSg ws s 1 (.power1 p) = _
      rw [run_b]
      refine (n_step (g := fun n => if 1 ≤ n ∧ n ≤ 6 then some (.inr (.power p n)) else none) (k := goSg ws s 0) (fun m hm => .inl ⟨_, if_pos ?_, rfl⟩) fun n z => if_neg fun y => z ?_).symm
      · have z1 : (decide (1 ≤ m) && decide (m < 7)) = true := hm
        obtain ⟨z2, z3⟩ := Bool.and_eq_true_iff.mp z1
        exact ⟨of_decide_eq_true z2, Nat.le_of_lt_succ (of_decide_eq_true z3)⟩
      · show (decide (1 ≤ n) && decide (n < 7)) = true
        rw [decide_eq_true y.1, decide_eq_true (by omega : n < 7)]
        rfl
    rw [if_neg h5, if_neg h5]
end K13
set_option maxHeartbeats 4000000
/-! The law's reading of a piece and of a line: the walks. -/
namespace K13
open PySem L2
def pcRes (r : Rd Pc) (i : Nat) : PyData := match r with
  | .ok x => .tuple [x.enc, .int i]
  | .error e => .tuple [.none, .int e]
def Sg.kind : Sg → Str
  | .ring0 => "ring"
  | .power0 => "power"
  | .power1 _ => "power"
  | .knot0 => "knot"
  | .turn0 => "turn"
  | .turn1 _ => "turn"
  | .turn2 _ _ => "turn"
  | .act0 => "act"
  | .act1 _ => "act"
  | .act2 _ _ => "act"
theorem Sg.at0 (g : Sg) : g.fs[0]? = some (.str g.kind) := by cases g <;> rfl
theorem Sg.rows (g : Sg) : (decide (g.kind = "turn") && decide (g.fs.length = 2)) = g.isRows := by
  cases g <;> first | rfl | decide
def kinds : List Str := ["ring", "power", "knot", "turn", "act"]
theorem start_in (k : Str) : decide (k ∈ kinds) = (startSg k).isSome := by
  unfold startSg
  by_cases h1 : k = "turn"
  · rw [if_pos h1, h1]; decide
  rw [if_neg h1]
  by_cases h2 : k = "act"
  · rw [if_pos h2, h2]; decide
  rw [if_neg h2]
  by_cases h3 : k = "ring"
  · rw [if_pos h3, h3]; decide
  rw [if_neg h3]
  by_cases h4 : k = "knot"
  · rw [if_pos h4, h4]; decide
  rw [if_neg h4]
  by_cases h5 : k = "power"
  · rw [if_pos h5, h5]; decide
  rw [if_neg h5]
  refine decide_eq_false fun h => ?_
  simp only [kinds, List.mem_cons, List.not_mem_nil, or_false] at h
  rcases h with h | h | h | h | h
  · exact h3 h
  · exact h5 h
  · exact h4 h
  · exact h1 h
  · exact h2 h
/-- how many words a kind takes -/
theorem start_size {k : Str} {g : Sg} (h : startSg k = some g) : g.size = if k ∈ [("ring" : Str), "knot"] then 2 else if k = "power" then 3 else 4 := by
  unfold startSg at h
  by_cases h1 : k = "turn"
  · rw [if_pos h1] at h; cases h; rw [h1]; decide
  rw [if_neg h1] at h
  by_cases h2 : k = "act"
  · rw [if_pos h2] at h; cases h; rw [h2]; decide
  rw [if_neg h2] at h
  by_cases h3 : k = "ring"
  · rw [if_pos h3] at h; cases h; rw [h3]; decide
  rw [if_neg h3] at h
  by_cases h4 : k = "knot"
  · rw [if_pos h4] at h; cases h; rw [h4]; decide
  rw [if_neg h4] at h
  by_cases h5 : k = "power"
  · rw [if_pos h5] at h; cases h; rw [h5]; decide
  rw [if_neg h5] at h
  cases h
theorem Sg.size_le (g : Sg) : 2 ≤ g.size ∧ g.size ≤ 4 := by cases g <;> simp [Sg.size]
theorem wAt_at {ws : List Str} {i : Nat} {k : Str} (h : wAt ws i = .ok k) : ws[i]? = some k := by
  unfold wAt at h
  cases e : ws[i]? with
  | none => rw [e] at h; cases h
  | some v => rw [e] at h; cases h; rfl
theorem wAt_no {ws : List Str} {i e : Nat} (h : wAt ws i = .error e) : e = i ∧ ws.length ≤ i := by
  unfold wAt at h
  cases e' : ws[i]? with
  | none => rw [e'] at h; cases h; exact ⟨rfl, List.getElem?_eq_none_iff.mp e'⟩
  | some v => rw [e'] at h; cases h
theorem ei_is {G : Gd} {ρ : List Sl} {wi : TI} {xs ys : List PyData} (h : EvI G wi ρ (· = xs)) (e : xs = ys) : EvI G wi ρ (· = ys) := e ▸ h
section
variable {P : Program} {w : World} {K : PySem.W.Frag} {mg : Str → Option Value} {base : Heap} {f : Addr} {fd : FuncData} {CT fI : Addr} {sz : Addr}
theorem sc_law_piece_at : FnScope ["_law_words", "_law_spot", "_law_size", "_law_parts", "_law_j", "_law_is_rows", "_law_late"] ["_law_words", "_law_spot"] (defScope s_law_piece_at) := ⟨rfl, rfl, rfl, by decide +kernel, rfl, by decide +kernel, by decide +kernel⟩
abbrev sp_law_piece_at (K : PySem.W.Frag) (CT : Addr) : Sp := spX K CT (fun q : List Str × Nat => [wsD q.1, .int q.2]) (fun q => WsOk q.1) (fun q d => d = pcRes (pieceAt q.1 q.2) q.2) nof
theorem noL_late (g : Sg) (wd : Str) : noList (.bool (g.step wd).isSome) = true := rfl
theorem ok_law_piece_at (T : Tx K mg) (F : FnP K "_law_piece_at" s_law_piece_at f fd) (k_law_rows_in : Kn P w K mg base 2 "_law_rows_in" ["_law_word"] (sp_law_rows_in K CT) []) (k_law_number : Kn P w K mg base 1 "_law_number" ["_law_word"] (sp_law_number K CT) []) (k_law_stands : Kn P w K mg base 3 "_law_stands" ["_law_parts", "_law_late"] (sp_law_stands K CT) []) : FnOk P w K mg base (L2.CX P w) 4 f fd ["_law_words", "_law_spot"] (sp_law_piece_at K CT) := by
  refine fn_x F sc_law_piece_at (fun _ => rfl) fun cdv A outer s H E q hr hp => ?_
  obtain ⟨ws, i⟩ := q
  have hw : WsOk ws := hp
  have nd := sc_law_piece_at.nd
  refine ⟨_, (pss_cons (ps_if (PW.pt (pw_or (pt_cmpR op_ge (pv 1) (pe_callB (id := "len") (c_lenK (K := K)) (by rfl) T.b_len PySem.boot_len (pa_cons (pv 0) pa_nil)) (nomark _)) (pw_or1 (pt_cmpR (notIn_seqK (K := K)) (pe_ix (ix_listK (K := K)) (pv 0) (pv 1) (fun _ _ => rfl)) (pe_lst (pa_cons pe_str (pa_cons pe_str (pa_cons pe_str (pa_cons pe_str (pa_cons pe_str pa_nil)))))) rfl)))) (pss_one (ps_ret (pe_tup (pa_cons pe_non (pa_cons (pv 1) pa_nil))))) pss_nil) (pss_cons (ps_set (i := 2) nd rfl (Or.inl rfl) (pe_ifExp (pt_cmpR (in_seqK (K := K)) (pe_ix (ix_listK (K := K)) (pv 0) (pv 1) (fun _ _ => rfl)) (pe_lst (pa_cons pe_str (pa_cons pe_str pa_nil))) rfl) pe_int (pe_ifExp (pt_cmpR op_eq (pe_ix (ix_listK (K := K)) (pv 0) (pv 1) (fun _ _ => rfl)) pe_str (nomark _)) pe_int pe_int))) (pss_cons (ps_set (i := 3) nd rfl (Or.inl rfl) (pe_lst (pa_cons (pe_ix (ix_listK (K := K)) (pv 0) (pv 1) (fun _ _ => rfl)) pa_nil))) (pss_cons (ps_for (passes_of rfl) rfl (pi_range2 (by rfl) T.b_range (pa_cons pe_int (pa_cons (pv 2) pa_nil))) (pg_name (i := 4) nd rfl (Or.inl rfl)) (pss_cons (ps_if (pt_cmpR op_ge (pe_op op_add (pv 1) (pv 4)) (pe_callB (id := "len") (c_lenK (K := K)) (by rfl) T.b_len PySem.boot_len (pa_cons (pv 0) pa_nil)) (nomark _)) (pss_one (ps_ret (pe_tup (pa_cons pe_non (pa_cons (pe_callB (id := "len") (c_lenK (K := K)) (by rfl) T.b_len PySem.boot_len (pa_cons (pv 0) pa_nil)) pa_nil))))) pss_nil) (pss_cons (ps_set (i := 5) nd rfl (Or.inl rfl) (pe_and (pe_cmpR op_eq (pe_ix (ix_listK (K := K)) (pv 3) pe_int (fun _ _ => rfl)) pe_str (nomark _)) (pe_one (pe_cmpR op_eq (pv 4) pe_int (nomark _))))) (pss_cons (ps_set (i := 6) nd rfl (Or.inl rfl) (pe_ifExp (pt_val (pv 5)) (pe_kn k_law_rows_in hr (pa_cons (pe_ix (ix_listK (K := K)) (pv 0) (pe_op op_add (pv 1) (pv 4)) (fun _ _ => rfl)) pa_nil)) (pe_kn k_law_number hr (pa_cons (pe_ix (ix_listK (K := K)) (pv 0) (pe_op op_add (pv 1) (pv 4)) (fun _ _ => rfl)) pa_nil)))) (pss_cons (ps_if (pt_not (pt_val (pe_kn k_law_stands hr (pa_cons (pv 3) (pa_cons (pv 6) pa_nil))))) (pss_one (ps_ret (pe_tup (pa_cons pe_non (pa_cons (pe_op op_add (pv 1) (pv 4)) pa_nil))))) pss_nil) (pss_one (ps_expr (pe_bm PySem.F.plainAttrs_list PySem.F.slot_list_append PySem.F.type_list_append mt_append (pv 3) (pa_cons (pv 6) pa_nil))))))))) (pss_one (ps_ret (pe_tup (pa_cons (pe_callTy (T := "tuple") (ct_tupK (K := K)) (by rfl) T.b_tuple (by decide +kernel) (pa_cons (pv 3) pa_nil)) (pa_cons (pv 1) pa_nil))))))))), ?_⟩
  show Sv _ _ _ _ (fun d => d = pcRes (pieceAt ws i) i)
  have len : ∀ {G : Gd} {ρ : List Sl}, ρ[0]? = some (.d (wsD ws)) → Ev G (tCB (rLenQ G.K) (tCons (tVar 0) tNil)) ρ (· = .int ws.length) := fun h => (ev_cb (ea_cons (ev_var h) ea_nil) rc_lenL).is (by rw [List.length_map])
  cases h0 : wAt ws i with
  | error e =>
    obtain ⟨rfl, hl⟩ := wAt_no h0
    refine sv_whenT (et_orT (et_is (et_test (ev_op (ev_var rfl) (len rfl) rv_ge)) (decide_eq_true (by omega)))) (sv_retX ((ev_tup (ea_cons ev_non (ea_cons (ev_var rfl) ea_nil)) (by simp)).is ?_))
    rw [piece_run, h0]
    rfl
  | ok k =>
    have hk := wAt_at h0
    have hil := wAt_lt h0
    have wx : ∀ {G : Gd} {ρ : List Sl}, ρ[0]? = some (.d (wsD ws)) → ρ[1]? = some (.d (.int i)) → Ev G (tOp (rIxL G.K) (tVar 0) (tVar 1)) ρ (· = .str k) := fun h h' => ev_op (ev_var h) (ev_var h') (rv_ixL (atI_nat (by rw [List.getElem?_map, hk]; rfl)))
    have key : pieceAt ws i = match startSg k with | none => .error i | some g => runSg ws i (g.size - 1) g := by
      rw [piece_run, h0]
      rfl
    have t1 : ∀ {b : Bool}, (startSg k).isSome = !b → EvT ⟨K, CT, E, nof (ws, i)⟩ (tOr (tTest (tOp (rI0 fun i j => .bl (decide (j ≤ i))) (tVar 1) (tCB (rLenQ K) (tCons (tVar 0) tNil)))) (tTest (tOp (rIn K true) (tOp (rIxL K) (tVar 0) (tVar 1)) (tLst (tCons (tC (.str "ring")) (tCons (tC (.str "power")) (tCons (tC (.str "knot")) (tCons (tC (.str "turn")) (tCons (tC (.str "act")) tNil)))))))))
        [.d (wsD ws), .d (.int i), .no, .no, .no, .no, .no] (· = b) := fun {b} hb => et_orF (et_is (et_test (ev_op (ev_var rfl) (len rfl) rv_ge)) (decide_eq_false (by omega))) (et_is (et_test (ev_op (wx rfl rfl) (ev_lst (ea_cons ev_str (ea_cons ev_str (ea_cons ev_str (ea_cons ev_str (ea_cons ev_str ea_nil)))))) (rv_inS (zs := kinds) (.inl rfl)))) (by rw [start_in, hb]; simp))
    cases hs : startSg k with
    | none =>
      rw [hs] at key
      refine sv_whenT (t1 (by rw [hs]; rfl)) (sv_retX ((ev_tup (ea_cons ev_non (ea_cons (ev_var rfl) ea_nil)) (by simp)).is ?_))
      rw [key]
      rfl
    | some g0 =>
      rw [hs] at key
      obtain ⟨gf, gok⟩ := start_ok hs
      have gs := start_size hs
      have gl := g0.size_le
      refine sv_whenF (t1 (by rw [hs]; rfl)) ?_
      refine sv_setX (x := .int g0.size) (ev_if (et_test (ev_op (wx rfl rfl) (ev_lst (ea_cons ev_str (ea_cons ev_str ea_nil))) (rv_inS (zs := [("ring" : Str), "knot"]) (.inl rfl)))) (fun e => ev_int.is ?_) fun e => ev_if (et_eqS (wx rfl rfl) ev_str rfl) (fun e2 => ev_int.is ?_) fun e2 => ev_int.is ?_) ?_
      · rw [gs, if_pos (of_decide_eq_true e.symm)]
        rfl
      · rw [gs, if_neg (of_decide_eq_false e.symm), if_pos (of_decide_eq_true e2.symm)]
        rfl
      · rw [gs, if_neg (of_decide_eq_false e.symm), if_neg (of_decide_eq_false e2.symm)]
        rfl
      refine sv_own (ea_cons (wx rfl rfl) ea_nil) (by simp) ?_
      rw [← gf]
      refine sv_seq (M := fun ρ' => ∃ x a b c, ρ' = [.d (wsD ws), .d (.int i), .d (.int g0.size), .own x.fs, a, b, c] ∧ pieceAt ws i = .ok x) (sv_for (xs := rngD 1 (g0.size - 1)) (ei_is (ei_rng2 (i := 1) (j := (g0.size : Int)) (ea_cons ev_int (ea_cons (ev_var rfl) ea_nil)) (by omega) (by omega)) (by congr 1; omega))
        (fun n ρ' => i + n < ws.length ∧ ((n < g0.size - 1 ∧ ∃ g a b c, ρ' = [.d (wsD ws), .d (.int i), .d (.int g0.size), .own (Sg.fs g), a, b, c] ∧ g.fs.length = n + 1 ∧ g.size = g0.size ∧ g.Ok ∧ pieceAt ws i = runSg ws i (g0.size - 1 - n) g) ∨ (n = g0.size - 1 ∧ ∃ x a b c, ρ' = [.d (wsD ws), .d (.int i), .d (.int g0.size), .own (Pc.fs x), a, b, c] ∧ pieceAt ws i = .ok x)))
        ⟨by omega, .inl ⟨by omega, g0, _, _, _, rfl, by rw [gf]; rfl, rfl, gok, key⟩⟩ ?_ ?_) ?_
      · rintro n x ρ' hx ⟨hn, h⟩
        rcases h with ⟨hlt, g, a, b, c, rfl, g1, g2, g3, g4⟩ | ⟨hz, _⟩
        · have ex : x = .int ((n + 1 : Nat) : Int) := by
            unfold rngD rngI at hx
            rw [List.getElem?_map, List.getElem?_map, List.getElem?_range hlt] at hx
            have := (Option.some.inj hx).symm
            have e2 : (1 + (n : Int)) = ((n + 1 : Nat) : Int) := by omega
            rw [this]
            show PyData.int (1 + (n : Int)) = _
            rw [e2]
          subst ex
          refine ⟨_, gv_name, ?_⟩
          have fuel : g0.size - 1 - n = (g0.size - 1 - n - 1) + 1 := by omega
          rw [fuel, run_b, g1] at g4
          have pl : ∀ {G : Gd} {ρ : List Sl}, ρ[1]? = some (.d (.int i)) → ρ[4]? = some (.d (.int ((n + 1 : Nat) : Int))) → Ev G (tOp (rI0 fun i j => .int (i + j)) (tVar 1) (tVar 4)) ρ (· = .int ((i + (n + 1) : Nat) : Int)) := fun h h' => (ev_op (ev_var h) (ev_var h') rv_add).is (by congr 1)
          refine sv_when (et_test (ev_op (pl rfl rfl) (len rfl) rv_ge)) (fun e => ?_) fun e => ?_
          · have hl := of_decide_eq_true e
            have h1 : wAt ws (i + (n + 1)) = .error (i + (n + 1)) := by
              unfold wAt
              rw [List.getElem?_eq_none (by omega)]
            refine sv_retX ((ev_tup (ea_cons ev_non (ea_cons (len rfl) ea_nil)) (by simp)).is ?_)
            rw [g4, h1]
            have e2 : ws.length = i + (n + 1) := by omega
            show PyData.tuple [.none, .int (ws.length : Int)] = PyData.tuple [.none, .int ((i + (n + 1) : Nat) : Int)]
            rw [e2]
          · have hl := of_decide_eq_false e
            have hlt2 : i + (n + 1) < ws.length := by omega
            have h1 : wAt ws (i + (n + 1)) = .ok ws[i + (n + 1)] := by
              unfold wAt
              rw [List.getElem?_eq_getElem hlt2]
            generalize ws[i + (n + 1)] = wd at h1
            have hwd := hw.2 wd (wAt_mem h1)
            have h2 := wAt_at h1
            rw [h1, ok_bind] at g4
            have wy : ∀ {G : Gd} {ρ : List Sl}, ρ[0]? = some (.d (wsD ws)) → ρ[1]? = some (.d (.int i)) → ρ[4]? = some (.d (.int ((n + 1 : Nat) : Int))) → Ev G (tOp (rIxL G.K) (tVar 0) (tOp (rI0 fun i j => .int (i + j)) (tVar 1) (tVar 4))) ρ (· = .str wd) := fun h h' h'' => ev_op (ev_var h) (pl h' h'') (rv_ixL (atI_nat (by rw [List.getElem?_map, h2]; rfl)))
            refine sv_setX (x := .bool g.isRows) ((ev_andV (ev_op (ev_ixO rfl ev_int (atI_nat (j := 0) g.at0)) ev_str rv_eqS) fun _ => ev_op (ev_var rfl) ev_int rv_eqI).is ?_) ?_
            · rw [← g.rows, g1]
              congr 2
              exact decide_eq_decide.mpr (by omega)
            refine sv_setX (x := g.late wd) (ev_if (et_test (ev_var rfl)) (fun e3 => ?_) fun e3 => ?_) ?_
            · refine (ev_call0 wd (ea_cons (wy rfl rfl rfl) ea_nil) hwd).imp fun d ed => ?_
              rw [ed]
              unfold Sg.late
              rw [← e3]
              rfl
            · refine (ev_call0 wd (ea_cons (wy rfl rfl rfl) ea_nil) (by show wd.length ≤ _; omega)).imp fun d ed => ?_
              rw [ed]
              unfold Sg.late
              rw [← e3]
              rfl
            refine sv_when (et_not (et_test (ev_callO rfl (g, wd) (ea_cons (ev_var rfl) ea_nil) rfl ⟨g3, hwd⟩ fun d ed => by rw [ed]; rfl))) (fun e3 => ?_) fun e3 => ?_
            · have h3 : (g.step wd).isSome = false := by simpa using e3
              have h4 : g.step wd = none := Option.not_isSome_iff_eq_none.mp (by rw [h3]; decide)
              rw [h4] at g4
              refine sv_retX ((ev_tup (ea_cons ev_non (ea_cons (pl rfl rfl) ea_nil)) (by simp)).is ?_)
              rw [g4]
              rfl
            · have h3 : (g.step wd).isSome = true := by simpa using e3
              refine sv_appL (P := (· = g.late wd)) (xs := g.fs) rfl (ev_var rfl) (by rw [g1]; omega) fun d ed => ⟨by omega, ?_⟩
              rw [ed]
              cases h4 : g.step wd with
              | none => rw [h4] at h3; cases h3
              | some y =>
                rw [h4] at g4
                cases y with
                | inl g' =>
                  obtain ⟨s1, s2, s3, s4⟩ := step_inl h4
                  refine .inl ⟨?_, g', .d (.int ((n + 1 : Nat) : Int)), .d (.bool g.isRows), .d (g.late wd), by rw [s1]; rfl, by rw [s1, List.length_append, g1]; rfl, by rw [s2, g2], s4 g3, ?_⟩
                  · rw [s1, List.length_append, g1, g2] at s3
                    simp at s3
                    omega
                  · rw [g4]
                    show runSg ws i (g0.size - 1 - n - 1) g' = runSg ws i (g0.size - 1 - (n + 1)) g'
                    congr 1
                | inr x =>
                  obtain ⟨s1, s2, s3⟩ := step_inr h4
                  refine .inr ⟨?_, x, .d (.int ((n + 1 : Nat) : Int)), .d (.bool g.isRows), .d (g.late wd), by rw [s1]; rfl, g4⟩
                  rw [s1, List.length_append, g1, g2] at s3
                  simp at s3
                  omega
        · have : n < g0.size - 1 := by
            have := (List.getElem?_eq_some_iff.mp hx).1
            simpa [rngD, rngI] using this
          omega
      · rintro ρ' ⟨_, h⟩
        have el : (rngD 1 (g0.size - 1)).length = g0.size - 1 := by simp [rngD, rngI]
        rw [el] at h
        rcases h with ⟨h, _⟩ | ⟨_, x, a, b, c, h1, h2⟩
        · omega
        · exact ⟨x, a, b, c, h1, h2⟩
      · rintro ρ' ⟨x, a, b, c, rfl, hx⟩
        refine sv_retX ((ev_tup (ea_cons (ev_tupO rfl) (ea_cons (ev_var rfl) ea_nil)) (by simp)).is ?_)
        rw [hx]
        rfl
theorem sv_par3O {G : Gd} {ρ : List Sl} {ta tb : TE} {tu : TS} {x y : PyData} {N : List Sl → Prop} {R : DP} {i j l : Nat} (h1 : Ev G ta ρ (· = x)) (h2 : Ev G tb ρ (· = y)) (k : Sv G tu (((ρ.set i (.d x)).set j (.d y)).set l (.own [])) N R) :
    Sv G (tSeq (tPar3 i j l (tCons ta (tCons tb (tCons (tLst tNil) tNil)))) tu) ρ N R :=
  sv_seq (M := fun ρ' => ρ' = ((ρ.set i (.d x)).set j (.d y)).set l (.own [])) (fun C A H σ D hk I X qn qr => h1 C A H σ _ hk I X fun v1 d1 H1 I1 f1 n1 e1 p1 => h2 C A H1 σ _ hk I1 X fun v2 d2 H2 I2 f2 n2 e2 p2 => by
    subst p1 p2
    refine ⟨Nat.zero_le _, fun p hp => ⟨v1, v2, .ref p, rfl, ?_⟩⟩
    have eh := hid_add (A := A) (o := .lst []) hp
    have nf := I2.no0 hp
    have d1' := dp_mono (I1.fr_hid f2) e1
    have J := (I2.newHid (o := .lst []) hp)
    have J1 := J.set (i := i) (by rw [eh]; exact d1')
    have J2 := J1.set (i := j) (by rw [eh]; exact e2)
    have hno : ∀ (m : Nat) (ys : List PyData), m ≠ l → ((ρ.set i (.d d1)).set j (.d d2))[m]? = some (.own ys) → ((σ.set i (some v1)).set j (some v2))[m]? ≠ some (some (.ref p)) := fun m ys _ q1 q2 => by
      by_cases ej : j = m
      · subst ej
        by_cases hj : j < (ρ.set i (.d d1)).length
        · rw [List.getElem?_set_self hj] at q1; cases q1
        · rw [List.getElem?_eq_none (by rw [List.length_set]; omega)] at q1; cases q1
      · rw [List.getElem?_set_ne ej] at q1 q2
        by_cases ei : i = m
        · subst ei
          by_cases hi : i < ρ.length
          · rw [List.getElem?_set_self hi] at q1; cases q1
          · rw [List.getElem?_eq_none (by rw [List.length_set]; omega)] at q1; cases q1
        · rw [List.getElem?_set_ne ei] at q1 q2
          exact I2.noown hp m ys q1 q2
    refine qn (addA A p) _ _ _ (J2.setOwn (i := l) (xs := []) addA_at nf.1 nf.2 upd_same .nil hno) ?_ rfl
    rw [eh]
    exact I.fr_hid (f1.trans f2)) fun ρ' e => by rw [e]; exact k
def lawD (r : Rd (List Pc)) : PyData := match r with
  | .ok l => .tuple [.str "told", ruleD l]
  | .error e => .tuple [.str "text", .int 0, .int e]
theorem Pc.fs_len (x : Pc) : x.fs.length = x.size := by cases x <;> rfl
theorem sc_law_read : FnScope ["_law_line", "_law_lap", "_law_words", "_law_spot", "_law_found", "_law_piece_here", "_law_fault"] ["_law_line"] (defScope s_law_read) := ⟨rfl, rfl, rfl, by decide +kernel, rfl, by decide +kernel, by decide +kernel⟩
abbrev sp_law_read (K : PySem.W.Frag) (CT : Addr) : Sp := spX K CT (fun s : Str => [.str s]) (fun s => s.length ≤ 40000) (fun s d => d = lawD (ruleRd s)) nof
theorem ok_law_read (T : Tx K mg) (F : FnP K "_law_read" s_law_read f fd) (k_law_piece_at : Kn P w K mg base 4 "_law_piece_at" ["_law_words", "_law_spot"] (sp_law_piece_at K CT) []) : FnOk P w K mg base (L2.CX P w) 5 f fd ["_law_line"] (sp_law_read K CT) := by
  refine fn_x F sc_law_read (fun _ => rfl) fun cdv A outer s H E x hr hx => ?_
  have nd := sc_law_read.nd
  refine ⟨_, (pss_cons (ps_par3 (i := 2) (j := 3) (l := 4) (by rfl) nd rfl rfl rfl (by decide) (by decide) (by decide) rfl rfl rfl (pa_cons (pe_split (pv 0) pe_str) (pa_cons pe_int (pa_cons (pe_lst pa_nil) pa_nil))) (by rfl)) (pss_cons (ps_for (passes_of rfl) rfl (pi_range1 (by rfl) T.b_range (pa_cons (pe_callB (id := "len") (c_lenK (K := K)) (by rfl) T.b_len PySem.boot_len (pa_cons (pv 2) pa_nil)) pa_nil)) (pg_name (i := 1) nd rfl (Or.inl rfl)) (pss_cons (ps_asg (pe_kn k_law_piece_at hr (pa_cons (pv 2) (pa_cons (pv 3) pa_nil))) (pg_tup (by rfl) (pgs_cons (pg_name (i := 5) nd rfl (Or.inl rfl)) (pgs_cons (pg_name (i := 6) nd rfl (Or.inl rfl)) pgs_nil)))) (pss_cons (ps_if (pt_cmpR op_isN (pv 5) pe_non (nomark _)) (pss_one (ps_ret (pe_tup (pa_cons pe_str (pa_cons pe_int (pa_cons (pv 6) pa_nil)))))) pss_nil) (pss_cons (ps_expr (pe_bm PySem.F.plainAttrs_list PySem.F.slot_list_append PySem.F.type_list_append mt_append (pv 4) (pa_cons (pv 5) pa_nil))) (pss_cons (ps_set (i := 3) nd rfl (Or.inl rfl) (pe_op op_add (pv 3) (pe_callB (id := "len") (c_lenK (K := K)) (by rfl) T.b_len PySem.boot_len (pa_cons (pv 5) pa_nil)))) (pss_cons (ps_if (pt_cmpR op_eq (pv 3) (pe_callB (id := "len") (c_lenK (K := K)) (by rfl) T.b_len PySem.boot_len (pa_cons (pv 2) pa_nil)) (nomark _)) (pss_one (ps_ret (pe_tup (pa_cons pe_str (pa_cons (pe_callTy (T := "tuple") (ct_tupK (K := K)) (by rfl) T.b_tuple (by decide +kernel) (pa_cons (pv 4) pa_nil)) pa_nil))))) pss_nil) (pss_cons (ps_if (pt_cmpR op_ne (pe_ix (ix_listK (K := K)) (pv 2) (pv 3) (fun _ _ => rfl)) pe_str (nomark _)) (pss_one (ps_ret (pe_tup (pa_cons pe_str (pa_cons pe_int (pa_cons (pv 3) pa_nil)))))) pss_nil) (pss_cons (ps_set (i := 3) nd rfl (Or.inl rfl) (pe_op op_add (pv 3) pe_int)) (pss_one (ps_if (pt_cmpR op_eq (pv 3) (pe_callB (id := "len") (c_lenK (K := K)) (by rfl) T.b_len PySem.boot_len (pa_cons (pv 2) pa_nil)) (nomark _)) (pss_one (ps_ret (pe_tup (pa_cons pe_str (pa_cons pe_int (pa_cons (pv 3) pa_nil)))))) pss_nil)))))))))) (pss_one (ps_ret (pe_tup (pa_cons pe_str (pa_cons pe_int (pa_cons pe_int pa_nil)))))))), ?_⟩
  have hx' : x.length ≤ 40000 := hx
  show Sv _ _ _ _ (fun d => d = lawD (rulePs (Txt.split x " ")))
  have hw := ws_split hx'
  refine sv_par3O (x := wsD (Txt.split x " ")) (y := .int 0) (ev_m1 (ev_var rfl) ev_str (rm_split (by decide) (by omega))) ev_int ?_
  generalize Txt.split x " " = ws at hw
  have hwl := hw.1
  have len : ∀ {G : Gd} {ρ : List Sl}, ρ[2]? = some (.d (wsD ws)) → Ev G (tCB (rLenQ G.K) (tCons (tVar 2) tNil)) ρ (· = .int ws.length) := fun h => (ev_cb (ea_cons (ev_var h) ea_nil) rc_lenL).is (by rw [List.length_map])
  have text : ∀ {G : Gd} {ρ : List Sl} {t : TE} {e : Nat}, Ev G t ρ (· = .int e) → Ev G (tTup (tCons (tC (.str "text")) (tCons (tC (.int 0)) (tCons t tNil)))) ρ (· = lawD (.error e)) := fun h => ev_tup (ea_cons ev_str (ea_cons ev_int (ea_cons h ea_nil))) (by simp)
  refine sv_seq (M := fun _ => ws.length = 0) (sv_for (xs := rngD 0 ws.length) (ei_rng1 (j := (ws.length : Int)) (ea_cons (len rfl) ea_nil) (by omega) (by omega))
    (fun n ρ' => ∃ (sp : Nat) (acc : List Pc) (a1 a5 a6 : Sl), ρ' = [.d (.str x), a1, .d (wsD ws), .d (.int sp), .own (acc.map Pc.enc), a5, a6] ∧ n ≤ sp ∧ acc.length ≤ n ∧ (ws.length ≠ 0 → sp < ws.length) ∧ rulePs ws = (pieceAt ws sp >>= fun y => moreAt ws (sp + y.size) (acc ++ [y])))
    ⟨0, [], _, _, _, rfl, Nat.le_refl _, Nat.le_refl _, fun h => by omega, by unfold rulePs; congr 1; funext y; rw [Nat.zero_add]; rfl⟩ ?_ ?_) fun ρ' h => ?_
  · rintro n y ρ' hy ⟨sp, acc, a1, a5, a6, rfl, h1, h2, h3, h4⟩
    have hn : n < ws.length := by
      have := (List.getElem?_eq_some_iff.mp hy).1
      simpa [rngD, rngI] using this
    have hsp := h3 (by omega)
    refine ⟨_, gv_name, ?_⟩
    have call : ∀ {ρ : List Sl}, ρ[2]? = some (.d (wsD ws)) → ρ[3]? = some (.d (.int sp)) → Ev ⟨K, CT, E, nof x⟩ (tCall (sp_law_piece_at K CT) [] E0 (tCons (tVar 2) (tCons (tVar 3) tNil))) ρ (· = pcRes (pieceAt ws sp) sp) := fun a b => ev_call0 (ws, sp) (ea_cons (ev_var a) (ea_cons (ev_var b) ea_nil)) hw
    cases hp : pieceAt ws sp with
    | error e =>
      rw [hp] at call h4
      refine sv_unp (call rfl rfl) (gv_tup (gvs_cons gv_name (gvs_cons gv_name gvs_nil)) rfl) (sv_whenT (et_isN (ev_var rfl) fun d ed => by rw [ed]; rfl) (sv_retX ((text (ev_var rfl)).is ?_)))
      rw [h4]
      rfl
    | ok z =>
      rw [hp] at call h4
      rw [ok_bind] at h4
      have zs := z.size_pos
      have zl := (pieceAt_ok hp).2.1
      refine sv_unp (call rfl rfl) (gv_tup (gvs_cons gv_name (gvs_cons gv_name gvs_nil)) rfl) (sv_whenF (et_isN (ev_var rfl) fun d ed => by rw [ed]; rfl) (sv_app (P := (· = z.enc)) (xs := acc.map Pc.enc) rfl (ev_var rfl) (by rw [List.length_map]; omega) fun d ed => ?_))
      subst ed
      refine sv_setX (x := .int ((sp + z.size : Nat) : Int)) ((ev_op (ev_var rfl) (ev_cb (ea_cons (ev_var rfl) ea_nil) rc_lenT) rv_add).is (by rw [z.fs_len]; congr 1)) ?_
      have own : (acc.map Pc.enc ++ [z.enc]) = (acc ++ [z]).map Pc.enc := by rw [List.map_append]; rfl
      refine sv_when (et_test (ev_op (ev_var rfl) (len rfl) rv_eqI)) (fun e => ?_) fun e => ?_
      · have e1 : sp + z.size = ws.length := by
          have z1 : ((sp + z.size : Nat) : Int) = (ws.length : Int) := of_decide_eq_true e
          omega
        refine sv_retX ((ev_tup (ea_cons ev_str (ea_cons (ev_tupO rfl) ea_nil)) (by simp)).is ?_)
        rw [h4, moreAt, dif_neg (by omega), own]
        rfl
      · have e1 : sp + z.size < ws.length := by
          have z1 : ¬ ((sp + z.size : Nat) : Int) = (ws.length : Int) := of_decide_eq_false e
          omega
        have g1 : ws[sp + z.size]? = some ws[sp + z.size] := by simp [e1]
        rw [moreAt, dif_pos e1] at h4
        refine sv_when (et_test (ev_op (ev_op (ev_var rfl) (ev_var rfl) (rv_ixL (d := .str ws[sp + z.size]) (atI_nat (by rw [List.getElem?_map, g1]; rfl)))) ev_str rv_neS)) (fun e2 => ?_) fun e2 => ?_
        · have n1 : ¬ ws[sp + z.size] = "|" := by simpa using e2
          rw [if_neg n1] at h4
          refine sv_retX ((text (ev_var rfl)).is ?_)
          rw [h4]
        · have n1 : ws[sp + z.size] = "|" := by simpa using e2
          rw [if_pos n1] at h4
          refine sv_setX (ev_plus (j := 1) (ev_var rfl)) ?_
          refine sv_if (Pb := (· = decide (sp + z.size + 1 = ws.length))) (et_is (et_test (ev_op (ev_var rfl) (len rfl) rv_eqI)) (decide_eq_decide.mpr (by omega))) (fun e3 => ?_) fun e3 => ?_
          · have e4 := of_decide_eq_true e3.symm
            have h5 : pieceAt ws (sp + z.size + 1) = .error (sp + z.size + 1) := by
              unfold pieceAt wAt
              rw [List.getElem?_eq_none (by omega)]
              rfl
            rw [h5] at h4
            refine sv_retX ((text (ev_var rfl)).is ?_)
            rw [h4]
            rfl
          · have e4 := of_decide_eq_false e3.symm
            have e5 : sp + z.size + 1 < ws.length := by omega
            have e6 : n + 1 ≤ sp + z.size + 1 := by omega
            have e7 : (acc ++ [z]).length ≤ n + 1 := by rw [List.length_append]; exact Nat.add_le_add_right h2 1
            exact sv_next ⟨sp + z.size + 1, acc ++ [z], _, _, _, by rw [← own]; rfl, e6, e7, fun _ => e5, h4⟩
  · rintro ρ' ⟨sp, acc, a1, a5, a6, _, h1, _, h3, _⟩
    rw [List.length_map, rngI_len] at h1
    by_cases hz : ws.length = 0
    · exact hz
    · have := h3 hz
      omega
  · have h5 : pieceAt ws 0 = .error 0 := by
      unfold pieceAt wAt
      rw [List.getElem?_eq_none (by omega)]
      rfl
    have h6 : rulePs ws = .error 0 := by unfold rulePs; rw [h5]; rfl
    rw [h6]
    exact sv_retX (text ev_int)
end
end K13
set_option maxHeartbeats 4000000
/-! A rule that was read writes the same line. -/
namespace K13
open PySem L2
open TL (numL numL_lt numL_step)
theorem tl_eq {x y : Str} (h : x.cps.toList = y.cps.toList) : x = y := by
  apply Str.ext'
  exact Array.toList_inj.mp h
/-! ### numbers -/
theorem digits_snoc (l : List Nat) (c : Nat) : NumText.digitsVal (l ++ [c]) = NumText.digitsVal l * 10 + (c - 48) := by
  unfold NumText.digitsVal
  rw [List.foldl_append]
  rfl
theorem digits_pos {l : List Nat} (h : NumText.AllDigits l) (hne : l ≠ []) (h0 : l.head? ≠ some 48) : 1 ≤ NumText.digitsVal l := by
  have mono : ∀ (r : List Nat) (a : Nat), 1 ≤ a → 1 ≤ r.foldl (fun acc c => acc * 10 + (c - 48)) a := fun r => by
    induction r with
    | nil => intro a h; exact h
    | cons c r ih => intro a h; exact ih (a * 10 + (c - 48)) (by omega)
  cases l with
  | nil => exact absurd rfl hne
  | cons c r =>
    have hc := h c (List.mem_cons_self ..)
    have : c ≠ 48 := fun e => h0 (by rw [e]; rfl)
    unfold NumText.digitsVal
    rw [List.foldl_cons]
    exact mono r (0 * 10 + (c - 48)) (by omega)
theorem numL_back : ∀ (n : Nat) (l : List Nat), l.length = n → NumText.AllDigits l → l ≠ [] → (l = [48] ∨ l.head? ≠ some 48) → numL (NumText.digitsVal l) = l := by
  intro n
  induction n with
  | zero => intro l hl _ hne; exact absurd (List.length_eq_zero_iff.mp hl) hne
  | succ n ih =>
    intro l hl hd hne h0
    obtain ⟨r, c, rfl⟩ : ∃ r c, l = r ++ [c] := ⟨l.dropLast, l.getLast hne, (List.dropLast_concat_getLast hne).symm⟩
    have hc := hd c (by simp)
    rw [digits_snoc]
    cases hr : r with
    | nil =>
      have e : NumText.digitsVal [] = 0 := rfl
      rw [e, numL_lt (by omega)]
      simp
      omega
    | cons a q =>
      rw [← hr]
      have rne : r ≠ [] := by rw [hr]; simp
      have rd : NumText.AllDigits r := fun x hx => hd x (List.mem_append_left _ hx)
      have r0 : r.head? ≠ some 48 := by
        rcases h0 with h | h
        · rw [hr] at h; simp at h
        · rw [hr] at h ⊢; simpa using h
      have rv := digits_pos rd rne r0
      have rb := ih r (by simp at hl; omega) rd rne (.inr r0)
      rw [numL_step (by omega)]
      have e1 : (NumText.digitsVal r * 10 + (c - 48)) / 10 = NumText.digitsVal r := by omega
      have e2 : (NumText.digitsVal r * 10 + (c - 48)) % 10 = c - 48 := by omega
      rw [e1, e2, rb]
      congr 1
      simp
      omega
theorem num_text {s : Str} {n : Nat} (h : numOf s = some n) : strI n = s := by
  unfold numOf at h
  split at h
  · rename_i z
    unfold numOk at z
    obtain ⟨z1, z2⟩ := Bool.and_eq_true_iff.mp z
    obtain ⟨z3, z4⟩ := Bool.and_eq_true_iff.mp z2
    have l1 := of_decide_eq_true (Bool.and_eq_true_iff.mp z1).1
    have e : s.length = s.cps.toList.length := by simp [Str.length]
    cases h
    apply tl_eq
    have e1 : (strI ((NumText.digitsVal s.cps.toList : Nat) : Int)).cps.toList = numL (NumText.digitsVal s.cps.toList) := TL.tl_num _
    rw [e1]
    refine numL_back _ _ rfl (dg_all z3) (fun q => by rw [e, q] at l1; simp at l1) ?_
    rcases Bool.or_eq_true_iff.mp z4 with q | q
    · exact .inl (by rw [of_decide_eq_true q]; rfl)
    · exact .inr (by simpa using q)
  · cases h
/-! ### tables -/
theorem tab_text {w : Str} {p : Int} (h : isTab p (rowsD (rowsOf w)) = true) : tabW (matOf (rowsOf w)) = w := by
  have num : ∀ r ∈ rowsOf w, ∀ o ∈ r, ∃ n : Nat, o = some n := fun r hr o ho => by
    unfold isTab at h
    obtain ⟨h1, h2⟩ := Bool.and_eq_true_iff.mp h
    obtain ⟨h2, h3⟩ := Bool.and_eq_true_iff.mp h2
    have z := List.all_eq_true.mp h3 _ (List.mem_flatMap.mpr ⟨r.map optD, List.mem_map.mpr ⟨r, hr, rfl⟩, List.mem_map.mpr ⟨optD o, List.mem_map.mpr ⟨o, ho, rfl⟩, rfl⟩⟩)
    cases o with
    | none => cases z
    | some n => exact ⟨n, rfl⟩
  unfold tabW
  rw [TL.join_eq]
  have e : ((matOf (rowsOf w)).map fun r => Txt.join "," (r.map strI)) = Txt.split w "/" := by
    unfold matOf
    rw [List.map_map]
    conv => lhs; rw [show rowsOf w = (Txt.split w "/").map fun r => (Txt.split r ",").map numOf from rfl]
    rw [List.map_map]
    conv => rhs; rw [← List.map_id (Txt.split w "/")]
    refine List.map_congr_left fun r hr => ?_
    show Txt.join "," (((((Txt.split r ",").map numOf).map fun o => ((o.getD 0 : Nat) : Int))).map strI) = r
    have e2 : ((((Txt.split r ",").map numOf).map fun o => ((o.getD 0 : Nat) : Int))).map strI = Txt.split r "," := by
      rw [List.map_map, List.map_map]
      conv => rhs; rw [← List.map_id (Txt.split r ",")]
      refine List.map_congr_left fun q hq => ?_
      obtain ⟨n, hn⟩ := num ((Txt.split r ",").map numOf) (List.mem_map.mpr ⟨r, hr, rfl⟩) (numOf q) (List.mem_map.mpr ⟨q, hq, rfl⟩)
      show strI ((((numOf q).getD 0 : Nat) : Int)) = q
      rw [hn]
      exact num_text hn
    rw [e2, TL.join_eq, StrLaws.join_split]
  rw [e, StrLaws.join_split]
/-! ### words -/
theorem nAt_text {ws : List Str} {i n : Nat} (h : nAt ws i = .ok n) : ws[i]? = some (strI n) := by
  unfold nAt at h
  cases e : wAt ws i with
  | error j => rw [e, er_bind] at h; cases h
  | ok m =>
    rw [e, ok_bind] at h
    cases e2 : numOf m with
    | none => rw [e2] at h; cases h
    | some k =>
      rw [e2] at h
      cases h
      rw [num_text e2]
      unfold wAt at e
      cases e3 : ws[i]? with
      | none => rw [e3] at e; cases e
      | some v => rw [e3] at e; cases e; rfl
theorem pAt_text {ws : List Str} {i n : Nat} (h : pAt ws i = .ok n) : ws[i]? = some (strI n) := by
  unfold pAt at h
  cases e : nAt ws i with
  | error j => rw [e, er_bind] at h; cases h
  | ok m =>
    rw [e, ok_bind] at h
    split at h
    · cases h; exact nAt_text e
    · cases h
theorem tAt_text {ws : List Str} {i p : Nat} {t : Mat} (h : tAt ws i p = .ok t) : ws[i]? = some (tabW t) := by
  unfold tAt at h
  cases e : wAt ws i with
  | error j => rw [e, er_bind] at h; cases h
  | ok m =>
    rw [e, ok_bind] at h
    split at h
    · rename_i z
      cases h
      rw [tab_text z]
      unfold wAt at e
      cases e3 : ws[i]? with
      | none => rw [e3] at e; cases e
      | some v => rw [e3] at e; cases e; rfl
    · cases h
theorem Pc.ws_len (x : Pc) : x.ws.length = x.size := by cases x <;> rfl
theorem wAt_at' {ws : List Str} {i : Nat} {k : Str} (h : wAt ws i = .ok k) : ws[i]? = some k := by
  unfold wAt at h
  cases e : ws[i]? with
  | none => rw [e] at h; cases h
  | some v => rw [e] at h; cases h; rfl
/-- a read piece stands there word by word -/
theorem piece_ws {ws : List Str} {i : Nat} {x : Pc} (h : pieceAt ws i = .ok x) : ws.drop i = x.ws ++ ws.drop (i + x.size) := by
  obtain ⟨h0, hl, hx⟩ := pieceAt_ok h
  have k0 := wAt_at' h0
  have dr : ∀ {j : Nat} {s : Str}, ws[j]? = some s → ws.drop j = s :: ws.drop (j + 1) := fun {j s} e => by
    obtain ⟨hj, e2⟩ := List.getElem?_eq_some_iff.mp e
    rw [List.drop_eq_getElem_cons hj, e2]
  cases x with
  | ring m => rw [dr k0, dr (nAt_text (nIn_ok hx).1)]; rfl
  | power p k => rw [dr k0, dr (pAt_text hx.1), dr (nAt_text (nIn_ok hx.2).1)]; rfl
  | knot p => rw [dr k0, dr (pAt_text hx)]; rfl
  | turn p t q => rw [dr k0, dr (pAt_text hx.1), dr (tAt_text hx.2.1), dr (pAt_text hx.2.2.1)]; rfl
  | act m d u => rw [dr k0, dr (nAt_text (nIn_ok hx.1).1), dr (nAt_text (nIn_ok hx.2.1).1), dr (nAt_text (nIn_ok hx.2.2.1).1)]; rfl
def moreW (r : List Pc) : List Str := r.flatMap fun x => ("|" : Str) :: x.ws
theorem more_ws {ws : List Str} : ∀ (n i : Nat) (acc r : List Pc), ws.length - i ≤ n → moreAt ws i acc = .ok r → ∃ rest, r = acc ++ rest ∧ ws.drop i = moreW rest ∧ ∀ x ∈ rest, PcOk x
  | n, i, acc, r, hn, h => by
    rw [moreAt] at h
    by_cases hi : i < ws.length
    · rw [dif_pos hi] at h
      by_cases hb : ws[i] = "|"
      · rw [if_pos hb] at h
        cases hp : pieceAt ws (i + 1) with
        | error e => rw [hp, er_bind] at h; cases h
        | ok x =>
          rw [hp, ok_bind] at h
          have xs := x.size_pos
          cases n with
          | zero => omega
          | succ n =>
            obtain ⟨rest, e1, e2, e3⟩ := more_ws n (i + 1 + x.size) (acc ++ [x]) r (by omega) h
            refine ⟨x :: rest, by rw [e1, List.append_assoc]; rfl, ?_, fun y hy => ?_⟩
            · rw [List.drop_eq_getElem_cons hi, hb, piece_ws hp, e2]
              rfl
            · rcases List.mem_cons.mp hy with e | e
              · rw [e]; exact pieceAt_good hp
              · exact e3 y e
      · rw [if_neg hb] at h; cases h
    · rw [dif_neg hi] at h
      cases h
      exact ⟨[], by simp, by rw [List.drop_eq_nil_of_le (by omega)]; rfl, fun x hx => by cases hx⟩
theorem join_app (s : Str) : ∀ (a b : List Str), a ≠ [] → b ≠ [] → Str.join s (a ++ b) = Str.join s a ++ s ++ Str.join s b
  | [], _, h, _ => absurd rfl h
  | [x], b, _, hb => by
    cases b with
    | nil => exact absurd rfl hb
    | cons y r => rfl
  | x :: y :: r, b, _, hb => by
    have ih := join_app s (y :: r) b (by simp) hb
    show x ++ s ++ Str.join s ((y :: r) ++ b) = x ++ s ++ Str.join s (y :: r) ++ s ++ Str.join s b
    rw [ih]
    apply tl_eq
    show TL.tl _ = TL.tl _
    simp only [TL.tl_append, List.append_assoc]
theorem rule_ws (x : Pc) : ∀ rest : List Pc, Str.join " | " ((x :: rest).map Pc.txt) = Str.join " " (x.ws ++ moreW rest)
  | [] => by
    show x.txt = _
    unfold Pc.txt moreW
    rw [TL.join_eq]
    simp
  | y :: r => by
    have ih := rule_ws y r
    have n1 : x.ws ≠ [] := fun e => by have := x.ws_len; rw [e] at this; have := x.size_pos; simp at *; omega
    have n2 : y.ws ≠ [] := fun e => by have := y.ws_len; rw [e] at this; have := y.size_pos; simp at *; omega
    show x.txt ++ " | " ++ Str.join " | " ((y :: r).map Pc.txt) = Str.join " " (x.ws ++ (("|" : Str) :: (y.ws ++ moreW r)))
    rw [ih, join_app " " x.ws _ n1 (by simp)]
    have e : Str.join " " (("|" : Str) :: (y.ws ++ moreW r)) = "|" ++ " " ++ Str.join " " (y.ws ++ moreW r) := by
      cases hq : y.ws ++ moreW r with
      | nil => simp at hq; exact absurd hq.1 n2
      | cons a q => rfl
    rw [e]
    unfold Pc.txt
    rw [TL.join_eq]
    apply tl_eq
    show TL.tl _ = TL.tl _
    have e2 : ((" | " : Str)) = " " ++ "|" ++ " " := by decide
    rw [e2]
    simp only [TL.tl_append, List.append_assoc]
theorem more_len : ∀ r : List Pc, 3 * r.length ≤ (moreW r).length
  | [] => Nat.zero_le _
  | x :: r => by
    have ih := more_len r
    have xs := x.size_pos
    have e : moreW (x :: r) = (("|" : Str) :: x.ws) ++ moreW r := rfl
    rw [e, List.length_append, List.length_cons, List.length_cons, x.ws_len]
    omega
/-- THE READ-BACK: what was read is a rule, and its text is the line -/
theorem rule_back {s : Str} {r : List Pc} (hs : s.length ≤ 29000) (h : ruleRd s = .ok r) : RuleOk r ∧ ruleW r = s ∧ 3 * r.length ≤ s.length + 2 := by
  unfold ruleRd rulePs at h
  cases hp : pieceAt (Txt.split s " ") 0 with
  | error e => rw [hp, er_bind] at h; cases h
  | ok x =>
    rw [hp, ok_bind] at h
    obtain ⟨rest, e1, e2, e3⟩ := more_ws _ _ _ _ (Nat.le_refl _) h
    have w0 := piece_ws hp
    rw [List.drop_zero, Nat.zero_add, e2] at w0
    have l0 := split_many (x := s) (y := " ") (by decide)
    have l1 : (Txt.split s " ").length = x.size + (moreW rest).length := by rw [w0, List.length_append, x.ws_len]
    have l2 := more_len rest
    have xs := x.size_pos
    have er : r = x :: rest := e1
    have lr : r.length = rest.length + 1 := by rw [er]; rfl
    refine ⟨⟨by rw [er]; simp, fun y hy => ?_, by omega⟩, ?_, by omega⟩
    · rw [er] at hy
      rcases List.mem_cons.mp hy with e | e
      · rw [e]; exact pieceAt_good hp
      · exact e3 y e
    · unfold ruleW
      rw [TL.join_eq, er, rule_ws, ← w0, StrLaws.join_split]
end K13
set_option maxHeartbeats 4000000
/-! The feed of the draws: its reads and writes; a draw is a number below the one asked for. -/
namespace K13
open PySem L2
section
variable {G : Gd} {ρ : List Sl} {t ta tb tc te : TE} {ts tu tw : TS} {u : TT} {P R : DP} {N : List Sl → Prop}
theorem ev_fget (h0 : ρ[0]? = some .fd) (x : Str) (hx : ∀ (K : PySem.W.Frag) (A : Addr → Bool) (H : Hp) (a : Addr), FeedOk K A H a → ∃ kvs v d, H a = some (.dK kvs) ∧ valV kvs (.inr x) = some v ∧ Dp K (hid A H) v d ∧ P d) : Ev G (tDGet (tVar 0) (tC (.str x))) ρ P := fun C A H σ Q hk I X q => by
  have s := I.sl 0
  rw [h0] at s
  obtain ⟨a, e0, ef⟩ := s
  obtain ⟨kvs, v, d, e1, e2, e3, e4⟩ := hx C.K A H a (I.feed a ef).2
  exact ⟨.ref a, e0, a, v, rfl, .inl ⟨kvs, .inr x, .inl e1, rfl, e2.symm⟩, q v d H I Fr.refl (fun _ z => z) e3 e4⟩
theorem ev_next (h0 : ρ[0]? = some .fd) : Ev G (tDGet (tVar 0) (tC (.str "next"))) ρ (fun d => ∃ n : Int, 0 ≤ n ∧ d = .int n) := ev_fget h0 _ fun K A H a ⟨l, ns, n, m, k, e1, e2, h1, h2, h3⟩ => ⟨_, _, .int n, e1, rfl, .int n, n, h1, rfl⟩
theorem ev_left (h0 : ρ[0]? = some .fd) : Ev G (tDGet (tVar 0) (tC (.str "left"))) ρ (fun d => ∃ n : Int, 0 ≤ n ∧ d = .int n) := ev_fget h0 _ fun K A H a ⟨l, ns, n, m, k, e1, e2, h1, h2, h3⟩ => ⟨_, _, .int m, e1, rfl, .int m, m, h2, rfl⟩
theorem ev_drawn (h0 : ρ[0]? = some .fd) : Ev G (tDGet (tVar 0) (tC (.str "drawn"))) ρ (fun d => ∃ n : Int, d = .int n) := ev_fget h0 _ fun K A H a ⟨l, ns, n, m, k, e1, e2, h1, h2, h3⟩ => ⟨_, _, .int k, e1, rfl, .int k, k, rfl⟩
theorem ev_cells (h0 : ρ[0]? = some .fd) : Ev G (tDGet (tVar 0) (tC (.str "cells"))) ρ (fun d => ∃ ns : List Int, ns.length ≤ 63 ∧ d = .list (ns.map .int)) := ev_fget h0 _ fun K A H a ⟨l, ns, n, m, k, e1, e2, h1, h2, h3⟩ => ⟨_, _, .list (ns.map .int), e1, rfl, .lst e2 (dpAll_ofInts ns), ns, h3, rfl⟩
theorem hid_upd' {A : Addr → Bool} {H : Hp} {D : Addr} {o : HO} (h : A D = true) : hid A (L2.upd H D o) = hid A H := by
  funext q
  by_cases e : q = D
  · unfold hid; rw [e, if_pos h, if_pos h]
  · unfold hid; rw [upd_ne e]
/-- the feed's four entries -/
abbrev fdK (l : Addr) (n m k : Int) : List (Key × V) := [(.inr "cells", .ref l), (.inr "next", .int n), (.inr "left", .int m), (.inr "drawn", .int k)]
theorem sv_fput (h0 : ρ[0]? = some .fd) (x : Str) (h : Ev G te ρ P) (hx : ∀ d, P d → ∃ i : Int, d = .int i ∧ ∀ l n m k, 0 ≤ n → 0 ≤ m → ∃ n' m' k', putK (fdK l n m k) (.inr x) (.int i) = fdK l n' m' k' ∧ 0 ≤ n' ∧ 0 ≤ m') (k : Sv G tu ρ N R) :
    Sv G (tSeq (sDPut (tVar 0) (tC (.str x)) te) tu) ρ N R :=
  sv_seq (M := fun ρ' => ρ' = ρ) (fun C A H σ D hk I X qn qr => h C A H σ _ hk I X fun v d H1 I1 f1 n1 d1 p1 => by
    obtain ⟨i, rfl, hi⟩ := hx d p1
    rw [dp_int d1]
    have s := I1.sl 0
    rw [h0] at s
    obtain ⟨a, e0, ef⟩ := s
    obtain ⟨hA, l, ns, n, m, k, e1, e2, h1, h2, h3⟩ := I1.feed a ef
    obtain ⟨n', m', k', ep, h4, h5⟩ := hi l n m k h1 h2
    refine ⟨.ref a, e0, a, _, rfl, .inl ⟨_, .inr x, e1, rfl, by rw [sizeLine_eq]; show 4 < 16777216; decide, rfl⟩, ?_⟩
    rw [ep]
    have f2 : Fr C H1 (upd H1 a (.dK (fdK l n' m' k'))) := fun b o e nb => by rw [upd_ne (fun z => nb (by rw [z]; exact ef))]; exact e
    refine qn A _ σ ρ (I1.fr f2 fun b eb => ?_) ?_ rfl
    · have : b = a := Option.some.inj (eb.symm.trans ef)
      subst this
      exact ⟨l, ns, n', m', k', upd_same, by rw [hid_upd' hA]; exact e2, h4, h5, h3⟩
    · rw [hid_upd' hA]
      exact I.fr_hid f1) fun ρ' e => by rw [e]; exact k
theorem put_next {i : Int} (hi : 0 ≤ i) : ∀ (l : Addr) (n m k : Int), 0 ≤ n → 0 ≤ m → ∃ n' m' k', putK (fdK l n m k) (.inr ("next" : Str)) (.int i) = fdK l n' m' k' ∧ 0 ≤ n' ∧ 0 ≤ m' := fun l n m k _ h => ⟨i, m, k, rfl, hi, h⟩
theorem put_left {i : Int} (hi : 0 ≤ i) : ∀ (l : Addr) (n m k : Int), 0 ≤ n → 0 ≤ m → ∃ n' m' k', putK (fdK l n m k) (.inr ("left" : Str)) (.int i) = fdK l n' m' k' ∧ 0 ≤ n' ∧ 0 ≤ m' := fun l n m k h _ => ⟨n, i, k, rfl, h, hi⟩
theorem put_drawn {i : Int} : ∀ (l : Addr) (n m k : Int), 0 ≤ n → 0 ≤ m → ∃ n' m' k', putK (fdK l n m k) (.inr ("drawn" : Str)) (.int i) = fdK l n' m' k' ∧ 0 ≤ n' ∧ 0 ≤ m' := fun l n m k h h' => ⟨n, m, i, rfl, h, h'⟩
theorem sv_whenR {Pb : Bool → Prop} (h : EvT G u ρ Pb) (h1 : Pb true → Sv G ts ρ (fun _ => False) R) (h2 : Pb false → Sv G tw ρ N R) : Sv G (tSeq (tIfS u ts tNext) tw) ρ N R :=
  sv_seq (M := fun ρ' => ρ' = ρ ∧ Pb false) (sv_if h (fun e => (h1 e).imp (fun _ z => z.elim) fun _ z => z) (fun e => sv_next ⟨rfl, e⟩)) fun ρ' ⟨e, eb⟩ => by rw [e]; exact h2 eb
/-! relational forms -/
variable {Pi Qi : Int → Prop}
abbrev IntP (Pi : Int → Prop) : DP := fun d => ∃ n : Int, Pi n ∧ d = .int n
theorem ev_opR {r : R2} {f : Int → Int → Int} (ha : Ev G ta ρ (IntP Pi)) (hb : Ev G tb ρ (IntP Qi)) (hr : ∀ i j, Pi i → Qi j → Rv G.K r (.int i) (.int j) (· = .int (f i j))) : Ev G (tOp r ta tb) ρ (IntP fun n => ∃ i j, Pi i ∧ Qi j ∧ n = f i j) :=
  ev_opg ha hb fun x y ⟨i, hi, ex⟩ ⟨j, hj, ey⟩ => by
    subst ex ey
    intro A H v w Q al d1 d2 q
    exact hr i j hi hj A H v w Q al d1 d2 fun z d H' s dz pz => q z d H' s dz ⟨f i j, ⟨i, j, hi, hj, rfl⟩, pz⟩
theorem ev_intR (i : Int) : Ev G (tC (.int i)) ρ (IntP (· = i)) := ev_int.imp fun d e => ⟨i, rfl, e⟩
theorem ev_int1R (ha : Ev G ta ρ (IntP Pi)) : Ev G (tCB rInt1 (tCons ta tNil)) ρ (IntP Pi) := ev_cbg (ea_consg ha ea_nil) fun ds ⟨x, xs, e, ⟨n, hn, ex⟩, exs⟩ => by
  subst e ex exs
  intro A H vs Q al h q
  exact rc_intI A H vs Q al h fun z d H' s dz pz => q z d H' s dz ⟨n, hn, pz⟩
theorem et_cmpR {c : Int → Int → Bool} (ha : Ev G ta ρ (IntP Pi)) (hb : Ev G tb ρ (IntP Qi)) : EvT G (tTest (tOp (rI0 fun i j => .bl (c i j)) ta tb)) ρ (fun _ => True) :=
  et_testg (P := fun d => ∃ b, d = .bool b) (ev_opg ha hb fun x y ⟨i, _, ex⟩ ⟨j, _, ey⟩ => by
    subst ex ey
    intro A H v w Q al d1 d2 q
    exact rv_I0 (e := .bool (c i j)) (fun _ _ => .bl _) A H v w Q al d1 d2 fun z d H' s dz pz => q z d H' s dz ⟨_, pz⟩) fun d ⟨b, e⟩ => ⟨b, e, trivial⟩
theorem IntP.imp {d : PyData} (h : IntP Pi d) (k : ∀ n, Pi n → Qi n) : IntP Qi d := h.elim fun n z => ⟨n, k n z.1, z.2⟩
end
section
variable {P : Program} {w : World} {K : PySem.W.Frag} {mg : Str → Option Value} {base : Heap} {f : Addr} {fd : FuncData} {CT fI : Addr} {sz : Addr}
theorem sc_law_draw : FnScope ["_law_feed_here", "_law_many", "_law_cell", "_law_mixed", "_law_digit", "_law_k", "_law_cells"] ["_law_feed_here", "_law_many"] (defScope s_law_draw) := ⟨rfl, rfl, rfl, by decide +kernel, rfl, by decide +kernel, by decide +kernel⟩
abbrev sp_law_draw (K : PySem.W.Frag) (CT : Addr) : Sp := spF K (fun n : Int => [.int n]) (fun n => 0 < n ∧ n < 1000000) (fun n d => ∃ r : Int, (0 ≤ r ∧ r < n) ∧ d = .int r)
theorem ok_law_draw (T : Tx K mg) (F : FnP K "_law_draw" s_law_draw f fd)  : FnOk P w K mg base (L2.CX P w) 1 f fd ["_law_feed_here", "_law_many"] (sp_law_draw K CT) := by
  refine fn_f CT F sc_law_draw (fun _ => rfl) fun cdv A outer s H E n hr hn => ?_
  obtain ⟨hn0, hn1⟩ := hn
  have nd := sc_law_draw.nd
  have hu1 : (A.deeper (PyProof.Rows.envOfC "_law_draw" (defScope s_law_draw) s.heap.objs.size f cdv)).units + 1 < cLine := by have := hr.units; omega
  refine ⟨_, (pss_cons (ps_dput hu1 (pv 0) pe_str (pe_op op_add (pe_dget hu1 (pv 0) pe_str (fun _ _ => rfl)) pe_int) rfl) (pss_cons (ps_if (pt_cmpR op_gt (pe_dget hu1 (pv 0) pe_str (fun _ _ => rfl)) pe_int (nomark _)) (pss_cons (ps_set (i := 4) nd rfl (Or.inl rfl) (pe_op op_mod (pe_callTy (T := "int") call_int1 (by rfl) T.b_int (by decide +kernel) (pa_cons (pe_dget hu1 (pv 0) pe_str (fun _ _ => rfl)) pa_nil)) (pv 1))) (pss_cons (ps_dput hu1 (pv 0) pe_str (pe_op op_fdiv (pe_dget hu1 (pv 0) pe_str (fun _ _ => rfl)) (pv 1)) rfl) (pss_one (ps_ret (pv 4))))) pss_nil) (pss_cons (ps_par (i := 5) (j := 6) (by rfl) nd rfl rfl (by decide) rfl rfl (pa_cons (pe_dget hu1 (pv 0) pe_str (fun _ _ => rfl)) (pa_cons (pe_dget hu1 (pv 0) pe_str (fun _ _ => rfl)) pa_nil)) (by rfl)) (pss_cons (ps_dput hu1 (pv 0) pe_str (pe_op op_add (pv 5) pe_int) rfl) (pss_cons (ps_set (i := 2) nd rfl (Or.inl rfl) (pe_ifExp (pt_cmpR (op_neNil (K := K) hr.units) (pv 6) (pe_lst pa_nil) (nomark _)) (pe_ix (ix_listK (K := K)) (pv 6) (pe_op op_mod (pe_callTy (T := "int") call_int1 (by rfl) T.b_int (by decide +kernel) (pa_cons (pv 5) pa_nil)) (pe_callB (id := "len") (c_lenK (K := K)) (by rfl) T.b_len PySem.boot_len (pa_cons (pv 6) pa_nil))) (fun _ _ => rfl)) pe_int)) (pss_cons (ps_if (PW.pt (pw_and (pt_cmpR op_ge (pv 2) (pe_op op_pow pe_int pe_int) (nomark _)) (pw_and1 (pt_cmpR op_lt (pv 5) (pe_callB (id := "len") (c_lenK (K := K)) (by rfl) T.b_len PySem.boot_len (pa_cons (pv 6) pa_nil)) (nomark _))))) (pss_cons (ps_dput hu1 (pv 0) pe_str (pe_op op_fdiv (pv 2) (pv 1)) rfl) (pss_one (ps_ret (pe_op op_mod (pe_callTy (T := "int") call_int1 (by rfl) T.b_int (by decide +kernel) (pa_cons (pv 2) pa_nil)) (pv 1))))) pss_nil) (pss_cons (ps_set (i := 3) nd rfl (Or.inl rfl) (pe_op op_mod (pe_callTy (T := "int") call_int1 (by rfl) T.b_int (by decide +kernel) (pa_cons (pe_op op_add (pe_op op_add (pe_op op_mod (pe_callTy (T := "int") call_int1 (by rfl) T.b_int (by decide +kernel) (pa_cons (pv 2) pa_nil)) pe_int) (pe_op op_mul pe_int (pe_dget hu1 (pv 0) pe_str (fun _ _ => rfl)))) pe_int) pa_nil)) pe_int)) (pss_cons (ps_set (i := 3) nd rfl (Or.inl rfl) (pe_op op_mod (pe_callTy (T := "int") call_int1 (by rfl) T.b_int (by decide +kernel) (pa_cons (pe_op op_add (pe_op op_add (pe_op op_mul (pv 3) (pv 3)) (pe_op op_mul pe_int (pe_dget hu1 (pv 0) pe_str (fun _ _ => rfl)))) pe_int) pa_nil)) pe_int)) (pss_one (ps_ret (pe_op op_mod (pe_callTy (T := "int") call_int1 (by rfl) T.b_int (by decide +kernel) (pa_cons (pe_op op_fdiv (pe_op op_mod (pe_callTy (T := "int") call_int1 (by rfl) T.b_int (by decide +kernel) (pa_cons (pe_op op_add (pe_op op_mul (pv 3) (pv 3)) (pe_op op_mul pe_int (pv 3))) pa_nil)) pe_int) pe_int) pa_nil)) (pv 1)))))))))))), ?_⟩
  have nv : ∀ {ρ : List Sl}, ρ[1]? = some (.d (.int n)) → Ev ⟨K, CT, E, fun _ => False⟩ (tVar 1) ρ (IntP (· = n)) := fun h => (ev_var h).imp fun d e => ⟨n, rfl, e⟩
  have dr : ∀ {ρ : List Sl}, ρ[0]? = some .fd → Ev ⟨K, CT, E, fun _ => False⟩ (tDGet (tVar 0) (tC (.str "drawn"))) ρ (IntP fun _ => True) := fun h => (ev_drawn h).imp fun d ⟨k, e⟩ => ⟨k, trivial, e⟩
  have bnd : ∀ {m z : Int} {Pi : Int → Prop}, 0 < m → (∃ i j, Pi i ∧ j = m ∧ z = i % j) → 0 ≤ z ∧ z < m := fun hm ⟨i, j, _, hj, hz⟩ => by subst hj hz; exact ⟨Int.emod_nonneg _ (by omega), Int.emod_lt_of_pos _ hm⟩
  refine sv_fput rfl "drawn" (ev_opR (dr rfl) (ev_intR 1) fun i j _ _ => rv_add) (fun d ⟨z, _, e⟩ => ⟨z, e, put_drawn⟩) ?_
  refine sv_whenR (et_cmpR (c := fun i j => decide (j < i)) (ev_left rfl) (ev_intR 0)) (fun _ => ?_) fun _ => ?_
  · refine sv_set (ev_opR (ev_int1R (ev_left rfl)) (nv rfl) fun i j hi hj => rv_mod (by omega)) fun x hx => ?_
    obtain ⟨z, hz, rfl⟩ := hx
    refine sv_fput rfl "left" (ev_opR (ev_left rfl) (nv rfl) fun i j hi hj => rv_div ⟨by omega, by omega⟩) (fun d hd => ?_) (sv_retX ((ev_var rfl).imp fun d e => ⟨z, bnd hn0 hz, e⟩))
    obtain ⟨y, ⟨i, j, hi, hj, hy⟩, e⟩ := hd
    exact ⟨y, e, put_left (by rw [hy]; exact Int.ediv_nonneg hi (by omega))⟩
  · refine sv_parg (ea_consg (ev_next rfl) (ea_consg (ev_cells rfl) ea_nil)) fun ds hds => ?_
    obtain ⟨x1, xs, e1, ⟨k, hk, ek⟩, x2, ys, e2, ⟨ns, hns, en⟩, e3⟩ := hds
    subst e1 ek e2 en e3
    refine ⟨_, _, rfl, ?_⟩
    refine sv_fput rfl "next" (ev_op (ev_var rfl) ev_int rv_add) (fun d e => ⟨k + 1, e, put_next (by omega)⟩) ?_
    have len : ∀ {G : Gd} {ρ : List Sl}, ρ[6]? = some (.d (.list (ns.map .int))) → Ev G (tCB (rLenQ G.K) (tCons (tVar 6) tNil)) ρ (· = .int ns.length) := fun h => (ev_cb (ea_cons (ev_var h) ea_nil) rc_lenL).is (by rw [List.length_map])
    refine sv_set (P := IntP fun _ => True) (ev_if (et_test (ev_op (ev_var rfl) (ev_lst ea_nil) rv_neNil)) (fun e => ?_) fun e => ev_int.imp fun d e => ⟨_, trivial, e⟩) fun x hx => ?_
    · have hl : 0 < ns.length := by
        cases ns with
        | nil => cases e
        | cons a r => simp
      have h0 := Int.emod_nonneg k (show (ns.length : Int) ≠ 0 by omega)
      have h1 := Int.emod_lt_of_pos k (show (0 : Int) < ns.length by omega)
      exact (ev_op (ev_var rfl) (ev_op (ev_cb (ea_cons (ev_var rfl) ea_nil) rc_intI) (len rfl) (rv_mod (by omega))) (rv_ixL (atI_map rfl h0 h1 0))).imp fun d e => ⟨_, trivial, e⟩
    obtain ⟨c, _, rfl⟩ := hx
    refine sv_when (et_and (et_test (ev_op (ev_var rfl) (ev_op ev_int ev_int (rv_pow ⟨by decide, by decide, by decide⟩)) rv_ge)) fun _ => et_test (ev_op (ev_var rfl) (len rfl) rv_lt)) (fun e => ?_) fun e => ?_
    · have hc : (10 : Int) ^ (18 : Int).toNat ≤ c := of_decide_eq_true (Bool.and_eq_true_iff.mp e).1
      have hp : (0 : Int) ≤ (10 : Int) ^ (18 : Int).toNat := by decide
      refine sv_fput rfl "left" (ev_op (ev_var rfl) (ev_var rfl) (rv_div ⟨hn0, by omega⟩)) (fun d e => ⟨c / n, e, put_left (Int.ediv_nonneg (by omega) (by omega))⟩) (sv_retX ((ev_op (ev_cb (ea_cons (ev_var rfl) ea_nil) rc_intI) (ev_var rfl) (rv_mod hn0)).imp fun d e => ⟨c % n, ⟨Int.emod_nonneg _ (by omega), Int.emod_lt_of_pos _ hn0⟩, e⟩))
    · have cv : ∀ {ρ : List Sl}, ρ[2]? = some (.d (.int c)) → Ev ⟨K, CT, E, fun _ => False⟩ (tVar 2) ρ (IntP (· = c)) := fun h => (ev_var h).imp fun d e => ⟨c, rfl, e⟩
      refine sv_set (ev_opR (ev_int1R (ev_opR (ev_opR (ev_opR (ev_int1R (cv rfl)) (ev_intR _) fun i j _ hj => rv_mod (by omega)) (ev_opR (ev_intR _) (dr rfl) fun i j hi _ => rv_mul (.inl (by omega))) fun i j _ _ => rv_add) (ev_intR _) fun i j _ _ => rv_add)) (ev_intR 2147302746) fun i j _ hj => rv_mod (by omega)) fun x hx => ?_
      obtain ⟨m1, hm1, rfl⟩ := hx
      have b1 := bnd (by decide) hm1
      have mv : ∀ {ρ : List Sl}, ρ[3]? = some (.d (.int m1)) → Ev ⟨K, CT, E, fun _ => False⟩ (tVar 3) ρ (IntP (· = m1)) := fun h => (ev_var h).imp fun d e => ⟨m1, rfl, e⟩
      refine sv_set (ev_opR (ev_int1R (ev_opR (ev_opR (ev_opR (mv rfl) (mv rfl) fun i j hi _ => rv_mul (.inl (by omega))) (ev_opR (ev_intR _) (dr rfl) fun i j hi _ => rv_mul (.inl (by omega))) fun i j _ _ => rv_add) (ev_intR _) fun i j _ _ => rv_add)) (ev_intR 2147312250) fun i j _ hj => rv_mod (by omega)) fun x hx => ?_
      obtain ⟨m2, hm2, rfl⟩ := hx
      have b2 := bnd (by decide) hm2
      refine sv_retX ((ev_op (ev_cb (ea_cons (ev_op (ev_op (ev_cb (ea_cons (ev_op (ev_op (ev_var rfl) (ev_var rfl) (rv_mul (.inl (by omega)))) (ev_op ev_int (ev_var rfl) (rv_mul (.inl (by omega)))) rv_add) ea_nil) rc_intI) ev_int (rv_mod (by decide))) ev_int (rv_div ⟨by decide, by decide⟩)) ea_nil) rc_intI) (ev_var rfl) (rv_mod hn0)).imp fun d e => ⟨_, ⟨Int.emod_nonneg _ (by omega), Int.emod_lt_of_pos _ hn0⟩, e⟩)
end
end K13
set_option maxHeartbeats 4000000
/-! What the law draws: one of some, a turn, an act, a piece. -/
namespace K13
open PySem L2
/-! ### a list or a text -/
def rLenE (K : PySem.W.Frag) : List V → Hp → VK → Prop := fun xs H Q => rLenQ K xs H Q ∨ rLenS xs H Q
theorem c_lenE {X : Cx} {K : PySem.W.Frag} (h : X.K = K := by rfl) : CallR X (.builtin "len") (rLenE K) := by
  subst h
  intro pins s σ H vs us Q I r h
  rcases h with h | h
  · exact call_len_seq pins s σ H vs us Q I r h
  · exact call_len_str pins s σ H vs us Q I r h
def rIxE (K : PySem.W.Frag) : R2 := fun x y H Q => rIxL K x y H Q ∨ rIxS x y H Q
theorem ix_E {X : Cx} {K : PySem.W.Frag} (h : X.K = K := by rfl) : IxR X (rIxE K) := by
  subst h
  intro value slice pins s σ H x y v u Q I rx ry h hs
  rcases h with h | h
  · exact ix_list value slice pins s σ H x y v u Q I rx ry h hs
  · exact ix_str value slice pins s σ H x y v u Q I rx ry h hs
section
variable {P : Program} {w : World} {K : PySem.W.Frag} {mg : Str → Option Value} {base : Heap} {f : Addr} {fd : FuncData} {CT fI : Addr} {sz : Addr}
theorem sc_law_any : FnScope ["_law_feed_here", "_law_some"] ["_law_feed_here", "_law_some"] (defScope s_law_any) := ⟨rfl, rfl, rfl, by decide +kernel, rfl, by decide +kernel, by decide +kernel⟩
def anyA : List PyData ⊕ Str → List PyData
  | .inl xs => [.list xs]
  | .inr s => [.str s]
def anyPre : List PyData ⊕ Str → Prop
  | .inl xs => 0 < xs.length ∧ xs.length < 1000
  | .inr s => 0 < s.length ∧ s.length < 1000
def anyPost : List PyData ⊕ Str → DP
  | .inl xs => fun d => d ∈ xs
  | .inr s => fun d => ∃ c ∈ s.cps.toList, d = .str ⟨#[c]⟩
abbrev sp_law_any (K : PySem.W.Frag) (CT : Addr) : Sp := spF K anyA anyPre anyPost
theorem anyIn {xs : List PyData} (h0 : 0 < xs.length) (h1 : xs.length < 1000) : anyPre (.inl xs) := ⟨h0, h1⟩
theorem atI_in {α : Type} {l : List α} {i : Int} (h0 : 0 ≤ i) (h1 : i < l.length) : ∃ x ∈ l, atI l i = some x := by
  obtain ⟨j, rfl⟩ : ∃ j : Nat, i = j := ⟨i.toNat, by omega⟩
  have hj : j < l.length := by omega
  exact ⟨l[j], List.getElem_mem hj, atI_nat (by simp [hj])⟩
theorem ok_law_any (T : Tx K mg) (F : FnP K "_law_any" s_law_any f fd) (k_law_draw : Kn P w K mg base 1 "_law_draw" ["_law_feed_here", "_law_many"] (sp_law_draw K CT) []) : FnOk P w K mg base (L2.CX P w) 2 f fd ["_law_feed_here", "_law_some"] (sp_law_any K CT) := by
  refine fn_f CT F sc_law_any (fun a => by cases a <;> rfl) fun cdv A outer s H E a hr hp => ?_
  have nd := sc_law_any.nd
  refine ⟨_, (pss_one (ps_ret (pe_ix (ix_E (K := K)) (pv 1) (pe_kn k_law_draw hr (pa_cons (pv 0) (pa_cons (pe_callB (id := "len") (c_lenE (K := K)) (by rfl) T.b_len PySem.boot_len (pa_cons (pv 1) pa_nil)) pa_nil))) (fun _ _ => rfl)))), ?_⟩
  cases a with
  | inl xs =>
    obtain ⟨h0, h1⟩ := hp
    refine sv_retX (ev_opg (P1 := (· = .list xs)) (P2 := IntP fun i => 0 ≤ i ∧ i < xs.length) (ev_var rfl) ((ev_callF ((xs.length : Nat) : Int) rfl (ea_cons (ev_cb (P := (· = .int xs.length)) (ea_cons (ev_var rfl) ea_nil) fun A H vs Q al d q => .inl (rc_lenL A H vs Q al d q)) ea_nil) ⟨by omega, by omega⟩).imp fun d ⟨r, hr, e⟩ => ⟨r, hr, e⟩) fun x y hx hy => ?_)
    obtain ⟨i, hi, rfl⟩ := hy
    subst hx
    obtain ⟨z, hz, ez⟩ := atI_in hi.1 hi.2
    intro A H v w Q al d1 d2 q
    exact .inl (rv_ixL ez A H v w Q al d1 d2 fun z' d H' s dz pz => q z' d H' s dz (by rw [pz]; exact hz))
  | inr st =>
    obtain ⟨h0, h1⟩ := hp
    have hl : st.length = st.cps.toList.length := by simp [Str.length]
    refine sv_retX (ev_opg (P1 := (· = .str st)) (P2 := IntP fun i => 0 ≤ i ∧ i < st.length) (ev_var rfl) ((ev_callF ((st.length : Nat) : Int) rfl (ea_cons (ev_cb (P := (· = .int st.length)) (ea_cons (ev_var rfl) ea_nil) fun A H vs Q al d q => .inr (rc_lenS (by omega) A H vs Q al d q)) ea_nil) ⟨by omega, by omega⟩).imp fun d ⟨r, hr, e⟩ => ⟨r, hr, e⟩) fun x y hx hy => ?_)
    obtain ⟨i, hi, rfl⟩ := hy
    subst hx
    obtain ⟨z, hz, ez⟩ := atI_in (l := st.cps.toList) hi.1 (by rw [← hl]; exact hi.2)
    intro A H v w Q al d1 d2 q
    exact .inr (rv_ixS (by omega) ez A H v w Q al d1 d2 fun z' d H' s dz pz => q z' d H' s dz ⟨z, hz, pz⟩)
/-! ### pieces that are drawn -/
def FOk (x : PyData) : Prop := (∃ n : Nat, n < 10 ^ 45 ∧ x = .int n) ∨ ∃ t : Mat, x = tabD t ∧ t.length ≤ 6 ∧ ∀ r ∈ t, r.length ≤ 6 ∧ ∀ i ∈ r, 0 ≤ i ∧ i < 10000
/-- a piece as it may be drawn: a word, then one to three numbers and tables -/
def GP (d : PyData) : Prop := ∃ (k : Str) (fs : List PyData), d = .tuple (.str k :: fs) ∧ k.length ≤ 5 ∧ fs ≠ [] ∧ fs.length ≤ 3 ∧ ∀ x ∈ fs, FOk x
theorem fok_int {i : Int} (h0 : 0 ≤ i) (h : i < 10 ^ 45) : FOk (.int i) := by
  obtain ⟨n, rfl⟩ : ∃ n : Nat, i = n := ⟨i.toNat, by omega⟩
  exact .inl ⟨n, by exact_mod_cast h, rfl⟩
theorem fok_tab {t : Mat} (h1 : t.length ≤ 6) (h2 : ∀ r ∈ t, r.length ≤ 6 ∧ ∀ i ∈ r, 0 ≤ i ∧ i < 10000) : FOk (tabD t) := .inr ⟨t, rfl, h1, h2⟩
theorem gp1 {k : Str} {a : PyData} (hk : k.length ≤ 5) (ha : FOk a) : GP (.tuple [.str k, a]) := ⟨k, [a], rfl, hk, by simp, by simp, fun x hx => by rw [List.mem_singleton.mp hx]; exact ha⟩
theorem gp2 {k : Str} {a b : PyData} (hk : k.length ≤ 5) (ha : FOk a) (hb : FOk b) : GP (.tuple [.str k, a, b]) := ⟨k, [a, b], rfl, hk, by simp, by simp, fun x hx => by
  rcases List.mem_cons.mp hx with e | hx
  · rw [e]; exact ha
  · rw [List.mem_singleton.mp hx]; exact hb⟩
theorem gp3 {k : Str} {a b c : PyData} (hk : k.length ≤ 5) (ha : FOk a) (hb : FOk b) (hc : FOk c) : GP (.tuple [.str k, a, b, c]) := ⟨k, [a, b, c], rfl, hk, by simp, by simp, fun x hx => by
  rcases List.mem_cons.mp hx with e | hx
  · rw [e]; exact ha
  rcases List.mem_cons.mp hx with e | hx
  · rw [e]; exact hb
  · rw [List.mem_singleton.mp hx]; exact hc⟩
theorem sc_law_acts : FnScope ["_law_feed_here", "_law_some", "_law_late", "_law_lap", "_law_m", "_law_d", "_law_u"] ["_law_feed_here"] (defScope s_law_acts) := ⟨rfl, rfl, rfl, by decide +kernel, rfl, by decide +kernel, by decide +kernel⟩
abbrev sp_law_acts (K : PySem.W.Frag) (CT : Addr) : Sp := spF K (fun _ : Unit => []) (fun _ => True) (fun _ => GP)
def actsL : List (Int × Int × Int) := [(7, 3, 2), (15, 2, 4), (9, 2, 8), (25, 4, 7), (91, 3, 16), (1, 6, 0), (6, 1, 1), (2, 3, 1), (7, 9, 2), (31, 5, 2), (3, 4, 2), (10 ^ 30 + 1, 2, 10 ^ 30), (5, 4, 1), (43, 42 * 43 + 1, 1), (77, 30, 2)]
abbrev actD (p : Int × Int × Int) : PyData := .tuple [.int p.1, .int p.2.1, .int p.2.2]
theorem actsL_ok : ∀ p ∈ actsL, 0 < p.1 ∧ p.1 < 10 ^ 31 ∧ 0 ≤ p.2.1 ∧ p.2.1 < 10 ^ 31 ∧ 0 ≤ p.2.2 ∧ p.2.2 < 10 ^ 31 := by decide
theorem ok_law_acts (T : Tx K mg) (F : FnP K "_law_acts" s_law_acts f fd) (k_law_any : Kn P w K mg base 2 "_law_any" ["_law_feed_here", "_law_some"] (sp_law_any K CT) []) (k_law_draw : Kn P w K mg base 1 "_law_draw" ["_law_feed_here", "_law_many"] (sp_law_draw K CT) []) : FnOk P w K mg base (L2.CX P w) 3 f fd ["_law_feed_here"] (sp_law_acts K CT) := by
  refine fn_f CT F sc_law_acts (fun a => rfl) fun cdv A outer s H E a hr hp => ?_
  have nd := sc_law_acts.nd
  refine ⟨_, (pss_cons (ps_set (i := 1) nd rfl (Or.inl rfl) (pe_lst (pa_cons (pe_tup (pa_cons pe_int (pa_cons pe_int (pa_cons pe_int pa_nil)))) (pa_cons (pe_tup (pa_cons pe_int (pa_cons pe_int (pa_cons pe_int pa_nil)))) (pa_cons (pe_tup (pa_cons pe_int (pa_cons pe_int (pa_cons pe_int pa_nil)))) (pa_cons (pe_tup (pa_cons pe_int (pa_cons pe_int (pa_cons pe_int pa_nil)))) (pa_cons (pe_tup (pa_cons pe_int (pa_cons pe_int (pa_cons pe_int pa_nil)))) (pa_cons (pe_tup (pa_cons pe_int (pa_cons pe_int (pa_cons pe_int pa_nil)))) (pa_cons (pe_tup (pa_cons pe_int (pa_cons pe_int (pa_cons pe_int pa_nil)))) (pa_cons (pe_tup (pa_cons pe_int (pa_cons pe_int (pa_cons pe_int pa_nil)))) (pa_cons (pe_tup (pa_cons pe_int (pa_cons pe_int (pa_cons pe_int pa_nil)))) pa_nil))))))))))) (pss_cons (ps_set (i := 1) nd rfl (Or.inl rfl) (pe_op (catLK (K := K)) (pv 1) (pe_lst (pa_cons (pe_tup (pa_cons pe_int (pa_cons pe_int (pa_cons pe_int pa_nil)))) (pa_cons (pe_tup (pa_cons pe_int (pa_cons pe_int (pa_cons pe_int pa_nil)))) (pa_cons (pe_tup (pa_cons (pe_op op_add (pe_op op_pow pe_int pe_int) pe_int) (pa_cons pe_int (pa_cons (pe_op op_pow pe_int pe_int) pa_nil)))) (pa_cons (pe_tup (pa_cons pe_int (pa_cons pe_int (pa_cons pe_int pa_nil)))) (pa_cons (pe_tup (pa_cons pe_int (pa_cons (pe_op op_add (pe_op op_mul pe_int pe_int) pe_int) (pa_cons pe_int pa_nil)))) (pa_cons (pe_tup (pa_cons pe_int (pa_cons pe_int (pa_cons pe_int pa_nil)))) pa_nil))))))))) (pss_cons (ps_if (pt_cmpR op_eq (pe_kn k_law_draw hr (pa_cons (pv 0) (pa_cons pe_int pa_nil))) pe_int (nomark _)) (pss_cons (ps_set (i := 4) nd rfl (Or.inl rfl) (pe_op op_add pe_int (pe_kn k_law_draw hr (pa_cons (pv 0) (pa_cons pe_int pa_nil))))) (pss_one (ps_ret (pe_tup (pa_cons pe_str (pa_cons (pv 4) (pa_cons (pe_op op_add pe_int (pe_kn k_law_draw hr (pa_cons (pv 0) (pa_cons pe_int pa_nil)))) (pa_cons (pe_kn k_law_draw hr (pa_cons (pv 0) (pa_cons (pv 4) pa_nil))) pa_nil)))))))) pss_nil) (pss_cons (ps_asg (pe_kn k_law_any hr (pa_cons (pv 0) (pa_cons (pv 1) pa_nil))) (pg_tup (by rfl) (pgs_cons (pg_name (i := 4) nd rfl (Or.inl rfl)) (pgs_cons (pg_name (i := 5) nd rfl (Or.inl rfl)) (pgs_cons (pg_name (i := 6) nd rfl (Or.inl rfl)) pgs_nil))))) (pss_cons (ps_set (i := 2) nd rfl (Or.inl rfl) (pv 6)) (pss_cons (ps_for (passes_of rfl) rfl (pi_range1 (by rfl) T.b_range (pa_cons (pe_kn k_law_draw hr (pa_cons (pv 0) (pa_cons pe_int pa_nil))) pa_nil)) (pg_name (i := 3) nd rfl (Or.inl rfl)) (pss_one (ps_set (i := 2) nd rfl (Or.inl rfl) (pe_op op_mod (pe_callTy (T := "int") call_int1 (by rfl) T.b_int (by decide +kernel) (pa_cons (pe_op op_mulW (pv 2) (pv 6)) pa_nil)) (pv 4))))) (pss_one (ps_ret (pe_tup (pa_cons pe_str (pa_cons (pv 4) (pa_cons (pv 5) (pa_cons (pv 2) pa_nil))))))))))))), ?_⟩
  have e3 : ∀ {G : Gd} {ρ : List Sl} {a b c : TE} {x y z : Int}, Ev G a ρ (· = .int x) → Ev G b ρ (· = .int y) → Ev G c ρ (· = .int z) → Ev G (tTup (tCons a (tCons b (tCons c tNil)))) ρ (· = actD (x, y, z)) := fun ha hb hc => ev_tup (ea_cons ha (ea_cons hb (ea_cons hc ea_nil))) (by simp)
  have i3 : ∀ {G : Gd} {ρ : List Sl} {x y z : Int}, Ev G (tTup (tCons (tC (.int x)) (tCons (tC (.int y)) (tCons (tC (.int z)) tNil)))) ρ (· = actD (x, y, z)) := e3 ev_int ev_int ev_int
  refine sv_setX (x := .list ((actsL.take 9).map actD)) (ev_lst (ea_cons i3 (ea_cons i3 (ea_cons i3 (ea_cons i3 (ea_cons i3 (ea_cons i3 (ea_cons i3 (ea_cons i3 (ea_cons i3 ea_nil))))))))) (by decide)) ?_
  have p30 : ∀ {G : Gd} {ρ : List Sl}, Ev G (tOp (rI CPow fun i j => .int (i ^ j.toNat)) (tC (.int 10)) (tC (.int 30))) ρ (· = .int (10 ^ 30)) := (ev_op ev_int ev_int (rv_pow ⟨by decide, by decide, by decide⟩)).is rfl
  refine sv_setX (x := .list (actsL.map actD)) ((ev_op (ev_var rfl) (ev_lst (xs := (actsL.drop 9).map actD) (ea_cons i3 (ea_cons i3 (ea_cons (e3 (ev_op p30 ev_int rv_add) ev_int p30) (ea_cons i3 (ea_cons (e3 ev_int (ev_op (ev_op ev_int ev_int (rv_mul (.inl (by decide)))) ev_int rv_add) ev_int) (ea_cons i3 ea_nil)))))) (by decide)) (rv_catL (by decide))).is rfl) ?_
  have draw : ∀ {ρ : List Sl} (n : Int), ρ[0]? = some .fd → 0 < n → n < 1000000 → Ev ⟨K, CT, E, fun _ => False⟩ (tCall (sp_law_draw K CT) [] E0 (tCons (tVar 0) (tCons (tC (.int n)) tNil))) ρ (IntP fun r => 0 ≤ r ∧ r < n) := fun n h h0 h1 => (ev_callF n h (ea_cons ev_int ea_nil) ⟨h0, h1⟩).imp fun d ⟨r, hr, e⟩ => ⟨r, hr, e⟩
  refine sv_whenR (Pb := fun _ => True) (et_testg (P := fun d => ∃ b, d = .bool b) (ev_opg (draw 3 rfl (by decide) (by decide)) ev_int fun x y ⟨i, _, ex⟩ ey => by
    subst ex ey
    intro A H v w Q al d1 d2 q
    exact rv_eqI A H v w Q al d1 d2 fun z d H' s dz pz => q z d H' s dz ⟨_, pz⟩) fun d ⟨b, e⟩ => ⟨b, e, trivial⟩) (fun _ => ?_) fun _ => ?_
  · refine sv_set (ev_opR (ev_intR 1) (draw 40 rfl (by decide) (by decide)) fun i j _ _ => rv_add) fun x hx => ?_
    obtain ⟨m, ⟨i, j, hi, hj, hm⟩, rfl⟩ := hx
    have m0 : 0 < m := by omega
    have m1 : m < 1000000 := by omega
    refine sv_ret (ev_tupg (ea_consg ev_str (ea_consg (ev_var rfl) (ea_consg (ev_opR (ev_intR 1) (draw 12 rfl (by decide) (by decide)) fun i j _ _ => rv_add) (ea_consg (ev_callF m rfl (ea_cons (ev_var rfl) ea_nil) ⟨m0, m1⟩) ea_nil)))) (fun xs ⟨_, _, e, _, _, _, e2, _, _, _, e3, _, _, _, e4, _, e5⟩ => by subst e e2 e3 e4 e5; simp)) fun d hd => ?_
    obtain ⟨xs, ed, x1, y1, e1, h1, x2, y2, e2, h2, x3, y3, e3, ⟨z, ⟨i3, j3, hi3, hj3, hz⟩, e6⟩, x4, y4, e4, ⟨r, hr, e7⟩, e5⟩ := hd
    subst e1 h1 e2 h2 e3 e6 e4 e7 e5 ed
    exact gp3 (by decide) (fok_int (by omega) (by omega)) (fok_int (by omega) (by omega)) (fok_int (by omega) (by omega))
  · refine sv_seq (M := fun ρ' => ∃ p ∈ actsL, ∃ a b c, ρ' = [.fd, a, b, c, .d (.int p.1), .d (.int p.2.1), .d (.int p.2.2)]) (sv_asg (ev_callF (Sum.inl (actsL.map actD) : List PyData ⊕ Str) rfl (ea_cons (ev_var rfl) ea_nil) (anyIn (by decide) (by decide))) fun x hx => ?_) fun ρ' h => ?_
    · obtain ⟨p, hp, rfl⟩ := List.mem_map.mp hx
      exact ⟨_, gv_tup (gvs_cons gv_name (gvs_cons gv_name (gvs_cons gv_name gvs_nil))) rfl, p, hp, _, _, _, rfl⟩
    · obtain ⟨⟨m, d, u⟩, hp, a, b, c, rfl⟩ := h
      obtain ⟨m0, m1, d0, d1, u0, u1⟩ := actsL_ok _ hp
      simp only at m0 m1 d0 d1 u0 u1
      refine sv_setX (ev_var rfl) (sv_seq (M := fun ρ' => ∃ (a c : Sl) (l : Int), ρ' = [.fd, a, .d (.int l), c, .d (.int m), .d (.int d), .d (.int u)] ∧ 0 ≤ l ∧ l < 10 ^ 31) (sv_forg (PL := fun _ => True) (ei_rng1g (Ps := fun ds => ∃ r : Int, (0 ≤ r ∧ r < 3) ∧ ds = [.int r]) ((ea_consg (draw 3 rfl (by decide) (by decide)) ea_nil).imp fun ds ⟨x, xs, e, ⟨r, hr, e2⟩, e3⟩ => ⟨r, hr, by rw [e, e2, e3]⟩) fun ds ⟨r, hr, e⟩ => ⟨r, e, by omega, by omega, trivial⟩)
        (fun _ _ ρ' => ∃ (a c : Sl) (l : Int), ρ' = [.fd, a, .d (.int l), c, .d (.int m), .d (.int d), .d (.int u)] ∧ 0 ≤ l ∧ l < 10 ^ 31) (fun _ _ => ⟨_, _, u, rfl, u0, u1⟩) ?_ fun _ _ ρ' h => h) fun ρ' h => ?_)
      · rintro xs - i x ρ' hx ⟨a, c, l, rfl, l0, l1⟩
        refine ⟨_, gv_name, sv_set1 (ev_op (ev_cb (ea_cons (ev_op (ev_var rfl) (ev_var rfl) (rv_I (fun _ _ => .int _) (wide_mul (a := 400) (b := 400) (by omega) (by omega) (by decide) (by decide) (by decide)))) ea_nil) rc_intI) (ev_var rfl) (rv_mod m0)) fun y ey => ⟨a, .d x, l * u % m, by rw [ey]; rfl, Int.emod_nonneg _ (by omega), Int.lt_trans (Int.emod_lt_of_pos _ m0) m1⟩⟩
      · obtain ⟨a, c, l, rfl, l0, l1⟩ := h
        refine sv_retX ((ev_tup (ea_cons ev_str (ea_cons (ev_var rfl) (ea_cons (ev_var rfl) (ea_cons (ev_var rfl) ea_nil)))) (by simp)).imp fun x ex => ?_)
        rw [ex]
        exact gp3 (by decide) (fok_int (by omega) (by omega)) (fok_int (by omega) (by omega)) (fok_int (by omega) (by omega))
theorem sc_law_turns : FnScope ["_law_feed_here", "_law_found", "_law_way", "_law_p", "_law_size", "_law_rows", "_law_q", "_law_i", "_law_j"] ["_law_feed_here"] (defScope s_law_turns) := ⟨rfl, rfl, rfl, by decide +kernel, rfl, by decide +kernel, by decide +kernel⟩
abbrev sp_law_turns (K : PySem.W.Frag) (CT : Addr) : Sp := spF K (fun _ : Unit => []) (fun _ => True) (fun _ => GP)
abbrev turnD (p : Int × Mat × Int) : PyData := .tuple [.str "turn", .int p.1, tabD p.2.1, .int p.2.2]
def turnsL : List (Int × Mat × Int) := [(2, [[0, 1], [1, 1]], 3), (19, [[0, 18], [1, 14]], 5), (13, [[0, 12], [1, 7]], 7), (7, [[2]], 3), (29, [[0, 28], [1, 23]], 5), (7, [[1, 0], [0, 2]], 3), (2, [[0, 0, 1], [1, 0, 1], [0, 1, 0]], 7), (3, [[0, 1], [1, 0]], 2), (11, [[0, 0, 1], [1, 0, 5], [0, 1, 4]], 7)]
theorem turnsL_ok : ∀ p ∈ turnsL, (0 ≤ p.1 ∧ p.1 < 100) ∧ (0 ≤ p.2.2 ∧ p.2.2 < 100) ∧ p.2.1.length ≤ 6 ∧ ∀ r ∈ p.2.1, r.length ≤ 6 ∧ ∀ i ∈ r, 0 ≤ i ∧ i < 10000 := by decide
theorem turnsL_gp {p : Int × Mat × Int} (h : p ∈ turnsL) : GP (turnD p) := by
  obtain ⟨h1, h2, h3, h4⟩ := turnsL_ok p h
  exact gp3 (by decide) (fok_int h1.1 (by omega)) (fok_tab h3 h4) (fok_int h2.1 (by omega))
/-- rows that are drawn: a list of rows of numbers -/
theorem all2_rows {xs : List PyData} {n : Nat} {ds : List PyData} (h : All2 (fun _ d => ∃ r : List Int, d = rowD r ∧ r.length ≤ n ∧ ∀ i ∈ r, 0 ≤ i ∧ i < 10000) xs ds) : ∃ t : Mat, ds = t.map rowD ∧ t.length = xs.length ∧ ∀ r ∈ t, r.length ≤ n ∧ ∀ i ∈ r, 0 ≤ i ∧ i < 10000 := by
  induction h with
  | nil => exact ⟨[], rfl, rfl, fun r hr => by cases hr⟩
  | cons h1 _ ih =>
    obtain ⟨r, e1, e2, e3⟩ := h1
    obtain ⟨t, e4, e5, e6⟩ := ih
    refine ⟨r :: t, by rw [e1, e4]; rfl, congrArg (· + 1) e5, fun q hq => ?_⟩
    rcases List.mem_cons.mp hq with e | e
    · rw [e]; exact ⟨e2, e3⟩
    · exact e6 q e
theorem all2_nums {xs : List PyData} {ds : List PyData} (h : All2 (fun _ d => IntP (fun i => 0 ≤ i ∧ i < 10000) d) xs ds) : ∃ r : List Int, ds = r.map .int ∧ r.length = xs.length ∧ ∀ i ∈ r, 0 ≤ i ∧ i < 10000 := by
  induction h with
  | nil => exact ⟨[], rfl, rfl, fun r hr => by cases hr⟩
  | cons h1 _ ih =>
    obtain ⟨r, e1, e2⟩ := h1
    obtain ⟨t, e4, e5, e6⟩ := ih
    refine ⟨r :: t, by rw [e2, e4]; rfl, congrArg (· + 1) e5, fun q hq => ?_⟩
    rcases List.mem_cons.mp hq with e | e
    · rw [e]; exact e1
    · exact e6 q e
theorem filter_yes {xs : List PyData} : xs.filter (fun _ => true) = xs := List.filter_eq_self.mpr fun _ _ => rfl
theorem rc_tupR {K : PySem.W.Frag} {ds : List PyData} {P : DP} (h : P (.tuple ds)) : Rc K (rTupOf K) [.list ds] P := fun A H vs Q al d q => rc_tupL A H vs Q al d fun z d H' s dz pz => q z d H' s dz (by rw [pz]; exact h)
theorem ok_law_turns (T : Tx K mg) (F : FnP K "_law_turns" s_law_turns f fd) (k_law_draw : Kn P w K mg base 1 "_law_draw" ["_law_feed_here", "_law_many"] (sp_law_draw K CT) []) (k_law_any : Kn P w K mg base 2 "_law_any" ["_law_feed_here", "_law_some"] (sp_law_any K CT) []) : FnOk P w K mg base (L2.CX P w) 3 f fd ["_law_feed_here"] (sp_law_turns K CT) := by
  refine fn_f CT F sc_law_turns (fun a => rfl) fun cdv A outer s H E a hr hp => ?_
  have nd := sc_law_turns.nd
  refine ⟨_, (pss_cons (ps_set (i := 1) nd rfl (Or.inl rfl) (pe_lst (pa_cons (pe_tup (pa_cons pe_str (pa_cons pe_int (pa_cons (pe_tup (pa_cons (pe_tup (pa_cons pe_int (pa_cons pe_int pa_nil))) (pa_cons (pe_tup (pa_cons pe_int (pa_cons pe_int pa_nil))) pa_nil))) (pa_cons pe_int pa_nil))))) (pa_cons (pe_tup (pa_cons pe_str (pa_cons pe_int (pa_cons (pe_tup (pa_cons (pe_tup (pa_cons pe_int (pa_cons pe_int pa_nil))) (pa_cons (pe_tup (pa_cons pe_int (pa_cons pe_int pa_nil))) pa_nil))) (pa_cons pe_int pa_nil))))) (pa_cons (pe_tup (pa_cons pe_str (pa_cons pe_int (pa_cons (pe_tup (pa_cons (pe_tup (pa_cons pe_int (pa_cons pe_int pa_nil))) (pa_cons (pe_tup (pa_cons pe_int (pa_cons pe_int pa_nil))) pa_nil))) (pa_cons pe_int pa_nil))))) pa_nil))))) (pss_cons (ps_set (i := 1) nd rfl (Or.inl rfl) (pe_op (catLK (K := K)) (pv 1) (pe_lst (pa_cons (pe_tup (pa_cons pe_str (pa_cons pe_int (pa_cons (pe_tup (pa_cons (pe_tup (pa_cons pe_int pa_nil)) pa_nil)) (pa_cons pe_int pa_nil))))) (pa_cons (pe_tup (pa_cons pe_str (pa_cons pe_int (pa_cons (pe_tup (pa_cons (pe_tup (pa_cons pe_int (pa_cons pe_int pa_nil))) (pa_cons (pe_tup (pa_cons pe_int (pa_cons pe_int pa_nil))) pa_nil))) (pa_cons pe_int pa_nil))))) (pa_cons (pe_tup (pa_cons pe_str (pa_cons pe_int (pa_cons (pe_tup (pa_cons (pe_tup (pa_cons pe_int (pa_cons pe_int pa_nil))) (pa_cons (pe_tup (pa_cons pe_int (pa_cons pe_int pa_nil))) pa_nil))) (pa_cons pe_int pa_nil))))) pa_nil)))))) (pss_cons (ps_set (i := 1) nd rfl (Or.inl rfl) (pe_op (catLK (K := K)) (pv 1) (pe_lst (pa_cons (pe_tup (pa_cons pe_str (pa_cons pe_int (pa_cons (pe_tup (pa_cons (pe_tup (pa_cons pe_int (pa_cons pe_int (pa_cons pe_int pa_nil)))) (pa_cons (pe_tup (pa_cons pe_int (pa_cons pe_int (pa_cons pe_int pa_nil)))) (pa_cons (pe_tup (pa_cons pe_int (pa_cons pe_int (pa_cons pe_int pa_nil)))) pa_nil)))) (pa_cons pe_int pa_nil))))) (pa_cons (pe_tup (pa_cons pe_str (pa_cons pe_int (pa_cons (pe_tup (pa_cons (pe_tup (pa_cons pe_int (pa_cons pe_int pa_nil))) (pa_cons (pe_tup (pa_cons pe_int (pa_cons pe_int pa_nil))) pa_nil))) (pa_cons pe_int pa_nil))))) pa_nil))))) (pss_cons (ps_expr (pe_bm PySem.F.plainAttrs_list PySem.F.slot_list_append PySem.F.type_list_append mt_append (pv 1) (pa_cons (pe_tup (pa_cons pe_str (pa_cons pe_int (pa_cons (pe_tup (pa_cons (pe_tup (pa_cons pe_int (pa_cons pe_int (pa_cons pe_int pa_nil)))) (pa_cons (pe_tup (pa_cons pe_int (pa_cons pe_int (pa_cons pe_int pa_nil)))) (pa_cons (pe_tup (pa_cons pe_int (pa_cons pe_int (pa_cons pe_int pa_nil)))) pa_nil)))) (pa_cons pe_int pa_nil))))) pa_nil))) (pss_cons (ps_set (i := 2) nd rfl (Or.inl rfl) (pe_kn k_law_draw hr (pa_cons (pv 0) (pa_cons pe_int pa_nil)))) (pss_cons (ps_if (pt_cmpR op_eq (pv 2) pe_int (nomark _)) (pss_one (ps_ret (pe_kn k_law_any hr (pa_cons (pv 0) (pa_cons (pv 1) pa_nil))))) pss_nil) (pss_cons (ps_set (i := 3) nd rfl (Or.inr rfl) (pe_kn k_law_any hr (pa_cons (pv 0) (pa_cons (pe_lst (pa_cons pe_int (pa_cons pe_int (pa_cons pe_int (pa_cons pe_int (pa_cons pe_int (pa_cons pe_int (pa_cons pe_int pa_nil)))))))) pa_nil)))) (pss_cons (ps_if (pt_cmpR op_eq (pv 2) pe_int (nomark _)) (pss_cons (ps_set (i := 6) nd rfl (Or.inr rfl) (pe_kn k_law_any hr (pa_cons (pv 0) (pa_cons (pe_lst (pa_cons pe_int (pa_cons pe_int (pa_cons pe_int pa_nil)))) pa_nil)))) (pss_cons (ps_set (i := 6) nd rfl (Or.inr rfl) (pe_ifExp (pt_cmpR op_eq (pv 6) (pv 3) (nomark _)) pe_int (pv 6))) (pss_cons (ps_setLc (i := 5) rfl nd rfl rfl (sw_true rfl rfl rfl (by decide +kernel)) (pi_range1 (by rfl) T.b_range (pa_cons (pe_op op_sub (pv 6) pe_int) pa_nil)) (blkOk_by (own := [("_law_i", 7)]) (by kernel_rfl)) (fun _ _ _ _ _ => (pg_name (i := 7) nd rfl (Or.inr rfl))) (fun _ _ _ _ _ => pts_nil) (fun _ _ _ _ _ => (pe_callTy (T := "tuple") (ct_tupK (K := K)) (by rfl) T.b_tuple (by decide +kernel) (pa_cons (pe_op (catLK (K := K)) (pe_lc rfl nd (pi_range1 (by rfl) T.b_range (pa_cons (pe_op op_sub (pv 6) pe_int) pa_nil)) (blkOk_by (own := [("_law_j", 8)]) (by kernel_rfl)) (fun _ _ _ _ _ => (pg_name (i := 8) nd rfl (Or.inl rfl))) (fun _ _ _ _ _ => pts_nil) (fun _ _ _ _ _ => (pe_callTy (T := "int") call_int1 (by rfl) T.b_int (by decide +kernel) (pa_cons (pe_cmpR op_eq (pv 8) (pe_op op_sub (pv 7) pe_int) (nomark _)) pa_nil)))) (pe_lst (pa_cons (pe_op op_sub (pv 3) pe_int) pa_nil))) pa_nil)))) (pss_one (ps_ret (pe_tup (pa_cons pe_str (pa_cons (pv 3) (pa_cons (pe_callTy (T := "tuple") (ct_tupK (K := K)) (by rfl) T.b_tuple (by decide +kernel) (pa_cons (pv 5) pa_nil)) (pa_cons (pv 6) pa_nil)))))))))) pss_nil) (pss_cons (ps_set (i := 4) nd rfl (Or.inr rfl) (pe_op op_add pe_int (pe_kn k_law_draw hr (pa_cons (pv 0) (pa_cons pe_int pa_nil))))) (pss_cons (ps_setLc (i := 5) rfl nd rfl rfl (sw_true rfl rfl rfl (by decide +kernel)) (pi_range1 (by rfl) T.b_range (pa_cons (pv 4) pa_nil)) (blkOk_by (own := [("_law_i", 7)]) (by kernel_rfl)) (fun _ _ _ _ _ => (pg_name (i := 7) nd rfl (Or.inl rfl))) (fun _ _ _ _ _ => pts_nil) (fun _ _ _ _ _ => (pe_callTy (T := "tuple") (ct_tupK (K := K)) (by rfl) T.b_tuple (by decide +kernel) (pa_cons (pe_lc rfl nd (pi_range1 (by rfl) T.b_range (pa_cons (pv 4) pa_nil)) (blkOk_by (own := [("_law_j", 8)]) (by kernel_rfl)) (fun _ _ _ _ _ => (pg_name (i := 8) nd rfl (Or.inl rfl))) (fun _ _ _ _ _ => pts_nil) (fun _ _ _ _ _ => (pe_kn k_law_draw hr (pa_cons (pv 0) (pa_cons (pe_callB (id := "min") (call_min2 rfl) (by rfl) T.b_min (by decide +kernel) (pa_cons (pv 3) (pa_cons pe_int pa_nil))) pa_nil))))) pa_nil)))) (pss_one (ps_ret (pe_tup (pa_cons pe_str (pa_cons (pv 3) (pa_cons (pe_callTy (T := "tuple") (ct_tupK (K := K)) (by rfl) T.b_tuple (by decide +kernel) (pa_cons (pv 5) pa_nil)) (pa_cons (pe_kn k_law_any hr (pa_cons (pv 0) (pa_cons (pe_lst (pa_cons pe_int (pa_cons pe_int (pa_cons pe_int (pa_cons pe_int pa_nil))))) pa_nil))) pa_nil))))))))))))))))), ?_⟩
  have row2 : ∀ {G : Gd} {ρ : List Sl} {a b : Int}, Ev G (tTup (tCons (tC (.int a)) (tCons (tC (.int b)) tNil))) ρ (· = rowD [a, b]) := ev_tup (ea_cons ev_int (ea_cons ev_int ea_nil)) (by simp)
  have row3 : ∀ {G : Gd} {ρ : List Sl} {a b c : Int}, Ev G (tTup (tCons (tC (.int a)) (tCons (tC (.int b)) (tCons (tC (.int c)) tNil)))) ρ (· = rowD [a, b, c]) := ev_tup (ea_cons ev_int (ea_cons ev_int (ea_cons ev_int ea_nil))) (by simp)
  have tn : ∀ {G : Gd} {ρ : List Sl} {p q : Int} {t : Mat} {te : TE}, Ev G te ρ (· = tabD t) → Ev G (tTup (tCons (tC (.str "turn")) (tCons (tC (.int p)) (tCons te (tCons (tC (.int q)) tNil))))) ρ (· = turnD (p, t, q)) := fun h => ev_tup (ea_cons ev_str (ea_cons ev_int (ea_cons h (ea_cons ev_int ea_nil)))) (by simp)
  have t2 : ∀ {G : Gd} {ρ : List Sl} {a b c d : Int}, Ev G (tTup (tCons (tTup (tCons (tC (.int a)) (tCons (tC (.int b)) tNil))) (tCons (tTup (tCons (tC (.int c)) (tCons (tC (.int d)) tNil))) tNil))) ρ (· = tabD [[a, b], [c, d]]) := ev_tup (ea_cons row2 (ea_cons row2 ea_nil)) (by simp)
  have t3 : ∀ {G : Gd} {ρ : List Sl} {a b c d e f g h i : Int}, Ev G (tTup (tCons (tTup (tCons (tC (.int a)) (tCons (tC (.int b)) (tCons (tC (.int c)) tNil)))) (tCons (tTup (tCons (tC (.int d)) (tCons (tC (.int e)) (tCons (tC (.int f)) tNil)))) (tCons (tTup (tCons (tC (.int g)) (tCons (tC (.int h)) (tCons (tC (.int i)) tNil)))) tNil)))) ρ (· = tabD [[a, b, c], [d, e, f], [g, h, i]]) := ev_tup (ea_cons row3 (ea_cons row3 (ea_cons row3 ea_nil))) (by simp)
  have t1 : ∀ {G : Gd} {ρ : List Sl} {a : Int}, Ev G (tTup (tCons (tTup (tCons (tC (.int a)) tNil)) tNil)) ρ (· = tabD [[a]]) := ev_tup (ea_cons (ev_tup (ea_cons ev_int ea_nil) (by simp)) ea_nil) (by simp)
  refine sv_setX (x := .list ((turnsL.take 3).map turnD)) (ev_lst (ea_cons (tn t2) (ea_cons (tn t2) (ea_cons (tn t2) ea_nil))) (by decide)) ?_
  refine sv_setX (x := .list ((turnsL.take 6).map turnD)) ((ev_op (ev_var rfl) (ev_lst (xs := ((turnsL.drop 3).take 3).map turnD) (ea_cons (tn t1) (ea_cons (tn t2) (ea_cons (tn t2) ea_nil))) (by decide)) (rv_catL (by decide))).is rfl) ?_
  refine sv_ownCat (ds := (turnsL.take 6).map turnD) (xs := ((turnsL.drop 6).take 2).map turnD) (ev_var rfl) (ev_lst (ea_cons (tn t3) (ea_cons (tn t2) ea_nil)) (by decide)) (by decide) ?_
  refine sv_app (P := (· = turnD (11, [[0, 0, 1], [1, 0, 5], [0, 1, 4]], 7))) rfl (tn t3) (by decide) fun x ex => ?_
  subst ex
  refine sv_release (i := 1) (xs := turnsL.map turnD) rfl ?_
  have draw : ∀ {ρ : List Sl} (n : Int), ρ[0]? = some .fd → 0 < n → n < 1000000 → Ev ⟨K, CT, E, fun _ => False⟩ (tCall (sp_law_draw K CT) [] E0 (tCons (tVar 0) (tCons (tC (.int n)) tNil))) ρ (IntP fun r => 0 ≤ r ∧ r < n) := fun n h h0 h1 => (ev_callF n h (ea_cons ev_int ea_nil) ⟨h0, h1⟩).imp fun d ⟨r, hr, e⟩ => ⟨r, hr, e⟩
  refine sv_set (draw 3 rfl (by decide) (by decide)) fun x hx => ?_
  obtain ⟨way, hway, rfl⟩ := hx
  refine sv_when (et_test (ev_op (ev_var rfl) ev_int rv_eqI)) (fun _ => ?_) fun _ => ?_
  · refine sv_retX ((ev_callF (Sum.inl (turnsL.map turnD) : List PyData ⊕ Str) rfl (ea_cons (ev_var rfl) ea_nil) (anyIn (by decide) (by decide))).imp fun d hd => ?_)
    obtain ⟨p, hp, rfl⟩ := List.mem_map.mp hd
    exact turnsL_gp hp
  have anyI : ∀ {ρ : List Sl} {tA : TA} (l : List Int), ρ[0]? = some .fd → EvA ⟨K, CT, E, fun _ => False⟩ tA ρ (· = l.map .int) → 0 < l.length → l.length < 100 → Ev ⟨K, CT, E, fun _ => False⟩ (tCall (sp_law_any K CT) [] E0 (tCons (tVar 0) (tCons (tLst tA) tNil))) ρ (IntP fun r => r ∈ l) := fun l h ha h0 h1 => (ev_callF (Sum.inl (l.map .int) : List PyData ⊕ Str) h (ea_cons (ev_lst ha (by rw [List.length_map]; omega)) ea_nil) (anyIn (by rw [List.length_map]; exact h0) (by rw [List.length_map]; omega))).imp fun d hd => by
    obtain ⟨r, hr, e⟩ := List.mem_map.mp hd
    exact ⟨r, hr, e.symm⟩
  refine sv_set (anyI [2, 3, 5, 11, 13, 97, 9973] rfl (ea_cons ev_int (ea_cons ev_int (ea_cons ev_int (ea_cons ev_int (ea_cons ev_int (ea_cons ev_int (ea_cons ev_int ea_nil))))))) (by decide) (by decide)) fun x hx => ?_
  obtain ⟨p, hp1, rfl⟩ := hx
  have hp2 : 2 ≤ p ∧ p ≤ 9973 := (by decide : ∀ p ∈ [(2 : Int), 3, 5, 11, 13, 97, 9973], 2 ≤ p ∧ p ≤ 9973) p hp1
  refine sv_when (et_test (ev_op (ev_var rfl) ev_int rv_eqI)) (fun _ => ?_) fun _ => ?_
  · refine sv_set (anyI [3, 5, 7] rfl (ea_cons ev_int (ea_cons ev_int (ea_cons ev_int ea_nil))) (by decide) (by decide)) fun x hx => ?_
    obtain ⟨q, hq1, rfl⟩ := hx
    have hq2 : 3 ≤ q ∧ q ≤ 7 := (by decide : ∀ p ∈ [(3 : Int), 5, 7], 3 ≤ p ∧ p ≤ 7) q hq1
    refine sv_set (P := IntP fun q => 3 ≤ q ∧ q ≤ 7) (ev_if (et_test (ev_op (ev_var rfl) (ev_var rfl) rv_eqI)) (fun _ => ev_int.imp fun d e => ⟨7, by decide, e⟩) fun _ => (ev_var rfl).imp fun d e => ⟨q, hq2, e⟩) fun x hx => ?_
    obtain ⟨q, hq2, rfl⟩ := hx
    refine sv_set (P := fun d => ∃ t : Mat, d = .list (t.map rowD) ∧ t.length ≤ 6 ∧ ∀ r ∈ t, r.length ≤ 6 ∧ ∀ i ∈ r, 0 ≤ i ∧ i < 10000) ((ev_lc (b := fun _ => true) (Pe := fun _ d => ∃ r : List Int, d = rowD r ∧ r.length ≤ 6 ∧ ∀ i ∈ r, 0 ≤ i ∧ i < 10000) (ei_rng1 (ea_cons (ev_op (ev_var rfl) ev_int rv_sub) ea_nil) (by omega) (by omega)) (by decide) (fun xs e => by rw [e, List.length_map, rngI_len]; omega) (fun _ _ _ _ => et_yes) fun xs e x hx _ => ?_).imp fun d ⟨xs, ds, e1, e2, e3⟩ => ?_) fun x hx => ?_
    · rw [e] at hx
      obtain ⟨i, hi, rfl⟩ := List.mem_map.mp hx
      refine (ev_cbg (Ps := fun ds => ds = [.list (((rngI 0 (q - 2).toNat).map fun j => if decide (j = i - 1) = true then (1 : Int) else 0).map .int ++ [.int (p - 1)])]) (ea_cons (ev_op (ev_mapM inj_int (fun j => if decide (j = i - 1) = true then (1 : Int) else 0) PyData.int (ei_rng1 (ea_cons (ev_op (ev_var rfl) ev_int rv_sub) ea_nil) (by omega) (by omega)) (by decide) (by rw [rngI_len]; omega) fun j hj => ev_cb (ea_cons (ev_op (ev_var rfl) (ev_op (ev_var rfl) ev_int rv_sub) rv_eqI) ea_nil) rc_intB) (ev_lst (ea_cons (ev_op (ev_var rfl) ev_int rv_sub) ea_nil) (by simp)) (rv_catL (by rw [List.length_map, List.length_map, rngI_len]; simp; omega))) ea_nil) fun ds e => ?_)
      rw [e]
      refine rc_tupR (P := fun d => ∃ r : List Int, d = rowD r ∧ r.length ≤ 6 ∧ ∀ i ∈ r, 0 ≤ i ∧ i < 10000) ?_
      refine ⟨((rngI 0 (q - 2).toNat).map fun j => if decide (j = i - 1) = true then (1 : Int) else 0) ++ [p - 1], by rw [rowD, List.map_append]; rfl, ?_, fun z hz => ?_⟩
      · rw [List.length_append, List.length_map, rngI_len]
        simp
        omega
      · rcases List.mem_append.mp hz with y | y
        · obtain ⟨j, _, rfl⟩ := List.mem_map.mp y
          split <;> omega
        · rw [List.mem_singleton.mp y]
          omega
    · rw [filter_yes] at e3
      obtain ⟨t, e4, e5, e6⟩ := all2_rows e3
      refine ⟨t, by rw [e2, e4], ?_, e6⟩
      rw [e5, e1, List.length_map, rngI_len]
      omega
    · obtain ⟨t, rfl, h1, h2⟩ := hx
      refine sv_retX ((ev_tup (ea_cons ev_str (ea_cons (ev_var rfl) (ea_cons (ev_cb (ea_cons (ev_var rfl) ea_nil) rc_tupL) (ea_cons (ev_var rfl) ea_nil)))) (by simp)).imp fun d ed => ?_)
      rw [ed]
      exact gp3 (by decide) (fok_int (by omega) (by omega)) (fok_tab h1 h2) (fok_int (by omega) (by omega))
  · refine sv_set (ev_opR (ev_intR 1) (draw 2 rfl (by decide) (by decide)) fun i j _ _ => rv_add) fun x hx => ?_
    obtain ⟨sz, ⟨i, j, hi, hj, hm⟩, rfl⟩ := hx
    have s0 : 1 ≤ sz ∧ sz ≤ 2 := by omega
    refine sv_set (P := fun d => ∃ t : Mat, d = .list (t.map rowD) ∧ t.length ≤ 6 ∧ ∀ r ∈ t, r.length ≤ 6 ∧ ∀ i ∈ r, 0 ≤ i ∧ i < 10000) ((ev_lc (b := fun _ => true) (Pe := fun _ d => ∃ r : List Int, d = rowD r ∧ r.length ≤ 6 ∧ ∀ i ∈ r, 0 ≤ i ∧ i < 10000) (ei_rng1 (ea_cons (ev_var rfl) ea_nil) (by omega) (by omega)) (by decide) (fun xs e => by rw [e, List.length_map, rngI_len]; omega) (fun _ _ _ _ => et_yes) fun xs e x hx _ => ?_).imp fun d ⟨xs, ds, e1, e2, e3⟩ => ?_) fun x hx => ?_
    · rw [e] at hx
      obtain ⟨i, hi, rfl⟩ := List.mem_map.mp hx
      refine ev_cbg (Ps := fun ds => ∃ r : List Int, ds = [.list (r.map .int)] ∧ r.length ≤ 6 ∧ ∀ i ∈ r, 0 ≤ i ∧ i < 10000) ((ea_consg (ev_lc (b := fun _ => true) (Pe := fun _ d => IntP (fun i => 0 ≤ i ∧ i < 10000) d) (ei_rng1 (ea_cons (ev_var rfl) ea_nil) (by omega) (by omega)) (by decide) (fun xs e => by rw [e, List.length_map, rngI_len]; omega) (fun _ _ _ _ => et_yes) fun ys e2 y hy _ => ?_) ea_nil).imp fun ds hds => ?_) fun ds ⟨r, e, h1, h2⟩ => by rw [e]; exact rc_tupR ⟨r, rfl, h1, h2⟩
      · have mn : 0 < (if (9 : Int) < p then 9 else p) ∧ (if (9 : Int) < p then 9 else p) ≤ 9 := by split <;> omega
        exact (ev_callF (if (9 : Int) < p then 9 else p) rfl (ea_cons (ev_cb (ea_cons (ev_var rfl) (ea_cons ev_int ea_nil)) rc_min2) ea_nil) ⟨mn.1, by omega⟩).imp fun d ⟨r, hr, e⟩ => ⟨r, by omega, e⟩
      · obtain ⟨d, ys, e4, ⟨zs, us, e5, e6, e7⟩, e8⟩ := hds
        rw [filter_yes] at e7
        obtain ⟨r, e9, e10, e11⟩ := all2_nums e7
        refine ⟨r, by rw [e4, e6, e8, e9], ?_, e11⟩
        rw [e10, e5, List.length_map, rngI_len]
        omega
    · rw [filter_yes] at e3
      obtain ⟨t, e4, e5, e6⟩ := all2_rows e3
      refine ⟨t, by rw [e2, e4], ?_, e6⟩
      rw [e5, e1, List.length_map, rngI_len]
      omega
    · obtain ⟨t, rfl, h1, h2⟩ := hx
      refine sv_ret (ev_tupg (ea_consg ev_str (ea_consg (ev_var rfl) (ea_consg (ev_cb (ea_cons (ev_var rfl) ea_nil) rc_tupL) (ea_consg (anyI [2, 3, 5, 7] rfl (ea_cons ev_int (ea_cons ev_int (ea_cons ev_int (ea_cons ev_int ea_nil)))) (by decide) (by decide)) ea_nil)))) (fun xs ⟨_, _, e, _, _, _, e2, _, _, _, e3, _, _, _, e4, _, e5⟩ => by subst e e2 e3 e4 e5; simp)) fun d hd => ?_
      obtain ⟨xs, ed, x1, y1, e1, h5, x2, y2, e2, h6, x3, y3, e3, h7, x4, y4, e4, ⟨r, hr, e7⟩, e5⟩ := hd
      have hr2 : 2 ≤ r ∧ r ≤ 7 := (by decide : ∀ p ∈ [(2 : Int), 3, 5, 7], 2 ≤ p ∧ p ≤ 7) r hr
      subst e1 h5 e2 h6 e3 h7 e4 e7 e5 ed
      exact gp3 (by decide) (fok_int (by omega) (by omega)) (fok_tab h1 h2) (fok_int (by omega) (by omega))
end
end K13
set_option maxHeartbeats 4000000
/-! What the law writes, and how it spoils it: only lengths matter. -/
namespace K13
open PySem L2
abbrev SP (c : Nat) : DP := fun d => ∃ s : Str, d = .str s ∧ s.length ≤ c
def wsum (ws : List Str) : Nat := (ws.map fun s => s.length + 1).sum
abbrev LP (b : Nat) : DP := fun d => ∃ ys : List Str, d = .list (ys.map .str) ∧ wsum ys ≤ b
theorem wsum_app (a b : List Str) : wsum (a ++ b) = wsum a + wsum b := by simp [wsum]
theorem wsum_len : ∀ ws : List Str, ws.length ≤ wsum ws
  | [] => Nat.zero_le _
  | a :: r => by
    have ih := wsum_len r
    have e : wsum (a :: r) = (a.length + 1) + wsum r := rfl
    rw [e, List.length_cons]
    omega
theorem wsum_lens : ∀ ws : List Str, (ws.map (·.length)).sum + ws.length * 1 = wsum ws
  | [] => rfl
  | a :: r => by
    have ih := wsum_lens r
    have e : wsum (a :: r) = (a.length + 1) + wsum r := rfl
    rw [e, List.map_cons, List.sum_cons, List.length_cons]
    omega
theorem wsum_take : ∀ (n : Nat) (ws : List Str), wsum (ws.take n) ≤ wsum ws
  | 0, _ => Nat.zero_le _
  | _ + 1, [] => Nat.zero_le _
  | n + 1, a :: r => by
    have ih := wsum_take n r
    have e : wsum (a :: r) = (a.length + 1) + wsum r := rfl
    have e2 : wsum ((a :: r).take (n + 1)) = (a.length + 1) + wsum (r.take n) := rfl
    omega
theorem wsum_drop : ∀ (n : Nat) (ws : List Str), wsum (ws.drop n) ≤ wsum ws
  | 0, _ => Nat.le_refl _
  | _ + 1, [] => Nat.zero_le _
  | n + 1, a :: r => by
    have ih := wsum_drop n r
    have e : wsum (a :: r) = (a.length + 1) + wsum r := rfl
    have e2 : wsum ((a :: r).drop (n + 1)) = wsum (r.drop n) := rfl
    omega
theorem wsum_rev (ws : List Str) : wsum ws.reverse = wsum ws := by
  induction ws with
  | nil => rfl
  | cons a r ih =>
    rw [List.reverse_cons, wsum_app, ih]
    have e : wsum (a :: r) = (a.length + 1) + wsum r := rfl
    have e2 : wsum [a] = a.length + 1 := by simp [wsum]
    omega
theorem wsum_split {s : Str} : wsum (Txt.split s " ") = s.length + 1 ∨ Txt.split s " " = [] := by
  by_cases h : Txt.split s " " = []
  · exact .inr h
  · have := sjoin_len " " (Txt.split s " ") h
    rw [StrLaws.join_split] at this
    exact .inl this.symm
theorem wsum_split_le (s : Str) : wsum (Txt.split s " ") ≤ s.length + 1 := by
  rcases wsum_split (s := s) with h | h
  · omega
  · rw [h]; exact Nat.zero_le _
theorem split_ne (s : Str) : Txt.split s " " ≠ [] := by
  unfold Txt.split
  split
  · simp
  · split
    · simp
    · rw [StrLaws.partsBetween_eq]
      obtain ⟨p, q, e⟩ := StrLaws.partsFrom_ne s (" " : Str).length 0 _
      rw [e]
      simp
/-! ### rules by lengths -/
def EvOR (G : Gd) (t : TO) (ρ : List Sl) : Prop := ∀ (C : Ct) (A : Addr → Bool) (H : Hp) (σ : L2.St) (Q : Option Int → Hp → Prop), C.K = G.K → En C A H σ ρ → Xq G C →
  (∀ (o : Option Int) (H' : Hp), En C A H' σ ρ → Fr C H H' → (∀ b, H' b = none → H b = none) → Q o H') → t σ H Q
section
variable {G : Gd} {ρ : List Sl} {t ta tb tc te : TE} {tl th : TO} {P P1 P2 : DP} {a b c : Nat} {x : PyData}
theorem eoR_none : EvOR G tNoPart ρ := fun C A H σ Q hk I X q => q none H I Fr.refl fun _ z => z
theorem eoR_some {Pi : Int → Prop} (h : Ev G t ρ (IntP Pi)) : EvOR G (tPart t) ρ := fun C A H σ Q hk I X q => h C A H σ _ hk I X fun v d H1 I1 f1 n1 d1 ⟨i, _, e⟩ => by
  subst e
  exact ⟨i, dp_int d1, q _ H1 I1 f1 n1⟩
theorem ev_slR {r : V → Option Int → Option Int → Hp → VK → Prop} (he : Ev G t ρ P1) (hl : EvOR G tl ρ) (hh : EvOR G th ρ) (hr : ∀ x lo hi, P1 x → Rs G.K r x lo hi P) : Ev G (L2.tSl r t tl th) ρ P := fun C A H σ Q hk I X q =>
  he C A H σ _ hk I X fun v d H1 I1 f1 n1 d1 p1 => hl C A H1 σ _ hk I1 X fun lo H2 I2 f2 n2 => hh C A H2 σ _ hk I2 X fun hi H3 I3 f3 n3 => by
    refine hr d lo hi p1 A H3 v Q I3.al (hk ▸ dp_mono (I1.fr_hid (f2.trans f3)) d1) fun z d H4 s4 d4 p4 => ?_
    exact q z d H4 (I3.same s4) (((f1.trans f2).trans f3).trans (Fr.of s4)) (fun b e => n1 b (n2 b (n3 b (nn_of s4 b e)))) (hk ▸ d4) p4
theorem cutD_map (ys : List Str) (lo hi : Option Int) : cutD (ys.map PyData.str) lo hi = (cutD ys lo hi).map PyData.str := by
  unfold cutD
  rw [List.length_map, List.map_take, List.map_drop]
theorem lp_cut (he : Ev G t ρ (LP b)) (hl : EvOR G tl ρ) (hh : EvOR G th ρ) : Ev G (L2.tSl (rSlL G.K) t tl th) ρ (LP b) := ev_slR he hl hh fun x lo hi ⟨ys, e, h⟩ => by
  subst e
  intro A H v Q al d q
  exact rs_lst A H v Q al d fun z d H' s dz pz => q z d H' s dz ⟨cutD ys lo hi, by rw [pz, cutD_map], Nat.le_trans (Nat.le_trans (wsum_take _ _) (wsum_drop _ _)) h⟩
theorem sp_cut (hc : c ≤ 1000000) (he : Ev G t ρ (SP c)) (hl : EvOR G tl ρ) (hh : EvOR G th ρ) : Ev G (L2.tSl rSlS t tl th) ρ (SP c) := ev_slR he hl hh fun x lo hi ⟨s, e, h⟩ => by
  subst e
  intro A H v Q al d q
  exact rs_str (by omega) A H v Q al d fun z d H' s' dz pz => q z d H' s' dz ⟨cutS s lo hi, pz, Nat.le_trans (J1.cutS_len_le s lo hi) h⟩
theorem sp_add (hc : a + b ≤ 1000000) (ha : Ev G ta ρ (SP a)) (hb : Ev G tb ρ (SP b)) : Ev G (tOp (fun x y H Q => ∃ i j, x = .str i ∧ y = .str j ∧ i.length + j.length ≤ sizeLine ∧ Q (.str (i ++ j)) H) ta tb) ρ (SP (a + b)) := ev_opg ha hb fun x y ⟨s, e, h⟩ ⟨s2, e2, h2⟩ => by
  subst e e2
  intro A H v w Q al d1 d2 q
  exact rv_addS (by omega) A H v w Q al d1 d2 fun z d H' s' dz pz => q z d H' s' dz ⟨s ++ s2, pz, by rw [Str.length_append]; omega⟩
theorem lp_cat (hc : a + b ≤ 1000000) (ha : Ev G ta ρ (LP a)) (hb : Ev G tb ρ (LP b)) : Ev G (tOp (rCatL G.K) ta tb) ρ (LP (a + b)) := ev_opg ha hb fun x y ⟨s, e, h⟩ ⟨s2, e2, h2⟩ => by
  subst e e2
  have l1 := wsum_len s
  have l2 := wsum_len s2
  intro A H v w Q al d1 d2 q
  exact rv_catL (by rw [List.length_map, List.length_map]; omega) A H v w Q al d1 d2 fun z d H' s' dz pz => q z d H' s' dz ⟨s ++ s2, by rw [pz, List.map_append], by rw [wsum_app]; omega⟩
theorem lp_one (h : Ev G t ρ (SP c)) : Ev G (tLst (tCons t tNil)) ρ (LP (c + 1)) := (ev_lstg (ea_consg h ea_nil) fun xs ⟨_, _, e, _, e2⟩ => by rw [e, e2]; simp).imp fun d ⟨xs, ed, x, r, e, ⟨s, es, hs⟩, er⟩ => ⟨[s], by rw [ed, e, er, es]; rfl, by simp [wsum]; omega⟩
theorem lp_rev (h : Ev G t ρ (LP b)) : Ev G (tRevL G.K t) ρ (LP b) := fun C A H σ Q hk I X q => h C A H σ _ hk I X fun v d H1 I1 f1 n1 d1 ⟨ys, e, hy⟩ => by
  subst e
  obtain ⟨a, us, rfl, s, da⟩ := dp_lst d1
  exact ⟨a, us, rfl, hk ▸ Same.seq hid_to s, fun p hp => q _ _ _ (I1.upd hp) (f1.trans (Fr.of (Same.new hp))) (fun b e => n1 b (nn_of (Same.new hp) b e)) (dp_newL I1.al hp (dpAll_rev da)) ⟨ys.reverse, by rw [List.map_reverse], by rw [wsum_rev]; exact hy⟩⟩
theorem lp_join (hc : b ≤ 1000000) (h : Ev G t ρ (LP b)) : Ev G (tM1 (rJoin G.K) (tC (.str " ")) t) ρ (SP b) := ev_m1g ev_str h fun y ⟨ys, e, hy⟩ => by
  subst e
  have e1 : ((" " : Str)).length = 1 := rfl
  have l := wsum_lens ys
  intro A H v vs Q al d hs q
  refine rm_join (by rw [e1]; omega) A H v vs Q al d hs fun z d H' s' dz pz => q z d H' s' dz ⟨Txt.join " " ys, pz, ?_⟩
  have := StrLaws.join_length_le " " ys
  rw [e1] at this
  rw [TL.join_eq]
  omega
end
/-! ### a text times a number -/
def nines : Str := ⟨(List.replicate (61 : Int).toNat ("9" : Str).cps).foldl (· ++ ·) #[]⟩
theorem nines_len : nines.length = 61 := by decide
def rRepS : R2 := fun x y H Q => x = .str "9" ∧ y = .int 61 ∧ Q (.str nines) H
theorem op_repS {X : Cx} : OpR X (binaryOp .Mult) rRepS := by
  rintro pins s σ H x y v u Q I rx ry ⟨rfl, rfl, q⟩
  obtain ⟨t, rfl⟩ := rx
  obtain ⟨t', rfl⟩ := ry
  refine PySem.P.mul_str (by decide) (fun _ _ => by decide) (fun _ _ => by decide) ?_
  rw [if_neg (by decide), if_neg (by decide)]
  exact ⟨by decide, .str nines, H, I.tok _, ⟨_, rfl⟩, q⟩
theorem ev_rep {G : Gd} {ρ : List Sl} : Ev G (tOp rRepS (tC (.str "9")) (tC (.int 61))) ρ (· = .str nines) := ev_op ev_str ev_int fun A H v w Q al d1 d2 q =>
  ⟨dp_str d1, dp_int d2, q _ _ H (Same.refl H) (.str _) rfl⟩
/-! ### a piece -/
section
variable {P : Program} {w : World} {K : PySem.W.Frag} {mg : Str → Option Value} {base : Heap} {f : Addr} {fd : FuncData} {CT fI : Addr} {sz : Addr}
theorem sc_law_piece : FnScope ["_law_feed_here", "_law_way"] ["_law_feed_here"] (defScope s_law_piece) := ⟨rfl, rfl, rfl, by decide +kernel, rfl, by decide +kernel, by decide +kernel⟩
abbrev sp_law_piece (K : PySem.W.Frag) (CT : Addr) : Sp := spF K (fun _ : Unit => []) (fun _ => True) (fun _ => GP)
theorem ints_of {l : List PyData} (h : ∀ d ∈ l, IntP (fun i => 0 ≤ i ∧ i < 10 ^ 45) d) : ∀ d ∈ l, FOk d := fun d hd => by
  obtain ⟨n, ⟨h0, h1⟩, rfl⟩ := h d hd
  exact fok_int h0 h1
theorem ok_law_piece (T : Tx K mg) (F : FnP K "_law_piece" s_law_piece f fd) (k_law_draw : Kn P w K mg base 1 "_law_draw" ["_law_feed_here", "_law_many"] (sp_law_draw K CT) []) (k_law_turns : Kn P w K mg base 3 "_law_turns" ["_law_feed_here"] (sp_law_turns K CT) []) (k_law_acts : Kn P w K mg base 3 "_law_acts" ["_law_feed_here"] (sp_law_acts K CT) []) (k_law_any : Kn P w K mg base 2 "_law_any" ["_law_feed_here", "_law_some"] (sp_law_any K CT) []) : FnOk P w K mg base (L2.CX P w) 4 f fd ["_law_feed_here"] (sp_law_piece K CT) := by
  refine fn_f CT F sc_law_piece (fun a => rfl) fun cdv A outer s H E a hr hp => ?_
  have nd := sc_law_piece.nd
  refine ⟨_, (pss_cons (ps_set (i := 1) nd rfl (Or.inl rfl) (pe_kn k_law_draw hr (pa_cons (pv 0) (pa_cons pe_int pa_nil)))) (pss_cons (ps_if (pt_cmpR op_eq (pv 1) pe_int (nomark _)) (pss_one (ps_ret (pe_tup (pa_cons pe_str (pa_cons (pe_kn k_law_any hr (pa_cons (pv 0) (pa_cons (pe_lst (pa_cons pe_int (pa_cons pe_int (pa_cons pe_int (pa_cons pe_int (pa_cons (pe_op op_add (pe_op op_pow pe_int pe_int) pe_int) (pa_cons (pe_op op_add pe_int (pe_kn k_law_draw hr (pa_cons (pv 0) (pa_cons pe_int pa_nil)))) pa_nil))))))) pa_nil))) pa_nil))))) pss_nil) (pss_cons (ps_if (pt_cmpR op_eq (pv 1) pe_int (nomark _)) (pss_one (ps_ret (pe_tup (pa_cons pe_str (pa_cons (pe_kn k_law_any hr (pa_cons (pv 0) (pa_cons (pe_lst (pa_cons pe_int (pa_cons pe_int (pa_cons pe_int (pa_cons pe_int (pa_cons pe_int pa_nil)))))) pa_nil))) (pa_cons (pe_op op_add pe_int (pe_kn k_law_draw hr (pa_cons (pv 0) (pa_cons pe_int pa_nil)))) pa_nil)))))) pss_nil) (pss_cons (ps_if (pt_cmpR op_eq (pv 1) pe_int (nomark _)) (pss_one (ps_ret (pe_tup (pa_cons pe_str (pa_cons (pe_kn k_law_any hr (pa_cons (pv 0) (pa_cons (pe_lst (pa_cons pe_int (pa_cons pe_int (pa_cons pe_int (pa_cons pe_int (pa_cons pe_int pa_nil)))))) pa_nil))) pa_nil))))) pss_nil) (pss_one (ps_ret (pe_ifExp (pt_cmpR op_eq (pv 1) pe_int (nomark _)) (pe_kn k_law_turns hr (pa_cons (pv 0) pa_nil)) (pe_kn k_law_acts hr (pa_cons (pv 0) pa_nil))))))))), ?_⟩
  have draw : ∀ {ρ : List Sl} (n : Int), ρ[0]? = some .fd → 0 < n → n < 1000000 → Ev ⟨K, CT, E, fun _ => False⟩ (tCall (sp_law_draw K CT) [] E0 (tCons (tVar 0) (tCons (tC (.int n)) tNil))) ρ (IntP fun r => 0 ≤ r ∧ r < n) := fun n h h0 h1 => (ev_callF n h (ea_cons ev_int ea_nil) ⟨h0, h1⟩).imp fun d ⟨r, hr, e⟩ => ⟨r, hr, e⟩
  have anyI : ∀ {ρ : List Sl} {tA : TA} (l : List Int), ρ[0]? = some .fd → EvA ⟨K, CT, E, fun _ => False⟩ tA ρ (· = l.map .int) → 0 < l.length → l.length < 100 → (∀ i ∈ l, 0 ≤ i ∧ i < 10 ^ 45) → Ev ⟨K, CT, E, fun _ => False⟩ (tCall (sp_law_any K CT) [] E0 (tCons (tVar 0) (tCons (tLst tA) tNil))) ρ FOk := fun l h ha h0 h1 hl => (ev_callF (Sum.inl (l.map .int) : List PyData ⊕ Str) h (ea_cons (ev_lst ha (by rw [List.length_map]; omega)) ea_nil) (anyIn (by rw [List.length_map]; exact h0) (by rw [List.length_map]; omega))).imp fun d hd => by
    obtain ⟨r, hr, e⟩ := List.mem_map.mp hd
    rw [← e]
    exact fok_int (hl r hr).1 (hl r hr).2
  refine sv_set (draw 6 rfl (by decide) (by decide)) fun x hx => ?_
  obtain ⟨way, hway, rfl⟩ := hx
  refine sv_when (et_test (ev_op (ev_var rfl) ev_int rv_eqI)) (fun _ => ?_) fun _ => ?_
  · refine sv_ret (ev_tupg (ea_consg ev_str (ea_consg (P := FOk) (ev_callFg (Ps := fun xs => ∃ j : Int, (0 ≤ j ∧ j < 500) ∧ xs = [.list ([1, 2, 6, 100, 10 ^ 40 + 7, 1 + j].map .int)]) rfl ((ea_consg (P := fun d => ∃ j : Int, (0 ≤ j ∧ j < 500) ∧ d = .list ([1, 2, 6, 100, 10 ^ 40 + 7, 1 + j].map .int)) ((ev_lstg (ea_consg ev_int (ea_consg ev_int (ea_consg ev_int (ea_consg ev_int (ea_consg (ev_op (ev_op ev_int ev_int (rv_pow ⟨by decide, by decide, by decide⟩)) ev_int rv_add) (ea_consg (ev_opR (ev_intR 1) (draw 500 rfl (by decide) (by decide)) fun i j _ _ => rv_add) ea_nil)))))) fun xs ⟨_, _, e, _, _, _, e2, _, _, _, e3, _, _, _, e4, _, _, _, e5, _, _, _, e6, _, e7⟩ => by subst e e2 e3 e4 e5 e6 e7; simp).imp fun d hd => ?_) ea_nil).imp fun ds ⟨x, xs, e, ⟨j, hj, e2⟩, e3⟩ => ⟨j, hj, by rw [e, e2, e3]⟩) fun xs ⟨j, hj, e⟩ => ⟨Sum.inl _, e, anyIn (by simp) (by simp), fun d hd => ?_⟩) ea_nil)) (fun xs ⟨_, _, e, _, _, _, e2, _, e3⟩ => by subst e e2 e3; simp)) fun d hd => ?_
    · obtain ⟨xs, ed, x1, y1, e1, h1, x2, y2, e2, h2, x3, y3, e3, h3, x4, y4, e4, h4, x5, y5, e5, h5, x6, y6, e6, ⟨z, ⟨i, j, hi, hj, hm⟩, h6⟩, e7⟩ := hd
      subst e1 h1 e2 h2 e3 h3 e4 h4 e5 h5 e6 h6 e7 hi hm ed
      exact ⟨j, hj, rfl⟩
    · obtain ⟨r, hr, rfl⟩ := List.mem_map.mp hd
      simp only [List.mem_cons, List.not_mem_nil, or_false] at hr
      refine fok_int ?_ ?_
      · rcases hr with rfl | rfl | rfl | rfl | rfl | rfl <;> omega
      · rcases hr with rfl | rfl | rfl | rfl | rfl | rfl <;> omega
    · obtain ⟨xs, ed, x1, y1, e1, h1, x2, y2, e2, h2, e3⟩ := hd
      subst e1 h1 e2 e3 ed
      exact gp1 (by decide) h2
  refine sv_when (et_test (ev_op (ev_var rfl) ev_int rv_eqI)) (fun _ => ?_) fun _ => ?_
  · refine sv_ret (ev_tupg (ea_consg ev_str (ea_consg (anyI [2, 3, 5, 97, 9973] rfl (ea_cons ev_int (ea_cons ev_int (ea_cons ev_int (ea_cons ev_int (ea_cons ev_int ea_nil))))) (by decide) (by decide) (by decide)) (ea_consg (ev_opR (ev_intR 1) (draw 6 rfl (by decide) (by decide)) fun i j _ _ => rv_add) ea_nil))) (fun xs ⟨_, _, e, _, _, _, e2, _, _, _, e3, _, e4⟩ => by subst e e2 e3 e4; simp)) fun d hd => ?_
    obtain ⟨xs, ed, x1, y1, e1, h1, x2, y2, e2, h2, x3, y3, e3, ⟨z, ⟨i, j, hi, hj, hm⟩, h3⟩, e4⟩ := hd
    subst e1 h1 e2 e3 h3 e4 ed
    exact gp2 (by decide) h2 (fok_int (by omega) (by omega))
  refine sv_when (et_test (ev_op (ev_var rfl) ev_int rv_eqI)) (fun _ => ?_) fun _ => ?_
  · refine sv_ret (ev_tupg (ea_consg ev_str (ea_consg (anyI [2, 3, 5, 101, 9973] rfl (ea_cons ev_int (ea_cons ev_int (ea_cons ev_int (ea_cons ev_int (ea_cons ev_int ea_nil))))) (by decide) (by decide) (by decide)) ea_nil)) (fun xs ⟨_, _, e, _, _, _, e2, _, e4⟩ => by subst e e2 e4; simp)) fun d hd => ?_
    obtain ⟨xs, ed, x1, y1, e1, h1, x2, y2, e2, h2, e4⟩ := hd
    subst e1 h1 e2 e4 ed
    exact gp1 (by decide) h2
  · exact sv_retX (ev_if (et_test (ev_op (ev_var rfl) ev_int rv_eqI)) (fun _ => ev_callF () rfl ea_nil trivial) fun _ => ev_callF () rfl ea_nil trivial)
theorem sc_law_piece_text : FnScope ["_law_piece_here", "_law_words", "_law_one", "_law_late", "_law_rows", "_law_own", "_law_spot"] ["_law_piece_here"] (defScope s_law_piece_text) := ⟨rfl, rfl, rfl, by decide +kernel, rfl, by decide +kernel, by decide +kernel⟩
abbrev sp_law_piece_text (K : PySem.W.Frag) (CT : Addr) : Sp := spX K CT (fun d : PyData => [d]) GP (fun _ => SP 764) nof
theorem join_wsum {a : Str} (ha : a.length = 1) (ys : List Str) : (Txt.join a ys).length ≤ wsum ys := by
  have := StrLaws.join_length_le a ys
  have l := wsum_lens ys
  rw [ha] at this
  rw [TL.join_eq]
  omega
theorem wsum_le {c : Nat} : ∀ ys : List Str, (∀ y ∈ ys, y.length ≤ c) → wsum ys ≤ ys.length * (c + 1)
  | [], _ => Nat.zero_le _
  | a :: r, h => by
    have ih := wsum_le r fun y hy => h y (List.mem_cons_of_mem _ hy)
    have h1 := h a List.mem_cons_self
    have e : wsum (a :: r) = (a.length + 1) + wsum r := rfl
    rw [e, List.length_cons, Nat.succ_mul]
    omega
theorem cut1 (x : PyData) (xs : List PyData) : cutD (x :: xs) (some 1) none = xs := by
  unfold cutD
  have h1 : HT.sIx (x :: xs).length 0 (some 1) = 1 := by
    simp [HT.sIx]
  have h2 : HT.sIx (x :: xs).length (x :: xs).length none = (x :: xs).length := rfl
  rw [h1, h2, List.drop_succ_cons, List.drop_zero]
  exact List.take_of_length_le (by simp)
def rowW (r : List Int) : Str := Txt.join "," (r.map strI)
theorem rowW_le {r : List Int} (h1 : r.length ≤ 6) (h2 : ∀ i ∈ r, 0 ≤ i ∧ i < 10000) : (rowW r).length ≤ 30 := by
  have h := join_wsum (a := ",") rfl (r.map strI)
  have h3 := wsum_le (c := 4) (r.map strI) fun y hy => by
    obtain ⟨i, hi, rfl⟩ := List.mem_map.mp hy
    exact strI_le (h2 i hi).1 (by decide) (h2 i hi).2
  rw [List.length_map] at h3
  show (Txt.join "," (r.map strI)).length ≤ 30
  omega
theorem tabWsum_le {t : Mat} (h1 : t.length ≤ 6) (h2 : ∀ r ∈ t, r.length ≤ 6 ∧ ∀ i ∈ r, 0 ≤ i ∧ i < 10000) : wsum (t.map rowW) ≤ 190 := by
  have h3 := wsum_le (c := 30) (t.map rowW) fun y hy => by
    obtain ⟨r, hr, rfl⟩ := List.mem_map.mp hy
    exact rowW_le (h2 r hr).1 (h2 r hr).2
  rw [List.length_map] at h3
  omega
theorem ok_law_piece_text (T : Tx K mg) (F : FnP K "_law_piece_text" s_law_piece_text f fd)  : FnOk P w K mg base (L2.CX P w) 1 f fd ["_law_piece_here"] (sp_law_piece_text K CT) := by
  refine fn_x F sc_law_piece_text (fun _ => rfl) fun cdv A outer s H E x hr hp => ?_
  obtain ⟨k, fs, rfl, hk, hne, hl, hf⟩ := hp
  have nd := sc_law_piece_text.nd
  refine ⟨_, (pss_cons (ps_set (i := 1) nd rfl (Or.inl rfl) (pe_lst (pa_cons (pe_ix (ix_tupK (K := K)) (pv 0) pe_int (fun _ _ => rfl)) pa_nil))) (pss_cons (ps_for (passes_of rfl) rfl (pi_tupK (K := K) (pe_slice (sl_tupK (K := K)) (pv 0) (po_some pe_int) po_none)) (pg_name (i := 2) nd rfl (Or.inl rfl)) (pss_cons (ps_set (i := 3) nd rfl (Or.inl rfl) (pe_ifExp (pt_val (pe_callB (id := "isinstance") (c_isiK (K := K)) (by rfl) T.b_isinstance (by decide +kernel) (pa_cons (pv 2) (pa_cons (pe_ty (n := "tuple") T.b_tuple) pa_nil)))) (pv 2) (pe_tup pa_nil))) (pss_cons (ps_setLc (i := 4) rfl nd rfl rfl (sw_true rfl rfl rfl (by decide +kernel)) (pi_tupK (K := K) (pv 3)) (blkOk_by (own := [("_law_own", 5)]) (by kernel_rfl)) (fun _ _ _ _ _ => (pg_name (i := 5) nd rfl (Or.inl rfl))) (fun _ _ _ _ _ => pts_nil) (fun _ _ _ _ _ => (pe_joinK (K := K) pe_str (pe_lc rfl nd (pi_tupK (K := K) (pv 5)) (blkOk_by (own := [("_law_spot", 6)]) (by kernel_rfl)) (fun _ _ _ _ _ => (pg_name (i := 6) nd rfl (Or.inl rfl))) (fun _ _ _ _ _ => pts_nil) (fun _ _ _ _ _ => (pe_callTy (T := "str") call_str_int (by rfl) T.b_str (by decide +kernel) (pa_cons (pv 6) pa_nil))))))) (pss_one (ps_expr (pe_bm PySem.F.plainAttrs_list PySem.F.slot_list_append PySem.F.type_list_append mt_append (pv 1) (pa_cons (pe_ifExp (pt_val (pe_callB (id := "isinstance") (c_isiK (K := K)) (by rfl) T.b_isinstance (by decide +kernel) (pa_cons (pv 2) (pa_cons (pe_ty (n := "tuple") T.b_tuple) pa_nil)))) (pe_joinK (K := K) pe_str (pv 4)) (pe_callTy (T := "str") call_str_int (by rfl) T.b_str (by decide +kernel) (pa_cons (pv 2) pa_nil))) pa_nil))))))) (pss_one (ps_ret (pe_joinK (K := K) pe_str (pv 1)))))), ?_⟩
  refine sv_own (xs := [.str k]) (ea_cons (ev_kind rfl) ea_nil) (by simp) ?_
  have cut : Rs K (rSlT K) (.tuple (.str k :: fs)) (some 1) none (· = .tuple fs) := by
    have hw : ¬ (HT.sIx (PyData.str k :: fs).length 0 (some 1) = 0 ∧ HT.sIx (PyData.str k :: fs).length (PyData.str k :: fs).length none = (PyData.str k :: fs).length) := fun h => by
      have h1 : HT.sIx (PyData.str k :: fs).length 0 (some 1) = 1 := by simp [HT.sIx]
      omega
    have := rs_tup (K := K) hw
    rwa [cut1] at this
  refine sv_seq (M := fun ρ' => ∃ (ys : List Str) (a b c d e : Sl), ys.length = fs.length + 1 ∧ (∀ y ∈ ys, y.length ≤ 190) ∧ ρ' = [.d (.tuple (.str k :: fs)), .own (ys.map .str), a, b, c, d, e])
    (sv_for (xs := fs) (ei_tup (ev_sl (ev_var rfl) (eo_some ev_int) eo_none cut))
      (fun i ρ' => ∃ (ys : List Str) (a b c d e : Sl), ys.length = i + 1 ∧ (∀ y ∈ ys, y.length ≤ 190) ∧ ρ' = [.d (.tuple (.str k :: fs)), .own (ys.map .str), a, b, c, d, e])
      ⟨[k], _, _, _, _, _, rfl, fun y hy => by rw [List.mem_singleton.mp hy]; omega, rfl⟩ ?_ fun ρ' h => h) fun ρ' h => ?_
  · rintro i x ρ' hx ⟨ys, a, b, c, d, e, hy1, hy2, rfl⟩
    have hxm := List.mem_of_getElem? hx
    have hil := (List.getElem?_eq_some_iff.mp hx).1
    refine ⟨_, gv_name, ?_⟩
    rcases hf x hxm with ⟨n, hn, rfl⟩ | ⟨t, rfl, ht1, ht2⟩
    · refine sv_setX (x := .tuple []) (ev_if (Pb := (· = false)) (et_test (ev_isi (ev_var rfl) isi_intT)) (fun e => by cases e) fun _ => ev_tup ea_nil) ?_
      refine sv_setX (x := .list []) ((ev_mapM (L := ([] : List (List Int))) inj_rowD rowW PyData.str (ei_tup (ev_var rfl)) (by decide) (by decide) fun r hr => by cases hr)) ?_
      refine sv_appL (xs := ys.map .str) (P := (· = .str (strI (n : Int)))) rfl (ev_if (Pb := (· = false)) (et_test (ev_isi (ev_var rfl) isi_intT)) (fun e => by cases e) fun _ => ev_cb (ea_cons (ev_var rfl) ea_nil) (rc_strI (small_n (Nat.lt_trans hn (by decide))))) (by rw [List.length_map]; omega) fun y ey => ?_
      subst ey
      refine ⟨ys ++ [strI (n : Int)], _, _, _, _, _, by rw [List.length_append, hy1]; rfl, fun y hy => ?_, by rw [List.map_append]; rfl⟩
      rcases List.mem_append.mp hy with h | h
      · exact hy2 y h
      · rw [List.mem_singleton.mp h]
        exact Nat.le_trans (strN_le (k := 45) (by decide) hn) (by decide)
    · have rl := fun r hr => (ht2 r hr).1
      have tw := tabWsum_le ht1 ht2
      have tl := wsum_lens (t.map rowW)
      refine sv_setX (x := tabD t) (ev_if (Pb := (· = true)) (et_test (ev_isi (ev_var rfl) isi_tup)) (fun _ => ev_var rfl) fun e => by cases e) ?_
      refine sv_setX (x := .list ((t.map rowW).map .str)) (ev_mapM (L := t) inj_rowD rowW PyData.str (ei_tup (ev_var rfl)) (by decide) (by omega) fun r hr => ?_) ?_
      · have := (ht2 r hr).1
        have rw2 := wsum_le (c := 4) (r.map strI) fun y hy => by
          obtain ⟨i, hi, rfl⟩ := List.mem_map.mp hy
          exact strI_le ((ht2 r hr).2 i hi).1 (by decide) ((ht2 r hr).2 i hi).2
        have rl2 := wsum_lens (r.map strI)
        rw [List.length_map] at rw2 rl2
        refine ev_m1 ev_str (ev_mapM inj_int strI PyData.str (ei_tup (ev_var rfl)) (by decide) (by omega) fun i hi => ev_cb (ea_cons (ev_var rfl) ea_nil) (rc_strI (small_log ((ht2 r hr).2 i hi).1 (by have := ((ht2 r hr).2 i hi).2; omega)))) (rm_join ?_)
        show _ + _ * 1 ≤ _
        rw [List.length_map]
        omega
      refine sv_appL (xs := ys.map .str) (P := (· = .str (Txt.join "/" (t.map rowW)))) rfl (ev_if (Pb := (· = true)) (et_test (ev_isi (ev_var rfl) isi_tup)) (fun _ => ev_m1 ev_str (ev_var rfl) (rm_join (by show _ + _ * 1 ≤ _; omega))) fun e => by cases e) (by rw [List.length_map]; omega) fun y ey => ?_
      subst ey
      refine ⟨ys ++ [Txt.join "/" (t.map rowW)], _, _, _, _, _, by rw [List.length_append, hy1]; rfl, fun y hy => ?_, by rw [List.map_append]; rfl⟩
      rcases List.mem_append.mp hy with h | h
      · exact hy2 y h
      · rw [List.mem_singleton.mp h]
        have := join_wsum (a := "/") rfl (t.map rowW)
        omega
  · obtain ⟨ys, a, b, c, d, e, hy1, hy2, rfl⟩ := h
    have w := wsum_le ys hy2
    have l := wsum_lens ys
    have hw : wsum ys ≤ 4 * 191 := Nat.le_trans w (Nat.mul_le_mul_right _ (by omega))
    refine sv_retX ((ev_joinO (ys := ys) ev_str rfl (by show _ + _ * 1 ≤ _; omega)).imp fun d ed => ⟨_, ed, Nat.le_trans (join_wsum rfl ys) ?_⟩)
    omega
def lateL : List Str := ["|", "ring", "act", "2", "3", "1", "", "0", "4", "9973", "10007", "02", nines, "0,1/1,1", "knot", "Ring"]
theorem lateL_le : ∀ y ∈ lateL, y.length ≤ 61 := by decide
theorem wsum_mem : ∀ {ws : List Str} {y : Str}, y ∈ ws → y.length ≤ wsum ws
  | a :: r, y, h => by
    have e : wsum (a :: r) = (a.length + 1) + wsum r := rfl
    rcases List.mem_cons.mp h with z | z
    · rw [z]; omega
    · have := wsum_mem z
      omega
theorem sc_law_spoilt : FnScope ["_law_feed_here", "_law_line", "_law_sign", "_law_words", "_law_way", "_law_k", "_law_spot", "_law_late"] ["_law_feed_here", "_law_line"] (defScope s_law_spoilt) := ⟨rfl, rfl, rfl, by decide +kernel, rfl, by decide +kernel, by decide +kernel⟩
abbrev sp_law_spoilt (K : PySem.W.Frag) (CT : Addr) : Sp := spF K (fun s : Str => [.str s]) (fun s => s.length ≤ 10000) (fun s => SP (3 * s.length + 64))
theorem SP.mono {a b : Nat} (h : a ≤ b) {d : PyData} : SP a d → SP b d := fun ⟨s, e, z⟩ => ⟨s, e, Nat.le_trans z h⟩
theorem ok_law_spoilt (T : Tx K mg) (F : FnP K "_law_spoilt" s_law_spoilt f fd) (k_law_any : Kn P w K mg base 2 "_law_any" ["_law_feed_here", "_law_some"] (sp_law_any K CT) []) (k_law_draw : Kn P w K mg base 1 "_law_draw" ["_law_feed_here", "_law_many"] (sp_law_draw K CT) []) : FnOk P w K mg base (L2.CX P w) 3 f fd ["_law_feed_here", "_law_line"] (sp_law_spoilt K CT) := by
  refine fn_f CT F sc_law_spoilt (fun a => rfl) fun cdv A outer s H E x hr hp => ?_
  have hx : x.length ≤ 10000 := hp
  have nd := sc_law_spoilt.nd
  refine ⟨_, (pss_cons (ps_par (i := 3) (j := 4) (by rfl) nd rfl rfl (by decide) rfl rfl (pa_cons (pe_split (pv 1) pe_str) (pa_cons (pe_kn k_law_draw hr (pa_cons (pv 0) (pa_cons pe_int pa_nil))) pa_nil)) (by rfl)) (pss_cons (ps_par (i := 5) (j := 6) (by rfl) nd rfl rfl (by decide) rfl rfl (pa_cons (pe_kn k_law_draw hr (pa_cons (pv 0) (pa_cons (pe_callB (id := "len") (c_lenK (K := K)) (by rfl) T.b_len PySem.boot_len (pa_cons (pv 3) pa_nil)) pa_nil))) (pa_cons (pe_kn k_law_draw hr (pa_cons (pv 0) (pa_cons (pe_op op_add (pe_callB (id := "len") call_len_str (by rfl) T.b_len PySem.boot_len (pa_cons (pv 1) pa_nil)) pe_int) pa_nil))) pa_nil)) (by rfl)) (pss_cons (ps_set (i := 2) nd rfl (Or.inl rfl) (pe_kn k_law_any hr (pa_cons (pv 0) (pa_cons pe_str pa_nil)))) (pss_cons (ps_if (pt_cmpR op_eq (pv 4) pe_int (nomark _)) (pss_one (ps_ret (pe_op op_add_str (pe_op op_add_str (pe_slice sl_str (pv 1) po_none (po_some (pv 6))) (pv 2)) (pe_slice sl_str (pv 1) (po_some (pv 6)) po_none)))) pss_nil) (pss_cons (ps_if (pt_cmpR op_eq (pv 4) pe_int (nomark _)) (pss_one (ps_ret (pe_op op_add_str (pe_slice sl_str (pv 1) po_none (po_some (pv 6))) (pe_slice sl_str (pv 1) (po_some (pe_op op_add (pv 6) pe_int)) po_none)))) pss_nil) (pss_cons (ps_if (pt_cmpR op_eq (pv 4) pe_int (nomark _)) (pss_one (ps_ret (pe_op op_add_str (pe_op op_add_str (pe_slice sl_str (pv 1) po_none (po_some (pv 6))) (pv 2)) (pe_slice sl_str (pv 1) (po_some (pe_op op_add (pv 6) pe_int)) po_none)))) pss_nil) (pss_cons (ps_if (pt_cmpR op_eq (pv 4) pe_int (nomark _)) (pss_cons (ps_set (i := 7) nd rfl (Or.inl rfl) (pe_lst (pa_cons pe_str (pa_cons pe_str (pa_cons pe_str (pa_cons pe_str (pa_cons pe_str (pa_cons pe_str (pa_cons pe_str (pa_cons pe_str (pa_cons pe_str (pa_cons pe_str (pa_cons pe_str (pa_cons pe_str (pa_cons (pe_op op_repS pe_str pe_int) (pa_cons pe_str (pa_cons pe_str (pa_cons pe_str pa_nil)))))))))))))))))) (pss_one (ps_ret (pe_joinK (K := K) pe_str (pe_op (catLK (K := K)) (pe_op (catLK (K := K)) (pe_slice (sl_listK (K := K)) (pv 3) po_none (po_some (pv 5))) (pe_lst (pa_cons (pe_kn k_law_any hr (pa_cons (pv 0) (pa_cons (pv 7) pa_nil))) pa_nil))) (pe_slice (sl_listK (K := K)) (pv 3) (po_some (pe_op op_add (pv 5) (pe_kn k_law_draw hr (pa_cons (pv 0) (pa_cons pe_int pa_nil))))) po_none)))))) pss_nil) (pss_cons (ps_if (pt_cmpR op_eq (pv 4) pe_int (nomark _)) (pss_one (ps_ret (pe_joinK (K := K) pe_str (pe_op (catLK (K := K)) (pe_op (catLK (K := K)) (pe_slice (sl_listK (K := K)) (pv 3) po_none (po_some (pv 5))) (pe_revL (pe_slice (sl_listK (K := K)) (pv 3) (po_some (pv 5)) (po_some (pe_op op_add (pv 5) pe_int))))) (pe_slice (sl_listK (K := K)) (pv 3) (po_some (pe_op op_add (pv 5) pe_int)) po_none))))) pss_nil) (pss_one (ps_ret (pe_ifExp (pt_cmpR op_eq (pv 4) pe_int (nomark _)) (pe_joinK (K := K) pe_str (pe_op (catLK (K := K)) (pe_op (catLK (K := K)) (pe_slice (sl_listK (K := K)) (pv 3) po_none (po_some (pv 5))) (pe_lst (pa_cons (pe_ix (ix_listK (K := K)) (pv 3) (pv 5) (fun _ _ => rfl)) pa_nil))) (pe_slice (sl_listK (K := K)) (pv 3) (po_some (pv 5)) po_none))) (pe_joinK (K := K) pe_str (pe_op (catLK (K := K)) (pe_slice (sl_listK (K := K)) (pv 3) po_none (po_some (pv 5))) (pe_slice (sl_listK (K := K)) (pv 3) (po_some (pe_op op_add (pv 5) pe_int)) po_none)))))))))))))), ?_⟩
  show Sv _ _ _ _ (SP (3 * x.length + 64))
  have draw : ∀ {ρ : List Sl} {te : TE} (n : Int), ρ[0]? = some .fd → Ev ⟨K, CT, E, fun _ => False⟩ te ρ (· = .int n) → 0 < n → n < 1000000 → Ev ⟨K, CT, E, fun _ => False⟩ (tCall (sp_law_draw K CT) [] E0 (tCons (tVar 0) (tCons te tNil))) ρ (IntP fun r => 0 ≤ r ∧ r < n) := fun n h ht h0 h1 => (ev_callF n h (ea_cons ht ea_nil) ⟨h0, h1⟩).imp fun d ⟨r, hr, e⟩ => ⟨r, hr, e⟩
  have hws := wsum_split_le x
  have hne := split_ne x
  refine sv_parg (ea_consg (P := (· = .list ((Txt.split x " ").map .str))) (ev_m1 (ev_var rfl) ev_str (rm_split (by decide) (by omega))) (ea_consg (draw 7 rfl ev_int (by decide) (by decide)) ea_nil)) fun ds hds => ?_
  obtain ⟨_, _, e1, rfl, _, _, e2, ⟨way, _, rfl⟩, e3⟩ := hds
  refine ⟨_, _, by rw [e1, e2, e3], ?_⟩
  generalize Txt.split x " " = ws at hws hne
  have hl := wsum_len ws
  have hl0 : 0 < ws.length := List.length_pos_iff.mpr hne
  refine sv_parg (ea_consg (draw ws.length rfl ((ev_cb (ea_cons (ev_var rfl) ea_nil) rc_lenL).is (by rw [List.length_map])) (by omega) (by omega)) (ea_consg (draw (x.length + 1) rfl (ev_op (ev_cb (ea_cons (ev_var rfl) ea_nil) (rc_lenS (by omega))) ev_int rv_add) (by omega) (by omega)) ea_nil)) fun ds hds => ?_
  obtain ⟨_, _, e1, ⟨k, hk, rfl⟩, _, _, e2, ⟨sp, hsp, rfl⟩, e3⟩ := hds
  refine ⟨_, _, by rw [e1, e2, e3], ?_⟩
  refine sv_set (P := SP 1) ((ev_callF (Sum.inr "0123456789,/ -|+x\n" : List PyData ⊕ Str) rfl (ea_cons ev_str ea_nil) ⟨by decide, by decide⟩).imp fun d ⟨c, _, e⟩ => ⟨_, e, Nat.le_refl _⟩) fun y hy => ?_
  obtain ⟨sg, rfl, hsg⟩ := hy
  have xv : ∀ {ρ : List Sl}, ρ[1]? = some (.d (.str x)) → Ev ⟨K, CT, E, fun _ => False⟩ (tVar 1) ρ (SP x.length) := fun h => (ev_var h).imp fun d e => ⟨x, e, Nat.le_refl _⟩
  have sv : ∀ {ρ : List Sl}, ρ[2]? = some (.d (.str sg)) → Ev ⟨K, CT, E, fun _ => False⟩ (tVar 2) ρ (SP 1) := fun h => (ev_var h).imp fun d e => ⟨sg, e, hsg⟩
  have wv : ∀ {ρ : List Sl}, ρ[3]? = some (.d (.list (ws.map .str))) → Ev ⟨K, CT, E, fun _ => False⟩ (tVar 3) ρ (LP (x.length + 1)) := fun h => (ev_var h).imp fun d e => ⟨ws, e, hws⟩
  have iv : ∀ {ρ : List Sl} {i : Nat} {n : Int}, ρ[i]? = some (.d (.int n)) → Ev ⟨K, CT, E, fun _ => False⟩ (tVar i) ρ (IntP fun _ => True) := fun h => (ev_var h).imp fun d e => ⟨_, trivial, e⟩
  have ip : ∀ {ρ : List Sl} {i : Nat} {n : Int} (m : Int), ρ[i]? = some (.d (.int n)) → Ev ⟨K, CT, E, fun _ => False⟩ (tOp (rI0 fun i j => .int (i + j)) (tVar i) (tC (.int m))) ρ (IntP fun _ => True) := fun m h => (ev_op (ev_var h) ev_int rv_add).imp fun d e => ⟨_, trivial, e⟩
  have done : ∀ {ρ : List Sl} {te : TE} {b : Nat}, Ev ⟨K, CT, E, fun _ => False⟩ te ρ (SP b) → b ≤ 3 * x.length + 64 → Ev ⟨K, CT, E, fun _ => False⟩ te ρ (SP (3 * x.length + 64)) := fun h hb => h.imp fun d => SP.mono hb
  refine sv_when (et_test (ev_op (ev_var rfl) ev_int rv_eqI)) (fun _ => ?_) fun _ => ?_
  · exact sv_retX (done (sp_add (by omega) (sp_add (by omega) (sp_cut (by omega) (xv rfl) eoR_none (eoR_some (iv rfl))) (sv rfl)) (sp_cut (by omega) (xv rfl) (eoR_some (iv rfl)) eoR_none)) (by omega))
  refine sv_when (et_test (ev_op (ev_var rfl) ev_int rv_eqI)) (fun _ => ?_) fun _ => ?_
  · exact sv_retX (done (sp_add (by omega) (sp_cut (by omega) (xv rfl) eoR_none (eoR_some (iv rfl))) (sp_cut (by omega) (xv rfl) (eoR_some (ip 1 rfl)) eoR_none)) (by omega))
  refine sv_when (et_test (ev_op (ev_var rfl) ev_int rv_eqI)) (fun _ => ?_) fun _ => ?_
  · exact sv_retX (done (sp_add (by omega) (sp_add (by omega) (sp_cut (by omega) (xv rfl) eoR_none (eoR_some (iv rfl))) (sv rfl)) (sp_cut (by omega) (xv rfl) (eoR_some (ip 1 rfl)) eoR_none)) (by omega))
  refine sv_when (et_test (ev_op (ev_var rfl) ev_int rv_eqI)) (fun _ => ?_) fun _ => ?_
  · refine sv_setX (x := .list (lateL.map .str)) (ev_lst (ea_cons ev_str (ea_cons ev_str (ea_cons ev_str (ea_cons ev_str (ea_cons ev_str (ea_cons ev_str (ea_cons ev_str (ea_cons ev_str (ea_cons ev_str (ea_cons ev_str (ea_cons ev_str (ea_cons ev_str (ea_cons ev_rep (ea_cons ev_str (ea_cons ev_str (ea_cons ev_str ea_nil)))))))))))))))) (by decide)) ?_
    refine sv_retX (done (lp_join (by omega) (lp_cat (by omega) (lp_cat (by omega) (lp_cut (wv rfl) eoR_none (eoR_some (iv rfl))) (lp_one (c := 61) ((ev_callF (Sum.inl (lateL.map .str) : List PyData ⊕ Str) rfl (ea_cons (ev_var rfl) ea_nil) (anyIn (by decide) (by decide))).imp fun d hd => ?_))) (lp_cut (wv rfl) (eoR_some (ev_opR (iv rfl) (draw 2 rfl ev_int (by decide) (by decide)) fun i j _ _ => rv_add)) eoR_none))) (by omega))
    obtain ⟨y, hy, rfl⟩ := List.mem_map.mp hd
    exact ⟨y, rfl, lateL_le y hy⟩
  refine sv_when (et_test (ev_op (ev_var rfl) ev_int rv_eqI)) (fun _ => ?_) fun _ => ?_
  · exact sv_retX (done (lp_join (by omega) (lp_cat (by omega) (lp_cat (by omega) (lp_cut (wv rfl) eoR_none (eoR_some (iv rfl))) (lp_rev (lp_cut (wv rfl) (eoR_some (iv rfl)) (eoR_some (ip 2 rfl))))) (lp_cut (wv rfl) (eoR_some (ip 2 rfl)) eoR_none))) (by omega))
  · refine sv_retX (ev_if (et_test (ev_op (ev_var rfl) ev_int rv_eqI)) (fun _ => done (lp_join (by omega) (lp_cat (by omega) (lp_cat (by omega) (lp_cut (wv rfl) eoR_none (eoR_some (iv rfl))) (lp_one (c := x.length + 1) (ev_opg (P1 := (· = .list (ws.map .str))) (P2 := (· = .int k)) (ev_var rfl) (ev_var rfl) fun a b ea eb => ?_))) (lp_cut (wv rfl) (eoR_some (iv rfl)) eoR_none))) (by omega)) fun _ => done (lp_join (by omega) (lp_cat (by omega) (lp_cut (wv rfl) eoR_none (eoR_some (iv rfl))) (lp_cut (wv rfl) (eoR_some (ip 1 rfl)) eoR_none))) (by omega))
    subst ea eb
    obtain ⟨z, hz, ez⟩ := atI_in (l := ws.map PyData.str) hk.1 (by rw [List.length_map]; exact hk.2)
    obtain ⟨y, hy, rfl⟩ := List.mem_map.mp hz
    intro A H v w Q al d1 d2 q
    exact rv_ixL ez A H v w Q al d1 d2 fun z' d H' s dz pz => q z' d H' s dz ⟨y, pz, Nat.le_trans (wsum_mem hy) hws⟩
end
end K13
set_option maxHeartbeats 4000000
/-! The feed is laid down. -/
namespace K13
open PySem L2
section
variable {P : Program} {w : World} {K : PySem.W.Frag} {mg : Str → Option Value} {base : Heap} {f : Addr} {fd : FuncData} {CT fI : Addr} {sz : Addr}
theorem sc_law_feed : FnScope ["_law_script", "_law_cell"] ["_law_script"] (defScope s_law_feed) := ⟨rfl, rfl, rfl, by decide +kernel, rfl, by decide +kernel, by decide +kernel⟩
def spFeed (K : PySem.W.Frag) : Sp := fun vs H Q _ => ∃ (A : Addr → Bool) (l : Addr) (ns : List Int), vs = [.ref l] ∧ Alc A H ∧ SqL K (hid A H) l (ns.map V.int) ∧
  ∀ a H', Same H H' → H a = none → FeedOk K (addA A a) H' a → Q (.ref a) H'
abbrev sp_law_feed (K : PySem.W.Frag) (CT : Addr) : Sp := spFeed K
theorem cutD_mapI (ys : List Int) {lo hi : Option Int} : cutD (ys.map PyData.int) lo hi = (cutD ys lo hi).map PyData.int := by
  unfold cutD
  rw [List.length_map, List.map_take, List.map_drop]
theorem cut63 (ns : List Int) : (cutD ns none (some 63)).length ≤ 63 := by
  unfold cutD
  rw [List.length_take]
  have h : HT.sIx ns.length ns.length (some 63) ≤ 63 := by
    simp [HT.sIx]
    omega
  omega
theorem ok_law_feed (T : Tx K mg) (F : FnP K "_law_feed" s_law_feed f fd)  : FnOk P w K mg base (L2.CX P w) 1 f fd ["_law_script"] (sp_law_feed K CT) := by
  refine F.ok sc_law_feed (fun vs H Q E h => ?_) fun cdv A0 outer s H vs Q E hr h => ?_
  · obtain ⟨A, l, ns, rfl, _⟩ := h
    rfl
  · obtain ⟨A, l, ns, rfl, al, hs, hq⟩ := h
    have nd := sc_law_feed.nd
    refine ⟨_, (pss_one (ps_ret (pe_disp (pps_cons pe_str (pe_lc rfl nd (pi_listK (K := K) (pe_slice (sl_listK (K := K)) (pv 0) po_none (po_some pe_int))) (blkOk_by (own := [("_law_cell", 1)]) (by kernel_rfl)) (fun _ _ _ _ _ => (pg_name (i := 1) nd rfl (Or.inl rfl))) (fun _ _ _ _ _ => pts_nil) (fun _ _ _ _ _ => (pe_callTy (T := "int") call_int1 (by rfl) T.b_int (by decide +kernel) (pa_cons (pv 1) pa_nil)))) (pps_cons pe_str pe_int (pps_cons pe_str pe_int (pps_cons pe_str pe_int pps_nil)))) rfl rfl (by simp) (by decide)))), ?_⟩
    show tDisp _ _ H _
    intro p hp
    have eh := hid_add (A := A) (o := .dK []) hp
    have al2 : Alc (addA A p) (upd H p (.dK [])) := fun b hb => by
      by_cases z : b = p
      · exact ⟨_, by rw [z]; exact upd_same⟩
      · rw [upd_ne z]
        exact al b (by
          simpa [addA, z] using hb)
    have I := en_start (K := K) (N := ["_law_script", "_law_cell"]) (vs := [.ref l]) (ds := [.list (ns.map .int)]) al2 (.cons (.lst (by rw [eh]; exact hs) (dpAll_ofInts ns)) .nil)
    have hc : Ev ⟨K, CT, E, nof ()⟩ (tLc (iList K (tSl (rSlL K) (tVar 0) tNoPart (tPart (tC (.int 63))))) (gName 1) tYes (tCB rInt1 (tCons (tVar 1) tNil)) [1]) (st0 2 [.list (ns.map .int)]) (· = .list (((cutD ns none (some 63)).map id).map .int)) :=
      ev_mapM inj_int id PyData.int (ei_list ((ev_sl (ev_var rfl) eo_none (eo_some ev_int) rs_lst).imp fun d e => by rw [e]; exact congrArg PyData.list (cutD_mapI ns))) (by decide) (by have := cut63 ns; omega) fun i hi => ev_cb (ea_cons (ev_var rfl) ea_nil) rc_intI
    rw [tPairs]
    show tC _ _ _ _
    unfold tC
    refine hc ⟨K, none, addA A p, upd H p (.dK [])⟩ _ _ _ _ rfl I (fun i dd H' _ _ _ z => z.elim) fun v d H1 I1 f1 n1 d1 p1 => ?_
    have hp1 : H1 p = some (.dK []) := f1 p _ upd_same (by simp)
    rw [List.map_id] at p1
    subst p1
    obtain ⟨l', us, rfl, s1, du⟩ := dp_lst d1
    refine ⟨hp1, [(.inr "cells", .ref l'), (.inr "next", .int 0), (.inr "left", .int 0), (.inr "drawn", .int 0)], rfl, by simp, ?_⟩
    refine hq p _ (fun b o e => ?_) hp ⟨l', cutD ns none (some 63), 0, 0, 0, by rw [upd_same]; rfl, ?_, by decide, by decide, cut63 ns⟩
    · have z : b ≠ p := fun z => by rw [z, hp] at e; cases e
      rw [upd_ne z]
      exact f1 b o (by rw [upd_ne z]; exact e) (by simp)
    · rw [hid_upd' addA_at, ← dpAll_ints du]
      exact s1
end
end K13
set_option maxHeartbeats 4000000
/-! Defs whose promise holds while no value is being shown (repr of lists and tuples asks for it). -/
namespace K13
open PySem L2
/-- a def that is entered with no value half shown -/
structure FnG (P : Program) (w : World) (K : PySem.W.Frag) (mg : Str → Option Value) (base : Heap) (EX : CXT) (lv : Nat) (fa : Addr) (fd : FuncData) (par : List Str) (sp : Sp) : Prop where
  len : ∀ zs H Q E, sp zs H Q E → zs.length = par.length
  go : ∀ (B : Around) (fr : List Env) (st : Shared) (H : Hp) (as : Args) (bs : List Value) (zs : List V) (Q : VK) (E : XK), B.guards = some [] → Room lv B → Env0 P w K mg base B fr st H → BindsTo st fd as (par.zip bs) → Vals zs bs → sp zs H Q E →
    codeAny (model P w) B (.call (.ref fa) as) (CR EX fr P w H st Q E) st
section
variable {P : Program} {w : World} {K : PySem.W.Frag} {mg : Str → Option Value} {base : Heap} {EX : CXT}
theorem FnG.of {lv : Nat} {fa : Addr} {fd : FuncData} {par : List Str} {sp : Sp} (F : FnOk P w K mg base EX lv fa fd par sp) : FnG P w K mg base EX lv fa fd par sp :=
  ⟨F.len, fun B fr st H as bs zs Q E _ hr => F.run B fr st H as bs zs Q E hr⟩
/-- by its body -/
theorem fnG_of {x qual : Str} {prm : Arguments} {bd : List Stmt} {sc : Scope} {dvs : List V} {kws : List (Str × V)} {fa : Addr} {fd : FuncData} {N par : List Str} {lv : Nat} {sp : Sp} (F : FunD K x qual prm bd sc dvs kws fa fd) (S : FnScope N par sc)
    (hl : ∀ zs H Q E, sp zs H Q E → zs.length = par.length)
    (hb : ∀ (cdv : Value) (B : Around) (fr : List Env) (st : Shared) (H : Hp) (zs : List V) (Q : VK) (E : XK), B.guards = some [] → Room lv (B.deeper (PyProof.Rows.envOfC qual sc st.heap.objs.size fa cdv)) → sp zs H Q E →
      ∃ t, PSs (cxOf EX P w K mg base N qual sc fa cdv B fr st H E) bd t ∧ t { nx := fun _ H' => Q .non H', rt := Q } (L2.start N zs) H) : FnG P w K mg base EX (lv + 1) fa fd par sp := by
  obtain ⟨oc, od, dV, kV, doc, pm, an, cdv, ct, osl, rfl, lk, hcd, _, _⟩ := F.ex
  refine ⟨hl, fun B fr st H as bs zs Q E hg hr e0 bt rv q => ?_⟩
  exact LamX.run_ofS (CX := EX) lk hcd S hr e0 bt rv (hl _ _ _ _ q) fun hr' => hb cdv B fr st H zs Q E hg hr' q
end
section
variable {X : Cx} {EX : CXT} {lv : Nat} {fa : Addr} {fd : FuncData} {par : List Str} {sp : Sp} {dvs : List V} {ds : List Value} {E : XK} {x : Str} {p pos : Pos} {e : Expr} {es : List Expr} {t : TA}
theorem runG {pins : List (Addr × Obj)} {σ : L2.St} {H : Hp} {st : Shared} {Q : VK} {bs : List Value} {zs : List V} (F : FnG X.prog X.w X.K X.mg X.base EX lv fa fd par sp) (hg : X.A.guards = some []) (hr : Room lv X.A) (hb : Binds X.K fd par ds) (hd : Vals dvs ds)
    (hx : Passes EX X E) (I : Inv X pins σ H st) (rv : Vals zs bs) (q : sp (zs ++ dvs) H Q E) : wpAny (model X.prog X.w) X.A (call (.ref fa) bs) (EP X pins σ Q) X.xe st := by
  have r2 : Vals (zs ++ dvs) (bs ++ ds) := rv.append hd
  have hl : (bs ++ ds).length = par.length := by rw [← r2.length]; exact F.len _ _ _ _ q
  refine wpAny_call (codeAny_mono (F.go X.A X.stack st H ⟨bs, []⟩ (bs ++ ds) (zs ++ dvs) Q E hg hr I.env0 (hb st bs I.kIn hl) r2 q) fun r s' hq => ?_)
  match r, hq with
  | .error e, hq => exact hx pins σ H st e s' I hq
  | .ok (.ret u), hq => exact I.after hq
  | .ok .next, hq => exact hq.elim
  | .ok .brk, hq => exact hq.elim
  | .ok .cont, hq => exact hq.elim
def KnG (P : Program) (w : World) (K : PySem.W.Frag) (mg : Str → Option Value) (base : Heap) (k : Nat) (x : Str) (ps : List Str) (sp : Sp) (dvs : List V) : Prop :=
  ∃ (f : Addr) (fd : FuncData) (ds : List Value), FnG P w K mg base (L2.CX P w) k f fd ps sp ∧ mg x = some (.ref f) ∧ PySem.W.keepIn K (.ref f) = true ∧ Binds K fd ps ds ∧ Vals dvs ds
theorem pe_kG {k j : Nat} {ps : List Str} (h : KnG X.prog X.w X.K X.mg X.base k x ps sp dvs) (hgd : X.A.guards = some []) (hr : Room j X.A) (ha : PA X (e :: es) t) (hk : k ≤ j := by decide) (hg : Gl X x := by rfl)
    (hdb : (x == ("__debug__" : Str)) = false := by decide) (he : starEach (e :: es) X.env = (false, eval e X.env) :: starEach es X.env := by rfl) (hpl : (backTo pos (starEach es X.env)).any (·.1) = false := by rfl) :
    PE X (.Call (.Name x p) (e :: es) [] pos) (tCall sp dvs E0 t) := by
  obtain ⟨f, fd, ds, F, hm, hkp, hb, hd⟩ := h
  refine ⟨fun pins st σ H Q I q => ?_⟩
  refine wpAny_Call_Name_kw (ld_glob I hg hm ?_ hdb)
  refine PySem.W.callWith_K (h₀ := X.base) I.ok.mod.kin hkp (thn (ha.run pos pins st σ H _ I q) fun us s1 ⟨vs, H1, I1, rv, q1⟩ => ⟨I1.kIn, ?_⟩) he hpl
  exact runG F hgd (hr.mono hk) hb hd passL I1 rv q1
end
end K13
set_option maxHeartbeats 4000000
/-! isinstance of a caught exception that has fields; a count of True. -/
namespace K13
open PySem L2
/-- isinstance(e, c), e the exception of the suite, its dict at dd -/
def rIsX (K : PySem.W.Frag) (D a dd : Addr) : List V → Hp → VK → Prop := fun xs H Q => ∃ (c : V) (cv : Value) (b : Bool) (fs : List (Str × V)), xs = [.ref a, c] ∧ (∀ u, RelV c u → u = cv) ∧ PySem.W.kitOne K (.ref D) cv = some b ∧ H dd = some (.xd fs) ∧ Q (.bl b) H
theorem call_isX {X : Cx} {a D dd : Addr} {oe : Obj} {pn : List (Addr × Obj)} (C : ExcC X.K D) (hz : Zc (.ref D) (some dd) oe) (hf : ∃ vs, oe.data = .fields vs) : CallR (X.suite a ((a, oe) :: pn)) (.builtin "isinstance") (rIsX X.K D a dd) := by
  rintro pins st σ H xs us Q I r ⟨c, cv, b, fs, rfl, hcv, e, hd, q⟩
  cases r with
  | cons rx rr =>
    cases rr with
    | cons rt rr =>
      cases rr
      cases rx
      have ec := hcv _ rt
      subst ec
      obtain ⟨hget, _⟩ := I.pin (a, oe) (List.mem_append.mpr (.inl List.mem_cons_self))
      obtain ⟨vs, hv⟩ := hf
      obtain ⟨mA, hns, _⟩ : ObjOk X.prog X.w H st.heap dd (.xd fs) := I.hok dd _ hd
      obtain ⟨od, ho, _⟩ := lookIn_ns hns
      have J : PySem.W.InstAt st.heap a oe D (some od) := ⟨hget, hz.1, by unfold PySem.W.notCls; rw [hv] <;> rfl, by rw [hz.2]; exact ho⟩
      have hcl : (PySem.W.clsIn X.K D).isSome = true := by
        obtain ⟨cd, hc, _⟩ := PySem.W.any_some C.hd
        rw [hc]; rfl
      exact PySem.W.kia_one (PySem.W.kitx_exc (od := some od) hcl C.hg C.hk C.hs C.ha C.hn C.ht C.hm) I.kIn J e (fun z => nomatch z) fun tk => ⟨.bl b, H, I.kept (t' := tk) fun _ _ z => z, rfl, q⟩
/-! ### a list of truth values: how many are True -/
def eqT (v : Value) : Bool := match v with
  | .bool b => b == true
  | _ => false
def rCntT (K : PySem.W.Frag) : V → List V → Hp → VK → Prop := fun x xs H Q => ∃ (p : Addr) (bs : List Bool), x = .ref p ∧ xs = [.bl true] ∧ SqL K H p (bs.map V.bl) ∧ Q (.int (bs.count true : Nat)) H
theorem eqT_gives {A : Around} {st : Shared} : ∀ {us : List Value} {bs : List Bool}, Vals (bs.map V.bl) us → ∀ y ∈ us, SeqAt.EqAt A st y (.bool true) (eqT y)
  | _, [], h => by cases h; intro y hy; cases hy
  | _, b :: r, h => by
    cases h with
    | cons h1 h2 =>
      intro y hy
      rcases List.mem_cons.mp hy with e | e
      · rw [e, show _ = Value.bool b from h1]
        exact SeqAt.EqAt.bool_bool b true
      · exact eqT_gives h2 y e
theorem eqT_count : ∀ {us : List Value} {bs : List Bool}, Vals (bs.map V.bl) us → us.countP eqT = bs.count true
  | _, [], h => by cases h; rfl
  | _, b :: r, h => by
    cases h with
    | cons h1 h2 =>
      rw [show _ = Value.bool b from h1, List.countP_cons, List.count_cons, eqT_count h2]
      rfl
theorem mt_countT {X : Cx} : MtR X "list.count" (rCntT X.K) := by
  rintro pins st σ H x xs v us Q I rx rxs ⟨p, bs, rfl, rfl, hs, q⟩
  cases rx
  obtain ⟨u, rfl, ru⟩ := rxs.one
  have ru : u = .bool true := ru
  subst ru
  obtain ⟨its, rv, ⟨⟨cls, dd, data, sl⟩, n, ho, hc, hdn, hd⟩, hlen⟩ := I.list hs
  simp only at hc hd
  subst hc hd
  refine call_meets PySem.F.slot_list_count ⟨_, ho, rfl⟩ PySem.F.entry_list_count (PySem.F.args_list_count_2 _ _)
    (SeqAt.list_countAt p its.toArray n dd sl (.bool true) eqT) ⟨ho, fun y hy => eqT_gives rv y (by simpa using hy), ?_⟩
  have ec : its.toArray.toList.countP eqT = bs.count true := eqT_count rv
  refine ⟨.int (bs.count true : Nat), H, I.tok _, ⟨st.toks, ?_⟩, q⟩
  show Value.int ((its.toArray.toList.countP eqT : Nat) : Int) st.toks = Value.int ((bs.count true : Nat) : Int) st.toks
  rw [ec]
theorem vals_bools : ∀ {us : List Value} {bs : List Bool}, Vals (bs.map V.bl) us → us = bs.map Value.bool
  | _, [], h => by cases h; rfl
  | _, b :: r, h => by
    cases h with
    | cons h1 h2 => rw [show _ = Value.bool b from h1, vals_bools h2]; rfl
/-- two lists of the same truth values: != is False -/
def rNeT (K : PySem.W.Frag) : R2 := fun x y H Q => ∃ a b, ∃ bs : List Bool, x = .ref a ∧ y = .ref b ∧ SqL K H a (bs.map V.bl) ∧ SqL K H b (bs.map V.bl) ∧ Q (.bl false) H
theorem op_neT {X : Cx} {K : PySem.W.Frag} (hu : X.A.units + 64 < cLine) (h : X.K = K := by rfl) : OpR X (compareOp .NotEq) (rNeT K) := by
  subst h
  rintro pins st σ H x y v u Q I rx ry ⟨a, b, bs, rfl, rfl, h1, h2, q⟩
  obtain rfl : v = Value.ref a := rx
  obtain rfl : u = Value.ref b := ry
  obtain ⟨i1, r1, p1, _⟩ := I.list h1
  obtain ⟨i2, r2, p2, _⟩ := I.list h2
  have e1 := vals_bools r1
  have e2 := vals_bools r2
  subst e1 e2
  have e := SeqAt.RcNeAt.lists (A := X.A) (e := fun _ => true) p1.isList p2.isList rfl (by omega) (fun j j1 j2 => by
    have z := SeqAt.EqAt.bool_bool (A := X.A.in1) (s := st) (bs[j]'(by simpa using j1)) (bs[j]'(by simpa using j1))
    rw [beq_self_eq_true] at z
    simpa using z) X.prog X.w
  refine e _ _ ?_
  rw [show (List.range (bs.map Value.bool).toArray.size).all (fun _ => true) = true from by simp]
  exact ⟨.bl false, H, I, rfl, q⟩
end K13
set_option maxHeartbeats 4000000
/-! repr of data; _law_same. -/
namespace K13
open PySem L2
section
variable {X : Cx} {pins : List (Addr × Obj)} {σ : L2.St} {H : Hp} {st : Shared}
mutual
theorem dp_reads (I : Inv X pins σ H st) : ∀ {v : V} {d : PyData} {u : Value}, Dp X.K H v d → RelV v u → ∃ as, Reads st.heap u d as
  | _, _, u, .non, r => by obtain rfl : u = Value.none := r; exact ⟨_, .none⟩
  | _, _, u, .bl b, r => by obtain rfl : u = Value.bool b := r; exact ⟨_, .bool b⟩
  | _, _, u, .int i, r => by obtain ⟨t, rfl⟩ := r; exact ⟨_, .int i t⟩
  | _, _, u, .str x, r => by obtain ⟨t, rfl⟩ := r; exact ⟨_, .str x t⟩
  | _, _, u, .lst s a, r => by
    obtain ⟨its, rv, ⟨o, n, e, hc, hdn, hd⟩, _⟩ := I.list s
    obtain ⟨as, h⟩ := dpAll_reads I a rv
    obtain rfl : u = Value.ref _ := r
    exact ⟨_, .list e hc hd h⟩
  | _, _, u, .tup s a, r => by
    obtain ⟨its, rv, ⟨o, e, hc, n, hd⟩, _⟩ := I.tuple s
    obtain ⟨as, h⟩ := dpAll_reads I a rv
    obtain rfl : u = Value.ref _ := r
    exact ⟨_, .tuple e hc hd h⟩
theorem dpAll_reads (I : Inv X pins σ H st) : ∀ {vs : List V} {ds : List PyData} {us : List Value}, DpAll X.K H vs ds → Vals vs us → ∃ as, ReadsAll st.heap us ds as
  | _, _, _, .nil, .nil => ⟨_, .nil⟩
  | _, _, _, .cons h t, .cons r rs => by
    obtain ⟨a, h1⟩ := dp_reads I h r
    obtain ⟨b, h2⟩ := dpAll_reads I t rs
    exact ⟨_, .cons h1 h2⟩
end
end
/-- a list that can be shown -/
structure Shw (d : PyData) : Prop where
  lst : ∃ ds, d = .list ds
  ok : d.showable = true
  nod : d.hasDict = false
  len : d.shown.length ≤ sizeLine
  dep : d.depth ≤ 60
def rReprD (K : PySem.W.Frag) : List V → Hp → VK → Prop := fun xs H Q => ∃ x d, xs = [x] ∧ Dp K H x d ∧ Shw d ∧ Q (.str d.shown) H
theorem call_reprD {X : Cx} {K : PySem.W.Frag} (hg : X.A.guards = some []) (hu : X.A.units + 64 < cLine) (h : X.K = K := by rfl) : CallR X (.builtin "repr") (rReprD K) := by
  subst h
  rintro pins st σ H xs us Q I r ⟨x, d, rfl, hd, w, q⟩
  obtain ⟨u, rfl, ru⟩ := r.one
  obtain ⟨as, hr⟩ := dp_reads I hd ru
  obtain ⟨ds, rfl⟩ := w.lst
  obtain ⟨a, vs, rfl, _⟩ := dp_lst hd
  obtain rfl : u = Value.ref a := ru
  have wd := w.dep
  exact repr_of_reads' hr w.ok (fun z => by rw [w.nod] at z; cases z) hg (by omega) (fun _ _ z => z) (fun h' u' tk k => ⟨.str _, H, I.kept (t' := tk) (h' := h') k, ⟨u', rfl⟩, q⟩) w.len
theorem rc_reprD {K : PySem.W.Frag} {d : PyData} (w : Shw d) : Rc K (rReprD K) [d] (· = .str d.shown) := fun A H vs Q al h q => by
  obtain ⟨v, rfl, hv⟩ := dp1 h
  exact ⟨v, d, rfl, dp_mono hid_to hv, w, q _ _ H (Same.refl H) (.str _) rfl⟩
section
variable {P : Program} {w : World} {K : PySem.W.Frag} {mg : Str → Option Value} {base : Heap} {f : Addr} {fd : FuncData} {CT fI : Addr} {sz : Addr}
theorem fnG_x {x qual : Str} {prm : Arguments} {bd : List Stmt} {sc : Scope} {dvs : List V} {kws : List (Str × V)} {N par : List Str} {lv : Nat} {α : Type} {args : α → List PyData} {pre : α → Prop} {post : α → DP} {flt : α → Int → Prop}
    (F : FunD K x qual prm bd sc dvs kws f fd) (S : FnScope N par sc) (hl : ∀ a, (args a).length = par.length)
    (hb : ∀ (cdv : Value) (B : Around) (fr : List Env) (st : Shared) (H : Hp) (E : XK) (a : α), B.guards = some [] → Room lv (B.deeper (PyProof.Rows.envOfC qual sc st.heap.objs.size f cdv)) → pre a →
      ∃ t, PSs (cxOf (L2.CX P w) P w K mg base N qual sc f cdv B fr st H E) bd t ∧ Sv ⟨K, CT, E, flt a⟩ t (st0 N.length (args a)) (fun _ => post a .none) (post a)) :
    FnG P w K mg base (L2.CX P w) (lv + 1) f fd par (spX K CT args pre post flt) := by
  refine fnG_of F S (fun vs H Q E h => ?_) fun cdv B fr st H vs Q E hg hr h => ?_
  · obtain ⟨A, a, al, da, _⟩ := h
    rw [dpAll_len da, hl]
  · obtain ⟨A, a, al, da, hp, hq, he⟩ := h
    obtain ⟨t, h1, h2⟩ := hb cdv B fr st H E a hg hr hp
    refine ⟨t, h1, h2 ⟨K, none, A, H⟩ A H _ _ rfl (en_start al da) (fun i dd H' e n q p => he i dd H' (fun b o z => e b o z (by simp)) n q p) (fun A' H' σ' ρ' I' s' p => ?_) fun v d H' e _ dv p => hq v d H' (fun b o z => e b o z (by simp)) dv p⟩
    exact hq .non .none H' (fun b o z => I'.keep b o z (by simp)) .non p
theorem sc_law_same : FnScope ["_law_told", "_law_due"] ["_law_told", "_law_due"] (defScope s_law_same) := ⟨rfl, rfl, rfl, by decide +kernel, rfl, by decide +kernel, by decide +kernel⟩
abbrev sp_law_same (K : PySem.W.Frag) (CT : Addr) : Sp := spX K CT (fun q : PyData × PyData => [q.1, q.2]) (fun q => Shw q.1 ∧ q.2 = q.1) (fun _ d => d = .bool true) nof
theorem ok_law_same (T : Tx K mg) (F : FnP K "_law_same" s_law_same f fd) : FnG P w K mg base (L2.CX P w) 1 f fd ["_law_told", "_law_due"] (sp_law_same K CT) := by
  refine fnG_x F sc_law_same (fun _ => rfl) fun cdv B fr st H E q hg hr hp => ?_
  obtain ⟨d, e⟩ := q
  obtain ⟨w1, e1⟩ := hp
  simp only at w1 e1
  subst e1
  have hgd : (B.deeper (PyProof.Rows.envOfC "_law_same" (defScope s_law_same) st.heap.objs.size f cdv)).guards = some [] := hg
  have hu : (B.deeper (PyProof.Rows.envOfC "_law_same" (defScope s_law_same) st.heap.objs.size f cdv)).units + 64 < cLine := by have := hr.un; omega
  refine ⟨_, (pss_one (ps_ret (pe_cmpR op_eq (pe_callB (id := "repr") (call_reprD (K := K) hgd hu) (by rfl) T.b_repr (by decide +kernel) (pa_cons (pv 0) pa_nil)) (pe_callB (id := "repr") (call_reprD (K := K) hgd hu) (by rfl) T.b_repr (by decide +kernel) (pa_cons (pv 1) pa_nil)) (nomark _)))), ?_⟩
  exact sv_retX ((ev_op (ev_cb (ea_cons (ev_var rfl) ea_nil) (rc_reprD w1)) (ev_cb (ea_cons (ev_var rfl) ea_nil) (rc_reprD w1)) rv_eqS).is (by rw [decide_eq_true rfl]))
end
end K13
set_option maxHeartbeats 4000000
/-! _law_heard: what a call tells, or what it raises. -/
namespace K13
open PySem L2
/-- what the error classes say of each other -/
structure HdX (K : PySem.W.Frag) (mg : Str → Option Value) (CT CG C1 C2 C3 C4 C5 C6 : Addr) : Prop where
  g_GroupError : mg "GroupError" = some (.ref CG)
  g_NotUsable : mg "NotUsable" = some (.ref C1)
  g_InvalidPaper : mg "InvalidPaper" = some (.ref C2)
  g_InvalidText : mg "InvalidText" = some (.ref CT)
  g_CountError : mg "CountError" = some (.ref C3)
  g_PaperError : mg "PaperError" = some (.ref C4)
  g_TextError : mg "TextError" = some (.ref C5)
  g_LiveError : mg "LiveError" = some (.ref C6)
  fV : mg "ValueError" = none
  exm : PySem.W.exmOne K (.ref CT) (.ref CG) = some true
  kV : PySem.W.kitOne K (.ref CT) (.type "ValueError") = some true
  kT : PySem.W.kitOne K (.ref CT) (.ref CT) = some true
  k1 : PySem.W.kitOne K (.ref CT) (.ref C1) = some false
  k2 : PySem.W.kitOne K (.ref CT) (.ref C2) = some false
  k3 : PySem.W.kitOne K (.ref CT) (.ref C3) = some false
  k4 : PySem.W.kitOne K (.ref CT) (.ref C4) = some false
  k5 : PySem.W.kitOne K (.ref CT) (.ref C5) = some true
  k6 : PySem.W.kitOne K (.ref CT) (.ref C6) = some false
  exc : ExcC K CT
  xf : XfC K CT
  no_word : PySem.W.findIn K (.ref CT) "word" = some none
  no_at : PySem.W.findIn K (.ref CT) "at" = some none
  no_line : PySem.W.findIn K (.ref CT) "line" = some none
  no_field : PySem.W.findIn K (.ref CT) "field" = some none
abbrev textD (f : Int) : PyData := .tuple [.str "text", .int 0, .int f]
/-- what _law_heard makes of the reading tl of what it is handed -/
def TTh (K : PySem.W.Frag) (CT : Addr) : (XK → Hp → VK → Prop) → Hp → VK → Prop := fun tl H Q =>
  tl (fun cls d H' => ∃ dd fld, cls = .ref CT ∧ d = some dd ∧ H' dd = some (xdF fld) ∧ ∀ v H2, Same H' H2 → Dp K H2 v (textD fld) → Q v H2) H
    (fun v H' => [V.str "told", v].length ≤ sizeLine ∧ ∀ p, H' p = none → Q (.ref p) (upd H' p (.tup [.str "told", v])))
theorem sc_law_heard : FnScope ["_law_ask", "e", "_law_own", "_law_sorts"] ["_law_ask"] (defScope s_law_heard) := ⟨rfl, rfl, rfl, by decide +kernel, rfl, by decide +kernel, by decide +kernel⟩
section
variable {X : Cx} {CT CG C1 C2 C3 C4 C5 C6 : Addr}
theorem pe_gref {X : Cx} {x : Str} {C : Addr} {pos : Pos} (hg : Gl X x) (hm : X.mg x = some (.ref C)) (hd : (x == ("__debug__" : Str)) = false := by decide) : PE X (.Name x pos) (tC (.ref C)) := pe_glob (v := .ref C) hg hm rfl hd
theorem mt_countK {X : Cx} {K : PySem.W.Frag} (h : X.K = K := by rfl) : MtR X "list.count" (rCntT K) := by subst h; exact mt_countT
theorem pe_cnt {X : Cx} {K : PySem.W.Frag} {o : Expr} {to : TE} {apos cpos p : Pos} {j : Nat} (ho : PE X o to) (h : X.K = K := by rfl)
    (hbase : attributeBase o "count" X.env (eval o X.env) = eval o X.env := by rfl)
    (hfew : ((backTo cpos (starEach [.Constant (.bool true) j p] X.env)).all (fun x => !x.1) && (backToKw cpos (keywordEach [] X.env)).all (fun x => x.1.isSome)
      && decide (([.Constant (.bool true) j p] : List Expr).length + ([] : List Keyword).length + (if ([] : List Keyword).isEmpty then 0 else 1) < 30)) = true := by rfl)
    (hline : (apos.endLine == cpos.line) = true := by rfl) : PE X (.Call (.Attribute o "count" apos) [.Constant (.bool true) j p] [] cpos) (tBM K "list" (rCntT K) to (tCons (tC (.bl true)) tNil)) := by
  subst h
  exact pe_bm PySem.F.plainAttrs_list PySem.F.slot_list_count PySem.F.type_list_count mt_countT ho (pa_cons pe_bl pa_nil) hbase hfew hline
abbrev heardX (X : Cx) (g : Addr) (cdg : Value) (s : Shared) (H : Hp) (a : Addr) (oe : Obj) (pn : List (Addr × Obj)) : Cx := ((cxOf C8.CX0 X.prog X.w X.K X.mg X.base ["_law_ask", "e", "_law_own", "_law_sorts"] "_law_heard" (defScope s_law_heard) g cdg X.A X.stack s H C8.E0).nox).suite a ((a, oe) :: pn)
def handB (s : Stmt) : List Stmt := match defBody s with
  | [.Try _ [.ExceptHandler _ _ b _] _ _ _] => b
  | _ => []
theorem gives_heard {g : Addr} {cdg : Value} {q : Str} (T : Tx X.K X.mg) (hX : HdX X.K X.mg CT CG C1 C2 C3 C4 C5 C6) (hu0 : X.A.units + 100 < cLine) :
    LamX.GivesTo X ["_law_ask", "e", "_law_own", "_law_sorts"] "_law_heard" (defScope s_law_heard) g cdg (defBody s_law_heard) "_law_ask" q (TTh X.K CT) := by
  intro f c' s H Q tl act hc h
  have nd := sc_law_heard.nd
  obtain ⟨t0, hs, ht⟩ : ∃ t0 : Addr → Addr → TS, (∀ (a : Addr) (oe : Obj) (dd : Addr) (pn : List (Addr × Obj)), Zc (.ref CT) (some dd) oe → (∃ vs, oe.data = .fields vs) →
      PSs (((cxOf C8.CX0 X.prog X.w X.K X.mg X.base ["_law_ask", "e", "_law_own", "_law_sorts"] "_law_heard" (defScope s_law_heard) g cdg X.A X.stack s H C8.E0).nox).suite a ((a, oe) :: pn)) (handB s_law_heard) (t0 a dd)) ∧
      ∀ (a dd : Addr) (fld : Int) (D : Ends) (H1 : Hp) (x0 x2 x3 : Option V), H1 dd = some (xdF fld) → (∀ v H2, Same H1 H2 → Dp X.K H2 v (textD fld) → D.rt v H2) → t0 a dd D [x0, some (.ref a), x2, x3] H1 := by
    have hu : ∀ (a : Addr) (pn : List (Addr × Obj)), (((cxOf C8.CX0 X.prog X.w X.K X.mg X.base ["_law_ask", "e", "_law_own", "_law_sorts"] "_law_heard" (defScope s_law_heard) g cdg X.A X.stack s H C8.E0).nox).suite a pn).A.units + 64 < cLine := fun a pn => by
      show X.A.units + 3 + 64 < cLine
      omega
    refine ⟨_, fun a oe dd pn hz hf => (pss_cons (ps_set (i := 2) nd rfl (Or.inl rfl) (pe_lst (pa_cons (pe_callB (id := "isinstance") (call_isX hX.exc hz hf) (by rfl) T.b_isinstance (by decide +kernel) (pa_cons (pv 1) (pa_cons (pe_gref rfl hX.g_NotUsable) pa_nil))) (pa_cons (pe_callB (id := "isinstance") (call_isX hX.exc hz hf) (by rfl) T.b_isinstance (by decide +kernel) (pa_cons (pv 1) (pa_cons (pe_gref rfl hX.g_InvalidPaper) pa_nil))) (pa_cons (pe_callB (id := "isinstance") (call_isX hX.exc hz hf) (by rfl) T.b_isinstance (by decide +kernel) (pa_cons (pv 1) (pa_cons (pe_gref rfl hX.g_InvalidText) pa_nil))) pa_nil))))) (pss_cons (ps_set (i := 3) nd rfl (Or.inl rfl) (pe_lst (pa_cons (pe_callB (id := "isinstance") (call_isX hX.exc hz hf) (by rfl) T.b_isinstance (by decide +kernel) (pa_cons (pv 1) (pa_cons (pe_gref rfl hX.g_CountError) pa_nil))) (pa_cons (pe_callB (id := "isinstance") (call_isX hX.exc hz hf) (by rfl) T.b_isinstance (by decide +kernel) (pa_cons (pv 1) (pa_cons (pe_gref rfl hX.g_PaperError) pa_nil))) (pa_cons (pe_callB (id := "isinstance") (call_isX hX.exc hz hf) (by rfl) T.b_isinstance (by decide +kernel) (pa_cons (pv 1) (pa_cons (pe_gref rfl hX.g_TextError) pa_nil))) pa_nil))))) (pss_cons (ps_if (PW.pt (pw_or (pt_not (pt_val (pe_callB (id := "isinstance") (call_isX hX.exc hz hf) (by rfl) T.b_isinstance (by decide +kernel) (pa_cons (pv 1) (pa_cons (pe_ty (n := "ValueError") hX.fV) pa_nil))))) (pw_or (pt_val (pe_callB (id := "isinstance") (call_isX hX.exc hz hf) (by rfl) T.b_isinstance (by decide +kernel) (pa_cons (pv 1) (pa_cons (pe_gref rfl hX.g_LiveError) pa_nil)))) (pw_or (pt_cmpR op_ne (pe_cnt (K := X.K) (pv 2)) pe_int (nomark _)) (pw_or1 (pt_cmpR (op_neT (K := X.K) (hu a _)) (pv 3) (pv 2) (nomark _))))))) (pss_one (ps_ret (pe_tup (pa_cons pe_str pa_nil)))) pss_nil) (pss_cons (ps_if (pt_val (pe_ix (ix_listK (K := X.K)) (pv 2) pe_int (fun _ _ => rfl))) (pss_one (ps_ret (pe_tup (pa_cons pe_str (pa_cons (pe_xf hX.xf hX.no_word hz hf (pv 1)) (pa_cons (pe_xf hX.xf hX.no_at hz hf (pv 1)) pa_nil)))))) pss_nil) (pss_one (ps_ret (pe_ifExp (pt_val (pe_ix (ix_listK (K := X.K)) (pv 2) pe_int (fun _ _ => rfl))) (pe_tup (pa_cons pe_str (pa_cons (pe_xf hX.xf hX.no_word hz hf (pv 1)) (pa_cons (pe_xf hX.xf hX.no_at hz hf (pv 1)) pa_nil)))) (pe_tup (pa_cons pe_str (pa_cons (pe_xf hX.xf hX.no_line hz hf (pv 1)) (pa_cons (pe_xf hX.xf hX.no_field hz hf (pv 1)) pa_nil))))))))))), ?_⟩
    intro a dd fld D H1 x0 x2 x3 hd q
    have rr : ∀ {c : Addr} (u : Value), RelV (.ref c) u → u = .ref c := fun u h => h
    have up : ∀ {H2 : Hp} {p : Addr} {o : HO}, H2 p = none → H2 dd = some (xdF fld) → upd H2 p o dd = some (xdF fld) := fun hp hd => by
      rw [upd_ne (fun z => by rw [z, hp] at hd; cases hd)]
      exact hd
    refine ⟨.ref a, rfl, .ref C1, .ref C1, false, _, rfl, rr, hX.k1, hd, ?_⟩
    refine ⟨.ref a, rfl, .ref C2, .ref C2, false, _, rfl, rr, hX.k2, hd, ?_⟩
    refine ⟨.ref a, rfl, .ref CT, .ref CT, true, _, rfl, rr, hX.kT, hd, ?_⟩
    refine ⟨by rw [sizeLine_eq]; decide, fun p hp => ?_⟩
    have hd1 := up (o := .lst [.bl false, .bl false, .bl true]) hp hd
    refine ⟨.ref a, rfl, .ref C3, .ref C3, false, _, rfl, rr, hX.k3, hd1, ?_⟩
    refine ⟨.ref a, rfl, .ref C4, .ref C4, false, _, rfl, rr, hX.k4, hd1, ?_⟩
    refine ⟨.ref a, rfl, .ref C5, .ref C5, true, _, rfl, rr, hX.k5, hd1, ?_⟩
    refine ⟨by rw [sizeLine_eq]; decide, fun p2 hp2 => ?_⟩
    have hd2 := up (o := .lst [.bl false, .bl false, .bl true]) hp2 hd1
    have np : p ≠ p2 := fun z => by rw [← z, upd_same] at hp2; cases hp2
    have e1 : upd (upd H1 p (.lst [.bl false, .bl false, .bl true])) p2 (.lst [.bl false, .bl false, .bl true]) p = some (.lst [.bl false, .bl false, .bl true]) := by rw [upd_ne np, upd_same]
    have e2 : upd (upd H1 p (.lst [.bl false, .bl false, .bl true])) p2 (.lst [.bl false, .bl false, .bl true]) p2 = some (.lst [.bl false, .bl false, .bl true]) := upd_same
    refine ⟨.ref a, rfl, .ty "ValueError", .type "ValueError", true, _, rfl, (fun u h => h), hX.kV, hd2, true, rfl, ?_⟩
    refine ⟨.ref a, rfl, .ref C6, .ref C6, false, _, rfl, rr, hX.k6, hd2, false, rfl, ?_⟩
    refine ⟨.ref p, rfl, .inl ⟨rfl, _, SqL.of e1⟩, p, [false, false, true], rfl, rfl, SqL.of e1, ?_⟩
    have ec : (!decide (V.int ((([false, false, true] : List Bool).count true : Nat) : Int) = V.int 1)) = false := by decide
    refine ⟨rfl, false, congrArg V.bl ec, ?_⟩
    refine ⟨.ref p2, rfl, .ref p, rfl, p2, p, [false, false, true], rfl, rfl, SqL.of e2, SqL.of e1, false, rfl, ?_⟩
    refine ⟨.ref p, rfl, p, _, 0, .bl false, rfl, rfl, SqL.of e1, rfl, false, rfl, ?_⟩
    refine ⟨.ref p, rfl, p, _, 1, .bl false, rfl, rfl, SqL.of e1, rfl, false, rfl, ?_⟩
    refine ⟨.ref a, rfl, rfl, rfl, dd, _, .int 0, rfl, hd2, rfl, ?_⟩
    refine ⟨.ref a, rfl, rfl, rfl, dd, _, .int fld, rfl, hd2, rfl, ?_⟩
    refine ⟨by rw [sizeLine_eq]; show 3 ≤ _; decide, fun p3 hp3 => q _ _ (((Same.new hp).trans (Same.new hp2)).trans (Same.new hp3)) (.tup (.inl (.inl upd_same)) (.cons (.str _) (.cons (.int _) (.cons (.int _) .nil))))⟩
  have hgl : Gl ((cxOf C8.CX0 X.prog X.w X.K X.mg X.base ["_law_ask", "e", "_law_own", "_law_sorts"] "_law_heard" (defScope s_law_heard) g cdg X.A X.stack s H C8.E0).nox) "GroupError" := rfl
  refine ⟨_, pss_one (ps_try_as (X := (cxOf C8.CX0 X.prog X.w X.K X.mg X.base ["_law_ask", "e", "_law_own", "_law_sorts"] "_law_heard" (defScope s_law_heard) g cdg X.A X.stack s H C8.E0).nox) (c := .ref CG) (i := 1)
      (tb := fun W D σ H => ∃ Ech : XK, (∀ cls d σ' H', σ'.length = 4 → Ech cls d H' → W cls d σ' H') ∧ σ[0]? = some (some (.ref f)) ∧ H c' = some (LamX.CodeO c' q) ∧ tl Ech H (fun v H' => [V.str "told", v].length ≤ sizeLine ∧ ∀ p, H' p = none → D.rt (.ref p) (upd H' p (.tup [.str "told", v]))))
      (ts := fun a cls d D σ H => ∃ dd, cls = .ref CT ∧ d = some dd ∧ t0 a dd D σ H)
      rfl rfl nd rfl rfl ⟨hgl, by decide, .inl hX.g_GroupError⟩ LamX.takes0 (fun W pn xe tk _ => ?_) (fun a oe cls d pn hz hf => ?_)), ?_⟩
  · refine ⟨fun pins s' σ H' D I h' => ?_⟩
    obtain ⟨Ech, hW, h1, h2, h3⟩ := h'
    have tk2 : Takes ((cxOf C8.CX0 X.prog X.w X.K X.mg X.base ["_law_ask", "e", "_law_own", "_law_sorts"] "_law_heard" (defScope s_law_heard) g cdg X.A X.stack s H C8.E0).tr pn xe) (fun cls d σ' H' => σ'.length = 4 → W cls d σ' H') := fun u s2 ⟨a, B, sI, pins, σ, H, cls, d, e, I, nb, up, sky, na, os, ag, w⟩ =>
      tk u s2 ⟨a, B, sI, pins, σ, H, cls, d, e, I, nb, up, sky, na, os, ag, w I.len⟩
    have hp := fun p1 p2 => act (fun cls d σ' H' => σ'.length = 4 → W cls d σ' H') pn xe Ech p1 p2 tk2 fun cls d σ' H' e hl => hW cls d σ' H' hl e
    exact (pss_one (ps_ret (pe_tup (pa_cons pe_str (pa_cons (hp _ _) pa_nil))))).run pins s' σ H' D I ⟨h1, h2, h3⟩
  · refine ⟨fun pins s' σ H' D I ⟨dd, e1, e2, h'⟩ => ?_⟩
    subst e1 e2
    exact (hs a oe dd pn hz hf).run pins s' σ H' D I h'
  · refine ⟨_, fun cls d σ' H' hl ⟨dd, fld, e1, e2, e3, e4⟩ => ⟨true, by rw [e1]; exact hX.exm, fun _ a ha => ⟨dd, e1, e2, ?_⟩, fun z => by cases z⟩, rfl, hc, h⟩
    match σ', hl with
    | [x0, x1, x2, x3], _ => exact ht a dd fld _ H' x0 x2 x3 e3 e4
end
end K13
set_option maxHeartbeats 4000000
/-! What is compared can be shown: lengths. -/
namespace K13
open PySem L2
/-- short enough, without dicts, not deep -/
structure Fit (n k : Nat) (d : PyData) : Prop where
  len : d.shown.length ≤ n
  ok : d.showable = true
  nod : d.hasDict = false
  dep : d.depth ≤ k
theorem Fit.mono {n m k l : Nat} {d : PyData} (h : Fit n k d) (h1 : n ≤ m) (h2 : k ≤ l) : Fit m l d := ⟨Nat.le_trans h.len h1, h.ok, h.nod, Nat.le_trans h.dep h2⟩
theorem fit_int {i : Int} {k : Nat} (h0 : 0 ≤ i) (hk : 0 < k) (h : i < 10 ^ k) (hl : i.natAbs.log2 < 1920) : Fit k 0 (.int i) := ⟨by simp only [PyData.shown]; exact strI_le h0 hk h, by simp only [PyData.showable, hl, decide_true], by simp only [PyData.hasDict], by simp only [PyData.depth]; exact Nat.le_refl _⟩
theorem fit_bool {b : Bool} : Fit 5 0 (.bool b) := ⟨by cases b <;> decide, rfl, rfl, Nat.le_refl _⟩
theorem fit_all {n k : Nat} : ∀ {xs : List PyData}, (∀ x ∈ xs, Fit n k x) → ((PyData.shownAll xs).map (·.length)).sum ≤ xs.length * n ∧ PyData.showableAll xs = true ∧ PyData.hasDictAll xs = false ∧ PyData.depthAll xs ≤ k
  | [], _ => ⟨by simp [PyData.shownAll], by simp [PyData.showableAll], by simp [PyData.hasDictAll], by simp [PyData.depthAll]⟩
  | x :: r, h => by
    obtain ⟨h1, h2, h3, h4⟩ := fit_all (xs := r) fun y hy => h y (List.mem_cons_of_mem _ hy)
    have f := h x List.mem_cons_self
    refine ⟨?_, ?_, ?_, ?_⟩
    · simp only [PyData.shownAll, List.map_cons, List.sum_cons, List.length_cons, Nat.succ_mul]
      have := f.len
      omega
    · simp only [PyData.showableAll, f.ok, h2, Bool.and_self]
    · simp only [PyData.hasDictAll, f.nod, h3, Bool.or_self]
    · simp only [PyData.depthAll]
      have := f.dep
      omega
theorem fit_tup {n k m : Nat} {xs : List PyData} (h : ∀ x ∈ xs, Fit n k x) (hm : xs.length * (n + 2) + 3 ≤ m) : Fit m (k + 1) (.tuple xs) := by
  obtain ⟨h1, h2, h3, h4⟩ := fit_all h
  have l := tupleText_len_le (PyData.shownAll xs)
  rw [PyData.shownAll_length] at l
  rw [Nat.mul_add] at hm
  exact ⟨by simp only [PyData.shown]; omega, by simp only [PyData.showable, h2], by simp only [PyData.hasDict, h3], by simp only [PyData.depth]; omega⟩
theorem fit_list {n k m : Nat} {xs : List PyData} (h : ∀ x ∈ xs, Fit n k x) (hm : xs.length * (n + 2) + 3 ≤ m) : Fit m (k + 1) (.list xs) := by
  obtain ⟨h1, h2, h3, h4⟩ := fit_all h
  have l := listText_len_le (PyData.shownAll xs)
  rw [PyData.shownAll_length] at l
  rw [Nat.mul_add] at hm
  exact ⟨by simp only [PyData.shown]; omega, by simp only [PyData.showable, h2], by simp only [PyData.hasDict, h3], by simp only [PyData.depth]; omega⟩
theorem fit_str {s : Str} {n : Nat} (h : ∀ c ∈ s.cps.toList, c < 16 ^ 8) (hn : 10 * s.length + 2 ≤ n) : Fit n 0 (.str s) := ⟨by simp only [PyData.shown]; exact Nat.le_trans (StrLaws.reprText_len s h) hn, by simp only [PyData.showable], by simp only [PyData.hasDict], by simp only [PyData.depth]; exact Nat.le_refl _⟩
theorem fit_nat {n k : Nat} (hk : 0 < k) (h : n < 10 ^ k) (h60 : k ≤ 60) : Fit k 0 (.int n) := fit_int (by omega) hk (by exact_mod_cast h) (small_n (Nat.lt_of_lt_of_le h (Nat.pow_le_pow_right (by decide) h60)))
/-- a row of such data, the sum of the lengths -/
structure FitA (n k : Nat) (xs : List PyData) : Prop where
  len : ((PyData.shownAll xs).map (·.length)).sum ≤ n
  ok : PyData.showableAll xs = true
  nod : PyData.hasDictAll xs = false
  dep : PyData.depthAll xs ≤ k
theorem fa_nil {k : Nat} : FitA 0 k [] := ⟨by simp [PyData.shownAll], by simp [PyData.showableAll], by simp [PyData.hasDictAll], by simp [PyData.depthAll]⟩
theorem fa_cons {a b k : Nat} {x : PyData} {r : List PyData} (h : Fit a k x) (t : FitA b k r) : FitA (a + b) k (x :: r) := ⟨by
    simp only [PyData.shownAll, List.map_cons, List.sum_cons]
    have := h.len
    have := t.len
    omega, by simp only [PyData.showableAll, h.ok, t.ok, Bool.and_self], by simp only [PyData.hasDictAll, h.nod, t.nod, Bool.or_self], by
    simp only [PyData.depthAll]
    have := h.dep
    have := t.dep
    omega⟩
theorem fit_tupA {n k m : Nat} {xs : List PyData} (t : FitA n k xs) (hm : n + 2 * xs.length + 3 ≤ m) : Fit m (k + 1) (.tuple xs) := by
  have l := tupleText_len_le (PyData.shownAll xs)
  rw [PyData.shownAll_length] at l
  have h1 := t.len
  have h4 := t.dep
  exact ⟨by simp only [PyData.shown]; omega, by simp only [PyData.showable, t.ok], by simp only [PyData.hasDict, t.nod], by simp only [PyData.depth]; omega⟩
theorem fit_pc {x : Pc} (h : PcOk x) : Fit 400 3 x.enc := by
  have pn : ∀ {p : Nat}, prm p = true → Fit 4 2 (.int p) := fun {p} hp => (fit_nat (k := 4) (by decide) (by have := prm_lt hp; omega) (by decide)).mono (by decide) (by decide)
  have nn : ∀ {n : Nat}, n < 10 ^ 60 → Fit 60 2 (.int n) := fun {n} hn => (fit_nat (by decide) hn (by decide)).mono (by decide) (by decide)
  have kd : ∀ {s : Str}, (∀ c ∈ s.cps.toList, c < 16 ^ 8) → s.length ≤ 5 → Fit 52 2 (.str s) := fun h1 h2 => (fit_str (n := 52) h1 (by omega)).mono (by decide) (by decide)
  cases x with
  | ring m => exact fit_tupA (fa_cons (kd (by decide) (by decide)) (fa_cons (nn h.2) fa_nil)) (by simp [Pc.fs])
  | power p k => exact fit_tupA (fa_cons (kd (by decide) (by decide)) (fa_cons (pn h.1) (fa_cons (nn (Nat.lt_of_le_of_lt h.2.2 (by decide))) fa_nil))) (by simp [Pc.fs])
  | knot p => exact fit_tupA (fa_cons (kd (by decide) (by decide)) (fa_cons (pn h) fa_nil)) (by simp [Pc.fs])
  | act m d u => exact fit_tupA (fa_cons (kd (by decide) (by decide)) (fa_cons (nn h.2.1) (fa_cons (nn h.2.2.2.1) (fa_cons (nn (Nat.lt_trans h.2.2.2.2.1 h.2.1)) fa_nil)))) (by simp [Pc.fs])
  | turn p t q =>
    have ht := h.2.1
    have hp := prm_lt h.1
    refine fit_tupA (fa_cons (kd (by decide) (by decide)) (fa_cons (pn h.1) (fa_cons (a := 249) ?_ (fa_cons (pn h.2.2.1) fa_nil)))) (by simp [Pc.fs])
    refine fit_tup (n := 39) (k := 1) (fun y hy => ?_) ?_
    · obtain ⟨r, hr, rfl⟩ := List.mem_map.mp hy
      refine fit_tup (n := 4) (k := 0) (fun z hz => ?_) ?_
      · obtain ⟨i, hi, rfl⟩ := List.mem_map.mp hz
        obtain ⟨a, b⟩ := tab_num ht (by omega) hr hi
        exact fit_int a (by decide) (by omega) (small_log a (by omega))
      · rw [List.length_map]
        have := ht.1.row r hr
        have := ht.2.2
        omega
    · rw [List.length_map]
      have := ht.2.2
      omega
theorem fit_str0 {s : Str} {n : Nat} (h : ∀ c ∈ s.cps.toList, c < 16 ^ 8) (hn : 10 * s.length + 2 ≤ n) {k : Nat} : Fit n k (.str s) := (fit_str h hn).mono (Nat.le_refl _) (Nat.zero_le _)
/-! ### where a fault may stand -/
def EL {α : Type} (b : Nat) (m : Rd α) : Prop := ∀ e, m = .error e → e ≤ b
theorem el_ok {α : Type} {b : Nat} {x : α} : EL b (.ok x : Rd α) := fun e h => by cases h
theorem el_er {α : Type} {b i : Nat} (h : i ≤ b) : EL b (.error i : Rd α) := fun e z => by cases z; exact h
theorem el_bind {α β : Type} {b : Nat} {m : Rd α} {f : α → Rd β} (h : EL b m) (k : ∀ x, EL b (f x)) : EL b (m >>= f) := fun e z => by
  cases hm : m with
  | error e' => rw [hm, er_bind] at z; cases z; exact h _ hm
  | ok x => rw [hm, ok_bind] at z; exact k x e z
theorem el_if {α : Type} {b : Nat} {c : Prop} [Decidable c] {m n : Rd α} (h1 : EL b m) (h2 : EL b n) : EL b (if c then m else n) := by
  split <;> assumption
theorem el_w {ws : List Str} {i b : Nat} (h : i ≤ b) : EL b (wAt ws i) := by
  unfold wAt
  split
  · exact el_ok
  · exact el_er h
theorem el_n {ws : List Str} {i b : Nat} (h : i ≤ b) : EL b (nAt ws i) := el_bind (el_w h) fun w => by
  split
  · exact el_ok
  · exact el_er h
theorem el_nIn {ws : List Str} {i b lo : Nat} {hi : Option Nat} (h : i ≤ b) : EL b (nIn ws i lo hi) := el_bind (el_n h) fun n => el_if el_ok (el_er h)
theorem el_p {ws : List Str} {i b : Nat} (h : i ≤ b) : EL b (pAt ws i) := el_bind (el_n h) fun n => el_if el_ok (el_er h)
theorem el_t {ws : List Str} {i p b : Nat} (h : i ≤ b) : EL b (tAt ws i p) := el_bind (el_w h) fun n => el_if el_ok (el_er h)
theorem el_piece {ws : List Str} {i : Nat} : EL (i + 3) (pieceAt ws i) := el_bind (el_w (by omega)) fun k =>
  el_if (el_bind (el_p (by omega)) fun p => el_bind (el_t (by omega)) fun t => el_bind (el_p (by omega)) fun q => el_if el_ok (el_er (by omega)))
    (el_if (el_bind (el_nIn (by omega)) fun m => el_bind (el_nIn (by omega)) fun d => el_if (el_bind (el_nIn (by omega)) fun u => el_if el_ok (el_er (by omega))) (el_er (by omega)))
      (el_if (el_bind (el_nIn (by omega)) fun _ => el_ok) (el_if (el_bind (el_p (by omega)) fun _ => el_ok) (el_if (el_bind (el_p (by omega)) fun _ => el_bind (el_nIn (by omega)) fun _ => el_ok) (el_er (by omega))))))
theorem el_more (ws : List Str) : ∀ (k i : Nat) (acc : List Pc), ws.length - i ≤ k → EL (ws.length + 3) (moreAt ws i acc)
  | k, i, acc, hk => by
    unfold moreAt
    split
    · rename_i h
      refine el_if (el_bind (fun e z => Nat.le_trans (el_piece e z) (by omega)) fun x => ?_) (el_er (by omega))
      have := x.size_pos
      cases k with
      | zero => omega
      | succ k => exact el_more ws k _ _ (by omega)
    · exact el_ok
theorem el_rule {s : Str} : EL (s.length + 4) (ruleRd s) := fun e h => by
  have l0 := split_many (x := s) (y := " ") (by decide)
  have := (el_bind (b := (Txt.split s " ").length + 3) (fun e z => Nat.le_trans (el_piece e z) (by omega)) fun x => el_more _ _ _ _ (Nat.le_refl _)) e h
  omega
theorem fit_law {s : Str} (hs : s.length ≤ 29000) : Fit 4000000 5 (lawD (ruleRd s)) := by
  cases hr : ruleRd s with
  | error e =>
    have he := el_rule e hr
    exact (fit_tupA (fa_cons (fit_str0 (n := 42) (by decide) (by decide)) (fa_cons (a := 5) (k := 4) ((fit_nat (n := 0) (k := 1) (by decide) (by decide) (by decide)).mono (by decide) (by decide)) (fa_cons (a := 5) ((fit_nat (k := 5) (by decide) (by omega) (by decide)).mono (by decide) (by decide)) fa_nil))) (by show 42 + (5 + (5 + 0)) + 2 * 3 + 3 ≤ 4000000; decide))
  | ok r =>
    obtain ⟨hok, _, hl⟩ := rule_back hs hr
    have f : Fit 3900000 4 (ruleD r) := fit_tup (n := 400) (k := 3) (fun y hy => by
      obtain ⟨x, hx, rfl⟩ := List.mem_map.mp hy
      exact fit_pc (hok.ok x hx)) (by rw [List.length_map]; omega)
    exact fit_tupA (fa_cons (fit_str0 (n := 42) (by decide) (by decide)) (fa_cons f fa_nil)) (by show 42 + (3900000 + 0) + 2 * 2 + 3 ≤ 4000000; decide)
theorem shw_law {s : Str} (h : s.length ≤ 29000) : Shw (.list [lawD (ruleRd s), lawD (ruleRd s)]) := by
  have f := fit_list (xs := [lawD (ruleRd s), lawD (ruleRd s)]) (m := 9000000) (fun y hy => by
    rcases List.mem_cons.mp hy with e | hy
    · rw [e]; exact fit_law h
    · rw [List.mem_singleton.mp hy]; exact fit_law h) (by show 2 * _ + 3 ≤ _; decide)
  exact ⟨⟨_, rfl⟩, f.ok, f.nod, by rw [sizeLine_eq]; exact Nat.le_trans f.len (by decide), Nat.le_trans f.dep (by decide)⟩
/-! ### the signs of a rule's text -/
def Asc (s : Str) : Prop := ∀ c ∈ s.cps.toList, c < 128
theorem asc_int (i : Int) : Asc (strI i) := fun c hc => by
  by_cases h : c < 128
  · exact h
  · exact absurd hc (PyProof.Rows.int_text_free' c ⟨by omega, by omega⟩ i)
theorem asc_join {a : Str} {ys : List Str} (ha : Asc a) (h : ∀ y ∈ ys, Asc y) : Asc (Txt.join a ys) := fun c hc => by
  rw [TL.join_eq] at hc
  rcases (PyProof.Rows.mem_join a c ys).mp hc with ⟨t, ht, hct⟩ | ⟨_, hca⟩
  · exact h t ht c hct
  · exact ha c hca
theorem asc_tab (t : Mat) : Asc (tabW t) := asc_join (by unfold Asc; decide) fun y hy => by
  obtain ⟨r, _, rfl⟩ := List.mem_map.mp hy
  exact asc_join (by unfold Asc; decide) fun z hz => by
    obtain ⟨i, _, rfl⟩ := List.mem_map.mp hz
    exact asc_int i
theorem asc_pc (x : Pc) : Asc x.txt := asc_join (by unfold Asc; decide) fun y hy => by
  cases x <;> simp only [Pc.ws, List.mem_cons, List.not_mem_nil, or_false] at hy <;> rcases hy with rfl | rfl | rfl | rfl <;> first | exact asc_int _ | exact asc_tab _ | (unfold Asc; decide)
theorem asc_rule (r : List Pc) : Asc (ruleW r) := asc_join (by unfold Asc; decide) fun y hy => by
  obtain ⟨x, _, rfl⟩ := List.mem_map.mp hy
  exact asc_pc x
theorem shw_txt {s : Str} {r : List Pc} (h : s.length ≤ 29000) (hr : ruleRd s = .ok r) : Shw (.list [.bool true, .str s, .str s]) := by
  obtain ⟨_, hw, _⟩ := rule_back h hr
  have ha : ∀ c ∈ s.cps.toList, c < 16 ^ 8 := fun c hc => by
    rw [← hw] at hc
    exact Nat.lt_trans (asc_rule r c hc) (by decide)
  have f := fit_list (xs := [.bool true, .str s, .str s]) (n := 300000) (k := 0) (m := 9000000) (fun y hy => by
    rcases List.mem_cons.mp hy with e | hy
    · rw [e]; exact fit_bool.mono (by decide) (Nat.le_refl _)
    · have e : y = .str s := by rcases List.mem_cons.mp hy with e | hy; exact e; exact List.mem_singleton.mp hy
      rw [e]; exact fit_str ha (by omega)) (by show 3 * _ + 3 ≤ _; decide)
  exact ⟨⟨_, rfl⟩, f.ok, f.nod, by rw [sizeLine_eq]; exact Nat.le_trans f.len (by decide), Nat.le_trans f.dep (by decide)⟩
end K13
set_option maxHeartbeats 4000000
/-! _law_is_right: the program's reading against the law's. -/
namespace K13
open PySem L2
/-! ### data over a heap in which tables may grow -/
mutual
theorem dp_ext {K : PySem.W.Frag} {H H' : Hp} (e : LamX.ExtN H H') : ∀ {v : V} {d : PyData}, Dp K H v d → Dp K H' v d
  | _, _, .non => .non
  | _, _, .bl b => .bl b
  | _, _, .int i => .int i
  | _, _, .str x => .str x
  | _, _, .lst s a => .lst (s.elim (fun h => .inl (h.elim (fun h => .inl (e _ _ h fun _ z => nomatch z)) fun ⟨o, h⟩ => .inr ⟨o, e _ _ h fun _ z => nomatch z⟩)) .inr) (dpAll_ext e a)
  | _, _, .tup s a => .tup (s.elim (fun h => .inl (h.elim (fun h => .inl (e _ _ h fun _ z => nomatch z)) fun ⟨o, h⟩ => .inr ⟨o, e _ _ h fun _ z => nomatch z⟩)) .inr) (dpAll_ext e a)
theorem dpAll_ext {K : PySem.W.Frag} {H H' : Hp} (e : LamX.ExtN H H') : ∀ {vs : List V} {ds : List PyData}, DpAll K H vs ds → DpAll K H' vs ds
  | _, _, .nil => .nil
  | _, _, .cons h t => .cons (dp_ext e h) (dpAll_ext e t)
end
abbrev noA : Addr → Bool := fun _ => false
theorem hid_no {H : Hp} : hid noA H = H := by funext b; rfl
theorem alc_no {H : Hp} : Alc noA H := fun b z => by cases z
/-! ### one argument by name -/
def Kw1 (P : Program) (w : World) (K : PySem.W.Frag) (mg : Str → Option Value) (base : Heap) (k : Nat) (x p : Str) (sp : Sp) : Prop :=
  ∃ (f : Addr) (fd : FuncData), FnOk P w K mg base (L2.CX P w) k f fd [p] sp ∧ mg x = some (.ref f) ∧ PySem.W.keepIn K (.ref f) = true ∧ ∀ (s : Shared) (u : Value), BindsTo s fd ⟨[], [(p, u)]⟩ [(p, u)]
theorem pe_kw1 {X : Cx} {x q : Str} {k j : Nat} {sp : Sp} {E : XK} {e : Expr} {te : TE} {p pos kpos : Pos} (h : Kw1 X.prog X.w X.K X.mg X.base k x q sp) (hr : Room j X.A) (hx : Passes (L2.CX X.prog X.w) X E) (ha : PE X e te) (hk : k ≤ j := by decide) (hg : Gl X x := by rfl)
    (hall : (backToKw pos (keywordEach [⟨some q, e, kpos⟩] X.env)).all (·.1.isSome) = true := by rfl) (hks : (backToKw pos (keywordEach [⟨some q, e, kpos⟩] X.env)).filterMap (·.1) = [q] := by rfl)
    (hdb : (x == ("__debug__" : Str)) = false := by decide) (hpl : ((backTo pos (starEach [] X.env)).any (·.1) || (backToKw pos (keywordEach [⟨some q, e, kpos⟩] X.env)).any (·.1.isNone)) = false := by rfl) :
    PE X (.Call (.Name x p) [] [⟨some q, e, kpos⟩] pos) (tCall sp [] E (tCons te tNil)) := by
  obtain ⟨f, fd, F, hm, hkp, hb⟩ := h
  refine ⟨fun pins s σ H Q I q1 => ?_⟩
  refine wpAny_Call_Name_kw (ld_glob I hg hm ?_ hdb)
  refine PySem.W.callWith_KW0 (h₀ := X.base) I.ok.mod.kin hkp hall (thn ((pk_cons ha pk_nil).run pos pins s σ H _ I q1) fun ws s2 ⟨zs, H2, I2, rz, q2⟩ => ⟨I2.kIn, ?_⟩) hpl
  rw [hks]
  have q2 : sp (zs ++ []) H2 Q E := q2
  have hl : (zs ++ []).length = 1 := F.len _ _ _ _ q2
  rw [List.append_nil] at hl q2
  obtain ⟨z, rfl⟩ := List.length_eq_one_iff.mp hl
  obtain ⟨u, rfl, ru⟩ := rz.one
  refine wpAny_call (codeAny_mono (F.run X.A X.stack s2 H2 ⟨[], [(q, u)]⟩ [u] [z] Q E (hr.mono hk) I2.env0 (hb s2 u) rz q2) fun r s' hq => ?_)
  match r, hq with
  | .error e, hq => exact hx pins σ H2 s2 e s' I2 hq
  | .ok (.ret u), hq => exact I2.after hq
  | .ok .next, hq => exact hq.elim
  | .ok .brk, hq => exact hq.elim
  | .ok .cont, hq => exact hq.elim
/-! ### a def whose code object is known -/
theorem fnG_ofC {P : Program} {w : World} {K : PySem.W.Frag} {mg : Str → Option Value} {base : Heap} {EX : CXT} {x qual : Str} {prm : Arguments} {bd : List Stmt} {sc : Scope} {dvs : List V} {kws : List (Str × V)} {fa : Addr} {fd : FuncData} {N par : List Str} {lv : Nat} {sp : Sp} (F : FunD K x qual prm bd sc dvs kws fa fd) (S : FnScope N par sc)
    (hl : ∀ zs H Q E, sp zs H Q E → zs.length = par.length)
    (hb : ∀ (B : Around) (fr : List Env) (st : Shared) (H : Hp) (zs : List V) (Q : VK) (E : XK), B.guards = some [] → Room lv (B.deeper (PyProof.Rows.envOfC qual sc st.heap.objs.size fa fd.code)) → sp zs H Q E →
      ∃ t, PSs (cxOf EX P w K mg base N qual sc fa fd.code B fr st H E) bd t ∧ t { nx := fun _ H' => Q .non H', rt := Q } (L2.start N zs) H) : FnG P w K mg base EX (lv + 1) fa fd par sp := by
  obtain ⟨oc, od, dV, kV, doc, pm, an, cdv, ct, osl, rfl, lk, hcd, _, _⟩ := F.ex
  refine ⟨hl, fun B fr st H as bs zs Q E hg hr e0 bt rv q => ?_⟩
  exact LamX.run_ofS (CX := EX) lk hcd S hr e0 bt rv (hl _ _ _ _ q) fun hr' => hb B fr st H zs Q E hg hr' q
section
variable {P : Program} {w : World} {K : PySem.W.Frag} {mg : Str → Option Value} {base : Heap} {f : Addr} {fd : FuncData} {CT CG C1 C2 C3 C4 C5 C6 : Addr}
theorem sc_law_is_right : FnScope ["_law_line", "_law_due"] ["_law_line"] (defScope s_law_is_right) := ⟨rfl, rfl, rfl, by decide +kernel, rfl, by decide +kernel, by decide +kernel⟩
abbrev qR : Str := "_law_is_right" ++ ".<locals>." ++ "<lambda>"
/-- a line of up to 29000 signs, the tables T: the answer is True -/
def spRight (T : List (Addr × Str)) : Sp := fun vs H Q _ => ∃ s : Str, vs = [.str s] ∧ s.length ≤ 29000 ∧ LamX.Tabs T H ∧ ∀ H', LamX.ExtN H H' → LamX.Tabs T H' → Q (.bl true) H'
/-- the lambda's reading, told -/
theorem heard_does {s : Str} {tl : XK → Hp → VK → Prop} {H : Hp} {Q : VK} (htl : ∀ (E : XK) (Q' : VK), (∀ v d H', Same H H' → Dp K H' v d → (∃ r, ruleRd s = .ok r ∧ d = ruleD r) → Q' v H') →
      (∀ (e : Nat) (dd : Addr) (H' : Hp), Same H H' → H' dd = some (xdF e) → ruleRd s = .error e → E (.ref CT) (some dd) H') → tl E H Q')
    (q : ∀ v H', Same H H' → Dp K H' v (lawD (ruleRd s)) → Q v H') : TTh K CT tl H Q := by
  refine htl _ _ (fun v d H' s1 d1 ⟨r, e1, e2⟩ => ⟨by rw [sizeLine_eq]; show 2 ≤ _; decide, fun p hp => ?_⟩) fun e dd H' s1 e1 e2 => ⟨dd, e, rfl, rfl, e1, fun v H2 s2 d2 => ?_⟩
  · refine q _ _ (s1.trans (Same.new hp)) ?_
    rw [e1]
    subst e2
    exact .tup (.inl (.inl upd_same)) (.cons (.str _) (.cons (dp_mono (Same.new hp) d1) .nil))
  · refine q _ _ (s1.trans s2) ?_
    rw [e2]
    exact d2
def noArgs : Arguments := { posonlyargs := [], args := [], vararg := none, kwonlyargs := [], kw_defaults := [], kwarg := none, defaults := [] }
def lamSc : Scope := { kind := .function, names := [("_law_line", .free), ("rule_read", .globalImplicit)], isGenerator := false, isCoroutine := false, more := [] }
abbrev rX (P : Program) (w : World) (K : PySem.W.Frag) (mg : Str → Option Value) (base : Heap) (f : Addr) (cd : Value) (B : Around) (fr : List Env) (st : Shared) (H : Hp) (E : XK) : Cx := cxOf (L2.CX P w) P w K mg base ["_law_line", "_law_due"] "_law_is_right" (defScope s_law_is_right) f cd B fr st H E
/-- _law_heard(lambda: body), in _law_is_right -/
theorem pe_heard {T : List (Addr × Str)} {c Pt g : Addr} {fdg : FuncData} {cd : Value} {B : Around} {fr : List Env} {st : Shared} {H : Hp} {E : XK} (Tt : Tx K mg) (hc : cd = .ref c) (TB : LamX.TabB base mg c Pt) (hT : T = [(Pt, qR)]) (hX : HdX K mg CT CG C1 C2 C3 C4 C5 C6)
    (Fh : FnP K "_law_heard" s_law_heard g fdg) (mh : mg "_law_heard" = some (.ref g)) (kh : PySem.W.keepIn K (.ref g) = true) (bh : Binds K fdg ["_law_ask"] []) (hr : Room 22 (rX P w K mg base f cd B fr st H E).A)
    {bd : Expr} {lp p pos : Pos} {t : XK → TE} (hb : ∀ (A : Around) (outer : List Env) (s' : Shared) (H' : Hp) (E' : XK) (f' c' : Addr), Room 20 (A.deeper (LamX.lamEnv (rX P w K mg base f cd B fr st H E) lamSc s'.heap.objs.size f' c')) →
      PE (LamX.lamCx (rX P w K mg base f cd B fr st H E) A outer s' H' E' lamSc f' c') bd (t E')) :
    PE (rX P w K mg base f cd B fr st H E) (.Call (.Name "_law_heard" p) [.Lambda noArgs bd lamSc lp] [] pos) (LamX.tLam T (TTh K CT) t) := by
  obtain ⟨ocg, odg, dVg, kVg, docg, pmg, ang, cdvg, ctg, oslg, rfl, lkg, hcdg, _, _⟩ := Fh.ex
  have hu : (rX P w K mg base f cd B fr st H E).A.units + 100 < cLine := by have := hr.un; omega
  have hS : LamX.LamS (defScope s_law_is_right) lamSc := LamX.lamS_by (by decide +kernel)
  exact LamX.pe_lamcall (X := rX P w K mg base f cd B fr st H E) (k := 20) (Ng := ["_law_ask", "e", "_law_own", "_law_sorts"]) rfl mh kh lkg hcdg bh sc_law_heard rfl (.inl rfl) (gives_heard Tt hX hu) TB hc (by rw [hT]; exact List.mem_singleton.mpr rfl) (fun q hq _ => by rw [hT] at hq; rw [List.mem_singleton.mp hq]; rfl) hr hS rfl (fun _ _ _ _ _ => rfl) hb
theorem read_does {s : Str} (hs : s.length ≤ 29000) {H2 : Hp} {σ : L2.St} (h0 : σ[0]? = some (some (.str s))) : ∀ (E : XK) (Q' : VK), (∀ v d H', Same H2 H' → Dp K H' v d → (∃ r, ruleRd s = .ok r ∧ d = ruleD r) → Q' v H') →
      (∀ (e : Nat) (dd : Addr) (H' : Hp), Same H2 H' → H' dd = some (xdF e) → ruleRd s = .error e → E (.ref CT) (some dd) H') → tCall (sp_rule_read K CT) [] E (tCons (tVar 0) tNil) σ H2 Q' := fun E Q' h1 h2 =>
  ⟨.str s, h0, noA, s, alc_no, .cons (.str s) .nil, by omega, fun v d H' s' d' e' => h1 v d H' s' (hid_no (H := H') ▸ d') e', fun f dd H' s' n' e' ⟨e, ef, he⟩ => by subst ef; exact h2 e dd H' s' e' he⟩
theorem ok_law_is_right {T : List (Addr × Str)} {c Pt g : Addr} {fdg : FuncData} (Tt : Tx K mg) (F : FnP K "_law_is_right" s_law_is_right f fd) (hc : fd.code = .ref c) (TB : LamX.TabB base mg c Pt) (hT : T = [(Pt, qR)]) (hX : HdX K mg CT CG C1 C2 C3 C4 C5 C6)
    (Fh : FnP K "_law_heard" s_law_heard g fdg) (mh : mg "_law_heard" = some (.ref g)) (kh : PySem.W.keepIn K (.ref g) = true) (bh : Binds K fdg ["_law_ask"] [])
    (k_law_read : Kn P w K mg base 5 "_law_read" ["_law_line"] (sp_law_read K CT) []) (k_rule_read : Kn P w K mg base 9 "rule_read" ["text"] (sp_rule_read K CT) []) (k_is_rule : Kn P w K mg base 8 "is_rule" ["thing"] (sp_is_rule K CT) []) (k_rule_text : Kn P w K mg base 9 "rule_text" ["rule"] (sp_rule_text K CT) []) (k_law_same : KnG P w K mg base 1 "_law_same" ["_law_told", "_law_due"] (sp_law_same K CT) [])
    (kw_read : Kw1 P w K mg base 9 "rule_read" "text" (sp_rule_read K CT)) (kw_text : Kw1 P w K mg base 9 "rule_text" "rule" (sp_rule_text K CT)) :
    FnG P w K mg base (L2.CX P w) 30 f fd ["_law_line"] (spRight T) := by
  refine fnG_ofC F sc_law_is_right (fun vs H Q E h => by obtain ⟨s, rfl, _⟩ := h; rfl) fun B fr st H vs Q E hg hr h => ?_
  obtain ⟨s, rfl, hs, tb, hq⟩ := h
  have nd := sc_law_is_right.nd
  have hgd : (rX P w K mg base f fd.code B fr st H E).A.guards = some [] := hg
  have hr22 : Room 22 (rX P w K mg base f fd.code B fr st H E).A := hr.mono (by decide)
  refine ⟨_, (pss_cons (ps_set (i := 1) nd rfl (Or.inl rfl) (pe_kn k_law_read hr (pa_cons (pv 0) pa_nil))) (pss_cons (ps_if (pt_not (pt_val (pe_kG k_law_same hgd hr (pa_cons (pe_lst (pa_cons (pe_heard (t := fun E => tCall (sp_rule_read K CT) [] E (tCons (tVar 0) tNil)) Tt hc TB hT hX Fh mh kh bh hr22 (fun A outer s' H' E' f' c' hr' => pe_knX k_rule_read hr' (passes_call (takes_of rfl rfl rfl rfl) fun _ _ _ _ h => h) (pa_cons (pv 0) pa_nil))) (pa_cons (pe_heard (t := fun E => tCall (sp_rule_read K CT) [] E (tCons (tVar 0) tNil)) Tt hc TB hT hX Fh mh kh bh hr22 (fun A outer s' H' E' f' c' hr' => pe_kw1 kw_read hr' (passes_call (takes_of rfl rfl rfl rfl) fun _ _ _ _ h => h) (pv 0))) pa_nil))) (pa_cons (pe_lst (pa_cons (pv 1) (pa_cons (pv 1) pa_nil))) pa_nil))))) (pss_one (ps_ret pe_bl)) pss_nil) (pss_cons (ps_if (pt_cmpR op_ne (pe_ix (ix_tupK (K := K)) (pv 1) pe_int (fun _ _ => rfl)) pe_str (nomark _)) (pss_one (ps_ret pe_bl)) pss_nil) (pss_one (ps_ret (pe_kG k_law_same hgd hr (pa_cons (pe_lst (pa_cons (pe_kn k_is_rule hr (pa_cons (pe_ix (ix_tupK (K := K)) (pv 1) pe_int (fun _ _ => rfl)) pa_nil)) (pa_cons (pe_kn k_rule_text hr (pa_cons (pe_ix (ix_tupK (K := K)) (pv 1) pe_int (fun _ _ => rfl)) pa_nil)) (pa_cons (pe_kw1 kw_text hr passL (pe_ix (ix_tupK (K := K)) (pv 1) pe_int (fun _ _ => rfl))) pa_nil)))) (pa_cons (pe_lst (pa_cons pe_bl (pa_cons (pv 0) (pa_cons (pv 0) pa_nil)))) pa_nil)))))))), ?_⟩
  refine ⟨.str s, rfl, noA, s, alc_no, .cons (.str s) .nil, by omega, fun v d H1 s1 d1 e1 => ?_, fun f dd H' _ _ _ z => z.elim⟩
  subst e1
  rw [hid_no] at d1
  have T1 : LamX.Tabs T H1 := tb.ext s1
  refine ⟨T1, fun H2 x2 T2 => heard_does (s := s) (read_does hs rfl) fun v1 H3 s3 d3 => ?_⟩
  have T3 : LamX.Tabs T H3 := T2.ext s3
  refine ⟨T3, fun H4 x4 T4 => heard_does (s := s) (read_does hs rfl) fun v2 H5 s5 d5 => ?_⟩
  have T5 : LamX.Tabs T H5 := T4.ext s5
  have x35 : LamX.ExtN H3 H5 := x4.trans (.of s5)
  have x15 : LamX.ExtN H1 H5 := (x2.trans (.of s3)).trans x35
  refine ⟨by rw [sizeLine_eq]; show 2 ≤ _; decide, fun p hp => ?_⟩
  refine ⟨v, rfl, v, rfl, ?_⟩
  refine ⟨by rw [sizeLine_eq]; show 2 ≤ _; decide, fun p2 hp2 => ?_⟩
  have sm := (Same.new (o := .lst [v1, v2]) hp).trans (Same.new (o := .lst [v, v]) hp2)
  have np : p ≠ p2 := fun z => by rw [← z, upd_same] at hp2; cases hp2
  have dv := dp_mono sm (dp_ext x15 d1)
  have dv1 := dp_mono sm (dp_ext x35 d3)
  have dv2 := dp_mono sm d5
  refine ⟨noA, (.list [lawD (ruleRd s), lawD (ruleRd s)], .list [lawD (ruleRd s), lawD (ruleRd s)]), alc_no, by rw [hid_no]; exact .cons (.lst (SqL.of (by rw [upd_ne np, upd_same])) (.cons dv1 (.cons dv2 .nil))) (.cons (.lst (SqL.of upd_same) (.cons dv (.cons dv .nil))) .nil), ⟨shw_law hs, rfl⟩, fun v3 d8 H8 s8 e8 p8 => ?_, fun f dd H' _ _ _ z => z.elim⟩
  subst p8
  have s58 : Same H5 H8 := sm.trans s8
  have T8 : LamX.Tabs T H8 := T5.ext s58
  have dv8 := dp_mono s8 dv
  have x8 : LamX.ExtN H H8 := ((LamX.ExtN.of s1).trans x15).trans (.of s58)
  refine ⟨true, dp_bl e8, ?_⟩
  cases hr0 : ruleRd s with
  | error e =>
    rw [hr0] at dv8
    obtain ⟨a, vs, rfl, sq, da⟩ := dp_tup dv8
    cases da with
    | cons h1 h2 =>
      refine ⟨.ref a, rfl, a, _, 0, .str "text", rfl, rfl, sq, atI_nat (j := 0) (by rw [dp_str h1]; rfl), rfl, true, congrArg V.bl (by decide), hq H8 x8 T8⟩
  | ok r =>
    rw [hr0] at dv8
    obtain ⟨hok, hw, _⟩ := rule_back hs hr0
    obtain ⟨a, vs, rfl, sq, da⟩ := dp_tup dv8
    cases da with
    | cons h1 h2 =>
      cases h2 with
      | cons h3 h4 =>
        cases h4
        rename_i w1 w2
        have e1 := dp_str h1
        subst e1
        refine ⟨.ref a, rfl, a, _, 0, .str "told", rfl, rfl, sq, rfl, rfl, false, congrArg V.bl (by decide), ?_⟩
        refine ⟨.ref a, rfl, a, _, 1, w2, rfl, rfl, sq, rfl, noA, r, alc_no, .cons (hid_no (H := H8) ▸ h3) .nil, hok, fun u1 b1 H9 s9 f9 g9 => ?_, fun f dd H' _ _ _ z => z.elim⟩
        subst g9
        have e9 := dp_bl f9
        subst e9
        have q9 := Same.seqT s9 sq
        have h39 := dp_mono s9 h3
        refine ⟨.ref a, rfl, a, _, 1, w2, rfl, rfl, q9, rfl, noA, r, alc_no, .cons (hid_no (H := H9) ▸ h39) .nil, hok, fun u2 b2 H10 s10 f10 g10 => ?_, fun f dd H' _ _ _ z => z.elim⟩
        subst g10
        have e10 := dp_str f10
        subst e10
        have q10 := Same.seqT s10 q9
        have h310 := dp_mono s10 h39
        refine ⟨.ref a, rfl, a, _, 1, w2, rfl, rfl, q10, rfl, noA, r, alc_no, .cons (hid_no (H := H10) ▸ h310) .nil, hok, fun u3 b3 H11 s11 f11 g11 => ?_, fun f dd H' _ _ _ z => z.elim⟩
        subst g11
        have e11 := dp_str f11
        subst e11
        rw [hw]
        refine ⟨by rw [sizeLine_eq]; show 3 ≤ _; decide, fun p3 hp3 => ?_⟩
        refine ⟨.str s, rfl, .str s, rfl, ?_⟩
        refine ⟨by rw [sizeLine_eq]; show 3 ≤ _; decide, fun p4 hp4 => ?_⟩
        have np4 : p3 ≠ p4 := fun z => by rw [← z, upd_same] at hp4; cases hp4
        have smb := (Same.new (o := .lst [.bl true, .str s, .str s]) hp3).trans (Same.new (o := .lst [.bl true, .str s, .str s]) hp4)
        refine ⟨noA, (.list [.bool true, .str s, .str s], .list [.bool true, .str s, .str s]), alc_no, by rw [hid_no]; exact .cons (.lst (SqL.of (by rw [upd_ne np4, upd_same])) (.cons (.bl _) (.cons (.str _) (.cons (.str _) .nil)))) (.cons (.lst (SqL.of upd_same) (.cons (.bl _) (.cons (.str _) (.cons (.str _) .nil)))) .nil), ⟨shw_txt hs hr0, rfl⟩, fun v9 d9 H14 s14 f14 g14 => ?_, fun f dd H' _ _ _ z => z.elim⟩
        subst g14
        have e14 := dp_bl f14
        subst e14
        have s814 : Same H8 H14 := (((s9.trans s10).trans s11).trans smb).trans s14
        exact hq H14 (x8.trans (.of s814)) (T8.ext s814)
end
end K13
set_option maxHeartbeats 4000000
/-! law: six lines, four times spoilt. -/
namespace K13
open PySem L2
abbrev oneA (a : Addr) : Addr → Bool := fun b => decide (b = a)
def noOwn (ρ : List Sl) : Prop := ∀ (i : Nat) (xs : List PyData), ρ[i]? ≠ some (.own xs)
/-- between two statements of law: only the feed is hidden, the tables stand -/
structure Lq (K : PySem.W.Frag) (T : List (Addr × Str)) (a : Addr) (H : Hp) (σ : L2.St) (ρ : List Sl) : Prop where
  en : En ⟨K, some a, oneA a, H⟩ (oneA a) H σ ρ
  tb : LamX.Tabs T H
theorem tabs_but {T : List (Addr × Str)} {H H' : Hp} {a : Addr} {kvs : List (Key × V)} (h : LamX.Tabs T H) (ha : H a = some (.dK kvs)) (k : ∀ b o, H b = some o → b ≠ a → H' b = some o) : LamX.Tabs T H' := fun p hp => by
  obtain ⟨ps, h1, h2, h3⟩ := h p hp
  refine ⟨ps, k _ _ h1 (fun z => by rw [z, ha] at h1; cases h1), h2, fun pos cv e => ?_⟩
  obtain ⟨c, e1, e2⟩ := h3 pos cv e
  exact ⟨c, e1, k _ _ e2 (fun z => by rw [z, ha] at e2; cases e2)⟩
theorem Lq.of {K : PySem.W.Frag} {T : List (Addr × Str)} {a : Addr} {C : Ct} {A : Addr → Bool} {H : Hp} {σ : L2.St} {ρ : List Sl} (hK : C.K = K) (hf : C.fa = some a) (I : En C A H σ ρ) (n : noOwn ρ) (tb : LamX.Tabs T H) : Lq K T a H σ ρ := by
  obtain ⟨hA, hF⟩ := I.feed a hf
  have le : Same (hid A H) (hid (oneA a) H) := hid_le fun b hb => by rw [of_decide_eq_true hb]; exact hA
  have al : Alc (oneA a) H := fun b hb => by rw [of_decide_eq_true hb]; exact hF.some
  subst hK
  refine ⟨⟨fun b o e _ => e, al, fun b e => e, fun b e => ?_, I.len, fun i => ?_, fun i j l xs ys h1 => absurd h1 (n i xs), al⟩, tb⟩
  · have : a = b := Option.some.inj e
    subst this
    exact ⟨decide_eq_true rfl, hF.mono le fun o z => z⟩
  · have q := I.sl i
    cases e : ρ[i]? with
    | none => trivial
    | some s =>
      rw [e] at q
      cases s with
      | no => trivial
      | d x => obtain ⟨v, h1, h2⟩ := q; exact ⟨v, h1, dp_mono le h2⟩
      | own ys => exact absurd e (n i ys)
      | fd => obtain ⟨b, h1, h2⟩ := q; exact ⟨b, h1, by rw [hf] at h2; exact h2⟩
theorem Lq.ext {K : PySem.W.Frag} {T : List (Addr × Str)} {a : Addr} {H H' : Hp} {σ : L2.St} {ρ : List Sl} (L : Lq K T a H σ ρ) (n : noOwn ρ) (x : LamX.ExtN H H') (tb : LamX.Tabs T H') : Lq K T a H' σ ρ := by
  obtain ⟨hA, l, ns, m1, m2, m3, h1, h2, h3⟩ := L.en.feed a rfl
  have xh : LamX.ExtN (hid (oneA a) H) (hid (oneA a) H') := fun b o e nt => by
    obtain ⟨z, e⟩ := hid_some e
    rw [hid_at z]
    exact x b o e nt
  have ha : H' a = _ := x a _ h1 (fun _ z => nomatch z)
  have al : Alc (oneA a) H' := fun b hb => ⟨_, (congrArg H' (of_decide_eq_true hb)).trans ha⟩
  refine ⟨⟨fun b o e _ => e, al, fun b e => e, fun b e => ?_, L.en.len, fun i => ?_, fun i j l xs ys h1 => absurd h1 (n i xs), al⟩, tb⟩
  · have : a = b := Option.some.inj e
    subst this
    exact ⟨hA, l, ns, m1, m2, m3, ha, h2.elim (fun h => .inl (h.elim (fun h => .inl (xh _ _ h fun _ z => nomatch z)) fun ⟨o, h⟩ => .inr ⟨o, xh _ _ h fun _ z => nomatch z⟩)) .inr, h3⟩
  · have q := L.en.sl i
    cases e : ρ[i]? with
    | none => trivial
    | some s =>
      rw [e] at q
      cases s with
      | no => trivial
      | d x => obtain ⟨v, h1, h2⟩ := q; exact ⟨v, h1, dp_ext xh h2⟩
      | own ys => exact absurd e (n i ys)
      | fd => exact q
section
variable {K : PySem.W.Frag} {T : List (Addr × Str)} {a CT : Addr} {E : XK} {H : Hp} {σ : L2.St} {ρ : List Sl} {D : Ends} {t tb : TS} {N : List Sl → Prop}
abbrev GL (K : PySem.W.Frag) (CT : Addr) (E : XK) : Gd := ⟨K, CT, E, fun _ => False⟩
theorem lq_dk (L : Lq K T a H σ ρ) : ∃ kvs, H a = some (.dK kvs) := by
  obtain ⟨hA, l, ns, m1, m2, m3, h1, _⟩ := L.en.feed a rfl
  exact ⟨_, h1⟩
theorem lq_sv (h : Sv (GL K CT E) t ρ N (fun _ => False)) (no : ∀ ρ', N ρ' → noOwn ρ') (L : Lq K T a H σ ρ) (k : ∀ H' σ' ρ', Lq K T a H' σ' ρ' → N ρ' → D.nx σ' H') : t D σ H := by
  obtain ⟨kvs, ha⟩ := lq_dk L
  refine h ⟨K, some a, oneA a, H⟩ (oneA a) H σ D rfl L.en (fun _ _ _ _ _ _ z => z.elim) (fun A' H' σ' ρ' I' s' p => k H' σ' ρ' (Lq.of rfl rfl I' (no _ p) (tabs_but L.tb ha fun b o e n => I'.keep b o e fun z => n (Option.some.inj z).symm)) p) fun v d H' _ _ _ z => z.elim
/-- t; the rest -/
theorem lq_seq (h : Sv (GL K CT E) t ρ N (fun _ => False)) (no : ∀ ρ', N ρ' → noOwn ρ') (L : Lq K T a H σ ρ) (k : ∀ H' σ' ρ', Lq K T a H' σ' ρ' → N ρ' → tb D σ' H') : tSeq t tb D σ H :=
  lq_sv (D := { D with nx := tb D }) h no L k
/-- if not is_right(s): ..; it is right -/
theorem lq_right {i : Nat} {s : Str} {tr : TS} (L : Lq K T a H σ ρ) (no : noOwn ρ) (hi : ρ[i]? = some (.d (.str s))) (hs : s.length ≤ 29000) (k : ∀ H', Lq K T a H' σ ρ → D.nx σ H') : tIfS (tNot (tB (tCall (spRight T) [] E0 (tCons (tVar i) tNil)))) tr tNext D σ H := by
  have q := L.en.sl i
  rw [hi] at q
  obtain ⟨v, h1, h2⟩ := q
  have e := dp_str h2
  subst e
  exact ⟨.str s, h1, s, rfl, hs, L.tb, fun H' x t => ⟨true, rfl, k H' (L.ext no x t)⟩⟩
theorem lq_for {tA : TA} {i m : Nat} {Ps : List PyData → Prop} (Iv : Nat → List Sl → Prop) (ha : EvA (GL K CT E) tA ρ Ps) (hj : ∀ ds, Ps ds → ∃ j : Int, ds = [.int j] ∧ -1000000000 ≤ j ∧ j < 1000000000 ∧ j.toNat ≤ m) (no : ∀ k ρ', Iv k ρ' → noOwn ρ') (L : Lq K T a H σ ρ) (h0 : Iv 0 ρ)
    (hb : ∀ (k : Nat) (H' : Hp) (σ' : L2.St) (ρ' : List Sl) (n : PyData) (D' : Ends), k < m → Lq K T a H' σ' (ρ'.set i (.d n)) → Iv k ρ' → (∀ H2 σ2 ρ2, Lq K T a H2 σ2 ρ2 → Iv (k + 1) ρ2 → D'.nx σ2 H2) → tb D' σ' H')
    (hd : ∀ k H' σ' ρ', Lq K T a H' σ' ρ' → Iv k ρ' → D.nx σ' H') : tFor (iRng1 tA) (gName i) tb D σ H := by
  obtain ⟨kvs, hk⟩ := lq_dk L
  refine ha ⟨K, some a, oneA a, H⟩ (oneA a) H σ _ rfl L.en (fun _ _ _ _ _ _ z => z.elim) fun vs ds H1 I1 f1 n1 d1 p1 => ?_
  obtain ⟨j, e, h1, h2, h3⟩ := hj ds p1
  subst e
  obtain ⟨v, rfl, dv⟩ := dp1 d1
  rw [dp_int dv]
  have L1 : Lq K T a H1 σ ρ := Lq.of rfl rfl I1 (no _ _ h0) (tabs_but L.tb hk fun b o e n => I1.keep b o e fun z => n (Option.some.inj z).symm)
  have hlen : (rngD 0 j.toNat).length = j.toNat := by rw [List.length_map, rngI_len]
  refine ⟨j, rfl, by omega, by omega, ?_⟩
  refine ⟨fun i' m' σ' H' => m' = (rngD 0 j.toNat).length - i' ∧ i' ≤ (rngD 0 j.toNat).length ∧ ∃ ρ', Lq K T a H' σ' ρ' ∧ Iv i' ρ', ⟨_, rfl, Nat.zero_le _, ρ, L1, h0⟩, ?_⟩
  rintro i' m' σ' H' ⟨rfl, hle, ρ', L', iv⟩
  have dr : Drv K (Itr 0 j.toNat) (rngD 0 j.toNat) (fun _ _ => True) := drv_rng
  by_cases hlt : i' < (rngD 0 j.toNat).length
  · have hx : (rngD 0 j.toNat)[i']? = some (rngD 0 j.toNat)[i'] := by simp [hlt]
    obtain ⟨hgo, hy⟩ := dr.go (oneA a) H' i' _ L'.en.al trivial hx
    refine .inr ⟨hgo, fun σ2 H2 => ∃ ρ2, Lq K T a H2 σ2 ρ2 ∧ Iv (i' + 1) ρ2, fun σ2 H2 ⟨ρ2, l2, i2⟩ => ⟨(rngD 0 j.toNat).length - (i' + 1), by omega, rfl, by omega, ρ2, l2, i2⟩, fun v H2 y => ?_⟩
    obtain ⟨s2, d2⟩ := hy v H2 y
    have L2 := L'.ext (no _ _ iv) (.of s2) (L'.tb.ext s2)
    exact hb i' H2 _ ρ' _ _ (by omega) ⟨L2.en.set d2, L2.tb⟩ iv fun H3 σ3 ρ3 l3 i3 => ⟨ρ3, l3, i3⟩
  · exact .inl ⟨dr.stop (oneA a) H' i' trivial (by omega), hd i' H' σ' ρ' L' iv⟩
/-- .. the rest behind it -/
theorem lq_forS {tA : TA} {i m : Nat} {Ps : List PyData → Prop} {tc : TS} (Iv : Nat → List Sl → Prop) (ha : EvA (GL K CT E) tA ρ Ps) (hj : ∀ ds, Ps ds → ∃ j : Int, ds = [.int j] ∧ -1000000000 ≤ j ∧ j < 1000000000 ∧ j.toNat ≤ m) (no : ∀ k ρ', Iv k ρ' → noOwn ρ') (L : Lq K T a H σ ρ) (h0 : Iv 0 ρ)
    (hb : ∀ (k : Nat) (H' : Hp) (σ' : L2.St) (ρ' : List Sl) (n : PyData) (D' : Ends), k < m → Lq K T a H' σ' (ρ'.set i (.d n)) → Iv k ρ' → (∀ H2 σ2 ρ2, Lq K T a H2 σ2 ρ2 → Iv (k + 1) ρ2 → D'.nx σ2 H2) → tb D' σ' H')
    (hd : ∀ k H' σ' ρ', Lq K T a H' σ' ρ' → Iv k ρ' → tc D σ' H') : tSeq (tFor (iRng1 tA) (gName i) tb) tc D σ H := lq_for (D := { D with nx := tc D }) Iv ha hj no L h0 hb hd
theorem lq_rightS {i : Nat} {s : Str} {tr tc : TS} (L : Lq K T a H σ ρ) (no : noOwn ρ) (hi : ρ[i]? = some (.d (.str s))) (hs : s.length ≤ 29000) (k : ∀ H', Lq K T a H' σ ρ → tc D σ H') : tSeq (tIfS (tNot (tB (tCall (spRight T) [] E0 (tCons (tVar i) tNil)))) tr tNext) tc D σ H :=
  lq_right (D := { D with nx := tc D }) L no hi hs k
end
/-! ### the slots of law -/
structure Lg (ρ : List Sl) : Prop where
  len : ρ.length = 8
  fd : ρ[1]? = some .fd
  no : noOwn ρ
theorem Lg.set {ρ : List Sl} (h : Lg ρ) {i : Nat} {x : PyData} (hi : i ≠ 1) : Lg (ρ.set i (.d x)) :=
  ⟨by rw [List.length_set]; exact h.len, by rw [List.getElem?_set_ne hi]; exact h.fd, fun j ys q => by
    by_cases e : i = j
    · subst e
      by_cases hl : i < ρ.length
      · rw [List.getElem?_set_self hl] at q; cases q
      · rw [List.getElem?_eq_none (by rw [List.length_set]; omega)] at q; cases q
    · rw [List.getElem?_set_ne e] at q
      exact h.no j ys q⟩
theorem Lg.at {ρ : List Sl} (h : Lg ρ) {i : Nat} {x : PyData} (hi : i < 8) : (ρ.set i (.d x))[i]? = some (.d x) := List.getElem?_set_self (by rw [h.len]; exact hi)
/-- slot i: a text of at most c signs -/
def Tx1 (i c : Nat) (ρ : List Sl) : Prop := ∃ s : Str, ρ[i]? = some (.d (.str s)) ∧ s.length ≤ c
theorem Tx1.set {ρ : List Sl} {i j c : Nat} {x : PyData} (h : Tx1 i c ρ) (n : j ≠ i) : Tx1 i c (ρ.set j (.d x)) := by
  obtain ⟨s, e, l⟩ := h
  exact ⟨s, by rw [List.getElem?_set_ne n]; exact e, l⟩
def bdL : Nat → Nat
  | 0 => 3068
  | 1 => 9268
  | _ => 27868
theorem strs_of {c : Nat} : ∀ {ds : List PyData}, (∀ d ∈ ds, SP c d) → ∃ ys : List Str, ds = ys.map .str ∧ ∀ y ∈ ys, y.length ≤ c
  | [], _ => ⟨[], rfl, fun y hy => by cases hy⟩
  | d :: r, h => by
    obtain ⟨ys, e, hy⟩ := strs_of fun z hz => h z (List.mem_cons_of_mem _ hz)
    obtain ⟨s, es, hs⟩ := h d List.mem_cons_self
    exact ⟨s :: ys, by rw [es, e]; rfl, fun y hm => by
      rcases List.mem_cons.mp hm with z | z
      · rw [z]; exact hs
      · exact hy y z⟩
section
variable {K : PySem.W.Frag} {CT : Addr} {E : XK} {ρ : List Sl}
theorem ea_some {n : Int} (h : Lg ρ) (h0 : 0 < n) (h1 : n < 1000000) : EvA (GL K CT E) (tCons (tOp (rI0 fun i j => .int (i + j)) (tC (.int 1)) (tCall (sp_law_draw K CT) [] E0 (tCons (tVar 1) (tCons (tC (.int n)) tNil)))) tNil) ρ (fun ds => ∃ j : Int, ds = [.int j] ∧ 1 ≤ j ∧ j ≤ n) :=
  (ea_consg (ev_opR (ev_intR 1) ((ev_callF n h.fd (ea_cons ev_int ea_nil) ⟨h0, h1⟩).imp fun d ⟨r, hr, e⟩ => (⟨r, hr, e⟩ : IntP (fun r => 0 ≤ r ∧ r < n) d)) fun i j _ _ => rv_add) ea_nil).imp fun ds ⟨x, xs, e, ⟨z, ⟨i, j, hi, hj, hz⟩, ez⟩, es⟩ => ⟨z, by rw [e, ez, es], by omega, by omega⟩
theorem ev_line (h : Lg ρ) : Ev (GL K CT E) (tM1 (rJoin K) (tC (.str " | ")) (tLc (iRng1 (tCons (tOp (rI0 fun i j => .int (i + j)) (tC (.int 1)) (tCall (sp_law_draw K CT) [] E0 (tCons (tVar 1) (tCons (tC (.int 4)) tNil)))) tNil)) (gName 7) tYes (tCall (sp_law_piece_text K CT) [] E0 (tCons (tCall (sp_law_piece K CT) [] E0 (tCons (tVar 1) tNil)) tNil)) [7])) ρ (SP 3068) := by
  have hl : Ev (GL K CT E) (tLc (iRng1 (tCons (tOp (rI0 fun i j => .int (i + j)) (tC (.int 1)) (tCall (sp_law_draw K CT) [] E0 (tCons (tVar 1) (tCons (tC (.int 4)) tNil)))) tNil)) (gName 7) tYes (tCall (sp_law_piece_text K CT) [] E0 (tCons (tCall (sp_law_piece K CT) [] E0 (tCons (tVar 1) tNil)) tNil)) [7]) ρ
      (fun d => ∃ (xs ds : List PyData), xs.length ≤ 4 ∧ d = .list ds ∧ All2 (fun _ => SP 764) (xs.filter fun _ => true) ds) :=
    ev_lc (PL := fun xs => xs.length ≤ 4) (ei_rng1g (ea_some h (by decide) (by decide)) fun ds ⟨j, e, h1, h2⟩ => ⟨j, e, by omega, by omega, by rw [List.length_map, rngI_len]; omega⟩) (by decide) (fun xs hx => by omega) (fun xs _ x _ => et_yes) fun xs _ x _ _ => by
      have hf : ((wipeR ρ [7]).set 7 (.d x))[1]? = some .fd := by
        show ((ρ.set 7 .no).set 7 (.d x))[1]? = some .fd
        rw [List.getElem?_set_ne (by decide), List.getElem?_set_ne (by decide)]
        exact h.fd
      exact ev_callg (es := []) (.inr fun _ _ _ z => z) (fun _ _ => .nil) (ea_consg (ev_callF () hf ea_nil trivial) ea_nil) fun xs ⟨x, r, e, gp, er⟩ => ⟨x, by rw [e, er]; rfl, gp, fun _ z => z, fun _ z => z.elim⟩
  refine ev_m1g ev_str hl fun y ⟨xs, ds, hx, e, al⟩ => ?_
  subst e
  obtain ⟨ys, rfl, hy⟩ := strs_of (All2.all (P := SP 764) (fun _ _ z => z) al)
  have hlen : ys.length ≤ 4 := by
    have h1 := All2.len al
    rw [List.length_map] at h1
    have h2 := List.length_filter_le (fun _ => true) xs
    omega
  have l := wsum_lens ys
  have w := wsum_le ys hy
  have e3 : ((" | " : Str)).length = 3 := rfl
  intro A H v vs Q al2 d hs q
  refine rm_join (by rw [e3]; omega) A H v vs Q al2 d hs fun z d H' s' dz pz => q z d H' s' dz ⟨Txt.join " | " ys, pz, ?_⟩
  have := StrLaws.join_length_le " | " ys
  rw [e3] at this
  rw [TL.join_eq]
  omega
end
section
variable {P : Program} {w : World} {K : PySem.W.Frag} {mg : Str → Option Value} {base : Heap} {f : Addr} {fd : FuncData} {CT : Addr}
theorem sc_law : FnScope ["_law_script", "_law_feed_here", "_law_lap", "_law_line", "_law_turn", "_law_late", "_law_many", "_law_k"] ["_law_script"] (defScope s_law) := ⟨rfl, rfl, rfl, by decide +kernel, rfl, by decide +kernel, by decide +kernel⟩
/-- a list of ints, the tables T: the answer is True -/
def spLaw (K : PySem.W.Frag) (T : List (Addr × Str)) : Sp := fun vs H Q _ => ∃ (l : Addr) (ns : List Int), vs = [.ref l] ∧ SqL K H l (ns.map V.int) ∧ LamX.Tabs T H ∧ ∀ H', Q (.bl true) H'
theorem ok_law {Tb : List (Addr × Str)} (T : Tx K mg) (F : FnP K "law" s_law f fd) (k_law_feed : Kn P w K mg base 1 "_law_feed" ["_law_script"] (sp_law_feed K CT) []) (k_law_draw : Kn P w K mg base 1 "_law_draw" ["_law_feed_here", "_law_many"] (sp_law_draw K CT) []) (k_law_piece : Kn P w K mg base 4 "_law_piece" ["_law_feed_here"] (sp_law_piece K CT) []) (k_law_piece_text : Kn P w K mg base 1 "_law_piece_text" ["_law_piece_here"] (sp_law_piece_text K CT) []) (k_law_spoilt : Kn P w K mg base 3 "_law_spoilt" ["_law_feed_here", "_law_line"] (sp_law_spoilt K CT) []) (k_law_is_right : KnG P w K mg base 30 "_law_is_right" ["_law_line"] (spRight Tb) []) :
    FnG P w K mg base (L2.CX P w) 31 f fd ["_law_script"] (spLaw K Tb) := by
  refine fnG_of F sc_law (fun vs H Q E h => by obtain ⟨l, ns, rfl, _⟩ := h; rfl) fun cdv B fr st H vs Q E hg hr h => ?_
  obtain ⟨l, ns, rfl, hs, tb, hq⟩ := h
  have nd := sc_law.nd
  have hgd : (cxOf (L2.CX P w) P w K mg base ["_law_script", "_law_feed_here", "_law_lap", "_law_line", "_law_turn", "_law_late", "_law_many", "_law_k"] "law" (defScope s_law) f cdv B fr st H E).A.guards = some [] := hg
  refine ⟨_, (pss_cons (ps_set (i := 1) nd rfl (Or.inr rfl) (pe_kn k_law_feed hr (pa_cons (pv 0) pa_nil))) (pss_cons (ps_for (passes_of rfl) rfl (pi_range1 (by rfl) T.b_range (pa_cons pe_int pa_nil)) (pg_name (i := 2) nd rfl (Or.inl rfl)) (pss_cons (ps_set (i := 3) nd rfl (Or.inl rfl) (pe_joinK (K := K) pe_str (pe_lc rfl nd (pi_range1 (by rfl) T.b_range (pa_cons (pe_op op_add pe_int (pe_kn k_law_draw hr (pa_cons (pv 1) (pa_cons pe_int pa_nil)))) pa_nil)) (blkOk_by (own := [("_law_k", 7)]) (by kernel_rfl)) (fun _ _ _ _ _ => (pg_name (i := 7) nd rfl (Or.inl rfl))) (fun _ _ _ _ _ => pts_nil) (fun _ _ _ _ _ => (pe_kn k_law_piece_text hr (pa_cons (pe_kn k_law_piece hr (pa_cons (pv 1) pa_nil)) pa_nil)))))) (pss_cons (ps_if (pt_not (pt_val (pe_kG k_law_is_right hgd hr (pa_cons (pv 3) pa_nil)))) (pss_one (ps_ret pe_bl)) pss_nil) (pss_one (ps_for (passes_of rfl) rfl (pi_range1 (by rfl) T.b_range (pa_cons pe_int pa_nil)) (pg_name (i := 4) nd rfl (Or.inl rfl)) (pss_cons (ps_set (i := 5) nd rfl (Or.inl rfl) (pv 3)) (pss_one (ps_for (passes_of rfl) rfl (pi_range1 (by rfl) T.b_range (pa_cons (pe_op op_add pe_int (pe_kn k_law_draw hr (pa_cons (pv 1) (pa_cons pe_int pa_nil)))) pa_nil)) (pg_name (i := 6) nd rfl (Or.inl rfl)) (pss_cons (ps_set (i := 5) nd rfl (Or.inl rfl) (pe_kn k_law_spoilt hr (pa_cons (pv 1) (pa_cons (pv 5) pa_nil)))) (pss_one (ps_if (pt_not (pt_val (pe_kG k_law_is_right hgd hr (pa_cons (pv 5) pa_nil)))) (pss_one (ps_ret pe_bl)) pss_nil))))))))))) (pss_one (ps_ret pe_bl)))), ?_⟩
  refine ⟨.ref l, rfl, noA, l, ns, rfl, alc_no, by rw [hid_no]; exact hs, fun a H1 s1 ha hF => ?_⟩
  have eA : addA noA a = oneA a := by funext b; simp [addA]
  rw [eA] at hF
  obtain ⟨oF, hoF⟩ := hF.some
  have al1 : Alc (oneA a) H1 := fun b hb => ⟨oF, by rw [of_decide_eq_true hb]; exact hoF⟩
  have g0 : Lg [.no, .fd, .no, .no, .no, .no, .no, .no] := ⟨rfl, rfl, fun i xs q => by
    rcases i with _ | _ | _ | _ | _ | _ | _ | _ | i <;> cases q⟩
  have L1 : Lq K Tb a H1 [some (.ref l), some (.ref a), none, none, none, none, none, none] [.no, .fd, .no, .no, .no, .no, .no, .no] := by
    refine ⟨⟨fun b o e _ => e, al1, fun b e => e, fun b e => ?_, rfl, fun i => ?_, fun i j l xs ys h1 => absurd h1 (g0.no i xs), al1⟩, tb.ext s1⟩
    · have : a = b := Option.some.inj e
      subst this
      exact ⟨decide_eq_true rfl, hF⟩
    · rcases i with _ | _ | _ | _ | _ | _ | _ | _ | i
      · trivial
      · exact ⟨a, rfl, rfl⟩
      all_goals trivial
  dsimp only [gName]
  refine lq_forS (CT := CT) (E := E) (m := 6) (fun _ => Lg) (ea_cons ev_int ea_nil) (fun ds e => ⟨6, e, by decide, by decide, by decide⟩) (fun _ ρ' h => h.no) L1 g0 ?_ fun k H2 σ2 ρ2 L2 g2 => hq H2
  intro k H2 σ2 ρ2 n D2 _ L2 g2 nx2
  have g3 := g2.set (i := 2) (x := n) (by decide)
  refine lq_seq (CT := CT) (E := E) (N := fun ρ' => Lg ρ' ∧ Tx1 3 3068 ρ') (sv_set1 (ev_line g3) fun x ⟨s, es, hs⟩ => ⟨g3.set (by decide), s, by rw [g3.at (by decide), es], hs⟩) (fun ρ' h => h.1.no) L2 fun H3 σ3 ρ3 L3 ⟨g4, t4⟩ => ?_
  obtain ⟨s3, e3, l3⟩ := t4
  refine lq_rightS L3 g4.no e3 (by omega) fun H4 L4 => ?_
  refine lq_for (CT := CT) (E := E) (m := 4) (D := D2) (fun _ ρ' => Lg ρ' ∧ Tx1 3 3068 ρ') (ea_cons ev_int ea_nil) (fun ds e => ⟨4, e, by decide, by decide, by decide⟩) (fun _ ρ' h => h.1.no) L4 ⟨g4, s3, e3, l3⟩ ?_ fun k H5 σ5 ρ5 L5 g5 => nx2 H5 σ5 ρ5 L5 g5.1
  intro k5 H5 σ5 ρ5 n5 D5 _ L5 ⟨g5, t5⟩ nx5
  have g6 := g5.set (i := 4) (x := n5) (by decide)
  have t6 := t5.set (j := 4) (x := n5) (by decide)
  obtain ⟨s6, e6, l6⟩ := t6
  refine lq_seq (CT := CT) (E := E) (N := fun ρ' => Lg ρ' ∧ Tx1 3 3068 ρ' ∧ Tx1 5 (bdL 0) ρ') (sv_set1 (ev_var e6) fun x es => ⟨g6.set (by decide), Tx1.set ⟨s6, e6, l6⟩ (by decide), s6, by rw [g6.at (by decide), es], l6⟩) (fun ρ' h => h.1.no) L5 fun H7 σ7 ρ7 L7 g7 => ?_
  refine lq_for (CT := CT) (E := E) (m := 2) (D := D5) (fun k ρ' => Lg ρ' ∧ Tx1 3 3068 ρ' ∧ Tx1 5 (bdL k) ρ') (ea_some g7.1 (by decide) (by decide)) (fun ds ⟨j, e, h1, h2⟩ => ⟨j, e, by omega, by omega, by omega⟩) (fun _ ρ' h => h.1.no) L7 g7 ?_ fun k H8 σ8 ρ8 L8 g8 => nx5 H8 σ8 ρ8 L8 ⟨g8.1, g8.2.1⟩
  intro k8 H8 σ8 ρ8 n8 D8 hk8 L8 ⟨g8, u8, t8⟩ nx8
  have g9 := g8.set (i := 6) (x := n8) (by decide)
  have u9 := u8.set (j := 6) (x := n8) (by decide)
  have t9 := t8.set (j := 6) (x := n8) (by decide)
  obtain ⟨s9, e9, l9⟩ := t9
  have b9 : s9.length ≤ 10000 ∧ 3 * s9.length + 64 ≤ bdL (k8 + 1) := by
    rcases k8 with _ | _ | k8
    · have : s9.length ≤ 3068 := l9
      exact ⟨by omega, by show _ ≤ 9268; omega⟩
    · have : s9.length ≤ 9268 := l9
      exact ⟨by omega, by show _ ≤ 27868; omega⟩
    · omega
  refine lq_seq (CT := CT) (E := E) (N := fun ρ' => Lg ρ' ∧ Tx1 3 3068 ρ' ∧ Tx1 5 (bdL (k8 + 1)) ρ') (sv_set1 (ev_callF s9 g9.fd (ea_cons (ev_var e9) ea_nil) b9.1) fun x ⟨s, es, hs⟩ => ⟨g9.set (by decide), u9.set (by decide), s, by rw [g9.at (by decide), es], Nat.le_trans hs b9.2⟩) (fun ρ' h => h.1.no) L8 fun HA σA ρA LA gA => ?_
  obtain ⟨sA, eA, lA⟩ := gA.2.2
  have bA : bdL (k8 + 1) ≤ 29000 := by
    rcases k8 with _ | k8
    · show 9268 ≤ _; decide
    · show 27868 ≤ _; decide
  exact lq_right LA gA.1.no eA (Nat.le_trans lA bA) fun HB LB => nx8 HB σA ρA LB gA
end
end K13
set_option maxHeartbeats 4000000
/-! The end: law is entered by its caller; one table of code objects, nothing half shown. -/
namespace K13
open PySem PySem.Spec PyProof.Rows L2
abbrev bareO : Obj := { cls := .none, data := .fields #[] }
/-- the heap that is told at the end: the table, and the script where the written part has it not -/
def endH (Pt a : Addr) (u : Option HO) : Hp := fun b => if b = Pt then some (.tbl #[]) else if b = a then u else none
section
variable {P : Program} {w : World} {K : PySem.W.Frag} {mg mb : Str → Option Value} {CX : CXT} {k : Nat} {fa a c Pt : Addr} {fd : FuncData} {x : Str} {sp : Sp} {st : Shared} {vs : List Value} {ns : List Int} {u : Option HO}
theorem endH_t : endH Pt a u Pt = some (.tbl #[]) := if_pos rfl
theorem endH_a (n : a ≠ Pt) : endH Pt a u a = u := by unfold endH; rw [if_neg n, if_pos rfl]
theorem endH_or {b : Addr} {o : HO} (h : endH Pt a u b = some o) : (b = Pt ∧ o = .tbl #[]) ∨ (b = a ∧ u = some o) := by
  unfold endH at h
  split at h
  · rename_i e
    exact .inl ⟨e, (Option.some.inj h).symm⟩
  · split at h
    · rename_i e
      exact .inr ⟨e, h⟩
    · cases h
theorem end_run (kin : K.In st.heap) (glob : st.heap.Ns mainGlobals mg) (blt : st.heap.Ns builtinsNs mb) (bls : ∀ x : Str, x ≠ "__name__" → mb x = bootBuiltins x) (lim : st.heap.NoLimit) (gens : st.gens = #[])
    (hT : st.heap.get? Pt = some bareO) (nT : K.lookup Pt = none) (hC : PySem.W.CodeHd st.heap c Pt)
    (modl : ∃ (bm : Addr) (ob : Obj), mg "__builtins__" = some (.ref bm) ∧ bm ≠ builtinsNs ∧ st.heap.get? bm = some ob ∧ ob.cls = .type "module" ∧ ob.dict = some builtinsNs ∧ ob.data = .plain)
    (ha : st.heap.get? a = some { cls := .type "list", data := .seq vs.toArray }) (hi : IntsAre vs ns) (hl : ns.length ≤ sizeLine) (room : Room k callerA)
    (fn : ∀ base : Heap, K.In base → base.Ns mainGlobals mg → LamX.TabB base mg c Pt → FnG P w K mg base CX k fa fd [x] sp) (bind : ∀ (s : Shared) (u : Value), BindsTo s fd ⟨[u], []⟩ [(x, u)])
    (pre : ∀ H : Hp, H Pt = some (.tbl #[]) → SqL K H a (ns.map V.int) → sp [.ref a] H (fun v _ => v = .bl true) fun _ _ _ => False)
    (up : ∀ (H : Hp) (e : Value) (s2 : Shared), CX [] H st (fun _ _ _ => False) e s2 → False) :
    codeAny (model P w) callerA (.call (.ref fa) ⟨[.ref a], []⟩) (fun r s2 => r = .ok (.ret (.bool true)) ∧ OldK st.heap s2.heap ∧ s2.os = st.os ∧ AllBare s2.gens) st := by
  have rv := vals_ints hi
  have hlen := hi.length
  have hne : a ≠ Pt := fun z => by
    rw [z, hT] at ha
    cases ha
  obtain ⟨u, hu, hS⟩ : ∃ u : Option HO, (u = none ∨ (u = some (.frz { cls := .type "list", data := .seq vs.toArray } (.lst (ns.map V.int))) ∧ K.lookup a = none)) ∧ SqL K (endH Pt a u) a (ns.map V.int) := by
    cases q : K.lookup a with
    | none => exact ⟨_, .inr ⟨rfl, rfl⟩, .inl (.inr ⟨_, endH_a hne⟩)⟩
    | some o =>
      have e := kin a o q
      rw [ha] at e
      cases e
      exact ⟨none, .inl rfl, .inr ⟨_, vs.toArray, _, q, rfl, rfl, rfl, by rw [List.size_toArray, hlen]; exact hl, by simpa using rv⟩⟩
  -- what is told, what is not
  have told : ∀ {b : Addr} {o : HO}, endH Pt a u b = some o → (b = Pt ∧ o = .tbl #[]) ∨ (b = a ∧ o = .frz { cls := .type "list", data := .seq vs.toArray } (.lst (ns.map V.int)) ∧ K.lookup a = none) := fun {b o} h => by
    rcases endH_or h with z | ⟨e, z⟩
    · exact .inl z
    · rcases hu with q | ⟨q, n⟩
      · rw [q] at z; cases z
      · rw [q] at z
        exact .inr ⟨e, (Option.some.inj z).symm, n⟩
  have off : ∀ {b : Addr} {o : Obj}, st.heap.get? b = some o → (∀ xs n, o.data ≠ .seq xs n) → o.data ≠ .fields #[] → endH Pt a u b = none := fun {b o} e n1 n2 => by
    cases q : endH Pt a u b with
    | none => rfl
    | some z =>
      rcases told q with ⟨eb, _⟩ | ⟨eb, _, _⟩
      · rw [eb, hT] at e
        cases e
        exact (n2 rfl).elim
      · rw [eb, ha] at e
        cases e
        exact (n1 _ _ rfl).elim
  have toB : ∀ {b : Addr} {o : Obj}, st.heap.get? b = some o → (∀ xs n, o.data ≠ .seq xs n) → o.data ≠ .fields #[] → (hidT st.heap (endH Pt a u)).get? b = some o := fun e n1 n2 => hidT_get e (off e n1 n2)
  have nsB : ∀ {b : Addr} {m : Str → Option Value}, st.heap.Ns b m → (hidT st.heap (endH Pt a u)).Ns b m := fun {b m} h => by
    obtain ⟨o, es, ep, e, d, r⟩ := h
    exact ⟨o, es, ep, toB e (fun xs n z => by rw [d] at z; cases z) (fun z => by rw [d] at z; cases z), d, r⟩
  have kB : K.In (hidT st.heap (endH Pt a u)) := fun b o e => hidT_get (kin b o e) (by
    cases q : endH Pt a u b with
    | none => rfl
    | some z =>
      rcases told q with ⟨eb, _⟩ | ⟨eb, _, n⟩
      · rw [eb, nT] at e; cases e
      · rw [eb, n] at e; cases e)
  have mB : L2.Mod K mg (hidT st.heap (endH Pt a u)) := by
    refine ⟨kB, nsB glob, ⟨mb, nsB blt, bls⟩, ?_⟩
    obtain ⟨mc, l1, l2⟩ := lim
    exact ⟨mc, nsB l1, l2⟩
  have tB : LamX.TabB (hidT st.heap (endH Pt a u)) mg c Pt := by
    refine ⟨?_, ?_, fun z => ?_⟩
    · obtain ⟨o, us, file, tf, flags, tg, inF, text, tt, q1, q2, q3, q4, q5⟩ := hC
      refine ⟨o, us, file, tf, flags, tg, inF, text, tt, toB q1 (fun xs n z => ?_) (fun z => ?_), q2, q3, q4, q5⟩
      · rw [q3] at z; cases z
      · rw [q3] at z
        cases z
        simp at q4
    · obtain ⟨bm, ob, q1, q2, q3, q4, q5, q6⟩ := modl
      refine ⟨bm, ob, q1, q2, fun z => ?_, fun z => ?_, toB q3 (fun xs n z => ?_) (fun z => ?_), q4, q5, q6⟩
      · obtain ⟨o, es, ep, e, d, _⟩ := glob
        rw [z, e] at q3
        cases q3
        rw [d] at q6
        cases q6
      · rw [z, hT] at q3
        cases q3
        cases q6
      · rw [q6] at z; cases z
      · rw [q6] at z; cases z
    · obtain ⟨o, es, ep, e, d, _⟩ := glob
      rw [z, hT] at e
      cases e
      cases d
  have hok : HOk P w (endH Pt a u) st.heap := fun b o e => by
    rcases told e with ⟨eb, eo⟩ | ⟨eb, eo, _⟩
    · rw [eb, eo]
      exact hT
    · rw [eb, eo]
      exact ⟨ha, by rw [List.length_map]; exact hl, vs, _, rv, ha⟩
  have e0 : Env0 P w K mg (hidT st.heap (endH Pt a u)) callerA [] st (endH Pt a u) :=
    { frames := rfl, mod := mB, bs := fun b o e => of_hidT e, bsz := Nat.le_of_eq (hidT_size _ _), funs := trivial, frf := fun b hb => absurd (show b ∈ ([] : List Addr) from hb) (by simp), hok := hok, bare := .of_eq gens }
  have run := (fn _ kB (nsB glob) tB).go callerA [] st (endH Pt a u) ⟨[.ref a], []⟩ [.ref a] [.ref a] _ _ rfl room e0 (bind st (.ref a)) (.cons rfl .nil) (pre _ endH_t hS)
  refine codeAny_mono run fun r s2 h => ?_
  match r, h with
  | .error e, h => exact (up _ e s2 h).elim
  | .ok .next, h => exact h.elim
  | .ok .brk, h => exact h.elim
  | .ok .cont, h => exact h.elim
  | .ok (.ret z), h =>
    obtain ⟨v, H2, os, bare, un, hok2, rz, ev⟩ := h
    have ev : v = .bl true := ev
    subst ev
    obtain rfl : z = Value.bool true := rz
    obtain ⟨more, hm⟩ := un.tbls Pt #[] endH_t
    have grown : s2.heap.get? Pt = some { cls := .none, data := .fields (#[] ++ more) } := hok2 Pt _ hm
    have stay : ∀ b o, b ≠ Pt → st.heap.get? b = some o → s2.heap.get? b = some o := fun b o n e => by
      cases q : endH Pt a u b with
      | none => exact un.keep b o e q (by intro z; exact absurd (show b ∈ ([] : List Addr) from z) (by simp)) (by simp)
      | some z =>
        rcases told q with ⟨eb, _⟩ | ⟨eb, eo, _⟩
        · exact absurd eb n
        · rw [eo] at q
          have h2 := (hok2 b _ (un.frzs b _ _ q)).1
          rw [eb, ha] at e
          cases e
          exact h2
    refine ⟨rfl, ⟨fun b o e => ?_, fun b o e => ?_⟩, os, bare⟩
    · by_cases hb : b = Pt
      · subst hb
        rw [hT] at e
        cases e
        exact .inr (.inl ⟨(hC.tab hT).isCodeTable, rfl, #[], more, rfl, grown⟩)
      · exact .inl (stay b o hb e)
    · by_cases hb : b = Pt
      · subst hb
        exact ⟨_, grown⟩
      · exact ⟨o, stay b o hb e⟩
end
theorem walk_end {l : PySem.W.OpenLaw} {n k : Nat} {q : Program} {loose : List Str} {XP : (Str → Option Value) → Heap → Prop} {YP : World → Heap → Prop} {d : DefRec} {x : Str} (hn : l.most = some n) (hn2 : n ≤ sizeLine) (hdf : d.params.defaults = []) (room : Room k callerA)
    (F : ∀ (w : World) (mg : Str → Option Value) (fa : Addr) (h : Heap), YP w h → h.Ns mainGlobals mg → mg d.name = some (.ref fa) → ∃ (K : PySem.W.Frag) (fd : FuncData) (c Pt : Addr) (sp : Sp), K.In h ∧ h.get? Pt = some bareO ∧ K.lookup Pt = none ∧ PySem.W.CodeHd h c Pt ∧
      (∀ (s : Shared) (u : Value), BindsTo s fd ⟨[u], []⟩ [(x, u)]) ∧ (∀ (H : Hp) (a : Addr) (ns : List Int), H Pt = some (.tbl #[]) → SqL K H a (ns.map V.int) → sp [.ref a] H (fun v _ => v = .bl true) fun _ _ _ => False) ∧
      ∀ base : Heap, K.In base → base.Ns mainGlobals mg → LamX.TabB base mg c Pt → FnG l.prog w K mg base (L2.CX l.prog w) k fa fd [x] sp) :
    PySem.W.WalkO q loose XP YP l.row.toRowW d [] (fun f vs => PySem.call f vs) := by
  refine Att.attach_callB hn hdf fun w s0 st mg mb fa o pm cd doc a vs ns G Y _ _ _ hmg hobj hints hlen _ hg => ?_
  obtain ⟨K, fd, c, Pt, sp, kin, hT, nT, hC, hb, hsp, hF⟩ := F w mg fa _ Y G.T.g hmg
  exact end_run kin G.T.g G.T.b G.T.builtins G.T.nolimit hg hT nT hC G.T.bmain hobj hints (Nat.le_trans hlen hn2) room hF hb (fun H h1 h2 => hsp H a ns h1 h2) fun H e s2 h => by
    obtain ⟨_, _, _, _, _, _, _, _, _, _, _, _, z⟩ := h
    exact z
end K13
set_option maxHeartbeats 0
/-! The head: what the top has left, read by one kernel run (two answers of one row of the world). -/
namespace K13
open PySem PySem.Spec PyProof.Rows L2
open He (ga ma)
/-! ### the class of the text error, and its own beginning -/
def xC (K : PySem.W.Frag) : Addr := ga K "InvalidText"
def xI (K : PySem.W.Frag) : Addr := ma K (xC K) "__init__"
def clsB (K : PySem.W.Frag) (C : Addr) : Bool := match K.lookup C with
  | some ⟨.type c, _, .cls cd, sl⟩ => decide (c = "type") && (match cd.mro, sl.toList with
    | .ref C' :: bm, [_, _, _, _, some (.builtin n), _] => decide (C' = C) && (decide (n = "ValueError.__new__") && (!cd.hasDel && (PySem.HandSPX.refsVE bm && cd.hasDict)))
    | _, _ => false)
  | _ => false
def kitB2 (K : PySem.W.Frag) (y : Str) (b : Bool) : Bool := decide (PySem.W.kitOne K (.ref (xC K)) (.ref (ga K y)) = some b)
def fndB (K : PySem.W.Frag) (f : Str) (r : Option Value) : Bool := decide (PySem.W.findIn K (.ref (xC K)) f = some r)
def cellOf (K : PySem.W.Frag) (f : Addr) : Addr := match K.lookup f with
  | some ⟨_, _, .func fd, _⟩ => (match fd.closure with
    | [(_, c)] => c
    | _ => 0)
  | _ => 0
def cellB (K : PySem.W.Frag) (c C : Addr) : Bool := match K.lookup c with
  | some ⟨_, _, .cell (some (.ref D)), _⟩ => decide (D = C)
  | _ => false
def fileB (K : PySem.W.Frag) (cd : Value) : Bool := match cd with
  | .ref c => (match K.lookup c with
    | some ⟨_, _, .fields vs, _⟩ => (match vs.toList with
      | _ :: _ :: .str f _ :: _ => decide (f = ("/claim/cut.py" : Str))
      | _ => false)
    | _ => false)
  | _ => false
def noneB : Value → Bool
  | .none => true
  | _ => false
def initB (K : PySem.W.Frag) : Bool := match K.lookup (xI K) with
  | some ⟨_, _, .func fd, _⟩ => decide (fd.closure = [(("__class__" : Str), cellOf K (xI K))]) && (noneB fd.defaults && (noneB fd.kwdefaults && (PySem.W.codeIn K fd.code "InvalidText.__init__" && (fileB K fd.code && cellB K (cellOf K (xI K)) (xC K)))))
  | _ => false
abbrev InV : Type := Option (Str × Str × Arguments × FuncBody × Scope × Addr × Addr)
def initW (K : PySem.W.Frag) : InV := match K.lookup (xI K) with
  | some ⟨_, _, .func fd, _⟩ => some (fd.name, fd.qualname, fd.params, fd.body, fd.scope, fd.globals, fd.builtins)
  | _ => none
def initVal : InV := some ("__init__", "InvalidText.__init__", defArgs s_init, .stmts (defBody s_init), defScope s_init, mainGlobals, builtinsNs)
abbrev sizesV : List (Str × He.Dv) := [("ring", .int 2), ("power", .int 3), ("knot", .int 2), ("turn", .int 4), ("act", .int 4)]
/-- what is looked at besides: the error's class, the table of sizes -/
def exL (K : PySem.W.Frag) : List Bool := [clsB K (xC K), initB K,
  fndB K "__setattr__" (some (.builtin "object.__setattr__")), fndB K "__getattribute__" (some (.builtin "BaseException.__getattribute__")), fndB K "__getattr__" none, fndB K "line" none, fndB K "field" none, fndB K "word" none, fndB K "at" none,
  fndB K "__init__" (some (.ref (xI K))), decide (PySem.W.typeIn K (.ref (xI K)) = some (.type "function")), PySem.W.keepIn K (.ref (xC K)),
  decide (PySem.W.subIn K (.ref (xC K)) (.type "BaseException") = some true), decide (PySem.W.typeIn K (.ref (xC K)) = some (.type "type")), PySem.W.hasDictIn K (xC K),
  decide (PySem.W.ks_superIn K (xC K) (xC K) "__init__" = some (some (.builtin "ValueError.__init__"))), decide (PySem.W.subIn K (.ref (xC K)) (.type "ValueError") = some true),
  decide (PySem.W.mroIn K (xC K) (.ref (xC K)) = some true), decide (PySem.W.nsIn K cStatics "thirdparty.any" = some none), PySem.W.excInitIn K (xC K) He.veBase "ValueError.__new__",
  kitB2 K "NotUsable" false, kitB2 K "InvalidPaper" false, kitB2 K "InvalidText" true, kitB2 K "CountError" false, kitB2 K "PaperError" false, kitB2 K "TextError" true, kitB2 K "LiveError" false,
  decide (PySem.W.kitOne K (.ref (xC K)) (.type "ValueError") = some true), fndB K "__class__" (some (.builtin "object.__class__")),
  decide (PySem.W.specialIn K (.builtin "object.__class__") "__get__" = some (some (.builtin "getset_descriptor.__get__"))), decide (PySem.W.takesIn K (.builtin "object.__class__") = some true),
  decide (PySem.W.mroIn K (xC K) (.type "object") = some true), He.valsB K (ga K "SIZES") sizesV]
def exB (K : PySem.W.Frag) : Bool := (exL K).all id
theorem exAt {K : PySem.W.Frag} (h : exB K = true) (i : Nat) {b : Bool} (e : (exL K)[i]? = some b := by rfl) : b = true := List.all_eq_true.mp h b (List.mem_of_getElem? e)
theorem exD {K : PySem.W.Frag} (h : exB K = true) (i : Nat) {p : Prop} [Decidable p] (e : (exL K)[i]? = some (decide p) := by rfl) : p := of_decide_eq_true (exAt h i e)
/-! ### the Hook -/
def frK (g : Addr → Option Obj) : PySem.W.Frag := He.frT g (He.asD g 4 ++ [cStatics])
abbrev AlK : Type := (He.AlT × Bool) × InV
def obsK (g : Addr → Option Obj) : AlK := ((He.obsT faAll fnAll tabs (frK g), exB (frK g) && He.tabsB g tfs (frK g)), initW (frK g))
def valK (w : World) : AlK := ((He.valT fnAll tabs w, true), initVal)
structure SaysK (w : World) (h : Heap) (K : PySem.W.Frag) : Prop where
  x : He.SaysX faAll fnAll tabs tfs exB w h K
  i : initW K = initVal
theorem saysK_of {w : World} {h : Heap} (e : obsK h.get? = valK w) : SaysK w h (frK h.get?) := by
  have e0 : (He.obsT faAll fnAll tabs (frK h.get?), exB (frK h.get?) && He.tabsB h.get? tfs (frK h.get?)) = (He.valT fnAll tabs w, true) := congrArg (fun z : AlK => z.1) e
  have e3 : initW (frK h.get?) = initVal := congrArg (fun z : AlK => z.2) e
  have e1 : He.obsT faAll fnAll tabs (frK h.get?) = He.valT fnAll tabs w := congrArg (fun z : He.AlT × Bool => z.1) e0
  have e2 : (exB (frK h.get?) && He.tabsB h.get? tfs (frK h.get?)) = true := congrArg (fun z : He.AlT × Bool => z.2) e0
  obtain ⟨h1, h2⟩ := Bool.and_eq_true_iff.mp e2
  have key : ∀ p ∈ tfs, PySem.W.codeHdIn (frK h.get?) (He.cT (frK h.get?) p).1 (He.cT (frK h.get?) p).2 = true ∧ ∃ o, h.get? (He.cT (frK h.get?) p).2 = some o ∧ He.emptyTab o = true := by
    intro p hp
    obtain ⟨h3, h4⟩ := Bool.and_eq_true_iff.mp (List.all_eq_true.mp h2 p hp)
    refine ⟨h3, ?_⟩
    cases q : h.get? (He.cT (frK h.get?) p).2 with
    | none => rw [q] at h4; cases h4
    | some o => rw [q] at h4; exact ⟨o, rfl, h4⟩
  refine ⟨⟨e1, h1, fun p hp => (key p hp).1, fun p hp => ?_, fun p hp => ?_⟩, e3⟩
  · obtain ⟨_, o, q, z⟩ := key p hp
    exact He.frT_none q z
  · obtain ⟨_, o, q, z⟩ := key p hp
    rw [q, He.emptyTab_eq z]
def hkK : PySem.W.Hook where
  α := AlK
  obs := fun s => obsK s.heap.get?
  val := fun w => valK w
  says := fun w h => ∃ K : PySem.W.Frag, K.In h ∧ SaysK w h K
  of := fun _ _ e => ⟨_, He.frT_in, saysK_of e⟩
  keeps := fun _ _ _ ⟨K, hK, c⟩ k => ⟨K, PySem.W.Frag.In.keeps hK k, ⟨⟨c.x.t, c.x.more, c.x.hd, c.x.out, fun p hp => k _ _ (c.x.empty p hp)⟩, c.i⟩⟩
abbrev RR : PySem.W.OpenRow := PySem.W.OpenLaw.row PySem.Challenge.rw_forcedtables_k13_whole_rule_texts_read
def obH (s : PySem.W.SharedT) : AlK := obsK (HandSHeadRun.getT s)
theorem obH_eq (s : PySem.W.SharedT) : obH s = hkK.obs s.abs := by
  have e : HandSHeadRun.getT s = s.abs.heap.get? := funext (HandSHeadRun.getT_eq s)
  unfold obH
  rw [e] <;> rfl
theorem runF (w : World) : HandSHeadRun.RunEq RR (PySem.W.view RR.prog [90]) hkK obH 4000 looseAll (w.withFollow "special-get-raises" false) := by
  intro os
  kernel_rfl
theorem runT (w : World) : HandSHeadRun.RunEq RR (PySem.W.view RR.prog [90]) hkK obH 4000 looseAll (w.withFollow "special-get-raises" true) := by
  intro os
  kernel_rfl
theorem runK (w : World) : HandSHeadRun.RunEq RR (PySem.W.view RR.prog [90]) hkK obH 4000 looseAll w :=
  PySem.W.byRow2 "special-get-raises" (P := fun w => HandSHeadRun.RunEq RR (PySem.W.view RR.prog [90]) hkK obH 4000 looseAll w) runF runT w
end K13
set_option maxHeartbeats 4000000
/-! What the head tells of each def; law keeps its promise. -/
namespace K13
open PySem PySem.Spec PyProof.Rows L2
open He (ga ma)
section
variable {w : World} {h : Heap} {K : PySem.W.Frag} {mg : Str → Option Value}
theorem gl (X : K.In h) (G : h.Ns mainGlobals mg) (c : He.SaysD faAll fnAll K) (i : Nat) {x : Str} (e : faAll[i]? = some (.glo x) := by rfl) : mg x = some (.ref (ga K x)) := He.glo_ok X G (c.fact i e)
theorem fr (X : K.In h) (G : h.Ns mainGlobals mg) (c : He.SaysD faAll fnAll K) (i : Nat) {x : Str} (e : faAll[i]? = some (.free x) := by rfl) : mg x = none := He.free_ok X G (c.fact i e)
theorem gi (X : K.In h) (G : h.Ns mainGlobals mg) (c : He.SaysD faAll fnAll K) (i : Nat) {x : Str} {n : Int} (e : faAll[i]? = some (.int x n) := by rfl) : ∃ t, mg x = some (.int n t) := He.int_ok X G (c.fact i e)
theorem gs (X : K.In h) (G : h.Ns mainGlobals mg) (c : He.SaysD faAll fnAll K) (i : Nat) {x z : Str} (e : faAll[i]? = some (.str x z) := by rfl) : ∃ t, mg x = some (.str z t) := He.str_ok X G (c.fact i e)
theorem fnd {f : Str} {r : Option Value} (e : fndB K f r = true) : PySem.W.findIn K (.ref (xC K)) f = some r := of_decide_eq_true e
theorem kit {y : Str} {b : Bool} (e : kitB2 K y b = true) : PySem.W.kitOne K (.ref (xC K)) (.ref (ga K y)) = some b := of_decide_eq_true e
theorem tx_of (X : K.In h) (G : h.Ns mainGlobals mg) (c : He.SaysD faAll fnAll K) : Tx K mg where
  b_all := fr X G c 81
  b_bool := fr X G c 82
  b_enumerate := fr X G c 83
  b_int := fr X G c 84
  b_isinstance := fr X G c 85
  b_len := fr X G c 86
  b_list := fr X G c 87
  b_min := fr X G c 88
  b_range := fr X G c 89
  b_repr := fr X G c 90
  b_str := fr X G c 91
  b_sum := fr X G c 92
  b_tuple := fr X G c 94
  c_TOP := gi X G c 69
  c_MOST_POWER := gi X G c 70
  c_MOST_DIGITS := gi X G c 71
  c_RING := gs X G c 72
  c_POWER := gs X G c 73
  c_KNOT := gs X G c 74
  c_TURN := gs X G c 75
  c_ACT := gs X G c 76
  c_BAR := gs X G c 77
  c_SLASH := gs X G c 78
  c_COMMA := gs X G c 79
  c_DIGITS := gs X G c 80
theorem sz_of (X : K.In h) (G : h.Ns mainGlobals mg) (s : SaysK w h K) : Sz K w mg (ga K "SIZES") := by
  have c := s.x.t.d
  obtain ⟨es, n, h1, h2, h3⟩ := s.x.t.tab 0 rfl
  refine ⟨gl X G c 68, h3, ⟨es, n, h1, h2⟩, fun z n hz => ?_⟩
  have hm : (z, He.Dv.int n) ∈ sizesV := List.mem_map_of_mem (f := fun p : Str × Int => (p.1, He.Dv.int p.2)) hz
  exact He.valsB_ok (exAt s.x.more 32) hm
theorem noneB_eq {v : Value} (e : noneB v = true) : v = .none := by
  cases v <;> first | rfl | cases e
theorem clsB_ok {C : Addr} (e : clsB K C = true) : ∃ nm q N bs bm sn sub ab col dd k0 k1 k2 k3 k5, K.lookup C = some (excClassObj nm q C N bs bm true sn sub ab col dd k0 k1 k2 k3 k5 "ValueError.__new__") ∧ PySem.HandSPX.refsVE bm = true := by
  unfold clsB at e
  split at e
  · rename_i c od cd sl hk
    obtain ⟨e1, e⟩ := Bool.and_eq_true_iff.mp e
    split at e
    · rename_i C' bm k0 k1 k2 k3 n k5 hm hs
      obtain ⟨e2, e⟩ := Bool.and_eq_true_iff.mp e
      obtain ⟨e3, e⟩ := Bool.and_eq_true_iff.mp e
      obtain ⟨e4, e⟩ := Bool.and_eq_true_iff.mp e
      obtain ⟨e5, e6⟩ := Bool.and_eq_true_iff.mp e
      obtain ⟨nm, bs, mro, N, q, hd, sn, sub, ab, col, dl⟩ := cd
      have f1 := of_decide_eq_true e1
      have f2 := of_decide_eq_true e2
      have f3 := of_decide_eq_true e3
      have f4 : dl = false := by simpa using e4
      have f6 : hd = true := e6
      have f7 : mro = .ref C' :: bm := hm
      have f8 : sl = #[k0, k1, k2, k3, some (.builtin n), k5] := by
        apply Array.ext'
        exact hs
      subst f1 f2 f3 f4 f6 f7 f8
      exact ⟨nm, q, N, bs, bm, sn, sub, ab, col, od, k0, k1, k2, k3, k5, hk, e5⟩
    · cases e
  · cases e
theorem init_ok (m : initB K = true) (e : initW K = initVal) : ∃ (oc : Value) (od : Option Addr) (doc pm : Value) (an : Option Addr) (cda cc : Addr) (ct : Value) (osl : Array (Option Value)) (o1 : Value) (d1 : Option Addr) (vs : Array Value) (sl1 : Array (Option Value)) (tf : Tok) (o2 : Value) (d2 : Option Addr) (sl2 : Array (Option Value)),
    K.lookup (xI K) = some ⟨oc, od, .func (iFn doc pm an cda cc ct), osl⟩ ∧ PySem.W.codeIn K (.ref cda) "InvalidText.__init__" = true ∧ K.lookup cda = some ⟨o1, d1, .fields vs, sl1⟩ ∧ vs[2]? = some (.str "/claim/cut.py" tf) ∧ K.lookup cc = some ⟨o2, d2, .cell (some (.ref (xC K))), sl2⟩ := by
  cases q : K.lookup (xI K) with
  | none =>
    unfold initB at m
    rw [q] at m
    cases m
  | some o =>
    obtain ⟨oc, od, dt, osl⟩ := o
    cases dt with
    | func fd =>
      have e2 : initW K = some (fd.name, fd.qualname, fd.params, fd.body, fd.scope, fd.globals, fd.builtins) := by
        unfold initW
        rw [q]
      have m2 : (decide (fd.closure = [(("__class__" : Str), cellOf K (xI K))]) && (noneB fd.defaults && (noneB fd.kwdefaults && (PySem.W.codeIn K fd.code "InvalidText.__init__" && (fileB K fd.code && cellB K (cellOf K (xI K)) (xC K)))))) = true := by
        rw [← m]
        unfold initB
        rw [q]
      rw [e] at e2
      unfold initVal at e2
      generalize hcc : cellOf K (xI K) = cc at m2
      obtain ⟨n1, n2, n3, n4, n5, n6, n7, n8, n9, n10, n11, n12, n13, n14, n15⟩ := fd
      simp only [Option.some.injEq, Prod.mk.injEq] at e2
      obtain ⟨h1, h2, h3, h4, h5, h6, h7⟩ := e2
      subst h1 h2 h3 h4 h5 h6 h7
      obtain ⟨k1, m2⟩ := Bool.and_eq_true_iff.mp m2
      obtain ⟨k2, m2⟩ := Bool.and_eq_true_iff.mp m2
      obtain ⟨k3, m2⟩ := Bool.and_eq_true_iff.mp m2
      obtain ⟨k4, m2⟩ := Bool.and_eq_true_iff.mp m2
      obtain ⟨k5, k6⟩ := Bool.and_eq_true_iff.mp m2
      have j1 : n7 = _ := of_decide_eq_true k1
      have j2 : n8 = _ := noneB_eq k2
      have j3 : n9 = _ := noneB_eq k3
      have j4 : PySem.W.codeIn K n13 "InvalidText.__init__" = true := k4
      have j5 : fileB K n13 = true := k5
      clear k1 k2 k3 k4 k5 m2
      subst j1 j2 j3
      obtain ⟨cda, rfl⟩ := He.codeIn_ref j4
      unfold fileB at j5
      unfold cellB at k6
      cases q1 : K.lookup cda with
      | none =>
        simp only [q1] at j5
        cases j5
      | some o1 =>
        obtain ⟨a1, a2, a3, a4⟩ := o1
        simp only [q1] at j5
        cases a3 with
        | fields vs =>
          cases q2 : K.lookup cc with
          | none =>
            rw [q2] at k6
            cases k6
          | some o2 =>
            obtain ⟨b1, b2, b3, b4⟩ := o2
            rw [q2] at k6
            cases b3 with
            | cell v =>
              cases v with
              | none => cases k6
              | some v =>
                cases v with
                | ref D =>
                  have eD : D = xC K := of_decide_eq_true k6
                  subst eD
                  have k7 : (match vs.toList with | _ :: _ :: .str f _ :: _ => decide (f = ("/claim/cut.py" : Str)) | _ => false) = true := j5
                  split at k7
                  · rename_i u0 u1 f tf rest hv
                    have ef := of_decide_eq_true k7
                    subst ef
                    have hv2 : vs[2]? = some (.str "/claim/cut.py" tf) := by
                      rw [← Array.getElem?_toList, hv]
                      rfl
                    exact ⟨oc, od, n10, n11, n12, cda, cc, n14, osl, a1, a2, vs, a4, tf, b1, b2, b4, rfl, j4, q1, hv2, q2⟩
                  · cases k7
                | _ => cases k6
            | _ => cases k6
        | _ => cases j5
    | _ =>
      unfold initB at m
      rw [q] at m
      cases m
theorem txt_of (X : K.In h) (G : h.Ns mainGlobals mg) (s : SaysK w h K) : TxtX K mg (xC K) (xI K) := by
  have c := s.x.t.d
  have m := s.x.more
  exact {
    gC := gl X G c 7
    fS := fr X G c 93
    cls := clsB_ok (exAt m 0)
    ei := exAt m 19
    sa := fnd (exAt m 2)
    ga := fnd (exAt m 3)
    gg := fnd (exAt m 4)
    noL := fnd (exAt m 5)
    noF := fnd (exAt m 6)
    iC := fnd (exAt m 9)
    tC := exD m 10
    kC := exAt m 11
    exC := exD m 12
    tyC := exD m 13
    hdC := exAt m 14
    sup := exD m 15
    veC := exD m 16
    mro := exD m 17
    thr := exD m 18
    fn := init_ok (exAt m 1) s.i }
theorem hdx_of (X : K.In h) (G : h.Ns mainGlobals mg) (s : SaysK w h K) : HdX K mg (xC K) (ga K "GroupError") (ga K "NotUsable") (ga K "InvalidPaper") (ga K "CountError") (ga K "PaperError") (ga K "TextError") (ga K "LiveError") := by
  have c := s.x.t.d
  have m := s.x.more
  exact {
    g_GroupError := gl X G c 0
    g_NotUsable := gl X G c 6
    g_InvalidPaper := gl X G c 5
    g_InvalidText := gl X G c 7
    g_CountError := gl X G c 2
    g_PaperError := gl X G c 1
    g_TextError := gl X G c 4
    g_LiveError := gl X G c 3
    fV := fr X G c 95
    exm := He.exm_ok (c.fact 96 (f := .exm "InvalidText" "GroupError" true) rfl)
    kV := exD m 27
    kT := kit (exAt m 22)
    k1 := kit (exAt m 20)
    k2 := kit (exAt m 21)
    k3 := kit (exAt m 23)
    k4 := kit (exAt m 24)
    k5 := kit (exAt m 25)
    k6 := kit (exAt m 26)
    exc := ⟨fnd (exAt m 3), fnd (exAt m 4), exD m 12, exAt m 14, fnd (exAt m 28), exD m 29, exD m 30, exD m 31⟩
    xf := ⟨fnd (exAt m 3), fnd (exAt m 4), exD m 12, exAt m 14⟩
    no_word := fnd (exAt m 7)
    no_at := fnd (exAt m 8)
    no_line := fnd (exAt m 5)
    no_field := fnd (exAt m 6) }
end
section
variable {P : Program} {w : World} {h : Heap} {K : PySem.W.Frag} {mg : Str → Option Value} {base : Heap} {x : Str} {st : Stmt} {f : Addr} {fd : FuncData} {k : Nat} {ps : List Str} {sp : Sp}
theorem kn_of (F : FnP K x st f fd) (m : mg x = some (.ref f)) (b : Binds K fd ps []) (o : FnOk P w K mg base (L2.CX P w) k f fd ps sp) : Kn P w K mg base k x ps sp [] := ⟨f, fd, [], o, m, F.kp, b, .nil⟩
/-- law keeps its promise over every base -/
theorem law_keeps {Tb : List (Addr × Str)} {c0 Pt : Addr} (PX : ProgX P) (X : K.In h) (G : h.Ns mainGlobals mg) (s : SaysK w h K) (TB : LamX.TabB base mg c0 Pt) (hT : Tb = [(Pt, qR)]) (hc0 : He.codeOf K ("_law_is_right", none) = c0) :
    ∃ fd, FnP K "law" s_law (ga K "law") fd ∧ FnG P w K mg base (L2.CX P w) 31 (ga K "law") fd ["_law_script"] (spLaw K Tb) := by
  have c := s.x.t.d
  have T : Tx K mg := tx_of X G c
  have hS := sz_of X G s
  have TX := txt_of X G s
  have hX := hdx_of X G s
  obtain ⟨CT, hCT⟩ : ∃ CT, CT = xC K := ⟨_, rfl⟩
  rw [← hCT] at TX hX
  have m_is_prime_by := gl X G c 8 (x := "is_prime_by")
  have k_is_prime_by : Kn P w K mg base 1 "is_prime_by" ["number"] (sp_is_prime_by K CT) [] := by
    obtain ⟨fd, F⟩ := c.def_ 0 (d := d_is_prime_by) rfl
    have F : FnP K "is_prime_by" s_is_prime_by (ga K "is_prime_by") fd := F
    exact kn_of F m_is_prime_by (F.bindsN fun _ _ _ _ _ _ us hl => match us, hl with | [_], _ => rfl) (ok_is_prime_by T F)
  have m_common_of := gl X G c 9 (x := "common_of")
  have k_common_of : Kn P w K mg base 1 "common_of" ["one", "other"] (sp_common_of K CT) [] := by
    obtain ⟨fd, F⟩ := c.def_ 1 (d := d_common_of) rfl
    have F : FnP K "common_of" s_common_of (ga K "common_of") fd := F
    exact kn_of F m_common_of (F.bindsN fun _ _ _ _ _ _ us hl => match us, hl with | [_, _], _ => rfl) (ok_common_of T F)
  have m_power_at := gl X G c 10 (x := "power_at")
  have k_power_at : Kn P w K mg base 1 "power_at" ["base", "exponent", "modulus"] (sp_power_at K CT) [] := by
    obtain ⟨fd, F⟩ := c.def_ 2 (d := d_power_at) rfl
    have F : FnP K "power_at" s_power_at (ga K "power_at") fd := F
    exact kn_of F m_power_at (F.bindsN fun _ _ _ _ _ _ us hl => match us, hl with | [_, _, _], _ => rfl) (ok_power_at T F)
  have m_table_one := gl X G c 11 (x := "table_one")
  have k_table_one : Kn P w K mg base 1 "table_one" ["size"] (sp_table_one K CT) [] := by
    obtain ⟨fd, F⟩ := c.def_ 3 (d := d_table_one) rfl
    have F : FnP K "table_one" s_table_one (ga K "table_one") fd := F
    exact kn_of F m_table_one (F.bindsN fun _ _ _ _ _ _ us hl => match us, hl with | [_], _ => rfl) (ok_table_one T F)
  have m_table_times := gl X G c 12 (x := "table_times")
  have k_table_times : Kn P w K mg base 1 "table_times" ["prime", "rows", "other"] (sp_table_times K CT) [] := by
    obtain ⟨fd, F⟩ := c.def_ 4 (d := d_table_times) rfl
    have F : FnP K "table_times" s_table_times (ga K "table_times") fd := F
    exact kn_of F m_table_times (F.bindsN fun _ _ _ _ _ _ us hl => match us, hl with | [_, _, _], _ => rfl) (ok_table_times T F)
  have m_table_power := gl X G c 13 (x := "table_power")
  have k_table_power : Kn P w K mg base 2 "table_power" ["prime", "rows", "exponent"] (sp_table_power K CT) [] := by
    obtain ⟨fd, F⟩ := c.def_ 5 (d := d_table_power) rfl
    have F : FnP K "table_power" s_table_power (ga K "table_power") fd := F
    exact kn_of F m_table_power (F.bindsN fun _ _ _ _ _ _ us hl => match us, hl with | [_, _, _], _ => rfl) (ok_table_power T F k_table_one k_table_times)
  have m_is_integer := gl X G c 14 (x := "is_integer")
  have k_is_integer : Kn P w K mg base 1 "is_integer" ["thing"] (sp_is_integer K CT) [] := by
    obtain ⟨fd, F⟩ := c.def_ 6 (d := d_is_integer) rfl
    have F : FnP K "is_integer" s_is_integer (ga K "is_integer") fd := F
    exact kn_of F m_is_integer (F.bindsN fun _ _ _ _ _ _ us hl => match us, hl with | [_], _ => rfl) (ok_is_integer T F)
  have m_is_number := gl X G c 15 (x := "is_number")
  have k_is_number : Kn P w K mg base 2 "is_number" ["thing"] (sp_is_number K CT) [] := by
    obtain ⟨fd, F⟩ := c.def_ 7 (d := d_is_number) rfl
    have F : FnP K "is_number" s_is_number (ga K "is_number") fd := F
    exact kn_of F m_is_number (F.bindsN fun _ _ _ _ _ _ us hl => match us, hl with | [_], _ => rfl) (ok_is_number T F k_is_integer)
  have m_is_above_nought := gl X G c 16 (x := "is_above_nought")
  have k_is_above_nought : Kn P w K mg base 2 "is_above_nought" ["thing"] (sp_is_above_nought K CT) [] := by
    obtain ⟨fd, F⟩ := c.def_ 8 (d := d_is_above_nought) rfl
    have F : FnP K "is_above_nought" s_is_above_nought (ga K "is_above_nought") fd := F
    exact kn_of F m_is_above_nought (F.bindsN fun _ _ _ _ _ _ us hl => match us, hl with | [_], _ => rfl) (ok_is_above_nought T F k_is_integer)
  have m_is_index := gl X G c 17 (x := "is_index")
  have k_is_index : Kn P w K mg base 3 "is_index" ["many", "thing"] (sp_is_index K CT) [] := by
    obtain ⟨fd, F⟩ := c.def_ 9 (d := d_is_index) rfl
    have F : FnP K "is_index" s_is_index (ga K "is_index") fd := F
    exact kn_of F m_is_index (F.bindsN fun _ _ _ _ _ _ us hl => match us, hl with | [_, _], _ => rfl) (ok_is_index T F k_is_number)
  have m_is_power := gl X G c 18 (x := "is_power")
  have k_is_power : Kn P w K mg base 3 "is_power" ["thing"] (sp_is_power K CT) [] := by
    obtain ⟨fd, F⟩ := c.def_ 10 (d := d_is_power) rfl
    have F : FnP K "is_power" s_is_power (ga K "is_power") fd := F
    exact kn_of F m_is_power (F.bindsN fun _ _ _ _ _ _ us hl => match us, hl with | [_], _ => rfl) (ok_is_power T F k_is_above_nought)
  have m_is_tuple_of := gl X G c 19 (x := "is_tuple_of")
  have k_is_tuple_of : Kn P w K mg base 1 "is_tuple_of" ["thing", "size"] (sp_is_tuple_of K CT) [] := by
    obtain ⟨fd, F⟩ := c.def_ 11 (d := d_is_tuple_of) rfl
    have F : FnP K "is_tuple_of" s_is_tuple_of (ga K "is_tuple_of") fd := F
    exact kn_of F m_is_tuple_of (F.bindsN fun _ _ _ _ _ _ us hl => match us, hl with | [_, _], _ => rfl) (ok_is_tuple_of T F)
  have m_is_prime := gl X G c 20 (x := "is_prime")
  have k_is_prime : Kn P w K mg base 4 "is_prime" ["thing"] (sp_is_prime K CT) [] := by
    obtain ⟨fd, F⟩ := c.def_ 12 (d := d_is_prime) rfl
    have F : FnP K "is_prime" s_is_prime (ga K "is_prime") fd := F
    exact kn_of F m_is_prime (F.bindsN fun _ _ _ _ _ _ us hl => match us, hl with | [_], _ => rfl) (ok_is_prime T F k_is_index k_is_prime_by)
  have m_is_piece_shape := gl X G c 21 (x := "is_piece_shape")
  have k_is_piece_shape : Kn P w K mg base 1 "is_piece_shape" ["thing"] (sp_is_piece_shape K CT) [] := by
    obtain ⟨fd, F⟩ := c.def_ 13 (d := d_is_piece_shape) rfl
    have F : FnP K "is_piece_shape" s_is_piece_shape (ga K "is_piece_shape") fd := F
    exact kn_of F m_is_piece_shape (F.bindsN fun _ _ _ _ _ _ us hl => match us, hl with | [_], _ => rfl) (ok_is_piece_shape T F hS)
  have m_number_fault := gl X G c 22 (x := "number_fault")
  have k_number_fault : Kn P w K mg base 5 "number_fault" ["piece"] (sp_number_fault K CT) [] := by
    obtain ⟨fd, F⟩ := c.def_ 14 (d := d_number_fault) rfl
    have F : FnP K "number_fault" s_number_fault (ga K "number_fault") fd := F
    exact kn_of F m_number_fault (F.bindsN fun _ _ _ _ _ _ us hl => match us, hl with | [_], _ => rfl) (ok_number_fault T F k_is_prime k_is_above_nought k_is_power k_is_index)
  have m_is_table := gl X G c 23 (x := "is_table")
  have k_is_table : Kn P w K mg base 4 "is_table" ["prime", "thing"] (sp_is_table K CT) [] := by
    obtain ⟨fd, F⟩ := c.def_ 15 (d := d_is_table) rfl
    have F : FnP K "is_table" s_is_table (ga K "is_table") fd := F
    exact kn_of F m_is_table (F.bindsN fun _ _ _ _ _ _ us hl => match us, hl with | [_, _], _ => rfl) (ok_is_table T F k_is_power k_is_index k_is_tuple_of)
  have m_turn_fault := gl X G c 24 (x := "turn_fault")
  have k_turn_fault : Kn P w K mg base 5 "turn_fault" ["piece"] (sp_turn_fault K CT) [] := by
    obtain ⟨fd, F⟩ := c.def_ 16 (d := d_turn_fault) rfl
    have F : FnP K "turn_fault" s_turn_fault (ga K "turn_fault") fd := F
    exact kn_of F m_turn_fault (F.bindsN fun _ _ _ _ _ _ us hl => match us, hl with | [_], _ => rfl) (ok_turn_fault T F k_table_one k_is_table k_table_power)
  have m_act_fault := gl X G c 25 (x := "act_fault")
  have k_act_fault : Kn P w K mg base 2 "act_fault" ["piece"] (sp_act_fault K CT) [] := by
    obtain ⟨fd, F⟩ := c.def_ 17 (d := d_act_fault) rfl
    have F : FnP K "act_fault" s_act_fault (ga K "act_fault") fd := F
    exact kn_of F m_act_fault (F.bindsN fun _ _ _ _ _ _ us hl => match us, hl with | [_], _ => rfl) (ok_act_fault T F k_common_of k_power_at)
  have m_piece_fault := gl X G c 26 (x := "piece_fault")
  have k_piece_fault : Kn P w K mg base 6 "piece_fault" ["piece", "k"] (sp_piece_fault K CT) [] := by
    obtain ⟨fd, F⟩ := c.def_ 18 (d := d_piece_fault) rfl
    have F : FnP K "piece_fault" s_piece_fault (ga K "piece_fault") fd := F
    exact kn_of F m_piece_fault (F.bindsN fun _ _ _ _ _ _ us hl => match us, hl with | [_, _], _ => rfl) (ok_piece_fault T F k_number_fault k_is_piece_shape k_turn_fault k_act_fault)
  have m_rule_fault := gl X G c 27 (x := "rule_fault")
  have k_rule_fault : Kn P w K mg base 7 "rule_fault" ["thing"] (sp_rule_fault K CT) [] := by
    obtain ⟨fd, F⟩ := c.def_ 19 (d := d_rule_fault) rfl
    have F : FnP K "rule_fault" s_rule_fault (ga K "rule_fault") fd := F
    exact kn_of F m_rule_fault (F.bindsN fun _ _ _ _ _ _ us hl => match us, hl with | [_], _ => rfl) (ok_rule_fault T F k_piece_fault)
  have m_want := gl X G c 28 (x := "want")
  have k_want : Kn P w K mg base 1 "want" ["is_right", "name", "place"] (sp_want K CT) [.int (-1)] := by
    obtain ⟨fd, F⟩ := c.def_ 20 (d := d_want) rfl
    have F : FunD K "want" "want" (defArgs s_want) (defBody s_want) (defScope s_want) [.int (-1)] [] (ga K "want") fd := F
    obtain ⟨ds, hd, hb⟩ := F.binds1 (ps := ["is_right", "name", "place"]) 2 0 (by simp) rfl fun _ _ _ _ _ _ _ us its h1 h2 => match us, its, h1, h2 with
      | [_, _], [_], _, _ => ⟨_, rfl, rfl⟩
    exact ⟨_, fd, ds, ok_want T F, m_want, F.kp, hb, hd⟩
  have m_want_rule := gl X G c 29 (x := "want_rule")
  have k_want_rule : Kn P w K mg base 8 "want_rule" ["thing", "name"] (sp_want_rule K CT) [.str "rule"] := by
    obtain ⟨fd, F⟩ := c.def_ 21 (d := d_want_rule) rfl
    have F : FunD K "want_rule" "want_rule" (defArgs s_want_rule) (defBody s_want_rule) (defScope s_want_rule) [.str "rule"] [] (ga K "want_rule") fd := F
    obtain ⟨ds, hd, hb⟩ := F.binds1 (ps := ["thing", "name"]) 1 0 (by simp) rfl fun _ _ _ _ _ _ _ us its h1 h2 => match us, its, h1, h2 with
      | [_], [_], _, _ => ⟨_, rfl, rfl⟩
    exact ⟨_, fd, ds, ok_want_rule T F k_want k_rule_fault, m_want_rule, F.kp, hb, hd⟩
  have m_table_word := gl X G c 30 (x := "table_word")
  have k_table_word : Kn P w K mg base 1 "table_word" ["rows"] (sp_table_word K CT) [] := by
    obtain ⟨fd, F⟩ := c.def_ 22 (d := d_table_word) rfl
    have F : FnP K "table_word" s_table_word (ga K "table_word") fd := F
    exact kn_of F m_table_word (F.bindsN fun _ _ _ _ _ _ us hl => match us, hl with | [_], _ => rfl) (ok_table_word T F)
  have m_piece_words := gl X G c 31 (x := "piece_words")
  have k_piece_words : Kn P w K mg base 2 "piece_words" ["piece"] (sp_piece_words K CT) [] := by
    obtain ⟨fd, F⟩ := c.def_ 23 (d := d_piece_words) rfl
    have F : FnP K "piece_words" s_piece_words (ga K "piece_words") fd := F
    exact kn_of F m_piece_words (F.bindsN fun _ _ _ _ _ _ us hl => match us, hl with | [_], _ => rfl) (ok_piece_words T F k_table_word)
  have m_rule_text := gl X G c 32 (x := "rule_text")
  have k_rule_text : Kn P w K mg base 9 "rule_text" ["rule"] (sp_rule_text K CT) [] := by
    obtain ⟨fd, F⟩ := c.def_ 24 (d := d_rule_text) rfl
    have F : FnP K "rule_text" s_rule_text (ga K "rule_text") fd := F
    exact kn_of F m_rule_text (F.bindsN fun _ _ _ _ _ _ us hl => match us, hl with | [_], _ => rfl) (ok_rule_text T F k_want_rule k_piece_words)
  have m_number_of := gl X G c 33 (x := "number_of")
  have k_number_of : Kn P w K mg base 1 "number_of" ["word"] (sp_number_of K CT) [] := by
    obtain ⟨fd, F⟩ := c.def_ 25 (d := d_number_of) rfl
    have F : FnP K "number_of" s_number_of (ga K "number_of") fd := F
    exact kn_of F m_number_of (F.bindsN fun _ _ _ _ _ _ us hl => match us, hl with | [_], _ => rfl) (ok_number_of T F)
  have m_word_at := gl X G c 34 (x := "word_at")
  have k_word_at : Kn P w K mg base 1 "word_at" ["words", "line", "spot"] (sp_word_at K CT) [] := by
    obtain ⟨fd, F⟩ := c.def_ 26 (d := d_word_at) rfl
    have F : FnP K "word_at" s_word_at (ga K "word_at") fd := F
    exact kn_of F m_word_at (F.bindsN fun _ _ _ _ _ _ us hl => match us, hl with | [_, _, _], _ => rfl) (ok_word_at T F TX PX)
  have m_number_within := gl X G c 35 (x := "number_within")
  have k_number_within : Kn P w K mg base 2 "number_within" ["words", "line", "spot", "least", "most"] (sp_number_within K CT) [] := by
    obtain ⟨fd, F⟩ := c.def_ 27 (d := d_number_within) rfl
    have F : FnP K "number_within" s_number_within (ga K "number_within") fd := F
    exact kn_of F m_number_within (F.bindsN fun _ _ _ _ _ _ us hl => match us, hl with | [_, _, _, _, _], _ => rfl) (ok_number_within T F k_number_of k_word_at TX PX)
  have m_prime_at := gl X G c 36 (x := "prime_at")
  have k_prime_at : Kn P w K mg base 5 "prime_at" ["words", "line", "spot"] (sp_prime_at K CT) [] := by
    obtain ⟨fd, F⟩ := c.def_ 28 (d := d_prime_at) rfl
    have F : FnP K "prime_at" s_prime_at (ga K "prime_at") fd := F
    exact kn_of F m_prime_at (F.bindsN fun _ _ _ _ _ _ us hl => match us, hl with | [_, _, _], _ => rfl) (ok_prime_at T F k_number_of k_word_at k_is_prime TX PX)
  have m_table_at := gl X G c 37 (x := "table_at")
  have k_table_at : Kn P w K mg base 5 "table_at" ["words", "line", "spot", "prime"] (sp_table_at K CT) [] := by
    obtain ⟨fd, F⟩ := c.def_ 29 (d := d_table_at) rfl
    have F : FnP K "table_at" s_table_at (ga K "table_at") fd := F
    exact kn_of F m_table_at (F.bindsN fun _ _ _ _ _ _ us hl => match us, hl with | [_, _, _, _], _ => rfl) (ok_table_at T F k_is_table k_number_of k_word_at TX PX)
  have m_turn_at := gl X G c 38 (x := "turn_at")
  have k_turn_at : Kn P w K mg base 6 "turn_at" ["words", "line", "spot"] (sp_turn_at K CT) [] := by
    obtain ⟨fd, F⟩ := c.def_ 30 (d := d_turn_at) rfl
    have F : FnP K "turn_at" s_turn_at (ga K "turn_at") fd := F
    exact kn_of F m_turn_at (F.bindsN fun _ _ _ _ _ _ us hl => match us, hl with | [_, _, _], _ => rfl) (ok_turn_at T F k_prime_at k_table_at k_turn_fault TX PX)
  have m_act_at := gl X G c 39 (x := "act_at")
  have k_act_at : Kn P w K mg base 3 "act_at" ["words", "line", "spot"] (sp_act_at K CT) [] := by
    obtain ⟨fd, F⟩ := c.def_ 31 (d := d_act_at) rfl
    have F : FnP K "act_at" s_act_at (ga K "act_at") fd := F
    exact kn_of F m_act_at (F.bindsN fun _ _ _ _ _ _ us hl => match us, hl with | [_, _, _], _ => rfl) (ok_act_at T F k_number_within k_common_of k_act_fault TX PX)
  have m_piece_at := gl X G c 40 (x := "piece_at")
  have k_piece_at : Kn P w K mg base 7 "piece_at" ["words", "line", "spot"] (sp_piece_at K CT) [] := by
    obtain ⟨fd, F⟩ := c.def_ 32 (d := d_piece_at) rfl
    have F : FnP K "piece_at" s_piece_at (ga K "piece_at") fd := F
    exact kn_of F m_piece_at (F.bindsN fun _ _ _ _ _ _ us hl => match us, hl with | [_, _, _], _ => rfl) (ok_piece_at T F k_word_at k_turn_at k_act_at k_prime_at k_number_within TX PX)
  have m_rule_of_words := gl X G c 41 (x := "rule_of_words")
  have k_rule_of_words : Kn P w K mg base 8 "rule_of_words" ["words", "line", "start"] (sp_rule_of_words K CT) [] := by
    obtain ⟨fd, F⟩ := c.def_ 33 (d := d_rule_of_words) rfl
    have F : FnP K "rule_of_words" s_rule_of_words (ga K "rule_of_words") fd := F
    exact kn_of F m_rule_of_words (F.bindsN fun _ _ _ _ _ _ us hl => match us, hl with | [_, _, _], _ => rfl) (ok_rule_of_words T F k_piece_at TX PX hS)
  have m_rule_read := gl X G c 42 (x := "rule_read")
  have k_rule_read : Kn P w K mg base 9 "rule_read" ["text"] (sp_rule_read K CT) [] := by
    obtain ⟨fd, F⟩ := c.def_ 34 (d := d_rule_read) rfl
    have F : FnP K "rule_read" s_rule_read (ga K "rule_read") fd := F
    exact kn_of F m_rule_read (F.bindsN fun _ _ _ _ _ _ us hl => match us, hl with | [_], _ => rfl) (ok_rule_read T F k_want k_rule_of_words)
  have m_is_rule := gl X G c 43 (x := "is_rule")
  have k_is_rule : Kn P w K mg base 8 "is_rule" ["thing"] (sp_is_rule K CT) [] := by
    obtain ⟨fd, F⟩ := c.def_ 35 (d := d_is_rule) rfl
    have F : FnP K "is_rule" s_is_rule (ga K "is_rule") fd := F
    exact kn_of F m_is_rule (F.bindsN fun _ _ _ _ _ _ us hl => match us, hl with | [_], _ => rfl) (ok_is_rule T F k_rule_fault)
  have m_law_feed := gl X G c 44 (x := "_law_feed")
  have k_law_feed : Kn P w K mg base 1 "_law_feed" ["_law_script"] (sp_law_feed K CT) [] := by
    obtain ⟨fd, F⟩ := c.def_ 36 (d := d_law_feed) rfl
    have F : FnP K "_law_feed" s_law_feed (ga K "_law_feed") fd := F
    exact kn_of F m_law_feed (F.bindsN fun _ _ _ _ _ _ us hl => match us, hl with | [_], _ => rfl) (ok_law_feed T F)
  have m_law_draw := gl X G c 45 (x := "_law_draw")
  have k_law_draw : Kn P w K mg base 1 "_law_draw" ["_law_feed_here", "_law_many"] (sp_law_draw K CT) [] := by
    obtain ⟨fd, F⟩ := c.def_ 37 (d := d_law_draw) rfl
    have F : FnP K "_law_draw" s_law_draw (ga K "_law_draw") fd := F
    exact kn_of F m_law_draw (F.bindsN fun _ _ _ _ _ _ us hl => match us, hl with | [_, _], _ => rfl) (ok_law_draw T F)
  have m_law_any := gl X G c 46 (x := "_law_any")
  have k_law_any : Kn P w K mg base 2 "_law_any" ["_law_feed_here", "_law_some"] (sp_law_any K CT) [] := by
    obtain ⟨fd, F⟩ := c.def_ 38 (d := d_law_any) rfl
    have F : FnP K "_law_any" s_law_any (ga K "_law_any") fd := F
    exact kn_of F m_law_any (F.bindsN fun _ _ _ _ _ _ us hl => match us, hl with | [_, _], _ => rfl) (ok_law_any T F k_law_draw)
  have m_law_is_whole := gl X G c 49 (x := "_law_is_whole")
  have k_law_is_whole : Kn P w K mg base 1 "_law_is_whole" ["_law_item"] (sp_law_is_whole K CT) [] := by
    obtain ⟨fd, F⟩ := c.def_ 41 (d := d_law_is_whole) rfl
    have F : FnP K "_law_is_whole" s_law_is_whole (ga K "_law_is_whole") fd := F
    exact kn_of F m_law_is_whole (F.bindsN fun _ _ _ _ _ _ us hl => match us, hl with | [_], _ => rfl) (ok_law_is_whole T F)
  have m_law_is_prime := gl X G c 50 (x := "_law_is_prime")
  have k_law_is_prime : Kn P w K mg base 2 "_law_is_prime" ["_law_item"] (sp_law_is_prime K CT) [] := by
    obtain ⟨fd, F⟩ := c.def_ 42 (d := d_law_is_prime) rfl
    have F : FnP K "_law_is_prime" s_law_is_prime (ga K "_law_is_prime") fd := F
    exact kn_of F m_law_is_prime (F.bindsN fun _ _ _ _ _ _ us hl => match us, hl with | [_], _ => rfl) (ok_law_is_prime T F k_law_is_whole)
  have m_law_is_table := gl X G c 51 (x := "_law_is_table")
  have k_law_is_table : Kn P w K mg base 2 "_law_is_table" ["_law_p", "_law_rows"] (sp_law_is_table K CT) [] := by
    obtain ⟨fd, F⟩ := c.def_ 43 (d := d_law_is_table) rfl
    have F : FnP K "_law_is_table" s_law_is_table (ga K "_law_is_table") fd := F
    exact kn_of F m_law_is_table (F.bindsN fun _ _ _ _ _ _ us hl => match us, hl with | [_, _], _ => rfl) (ok_law_is_table T F k_law_is_whole)
  have m_law_product := gl X G c 52 (x := "_law_product")
  have k_law_product : Kn P w K mg base 1 "_law_product" ["_law_p", "_law_one", "_law_two"] (sp_law_product K CT) [] := by
    obtain ⟨fd, F⟩ := c.def_ 44 (d := d_law_product) rfl
    have F : FnP K "_law_product" s_law_product (ga K "_law_product") fd := F
    exact kn_of F m_law_product (F.bindsN fun _ _ _ _ _ _ us hl => match us, hl with | [_, _, _], _ => rfl) (ok_law_product T F)
  have m_law_does_turn := gl X G c 53 (x := "_law_does_turn")
  have k_law_does_turn : Kn P w K mg base 2 "_law_does_turn" ["_law_p", "_law_rows", "_law_q"] (sp_law_does_turn K CT) [] := by
    obtain ⟨fd, F⟩ := c.def_ 45 (d := d_law_does_turn) rfl
    have F : FnP K "_law_does_turn" s_law_does_turn (ga K "_law_does_turn") fd := F
    exact kn_of F m_law_does_turn (F.bindsN fun _ _ _ _ _ _ us hl => match us, hl with | [_, _, _], _ => rfl) (ok_law_does_turn T F k_law_product)
  have m_law_share := gl X G c 54 (x := "_law_share")
  have k_law_share : Kn P w K mg base 1 "_law_share" ["_law_one", "_law_other"] (sp_law_share K CT) [] := by
    obtain ⟨fd, F⟩ := c.def_ 46 (d := d_law_share) rfl
    have F : FnP K "_law_share" s_law_share (ga K "_law_share") fd := F
    exact kn_of F m_law_share (F.bindsN fun _ _ _ _ _ _ us hl => match us, hl with | [_, _], _ => rfl) (ok_law_share T F)
  have m_law_does_act := gl X G c 55 (x := "_law_does_act")
  have k_law_does_act : Kn P w K mg base 1 "_law_does_act" ["_law_m", "_law_d", "_law_u"] (sp_law_does_act K CT) [] := by
    obtain ⟨fd, F⟩ := c.def_ 47 (d := d_law_does_act) rfl
    have F : FnP K "_law_does_act" s_law_does_act (ga K "_law_does_act") fd := F
    exact kn_of F m_law_does_act (F.bindsN fun _ _ _ _ _ _ us hl => match us, hl with | [_, _, _], _ => rfl) (ok_law_does_act T F)
  have m_law_turns := gl X G c 56 (x := "_law_turns")
  have k_law_turns : Kn P w K mg base 3 "_law_turns" ["_law_feed_here"] (sp_law_turns K CT) [] := by
    obtain ⟨fd, F⟩ := c.def_ 48 (d := d_law_turns) rfl
    have F : FnP K "_law_turns" s_law_turns (ga K "_law_turns") fd := F
    exact kn_of F m_law_turns (F.bindsN fun _ _ _ _ _ _ us hl => match us, hl with | [_], _ => rfl) (ok_law_turns T F k_law_draw k_law_any)
  have m_law_acts := gl X G c 57 (x := "_law_acts")
  have k_law_acts : Kn P w K mg base 3 "_law_acts" ["_law_feed_here"] (sp_law_acts K CT) [] := by
    obtain ⟨fd, F⟩ := c.def_ 49 (d := d_law_acts) rfl
    have F : FnP K "_law_acts" s_law_acts (ga K "_law_acts") fd := F
    exact kn_of F m_law_acts (F.bindsN fun _ _ _ _ _ _ us hl => match us, hl with | [_], _ => rfl) (ok_law_acts T F k_law_any k_law_draw)
  have m_law_piece := gl X G c 58 (x := "_law_piece")
  have k_law_piece : Kn P w K mg base 4 "_law_piece" ["_law_feed_here"] (sp_law_piece K CT) [] := by
    obtain ⟨fd, F⟩ := c.def_ 50 (d := d_law_piece) rfl
    have F : FnP K "_law_piece" s_law_piece (ga K "_law_piece") fd := F
    exact kn_of F m_law_piece (F.bindsN fun _ _ _ _ _ _ us hl => match us, hl with | [_], _ => rfl) (ok_law_piece T F k_law_draw k_law_turns k_law_acts k_law_any)
  have m_law_number := gl X G c 59 (x := "_law_number")
  have k_law_number : Kn P w K mg base 1 "_law_number" ["_law_word"] (sp_law_number K CT) [] := by
    obtain ⟨fd, F⟩ := c.def_ 51 (d := d_law_number) rfl
    have F : FnP K "_law_number" s_law_number (ga K "_law_number") fd := F
    exact kn_of F m_law_number (F.bindsN fun _ _ _ _ _ _ us hl => match us, hl with | [_], _ => rfl) (ok_law_number T F)
  have m_law_piece_text := gl X G c 60 (x := "_law_piece_text")
  have k_law_piece_text : Kn P w K mg base 1 "_law_piece_text" ["_law_piece_here"] (sp_law_piece_text K CT) [] := by
    obtain ⟨fd, F⟩ := c.def_ 52 (d := d_law_piece_text) rfl
    have F : FnP K "_law_piece_text" s_law_piece_text (ga K "_law_piece_text") fd := F
    exact kn_of F m_law_piece_text (F.bindsN fun _ _ _ _ _ _ us hl => match us, hl with | [_], _ => rfl) (ok_law_piece_text T F)
  have m_law_rows_in := gl X G c 61 (x := "_law_rows_in")
  have k_law_rows_in : Kn P w K mg base 2 "_law_rows_in" ["_law_word"] (sp_law_rows_in K CT) [] := by
    obtain ⟨fd, F⟩ := c.def_ 53 (d := d_law_rows_in) rfl
    have F : FnP K "_law_rows_in" s_law_rows_in (ga K "_law_rows_in") fd := F
    exact kn_of F m_law_rows_in (F.bindsN fun _ _ _ _ _ _ us hl => match us, hl with | [_], _ => rfl) (ok_law_rows_in T F k_law_number)
  have m_law_stands := gl X G c 62 (x := "_law_stands")
  have k_law_stands : Kn P w K mg base 3 "_law_stands" ["_law_parts", "_law_late"] (sp_law_stands K CT) [] := by
    obtain ⟨fd, F⟩ := c.def_ 54 (d := d_law_stands) rfl
    have F : FnP K "_law_stands" s_law_stands (ga K "_law_stands") fd := F
    exact kn_of F m_law_stands (F.bindsN fun _ _ _ _ _ _ us hl => match us, hl with | [_, _], _ => rfl) (ok_law_stands T F k_law_is_table k_law_is_prime k_law_does_turn k_law_does_act k_law_share)
  have m_law_piece_at := gl X G c 63 (x := "_law_piece_at")
  have k_law_piece_at : Kn P w K mg base 4 "_law_piece_at" ["_law_words", "_law_spot"] (sp_law_piece_at K CT) [] := by
    obtain ⟨fd, F⟩ := c.def_ 55 (d := d_law_piece_at) rfl
    have F : FnP K "_law_piece_at" s_law_piece_at (ga K "_law_piece_at") fd := F
    exact kn_of F m_law_piece_at (F.bindsN fun _ _ _ _ _ _ us hl => match us, hl with | [_, _], _ => rfl) (ok_law_piece_at T F k_law_rows_in k_law_number k_law_stands)
  have m_law_read := gl X G c 64 (x := "_law_read")
  have k_law_read : Kn P w K mg base 5 "_law_read" ["_law_line"] (sp_law_read K CT) [] := by
    obtain ⟨fd, F⟩ := c.def_ 56 (d := d_law_read) rfl
    have F : FnP K "_law_read" s_law_read (ga K "_law_read") fd := F
    exact kn_of F m_law_read (F.bindsN fun _ _ _ _ _ _ us hl => match us, hl with | [_], _ => rfl) (ok_law_read T F k_law_piece_at)
  have m_law_spoilt := gl X G c 65 (x := "_law_spoilt")
  have k_law_spoilt : Kn P w K mg base 3 "_law_spoilt" ["_law_feed_here", "_law_line"] (sp_law_spoilt K CT) [] := by
    obtain ⟨fd, F⟩ := c.def_ 57 (d := d_law_spoilt) rfl
    have F : FnP K "_law_spoilt" s_law_spoilt (ga K "_law_spoilt") fd := F
    exact kn_of F m_law_spoilt (F.bindsN fun _ _ _ _ _ _ us hl => match us, hl with | [_, _], _ => rfl) (ok_law_spoilt T F k_law_any k_law_draw)
  have k_law_same : KnG P w K mg base 1 "_law_same" ["_law_told", "_law_due"] (sp_law_same K CT) [] := by
    obtain ⟨fd, F⟩ := c.def_ 39 (d := d_law_same) rfl
    have F : FnP K "_law_same" s_law_same (ga K "_law_same") fd := F
    exact ⟨_, fd, [], ok_law_same T F, gl X G c 47, F.kp, F.bindsN (fun _ _ _ _ _ _ us hl => match us, hl with | [_, _], _ => rfl), .nil⟩
  have kw_read : Kw1 P w K mg base 9 "rule_read" "text" (sp_rule_read K CT) := by
    obtain ⟨fd, F⟩ := c.def_ 34 (d := d_rule_read) rfl
    have F : FnP K "rule_read" s_rule_read (ga K "rule_read") fd := F
    refine ⟨_, fd, ok_rule_read T F k_want k_rule_of_words, m_rule_read, F.kp, ?_⟩
    obtain ⟨oc, od, dV, kV, doc, pm, an, cdv, ct, osl, rfl, lk, hcd, hD, hK⟩ := F.ex
    rcases hD with ⟨_, rfl⟩ | ⟨z, _⟩
    · exact fun s u => .of_eq (by rfl)
    · exact absurd rfl z
  have kw_text : Kw1 P w K mg base 9 "rule_text" "rule" (sp_rule_text K CT) := by
    obtain ⟨fd, F⟩ := c.def_ 24 (d := d_rule_text) rfl
    have F : FnP K "rule_text" s_rule_text (ga K "rule_text") fd := F
    refine ⟨_, fd, ok_rule_text T F k_want_rule k_piece_words, m_rule_text, F.kp, ?_⟩
    obtain ⟨oc, od, dV, kV, doc, pm, an, cdv, ct, osl, rfl, lk, hcd, hD, hK⟩ := F.ex
    rcases hD with ⟨_, rfl⟩ | ⟨z, _⟩
    · exact fun s u => .of_eq (by rfl)
    · exact absurd rfl z
  have k_law_is_right : KnG P w K mg base 30 "_law_is_right" ["_law_line"] (spRight Tb) [] := by
    obtain ⟨fdg, Fh⟩ := c.def_ 40 (d := d_law_heard) rfl
    have Fh : FnP K "_law_heard" s_law_heard (ga K "_law_heard") fdg := Fh
    obtain ⟨fd, F⟩ := c.def_ 58 (d := d_law_is_right) rfl
    have F : FnP K "_law_is_right" s_law_is_right (ga K "_law_is_right") fd := F
    have hc : fd.code = .ref c0 := by
      obtain ⟨oc, od, dV, kV, doc, pm, an, cdv, ct, osl, rfl, lk, hcd, _, _⟩ := F.ex
      obtain ⟨c1, e1⟩ := He.codeIn_ref hcd
      have e2 : He.codeOf K ("_law_is_right", none) = c1 := He.codeOf_eq lk e1
      show cdv = _
      rw [e1, ← e2, hc0]
    refine ⟨_, fd, [], ok_law_is_right T F hc TB hT hX Fh (gl X G c 48) Fh.kp (Fh.bindsN fun _ _ _ _ _ _ us hl => match us, hl with | [_], _ => rfl) k_law_read k_rule_read k_is_rule k_rule_text k_law_same kw_read kw_text, gl X G c 66, F.kp, F.bindsN (fun _ _ _ _ _ _ us hl => match us, hl with | [_], _ => rfl), .nil⟩
  obtain ⟨fd, F⟩ := c.def_ 59 (d := d_law) rfl
  have F : FnP K "law" s_law (ga K "law") fd := F
  exact ⟨fd, F, ok_law (CT := CT) T F k_law_feed k_law_draw k_law_piece k_law_piece_text k_law_spoilt k_law_is_right⟩
end
end K13
set_option maxHeartbeats 0
/-! The end. -/
namespace K13
open PySem PySem.Spec PyProof.Rows L2
open He (ga ma)
abbrev P0 : Program := PySem.Challenge.rw_forcedtables_k13_whole_rule_texts_read.prog
theorem progX : ProgX P0 := ⟨by kernel_rfl, by kernel_rfl⟩
section
variable {w : World} {h : Heap} {K : PySem.W.Frag} {mg : Str → Option Value} {fa : Addr}
abbrev pR : He.Defn := ("_law_is_right", none)
theorem at_end (X : K.In h) (G : h.Ns mainGlobals mg) (s : SaysK w h K) (hl : mg "law" = some (.ref fa)) : ∃ (K : PySem.W.Frag) (fd : FuncData) (c Pt : Addr) (sp : Sp), K.In h ∧ h.get? Pt = some bareO ∧ K.lookup Pt = none ∧ PySem.W.CodeHd h c Pt ∧
      (∀ (s : Shared) (u : Value), BindsTo s fd ⟨[u], []⟩ [("_law_script", u)]) ∧ (∀ (H : Hp) (a : Addr) (ns : List Int), H Pt = some (.tbl #[]) → SqL K H a (ns.map V.int) → sp [.ref a] H (fun v _ => v = .bl true) fun _ _ _ => False) ∧
      ∀ base : Heap, K.In base → base.Ns mainGlobals mg → LamX.TabB base mg c Pt → FnG P0 w K mg base (L2.CX P0 w) 31 fa fd ["_law_script"] sp := by
  have hp : pR ∈ tfs := List.mem_singleton.mpr rfl
  have c := s.x.t.d
  have ea := hl.symm.trans (gl X G c 67 (x := "law"))
  have ef : fa = ga K "law" := by
    cases ea
    rfl
  subst ef
  obtain ⟨fd, F⟩ := c.def_ 59 (d := d_law) rfl
  have F : FnP K "law" s_law (ga K "law") fd := F
  have bd := F.bindsA (ps := ["_law_script"]) fun _ _ _ _ _ _ us hl => match us, hl with
    | [_], _ => rfl
  refine ⟨K, fd, (He.cT K pR).1, (He.cT K pR).2, spLaw K [((He.cT K pR).2, qR)], X, s.x.empty pR hp, s.x.out pR hp, PySem.W.codeHd_of_K X (s.x.hd pR hp), fun s u => bd s [u] rfl, fun H a ns ht hS => ⟨a, ns, rfl, hS, fun p hp => ?_, fun _ => rfl⟩, fun base _ _ TB => ?_⟩
  · rw [List.mem_singleton.mp hp]
    exact .nil ht
  · obtain ⟨fd2, F2, ok⟩ := law_keeps (P := P0) progX X G s TB rfl rfl
    obtain ⟨_, _, _, _, _, _, _, _, _, _, _, l1, _⟩ := F.ex
    obtain ⟨_, _, _, _, _, _, _, _, _, _, _, l2, _⟩ := F2.ex
    rw [l1] at l2
    have e : fd = fd2 := by
      cases l2
      rfl
    rw [e]
    exact ok
end
end K13
open PySem PySem.W PySem.Calls PyProof.Rows
theorem PySem.Challenge.cw_forcedtables_k13_whole_rule_texts_read_holds : PySem.Challenge.rw_forcedtables_k13_whole_rule_texts_read.Holds := by
  w_on; o_law
  refine HandSHeadRun.head_any (r := K13.RR) (q := view K13.RR.prog [90]) (H := K13.hkK) (ob := K13.obH) (M := 4000) (loose := K13.looseAll) (d := HandSHeadRun.topDef K13.RR.prog 90) (kwd := []) K13.obH_eq
    (by kernel_rfl) (fun s => by kernel_rfl) K13.runK (by kernel_rfl) (by kernel_rfl) (by kernel_rfl) (by rfl) (by first | assumption | decide +kernel) (by decide +kernel) ⟨rfl, rfl, rfl, rfl, rfl, by decide +kernel⟩ ?hw ?hc
  case hw => w_witness2
  case hc =>
    refine K13.walk_end (l := PySem.Challenge.rw_forcedtables_k13_whole_rule_texts_read) (n := 63) (k := 31) (x := "_law_script") rfl (by decide) (by kernel_rfl) ⟨rfl, by decide, by decide⟩ ?F
    intro w mg fa h Y G hmg0
    obtain ⟨K, KX, s⟩ := Y
    have hmg : mg ("law" : PySem.Str) = some (.ref fa) := by
      have e : (HandSHeadRun.topDef K13.RR.prog 90).name = ("law" : PySem.Str) := by kernel_rfl
      rw [← e]
      exact hmg0
    exact K13.at_end KX G s hmg
