import PyProof.Rows.All
import Wide.All
import OpenK.AllK
import Wide.FinOn
import HandS.HeadHook3
import HandS.Head2
import HandS.HeadEnd
import PySem.Challenge.RW_oldhands_k85_kinds_in_words
import HandS.ForMost
import HandS.ForExc
import HandS.Walk
import HandS.Wide
import HandS.IsInst
import HandS.StrMore
import HandS.Defaults
import HandS.Strs
import KE.KIntText
set_option Elab.async false
set_option linter.all false
set_option maxRecDepth 100000
set_option maxHeartbeats 0
section F_H85
/-! The head: what the text has at its names (printed by gen2.py). -/
namespace O85
open PySem PySem.Spec PyProof.Rows L2
abbrev Fg := PySem.W.Frag
abbrev PR : Program := PySem.Challenge.pw_oldhands_k85_kinds_in_words
def topS (i : Nat) : Stmt := PR.main.body.getD i (.Pass ⟨0, 0, 0, 0⟩)
def inClass (s : Stmt) (j : Nat) : Stmt := match s with
  | .ClassDef (body := b) .. => b.getD j (.Pass ⟨0, 0, 0, 0⟩)
  | _ => .Pass ⟨0, 0, 0, 0⟩
abbrev s_in_brackets : Stmt := topS 3
abbrev s_pairs_text : Stmt := topS 4
abbrev s_kind_text : Stmt := topS 5
abbrev s_is_whole : Stmt := topS 22
abbrev s_is_number_kind : Stmt := topS 25
abbrev s_is_name : Stmt := topS 21
abbrev s_are_names : Stmt := topS 24
abbrev s_is_choice_kind : Stmt := topS 26
abbrev s_is_count : Stmt := topS 23
abbrev s_is_field : Stmt := topS 27
abbrev s_are_fields : Stmt := topS 28
abbrev s_field_kind : Stmt := topS 29
abbrev s_has_key : Stmt := topS 30
abbrev s_kinds_within : Stmt := topS 31
abbrev s_kinds_left : Stmt := topS 32
abbrev s_made_kind : Stmt := topS 33
abbrev s_TextReader_taken : Stmt := inClass (topS 47) 3
abbrev s_TextReader_ended : Stmt := inClass (topS 47) 6
abbrev s_TextReader_next_is : Stmt := inClass (topS 47) 1
abbrev s_TextReader_due : Stmt := inClass (topS 47) 2
abbrev s_TextReader_closed : Stmt := inClass (topS 47) 5
abbrev s_TextReader_part : Stmt := inClass (topS 47) 16
abbrev s_TextReader_parts : Stmt := inClass (topS 47) 17
abbrev s_TextReader_goes_on : Stmt := inClass (topS 47) 7
abbrev s_TextReader_kind_pairs : Stmt := inClass (topS 47) 9
abbrev s_TextReader_names : Stmt := inClass (topS 47) 8
abbrev s_TextReader_kind_parts : Stmt := inClass (topS 47) 13
abbrev s_TextReader_opened : Stmt := inClass (topS 47) 4
abbrev s_TextReader_kind : Stmt := inClass (topS 47) 14
abbrev s_is_sign : Stmt := topS 35
abbrev s_quoted_end : Stmt := topS 44
abbrev s_run_end : Stmt := topS 43
abbrev s_number_end : Stmt := topS 45
abbrev s_words_of : Stmt := topS 46
abbrev s_TextReader_init : Stmt := inClass (topS 47) 0
abbrev s_read_kind : Stmt := topS 48
abbrev s__law_digit : Stmt := topS 53
abbrev s__law_loose : Stmt := topS 62
abbrev s__law_tight : Stmt := topS 61
abbrev s__law_kind_words : Stmt := topS 60
abbrev s__law_names : Stmt := topS 54
abbrev s__law_record_kind : Stmt := topS 57
abbrev s__law_number_kind : Stmt := topS 55
abbrev s__law_rows_kind : Stmt := topS 58
abbrev s__law_leaf_kind : Stmt := topS 56
abbrev s__law_kind : Stmt := topS 59
abbrev s__law_mixed : Stmt := topS 51
abbrev s__law_cell_at : Stmt := topS 50
abbrev s__law_own : Stmt := topS 52
abbrev s_law : Stmt := topS 63
abbrev s_TextReader_turn : Stmt := inClass (topS 47) 18
abbrev s_TextReader_value : Stmt := inClass (topS 47) 15
def d_in_brackets : He.DefD := ⟨("in_brackets", none), "in_brackets", "in_brackets", defArgs s_in_brackets, defBody s_in_brackets, defScope s_in_brackets, [], []⟩
def d_pairs_text : He.DefD := ⟨("pairs_text", none), "pairs_text", "pairs_text", defArgs s_pairs_text, defBody s_pairs_text, defScope s_pairs_text, [], []⟩
def d_kind_text : He.DefD := ⟨("kind_text", none), "kind_text", "kind_text", defArgs s_kind_text, defBody s_kind_text, defScope s_kind_text, [], []⟩
def d_is_whole : He.DefD := ⟨("is_whole", none), "is_whole", "is_whole", defArgs s_is_whole, defBody s_is_whole, defScope s_is_whole, [], []⟩
def d_is_number_kind : He.DefD := ⟨("is_number_kind", none), "is_number_kind", "is_number_kind", defArgs s_is_number_kind, defBody s_is_number_kind, defScope s_is_number_kind, [], []⟩
def d_is_name : He.DefD := ⟨("is_name", none), "is_name", "is_name", defArgs s_is_name, defBody s_is_name, defScope s_is_name, [], []⟩
def d_are_names : He.DefD := ⟨("are_names", none), "are_names", "are_names", defArgs s_are_names, defBody s_are_names, defScope s_are_names, [], []⟩
def d_is_choice_kind : He.DefD := ⟨("is_choice_kind", none), "is_choice_kind", "is_choice_kind", defArgs s_is_choice_kind, defBody s_is_choice_kind, defScope s_is_choice_kind, [], []⟩
def d_is_count : He.DefD := ⟨("is_count", none), "is_count", "is_count", defArgs s_is_count, defBody s_is_count, defScope s_is_count, [], []⟩
def d_is_field : He.DefD := ⟨("is_field", none), "is_field", "is_field", defArgs s_is_field, defBody s_is_field, defScope s_is_field, [], []⟩
def d_are_fields : He.DefD := ⟨("are_fields", none), "are_fields", "are_fields", defArgs s_are_fields, defBody s_are_fields, defScope s_are_fields, [], []⟩
def d_field_kind : He.DefD := ⟨("field_kind", none), "field_kind", "field_kind", defArgs s_field_kind, defBody s_field_kind, defScope s_field_kind, [], []⟩
def d_has_key : He.DefD := ⟨("has_key", none), "has_key", "has_key", defArgs s_has_key, defBody s_has_key, defScope s_has_key, [], []⟩
def d_kinds_within : He.DefD := ⟨("kinds_within", none), "kinds_within", "kinds_within", defArgs s_kinds_within, defBody s_kinds_within, defScope s_kinds_within, [], []⟩
def d_kinds_left : He.DefD := ⟨("kinds_left", none), "kinds_left", "kinds_left", defArgs s_kinds_left, defBody s_kinds_left, defScope s_kinds_left, [], []⟩
def d_made_kind : He.DefD := ⟨("made_kind", none), "made_kind", "made_kind", defArgs s_made_kind, defBody s_made_kind, defScope s_made_kind, [], []⟩
def d_TextReader_taken : He.DefD := ⟨("TextReader", some "taken"), "taken", "TextReader.taken", defArgs s_TextReader_taken, defBody s_TextReader_taken, defScope s_TextReader_taken, [], []⟩
def d_TextReader_ended : He.DefD := ⟨("TextReader", some "ended"), "ended", "TextReader.ended", defArgs s_TextReader_ended, defBody s_TextReader_ended, defScope s_TextReader_ended, [], []⟩
def d_TextReader_next_is : He.DefD := ⟨("TextReader", some "next_is"), "next_is", "TextReader.next_is", defArgs s_TextReader_next_is, defBody s_TextReader_next_is, defScope s_TextReader_next_is, [], []⟩
def d_TextReader_due : He.DefD := ⟨("TextReader", some "due"), "due", "TextReader.due", defArgs s_TextReader_due, defBody s_TextReader_due, defScope s_TextReader_due, [], []⟩
def d_TextReader_closed : He.DefD := ⟨("TextReader", some "closed"), "closed", "TextReader.closed", defArgs s_TextReader_closed, defBody s_TextReader_closed, defScope s_TextReader_closed, [], []⟩
def d_TextReader_part : He.DefD := ⟨("TextReader", some "part"), "part", "TextReader.part", defArgs s_TextReader_part, defBody s_TextReader_part, defScope s_TextReader_part, [], []⟩
def d_TextReader_parts : He.DefD := ⟨("TextReader", some "parts"), "parts", "TextReader.parts", defArgs s_TextReader_parts, defBody s_TextReader_parts, defScope s_TextReader_parts, [], []⟩
def d_TextReader_goes_on : He.DefD := ⟨("TextReader", some "goes_on"), "goes_on", "TextReader.goes_on", defArgs s_TextReader_goes_on, defBody s_TextReader_goes_on, defScope s_TextReader_goes_on, [], []⟩
def d_TextReader_kind_pairs : He.DefD := ⟨("TextReader", some "kind_pairs"), "kind_pairs", "TextReader.kind_pairs", defArgs s_TextReader_kind_pairs, defBody s_TextReader_kind_pairs, defScope s_TextReader_kind_pairs, [], []⟩
def d_TextReader_names : He.DefD := ⟨("TextReader", some "names"), "names", "TextReader.names", defArgs s_TextReader_names, defBody s_TextReader_names, defScope s_TextReader_names, [], []⟩
def d_TextReader_kind_parts : He.DefD := ⟨("TextReader", some "kind_parts"), "kind_parts", "TextReader.kind_parts", defArgs s_TextReader_kind_parts, defBody s_TextReader_kind_parts, defScope s_TextReader_kind_parts, [], []⟩
def d_TextReader_opened : He.DefD := ⟨("TextReader", some "opened"), "opened", "TextReader.opened", defArgs s_TextReader_opened, defBody s_TextReader_opened, defScope s_TextReader_opened, [], []⟩
def d_TextReader_kind : He.DefD := ⟨("TextReader", some "kind"), "kind", "TextReader.kind", defArgs s_TextReader_kind, defBody s_TextReader_kind, defScope s_TextReader_kind, [], []⟩
def d_is_sign : He.DefD := ⟨("is_sign", none), "is_sign", "is_sign", defArgs s_is_sign, defBody s_is_sign, defScope s_is_sign, [], []⟩
def d_quoted_end : He.DefD := ⟨("quoted_end", none), "quoted_end", "quoted_end", defArgs s_quoted_end, defBody s_quoted_end, defScope s_quoted_end, [], []⟩
def d_run_end : He.DefD := ⟨("run_end", none), "run_end", "run_end", defArgs s_run_end, defBody s_run_end, defScope s_run_end, [], []⟩
def d_number_end : He.DefD := ⟨("number_end", none), "number_end", "number_end", defArgs s_number_end, defBody s_number_end, defScope s_number_end, [], []⟩
def d_words_of : He.DefD := ⟨("words_of", none), "words_of", "words_of", defArgs s_words_of, defBody s_words_of, defScope s_words_of, [], []⟩
def d_TextReader_init : He.DefD := ⟨("TextReader", some "__init__"), "__init__", "TextReader.__init__", defArgs s_TextReader_init, defBody s_TextReader_init, defScope s_TextReader_init, [], []⟩
def d_read_kind : He.DefD := ⟨("read_kind", none), "read_kind", "read_kind", defArgs s_read_kind, defBody s_read_kind, defScope s_read_kind, [], []⟩
def d__law_digit : He.DefD := ⟨("_law_digit", none), "_law_digit", "_law_digit", defArgs s__law_digit, defBody s__law_digit, defScope s__law_digit, [], []⟩
def d__law_loose : He.DefD := ⟨("_law_loose", none), "_law_loose", "_law_loose", defArgs s__law_loose, defBody s__law_loose, defScope s__law_loose, [], []⟩
def d__law_tight : He.DefD := ⟨("_law_tight", none), "_law_tight", "_law_tight", defArgs s__law_tight, defBody s__law_tight, defScope s__law_tight, [], []⟩
def d__law_kind_words : He.DefD := ⟨("_law_kind_words", none), "_law_kind_words", "_law_kind_words", defArgs s__law_kind_words, defBody s__law_kind_words, defScope s__law_kind_words, [], []⟩
def d__law_names : He.DefD := ⟨("_law_names", none), "_law_names", "_law_names", defArgs s__law_names, defBody s__law_names, defScope s__law_names, [], []⟩
def d__law_record_kind : He.DefD := ⟨("_law_record_kind", none), "_law_record_kind", "_law_record_kind", defArgs s__law_record_kind, defBody s__law_record_kind, defScope s__law_record_kind, [], []⟩
def d__law_number_kind : He.DefD := ⟨("_law_number_kind", none), "_law_number_kind", "_law_number_kind", defArgs s__law_number_kind, defBody s__law_number_kind, defScope s__law_number_kind, [], []⟩
def d__law_rows_kind : He.DefD := ⟨("_law_rows_kind", none), "_law_rows_kind", "_law_rows_kind", defArgs s__law_rows_kind, defBody s__law_rows_kind, defScope s__law_rows_kind, [], []⟩
def d__law_leaf_kind : He.DefD := ⟨("_law_leaf_kind", none), "_law_leaf_kind", "_law_leaf_kind", defArgs s__law_leaf_kind, defBody s__law_leaf_kind, defScope s__law_leaf_kind, [], []⟩
def d__law_kind : He.DefD := ⟨("_law_kind", none), "_law_kind", "_law_kind", defArgs s__law_kind, defBody s__law_kind, defScope s__law_kind, [], []⟩
def d__law_mixed : He.DefD := ⟨("_law_mixed", none), "_law_mixed", "_law_mixed", defArgs s__law_mixed, defBody s__law_mixed, defScope s__law_mixed, [], []⟩
def d__law_cell_at : He.DefD := ⟨("_law_cell_at", none), "_law_cell_at", "_law_cell_at", defArgs s__law_cell_at, defBody s__law_cell_at, defScope s__law_cell_at, [], []⟩
def d__law_own : He.DefD := ⟨("_law_own", none), "_law_own", "_law_own", defArgs s__law_own, defBody s__law_own, defScope s__law_own, [], []⟩
def d_law : He.DefD := ⟨("law", none), "law", "law", defArgs s_law, defBody s_law, defScope s_law, [], []⟩
def d_TextReader_turn : He.DefD := ⟨("TextReader", some "turn"), "turn", "TextReader.turn", defArgs s_TextReader_turn, defBody s_TextReader_turn, defScope s_TextReader_turn, [], []⟩
def d_TextReader_value : He.DefD := ⟨("TextReader", some "value"), "value", "TextReader.value", defArgs s_TextReader_value, defBody s_TextReader_value, defScope s_TextReader_value, [], []⟩
def heFn : List He.DefD := [d_in_brackets, d_pairs_text, d_kind_text, d_is_whole, d_is_number_kind, d_is_name, d_are_names, d_is_choice_kind, d_is_count, d_is_field, d_are_fields, d_field_kind, d_has_key, d_kinds_within, d_kinds_left, d_made_kind, d_TextReader_taken, d_TextReader_ended, d_TextReader_next_is, d_TextReader_due, d_TextReader_closed, d_TextReader_part, d_TextReader_parts, d_TextReader_goes_on, d_TextReader_kind_pairs, d_TextReader_names, d_TextReader_kind_parts, d_TextReader_opened, d_TextReader_kind, d_is_sign, d_quoted_end, d_run_end, d_number_end, d_words_of, d_TextReader_init, d_read_kind, d__law_digit, d__law_loose, d__law_tight, d__law_kind_words, d__law_names, d__law_record_kind, d__law_number_kind, d__law_rows_kind, d__law_leaf_kind, d__law_kind, d__law_mixed, d__law_cell_at, d__law_own, d_law, d_TextReader_turn, d_TextReader_value]
def heFa0 : List He.Fa := [.glo "in_brackets", .glo "pairs_text", .glo "kind_text", .glo "is_whole", .glo "is_number_kind", .glo "is_name", .glo "are_names", .glo "is_choice_kind", .glo "is_count", .glo "is_field", .glo "are_fields", .glo "field_kind", .glo "has_key", .glo "kinds_within", .glo "kinds_left", .glo "made_kind", .glo "is_sign", .glo "quoted_end", .glo "run_end", .glo "number_end"]
def heFa1 : List He.Fa := [.glo "words_of", .glo "read_kind", .glo "_law_digit", .glo "_law_loose", .glo "_law_tight", .glo "_law_kind_words", .glo "_law_names", .glo "_law_record_kind", .glo "_law_number_kind", .glo "_law_rows_kind", .glo "_law_leaf_kind", .glo "_law_kind", .glo "_law_mixed", .glo "_law_cell_at", .glo "_law_own", .glo "law", .free "str", .free "bool", .free "int", .free "isinstance"]
def heFa2 : List He.Fa := [.free "len", .int "MOST_NUMBER" 1000000000000000000000000000000, .free "all", .str "EACH" "each", .str "LETTERS_kinds" "abcdefghijklmnopqrstuvwxyz", .int "LONGEST_NAME" 8, .free "set", .free "tuple", .int "MOST_WORDS" 8, .free "sorted", .int "MOST_FIELDS" 8, .int "MOST_ITEMS" 8, .int "MOST_SIGNS" 60, .int "DEEPEST" 5, .int "MOST_KINDS" 40, .glo "BadKind", .exc "BadKind", .glo "TextReader", .cls "TextReader", .noat "TextReader" "at"]
def heFa3 : List He.Fa := [.noat "TextReader" "words", .glo "BadText", .exc "BadText", .meth "TextReader" "taken", .meth "TextReader" "next_is", .noat "TextReader" "deep", .meth "TextReader" "due", .meth "TextReader" "kind", .meth "TextReader" "turn", .meth "TextReader" "value", .meth "TextReader" "part", .meth "TextReader" "goes_on", .meth "TextReader" "kind_pairs", .meth "TextReader" "names", .meth "TextReader" "parts", .int "MOST_DEEP" 40, .meth "TextReader" "closed", .meth "TextReader" "kind_parts", .meth "TextReader" "opened", .free "ord"]
def heFa4 : List He.Fa := [.str "FIGURES" "0123456789", .int "MOST_FIGURES" 60, .str "LETTERS_texts" "abcdefghijklmnopqrstuvwxyz", .int "LONGEST" 8, .str "SIGNS" "()[]{},:;/", .meth "TextReader" "ended", .mkr "TextReader", .free "range", .free "min", .free "sum"]
def heFa : List He.Fa := heFa0 ++ heFa1 ++ heFa2 ++ heFa3 ++ heFa4
def heLo0 : List PySem.Str := ["_wall", "TURNS", "in_brackets", "pairs_text", "kind_text", "HandError", "BadKind", "BadText", "LETTERS_kinds", "LONGEST_NAME", "EACH", "MOST_NUMBER", "MOST_SIGNS", "MOST_WORDS", "MOST_ITEMS", "MOST_FIELDS", "MOST_KINDS", "DEEPEST", "is_name", "is_whole"]
def heLo1 : List PySem.Str := ["is_count", "are_names", "is_number_kind", "is_choice_kind", "is_field", "are_fields", "field_kind", "has_key", "kinds_within", "kinds_left", "made_kind", "is_sign", "LETTERS_texts", "FIGURES", "SIGNS", "LONGEST", "MOST_FIGURES", "MOST_DEEP", "run_end", "quoted_end"]
def heLo2 : List PySem.Str := ["number_end", "words_of", "TextReader", "read_kind", "_law_cell_at", "_law_mixed", "_law_own", "_law_digit", "_law_names", "_law_number_kind", "_law_leaf_kind", "_law_record_kind", "_law_rows_kind", "_law_kind", "_law_kind_words", "_law_tight", "_law_loose"]
def heLo : List PySem.Str := heLo0 ++ heLo1 ++ heLo2
def heAt : Nat := 63
def heTabs : List He.Tab := []
structure Txt (w : World) (K : Fg) (mg : Str → Option Value) : Prop where
  c : He.SaysT heFa heFn heTabs w K
  ex : ∃ h : Heap, K.In h ∧ h.Ns mainGlobals mg
section
variable {w : World} {K : Fg} {mg : Str → Option Value}
theorem Txt.elim (T : Txt w K mg) {p : Prop} (f : ∀ {h : Heap}, K.In h → h.Ns mainGlobals mg → He.SaysT heFa heFn heTabs w K → p) : p := let ⟨_, X, G⟩ := T.ex; f X G T.c
noncomputable def fdOf (K : Fg) (d : He.DefD) : FuncData := @Classical.epsilon FuncData ⟨(default : FuncData)⟩ fun fd => FunD K d.name d.qual d.params d.body d.scope (d.dvs K) (d.kws K) (He.fAd K d.at_) fd
theorem fdOf_ok {d : He.DefD} (h : ∃ fd, FunD K d.name d.qual d.params d.body d.scope (d.dvs K) (d.kws K) (He.fAd K d.at_) fd) : FunD K d.name d.qual d.params d.body d.scope (d.dvs K) (d.kws K) (He.fAd K d.at_) (fdOf K d) := @Classical.epsilon_spec FuncData (fun fd => FunD K d.name d.qual d.params d.body d.scope (d.dvs K) (d.kws K) (He.fAd K d.at_) fd) h
theorem Txt.F_in_brackets (T : Txt w K mg) : FunD K "in_brackets" "in_brackets" (defArgs s_in_brackets) (defBody s_in_brackets) (defScope s_in_brackets) [] [] (He.fAd K d_in_brackets.at_) (fdOf K d_in_brackets) := fdOf_ok (T.c.d.def_ 0 (d := d_in_brackets) rfl)
theorem Txt.b_in_brackets (T : Txt w K mg) : Binds K (fdOf K d_in_brackets) ["word", "texts"] [] := T.F_in_brackets.bindsN fun _ _ _ _ _ _ us hl => match us, hl with | [_, _], _ => rfl
theorem Txt.F_pairs_text (T : Txt w K mg) : FunD K "pairs_text" "pairs_text" (defArgs s_pairs_text) (defBody s_pairs_text) (defScope s_pairs_text) [] [] (He.fAd K d_pairs_text.at_) (fdOf K d_pairs_text) := fdOf_ok (T.c.d.def_ 1 (d := d_pairs_text) rfl)
theorem Txt.b_pairs_text (T : Txt w K mg) : Binds K (fdOf K d_pairs_text) ["pairs"] [] := T.F_pairs_text.bindsN fun _ _ _ _ _ _ us hl => match us, hl with | [_], _ => rfl
theorem Txt.F_kind_text (T : Txt w K mg) : FunD K "kind_text" "kind_text" (defArgs s_kind_text) (defBody s_kind_text) (defScope s_kind_text) [] [] (He.fAd K d_kind_text.at_) (fdOf K d_kind_text) := fdOf_ok (T.c.d.def_ 2 (d := d_kind_text) rfl)
theorem Txt.b_kind_text (T : Txt w K mg) : Binds K (fdOf K d_kind_text) ["kind"] [] := T.F_kind_text.bindsN fun _ _ _ _ _ _ us hl => match us, hl with | [_], _ => rfl
theorem Txt.F_is_whole (T : Txt w K mg) : FunD K "is_whole" "is_whole" (defArgs s_is_whole) (defBody s_is_whole) (defScope s_is_whole) [] [] (He.fAd K d_is_whole.at_) (fdOf K d_is_whole) := fdOf_ok (T.c.d.def_ 3 (d := d_is_whole) rfl)
theorem Txt.b_is_whole (T : Txt w K mg) : Binds K (fdOf K d_is_whole) ["thing"] [] := T.F_is_whole.bindsN fun _ _ _ _ _ _ us hl => match us, hl with | [_], _ => rfl
theorem Txt.F_is_number_kind (T : Txt w K mg) : FunD K "is_number_kind" "is_number_kind" (defArgs s_is_number_kind) (defBody s_is_number_kind) (defScope s_is_number_kind) [] [] (He.fAd K d_is_number_kind.at_) (fdOf K d_is_number_kind) := fdOf_ok (T.c.d.def_ 4 (d := d_is_number_kind) rfl)
theorem Txt.b_is_number_kind (T : Txt w K mg) : Binds K (fdOf K d_is_number_kind) ["kind"] [] := T.F_is_number_kind.bindsN fun _ _ _ _ _ _ us hl => match us, hl with | [_], _ => rfl
theorem Txt.F_is_name (T : Txt w K mg) : FunD K "is_name" "is_name" (defArgs s_is_name) (defBody s_is_name) (defScope s_is_name) [] [] (He.fAd K d_is_name.at_) (fdOf K d_is_name) := fdOf_ok (T.c.d.def_ 5 (d := d_is_name) rfl)
theorem Txt.b_is_name (T : Txt w K mg) : Binds K (fdOf K d_is_name) ["text"] [] := T.F_is_name.bindsN fun _ _ _ _ _ _ us hl => match us, hl with | [_], _ => rfl
theorem Txt.F_are_names (T : Txt w K mg) : FunD K "are_names" "are_names" (defArgs s_are_names) (defBody s_are_names) (defScope s_are_names) [] [] (He.fAd K d_are_names.at_) (fdOf K d_are_names) := fdOf_ok (T.c.d.def_ 6 (d := d_are_names) rfl)
theorem Txt.b_are_names (T : Txt w K mg) : Binds K (fdOf K d_are_names) ["things"] [] := T.F_are_names.bindsN fun _ _ _ _ _ _ us hl => match us, hl with | [_], _ => rfl
theorem Txt.F_is_choice_kind (T : Txt w K mg) : FunD K "is_choice_kind" "is_choice_kind" (defArgs s_is_choice_kind) (defBody s_is_choice_kind) (defScope s_is_choice_kind) [] [] (He.fAd K d_is_choice_kind.at_) (fdOf K d_is_choice_kind) := fdOf_ok (T.c.d.def_ 7 (d := d_is_choice_kind) rfl)
theorem Txt.b_is_choice_kind (T : Txt w K mg) : Binds K (fdOf K d_is_choice_kind) ["kind"] [] := T.F_is_choice_kind.bindsN fun _ _ _ _ _ _ us hl => match us, hl with | [_], _ => rfl
theorem Txt.F_is_count (T : Txt w K mg) : FunD K "is_count" "is_count" (defArgs s_is_count) (defBody s_is_count) (defScope s_is_count) [] [] (He.fAd K d_is_count.at_) (fdOf K d_is_count) := fdOf_ok (T.c.d.def_ 8 (d := d_is_count) rfl)
theorem Txt.b_is_count (T : Txt w K mg) : Binds K (fdOf K d_is_count) ["thing", "most"] [] := T.F_is_count.bindsN fun _ _ _ _ _ _ us hl => match us, hl with | [_, _], _ => rfl
theorem Txt.F_is_field (T : Txt w K mg) : FunD K "is_field" "is_field" (defArgs s_is_field) (defBody s_is_field) (defScope s_is_field) [] [] (He.fAd K d_is_field.at_) (fdOf K d_is_field) := fdOf_ok (T.c.d.def_ 9 (d := d_is_field) rfl)
theorem Txt.b_is_field (T : Txt w K mg) : Binds K (fdOf K d_is_field) ["thing"] [] := T.F_is_field.bindsN fun _ _ _ _ _ _ us hl => match us, hl with | [_], _ => rfl
theorem Txt.F_are_fields (T : Txt w K mg) : FunD K "are_fields" "are_fields" (defArgs s_are_fields) (defBody s_are_fields) (defScope s_are_fields) [] [] (He.fAd K d_are_fields.at_) (fdOf K d_are_fields) := fdOf_ok (T.c.d.def_ 10 (d := d_are_fields) rfl)
theorem Txt.b_are_fields (T : Txt w K mg) : Binds K (fdOf K d_are_fields) ["things"] [] := T.F_are_fields.bindsN fun _ _ _ _ _ _ us hl => match us, hl with | [_], _ => rfl
theorem Txt.F_field_kind (T : Txt w K mg) : FunD K "field_kind" "field_kind" (defArgs s_field_kind) (defBody s_field_kind) (defScope s_field_kind) [] [] (He.fAd K d_field_kind.at_) (fdOf K d_field_kind) := fdOf_ok (T.c.d.def_ 11 (d := d_field_kind) rfl)
theorem Txt.b_field_kind (T : Txt w K mg) : Binds K (fdOf K d_field_kind) ["kind", "name"] [] := T.F_field_kind.bindsN fun _ _ _ _ _ _ us hl => match us, hl with | [_, _], _ => rfl
theorem Txt.F_has_key (T : Txt w K mg) : FunD K "has_key" "has_key" (defArgs s_has_key) (defBody s_has_key) (defScope s_has_key) [] [] (He.fAd K d_has_key.at_) (fdOf K d_has_key) := fdOf_ok (T.c.d.def_ 12 (d := d_has_key) rfl)
theorem Txt.b_has_key (T : Txt w K mg) : Binds K (fdOf K d_has_key) ["kind", "key"] [] := T.F_has_key.bindsN fun _ _ _ _ _ _ us hl => match us, hl with | [_, _], _ => rfl
theorem Txt.F_kinds_within (T : Txt w K mg) : FunD K "kinds_within" "kinds_within" (defArgs s_kinds_within) (defBody s_kinds_within) (defScope s_kinds_within) [] [] (He.fAd K d_kinds_within.at_) (fdOf K d_kinds_within) := fdOf_ok (T.c.d.def_ 13 (d := d_kinds_within) rfl)
theorem Txt.b_kinds_within (T : Txt w K mg) : Binds K (fdOf K d_kinds_within) ["kind"] [] := T.F_kinds_within.bindsN fun _ _ _ _ _ _ us hl => match us, hl with | [_], _ => rfl
theorem Txt.F_kinds_left (T : Txt w K mg) : FunD K "kinds_left" "kinds_left" (defArgs s_kinds_left) (defBody s_kinds_left) (defScope s_kinds_left) [] [] (He.fAd K d_kinds_left.at_) (fdOf K d_kinds_left) := fdOf_ok (T.c.d.def_ 14 (d := d_kinds_left) rfl)
theorem Txt.b_kinds_left (T : Txt w K mg) : Binds K (fdOf K d_kinds_left) ["kind", "deep", "left"] [] := T.F_kinds_left.bindsN fun _ _ _ _ _ _ us hl => match us, hl with | [_, _, _], _ => rfl
theorem Txt.F_made_kind (T : Txt w K mg) : FunD K "made_kind" "made_kind" (defArgs s_made_kind) (defBody s_made_kind) (defScope s_made_kind) [] [] (He.fAd K d_made_kind.at_) (fdOf K d_made_kind) := fdOf_ok (T.c.d.def_ 15 (d := d_made_kind) rfl)
theorem Txt.b_made_kind (T : Txt w K mg) : Binds K (fdOf K d_made_kind) ["kind"] [] := T.F_made_kind.bindsN fun _ _ _ _ _ _ us hl => match us, hl with | [_], _ => rfl
theorem Txt.F_TextReader_taken (T : Txt w K mg) : FunD K "taken" "TextReader.taken" (defArgs s_TextReader_taken) (defBody s_TextReader_taken) (defScope s_TextReader_taken) [] [] (He.fAd K d_TextReader_taken.at_) (fdOf K d_TextReader_taken) := fdOf_ok (T.c.d.def_ 16 (d := d_TextReader_taken) rfl)
theorem Txt.b_TextReader_taken (T : Txt w K mg) : Binds K (fdOf K d_TextReader_taken) ["self", "sort"] [] := T.F_TextReader_taken.bindsN fun _ _ _ _ _ _ us hl => match us, hl with | [_, _], _ => rfl
theorem Txt.F_TextReader_ended (T : Txt w K mg) : FunD K "ended" "TextReader.ended" (defArgs s_TextReader_ended) (defBody s_TextReader_ended) (defScope s_TextReader_ended) [] [] (He.fAd K d_TextReader_ended.at_) (fdOf K d_TextReader_ended) := fdOf_ok (T.c.d.def_ 17 (d := d_TextReader_ended) rfl)
theorem Txt.b_TextReader_ended (T : Txt w K mg) : Binds K (fdOf K d_TextReader_ended) ["self", "found"] [] := T.F_TextReader_ended.bindsN fun _ _ _ _ _ _ us hl => match us, hl with | [_, _], _ => rfl
theorem Txt.F_TextReader_next_is (T : Txt w K mg) : FunD K "next_is" "TextReader.next_is" (defArgs s_TextReader_next_is) (defBody s_TextReader_next_is) (defScope s_TextReader_next_is) [] [] (He.fAd K d_TextReader_next_is.at_) (fdOf K d_TextReader_next_is) := fdOf_ok (T.c.d.def_ 18 (d := d_TextReader_next_is) rfl)
theorem Txt.b_TextReader_next_is (T : Txt w K mg) : Binds K (fdOf K d_TextReader_next_is) ["self", "sign"] [] := T.F_TextReader_next_is.bindsN fun _ _ _ _ _ _ us hl => match us, hl with | [_, _], _ => rfl
theorem Txt.F_TextReader_due (T : Txt w K mg) : FunD K "due" "TextReader.due" (defArgs s_TextReader_due) (defBody s_TextReader_due) (defScope s_TextReader_due) [] [] (He.fAd K d_TextReader_due.at_) (fdOf K d_TextReader_due) := fdOf_ok (T.c.d.def_ 19 (d := d_TextReader_due) rfl)
theorem Txt.b_TextReader_due (T : Txt w K mg) : Binds K (fdOf K d_TextReader_due) ["self", "sign"] [] := T.F_TextReader_due.bindsN fun _ _ _ _ _ _ us hl => match us, hl with | [_, _], _ => rfl
theorem Txt.F_TextReader_closed (T : Txt w K mg) : FunD K "closed" "TextReader.closed" (defArgs s_TextReader_closed) (defBody s_TextReader_closed) (defScope s_TextReader_closed) [] [] (He.fAd K d_TextReader_closed.at_) (fdOf K d_TextReader_closed) := fdOf_ok (T.c.d.def_ 20 (d := d_TextReader_closed) rfl)
theorem Txt.b_TextReader_closed (T : Txt w K mg) : Binds K (fdOf K d_TextReader_closed) ["self", "sign"] [] := T.F_TextReader_closed.bindsN fun _ _ _ _ _ _ us hl => match us, hl with | [_, _], _ => rfl
theorem Txt.F_TextReader_part (T : Txt w K mg) : FunD K "part" "TextReader.part" (defArgs s_TextReader_part) (defBody s_TextReader_part) (defScope s_TextReader_part) [] [] (He.fAd K d_TextReader_part.at_) (fdOf K d_TextReader_part) := fdOf_ok (T.c.d.def_ 21 (d := d_TextReader_part) rfl)
theorem Txt.b_TextReader_part (T : Txt w K mg) : Binds K (fdOf K d_TextReader_part) ["self", "sort"] [] := T.F_TextReader_part.bindsN fun _ _ _ _ _ _ us hl => match us, hl with | [_, _], _ => rfl
theorem Txt.F_TextReader_parts (T : Txt w K mg) : FunD K "parts" "TextReader.parts" (defArgs s_TextReader_parts) (defBody s_TextReader_parts) (defScope s_TextReader_parts) [] [] (He.fAd K d_TextReader_parts.at_) (fdOf K d_TextReader_parts) := fdOf_ok (T.c.d.def_ 22 (d := d_TextReader_parts) rfl)
theorem Txt.b_TextReader_parts (T : Txt w K mg) : Binds K (fdOf K d_TextReader_parts) ["self", "sorts"] [] := T.F_TextReader_parts.bindsN fun _ _ _ _ _ _ us hl => match us, hl with | [_, _], _ => rfl
theorem Txt.F_TextReader_goes_on (T : Txt w K mg) : FunD K "goes_on" "TextReader.goes_on" (defArgs s_TextReader_goes_on) (defBody s_TextReader_goes_on) (defScope s_TextReader_goes_on) [] [] (He.fAd K d_TextReader_goes_on.at_) (fdOf K d_TextReader_goes_on) := fdOf_ok (T.c.d.def_ 23 (d := d_TextReader_goes_on) rfl)
theorem Txt.b_TextReader_goes_on (T : Txt w K mg) : Binds K (fdOf K d_TextReader_goes_on) ["self", "many", "closing"] [] := T.F_TextReader_goes_on.bindsN fun _ _ _ _ _ _ us hl => match us, hl with | [_, _, _], _ => rfl
theorem Txt.F_TextReader_kind_pairs (T : Txt w K mg) : FunD K "kind_pairs" "TextReader.kind_pairs" (defArgs s_TextReader_kind_pairs) (defBody s_TextReader_kind_pairs) (defScope s_TextReader_kind_pairs) [] [] (He.fAd K d_TextReader_kind_pairs.at_) (fdOf K d_TextReader_kind_pairs) := fdOf_ok (T.c.d.def_ 24 (d := d_TextReader_kind_pairs) rfl)
theorem Txt.b_TextReader_kind_pairs (T : Txt w K mg) : Binds K (fdOf K d_TextReader_kind_pairs) ["self"] [] := T.F_TextReader_kind_pairs.bindsN fun _ _ _ _ _ _ us hl => match us, hl with | [_], _ => rfl
theorem Txt.F_TextReader_names (T : Txt w K mg) : FunD K "names" "TextReader.names" (defArgs s_TextReader_names) (defBody s_TextReader_names) (defScope s_TextReader_names) [] [] (He.fAd K d_TextReader_names.at_) (fdOf K d_TextReader_names) := fdOf_ok (T.c.d.def_ 25 (d := d_TextReader_names) rfl)
theorem Txt.b_TextReader_names (T : Txt w K mg) : Binds K (fdOf K d_TextReader_names) ["self", "closing"] [] := T.F_TextReader_names.bindsN fun _ _ _ _ _ _ us hl => match us, hl with | [_, _], _ => rfl
theorem Txt.F_TextReader_kind_parts (T : Txt w K mg) : FunD K "kind_parts" "TextReader.kind_parts" (defArgs s_TextReader_kind_parts) (defBody s_TextReader_kind_parts) (defScope s_TextReader_kind_parts) [] [] (He.fAd K d_TextReader_kind_parts.at_) (fdOf K d_TextReader_kind_parts) := fdOf_ok (T.c.d.def_ 26 (d := d_TextReader_kind_parts) rfl)
theorem Txt.b_TextReader_kind_parts (T : Txt w K mg) : Binds K (fdOf K d_TextReader_kind_parts) ["self", "word"] [] := T.F_TextReader_kind_parts.bindsN fun _ _ _ _ _ _ us hl => match us, hl with | [_, _], _ => rfl
theorem Txt.F_TextReader_opened (T : Txt w K mg) : FunD K "opened" "TextReader.opened" (defArgs s_TextReader_opened) (defBody s_TextReader_opened) (defScope s_TextReader_opened) [] [] (He.fAd K d_TextReader_opened.at_) (fdOf K d_TextReader_opened) := fdOf_ok (T.c.d.def_ 27 (d := d_TextReader_opened) rfl)
theorem Txt.b_TextReader_opened (T : Txt w K mg) : Binds K (fdOf K d_TextReader_opened) ["self", "sign"] [] := T.F_TextReader_opened.bindsN fun _ _ _ _ _ _ us hl => match us, hl with | [_, _], _ => rfl
theorem Txt.F_TextReader_kind (T : Txt w K mg) : FunD K "kind" "TextReader.kind" (defArgs s_TextReader_kind) (defBody s_TextReader_kind) (defScope s_TextReader_kind) [] [] (He.fAd K d_TextReader_kind.at_) (fdOf K d_TextReader_kind) := fdOf_ok (T.c.d.def_ 28 (d := d_TextReader_kind) rfl)
theorem Txt.b_TextReader_kind (T : Txt w K mg) : Binds K (fdOf K d_TextReader_kind) ["self"] [] := T.F_TextReader_kind.bindsN fun _ _ _ _ _ _ us hl => match us, hl with | [_], _ => rfl
theorem Txt.F_is_sign (T : Txt w K mg) : FunD K "is_sign" "is_sign" (defArgs s_is_sign) (defBody s_is_sign) (defScope s_is_sign) [] [] (He.fAd K d_is_sign.at_) (fdOf K d_is_sign) := fdOf_ok (T.c.d.def_ 29 (d := d_is_sign) rfl)
theorem Txt.b_is_sign (T : Txt w K mg) : Binds K (fdOf K d_is_sign) ["sign"] [] := T.F_is_sign.bindsN fun _ _ _ _ _ _ us hl => match us, hl with | [_], _ => rfl
theorem Txt.F_quoted_end (T : Txt w K mg) : FunD K "quoted_end" "quoted_end" (defArgs s_quoted_end) (defBody s_quoted_end) (defScope s_quoted_end) [] [] (He.fAd K d_quoted_end.at_) (fdOf K d_quoted_end) := fdOf_ok (T.c.d.def_ 30 (d := d_quoted_end) rfl)
theorem Txt.b_quoted_end (T : Txt w K mg) : Binds K (fdOf K d_quoted_end) ["text", "at"] [] := T.F_quoted_end.bindsN fun _ _ _ _ _ _ us hl => match us, hl with | [_, _], _ => rfl
theorem Txt.F_run_end (T : Txt w K mg) : FunD K "run_end" "run_end" (defArgs s_run_end) (defBody s_run_end) (defScope s_run_end) [] [] (He.fAd K d_run_end.at_) (fdOf K d_run_end) := fdOf_ok (T.c.d.def_ 31 (d := d_run_end) rfl)
theorem Txt.b_run_end (T : Txt w K mg) : Binds K (fdOf K d_run_end) ["text", "at", "signs"] [] := T.F_run_end.bindsN fun _ _ _ _ _ _ us hl => match us, hl with | [_, _, _], _ => rfl
theorem Txt.F_number_end (T : Txt w K mg) : FunD K "number_end" "number_end" (defArgs s_number_end) (defBody s_number_end) (defScope s_number_end) [] [] (He.fAd K d_number_end.at_) (fdOf K d_number_end) := fdOf_ok (T.c.d.def_ 32 (d := d_number_end) rfl)
theorem Txt.b_number_end (T : Txt w K mg) : Binds K (fdOf K d_number_end) ["text", "at"] [] := T.F_number_end.bindsN fun _ _ _ _ _ _ us hl => match us, hl with | [_, _], _ => rfl
theorem Txt.F_words_of (T : Txt w K mg) : FunD K "words_of" "words_of" (defArgs s_words_of) (defBody s_words_of) (defScope s_words_of) [] [] (He.fAd K d_words_of.at_) (fdOf K d_words_of) := fdOf_ok (T.c.d.def_ 33 (d := d_words_of) rfl)
theorem Txt.b_words_of (T : Txt w K mg) : Binds K (fdOf K d_words_of) ["text"] [] := T.F_words_of.bindsN fun _ _ _ _ _ _ us hl => match us, hl with | [_], _ => rfl
theorem Txt.F_TextReader_init (T : Txt w K mg) : FunD K "__init__" "TextReader.__init__" (defArgs s_TextReader_init) (defBody s_TextReader_init) (defScope s_TextReader_init) [] [] (He.fAd K d_TextReader_init.at_) (fdOf K d_TextReader_init) := fdOf_ok (T.c.d.def_ 34 (d := d_TextReader_init) rfl)
theorem Txt.b_TextReader_init (T : Txt w K mg) : Binds K (fdOf K d_TextReader_init) ["self", "text"] [] := T.F_TextReader_init.bindsN fun _ _ _ _ _ _ us hl => match us, hl with | [_, _], _ => rfl
theorem Txt.F_read_kind (T : Txt w K mg) : FunD K "read_kind" "read_kind" (defArgs s_read_kind) (defBody s_read_kind) (defScope s_read_kind) [] [] (He.fAd K d_read_kind.at_) (fdOf K d_read_kind) := fdOf_ok (T.c.d.def_ 35 (d := d_read_kind) rfl)
theorem Txt.b_read_kind (T : Txt w K mg) : Binds K (fdOf K d_read_kind) ["text"] [] := T.F_read_kind.bindsN fun _ _ _ _ _ _ us hl => match us, hl with | [_], _ => rfl
theorem Txt.F__law_digit (T : Txt w K mg) : FunD K "_law_digit" "_law_digit" (defArgs s__law_digit) (defBody s__law_digit) (defScope s__law_digit) [] [] (He.fAd K d__law_digit.at_) (fdOf K d__law_digit) := fdOf_ok (T.c.d.def_ 36 (d := d__law_digit) rfl)
theorem Txt.b__law_digit (T : Txt w K mg) : Binds K (fdOf K d__law_digit) ["row", "many"] [] := T.F__law_digit.bindsN fun _ _ _ _ _ _ us hl => match us, hl with | [_, _], _ => rfl
theorem Txt.F__law_loose (T : Txt w K mg) : FunD K "_law_loose" "_law_loose" (defArgs s__law_loose) (defBody s__law_loose) (defScope s__law_loose) [] [] (He.fAd K d__law_loose.at_) (fdOf K d__law_loose) := fdOf_ok (T.c.d.def_ 37 (d := d__law_loose) rfl)
theorem Txt.b__law_loose (T : Txt w K mg) : Binds K (fdOf K d__law_loose) ["words", "row"] [] := T.F__law_loose.bindsN fun _ _ _ _ _ _ us hl => match us, hl with | [_, _], _ => rfl
theorem Txt.F__law_tight (T : Txt w K mg) : FunD K "_law_tight" "_law_tight" (defArgs s__law_tight) (defBody s__law_tight) (defScope s__law_tight) [] [] (He.fAd K d__law_tight.at_) (fdOf K d__law_tight) := fdOf_ok (T.c.d.def_ 38 (d := d__law_tight) rfl)
theorem Txt.b__law_tight (T : Txt w K mg) : Binds K (fdOf K d__law_tight) ["words"] [] := T.F__law_tight.bindsN fun _ _ _ _ _ _ us hl => match us, hl with | [_], _ => rfl
theorem Txt.F__law_kind_words (T : Txt w K mg) : FunD K "_law_kind_words" "_law_kind_words" (defArgs s__law_kind_words) (defBody s__law_kind_words) (defScope s__law_kind_words) [] [] (He.fAd K d__law_kind_words.at_) (fdOf K d__law_kind_words) := fdOf_ok (T.c.d.def_ 39 (d := d__law_kind_words) rfl)
theorem Txt.b__law_kind_words (T : Txt w K mg) : Binds K (fdOf K d__law_kind_words) ["kind"] [] := T.F__law_kind_words.bindsN fun _ _ _ _ _ _ us hl => match us, hl with | [_], _ => rfl
theorem Txt.F__law_names (T : Txt w K mg) : FunD K "_law_names" "_law_names" (defArgs s__law_names) (defBody s__law_names) (defScope s__law_names) [] [] (He.fAd K d__law_names.at_) (fdOf K d__law_names) := fdOf_ok (T.c.d.def_ 40 (d := d__law_names) rfl)
theorem Txt.b__law_names (T : Txt w K mg) : Binds K (fdOf K d__law_names) ["row", "many"] [] := T.F__law_names.bindsN fun _ _ _ _ _ _ us hl => match us, hl with | [_, _], _ => rfl
theorem Txt.F__law_record_kind (T : Txt w K mg) : FunD K "_law_record_kind" "_law_record_kind" (defArgs s__law_record_kind) (defBody s__law_record_kind) (defScope s__law_record_kind) [] [] (He.fAd K d__law_record_kind.at_) (fdOf K d__law_record_kind) := fdOf_ok (T.c.d.def_ 41 (d := d__law_record_kind) rfl)
theorem Txt.b__law_record_kind (T : Txt w K mg) : Binds K (fdOf K d__law_record_kind) ["row", "deep", "room"] [] := T.F__law_record_kind.bindsN fun _ _ _ _ _ _ us hl => match us, hl with | [_, _, _], _ => rfl
theorem Txt.F__law_number_kind (T : Txt w K mg) : FunD K "_law_number_kind" "_law_number_kind" (defArgs s__law_number_kind) (defBody s__law_number_kind) (defScope s__law_number_kind) [] [] (He.fAd K d__law_number_kind.at_) (fdOf K d__law_number_kind) := fdOf_ok (T.c.d.def_ 42 (d := d__law_number_kind) rfl)
theorem Txt.b__law_number_kind (T : Txt w K mg) : Binds K (fdOf K d__law_number_kind) ["row"] [] := T.F__law_number_kind.bindsN fun _ _ _ _ _ _ us hl => match us, hl with | [_], _ => rfl
theorem Txt.F__law_rows_kind (T : Txt w K mg) : FunD K "_law_rows_kind" "_law_rows_kind" (defArgs s__law_rows_kind) (defBody s__law_rows_kind) (defScope s__law_rows_kind) [] [] (He.fAd K d__law_rows_kind.at_) (fdOf K d__law_rows_kind) := fdOf_ok (T.c.d.def_ 43 (d := d__law_rows_kind) rfl)
theorem Txt.b__law_rows_kind (T : Txt w K mg) : Binds K (fdOf K d__law_rows_kind) ["row", "deep", "room"] [] := T.F__law_rows_kind.bindsN fun _ _ _ _ _ _ us hl => match us, hl with | [_, _, _], _ => rfl
theorem Txt.F__law_leaf_kind (T : Txt w K mg) : FunD K "_law_leaf_kind" "_law_leaf_kind" (defArgs s__law_leaf_kind) (defBody s__law_leaf_kind) (defScope s__law_leaf_kind) [] [] (He.fAd K d__law_leaf_kind.at_) (fdOf K d__law_leaf_kind) := fdOf_ok (T.c.d.def_ 44 (d := d__law_leaf_kind) rfl)
theorem Txt.b__law_leaf_kind (T : Txt w K mg) : Binds K (fdOf K d__law_leaf_kind) ["row"] [] := T.F__law_leaf_kind.bindsN fun _ _ _ _ _ _ us hl => match us, hl with | [_], _ => rfl
theorem Txt.F__law_kind (T : Txt w K mg) : FunD K "_law_kind" "_law_kind" (defArgs s__law_kind) (defBody s__law_kind) (defScope s__law_kind) [] [] (He.fAd K d__law_kind.at_) (fdOf K d__law_kind) := fdOf_ok (T.c.d.def_ 45 (d := d__law_kind) rfl)
theorem Txt.b__law_kind (T : Txt w K mg) : Binds K (fdOf K d__law_kind) ["row", "deep", "room"] [] := T.F__law_kind.bindsN fun _ _ _ _ _ _ us hl => match us, hl with | [_, _, _], _ => rfl
theorem Txt.F__law_mixed (T : Txt w K mg) : FunD K "_law_mixed" "_law_mixed" (defArgs s__law_mixed) (defBody s__law_mixed) (defScope s__law_mixed) [] [] (He.fAd K d__law_mixed.at_) (fdOf K d__law_mixed) := fdOf_ok (T.c.d.def_ 46 (d := d__law_mixed) rfl)
theorem Txt.b__law_mixed (T : Txt w K mg) : Binds K (fdOf K d__law_mixed) ["cell", "k"] [] := T.F__law_mixed.bindsN fun _ _ _ _ _ _ us hl => match us, hl with | [_, _], _ => rfl
theorem Txt.F__law_cell_at (T : Txt w K mg) : FunD K "_law_cell_at" "_law_cell_at" (defArgs s__law_cell_at) (defBody s__law_cell_at) (defScope s__law_cell_at) [] [] (He.fAd K d__law_cell_at.at_) (fdOf K d__law_cell_at) := fdOf_ok (T.c.d.def_ 47 (d := d__law_cell_at) rfl)
theorem Txt.b__law_cell_at (T : Txt w K mg) : Binds K (fdOf K d__law_cell_at) ["script", "k"] [] := T.F__law_cell_at.bindsN fun _ _ _ _ _ _ us hl => match us, hl with | [_, _], _ => rfl
theorem Txt.F__law_own (T : Txt w K mg) : FunD K "_law_own" "_law_own" (defArgs s__law_own) (defBody s__law_own) (defScope s__law_own) [] [] (He.fAd K d__law_own.at_) (fdOf K d__law_own) := fdOf_ok (T.c.d.def_ 48 (d := d__law_own) rfl)
theorem Txt.b__law_own (T : Txt w K mg) : Binds K (fdOf K d__law_own) ["script", "k", "turn"] [] := T.F__law_own.bindsN fun _ _ _ _ _ _ us hl => match us, hl with | [_, _, _], _ => rfl
theorem Txt.F_law (T : Txt w K mg) : FunD K "law" "law" (defArgs s_law) (defBody s_law) (defScope s_law) [] [] (He.fAd K d_law.at_) (fdOf K d_law) := fdOf_ok (T.c.d.def_ 49 (d := d_law) rfl)
theorem Txt.b_law (T : Txt w K mg) : Binds K (fdOf K d_law) ["script"] [] := T.F_law.bindsN fun _ _ _ _ _ _ us hl => match us, hl with | [_], _ => rfl
theorem Txt.F_TextReader_turn (T : Txt w K mg) : FunD K "turn" "TextReader.turn" (defArgs s_TextReader_turn) (defBody s_TextReader_turn) (defScope s_TextReader_turn) [] [] (He.fAd K d_TextReader_turn.at_) (fdOf K d_TextReader_turn) := fdOf_ok (T.c.d.def_ 50 (d := d_TextReader_turn) rfl)
theorem Txt.b_TextReader_turn (T : Txt w K mg) : Binds K (fdOf K d_TextReader_turn) ["self"] [] := T.F_TextReader_turn.bindsN fun _ _ _ _ _ _ us hl => match us, hl with | [_], _ => rfl
theorem Txt.F_TextReader_value (T : Txt w K mg) : FunD K "value" "TextReader.value" (defArgs s_TextReader_value) (defBody s_TextReader_value) (defScope s_TextReader_value) [] [] (He.fAd K d_TextReader_value.at_) (fdOf K d_TextReader_value) := fdOf_ok (T.c.d.def_ 51 (d := d_TextReader_value) rfl)
theorem Txt.b_TextReader_value (T : Txt w K mg) : Binds K (fdOf K d_TextReader_value) ["self"] [] := T.F_TextReader_value.bindsN fun _ _ _ _ _ _ us hl => match us, hl with | [_], _ => rfl
theorem Txt.g_in_brackets (T : Txt w K mg) : mg "in_brackets" = some (.ref (He.ga K "in_brackets")) := T.elim fun X G c => He.glo_ok X G (c.d.fact 0 (f := .glo "in_brackets") rfl)
theorem Txt.g_pairs_text (T : Txt w K mg) : mg "pairs_text" = some (.ref (He.ga K "pairs_text")) := T.elim fun X G c => He.glo_ok X G (c.d.fact 1 (f := .glo "pairs_text") rfl)
theorem Txt.g_kind_text (T : Txt w K mg) : mg "kind_text" = some (.ref (He.ga K "kind_text")) := T.elim fun X G c => He.glo_ok X G (c.d.fact 2 (f := .glo "kind_text") rfl)
theorem Txt.g_is_whole (T : Txt w K mg) : mg "is_whole" = some (.ref (He.ga K "is_whole")) := T.elim fun X G c => He.glo_ok X G (c.d.fact 3 (f := .glo "is_whole") rfl)
theorem Txt.g_is_number_kind (T : Txt w K mg) : mg "is_number_kind" = some (.ref (He.ga K "is_number_kind")) := T.elim fun X G c => He.glo_ok X G (c.d.fact 4 (f := .glo "is_number_kind") rfl)
theorem Txt.g_is_name (T : Txt w K mg) : mg "is_name" = some (.ref (He.ga K "is_name")) := T.elim fun X G c => He.glo_ok X G (c.d.fact 5 (f := .glo "is_name") rfl)
theorem Txt.g_are_names (T : Txt w K mg) : mg "are_names" = some (.ref (He.ga K "are_names")) := T.elim fun X G c => He.glo_ok X G (c.d.fact 6 (f := .glo "are_names") rfl)
theorem Txt.g_is_choice_kind (T : Txt w K mg) : mg "is_choice_kind" = some (.ref (He.ga K "is_choice_kind")) := T.elim fun X G c => He.glo_ok X G (c.d.fact 7 (f := .glo "is_choice_kind") rfl)
theorem Txt.g_is_count (T : Txt w K mg) : mg "is_count" = some (.ref (He.ga K "is_count")) := T.elim fun X G c => He.glo_ok X G (c.d.fact 8 (f := .glo "is_count") rfl)
theorem Txt.g_is_field (T : Txt w K mg) : mg "is_field" = some (.ref (He.ga K "is_field")) := T.elim fun X G c => He.glo_ok X G (c.d.fact 9 (f := .glo "is_field") rfl)
theorem Txt.g_are_fields (T : Txt w K mg) : mg "are_fields" = some (.ref (He.ga K "are_fields")) := T.elim fun X G c => He.glo_ok X G (c.d.fact 10 (f := .glo "are_fields") rfl)
theorem Txt.g_field_kind (T : Txt w K mg) : mg "field_kind" = some (.ref (He.ga K "field_kind")) := T.elim fun X G c => He.glo_ok X G (c.d.fact 11 (f := .glo "field_kind") rfl)
theorem Txt.g_has_key (T : Txt w K mg) : mg "has_key" = some (.ref (He.ga K "has_key")) := T.elim fun X G c => He.glo_ok X G (c.d.fact 12 (f := .glo "has_key") rfl)
theorem Txt.g_kinds_within (T : Txt w K mg) : mg "kinds_within" = some (.ref (He.ga K "kinds_within")) := T.elim fun X G c => He.glo_ok X G (c.d.fact 13 (f := .glo "kinds_within") rfl)
theorem Txt.g_kinds_left (T : Txt w K mg) : mg "kinds_left" = some (.ref (He.ga K "kinds_left")) := T.elim fun X G c => He.glo_ok X G (c.d.fact 14 (f := .glo "kinds_left") rfl)
theorem Txt.g_made_kind (T : Txt w K mg) : mg "made_kind" = some (.ref (He.ga K "made_kind")) := T.elim fun X G c => He.glo_ok X G (c.d.fact 15 (f := .glo "made_kind") rfl)
theorem Txt.g_is_sign (T : Txt w K mg) : mg "is_sign" = some (.ref (He.ga K "is_sign")) := T.elim fun X G c => He.glo_ok X G (c.d.fact 16 (f := .glo "is_sign") rfl)
theorem Txt.g_quoted_end (T : Txt w K mg) : mg "quoted_end" = some (.ref (He.ga K "quoted_end")) := T.elim fun X G c => He.glo_ok X G (c.d.fact 17 (f := .glo "quoted_end") rfl)
theorem Txt.g_run_end (T : Txt w K mg) : mg "run_end" = some (.ref (He.ga K "run_end")) := T.elim fun X G c => He.glo_ok X G (c.d.fact 18 (f := .glo "run_end") rfl)
theorem Txt.g_number_end (T : Txt w K mg) : mg "number_end" = some (.ref (He.ga K "number_end")) := T.elim fun X G c => He.glo_ok X G (c.d.fact 19 (f := .glo "number_end") rfl)
theorem Txt.g_words_of (T : Txt w K mg) : mg "words_of" = some (.ref (He.ga K "words_of")) := T.elim fun X G c => He.glo_ok X G (c.d.fact 20 (f := .glo "words_of") rfl)
theorem Txt.g_read_kind (T : Txt w K mg) : mg "read_kind" = some (.ref (He.ga K "read_kind")) := T.elim fun X G c => He.glo_ok X G (c.d.fact 21 (f := .glo "read_kind") rfl)
theorem Txt.g__law_digit (T : Txt w K mg) : mg "_law_digit" = some (.ref (He.ga K "_law_digit")) := T.elim fun X G c => He.glo_ok X G (c.d.fact 22 (f := .glo "_law_digit") rfl)
theorem Txt.g__law_loose (T : Txt w K mg) : mg "_law_loose" = some (.ref (He.ga K "_law_loose")) := T.elim fun X G c => He.glo_ok X G (c.d.fact 23 (f := .glo "_law_loose") rfl)
theorem Txt.g__law_tight (T : Txt w K mg) : mg "_law_tight" = some (.ref (He.ga K "_law_tight")) := T.elim fun X G c => He.glo_ok X G (c.d.fact 24 (f := .glo "_law_tight") rfl)
theorem Txt.g__law_kind_words (T : Txt w K mg) : mg "_law_kind_words" = some (.ref (He.ga K "_law_kind_words")) := T.elim fun X G c => He.glo_ok X G (c.d.fact 25 (f := .glo "_law_kind_words") rfl)
theorem Txt.g__law_names (T : Txt w K mg) : mg "_law_names" = some (.ref (He.ga K "_law_names")) := T.elim fun X G c => He.glo_ok X G (c.d.fact 26 (f := .glo "_law_names") rfl)
theorem Txt.g__law_record_kind (T : Txt w K mg) : mg "_law_record_kind" = some (.ref (He.ga K "_law_record_kind")) := T.elim fun X G c => He.glo_ok X G (c.d.fact 27 (f := .glo "_law_record_kind") rfl)
theorem Txt.g__law_number_kind (T : Txt w K mg) : mg "_law_number_kind" = some (.ref (He.ga K "_law_number_kind")) := T.elim fun X G c => He.glo_ok X G (c.d.fact 28 (f := .glo "_law_number_kind") rfl)
theorem Txt.g__law_rows_kind (T : Txt w K mg) : mg "_law_rows_kind" = some (.ref (He.ga K "_law_rows_kind")) := T.elim fun X G c => He.glo_ok X G (c.d.fact 29 (f := .glo "_law_rows_kind") rfl)
theorem Txt.g__law_leaf_kind (T : Txt w K mg) : mg "_law_leaf_kind" = some (.ref (He.ga K "_law_leaf_kind")) := T.elim fun X G c => He.glo_ok X G (c.d.fact 30 (f := .glo "_law_leaf_kind") rfl)
theorem Txt.g__law_kind (T : Txt w K mg) : mg "_law_kind" = some (.ref (He.ga K "_law_kind")) := T.elim fun X G c => He.glo_ok X G (c.d.fact 31 (f := .glo "_law_kind") rfl)
theorem Txt.g__law_mixed (T : Txt w K mg) : mg "_law_mixed" = some (.ref (He.ga K "_law_mixed")) := T.elim fun X G c => He.glo_ok X G (c.d.fact 32 (f := .glo "_law_mixed") rfl)
theorem Txt.g__law_cell_at (T : Txt w K mg) : mg "_law_cell_at" = some (.ref (He.ga K "_law_cell_at")) := T.elim fun X G c => He.glo_ok X G (c.d.fact 33 (f := .glo "_law_cell_at") rfl)
theorem Txt.g__law_own (T : Txt w K mg) : mg "_law_own" = some (.ref (He.ga K "_law_own")) := T.elim fun X G c => He.glo_ok X G (c.d.fact 34 (f := .glo "_law_own") rfl)
theorem Txt.g_law (T : Txt w K mg) : mg "law" = some (.ref (He.ga K "law")) := T.elim fun X G c => He.glo_ok X G (c.d.fact 35 (f := .glo "law") rfl)
theorem Txt.z_str (T : Txt w K mg) : mg "str" = none := T.elim fun X G c => He.free_ok X G (c.d.fact 36 (f := .free "str") rfl)
theorem Txt.z_bool (T : Txt w K mg) : mg "bool" = none := T.elim fun X G c => He.free_ok X G (c.d.fact 37 (f := .free "bool") rfl)
theorem Txt.z_int (T : Txt w K mg) : mg "int" = none := T.elim fun X G c => He.free_ok X G (c.d.fact 38 (f := .free "int") rfl)
theorem Txt.z_isinstance (T : Txt w K mg) : mg "isinstance" = none := T.elim fun X G c => He.free_ok X G (c.d.fact 39 (f := .free "isinstance") rfl)
theorem Txt.z_len (T : Txt w K mg) : mg "len" = none := T.elim fun X G c => He.free_ok X G (c.d.fact 40 (f := .free "len") rfl)
theorem Txt.c_MOST_NUMBER (T : Txt w K mg) : ∃ t, mg "MOST_NUMBER" = some (.int 1000000000000000000000000000000 t) := T.elim fun X G c => He.int_ok X G (c.d.fact 41 (f := .int "MOST_NUMBER" 1000000000000000000000000000000) rfl)
theorem Txt.z_all (T : Txt w K mg) : mg "all" = none := T.elim fun X G c => He.free_ok X G (c.d.fact 42 (f := .free "all") rfl)
theorem Txt.c_EACH (T : Txt w K mg) : ∃ t, mg "EACH" = some (.str "each" t) := T.elim fun X G c => He.str_ok X G (c.d.fact 43 (f := .str "EACH" "each") rfl)
theorem Txt.c_LETTERS_kinds (T : Txt w K mg) : ∃ t, mg "LETTERS_kinds" = some (.str "abcdefghijklmnopqrstuvwxyz" t) := T.elim fun X G c => He.str_ok X G (c.d.fact 44 (f := .str "LETTERS_kinds" "abcdefghijklmnopqrstuvwxyz") rfl)
theorem Txt.c_LONGEST_NAME (T : Txt w K mg) : ∃ t, mg "LONGEST_NAME" = some (.int 8 t) := T.elim fun X G c => He.int_ok X G (c.d.fact 45 (f := .int "LONGEST_NAME" 8) rfl)
theorem Txt.z_set (T : Txt w K mg) : mg "set" = none := T.elim fun X G c => He.free_ok X G (c.d.fact 46 (f := .free "set") rfl)
theorem Txt.z_tuple (T : Txt w K mg) : mg "tuple" = none := T.elim fun X G c => He.free_ok X G (c.d.fact 47 (f := .free "tuple") rfl)
theorem Txt.c_MOST_WORDS (T : Txt w K mg) : ∃ t, mg "MOST_WORDS" = some (.int 8 t) := T.elim fun X G c => He.int_ok X G (c.d.fact 48 (f := .int "MOST_WORDS" 8) rfl)
theorem Txt.z_sorted (T : Txt w K mg) : mg "sorted" = none := T.elim fun X G c => He.free_ok X G (c.d.fact 49 (f := .free "sorted") rfl)
theorem Txt.c_MOST_FIELDS (T : Txt w K mg) : ∃ t, mg "MOST_FIELDS" = some (.int 8 t) := T.elim fun X G c => He.int_ok X G (c.d.fact 50 (f := .int "MOST_FIELDS" 8) rfl)
theorem Txt.c_MOST_ITEMS (T : Txt w K mg) : ∃ t, mg "MOST_ITEMS" = some (.int 8 t) := T.elim fun X G c => He.int_ok X G (c.d.fact 51 (f := .int "MOST_ITEMS" 8) rfl)
theorem Txt.c_MOST_SIGNS (T : Txt w K mg) : ∃ t, mg "MOST_SIGNS" = some (.int 60 t) := T.elim fun X G c => He.int_ok X G (c.d.fact 52 (f := .int "MOST_SIGNS" 60) rfl)
theorem Txt.c_DEEPEST (T : Txt w K mg) : ∃ t, mg "DEEPEST" = some (.int 5 t) := T.elim fun X G c => He.int_ok X G (c.d.fact 53 (f := .int "DEEPEST" 5) rfl)
theorem Txt.c_MOST_KINDS (T : Txt w K mg) : ∃ t, mg "MOST_KINDS" = some (.int 40 t) := T.elim fun X G c => He.int_ok X G (c.d.fact 54 (f := .int "MOST_KINDS" 40) rfl)
theorem Txt.g_BadKind (T : Txt w K mg) : mg "BadKind" = some (.ref (He.ga K "BadKind")) := T.elim fun X G c => He.glo_ok X G (c.d.fact 55 (f := .glo "BadKind") rfl)
theorem Txt.x_BadKind (T : Txt w K mg) : PySem.W.excIn K (He.ga K "BadKind") He.veBase "ValueError.__new__" = true := T.elim fun X G c => And.left <| He.exc_ok (c.d.fact 56 (f := .exc "BadKind") rfl)
theorem Txt.k_BadKind (T : Txt w K mg) : PySem.W.keepIn K (.ref (He.ga K "BadKind")) = true := T.elim fun X G c => And.left <| And.right <| He.exc_ok (c.d.fact 56 (f := .exc "BadKind") rfl)
theorem Txt.s_BadKind (T : Txt w K mg) : PySem.W.subIn K (.ref (He.ga K "BadKind")) (.type "BaseException") = some true := T.elim fun X G c => And.left <| And.right <| And.right <| He.exc_ok (c.d.fact 56 (f := .exc "BadKind") rfl)
theorem Txt.t_BadKind (T : Txt w K mg) : PySem.W.typeIn K (.ref (He.ga K "BadKind")) = some (.type "type") := T.elim fun X G c => And.right <| And.right <| And.right <| He.exc_ok (c.d.fact 56 (f := .exc "BadKind") rfl)
theorem Txt.g_TextReader (T : Txt w K mg) : mg "TextReader" = some (.ref (He.ga K "TextReader")) := T.elim fun X G c => He.glo_ok X G (c.d.fact 57 (f := .glo "TextReader") rfl)
theorem Txt.cl_TextReader (T : Txt w K mg) : Cls K (He.ga K "TextReader") := T.elim fun X G c => He.cls_ok (c.d.fact 58 (f := .cls "TextReader") rfl)
theorem Txt.n_TextReader_at (T : Txt w K mg) : NoAttr K (He.ga K "TextReader") "at" := T.elim fun X G c => He.noat_ok (c.d.fact 59 (f := .noat "TextReader" "at") rfl)
theorem Txt.n_TextReader_words (T : Txt w K mg) : NoAttr K (He.ga K "TextReader") "words" := T.elim fun X G c => He.noat_ok (c.d.fact 60 (f := .noat "TextReader" "words") rfl)
theorem Txt.g_BadText (T : Txt w K mg) : mg "BadText" = some (.ref (He.ga K "BadText")) := T.elim fun X G c => He.glo_ok X G (c.d.fact 61 (f := .glo "BadText") rfl)
theorem Txt.x_BadText (T : Txt w K mg) : PySem.W.excIn K (He.ga K "BadText") He.veBase "ValueError.__new__" = true := T.elim fun X G c => And.left <| He.exc_ok (c.d.fact 62 (f := .exc "BadText") rfl)
theorem Txt.k_BadText (T : Txt w K mg) : PySem.W.keepIn K (.ref (He.ga K "BadText")) = true := T.elim fun X G c => And.left <| And.right <| He.exc_ok (c.d.fact 62 (f := .exc "BadText") rfl)
theorem Txt.s_BadText (T : Txt w K mg) : PySem.W.subIn K (.ref (He.ga K "BadText")) (.type "BaseException") = some true := T.elim fun X G c => And.left <| And.right <| And.right <| He.exc_ok (c.d.fact 62 (f := .exc "BadText") rfl)
theorem Txt.t_BadText (T : Txt w K mg) : PySem.W.typeIn K (.ref (He.ga K "BadText")) = some (.type "type") := T.elim fun X G c => And.right <| And.right <| And.right <| He.exc_ok (c.d.fact 62 (f := .exc "BadText") rfl)
theorem Txt.m_TextReader_taken (T : Txt w K mg) : Meth K (He.ga K "TextReader") "taken" (He.ma K (He.ga K "TextReader") "taken") := T.elim fun X G c => He.meth_ok (c.d.fact 63 (f := .meth "TextReader" "taken") rfl)
theorem Txt.m_TextReader_next_is (T : Txt w K mg) : Meth K (He.ga K "TextReader") "next_is" (He.ma K (He.ga K "TextReader") "next_is") := T.elim fun X G c => He.meth_ok (c.d.fact 64 (f := .meth "TextReader" "next_is") rfl)
theorem Txt.n_TextReader_deep (T : Txt w K mg) : NoAttr K (He.ga K "TextReader") "deep" := T.elim fun X G c => He.noat_ok (c.d.fact 65 (f := .noat "TextReader" "deep") rfl)
theorem Txt.m_TextReader_due (T : Txt w K mg) : Meth K (He.ga K "TextReader") "due" (He.ma K (He.ga K "TextReader") "due") := T.elim fun X G c => He.meth_ok (c.d.fact 66 (f := .meth "TextReader" "due") rfl)
theorem Txt.m_TextReader_kind (T : Txt w K mg) : Meth K (He.ga K "TextReader") "kind" (He.ma K (He.ga K "TextReader") "kind") := T.elim fun X G c => He.meth_ok (c.d.fact 67 (f := .meth "TextReader" "kind") rfl)
theorem Txt.m_TextReader_turn (T : Txt w K mg) : Meth K (He.ga K "TextReader") "turn" (He.ma K (He.ga K "TextReader") "turn") := T.elim fun X G c => He.meth_ok (c.d.fact 68 (f := .meth "TextReader" "turn") rfl)
theorem Txt.m_TextReader_value (T : Txt w K mg) : Meth K (He.ga K "TextReader") "value" (He.ma K (He.ga K "TextReader") "value") := T.elim fun X G c => He.meth_ok (c.d.fact 69 (f := .meth "TextReader" "value") rfl)
theorem Txt.m_TextReader_part (T : Txt w K mg) : Meth K (He.ga K "TextReader") "part" (He.ma K (He.ga K "TextReader") "part") := T.elim fun X G c => He.meth_ok (c.d.fact 70 (f := .meth "TextReader" "part") rfl)
theorem Txt.m_TextReader_goes_on (T : Txt w K mg) : Meth K (He.ga K "TextReader") "goes_on" (He.ma K (He.ga K "TextReader") "goes_on") := T.elim fun X G c => He.meth_ok (c.d.fact 71 (f := .meth "TextReader" "goes_on") rfl)
theorem Txt.m_TextReader_kind_pairs (T : Txt w K mg) : Meth K (He.ga K "TextReader") "kind_pairs" (He.ma K (He.ga K "TextReader") "kind_pairs") := T.elim fun X G c => He.meth_ok (c.d.fact 72 (f := .meth "TextReader" "kind_pairs") rfl)
theorem Txt.m_TextReader_names (T : Txt w K mg) : Meth K (He.ga K "TextReader") "names" (He.ma K (He.ga K "TextReader") "names") := T.elim fun X G c => He.meth_ok (c.d.fact 73 (f := .meth "TextReader" "names") rfl)
theorem Txt.m_TextReader_parts (T : Txt w K mg) : Meth K (He.ga K "TextReader") "parts" (He.ma K (He.ga K "TextReader") "parts") := T.elim fun X G c => He.meth_ok (c.d.fact 74 (f := .meth "TextReader" "parts") rfl)
theorem Txt.c_MOST_DEEP (T : Txt w K mg) : ∃ t, mg "MOST_DEEP" = some (.int 40 t) := T.elim fun X G c => He.int_ok X G (c.d.fact 75 (f := .int "MOST_DEEP" 40) rfl)
theorem Txt.m_TextReader_closed (T : Txt w K mg) : Meth K (He.ga K "TextReader") "closed" (He.ma K (He.ga K "TextReader") "closed") := T.elim fun X G c => He.meth_ok (c.d.fact 76 (f := .meth "TextReader" "closed") rfl)
theorem Txt.m_TextReader_kind_parts (T : Txt w K mg) : Meth K (He.ga K "TextReader") "kind_parts" (He.ma K (He.ga K "TextReader") "kind_parts") := T.elim fun X G c => He.meth_ok (c.d.fact 77 (f := .meth "TextReader" "kind_parts") rfl)
theorem Txt.m_TextReader_opened (T : Txt w K mg) : Meth K (He.ga K "TextReader") "opened" (He.ma K (He.ga K "TextReader") "opened") := T.elim fun X G c => He.meth_ok (c.d.fact 78 (f := .meth "TextReader" "opened") rfl)
theorem Txt.z_ord (T : Txt w K mg) : mg "ord" = none := T.elim fun X G c => He.free_ok X G (c.d.fact 79 (f := .free "ord") rfl)
theorem Txt.c_FIGURES (T : Txt w K mg) : ∃ t, mg "FIGURES" = some (.str "0123456789" t) := T.elim fun X G c => He.str_ok X G (c.d.fact 80 (f := .str "FIGURES" "0123456789") rfl)
theorem Txt.c_MOST_FIGURES (T : Txt w K mg) : ∃ t, mg "MOST_FIGURES" = some (.int 60 t) := T.elim fun X G c => He.int_ok X G (c.d.fact 81 (f := .int "MOST_FIGURES" 60) rfl)
theorem Txt.c_LETTERS_texts (T : Txt w K mg) : ∃ t, mg "LETTERS_texts" = some (.str "abcdefghijklmnopqrstuvwxyz" t) := T.elim fun X G c => He.str_ok X G (c.d.fact 82 (f := .str "LETTERS_texts" "abcdefghijklmnopqrstuvwxyz") rfl)
theorem Txt.c_LONGEST (T : Txt w K mg) : ∃ t, mg "LONGEST" = some (.int 8 t) := T.elim fun X G c => He.int_ok X G (c.d.fact 83 (f := .int "LONGEST" 8) rfl)
theorem Txt.c_SIGNS (T : Txt w K mg) : ∃ t, mg "SIGNS" = some (.str "()[]{},:;/" t) := T.elim fun X G c => He.str_ok X G (c.d.fact 84 (f := .str "SIGNS" "()[]{},:;/") rfl)
theorem Txt.m_TextReader_ended (T : Txt w K mg) : Meth K (He.ga K "TextReader") "ended" (He.ma K (He.ga K "TextReader") "ended") := T.elim fun X G c => He.meth_ok (c.d.fact 85 (f := .meth "TextReader" "ended") rfl)
theorem Txt.mk_TextReader (T : Txt w K mg) : Mk K (He.ga K "TextReader") (He.ma K (He.ga K "TextReader") "__init__") := T.elim fun X G c => He.mkr_ok (c.d.fact 86 (f := .mkr "TextReader") rfl)
theorem Txt.z_range (T : Txt w K mg) : mg "range" = none := T.elim fun X G c => He.free_ok X G (c.d.fact 87 (f := .free "range") rfl)
theorem Txt.z_min (T : Txt w K mg) : mg "min" = none := T.elim fun X G c => He.free_ok X G (c.d.fact 88 (f := .free "min") rfl)
theorem Txt.z_sum (T : Txt w K mg) : mg "sum" = none := T.elim fun X G c => He.free_ok X G (c.d.fact 89 (f := .free "sum") rfl)
end
abbrev Rw : PySem.W.OpenRow := PySem.W.OpenLaw.row PySem.Challenge.rw_oldhands_k85_kinds_in_words
abbrev heHk : PySem.W.Hook := He.hookT 5 heFa heFn heTabs
def heOb (s : PySem.W.SharedT) : He.AlT := He.obsTG 5 heFa heFn heTabs (HandSHeadRun.getT s)
theorem heOb_eq (s : PySem.W.SharedT) : heOb s = heHk.obs s.abs := He.obsTG_eq (HandSHeadRun.getT_eq s)
abbrev RunP (w : World) : Prop := HandSHeadRun.RunEq Rw (PySem.W.view Rw.prog [heAt]) heHk heOb 20000 heLo w
theorem runF (w : World) : RunP (w.withFollow "special-get-raises" false) := by
  intro os
  kernel_rfl
theorem runT (w : World) : RunP (w.withFollow "special-get-raises" true) := by
  intro os
  kernel_rfl
theorem heRun (w : World) : HandSHeadRun.RunEq Rw (PySem.W.view Rw.prog [heAt]) heHk heOb 20000 heLo w := PySem.W.byRow2 "special-get-raises" (P := RunP) runF runT w
end O85

end F_H85

section F_L3a
/-! L3: a layer over HandS in which tuples are plain data: the domain D, the heap of what may change. -/
namespace L3
open PySem PySem.Spec PyProof.Rows L2

abbrev Fg := PySem.W.Frag
abbrev St := L2.St

/-- a value with the tuples (and the lists that nobody writes) read out -/
inductive D where
  | non | bl (b : Bool) | int (i : Int) | str (x : Str) | tup (ds : List D) | rol (ds : List D) | ref (a : Addr) | ty (n : String)

/-- a list that nobody writes -/
def SqRo (K : Fg) (H : Hp) (a : Addr) (xs : List V) : Prop :=
  (∃ o, H a = some (.frz o (.lst xs))) ∨
    ∃ (o : Obj) (its : Array Value) (n : Nat), K.lookup a = some o ∧ o.cls = .type "list" ∧ o.dict = none ∧ o.data = .seq its n ∧ its.size ≤ sizeLine ∧ Vals xs its.toList
theorem SqRo.toL {K : Fg} {H : Hp} {a : Addr} {xs : List V} (h : SqRo K H a xs) : SqL K H a xs := by
  rcases h with ⟨o, h⟩ | h
  · exact .inl (.inr ⟨o, h⟩)
  · exact .inr h

mutual
def RepV (K : Fg) (H : Hp) (v : V) : D → Prop
  | .non => v = .non
  | .bl b => v = .bl b
  | .int i => v = .int i
  | .str x => v = .str x
  | .tup ds => ∃ a xs, v = .ref a ∧ SqT K H a xs ∧ Reps K H xs ds
  | .rol ds => ∃ a xs, v = .ref a ∧ SqRo K H a xs ∧ Reps K H xs ds
  | .ref a => v = .ref a
  | .ty n => v = .ty n
def Reps (K : Fg) (H : Hp) (vs : List V) : List D → Prop
  | [] => vs = []
  | d :: ds => ∃ x xs, vs = x :: xs ∧ RepV K H x d ∧ Reps K H xs ds
end

/-- tuples and unwritten lists stay -/
structure Pers (K : Fg) (H H' : Hp) : Prop where
  tup : ∀ a xs, SqT K H a xs → SqT K H' a xs
  ro : ∀ a xs, SqRo K H a xs → SqRo K H' a xs
theorem Pers.refl (K : Fg) (H : Hp) : Pers K H H := ⟨fun _ _ h => h, fun _ _ h => h⟩
theorem Pers.trans {K : Fg} {H H1 H2 : Hp} (a : Pers K H H1) (b : Pers K H1 H2) : Pers K H H2 := ⟨fun x xs h => b.tup x xs (a.tup x xs h), fun x xs h => b.ro x xs (a.ro x xs h)⟩
/-- what may be written over -/
def Wr : Option HO → Prop
  | none => True
  | some (.tup _) => False
  | some (.frz _ _) => False
  | some _ => True
theorem Pers.upd {K : Fg} {H : Hp} {p : Addr} {o : HO} (hm : Wr (H p)) : Pers K H (upd H p o) := by
  refine ⟨fun a xs h => ?_, fun a xs h => ?_⟩
  · rcases h with (h | ⟨o', h⟩) | h
    · have ne : a ≠ p := fun e => by rw [← e, h] at hm; exact hm
      exact .inl (.inl (by rw [upd_ne ne]; exact h))
    · have ne : a ≠ p := fun e => by rw [← e, h] at hm; exact hm
      exact .inl (.inr ⟨o', by rw [upd_ne ne]; exact h⟩)
    · exact .inr h
  · rcases h with ⟨o', h⟩ | h
    · have ne : a ≠ p := fun e => by rw [← e, h] at hm; exact hm
      exact .inl ⟨o', by rw [upd_ne ne]; exact h⟩
    · exact .inr h
theorem Wr.free {H : Hp} {p : Addr} (h : H p = none) : Wr (H p) := by rw [h]; trivial

section
variable {K : Fg} {H H' : Hp}
mutual
theorem RepV.mono (p : Pers K H H') {v : V} : ∀ {d : D}, RepV K H v d → RepV K H' v d
  | .non, h => by simpa [RepV] using h
  | .bl _, h => by simpa [RepV] using h
  | .int _, h => by simpa [RepV] using h
  | .str _, h => by simpa [RepV] using h
  | .tup ds, h => by
    obtain ⟨a, xs, e, s, r⟩ := (by simpa [RepV] using h : ∃ a xs, v = .ref a ∧ SqT K H a xs ∧ Reps K H xs ds)
    simp only [RepV]
    exact ⟨a, xs, e, p.tup a xs s, Reps.mono p r⟩
  | .rol ds, h => by
    obtain ⟨a, xs, e, s, r⟩ := (by simpa [RepV] using h : ∃ a xs, v = .ref a ∧ SqRo K H a xs ∧ Reps K H xs ds)
    simp only [RepV]
    exact ⟨a, xs, e, p.ro a xs s, Reps.mono p r⟩
  | .ref _, h => by simpa [RepV] using h
  | .ty _, h => by simpa [RepV] using h
theorem Reps.mono (p : Pers K H H') {vs : List V} : ∀ {ds : List D}, Reps K H vs ds → Reps K H' vs ds
  | [], h => by simpa [Reps] using h
  | d :: ds, h => by
    obtain ⟨x, xs, e, r, rs⟩ := (by simpa [Reps] using h : ∃ x xs, vs = x :: xs ∧ RepV K H x d ∧ Reps K H xs ds)
    simp only [Reps]
    exact ⟨x, xs, e, RepV.mono p r, Reps.mono p rs⟩
end
theorem repV_non {v : V} (h : RepV K H v .non) : v = .non := by simpa [RepV] using h
theorem repV_bl {v : V} {b : Bool} (h : RepV K H v (.bl b)) : v = .bl b := by simpa [RepV] using h
theorem repV_int {v : V} {i : Int} (h : RepV K H v (.int i)) : v = .int i := by simpa [RepV] using h
theorem repV_str {v : V} {x : Str} (h : RepV K H v (.str x)) : v = .str x := by simpa [RepV] using h
theorem repV_ref {v : V} {a : Addr} (h : RepV K H v (.ref a)) : v = .ref a := by simpa [RepV] using h
theorem repV_ty {v : V} {n : String} (h : RepV K H v (.ty n)) : v = .ty n := by simpa [RepV] using h
theorem repV_tup {v : V} {ds : List D} (h : RepV K H v (.tup ds)) : ∃ a xs, v = .ref a ∧ SqT K H a xs ∧ Reps K H xs ds := by simpa [RepV] using h
theorem repV_rol {v : V} {ds : List D} (h : RepV K H v (.rol ds)) : ∃ a xs, v = .ref a ∧ SqRo K H a xs ∧ Reps K H xs ds := by simpa [RepV] using h
theorem rv_non : RepV K H .non .non := by simp [RepV]
theorem rv_bl {b : Bool} : RepV K H (.bl b) (.bl b) := by simp [RepV]
theorem rv_int {i : Int} : RepV K H (.int i) (.int i) := by simp [RepV]
theorem rv_str {x : Str} : RepV K H (.str x) (.str x) := by simp [RepV]
theorem rv_ref {a : Addr} : RepV K H (.ref a) (.ref a) := by simp [RepV]
theorem rv_ty {n : String} : RepV K H (.ty n) (.ty n) := by simp [RepV]
theorem rv_tup {a : Addr} {xs : List V} {ds : List D} (s : SqT K H a xs) (r : Reps K H xs ds) : RepV K H (.ref a) (.tup ds) := by
  simp only [RepV]; exact ⟨a, xs, rfl, s, r⟩
theorem rv_rol {a : Addr} {xs : List V} {ds : List D} (s : SqRo K H a xs) (r : Reps K H xs ds) : RepV K H (.ref a) (.rol ds) := by
  simp only [RepV]; exact ⟨a, xs, rfl, s, r⟩
theorem reps_nil {vs : List V} (h : Reps K H vs []) : vs = [] := by simpa [Reps] using h
theorem reps_cons {vs : List V} {d : D} {ds : List D} (h : Reps K H vs (d :: ds)) : ∃ x xs, vs = x :: xs ∧ RepV K H x d ∧ Reps K H xs ds := by simpa [Reps] using h
theorem rs_nil : Reps K H [] [] := by simp [Reps]
theorem rs_cons {x : V} {xs : List V} {d : D} {ds : List D} (h : RepV K H x d) (t : Reps K H xs ds) : Reps K H (x :: xs) (d :: ds) := by simp only [Reps]; exact ⟨x, xs, rfl, h, t⟩
theorem Reps.length : ∀ {ds : List D} {vs : List V}, Reps K H vs ds → vs.length = ds.length
  | [], _, h => by rw [reps_nil h]; rfl
  | d :: ds, _, h => by
    obtain ⟨x, xs, rfl, _, t⟩ := reps_cons h
    simp [Reps.length t]
theorem Reps.get : ∀ {ds : List D} {vs : List V} {i : Nat} {d : D}, Reps K H vs ds → ds[i]? = some d → ∃ v, vs[i]? = some v ∧ RepV K H v d
  | [], _, _, _, _, e => by simp at e
  | d :: ds, _, i, d', h, e => by
    obtain ⟨x, xs, rfl, r, t⟩ := reps_cons h
    cases i with
    | zero => simp at e; subst e; exact ⟨x, rfl, r⟩
    | succ i => simpa using Reps.get t (by simpa using e)
theorem Reps.getV : ∀ {ds : List D} {vs : List V} {i : Nat} {v : V}, Reps K H vs ds → vs[i]? = some v → ∃ d, ds[i]? = some d ∧ RepV K H v d
  | [], _, _, _, h, e => by rw [reps_nil h] at e; simp at e
  | d :: ds, _, i, v, h, e => by
    obtain ⟨x, xs, rfl, r, t⟩ := reps_cons h
    cases i with
    | zero => simp at e; subst e; exact ⟨d, rfl, r⟩
    | succ i => simpa using Reps.getV t (by simpa using e)
theorem Reps.append : ∀ {ds es : List D} {vs us : List V}, Reps K H vs ds → Reps K H us es → Reps K H (vs ++ us) (ds ++ es)
  | [], _, _, _, h, k => by rw [reps_nil h]; exact k
  | d :: ds, _, _, _, h, k => by
    obtain ⟨x, xs, rfl, r, t⟩ := reps_cons h
    exact rs_cons r (Reps.append t k)
theorem Reps.take : ∀ {ds : List D} {vs : List V} (n : Nat), Reps K H vs ds → Reps K H (vs.take n) (ds.take n)
  | [], _, n, h => by rw [reps_nil h]; simpa using rs_nil
  | d :: ds, _, 0, h => by simpa using rs_nil
  | d :: ds, _, n + 1, h => by
    obtain ⟨x, xs, rfl, r, t⟩ := reps_cons h
    exact rs_cons r (Reps.take n t)
theorem Reps.drop : ∀ {ds : List D} {vs : List V} (n : Nat), Reps K H vs ds → Reps K H (vs.drop n) (ds.drop n)
  | [], _, n, h => by rw [reps_nil h]; simpa using rs_nil
  | d :: ds, _, 0, h => by simpa using h
  | d :: ds, _, n + 1, h => by
    obtain ⟨x, xs, rfl, r, t⟩ := reps_cons h
    exact Reps.drop n t
theorem Reps.set : ∀ {ds : List D} {vs : List V} {v : V} {d : D} (n : Nat), Reps K H vs ds → RepV K H v d → Reps K H (vs.set n v) (ds.set n d)
  | [], _, _, _, n, h, _ => by rw [reps_nil h]; exact rs_nil
  | d :: ds, _, _, _, 0, h, k => by
    obtain ⟨x, xs, rfl, r, t⟩ := reps_cons h
    exact rs_cons k t
  | d :: ds, _, _, _, n + 1, h, k => by
    obtain ⟨x, xs, rfl, r, t⟩ := reps_cons h
    exact rs_cons r (Reps.set n t k)
theorem Reps.reverse : ∀ {ds : List D} {vs : List V}, Reps K H vs ds → Reps K H vs.reverse ds.reverse
  | [], _, h => by rw [reps_nil h]; exact rs_nil
  | d :: ds, _, h => by
    obtain ⟨x, xs, rfl, r, t⟩ := reps_cons h
    rw [List.reverse_cons, List.reverse_cons]
    exact Reps.append (Reps.reverse t) (rs_cons r rs_nil)
theorem reps_map {α : Type} (f : α → V) (g : α → D) (h : ∀ x, RepV K H (f x) (g x)) : ∀ xs : List α, Reps K H (xs.map f) (xs.map g)
  | [] => rs_nil
  | x :: xs => rs_cons (h x) (reps_map f g h xs)
theorem reps_ints (ns : List Int) : Reps K H (ns.map V.int) (ns.map D.int) := reps_map _ _ (fun _ => rv_int) ns
theorem reps_strs (ns : List Str) : Reps K H (ns.map V.str) (ns.map D.str) := reps_map _ _ (fun _ => rv_str) ns
theorem of_reps_strs : ∀ {ns : List Str} {vs : List V}, Reps K H vs (ns.map D.str) → vs = ns.map V.str
  | [], _, h => reps_nil h
  | n :: ns, _, h => by
    obtain ⟨x, xs, rfl, r, t⟩ := reps_cons h
    rw [repV_str r, of_reps_strs t]; rfl
theorem of_reps_ints : ∀ {ns : List Int} {vs : List V}, Reps K H vs (ns.map D.int) → vs = ns.map V.int
  | [], _, h => reps_nil h
  | n :: ns, _, h => by
    obtain ⟨x, xs, rfl, r, t⟩ := reps_cons h
    rw [repV_int r, of_reps_ints t]; rfl
theorem of_reps_bls : ∀ {ns : List Bool} {vs : List V}, Reps K H vs (ns.map D.bl) → vs = ns.map V.bl
  | [], _, h => reps_nil h
  | n :: ns, _, h => by
    obtain ⟨x, xs, rfl, r, t⟩ := reps_cons h
    rw [repV_bl r, of_reps_bls t]; rfl
end

/-! ### slots -/
abbrev St3 := List (Option D)
def RepS (K : Fg) (H : Hp) : St → St3 → Prop
  | [], [] => True
  | o :: σ, o3 :: σ3 => (∀ d, o3 = some d → ∃ v, o = some v ∧ RepV K H v d) ∧ RepS K H σ σ3
  | _, _ => False
section
variable {K : Fg} {H H' : Hp}
theorem RepS.mono (p : Pers K H H') : ∀ {σ : St} {σ3 : St3}, RepS K H σ σ3 → RepS K H' σ σ3
  | [], [], _ => trivial
  | o :: σ, o3 :: σ3, h => ⟨fun d e => let ⟨v, ev, r⟩ := h.1 d e; ⟨v, ev, r.mono p⟩, RepS.mono p h.2⟩
  | [], _ :: _, h => h.elim
  | _ :: _, [], h => h.elim
theorem RepS.get : ∀ {σ : St} {σ3 : St3} {i : Nat} {d : D}, RepS K H σ σ3 → σ3[i]? = some (some d) → ∃ v, σ[i]? = some (some v) ∧ RepV K H v d
  | [], [], _, _, _, e => by simp at e
  | o :: σ, o3 :: σ3, 0, d, h, e => by
    simp at e
    obtain ⟨v, ev, r⟩ := h.1 d e
    exact ⟨v, by simp [ev], r⟩
  | o :: σ, o3 :: σ3, i + 1, d, h, e => by simpa using RepS.get h.2 (by simpa using e)
  | [], _ :: _, _, _, h, _ => h.elim
  | _ :: _, [], _, _, h, _ => h.elim
theorem RepS.set : ∀ {σ : St} {σ3 : St3} (i : Nat) {v : V} {d : D}, RepS K H σ σ3 → RepV K H v d → RepS K H (σ.set i (some v)) (σ3.set i (some d))
  | [], [], _, _, _, _, _ => trivial
  | o :: σ, o3 :: σ3, 0, v, d, h, r => ⟨fun d' e => ⟨v, rfl, by cases e; exact r⟩, h.2⟩
  | o :: σ, o3 :: σ3, i + 1, v, d, h, r => ⟨h.1, RepS.set i h.2 r⟩
  | [], _ :: _, _, _, _, h, _ => h.elim
  | _ :: _, [], _, _, _, h, _ => h.elim
theorem RepS.setN : ∀ {σ : St} {σ3 : St3} (i : Nat) (o : Option V), RepS K H σ σ3 → RepS K H (σ.set i o) (σ3.set i none)
  | [], [], _, _, _ => trivial
  | o :: σ, o3 :: σ3, 0, _, h => ⟨fun d' e => (nomatch e), h.2⟩
  | o :: σ, o3 :: σ3, i + 1, _, h => ⟨h.1, RepS.setN i _ h.2⟩
  | [], _ :: _, _, _, h => h.elim
  | _ :: _, [], _, _, h => h.elim
def wipe3 (σ : St3) : List Nat → St3
  | [] => σ
  | v :: vs => (wipe3 σ vs).set v none
theorem RepS.wipe3 {σ : St} {σ3 : St3} (r : RepS K H σ σ3) : ∀ vs : List Nat, RepS K H (L2.wipe σ vs) (L3.wipe3 σ3 vs)
  | [] => r
  | i :: vs => (RepS.wipe3 r vs).setN i none
end

/-! ### the heap of what may change -/
inductive O3 where
  | lst (ds : List D)
  | ins (C : Addr) (fs : List (Str × D))
abbrev Hp3 := Addr → Option O3
def upd3 (h : Hp3) (a : Addr) (o : O3) : Hp3 := fun b => if b = a then some o else h b
theorem upd3_same {h : Hp3} {a : Addr} {o : O3} : upd3 h a o a = some o := by unfold upd3; rw [if_pos rfl]
theorem upd3_ne {h : Hp3} {a b : Addr} {o : O3} (e : b ≠ a) : upd3 h a o b = h b := by unfold upd3; rw [if_neg e]
theorem upd3_upd3 {h : Hp3} {a : Addr} {o u : O3} : upd3 (upd3 h a o) a u = upd3 h a u := by
  funext b; unfold upd3; split <;> rfl
def Flds (K : Fg) (H : Hp) : List (Str × V) → List (Str × D) → Prop
  | [], [] => True
  | p :: ps, q :: qs => p.1 = q.1 ∧ RepV K H p.2 q.2 ∧ Flds K H ps qs
  | _, _ => False
def RepO (K : Fg) (H : Hp) (a : Addr) : O3 → Prop
  | .lst ds => ∃ xs, H a = some (.lst xs) ∧ Reps K H xs ds
  | .ins C fs => ∃ dx fv, H a = some (.ins C dx fv) ∧ Flds K H fv fs
def RepH (K : Fg) (H : Hp) (h : Hp3) : Prop := ∀ a o, h a = some o → RepO K H a o
section
variable {K : Fg} {H H' : Hp} {h h' : Hp3} {p : Addr} {o : HO} {o3 : O3}
theorem Flds.mono (p : Pers K H H') : ∀ {fv : List (Str × V)} {fs : List (Str × D)}, Flds K H fv fs → Flds K H' fv fs
  | [], [], _ => trivial
  | _ :: _, _ :: _, h => ⟨h.1, h.2.1.mono p, Flds.mono p h.2.2⟩
  | [], _ :: _, h => h.elim
  | _ :: _, [], h => h.elim
theorem Flds.length : ∀ {fv : List (Str × V)} {fs : List (Str × D)}, Flds K H fv fs → fv.length = fs.length
  | [], [], _ => rfl
  | _ :: _, _ :: _, h => by simp [Flds.length h.2.2]
  | [], _ :: _, h => h.elim
  | _ :: _, [], h => h.elim
theorem Flds.lookup : ∀ {fv : List (Str × V)} {fs : List (Str × D)} {f : Str} {d : D}, Flds K H fv fs → fs.lookup f = some d → ∃ v, fv.lookup f = some v ∧ RepV K H v d
  | [], [], _, _, _, e => by simp at e
  | p :: ps, q :: qs, f, d, h, e => by
    obtain ⟨pf, pv⟩ := p
    obtain ⟨qf, qv⟩ := q
    obtain ⟨h1, h2, h3⟩ := h
    simp only at h1 h2
    subst h1
    rw [List.lookup_cons] at e ⊢
    cases hb : f == pf with
    | true => rw [hb] at e; cases e; exact ⟨pv, rfl, h2⟩
    | false => rw [hb] at e; exact Flds.lookup h3 e
  | [], _ :: _, _, _, h, _ => h.elim
  | _ :: _, [], _, _, h, _ => h.elim
theorem Flds.lookupN : ∀ {fv : List (Str × V)} {fs : List (Str × D)} {f : Str}, Flds K H fv fs → fs.lookup f = none → fv.lookup f = none
  | [], [], _, _, e => rfl
  | p :: ps, q :: qs, f, h, e => by
    obtain ⟨pf, pv⟩ := p
    obtain ⟨qf, qv⟩ := q
    obtain ⟨h1, h2, h3⟩ := h
    simp only at h1 h2
    subst h1
    rw [List.lookup_cons] at e ⊢
    cases hb : f == pf with
    | true => rw [hb] at e; cases e
    | false => rw [hb] at e; exact Flds.lookupN h3 e
  | [], _ :: _, _, h, _ => h.elim
  | _ :: _, [], _, h, _ => h.elim
def putD (f : Str) (v : D) : List (Str × D) → List (Str × D)
  | [] => [(f, v)]
  | (g, w) :: r => if g = f then (g, v) :: r else (g, w) :: putD f v r
theorem putF_eq : ∀ (f : Str) (v : V) (fs : List (Str × V)), putF f v fs = (match fs with | [] => [(f, v)] | (g, w) :: r => if g = f then (g, v) :: r else (g, w) :: putF f v r)
  | f, v, [] => rfl
  | f, v, (g, w) :: r => by
    first
      | rfl
      | (unfold putF; by_cases h : g = f <;> simp [h])
theorem Flds.put {f : Str} {v : V} {d : D} (r : RepV K H v d) : ∀ {fv : List (Str × V)} {fs : List (Str × D)}, Flds K H fv fs → Flds K H (putF f v fv) (putD f d fs)
  | [], [], _ => ⟨rfl, r, trivial⟩
  | p :: ps, q :: qs, h => by
    obtain ⟨pf, pv⟩ := p
    obtain ⟨qf, qv⟩ := q
    obtain ⟨h1, h2, h3⟩ := h
    simp only at h1 h2
    subst h1
    rw [putF_eq]
    unfold putD
    by_cases e : pf = f
    · simp only [e, if_true]
      exact ⟨rfl, r, h3⟩
    · simp only [e, if_false]
      exact ⟨rfl, h2, Flds.put r h3⟩
  | [], _ :: _, h => h.elim
  | _ :: _, [], h => h.elim
theorem RepO.mono (p : Pers K H H') {a : Addr} (e : H' a = H a) : ∀ {o3 : O3}, RepO K H a o3 → RepO K H' a o3
  | .lst ds, ⟨xs, h1, h2⟩ => ⟨xs, e.trans h1, h2.mono p⟩
  | .ins C fs, ⟨dx, fv, h1, h2⟩ => ⟨dx, fv, e.trans h1, h2.mono p⟩
theorem RepO.some {a : Addr} : ∀ {o3 : O3}, RepO K H a o3 → ∃ o, H a = Option.some o ∧ Wr (Option.some o)
  | .lst _, ⟨xs, h1, _⟩ => ⟨_, h1, trivial⟩
  | .ins _ _, ⟨_, _, h1, _⟩ => ⟨_, h1, trivial⟩
theorem RepH.free (r : RepH K H h) (e : H p = none) : h p = none := by
  cases q : h p with
  | none => rfl
  | some o3 =>
    obtain ⟨o, h1, _⟩ := (r p o3 q).some
    rw [e] at h1; cases h1
theorem RepH.wr (r : RepH K H h) (e : h p = some o3) : Wr (H p) := by
  obtain ⟨o, h1, w⟩ := (r p o3 e).some
  rw [h1]; exact w
/-- a new object that isn't told of -/
theorem RepH.new (r : RepH K H h) (e : H p = none) : RepH K (upd H p o) h := fun a o3 q => by
  have ne : a ≠ p := fun z => by rw [z, r.free e] at q; cases q
  exact (r a o3 q).mono (.upd (.free e)) (upd_ne ne)
/-- an object written -/
theorem RepH.put (r : RepH K H h) (w : Wr (H p)) (n : RepO K (upd H p o) p o3) : RepH K (upd H p o) (upd3 h p o3) := fun a u q => by
  by_cases e : a = p
  · subst e
    rw [upd3_same] at q
    cases q
    exact n
  · rw [upd3_ne e] at q
    exact (r a u q).mono (.upd w) (upd_ne e)
/-- less is told -/
theorem RepH.less (r : RepH K H h') (k : ∀ a o, h a = some o → h' a = some o) : RepH K H h := fun a o q => r a o (k a o q)
end

/-- what is told of the one stands in the other -/
def Sub3 (h h' : Hp3) : Prop := ∀ a o, h a = some o → h' a = some o
theorem Sub3.refl (h : Hp3) : Sub3 h h := fun _ _ e => e
theorem Sub3.trans {a b c : Hp3} (x : Sub3 a b) (y : Sub3 b c) : Sub3 a c := fun p o e => y p o (x p o e)
theorem Sub3.new {h : Hp3} {p : Addr} {o : O3} (np : h p = none) : Sub3 h (upd3 h p o) := fun a u e => by
  have ne : a ≠ p := fun z => by rw [z, np] at e; cases e
  rw [upd3_ne ne]; exact e
/-- from one state to a later one: tuples stay, what is not told of stays as it is, and is not told of behind -/
structure Go (K : Fg) (H : Hp) (h : Hp3) (H' : Hp) (h' : Hp3) : Prop extends Pers K H H' where
  frm : ∀ p o, H p = some o → h p = none → H' p = some o ∧ h' p = none
  live : ∀ p, H' p = none → H p = none
  rep : RepH K H' h'
section
variable {K : Fg} {H H1 H2 : Hp} {h h1 h2 : Hp3} {p : Addr} {o : HO} {o3 u3 : O3}
theorem live_upd {q : Addr} (e : upd H p o q = none) : H q = none := by
  unfold upd at e
  split at e
  · cases e
  · exact e
theorem Go.refl (r : RepH K H h) : Go K H h H h := ⟨.refl _ _, fun _ _ e n => ⟨e, n⟩, fun _ e => e, r⟩
theorem Go.trans (a : Go K H h H1 h1) (b : Go K H1 h1 H2 h2) : Go K H h H2 h2 :=
  ⟨a.toPers.trans b.toPers, fun p o e n => let ⟨e1, n1⟩ := a.frm p o e n; b.frm p o e1 n1, fun p e => a.live p (b.live p e), b.rep⟩
theorem Go.new (r : RepH K H h) (np : H p = none) : Go K H h (upd H p o) h :=
  ⟨.upd (.free np), fun q u e n => ⟨by rw [upd_ne (ne_of_none e np)]; exact e, n⟩, fun _ e => live_upd e, r.new np⟩
theorem Go.putNew (r : RepH K H h) (np : H p = none) (n : RepO K (upd H p o) p o3) : Go K H h (upd H p o) (upd3 h p o3) :=
  ⟨.upd (.free np), fun q u e n => ⟨by rw [upd_ne (ne_of_none e np)]; exact e, by rw [upd3_ne (ne_of_none e np)]; exact n⟩, fun _ e => live_upd e, r.put (.free np) n⟩
theorem Go.write (r : RepH K H h) (e : h p = some u3) (n : RepO K (upd H p o) p o3) : Go K H h (upd H p o) (upd3 h p o3) := by
  refine ⟨.upd (r.wr e), fun q u eq nq => ?_, fun _ e => live_upd e, r.put (r.wr e) n⟩
  have ne : q ≠ p := fun z => by rw [z, e] at nq; cases nq
  exact ⟨by rw [upd_ne ne]; exact eq, by rw [upd3_ne ne]; exact nq⟩
theorem Go.less (r : RepH K H h) (k : Sub3 h1 h) : Go K H h H h1 := by
  refine ⟨.refl _ _, fun q u eq nq => ⟨eq, ?_⟩, fun _ e => e, r.less k⟩
  cases z : h1 q with
  | none => rfl
  | some v => rw [k q v z] at nq; cases nq
theorem Go.newL {xs : List V} {ds : List D} (r : RepH K H h) (np : H p = none) (rs : Reps K H xs ds) : Go K H h (upd H p (.lst xs)) (upd3 h p (.lst ds)) :=
  .putNew r np (show RepO K _ p (.lst ds) from ⟨xs, upd_same, rs.mono (.upd (.free np))⟩)
theorem Go.setL {xs : List V} {ds : List D} (r : RepH K H h) (e : h p = some u3) (rs : Reps K H xs ds) : Go K H h (upd H p (.lst xs)) (upd3 h p (.lst ds)) :=
  .write r e (show RepO K _ p (.lst ds) from ⟨xs, upd_same, rs.mono (.upd (r.wr e))⟩)
end

/-! ### readings over the data -/
abbrev VK3 := D → Hp3 → Prop
abbrev XK3 := Addr → Hp3 → Prop
abbrev TE3 := St3 → Hp3 → VK3 → Prop
abbrev TT3 := St3 → Hp3 → (Bool → Hp3 → Prop) → Prop
abbrev TA3 := St3 → Hp3 → (List D → Hp3 → Prop) → Prop
structure Ends3 where
  nx : St3 → Hp3 → Prop
  rt : VK3
  bk : St3 → Hp3 → Prop := fun _ _ => False
  ct : St3 → Hp3 → Prop := fun _ _ => False
abbrev TS3 := Ends3 → St3 → Hp3 → Prop
/-- the state at a def's entry -/
abbrev B0 := Hp × Hp3
/-- the state told -/
structure RS (K : Fg) (B : B0) (H : Hp) (σ : St) (σ3 : St3) (h : Hp3) : Prop where
  s : RepS K H σ σ3
  b : Go K B.1 B.2 H h
section
variable {K : Fg} {B : B0} {H H' : Hp} {σ : St} {σ3 : St3} {h3 h3' : Hp3}
theorem RS.h (r : RS K B H σ σ3 h3) : RepH K H h3 := r.b.rep
theorem RS.go (r : RS K B H σ σ3 h3) (g : Go K H h3 H' h3') : RS K B H' σ σ3 h3' := ⟨r.s.mono g.toPers, r.b.trans g⟩
theorem RS.set (r : RS K B H σ σ3 h3) (i : Nat) {v : V} {d : D} (rv : RepV K H v d) : RS K B H (σ.set i (some v)) (σ3.set i (some d)) h3 := ⟨r.s.set i rv, r.b⟩
end

def CtV (K : Fg) (H : Hp) (h : Hp3) (Q3 : VK3) (Q : VK) : Prop := ∀ v H' d h', Go K H h H' h' → RepV K H' v d → Q3 d h' → Q v H'
def CtB (K : Fg) (H : Hp) (h : Hp3) (Q3 : Bool → Hp3 → Prop) (Q : Bool → Hp → Prop) : Prop := ∀ b H' h', Go K H h H' h' → Q3 b h' → Q b H'
def CtA (K : Fg) (H : Hp) (h : Hp3) (Q3 : List D → Hp3 → Prop) (Q : List V → Hp → Prop) : Prop := ∀ vs H' ds h', Go K H h H' h' → Reps K H' vs ds → Q3 ds h' → Q vs H'
def CtN (K : Fg) (B : B0) (H : Hp) (h : Hp3) (N3 : St3 → Hp3 → Prop) (N : St → Hp → Prop) : Prop := ∀ σ H' σ3 h', Go K H h H' h' → RS K B H' σ σ3 h' → N3 σ3 h' → N σ H'
structure CtS (K : Fg) (B : B0) (H : Hp) (h : Hp3) (D3 : Ends3) (D : Ends) : Prop where
  nx : CtN K B H h D3.nx D.nx
  rt : CtV K H h D3.rt D.rt
  bk : CtN K B H h D3.bk D.bk
  ct : CtN K B H h D3.ct D.ct
section
variable {K : Fg} {B : B0} {H H' : Hp} {h h' : Hp3}
theorem CtV.go {Q3 : VK3} {Q : VK} (c : CtV K H h Q3 Q) (g : Go K H h H' h') : CtV K H' h' Q3 Q := fun v H2 d h2 g' r q => c v H2 d h2 (g.trans g') r q
theorem CtB.go {Q3 : Bool → Hp3 → Prop} {Q : Bool → Hp → Prop} (c : CtB K H h Q3 Q) (g : Go K H h H' h') : CtB K H' h' Q3 Q := fun v H2 h2 g' q => c v H2 h2 (g.trans g') q
theorem CtA.go {Q3 : List D → Hp3 → Prop} {Q : List V → Hp → Prop} (c : CtA K H h Q3 Q) (g : Go K H h H' h') : CtA K H' h' Q3 Q := fun v H2 d h2 g' r q => c v H2 d h2 (g.trans g') r q
theorem CtN.go {Q3 : St3 → Hp3 → Prop} {Q : St → Hp → Prop} (c : CtN K B H h Q3 Q) (g : Go K H h H' h') : CtN K B H' h' Q3 Q := fun σ H2 σ3 h2 g' r q => c σ H2 σ3 h2 (g.trans g') r q
theorem CtS.go {D3 : Ends3} {D : Ends} (c : CtS K B H h D3 D) (g : Go K H h H' h') : CtS K B H' h' D3 D := ⟨c.nx.go g, c.rt.go g, c.bk.go g, c.ct.go g⟩
theorem CtV.ok {Q3 : VK3} {Q : VK} (c : CtV K H h Q3 Q) {v : V} {d : D} (r : RepV K H v d) (rh : RepH K H h) (q : Q3 d h) : Q v H := c v H d h (.refl rh) r q
theorem CtV.new {Q3 : VK3} {Q : VK} {p : Addr} {xs : List V} {ds : List D} (c : CtV K H h Q3 Q) (rh : RepH K H h) (np : H p = none) (rs : Reps K H xs ds) (q : Q3 (.ref p) (upd3 h p (.lst ds))) : Q (.ref p) (upd H p (.lst xs)) :=
  c _ _ _ _ (.newL rh np rs) rv_ref q
theorem CtV.newT {Q3 : VK3} {Q : VK} {p : Addr} {xs : List V} {ds : List D} (c : CtV K H h Q3 Q) (rh : RepH K H h) (np : H p = none) (rs : Reps K H xs ds) (q : Q3 (.tup ds) h) : Q (.ref p) (upd H p (.tup xs)) :=
  c _ _ _ _ (.new rh np) (rv_tup (.of upd_same) (rs.mono (.upd (.free np)))) q
end

def LowE (K : Fg) (B : B0) (t3 : TE3) : TE := fun σ H Q => ∃ σ3 h Q3, RS K B H σ σ3 h ∧ t3 σ3 h Q3 ∧ CtV K H h Q3 Q
def LowT (K : Fg) (B : B0) (t3 : TT3) : TT := fun σ H Q => ∃ σ3 h Q3, RS K B H σ σ3 h ∧ t3 σ3 h Q3 ∧ CtB K H h Q3 Q
def LowA (K : Fg) (B : B0) (t3 : TA3) : TA := fun σ H Q => ∃ σ3 h Q3, RS K B H σ σ3 h ∧ t3 σ3 h Q3 ∧ CtA K H h Q3 Q
def LowS (K : Fg) (B : B0) (t3 : TS3) : TS := fun D σ H => ∃ σ3 h D3, RS K B H σ σ3 h ∧ t3 D3 σ3 h ∧ CtS K B H h D3 D

def PE3 (X : Cx) (B : B0) (e : Expr) (t : TE3) : Prop := PE X e (LowE X.K B t)
def PT3 (X : Cx) (B : B0) (e : Expr) (t : TT3) : Prop := PT X e (LowT X.K B t)
def PW3 (X : Cx) (B : B0) (e : Expr) (t : TT3) : Prop := PW X e (LowT X.K B t)
def PA3 (X : Cx) (B : B0) (es : List Expr) (t : TA3) : Prop := PA X es (LowA X.K B t)
def PS3 (X : Cx) (B : B0) (st : Stmt) (t : TS3) : Prop := PS X st (LowS X.K B t)
def PSs3 (X : Cx) (B : B0) (st : List Stmt) (t : TS3) : Prop := PSs X st (LowS X.K B t)
section
variable {X : Cx} {B : B0}
theorem PE3.of {e : Expr} {t : TE} {t3 : TE3} (he : PE X e t) (hl : ∀ σ H Q, LowE X.K B t3 σ H Q → t σ H Q) : PE3 X B e t3 := ⟨fun pins s σ H Q I h => he.run pins s σ H Q I (hl σ H Q h)⟩
theorem PT3.of {e : Expr} {t : TT} {t3 : TT3} (he : PT X e t) (hl : ∀ σ H Q, LowT X.K B t3 σ H Q → t σ H Q) : PT3 X B e t3 := ⟨fun pins s σ H Q I h => he.run pins s σ H Q I (hl σ H Q h)⟩
theorem PW3.of {e : Expr} {t : TT} {t3 : TT3} (he : PW X e t) (hl : ∀ σ H Q, LowT X.K B t3 σ H Q → t σ H Q) : PW3 X B e t3 := ⟨fun w pins s σ H Q I h => he.run w pins s σ H Q I (hl σ H Q h)⟩
theorem PA3.of {es : List Expr} {t : TA} {t3 : TA3} (he : PA X es t) (hl : ∀ σ H Q, LowA X.K B t3 σ H Q → t σ H Q) : PA3 X B es t3 := ⟨fun pos pins s σ H Q I h => he.run pos pins s σ H Q I (hl σ H Q h)⟩
theorem PS3.of {st : Stmt} {t : TS} {t3 : TS3} (he : PS X st t) (hl : ∀ D σ H, LowS X.K B t3 D σ H → t D σ H) : PS3 X B st t3 := ⟨fun pins s σ H D I h => he.run pins s σ H D I (hl D σ H h)⟩
theorem PSs3.of {st : List Stmt} {t : TS} {t3 : TS3} (he : PSs X st t) (hl : ∀ D σ H, LowS X.K B t3 D σ H → t D σ H) : PSs3 X B st t3 := ⟨fun pins s σ H D I h => he.run pins s σ H D I (hl D σ H h)⟩
end
end L3

end F_L3a

section F_L3b
/-! L3b: expressions: names, constants, operators, comparisons, truth. -/
namespace L3
open PySem PySem.Spec PyProof.Rows L2
section
variable {X : Cx} {B : B0}

/-! ### names, constants -/
def tVar3 (i : Nat) : TE3 := fun σ h Q => match σ[i]? with
  | some (some v) => Q v h
  | _ => False
def tC3 (d : D) : TE3 := fun _ h Q => Q d h
theorem pe3_var {i : Nat} {e : Expr} (he : PE X e (tVar i)) : PE3 X B e (tVar3 i) := PE3.of he fun σ H Q ⟨σ3, h, Q3, r, t, c⟩ => by
  unfold tVar3 at t
  split at t
  · rename_i d hd
    obtain ⟨v, hv, rv⟩ := r.s.get hd
    exact ⟨v, hv, c.ok rv r.h t⟩
  · exact t.elim
theorem pv3 (i : Nat) {x : Str} {pos : Pos} (hN : X.N[i]? = some x := by rfl) (hv : Vis X.env.scope x := by first | exact Or.inl rfl | exact Or.inr (Or.inl rfl) | exact Or.inr (Or.inr rfl)) (hd : (x == ("__debug__" : Str)) = false := by decide)
    (hcd : (x == ("__classdict__" : Str)) = false := by decide) : PE3 X B (.Name x pos) (tVar3 i) := pe3_var (pe_var hN hv hd hcd)
/-- a value that needs no heap -/
theorem pe3_const {e : Expr} {v : V} {d : D} (he : PE X e (tC v)) (hr : ∀ H, RepV X.K H v d) : PE3 X B e (tC3 d) := PE3.of he fun σ H Q ⟨σ3, h, Q3, r, t, c⟩ => c.ok (hr H) r.h t
theorem pe3_int {i j pos} : PE3 X B (.Constant (.int i) j pos) (tC3 (.int i)) := pe3_const pe_int fun _ => rv_int
theorem pe3_bl {b j pos} : PE3 X B (.Constant (.bool b) j pos) (tC3 (.bl b)) := pe3_const pe_bl fun _ => rv_bl
theorem pe3_non {j pos} : PE3 X B (.Constant .none j pos) (tC3 .non) := pe3_const pe_non fun _ => rv_non
theorem pe3_str {x j pos} : PE3 X B (.Constant (.str x) j pos) (tC3 (.str x)) := pe3_const pe_str fun _ => rv_str
/-- a constant of the module -/
theorem pe3_gint {x : Str} {i : Int} {pos : Pos} (hg : Gl X x) (hm : ∃ t, X.mg x = some (.int i t)) (hd : (x == ("__debug__" : Str)) = false := by decide) : PE3 X B (.Name x pos) (tC3 (.int i)) := by
  obtain ⟨t, hm⟩ := hm
  exact pe3_const (pe_glob (v := .int i) hg hm ⟨t, rfl⟩ hd) fun _ => rv_int
theorem pe3_gstr {x z : Str} {pos : Pos} (hg : Gl X x) (hm : ∃ t, X.mg x = some (.str z t)) (hd : (x == ("__debug__" : Str)) = false := by decide) : PE3 X B (.Name x pos) (tC3 (.str z)) := by
  obtain ⟨t, hm⟩ := hm
  exact pe3_const (pe_glob (v := .str z) hg hm ⟨t, rfl⟩ hd) fun _ => rv_str
theorem pe3_gref {x : Str} {a : Addr} {pos : Pos} (hg : Gl X x) (hm : X.mg x = some (.ref a)) (hd : (x == ("__debug__" : Str)) = false := by decide) : PE3 X B (.Name x pos) (tC3 (.ref a)) :=
  pe3_const (pe_glob (v := .ref a) hg hm rfl hd) fun _ => rv_ref
/-- a built-in class as a value -/
theorem pe3_ty {x : Str} {n : String} {pos : Pos} (hg : Gl X x) (hm : X.mg x = none) (hv : bootBuiltins x = some (.type n)) (hn : x ≠ "__name__" := by decide) (hd : (x == ("__debug__" : Str)) = false := by decide) : PE3 X B (.Name x pos) (tC3 (.ty n)) :=
  pe3_const (pe_bltn hg hm hv (v := .ty n) rfl hn hd) fun _ => rv_ty

/-! ### operators by values -/
abbrev R3 := D → D → Hp3 → VK3 → Prop
def LR (K : Fg) (r : R2) (r3 : R3) : Prop := ∀ x y H dx dy h Q3 Q, RepV K H x dx → RepV K H y dy → RepH K H h → r3 dx dy h Q3 → CtV K H h Q3 Q → r x y H Q
def Op3 (X : Cx) (f : Value → Value → Sem Value) (r3 : R3) : Prop := ∃ r, OpR X f r ∧ LR X.K r r3
def tOp3 (r3 : R3) (ta tb : TE3) : TE3 := fun σ h Q => ta σ h fun x h1 => tb σ h1 fun y h2 => r3 x y h2 Q
variable {a b c e : Expr} {ta tb tc te : TE3} {pos : Pos}
theorem low2 {r : R2} {r3 : R3} (hl : LR X.K r r3) : ∀ σ H Q, LowE X.K B (tOp3 r3 ta tb) σ H Q → tOp r (LowE X.K B ta) (LowE X.K B tb) σ H Q := fun σ H Q ⟨σ3, h, Q3, r0, t, c⟩ => by
  refine ⟨σ3, h, _, r0, t, fun x H1 dx h1 g1 rx t1 => ?_⟩
  refine ⟨σ3, h1, _, r0.go g1, t1, fun y H2 dy h2 g2 ry t2 => ?_⟩
  exact hl x y H2 dx dy h2 Q3 Q (rx.mono g2.toPers) ry g2.rep t2 (c.go (g1.trans g2))
theorem pe3_op {op : Operator} {r3 : R3} (ho : Op3 X (binaryOp op) r3) (ha : PE3 X B a ta) (hb : PE3 X B b tb) : PE3 X B (.BinOp a op b pos) (tOp3 r3 ta tb) := by
  obtain ⟨r, h1, h2⟩ := ho
  exact PE3.of (pe_op h1 ha hb) (low2 h2)
theorem pe3_cmp {op : CmpOp} {r3 : R3} (ho : Op3 X (compareOp op) r3) (ha : PE3 X B a ta) (hb : PE3 X B b tb) (hm : behindInMarks op b = false) : PE3 X B (.Compare a [op] [b] pos) (tOp3 r3 ta tb) := by
  obtain ⟨r, h1, h2⟩ := ho
  exact PE3.of (pe_cmpR h1 ha hb hm) (low2 h2)
/-- the two ways of one operator -/
theorem Op3.or {f : Value → Value → Sem Value} {r3 r3' : R3} (h : Op3 X f r3) (h' : Op3 X f r3') : Op3 X f (fun x y h Q => r3 x y h Q ∨ r3' x y h Q) := by
  obtain ⟨r, h1, h2⟩ := h
  obtain ⟨r', h1', h2'⟩ := h'
  exact ⟨_, h1.or h1', fun x y H dx dy h Q3 Q rx ry rh t c => t.elim (fun t => .inl (h2 x y H dx dy h Q3 Q rx ry rh t c)) fun t => .inr (h2' x y H dx dy h Q3 Q rx ry rh t c)⟩
theorem Op3.imp {f : Value → Value → Sem Value} {r3 r3' : R3} (h : Op3 X f r3) (k : ∀ x y h Q, r3' x y h Q → r3 x y h Q) : Op3 X f r3' := by
  obtain ⟨r, h1, h2⟩ := h
  exact ⟨r, h1, fun x y H dx dy h Q3 Q rx ry rh t c => h2 x y H dx dy h Q3 Q rx ry rh (k _ _ _ _ t) c⟩
def rI3 (C : Int → Int → Prop) (g : Int → Int → D) : R3 := fun x y h Q => match x, y with
  | .int i, .int j => C i j ∧ Q (g i j) h
  | _, _ => False
theorem opI3 {f : Value → Value → Sem Value} {C : Int → Int → Prop} {g : Int → Int → V} {g3 : Int → Int → D} (ho : OpR X f (rI C g)) (hg : ∀ i j H, RepV X.K H (g i j) (g3 i j)) : Op3 X f (rI3 C g3) :=
  ⟨_, ho, fun x y H dx dy h Q3 Q rx ry rh t c => by
    unfold rI3 at t
    split at t
    · exact ⟨_, _, repV_int rx, repV_int ry, t.1, c.ok (hg _ _ _) rh t.2⟩
    · exact t.elim⟩
theorem opI30 {f : Value → Value → Sem Value} {g : Int → Int → V} {g3 : Int → Int → D} (ho : OpR X f (rI0 g)) (hg : ∀ i j H, RepV X.K H (g i j) (g3 i j)) : Op3 X f (rI3 (fun _ _ => True) g3) :=
  ⟨_, ho, fun x y H dx dy h Q3 Q rx ry rh t c => by
    unfold rI3 at t
    split at t
    · exact ⟨_, _, repV_int rx, repV_int ry, c.ok (hg _ _ _) rh t.2⟩
    · exact t.elim⟩

/-! ### + -/
def add3 : R3 := fun x y h Q => match x, y with
  | .int i, .int j => Q (.int (i + j)) h
  | .str i, .str j => i.length + j.length ≤ sizeLine ∧ Q (.str (i ++ j)) h
  | .tup xs, .tup ys => xs ≠ [] ∧ xs.length + ys.length ≤ sizeLine ∧ Q (.tup (xs ++ ys)) h
  | .ref p, .ref q => ∃ xs ys, h p = some (.lst xs) ∧ h q = some (.lst ys) ∧ xs.length + ys.length ≤ sizeLine ∧ ∀ r, h r = none → Q (.ref r) (upd3 h r (.lst (xs ++ ys)))
  | _, _ => False
theorem op3_add : Op3 X (binaryOp .Add) add3 := by
  refine ⟨_, op_add.or (op_add_str.or (op_catT.or op_cat)), fun x y H dx dy h Q3 Q rx ry rh t c => ?_⟩
  unfold add3 at t
  split at t
  · exact .inl ⟨_, _, repV_int rx, repV_int ry, c.ok rv_int rh t⟩
  · exact .inr (.inl ⟨_, _, repV_str rx, repV_str ry, t.1, c.ok rv_str rh t.2⟩)
  · rename_i xs ys
    obtain ⟨a, us, rfl, s1, r1⟩ := repV_tup rx
    obtain ⟨b, ws, rfl, s2, r2⟩ := repV_tup ry
    obtain ⟨t1, t2, t3⟩ := t
    refine .inr (.inr (.inl ⟨a, b, us, ws, rfl, rfl, s1, s2, ?_, by rw [r1.length, r2.length]; exact t2, ?_⟩))
    · intro e
      rw [e] at r1
      exact t1 (List.eq_nil_of_length_eq_zero r1.length.symm)
    · first
        | exact ⟨fun e => by
            subst e
            have e0 : ys = [] := List.eq_nil_of_length_eq_zero r2.length.symm
            subst e0
            rw [List.append_nil] at t3
            exact c.ok (rv_tup s1 r1) rh t3, fun _ p np => c.newT rh np (r1.append r2) t3⟩
        | (intro p np; exact c.newT rh np (r1.append r2) t3)
  · obtain ⟨xs, ys, e1, e2, t2, t3⟩ := t
    obtain ⟨us, a1, r1⟩ := rh _ _ e1
    obtain ⟨ws, a2, r2⟩ := rh _ _ e2
    rw [repV_ref rx, repV_ref ry]
    exact .inr (.inr (.inr ⟨_, _, us, ws, rfl, rfl, a1, a2, by rw [r1.length, r2.length]; exact t2, fun p np => c.new rh np (r1.append r2) (t3 p (rh.free np))⟩))
  · exact t.elim
/-! ### -, //, %, ** -/
abbrev sub3 : R3 := rI3 (fun _ _ => True) fun i j => .int (i - j)
theorem op3_sub : Op3 X (binaryOp .Sub) sub3 := opI30 op_sub fun _ _ _ => rv_int
def div3 : R3 := rI3 CDivW fun i j => .int (i / j)
theorem op3_fdiv : Op3 X (binaryOp .FloorDiv) div3 := opI3 op_fdivW fun _ _ _ => rv_int
def mod3 : R3 := rI3 (fun _ j => 0 < j) fun i j => .int (i % j)
theorem op3_mod : Op3 X (binaryOp .Mod) mod3 := opI3 op_mod fun _ _ _ => rv_int
def pow3 : R3 := rI3 CPow fun i j => .int (i ^ j.toNat)
theorem op3_pow : Op3 X (binaryOp .Pow) pow3 := opI3 op_pow fun _ _ _ => rv_int
/-! ### comparisons -/
def lt3 : R3 := fun x y h Q => match x, y with
  | .int i, .int j => Q (.bl (decide (i < j))) h
  | .str i, .str j => Q (.bl (decide (i.cps.toList < j.cps.toList))) h
  | _, _ => False
theorem op3_lt : Op3 X (compareOp .Lt) lt3 := by
  refine ⟨_, op_lt.or op_lt_str, fun x y H dx dy h Q3 Q rx ry rh t c => ?_⟩
  unfold lt3 at t
  split at t
  · exact .inl ⟨_, _, repV_int rx, repV_int ry, c.ok rv_bl rh t⟩
  · exact .inr ⟨_, _, repV_str rx, repV_str ry, c.ok rv_bl rh t⟩
  · exact t.elim
def gt3 : R3 := fun x y h Q => match x, y with
  | .int i, .int j => Q (.bl (decide (j < i))) h
  | .str i, .str j => Q (.bl (decide (j.cps.toList < i.cps.toList))) h
  | _, _ => False
theorem op3_gt : Op3 X (compareOp .Gt) gt3 := by
  refine ⟨_, op_gt.or op_gt_str, fun x y H dx dy h Q3 Q rx ry rh t c => ?_⟩
  unfold gt3 at t
  split at t
  · exact .inl ⟨_, _, repV_int rx, repV_int ry, c.ok rv_bl rh t⟩
  · exact .inr ⟨_, _, repV_str rx, repV_str ry, c.ok rv_bl rh t⟩
  · exact t.elim
def le3 : R3 := fun x y h Q => match x, y with
  | .int i, .int j => Q (.bl (decide (i ≤ j))) h
  | .str i, .str j => Q (.bl (!decide (j.cps.toList < i.cps.toList))) h
  | _, _ => False
theorem op3_le : Op3 X (compareOp .LtE) le3 := by
  refine ⟨_, op_le.or op_le_str, fun x y H dx dy h Q3 Q rx ry rh t c => ?_⟩
  unfold le3 at t
  split at t
  · exact .inl ⟨_, _, repV_int rx, repV_int ry, c.ok rv_bl rh t⟩
  · exact .inr ⟨_, _, repV_str rx, repV_str ry, c.ok rv_bl rh t⟩
  · exact t.elim
def ge3 : R3 := fun x y h Q => match x, y with
  | .int i, .int j => Q (.bl (decide (j ≤ i))) h
  | .str i, .str j => Q (.bl (!decide (i.cps.toList < j.cps.toList))) h
  | _, _ => False
theorem op3_ge : Op3 X (compareOp .GtE) ge3 := by
  refine ⟨_, op_ge.or op_ge_str, fun x y H dx dy h Q3 Q rx ry rh t c => ?_⟩
  unfold ge3 at t
  split at t
  · exact .inl ⟨_, _, repV_int rx, repV_int ry, c.ok rv_bl rh t⟩
  · exact .inr ⟨_, _, repV_str rx, repV_str ry, c.ok rv_bl rh t⟩
  · exact t.elim
/-! ### == over data -/
mutual
def dat : D → Option PyData
  | .non => some .none
  | .bl b => some (.bool b)
  | .int i => some (.int i)
  | .str x => some (.str x)
  | .tup ds => (dats ds).map .tuple
  | .rol ds => (dats ds).map .list
  | .ref _ => none
  | .ty _ => none
def dats : List D → Option (List PyData)
  | [] => some []
  | d :: ds => match dat d, dats ds with
    | some x, some xs => some (x :: xs)
    | _, _ => none
end
def datH (h : Hp3) : D → Option PyData
  | .ref a => match h a with
    | some (.lst ds) => (dats ds).map .list
    | _ => none
  | d => dat d
mutual
theorem dp_of {K : Fg} {H : Hp} {v : V} : ∀ {d : D} {x : PyData}, RepV K H v d → dat d = some x → Dp K H v x
  | .non, _, r, e => by rw [repV_non r]; simp only [dat] at e; cases e; exact .non
  | .bl b, _, r, e => by rw [repV_bl r]; simp only [dat] at e; cases e; exact .bl b
  | .int b, _, r, e => by rw [repV_int r]; simp only [dat] at e; cases e; exact .int b
  | .str b, _, r, e => by rw [repV_str r]; simp only [dat] at e; cases e; exact .str b
  | .tup ds, _, r, e => by
    obtain ⟨a, xs, rfl, s, rs⟩ := repV_tup r
    simp only [dat, Option.map_eq_some_iff] at e
    obtain ⟨ys, e1, rfl⟩ := e
    exact .tup s (dps_of rs e1)
  | .rol ds, _, r, e => by
    obtain ⟨a, xs, rfl, s, rs⟩ := repV_rol r
    simp only [dat, Option.map_eq_some_iff] at e
    obtain ⟨ys, e1, rfl⟩ := e
    exact .lst s.toL (dps_of rs e1)
  | .ref _, _, _, e => by simp only [dat] at e; cases e
  | .ty _, _, _, e => by simp only [dat] at e; cases e
theorem dps_of {K : Fg} {H : Hp} {vs : List V} : ∀ {ds : List D} {xs : List PyData}, Reps K H vs ds → dats ds = some xs → DpAll K H vs xs
  | [], _, r, e => by rw [reps_nil r]; simp only [dats] at e; cases e; exact .nil
  | d :: ds, _, r, e => by
    obtain ⟨x, xs, rfl, r1, r2⟩ := reps_cons r
    simp only [dats] at e
    split at e
    · rename_i y ys e1 e2
      cases e
      exact .cons (dp_of r1 e1) (dps_of r2 e2)
    · cases e
end
theorem dpH_of {K : Fg} {H : Hp} {h : Hp3} {v : V} {d : D} {x : PyData} (r : RepV K H v d) (rh : RepH K H h) (e : datH h d = some x) : Dp K H v x := by
  unfold datH at e
  split at e
  · rename_i a
    split at e
    · rename_i ds e1
      simp only [Option.map_eq_some_iff] at e
      obtain ⟨ys, e2, rfl⟩ := e
      obtain ⟨xs, a1, r1⟩ := rh _ _ e1
      rw [repV_ref r]
      exact .lst (.of a1) (dps_of r1 e2)
    · cases e
  · exact dp_of r e
def eq3 : R3 := fun x y h Q => match x, y with
  | .int i, .int j => Q (.bl (decide (i = j))) h
  | .str i, .str j => Q (.bl (decide (i = j))) h
  | d, e => ∃ u w, datH h d = some u ∧ datH h e = some w ∧ SeqAt.shaped u = true ∧ SeqAt.shaped w = true ∧ Q (.bl (PyData.eqv u w)) h
def ne3 : R3 := fun x y h Q => match x, y with
  | .int i, .int j => Q (.bl (!decide (i = j))) h
  | .str i, .str j => Q (.bl (!decide (i = j))) h
  | d, e => ∃ u w, datH h d = some u ∧ datH h e = some w ∧ SeqAt.shaped u = true ∧ SeqAt.shaped w = true ∧ Q (.bl (!PyData.eqv u w)) h
theorem dI {i j : Int} : decide (V.int i = V.int j) = decide (i = j) := by simp
theorem dS {i j : Str} : decide (V.str i = V.str j) = decide (i = j) := by simp
theorem op3_eq (hu : X.A.units + 64 < cLine) : Op3 X (compareOp .Eq) eq3 := by
  refine ⟨_, op_eq.or (op_eqD hu), fun x y H dx dy h Q3 Q rx ry rh t c => ?_⟩
  unfold eq3 at t
  split at t
  · rw [repV_int rx, repV_int ry]
    exact .inl ⟨rfl, by rw [dI]; exact c.ok rv_bl rh t⟩
  · rw [repV_str rx, repV_str ry]
    exact .inl ⟨rfl, by rw [dS]; exact c.ok rv_bl rh t⟩
  · obtain ⟨u, w, e1, e2, s1, s2, q⟩ := t
    exact .inr ⟨u, w, dpH_of rx rh e1, dpH_of ry rh e2, s1, s2, c.ok rv_bl rh q⟩
theorem op3_ne (hu : X.A.units + 64 < cLine) : Op3 X (compareOp .NotEq) ne3 := by
  refine ⟨_, op_ne.or (op_neD hu), fun x y H dx dy h Q3 Q rx ry rh t c => ?_⟩
  unfold ne3 at t
  split at t
  · rw [repV_int rx, repV_int ry]
    exact .inl ⟨rfl, by rw [dI]; exact c.ok rv_bl rh t⟩
  · rw [repV_str rx, repV_str ry]
    exact .inl ⟨rfl, by rw [dS]; exact c.ok rv_bl rh t⟩
  · obtain ⟨u, w, e1, e2, s1, s2, q⟩ := t
    exact .inr ⟨u, w, dpH_of rx rh e1, dpH_of ry rh e2, s1, s2, c.ok rv_bl rh q⟩
/-! ### in -/
def flatD : D → Bool
  | .non | .bl _ | .int _ | .str _ => true
  | _ => false
def vOf : D → V
  | .non => .non
  | .bl b => .bl b
  | .int i => .int i
  | .str x => .str x
  | .ref a => .ref a
  | .ty n => .ty n
  | .tup _ => .non
  | .rol _ => .non
theorem vOf_of {K : Fg} {H : Hp} {v : V} {d : D} (f : flatD d = true) (r : RepV K H v d) : v = vOf d := by
  cases d with
  | non => exact repV_non r
  | bl b => exact repV_bl r
  | int i => exact repV_int r
  | str x => exact repV_str r
  | _ => cases f
theorem vOfs_of {K : Fg} {H : Hp} : ∀ {ds : List D} {vs : List V}, ds.all flatD = true → Reps K H vs ds → vs = ds.map vOf
  | [], _, _, r => reps_nil r
  | d :: ds, _, f, r => by
    obtain ⟨x, xs, rfl, r1, r2⟩ := reps_cons r
    rw [List.all_cons, Bool.and_eq_true] at f
    rw [vOf_of f.1 r1, vOfs_of f.2 r2]; rfl
theorem flatV_vOf {d : D} (f : flatD d = true) : flatV (vOf d) = true := by
  cases d <;> first | rfl | cases f
def inD (x : D) (ds : List D) : Bool := inV (vOf x) (ds.map vOf)
def in3 (neg : Bool) : R3 := fun x y h Q => match x, y with
  | .str i, .str j => ∃ c, i = ⟨#[c]⟩ ∧ Q (.bl (neg ^^ decide (c ∈ j.cps.toList))) h
  | d, .tup ds => flatD d = true ∧ ds.all flatD = true ∧ Q (.bl (neg ^^ inD d ds)) h
  | d, .ref p => ∃ ds, h p = some (.lst ds) ∧ flatD d = true ∧ ds.all flatD = true ∧ Q (.bl (neg ^^ inD d ds)) h
  | _, _ => False
theorem all_flat {ds : List D} (f : ds.all flatD = true) : (ds.map vOf).all flatV = true := by
  rw [List.all_map]
  exact List.all_eq_true.mpr fun d hd => flatV_vOf (List.all_eq_true.mp f d hd)
theorem op3_in : Op3 X (compareOp .In) (in3 false) := by
  refine ⟨_, op_in_sign.or op_in_seq, fun x y H dx dy h Q3 Q rx ry rh t c => ?_⟩
  unfold in3 at t
  split at t
  · obtain ⟨c', rfl, q⟩ := t
    refine .inl ⟨c', _, repV_str rx, repV_str ry, ?_⟩
    rw [Bool.false_xor] at q
    exact c.ok rv_bl rh q
  · obtain ⟨f, g, q⟩ := t
    obtain ⟨a, vs, rfl, s, r⟩ := repV_tup ry
    have e1 := vOf_of f rx
    have e2 := vOfs_of g r
    subst e1 e2
    rw [Bool.false_xor] at q
    exact .inr ⟨a, _, rfl, .inr s, flatV_vOf f, all_flat g, c.ok rv_bl rh q⟩
  · obtain ⟨ds, e, f, g, q⟩ := t
    obtain ⟨vs, a1, r⟩ := rh _ _ e
    have e1 := vOf_of f rx
    have e2 := vOfs_of g r
    subst e1 e2
    rw [repV_ref ry]
    rw [Bool.false_xor] at q
    exact .inr ⟨_, _, rfl, .inl (.of a1), flatV_vOf f, all_flat g, c.ok rv_bl rh q⟩
  · exact t.elim
theorem op3_notIn : Op3 X (compareOp .NotIn) (in3 true) := by
  refine ⟨_, op_notIn_sign.or op_notIn_seq, fun x y H dx dy h Q3 Q rx ry rh t c => ?_⟩
  unfold in3 at t
  split at t
  · obtain ⟨c', rfl, q⟩ := t
    refine .inl ⟨c', _, repV_str rx, repV_str ry, ?_⟩
    rw [Bool.true_xor] at q
    exact c.ok rv_bl rh q
  · obtain ⟨f, g, q⟩ := t
    obtain ⟨a, vs, rfl, s, r⟩ := repV_tup ry
    have e1 := vOf_of f rx
    have e2 := vOfs_of g r
    subst e1 e2
    rw [Bool.true_xor] at q
    exact .inr ⟨a, _, rfl, .inr s, flatV_vOf f, all_flat g, c.ok rv_bl rh q⟩
  · obtain ⟨ds, e, f, g, q⟩ := t
    obtain ⟨vs, a1, r⟩ := rh _ _ e
    have e1 := vOf_of f rx
    have e2 := vOfs_of g r
    subst e1 e2
    rw [repV_ref ry]
    rw [Bool.true_xor] at q
    exact .inr ⟨_, _, rfl, .inl (.of a1), flatV_vOf f, all_flat g, c.ok rv_bl rh q⟩
  · exact t.elim
/-! ### is None -/
def isNonD : D → Bool
  | .non => true
  | _ => false
def isD (neg : Bool) : R3 := fun x y h Q => match y with
  | .non => Q (.bl (neg ^^ isNonD x)) h
  | _ => False
theorem isNon_of {K : Fg} {H : Hp} {v : V} {d : D} (r : RepV K H v d) : decide (v = .non) = isNonD d := by
  cases d with
  | non => have e := repV_non r; subst e; rfl
  | bl b => have e := repV_bl r; subst e; rfl
  | int b => have e := repV_int r; subst e; rfl
  | str b => have e := repV_str r; subst e; rfl
  | ref b => have e := repV_ref r; subst e; rfl
  | ty b => have e := repV_ty r; subst e; rfl
  | tup ds => obtain ⟨a, xs, rfl, _⟩ := repV_tup r; rfl
  | rol ds => obtain ⟨a, xs, rfl, _⟩ := repV_rol r; rfl
theorem op3_is : Op3 X (compareOp .Is) (isD false) := by
  refine ⟨_, op_isN, fun x y H dx dy h Q3 Q rx ry rh t c => ?_⟩
  unfold isD at t
  split at t
  · refine ⟨repV_non ry, ?_⟩
    rw [isNon_of rx]
    rw [Bool.false_xor] at t
    exact c.ok rv_bl rh t
  · exact t.elim
theorem op3_isNot : Op3 X (compareOp .IsNot) (isD true) := by
  refine ⟨_, op_notN, fun x y H dx dy h Q3 Q rx ry rh t c => ?_⟩
  unfold isD at t
  split at t
  · refine ⟨repV_non ry, ?_⟩
    rw [isNon_of rx]
    rw [Bool.true_xor] at t
    exact c.ok rv_bl rh t
  · exact t.elim
/-! ### a op b op c -/
def tChain3 (r r' : R3) (ta tb tc : TE3) : TE3 := fun σ h Q => ta σ h fun x h1 => tb σ h1 fun y h2 => r x y h2 fun z h3 => match z with
  | .bl true => tc σ h3 fun w h4 => r' y w h4 Q
  | .bl false => Q (.bl false) h3
  | _ => False
theorem low_chain {r2 r2' : R2} {r r' : R3} (hl : LR X.K r2 r) (kl : LR X.K r2' r') : ∀ σ H Q, LowE X.K B (tChain3 r r' ta tb tc) σ H Q → tChain r2 r2' (LowE X.K B ta) (LowE X.K B tb) (LowE X.K B tc) σ H Q := fun σ H Q ⟨σ3, h, Q3, r0, t, k⟩ => by
  refine ⟨σ3, h, _, r0, t, fun x H1 dx h1 g1 rx t1 => ?_⟩
  refine ⟨σ3, h1, _, r0.go g1, t1, fun y H2 dy h2 g2 ry t2 => ?_⟩
  have g12 := g1.trans g2
  refine hl x y H2 dx dy h2 _ _ (rx.mono g2.toPers) ry g2.rep t2 fun z H3 dz h3 g3 rz t3 => ?_
  split at t3
  · refine ⟨true, repV_bl rz, ?_⟩
    rw [if_pos rfl]
    refine ⟨σ3, h3, _, r0.go (g12.trans g3), t3, fun w' H4 dw h4 g4 rw' t4 => ?_⟩
    exact kl y w' H4 dy dw h4 Q3 Q (ry.mono (g3.trans g4).toPers) rw' g4.rep t4 (k.go (g12.trans (g3.trans g4)))
  · refine ⟨false, repV_bl rz, ?_⟩
    rw [if_neg Bool.false_ne_true]
    exact (k.go (g12.trans g3)).ok rv_bl g3.rep t3
  · exact t3.elim
theorem pe3_chain {op op' : CmpOp} {r r' : R3} (ho : Op3 X (compareOp op) r) (ho' : Op3 X (compareOp op') r') (ha : PE3 X B a ta) (hb : PE3 X B b tb) (hc : PE3 X B c tc)
    (hm : lastMarks [op, op'] [b, c] = false := by with_unfolding_all rfl) : PE3 X B (.Compare a [op, op'] [b, c] pos) (tChain3 r r' ta tb tc) := by
  obtain ⟨r2, h1, h2⟩ := ho
  obtain ⟨r2', h1', h2'⟩ := ho'
  exact PE3.of (pe_chain h1 h1' ha hb hc hm) (low_chain h2 h2')

/-! ### tests -/
variable {tA tB' : TT3} {rest : List Expr}
def tB3 (t : TE3) : TT3 := fun σ h Q => t σ h fun d h1 => match d with
  | .bl b => Q b h1
  | _ => False
/-- an expression that tells True or False -/
theorem pt3_val (h : PE3 X B e te) (he : ∀ whole, isTrue e X.env whole = (do let v ← whole; standAt e.pos; holding [v] (truthy v)) := by intro _; rfl) : PT3 X B e (tB3 te) := by
  refine PT3.of (pt_val h he) fun σ H Q ⟨σ3, h, Q3, r0, t, c⟩ => ?_
  refine ⟨σ3, h, _, r0, t, fun v H1 d h1 g1 rv t1 => ?_⟩
  split at t1
  · exact ⟨_, repV_bl rv, c _ _ _ g1 t1⟩
  · exact t1.elim
theorem pt3_cmp {op : CmpOp} {r3 : R3} (ho : Op3 X (compareOp op) r3) (ha : PE3 X B a ta) (hb : PE3 X B b tb) (hm : behindInMarks op b = false) : PT3 X B (.Compare a [op] [b] pos) (tB3 (tOp3 r3 ta tb)) := by
  obtain ⟨r, h1, h2⟩ := ho
  refine PT3.of (pt_cmpR h1 ha hb hm) fun σ H Q ⟨σ3, h, Q3, r0, t, c⟩ => ?_
  refine low2 h2 σ H _ ⟨σ3, h, _, r0, t, fun v H1 d h1 g1 rv t1 => ?_⟩
  split at t1
  · exact ⟨_, repV_bl rv, c _ _ _ g1 t1⟩
  · exact t1.elim
theorem pt3_chain {op op' : CmpOp} {r r' : R3} (ho : Op3 X (compareOp op) r) (ho' : Op3 X (compareOp op') r') (ha : PE3 X B a ta) (hb : PE3 X B b tb) (hc : PE3 X B c tc)
    (hm : lastMarks [op, op'] [b, c] = false := by with_unfolding_all rfl) : PT3 X B (.Compare a [op, op'] [b, c] pos) (tB3 (tChain3 r r' ta tb tc)) := by
  obtain ⟨r2, h1, h2⟩ := ho
  obtain ⟨r2', h1', k2⟩ := ho'
  refine PT3.of (pt_chain h1 h1' ha hb hc hm) fun σ H Q ⟨σ3, h, Q3, r0, t, k⟩ => ?_
  have k' : CtV X.K H h (fun d h1 => match d with | .bl b => Q3 b h1 | _ => False) (fun v H1 => ∃ b, v = .bl b ∧ Q b H1) := fun v H1 d h1 g1 rv t1 => by
    dsimp only at t1 ⊢
    split at t1
    · exact ⟨_, repV_bl rv, k _ _ _ g1 t1⟩
    · exact t1.elim
  exact low_chain h2 k2 σ H _ ⟨σ3, h, _, r0, t, k'⟩
def tAnd3 (t u : TT3) : TT3 := fun σ h Q => t σ h fun c h1 => if c = true then u σ h1 Q else Q false h1
def tOr3 (t u : TT3) : TT3 := fun σ h Q => t σ h fun c h1 => if c = true then Q true h1 else u σ h1 Q
def tNot3 (t : TT3) : TT3 := fun σ h Q => t σ h fun c h1 => Q (!c) h1
theorem pw3_pt {t : TT3} (h : PW3 X B e t) : PT3 X B e t := PW.pt h
theorem pw3_and1 (ha : PT3 X B a tA) : PW3 X B (.BoolOp .And [a] pos) tA := pw_and1 ha
theorem pw3_or1 (ha : PT3 X B a tA) : PW3 X B (.BoolOp .Or [a] pos) tA := pw_or1 ha
theorem pw3_and (ha : PT3 X B a tA) (hb : PW3 X B (.BoolOp .And (b :: rest) pos) tB') : PW3 X B (.BoolOp .And (a :: b :: rest) pos) (tAnd3 tA tB') := by
  refine PW3.of (pw_and ha hb) fun σ H Q ⟨σ3, h, Q3, r0, t, c⟩ => ?_
  refine ⟨σ3, h, _, r0, t, fun k H1 h1 g1 t1 => ?_⟩
  cases k with
  | true =>
    rw [if_pos rfl] at t1 ⊢
    exact ⟨σ3, h1, Q3, r0.go g1, t1, c.go g1⟩
  | false =>
    rw [if_neg Bool.false_ne_true] at t1 ⊢
    exact c _ _ _ g1 t1
theorem pw3_or (ha : PT3 X B a tA) (hb : PW3 X B (.BoolOp .Or (b :: rest) pos) tB') : PW3 X B (.BoolOp .Or (a :: b :: rest) pos) (tOr3 tA tB') := by
  refine PW3.of (pw_or ha hb) fun σ H Q ⟨σ3, h, Q3, r0, t, c⟩ => ?_
  refine ⟨σ3, h, _, r0, t, fun k H1 h1 g1 t1 => ?_⟩
  cases k with
  | true =>
    rw [if_pos rfl] at t1 ⊢
    exact c _ _ _ g1 t1
  | false =>
    rw [if_neg Bool.false_ne_true] at t1 ⊢
    exact ⟨σ3, h1, Q3, r0.go g1, t1, c.go g1⟩
theorem pt3_not (ha : PT3 X B a tA) : PT3 X B (.UnaryOp .Not a pos) (tNot3 tA) := by
  refine PT3.of (pt_not ha) fun σ H Q ⟨σ3, h, Q3, r0, t, c⟩ => ?_
  exact ⟨σ3, h, _, r0, t, fun k H1 h1 g1 t1 => c _ _ _ g1 t1⟩
/-! ### and, or, not as values -/
def tAndV3 (ta tb : TE3) : TE3 := fun σ h Q => ta σ h fun x h1 => match x with
  | .bl true => tb σ h1 Q
  | .bl false => Q (.bl false) h1
  | _ => False
def tOrV3 (ta tb : TE3) : TE3 := fun σ h Q => ta σ h fun x h1 => match x with
  | .bl true => Q (.bl true) h1
  | .bl false => tb σ h1 Q
  | _ => False
def tNotV3 (ta : TE3) : TE3 := fun σ h Q => ta σ h fun x h1 => match x with
  | .bl b => Q (.bl (!b)) h1
  | _ => False
theorem pe3_one {op} {t : TE3} (h : PE3 X B a t) : PE3 X B (.BoolOp op [a] pos) t := pe_one h
theorem pe3_and (ha : PE3 X B a ta) (hb : PE3 X B (.BoolOp .And (b :: rest) pos) tb) : PE3 X B (.BoolOp .And (a :: b :: rest) pos) (tAndV3 ta tb) := by
  refine PE3.of (pe_and ha hb) fun σ H Q ⟨σ3, h, Q3, r0, t, c⟩ => ?_
  refine ⟨σ3, h, _, r0, t, fun v H1 d h1 g1 rv t1 => ?_⟩
  split at t1
  · refine ⟨true, repV_bl rv, ?_⟩
    rw [if_pos rfl]
    exact ⟨σ3, h1, Q3, r0.go g1, t1, c.go g1⟩
  · refine ⟨false, repV_bl rv, ?_⟩
    rw [if_neg Bool.false_ne_true]
    exact (c.go g1).ok rv_bl g1.rep t1
  · exact t1.elim
theorem pe3_or (ha : PE3 X B a ta) (hb : PE3 X B (.BoolOp .Or (b :: rest) pos) tb) : PE3 X B (.BoolOp .Or (a :: b :: rest) pos) (tOrV3 ta tb) := by
  refine PE3.of (pe_or ha hb) fun σ H Q ⟨σ3, h, Q3, r0, t, c⟩ => ?_
  refine ⟨σ3, h, _, r0, t, fun v H1 d h1 g1 rv t1 => ?_⟩
  split at t1
  · refine ⟨true, repV_bl rv, ?_⟩
    rw [if_pos rfl]
    exact (c.go g1).ok rv_bl g1.rep t1
  · refine ⟨false, repV_bl rv, ?_⟩
    rw [if_neg Bool.false_ne_true]
    exact ⟨σ3, h1, Q3, r0.go g1, t1, c.go g1⟩
  · exact t1.elim
theorem pe3_not (ha : PE3 X B a ta) : PE3 X B (.UnaryOp .Not a pos) (tNotV3 ta) := by
  refine PE3.of (pe_not ha) fun σ H Q ⟨σ3, h, Q3, r0, t, c⟩ => ?_
  refine ⟨σ3, h, _, r0, t, fun v H1 d h1 g1 rv t1 => ?_⟩
  split at t1
  · exact ⟨_, repV_bl rv, (c.go g1).ok rv_bl g1.rep t1⟩
  · exact t1.elim
/-- a if t else b -/
def tIf3 (t : TT3) (ta tb : TE3) : TE3 := fun σ h Q => t σ h fun c h1 => if c = true then ta σ h1 Q else tb σ h1 Q
theorem pe3_ifExp (hc : PT3 X B c tA) (ha : PE3 X B a ta) (hb : PE3 X B b tb) : PE3 X B (.IfExp c a b pos) (tIf3 tA ta tb) := by
  refine PE3.of (pe_ifExp hc ha hb) fun σ H Q ⟨σ3, h, Q3, r0, t, k⟩ => ?_
  refine ⟨σ3, h, _, r0, t, fun d H1 h1 g1 t1 => ?_⟩
  cases d with
  | true =>
    rw [if_pos rfl] at t1 ⊢
    exact ⟨σ3, h1, Q3, r0.go g1, t1, k.go g1⟩
  | false =>
    rw [if_neg Bool.false_ne_true] at t1 ⊢
    exact ⟨σ3, h1, Q3, r0.go g1, t1, k.go g1⟩
/-- -a -/
def neg3 (ta : TE3) : TE3 := fun σ h Q => ta σ h fun x h1 => match x with
  | .int i => Q (.int (-i)) h1
  | _ => False
theorem pe3_neg (ha : PE3 X B a ta) : PE3 X B (.UnaryOp .USub a pos) (neg3 ta) := by
  refine PE3.of (pe_un un_neg ha) fun σ H Q ⟨σ3, h, Q3, r0, t, c⟩ => ?_
  refine ⟨σ3, h, _, r0, t, fun v H1 d h1 g1 rv t1 => ?_⟩
  split at t1
  · exact ⟨_, repV_int rv, (c.go g1).ok rv_int g1.rep t1⟩
  · exact t1.elim
end
end L3

end F_L3b

section F_L3c
/-! L3c: displays, subscripts, slices, built-ins, methods of built-in types. -/
namespace L3
open PySem PySem.Spec PyProof.Rows L2
section
variable {X : Cx} {B : B0} {a b c e : Expr} {es : List Expr} {ta tb tc te : TE3} {t : TA3} {pos : Pos}

/-! ### arguments, displays -/
def tNil3 : TA3 := fun _ h Q => Q [] h
def tCons3 (ta : TE3) (tr : TA3) : TA3 := fun σ h Q => ta σ h fun x h1 => tr σ h1 fun xs h2 => Q (x :: xs) h2
theorem pa3_nil : PA3 X B [] tNil3 := PA3.of pa_nil fun σ H Q ⟨σ3, h, Q3, r0, t, c⟩ => c _ _ _ _ (.refl r0.h) rs_nil t
theorem pa3_cons (ha : PE3 X B e te) (hr : PA3 X B es t) (hs : starEach (e :: es) X.env = (false, eval e X.env) :: starEach es X.env := by rfl) : PA3 X B (e :: es) (tCons3 te t) := by
  refine PA3.of (pa_cons ha hr hs) fun σ H Q ⟨σ3, h, Q3, r0, t, c⟩ => ?_
  refine ⟨σ3, h, _, r0, t, fun x H1 dx h1 g1 rx t1 => ?_⟩
  refine ⟨σ3, h1, _, r0.go g1, t1, fun xs H2 ds h2 g2 rs t2 => ?_⟩
  exact c _ _ _ _ (g1.trans g2) (rs_cons (rx.mono g2.toPers) rs) t2
def tTup3 (t : TA3) : TE3 := fun σ h Q => t σ h fun ds h1 => ds.length ≤ sizeLine ∧ Q (.tup ds) h1
theorem pe3_tup {x1} (ht : PA3 X B es t) : PE3 X B (.Tuple es x1 pos) (tTup3 t) := by
  refine PE3.of (pe_tup ht) fun σ H Q ⟨σ3, h, Q3, r0, t, c⟩ => ?_
  refine ⟨σ3, h, _, r0, t, fun xs H1 ds h1 g1 rs t1 => ?_⟩
  exact ⟨by rw [rs.length]; exact t1.1, fun p np => (c.go g1).newT g1.rep np rs t1.2⟩
def tLst3 (t : TA3) : TE3 := fun σ h Q => t σ h fun ds h1 => ds.length ≤ sizeLine ∧ ∀ p, h1 p = none → Q (.ref p) (upd3 h1 p (.lst ds))
theorem pe3_lst (ht : PA3 X B es t) : PE3 X B (.List es pos) (tLst3 t) := by
  refine PE3.of (pe_lst ht) fun σ H Q ⟨σ3, h, Q3, r0, t, c⟩ => ?_
  refine ⟨σ3, h, _, r0, t, fun xs H1 ds h1 g1 rs t1 => ?_⟩
  exact ⟨by rw [rs.length]; exact t1.1, fun p np => (c.go g1).new g1.rep np rs (t1.2 p (g1.rep.free np))⟩
/-! ### subscripts -/
def seqOf (h : Hp3) : D → Option (List D)
  | .tup ds => some ds
  | .rol ds => some ds
  | .ref p => match h p with
    | some (.lst ds) => some ds
    | _ => none
  | _ => none
def lstOf (h : Hp3) : D → Option (List D)
  | .rol ds => some ds
  | .ref p => match h p with
    | some (.lst ds) => some ds
    | _ => none
  | _ => none
theorem lst_of {K : Fg} {H : Hp} {h : Hp3} {v : V} {d : D} {ds : List D} (rh : RepH K H h) (r : RepV K H v d) (e : lstOf h d = some ds) : ∃ a xs, v = .ref a ∧ SqL K H a xs ∧ Reps K H xs ds := by
  unfold lstOf at e
  split at e
  · cases e
    obtain ⟨a, xs, rfl, s, rs⟩ := repV_rol r
    exact ⟨a, xs, rfl, s.toL, rs⟩
  · split at e
    · rename_i p _ ds' e1
      cases e
      obtain ⟨xs, h1, rs⟩ := rh _ _ e1
      exact ⟨p, xs, repV_ref r, .of h1, rs⟩
    · cases e
  · cases e
theorem seq_of {K : Fg} {H : Hp} {h : Hp3} {v : V} {d : D} {ds : List D} (rh : RepH K H h) (r : RepV K H v d) (e : seqOf h d = some ds) : ∃ a xs, v = .ref a ∧ (SqL K H a xs ∨ SqT K H a xs) ∧ Reps K H xs ds := by
  unfold seqOf at e
  split at e
  · cases e
    obtain ⟨a, xs, rfl, s, rs⟩ := repV_tup r
    exact ⟨a, xs, rfl, .inr s, rs⟩
  · cases e
    obtain ⟨a, xs, rfl, s, rs⟩ := repV_rol r
    exact ⟨a, xs, rfl, .inl s.toL, rs⟩
  · split at e
    · rename_i p _ ds' e1
      cases e
      obtain ⟨xs, h1, rs⟩ := rh _ _ e1
      exact ⟨p, xs, repV_ref r, .inl (.of h1), rs⟩
    · cases e
  · cases e
def ix3 : R3 := fun x y h Q => match x, y with
  | .str z, .int i => ∃ c, z.length ≤ sizeLine ∧ atI z.cps.toList i = some c ∧ Q (.str ⟨#[c]⟩) h
  | d, .int i => ∃ ds v, seqOf h d = some ds ∧ atI ds i = some v ∧ Q v h
  | _, _ => False
theorem atI_rep {K : Fg} {H : Hp} {ds : List D} {xs : List V} {i : Int} {d : D} (rs : Reps K H xs ds) (e : atI ds i = some d) : ∃ v, atI xs i = some v ∧ RepV K H v d := by
  unfold atI at e ⊢
  rw [rs.length]
  cases q : ixN ds.length i with
  | none => rw [q] at e; cases e
  | some j =>
    rw [q] at e
    exact rs.get e
theorem ix3_ok : ∃ r, IxR X r ∧ LR X.K r ix3 := by
  refine ⟨_, ix_str.or (ix_list.or ix_tup), fun x y H dx dy h Q3 Q rx ry rh t c => ?_⟩
  unfold ix3 at t
  split at t
  · obtain ⟨k, z, e, q⟩ := t
    exact .inl ⟨_, _, k, repV_str rx, repV_int ry, z, e, c.ok rv_str rh q⟩
  · obtain ⟨ds, v, e1, e2, q⟩ := t
    obtain ⟨a, xs, rfl, s, rs⟩ := seq_of rh rx e1
    obtain ⟨u, e3, ru⟩ := atI_rep rs e2
    rcases s with s | s
    · exact .inr (.inl ⟨a, xs, _, u, rfl, repV_int ry, s, e3, c.ok ru rh q⟩)
    · exact .inr (.inr ⟨a, xs, _, u, rfl, repV_int ry, s, e3, c.ok ru rh q⟩)
  · exact t.elim
theorem pe3_ix (ha : PE3 X B a ta) (hb : PE3 X B b tb) (hs : PlainIx b := by intro _ _; rfl) : PE3 X B (.Subscript a b pos) (tOp3 ix3 ta tb) := by
  obtain ⟨r, h1, h2⟩ := ix3_ok (X := X)
  exact PE3.of (pe_ix h1 ha hb hs) (low2 h2)
/-- [..][i]: the list is not told of -/
def tIxD3 (t : TA3) (tb : TE3) : TE3 := fun σ h Q => t σ h fun ds h1 => ds.length ≤ sizeLine ∧ tb σ h1 fun y h2 => match y with
  | .int i => ∃ v, atI ds i = some v ∧ Q v h2
  | _ => False
theorem pe3_ixD {p2 : Pos} (ht : PA3 X B es t) (hb : PE3 X B b tb) (hs : PlainIx b := by intro _ _; rfl) : PE3 X B (.Subscript (.List es p2) b pos) (tIxD3 t tb) := by
  refine PE3.of (pe_ix (pos := pos) ix_list (pe_lst (pos := p2) ht) hb hs) fun σ H Q ⟨σ3, h, Q3, r0, t, c⟩ => ?_
  refine ⟨σ3, h, _, r0, t, fun xs H1 ds h1 g1 rs t1 => ?_⟩
  refine ⟨by rw [rs.length]; exact t1.1, fun p np => ?_⟩
  have gu : Go X.K H1 h1 (upd H1 p (.lst xs)) h1 := .new g1.rep np
  refine ⟨σ3, h1, _, (r0.go g1).go gu, t1.2, fun y H2 dy h2 g2 ry t2 => ?_⟩
  split at t2
  · obtain ⟨v, e2, q⟩ := t2
    obtain ⟨a1, _⟩ := g2.frm p _ upd_same (g1.rep.free np)
    obtain ⟨u, e3, ru⟩ := atI_rep (rs.mono (gu.trans g2).toPers) e2
    exact ⟨p, xs, _, u, rfl, repV_int ry, .of a1, e3, (c.go ((g1.trans gu).trans g2)).ok ru g2.rep q⟩
  · exact t2.elim
/-- x in [..], x not in [..] -/
def tInD3 (neg : Bool) (ta : TE3) (t : TA3) : TE3 := fun σ h Q => ta σ h fun x h1 => t σ h1 fun ds h2 => ds.length ≤ sizeLine ∧ flatD x = true ∧ ds.all flatD = true ∧ Q (.bl (neg ^^ inD x ds)) h2
theorem low_inD {neg : Bool} {r : R2} (hr : ∀ x y H Q, rIn X.K neg x y H Q → r x y H Q) : ∀ σ H Q, LowE X.K B (tInD3 neg ta t) σ H Q → tOp r (LowE X.K B ta) (tLst (LowA X.K B t)) σ H Q := fun σ H Q ⟨σ3, h, Q3, r0, t, c⟩ => by
  refine ⟨σ3, h, _, r0, t, fun x H1 dx h1 g1 rx t1 => ?_⟩
  refine ⟨σ3, h1, _, r0.go g1, t1, fun xs H2 ds h2 g2 rs t2 => ?_⟩
  obtain ⟨z, f, g, q⟩ := t2
  refine ⟨by rw [rs.length]; exact z, fun p np => ?_⟩
  have e1 := vOf_of f rx
  have e2 := vOfs_of g rs
  subst e1 e2
  refine hr _ _ _ _ ⟨p, _, rfl, .inl (.of upd_same), flatV_vOf f, all_flat g, ?_⟩
  have e3 : (if neg then !inV (vOf dx) (ds.map vOf) else inV (vOf dx) (ds.map vOf)) = (neg ^^ inD dx ds) := by unfold inD; cases neg <;> simp
  rw [e3]
  exact c _ _ _ _ ((g1.trans g2).trans (.new g2.rep np)) rv_bl q
theorem pe3_inD (ha : PE3 X B a ta) (ht : PA3 X B es t) {p2 : Pos} (hm : behindInMarks .In (.List es p2) = false := by rfl) : PE3 X B (.Compare a [.In] [.List es p2] pos) (tInD3 false ta t) :=
  PE3.of (pe_cmpR op_in_seq ha (pe_lst (pos := p2) ht) hm) (low_inD fun _ _ _ _ z => z)
theorem pe3_notInD (ha : PE3 X B a ta) (ht : PA3 X B es t) {p2 : Pos} (hm : behindInMarks .NotIn (.List es p2) = false := by rfl) : PE3 X B (.Compare a [.NotIn] [.List es p2] pos) (tInD3 true ta t) :=
  PE3.of (pe_cmpR op_notIn_seq ha (pe_lst (pos := p2) ht) hm) (low_inD fun _ _ _ _ z => z)

/-! ### slices -/
abbrev TO3 := St3 → Hp3 → (Option Int → Hp3 → Prop) → Prop
def CtO (K : Fg) (H : Hp) (h : Hp3) (Q3 : Option Int → Hp3 → Prop) (Q : Option Int → Hp → Prop) : Prop := ∀ b H' h', Go K H h H' h' → Q3 b h' → Q b H'
def LowO (K : Fg) (B : B0) (t3 : TO3) : TO := fun σ H Q => ∃ σ3 h Q3, RS K B H σ σ3 h ∧ t3 σ3 h Q3 ∧ CtO K H h Q3 Q
def PO3 (X : Cx) (B : B0) (e : Option Expr) (t : TO3) : Prop := PO X e (LowO X.K B t)
theorem PO3.of {e : Option Expr} {t : TO} {t3 : TO3} (he : PO X e t) (hl : ∀ σ H Q, LowO X.K B t3 σ H Q → t σ H Q) : PO3 X B e t3 := by
  obtain ⟨run⟩ := he
  exact ⟨fun pins s σ H Q I h => run pins s σ H Q I (hl σ H Q h)⟩
def tNoPart3 : TO3 := fun _ h Q => Q none h
def tPart3 (t : TE3) : TO3 := fun σ h Q => t σ h fun x h1 => match x with
  | .int i => Q (some i) h1
  | _ => False
theorem po3_none : PO3 X B none tNoPart3 := PO3.of po_none fun σ H Q ⟨σ3, h, Q3, r0, t, c⟩ => c _ _ _ (.refl r0.h) t
theorem po3_some (he : PE3 X B e te) : PO3 X B (some e) (tPart3 te) := PO3.of (po_some he) fun σ H Q ⟨σ3, h, Q3, r0, t, c⟩ => by
  refine ⟨σ3, h, _, r0, t, fun x H1 dx h1 g1 rx t1 => ?_⟩
  split at t1
  · exact ⟨_, repV_int rx, c _ _ _ g1 t1⟩
  · exact t1.elim
def cutD (xs : List D) (lo hi : Option Int) : List D := (xs.drop (HT.sIx xs.length 0 lo)).take (HT.sIx xs.length xs.length hi - HT.sIx xs.length 0 lo)
def sl3 : D → Option Int → Option Int → Hp3 → VK3 → Prop := fun x lo hi h Q => match x with
  | .str z => z.length ≤ sizeLine ∧ Q (.str (cutS z lo hi)) h
  | .tup xs => ¬ (HT.sIx xs.length 0 lo = 0 ∧ HT.sIx xs.length xs.length hi = xs.length) ∧ Q (.tup (cutD xs lo hi)) h
  | .ref p => ∃ xs, h p = some (.lst xs) ∧ ∀ r, h r = none → Q (.ref r) (upd3 h r (.lst (cutD xs lo hi)))
  | _ => False
theorem cut_rep {K : Fg} {H : Hp} {ds : List D} {xs : List V} {lo hi : Option Int} (rs : Reps K H xs ds) : Reps K H (cutV xs lo hi) (cutD ds lo hi) := by
  unfold cutV cutD
  rw [rs.length]
  exact (rs.drop _).take _
theorem sl3_ok : ∃ r, SlR X r ∧ ∀ x lo hi H dx h Q3 Q, RepV X.K H x dx → RepH X.K H h → sl3 dx lo hi h Q3 → CtV X.K H h Q3 Q → r x lo hi H Q := by
  refine ⟨_, sl_str.or (sl_tup.or sl_list), fun x lo hi H dx h Q3 Q rx rh t c => ?_⟩
  unfold sl3 at t
  split at t
  · exact .inl ⟨_, repV_str rx, t.1, c.ok rv_str rh t.2⟩
  · obtain ⟨a, xs, rfl, s, rs⟩ := repV_tup rx
    exact .inr (.inl ⟨a, xs, rfl, s, by rw [rs.length]; exact t.1, fun p np => c.newT rh np (cut_rep rs) t.2⟩)
  · obtain ⟨ds, e1, q⟩ := t
    obtain ⟨xs, a1, rs⟩ := rh _ _ e1
    exact .inr (.inr ⟨_, xs, repV_ref rx, .of a1, fun p np => c.new rh np (cut_rep rs) (q p (rh.free np))⟩)
  · exact t.elim
def tSl3 (te : TE3) (tl th : TO3) : TE3 := fun σ h Q => te σ h fun x h1 => tl σ h1 fun l h2 => th σ h2 fun u h3 => sl3 x l u h3 Q
theorem pe3_slice {lo hi : Option Expr} {tl th : TO3} (he : PE3 X B e te) (hl : PO3 X B lo tl) (hu : PO3 X B hi th) : PE3 X B (.Subscript e (.Slice lo hi none g2) pos) (tSl3 te tl th) := by
  obtain ⟨r, k1, k2⟩ := sl3_ok (X := X)
  refine PE3.of (pe_slice k1 he hl hu) fun σ H Q ⟨σ3, h, Q3, r0, t, c⟩ => ?_
  refine ⟨σ3, h, _, r0, t, fun x H1 dx h1 g1 rx t1 => ?_⟩
  refine ⟨σ3, h1, _, r0.go g1, t1, fun l H2 h2 g2 t2 => ?_⟩
  refine ⟨σ3, h2, _, r0.go (g1.trans g2), t2, fun u H3 h3 g3 t3 => ?_⟩
  exact k2 x l u H3 dx h3 Q3 Q (rx.mono (g2.trans g3).toPers) g3.rep t3 (c.go ((g1.trans g2).trans g3))

/-! ### built-ins by name -/
abbrev RC3 := List D → Hp3 → VK3 → Prop
def Call3 (X : Cx) (f : Value) (r3 : RC3) : Prop := ∃ r, CallR X f r ∧ ∀ xs H ds h Q3 Q, Reps X.K H xs ds → RepH X.K H h → r3 ds h Q3 → CtV X.K H h Q3 Q → r xs H Q
def tCB3 (r : RC3) (t : TA3) : TE3 := fun σ h Q => t σ h fun ds h1 => r ds h1 Q
theorem pe3_callB {id : String} {r : RC3} {x : Str} {p : Pos} (hc : Call3 X (.builtin id) r) (hg : Gl X x) (hm : X.mg x = none) (hv : bootBuiltins x = some (.builtin id)) (ha : PA3 X B (e :: es) t) (hn : x ≠ "__name__" := by decide) (hdb : (x == ("__debug__" : Str)) = false := by decide)
    (he : starEach (e :: es) X.env = (false, eval e X.env) :: starEach es X.env := by rfl) (hpl : (backTo pos (starEach es X.env)).any (·.1) = false := by rfl) : PE3 X B (.Call (.Name x p) (e :: es) [] pos) (tCB3 r t) := by
  obtain ⟨r2, k1, k2⟩ := hc
  refine PE3.of (pe_callB k1 hg hm hv ha hn hdb he hpl) fun σ H Q ⟨σ3, h, Q3, r0, t, c⟩ => ?_
  exact ⟨σ3, h, _, r0, t, fun xs H1 ds h1 g1 rs t1 => k2 xs H1 ds h1 Q3 Q rs g1.rep t1 (c.go g1)⟩
theorem pe3_callTy {T : String} {r : RC3} {x : Str} {p : Pos} (hc : Call3 X (.type T) r) (hg : Gl X x) (hm : X.mg x = none) (hv : bootBuiltins x = some (.type T)) (ha : PA3 X B (e :: es) t) (hn : x ≠ "__name__" := by decide) (hdb : (x == ("__debug__" : Str)) = false := by decide)
    (he : starEach (e :: es) X.env = (false, eval e X.env) :: starEach es X.env := by rfl) (hpl : (backTo pos (starEach es X.env)).any (·.1) = false := by rfl) : PE3 X B (.Call (.Name x p) (e :: es) [] pos) (tCB3 r t) := by
  obtain ⟨r2, k1, k2⟩ := hc
  refine PE3.of (pe_callTy k1 hg hm hv ha hn hdb he hpl) fun σ H Q ⟨σ3, h, Q3, r0, t, c⟩ => ?_
  exact ⟨σ3, h, _, r0, t, fun xs H1 ds h1 g1 rs t1 => k2 xs H1 ds h1 Q3 Q rs g1.rep t1 (c.go g1)⟩
end
end L3

end F_L3c

section F_L3d
/-! L3d: the built-ins one by one; methods of texts and lists. -/
namespace L3
open PySem PySem.Spec PyProof.Rows L2
section
variable {X : Cx} {B : B0} {a b c e o : Expr} {es : List Expr} {ta tb tc te to : TE3} {t : TA3} {pos : Pos}
theorem reps1 {K : Fg} {H : Hp} {vs : List V} {d : D} (r : Reps K H vs [d]) : ∃ v, vs = [v] ∧ RepV K H v d := by
  obtain ⟨x, xs, rfl, r1, r2⟩ := reps_cons r
  rw [reps_nil r2]
  exact ⟨x, rfl, r1⟩
theorem reps2 {K : Fg} {H : Hp} {vs : List V} {d e : D} (r : Reps K H vs [d, e]) : ∃ v w, vs = [v, w] ∧ RepV K H v d ∧ RepV K H w e := by
  obtain ⟨x, xs, rfl, r1, r2⟩ := reps_cons r
  obtain ⟨y, rfl, r3⟩ := reps1 r2
  exact ⟨x, y, rfl, r1, r3⟩
/-- len -/
def len3 : RC3 := fun ds h Q => match ds with
  | [.str z] => z.length ≤ sizeLine ∧ Q (.int z.length) h
  | [d] => ∃ xs, seqOf h d = some xs ∧ Q (.int xs.length) h
  | _ => False
theorem cr3_len : Call3 X (.builtin "len") len3 := by
  refine ⟨_, call_len_str.or call_len_seq, fun xs H ds h Q3 Q rs rh t c => ?_⟩
  unfold len3 at t
  split at t
  · obtain ⟨v, rfl, r⟩ := reps1 rs
    rw [repV_str r]
    exact .inl ⟨_, rfl, t.1, c.ok rv_int rh t.2⟩
  · obtain ⟨v, rfl, r⟩ := reps1 rs
    obtain ⟨ys, e1, q⟩ := t
    obtain ⟨a, us, rfl, s, r2⟩ := seq_of rh r e1
    refine .inr ⟨a, us, rfl, s, ?_⟩
    rw [r2.length]
    exact c.ok rv_int rh q
  · exact t.elim
/-- int(..) of an int, a bool, a text -/
def int3 : RC3 := fun ds h Q => match ds with
  | [.int i] => Q (.int i) h
  | [.bl b] => Q (.int (if b then 1 else 0)) h
  | [.str a] => ∃ n, PySem.intText? a = some n ∧ a.length ≤ 640 ∧ Q (.int n) h
  | _ => False
theorem cr3_int : Call3 X (.type "int") int3 := by
  refine ⟨_, call_int1.or call_int_str, fun xs H ds h Q3 Q rs rh t c => ?_⟩
  unfold int3 at t
  split at t
  · obtain ⟨v, rfl, r⟩ := reps1 rs
    rw [repV_int r]
    exact .inl (.inl ⟨_, rfl, c.ok rv_int rh t⟩)
  · obtain ⟨v, rfl, r⟩ := reps1 rs
    rw [repV_bl r]
    exact .inl (.inr ⟨_, rfl, c.ok rv_int rh t⟩)
  · obtain ⟨v, rfl, r⟩ := reps1 rs
    rw [repV_str r]
    obtain ⟨n, e1, z, q⟩ := t
    exact .inr ⟨_, n, rfl, e1, z, c.ok rv_int rh q⟩
  · exact t.elim
/-- str(n) -/
def str3 : RC3 := fun ds h Q => match ds with
  | [.int i] => i.natAbs.log2 < 1920 ∧ Q (.str (toString i)) h
  | _ => False
theorem cr3_str : Call3 X (.type "str") str3 := by
  refine ⟨_, call_str_int, fun xs H ds h Q3 Q rs rh t c => ?_⟩
  unfold str3 at t
  split at t
  · obtain ⟨v, rfl, r⟩ := reps1 rs
    rw [repV_int r]
    exact ⟨_, rfl, t.1, c.ok rv_str rh t.2⟩
  · exact t.elim
/-- tuple(..) of a list or a tuple -/
def tup3 : RC3 := fun ds h Q => match ds with
  | [d] => ∃ xs, seqOf h d = some xs ∧ Q (.tup xs) h
  | _ => False
theorem cr3_tup : Call3 X (.type "tuple") tup3 := by
  refine ⟨_, call_tuple_of, fun xs H ds h Q3 Q rs rh t c => ?_⟩
  unfold tup3 at t
  split at t
  · obtain ⟨v, rfl, r⟩ := reps1 rs
    obtain ⟨ys, e1, q⟩ := t
    obtain ⟨a, us, rfl, s, r2⟩ := seq_of rh r e1
    rcases s with s | s
    · exact ⟨a, us, rfl, .inl ⟨s, fun p np => c.newT rh np r2 q⟩⟩
    · exact ⟨a, us, rfl, .inr ⟨s, c.ok (rv_tup s r2) rh q⟩⟩
  · exact t.elim
/-- list(..) of a list or a tuple -/
def list3 : RC3 := fun ds h Q => match ds with
  | [d] => ∃ xs, seqOf h d = some xs ∧ ∀ p, h p = none → Q (.ref p) (upd3 h p (.lst xs))
  | _ => False
theorem cr3_list : Call3 X (.type "list") list3 := by
  refine ⟨_, call_list_of, fun xs H ds h Q3 Q rs rh t c => ?_⟩
  unfold list3 at t
  split at t
  · obtain ⟨v, rfl, r⟩ := reps1 rs
    obtain ⟨ys, e1, q⟩ := t
    obtain ⟨a, us, rfl, s, r2⟩ := seq_of rh r e1
    exact ⟨a, us, rfl, s, fun p np => c.new rh np r2 (q p (rh.free np))⟩
  · exact t.elim
/-- sum, all, any of a list -/
def sum3 : RC3 := fun ds h Q => match ds with
  | [d] => ∃ ns : List Int, lstOf h d = some (ns.map D.int) ∧ Q (.int ns.sum) h
  | _ => False
theorem cr3_sum (hc : X.calm = true) : Call3 X (.builtin "sum") sum3 := by
  refine ⟨_, cr_sum hc, fun xs H ds h Q3 Q rs rh t c => ?_⟩
  unfold sum3 at t
  split at t
  · obtain ⟨v, rfl, r⟩ := reps1 rs
    obtain ⟨ys, e1, q⟩ := t
    obtain ⟨a, us, rfl, s, r2⟩ := lst_of rh r e1
    have e2 := of_reps_ints r2
    subst e2
    exact ⟨a, ys, rfl, s, c.ok rv_int rh q⟩
  · exact t.elim
def all3 : RC3 := fun ds h Q => match ds with
  | [d] => ∃ ns : List Bool, lstOf h d = some (ns.map D.bl) ∧ Q (.bl (ns.all id)) h
  | _ => False
theorem cr3_all (hc : X.calm = true) : Call3 X (.builtin "all") all3 := by
  refine ⟨_, cr_all hc, fun xs H ds h Q3 Q rs rh t c => ?_⟩
  unfold all3 at t
  split at t
  · obtain ⟨v, rfl, r⟩ := reps1 rs
    obtain ⟨ys, e1, q⟩ := t
    obtain ⟨a, us, rfl, s, r2⟩ := lst_of rh r e1
    have e2 := of_reps_bls r2
    subst e2
    exact ⟨a, ys, rfl, s, c.ok rv_bl rh q⟩
  · exact t.elim
def any3 : RC3 := fun ds h Q => match ds with
  | [d] => ∃ ns : List Bool, lstOf h d = some (ns.map D.bl) ∧ Q (.bl (ns.any id)) h
  | _ => False
theorem cr3_any (hc : X.calm = true) : Call3 X (.builtin "any") any3 := by
  refine ⟨_, cr_any hc, fun xs H ds h Q3 Q rs rh t c => ?_⟩
  unfold any3 at t
  split at t
  · obtain ⟨v, rfl, r⟩ := reps1 rs
    obtain ⟨ys, e1, q⟩ := t
    obtain ⟨a, us, rfl, s, r2⟩ := lst_of rh r e1
    have e2 := of_reps_bls r2
    subst e2
    exact ⟨a, ys, rfl, s, c.ok rv_bl rh q⟩
  · exact t.elim
/-- sorted of a list of texts -/
def sorted3 : RC3 := fun ds h Q => match ds with
  | [d] => ∃ xs : List Str, lstOf h d = some (xs.map D.str) ∧ xs.length < 64 ∧ ∀ (ys : List Str) p, ys.Perm xs → sortedS ys = true → h p = none → Q (.ref p) (upd3 h p (.lst (ys.map D.str)))
  | _ => False
theorem cr3_sorted : Call3 X (.builtin "sorted") sorted3 := by
  refine ⟨_, cr_sortedS, fun xs H ds h Q3 Q rs rh t c => ?_⟩
  unfold sorted3 at t
  split at t
  · obtain ⟨v, rfl, r⟩ := reps1 rs
    obtain ⟨ys, e1, z, q⟩ := t
    obtain ⟨a, us, rfl, s, r2⟩ := lst_of rh r e1
    have e2 := of_reps_strs r2
    subst e2
    exact ⟨a, ys, rfl, s, z, fun zs p pm so np => c.new rh np (reps_strs zs) (q zs p pm so (rh.free np))⟩
  · exact t.elim
/-- min, max of two ints -/
def min3 : RC3 := fun ds h Q => match ds with
  | [.int i, .int j] => Q (.int (min i j)) h
  | _ => False
theorem cr3_min (hc : X.calm = true) : Call3 X (.builtin "min") min3 := by
  refine ⟨_, call_min2 hc, fun xs H ds h Q3 Q rs rh t c => ?_⟩
  unfold min3 at t
  split at t
  · rename_i i j
    obtain ⟨v, w, rfl, r1, r2⟩ := reps2 rs
    rw [repV_int r1, repV_int r2]
    refine ⟨i, j, rfl, ?_⟩
    rw [show (if j < i then j else i) = min i j by omega]
    exact c.ok rv_int rh t
  · exact t.elim
def max3 : RC3 := fun ds h Q => match ds with
  | [.int i, .int j] => Q (.int (max i j)) h
  | _ => False
theorem cr3_max (hc : X.calm = true) : Call3 X (.builtin "max") max3 := by
  refine ⟨_, call_max2 hc, fun xs H ds h Q3 Q rs rh t c => ?_⟩
  unfold max3 at t
  split at t
  · rename_i i j
    obtain ⟨v, w, rfl, r1, r2⟩ := reps2 rs
    rw [repV_int r1, repV_int r2]
    refine ⟨i, j, rfl, ?_⟩
    rw [show (if j > i then j else i) = max i j by omega]
    exact c.ok rv_int rh t
  · exact t.elim
def ord3 : RC3 := fun ds h Q => match ds with
  | [.str z] => ∃ k, z = ⟨#[k]⟩ ∧ Q (.int (k : Nat)) h
  | _ => False
theorem cr3_ord : Call3 X (.builtin "ord") ord3 := by
  refine ⟨_, call_ord, fun xs H ds h Q3 Q rs rh t c => ?_⟩
  unfold ord3 at t
  split at t
  · obtain ⟨v, rfl, r⟩ := reps1 rs
    obtain ⟨k, rfl, q⟩ := t
    rw [repV_str r]
    exact ⟨_, rfl, rfl, c.ok rv_int rh q⟩
  · exact t.elim
def abs3 : RC3 := fun ds h Q => match ds with
  | [.int i] => Q (.int (if i < 0 then -i else i)) h
  | _ => False
theorem cr3_abs : Call3 X (.builtin "abs") abs3 := by
  refine ⟨_, call_abs, fun xs H ds h Q3 Q rs rh t c => ?_⟩
  unfold abs3 at t
  split at t
  · obtain ⟨v, rfl, r⟩ := reps1 rs
    rw [repV_int r]
    exact ⟨_, rfl, c.ok rv_int rh t⟩
  · exact t.elim
/-- isinstance(x, T), T one of int, bool, str, tuple, list -/
def tyName (h : Hp3) : D → Option String
  | .non => some "NoneType"
  | .bl _ => some "bool"
  | .int _ => some "int"
  | .str _ => some "str"
  | .tup _ => some "tuple"
  | .rol _ => some "list"
  | .ref p => match h p with
    | some (.lst _) => some "list"
    | _ => none
  | .ty _ => none
def isiB : String → String → Option Bool
  | "bool", "int" => some true
  | "bool", "bool" => some true
  | "int", "int" => some true
  | "str", "str" => some true
  | "tuple", "tuple" => some true
  | "list", "list" => some true
  | "NoneType", "int" => some false | "NoneType", "bool" => some false | "NoneType", "str" => some false | "NoneType", "tuple" => some false | "NoneType", "list" => some false
  | "bool", "str" => some false | "bool", "tuple" => some false | "bool", "list" => some false
  | "int", "bool" => some false | "int", "str" => some false | "int", "tuple" => some false | "int", "list" => some false
  | "str", "int" => some false | "str", "bool" => some false | "str", "tuple" => some false | "str", "list" => some false
  | "tuple", "int" => some false | "tuple", "bool" => some false | "tuple", "str" => some false | "tuple", "list" => some false
  | "list", "int" => some false | "list", "bool" => some false | "list", "str" => some false | "list", "tuple" => some false
  | _, _ => none
theorem isiB_ok {a b : String} {r : Bool} (h : isiB a b = some r) : kitB a b = some r := by
  unfold isiB at h
  split at h <;> first | (cases h; decide +kernel) | cases h
theorem tyX_of {K : Fg} {H : Hp} {h : Hp3} {v : V} {d : D} {n : String} (rh : RepH K H h) (r : RepV K H v d) (e : tyName h d = some n) : TyX K H v (.type n) := by
  cases d with
  | non => rw [repV_non r]; cases e; exact .base .non
  | bl b => rw [repV_bl r]; cases e; exact .base (.bl _)
  | int b => rw [repV_int r]; cases e; exact .base (.int _)
  | str b => rw [repV_str r]; cases e; exact .base (.str _)
  | tup ds =>
    obtain ⟨a, xs, rfl, s, _⟩ := repV_tup r
    cases e
    rcases s with (s | ⟨o, s⟩) | ⟨o, its, n, k, c, _⟩
    · exact .base (.tup s)
    · exact .fTuple s
    · exact .kTuple k c
  | rol ds =>
    obtain ⟨a, xs, rfl, s, _⟩ := repV_rol r
    cases e
    rcases s with ⟨o, s⟩ | ⟨o, its, n, k, c, _⟩
    · exact .base (.frz s)
    · exact .kList k c
  | ref p =>
    rw [repV_ref r]
    unfold tyName at e
    dsimp only at e
    split at e
    · rename_i ds e1
      cases e
      obtain ⟨xs, a1, _⟩ := rh _ _ e1
      exact .base (.lst a1)
    · cases e
  | ty n => cases e
def isi3 : RC3 := fun ds h Q => match ds with
  | [x, .ty n] => ∃ m r, tyName h x = some m ∧ isiB m n = some r ∧ Q (.bl r) h
  | _ => False
theorem cr3_isi : Call3 X (.builtin "isinstance") isi3 := by
  refine ⟨_, call_isi, fun xs H ds h Q3 Q rs rh t c => ?_⟩
  unfold isi3 at t
  split at t
  · rename_i x n
    obtain ⟨v, w, rfl, r1, r2⟩ := reps2 rs
    obtain ⟨m, r, e1, e2, q⟩ := t
    rw [repV_ty r2]
    exact ⟨v, .ty n, .type m, .type n, r, rfl, .ty n, tyX_of rh r1 e1, kit_ty (isiB_ok e2), c.ok rv_bl rh q⟩
  · exact t.elim

/-! ### methods of built-in types -/
abbrev RM3 := D → List D → Hp3 → VK3 → Prop
def Meth3 (X : Cx) (id : String) (r3 : RM3) : Prop := ∃ r, MtR X id r ∧ ∀ x xs H d ds h Q3 Q, RepV X.K H x d → Reps X.K H xs ds → RepH X.K H h → r3 d ds h Q3 → CtV X.K H h Q3 Q → r x xs H Q
def tyD (T : String) (h : Hp3) : D → Prop
  | .str _ => T = "str"
  | .ref p => T = "list" ∧ ∃ ds, h p = some (.lst ds)
  | _ => False
theorem tyV_of {K : Fg} {H : Hp} {h : Hp3} {v : V} {d : D} {T : String} (rh : RepH K H h) (r : RepV K H v d) (t : tyD T h d) : tyV K T v H := by
  unfold tyD at t
  split at t
  · rw [repV_str r]; exact t
  · obtain ⟨rfl, ds, e⟩ := t
    obtain ⟨xs, a1, _⟩ := rh _ _ e
    rw [repV_ref r]
    exact .inl ⟨rfl, xs, .of a1⟩
  · exact t.elim
def tBM03 (T : String) (r : RM3) (to : TE3) : TE3 := fun σ h Q => to σ h fun x h1 => tyD T h1 x ∧ r x [] h1 Q
def tBM3 (T : String) (r : RM3) (to : TE3) (t : TA3) : TE3 := fun σ h Q => to σ h fun x h1 => tyD T h1 x ∧ t σ h1 fun ds h2 => r x ds h2 Q
theorem pe3_bm0 {T id : String} {name : Str} {apos cpos : Pos} {r : RM3} (pa : PlainAttrs T) (slot : Slot T name id) (hty : typeOf (.builtin id) = pure (.type "method_descriptor")) (hm : Meth3 X id r) (ho : PE3 X B o to)
    (hbase : attributeBase o name X.env (eval o X.env) = eval o X.env := by rfl) (hline : (apos.endLine == cpos.line) = true := by rfl) : PE3 X B (.Call (.Attribute o name apos) [] [] cpos) (tBM03 T r to) := by
  obtain ⟨r2, k1, k2⟩ := hm
  refine PE3.of (pe_bm0 pa slot hty k1 ho hbase hline) fun σ H Q ⟨σ3, h, Q3, r0, t, c⟩ => ?_
  refine ⟨σ3, h, _, r0, t, fun x H1 dx h1 g1 rx t1 => ?_⟩
  exact ⟨tyV_of g1.rep rx t1.1, k2 x [] H1 dx [] h1 Q3 Q rx rs_nil g1.rep t1.2 (c.go g1)⟩
theorem pe3_bm {T id : String} {name : Str} {apos cpos : Pos} {r : RM3} (pa : PlainAttrs T) (slot : Slot T name id) (hty : typeOf (.builtin id) = pure (.type "method_descriptor")) (hm : Meth3 X id r) (ho : PE3 X B o to) (ha : PA3 X B (e :: es) t)
    (hbase : attributeBase o name X.env (eval o X.env) = eval o X.env := by rfl)
    (hfew : ((backTo cpos (starEach (e :: es) X.env)).all (fun x => !x.1) && (backToKw cpos (keywordEach [] X.env)).all (fun x => x.1.isSome)
      && decide ((e :: es).length + ([] : List Keyword).length + (if ([] : List Keyword).isEmpty then 0 else 1) < 30)) = true := by rfl)
    (hline : (apos.endLine == cpos.line) = true := by rfl) (hs : starEach (e :: es) X.env = (false, eval e X.env) :: starEach es X.env := by rfl) (hplain : (backTo cpos (starEach es X.env)).any (·.1) = false := by rfl) :
    PE3 X B (.Call (.Attribute o name apos) (e :: es) [] cpos) (tBM3 T r to t) := by
  obtain ⟨r2, k1, k2⟩ := hm
  refine PE3.of (pe_bm pa slot hty k1 ho ha hbase hfew hline hs hplain) fun σ H Q ⟨σ3, h, Q3, r0, t, c⟩ => ?_
  refine ⟨σ3, h, _, r0, t, fun x H1 dx h1 g1 rx t1 => ?_⟩
  refine ⟨tyV_of g1.rep rx t1.1, σ3, h1, _, r0.go g1, t1.2, fun xs H2 ds h2 g2 rs t2 => ?_⟩
  exact k2 x xs H2 dx ds h2 Q3 Q (rx.mono g2.toPers) rs g2.rep t2 (c.go (g1.trans g2))
/-- xs.append(y), xs.reverse() -/
def append3 : RM3 := fun x ds h Q => match x, ds with
  | .ref p, [y] => ∃ xs, h p = some (.lst xs) ∧ xs.length < sizeLine ∧ Q .non (upd3 h p (.lst (xs ++ [y])))
  | _, _ => False
theorem mt3_append : Meth3 X "list.append" append3 := by
  refine ⟨_, mt_append, fun x xs H d ds h Q3 Q rx rs rh t c => ?_⟩
  unfold append3 at t
  split at t
  · obtain ⟨v, rfl, rv⟩ := reps1 rs
    obtain ⟨ys, e, z, q⟩ := t
    obtain ⟨us, a1, r1⟩ := rh _ _ e
    have w := rh.wr e
    rw [repV_ref rx]
    exact ⟨_, us, v, rfl, rfl, a1, by rw [r1.length]; exact z, c _ _ _ _ (.setL rh e (r1.append (rs_cons rv rs_nil))) rv_non q⟩
  · exact t.elim
def reverse3 : RM3 := fun x ds h Q => match x, ds with
  | .ref p, [] => ∃ xs, h p = some (.lst xs) ∧ Q .non (upd3 h p (.lst xs.reverse))
  | _, _ => False
theorem mt3_reverse : Meth3 X "list.reverse" reverse3 := by
  refine ⟨_, mt_reverse, fun x xs H d ds h Q3 Q rx rs rh t c => ?_⟩
  unfold reverse3 at t
  split at t
  · have e0 := reps_nil rs
    subst e0
    obtain ⟨ys, e, q⟩ := t
    obtain ⟨us, a1, r1⟩ := rh _ _ e
    have w := rh.wr e
    rw [repV_ref rx]
    exact ⟨_, us, rfl, rfl, a1, c _ _ _ _ (.setL rh e r1.reverse) rv_non q⟩
  · exact t.elim
/-- sep.join(xs) -/
def join3 : RM3 := fun x ds h Q => match x, ds with
  | .str a, [d] => ∃ ys : List Str, seqOf h d = some (ys.map D.str) ∧ (ys.map (·.length)).sum + ys.length * a.length ≤ 16777216 ∧ Q (.str (Str.join a ys)) h
  | _, _ => False
theorem mt3_join : Meth3 X "str.join" join3 := by
  refine ⟨_, mt_join, fun x xs H d ds h Q3 Q rx rs rh t c => ?_⟩
  unfold join3 at t
  split at t
  · obtain ⟨v, rfl, rv⟩ := reps1 rs
    obtain ⟨ys, e, z, q⟩ := t
    obtain ⟨a, us, rfl, s, r2⟩ := seq_of rh rv e
    have e2 := of_reps_strs r2
    subst e2
    rw [repV_str rx]
    refine ⟨_, a, ys, rfl, rfl, s, z, ?_⟩
    rw [TL.join_eq]
    exact c.ok rv_str rh q
  · exact t.elim
/-- s.find(t), s.find(t, i) -/
def find3 : RM3 := fun x ds h Q => match x, ds with
  | .str a, [.str b] => Q (.int (Txt.find a b)) h
  | .str a, [.str b, .int i] => Q (.int (Txt.find3 a b i)) h
  | _, _ => False
theorem mt3_find : Meth3 X "str.find" find3 := by
  refine ⟨_, mt_find.or mt_find3, fun x xs H d ds h Q3 Q rx rs rh t c => ?_⟩
  unfold find3 at t
  split at t
  · obtain ⟨v, rfl, rv⟩ := reps1 rs
    rw [repV_str rx, repV_str rv]
    exact .inl ⟨_, _, rfl, rfl, c.ok rv_int rh t⟩
  · obtain ⟨v, w, rfl, r1, r2⟩ := reps2 rs
    rw [repV_str rx, repV_str r1, repV_int r2]
    exact .inr ⟨_, _, _, rfl, rfl, c.ok rv_int rh t⟩
  · exact t.elim
end
end L3

end F_L3d

section F_L3e
/-! L3e: statements, targets, loops, comprehensions. -/
namespace L3
open PySem PySem.Spec PyProof.Rows L2
section
variable {X : Cx} {B : B0} {a b c e o : Expr} {es : List Expr} {ta tb tc te to : TE3} {t : TA3} {pos : Pos} {st : Stmt} {rest : List Stmt} {s1 s2 : TS3}

/-! ### blocks and small statements -/
def tNext3 : TS3 := fun D σ h => D.nx σ h
def tSeq3 (t u : TS3) : TS3 := fun D σ h => t { D with nx := u D } σ h
theorem pss3_nil : PSs3 X B [] tNext3 := PSs3.of pss_nil fun D σ H ⟨σ3, h, D3, r0, t, c⟩ => c.nx _ _ _ _ (.refl r0.h) r0 t
theorem pss3_cons (h1 : PS3 X B st s1) (h2 : PSs3 X B rest s2) : PSs3 X B (st :: rest) (tSeq3 s1 s2) := PSs3.of (pss_cons h1 h2) fun D σ H ⟨σ3, h, D3, r0, t, c⟩ =>
  ⟨σ3, h, _, r0, t, ⟨fun σ' H' σ3' h' g1 r1 t1 => ⟨σ3', h', D3, r1, t1, c.go g1⟩, c.rt, c.bk, c.ct⟩⟩
theorem pss3_one (h1 : PS3 X B st s1) : PSs3 X B [st] s1 := pss_one h1
def tBreak3 : TS3 := fun D σ h => D.bk σ h
def tCont3 : TS3 := fun D σ h => D.ct σ h
theorem ps3_pass : PS3 X B (.Pass pos) tNext3 := PS3.of ps_pass fun D σ H ⟨σ3, h, D3, r0, t, c⟩ => c.nx _ _ _ _ (.refl r0.h) r0 t
theorem ps3_break : PS3 X B (.Break pos) tBreak3 := PS3.of ps_break fun D σ H ⟨σ3, h, D3, r0, t, c⟩ => c.bk _ _ _ _ (.refl r0.h) r0 t
theorem ps3_continue : PS3 X B (.Continue pos) tCont3 := PS3.of ps_continue fun D σ H ⟨σ3, h, D3, r0, t, c⟩ => c.ct _ _ _ _ (.refl r0.h) r0 t
def tDrop3 (te : TE3) : TS3 := fun D σ h => te σ h fun _ h1 => D.nx σ h1
theorem ps3_expr (he : PE3 X B e te) (hs : swapsWith e none pos.line X.env = pure false := by rfl) : PS3 X B (.Expr e pos) (tDrop3 te) := PS3.of (ps_expr he hs) fun D σ H ⟨σ3, h, D3, r0, t, c⟩ =>
  ⟨σ3, h, _, r0, t, fun v H1 d h1 g1 rv t1 => c.nx _ _ _ _ g1 (r0.go g1) t1⟩
def tRet3 (te : TE3) : TS3 := fun D σ h => te σ h D.rt
theorem ps3_ret (he : PE3 X B e te) : PS3 X B (.Return (some e) pos) (tRet3 te) := PS3.of (ps_ret he) fun D σ H ⟨σ3, h, D3, r0, t, c⟩ =>
  ⟨σ3, h, _, r0, t, fun v H1 d h1 g1 rv t1 => c.rt _ _ _ _ g1 rv t1⟩
def tRetN3 : TS3 := fun D _ h => D.rt .non h
theorem ps3_retN : PS3 X B (.Return none pos) tRetN3 := PS3.of ps_retN fun D σ H ⟨σ3, h, D3, r0, t, c⟩ => c.rt.ok rv_non r0.h t
def tIfS3 (c : TT3) (t u : TS3) : TS3 := fun D σ h => c σ h fun b h1 => if b = true then t D σ h1 else u D σ h1
theorem ps3_if {c : Expr} {a b : List Stmt} {tc : TT3} (hc : PT3 X B c tc) (ha : PSs3 X B a s1) (hb : PSs3 X B b s2) : PS3 X B (.If c a b pos) (tIfS3 tc s1 s2) := PS3.of (ps_if hc ha hb) fun D σ H ⟨σ3, h, D3, r0, t, k⟩ => by
  refine ⟨σ3, h, _, r0, t, fun d H1 h1 g1 t1 => ?_⟩
  cases d with
  | true =>
    rw [if_pos rfl] at t1 ⊢
    exact ⟨σ3, h1, D3, r0.go g1, t1, k.go g1⟩
  | false =>
    rw [if_neg Bool.false_ne_true] at t1 ⊢
    exact ⟨σ3, h1, D3, r0.go g1, t1, k.go g1⟩
/-- what the proof never comes to -/
def tNever3 : TS3 := fun _ _ _ => False
theorem ps3_never : PS3 X B st tNever3 := PS3.of ps_never fun D σ H ⟨σ3, h, D3, r0, t, c⟩ => t
theorem pss3_never {sts : List Stmt} : PSs3 X B sts tNever3 := PSs3.of pss_never fun D σ H ⟨σ3, h, D3, r0, t, c⟩ => t

/-! ### targets -/
abbrev TG3 := D → St3 → Hp3 → (St3 → Hp3 → Prop) → Prop
abbrev TGs3 := List D → St3 → Hp3 → (St3 → Hp3 → Prop) → Prop
def LowG (K : Fg) (B : B0) (g : TG3) : TG := fun v σ H Q => ∃ d σ3 h Q3, RS K B H σ σ3 h ∧ RepV K H v d ∧ g d σ3 h Q3 ∧ CtN K B H h Q3 Q
def LowGs (K : Fg) (B : B0) (g : TGs3) : TGs := fun vs σ H Q => ∃ ds σ3 h Q3, RS K B H σ σ3 h ∧ Reps K H vs ds ∧ g ds σ3 h Q3 ∧ CtN K B H h Q3 Q
def PG3 (X : Cx) (B : B0) (e : Expr) (g : TG3) : Prop := PG X e (LowG X.K B g)
def PGs3 (X : Cx) (B : B0) (es : List Expr) (g : TGs3) : Prop := PGs X es (LowGs X.K B g)
theorem PG3.of {g : TG} {g3 : TG3} (he : PG X e g) (hl : ∀ v σ H Q, LowG X.K B g3 v σ H Q → g v σ H Q) : PG3 X B e g3 := ⟨fun pins s σ H v u Q I r h => he.run pins s σ H v u Q I r (hl v σ H Q h)⟩
theorem PGs3.of {g : TGs} {g3 : TGs3} (he : PGs X es g) (hl : ∀ v σ H Q, LowGs X.K B g3 v σ H Q → g v σ H Q) : PGs3 X B es g3 := ⟨fun pins s σ H v u Q I r h => he.run pins s σ H v u Q I r (hl v σ H Q h)⟩
def gName3 (i : Nat) : TG3 := fun d σ h Q => Q (σ.set i (some d)) h
theorem pg3_name {i : Nat} {x : Str} (hN : X.N.Nodup) (hi : X.N[i]? = some x) (hx : Loc X.env.scope x) (hf : X.fn x = true ∨ X.env.scope.names.lookup x = some .local := by first | exact .inl rfl | exact .inr rfl | assumption) : PG3 X B (.Name x pos) (gName3 i) :=
  PG3.of (pg_name hN hi hx hf) fun v σ H Q ⟨d, σ3, h, Q3, r, rv, t, c⟩ => c _ _ _ _ (.refl r.h) (r.set i rv) t
def gNil3 : TGs3 := fun ds σ h Q => match ds with
  | [] => Q σ h
  | _ => False
def gCons3 (g : TG3) (u : TGs3) : TGs3 := fun ds σ h Q => match ds with
  | d :: r => g d σ h fun σ' h' => u r σ' h' Q
  | _ => False
theorem pgs3_nil : PGs3 X B [] gNil3 := PGs3.of pgs_nil fun vs σ H Q ⟨ds, σ3, h, Q3, r, rv, t, c⟩ => by
  unfold gNil3 at t
  split at t
  · exact ⟨reps_nil rv, c _ _ _ _ (.refl r.h) r t⟩
  · exact t.elim
/-- names in a row: what is stored changes no heap -/
theorem pgs3_cons {i : Nat} {x : Str} {p : Pos} {u : TGs3} (hN : X.N.Nodup) (hi : X.N[i]? = some x) (hx : Loc X.env.scope x) (h2 : PGs3 X B es u)
    (hf : X.fn x = true ∨ X.env.scope.names.lookup x = some .local := by first | exact .inl rfl | exact .inr rfl | assumption)
    (hs : (assignEach (.Name x p :: es) X.env).map (·.2) = assign (.Name x p) X.env :: (assignEach es X.env).map (·.2) := by rfl) : PGs3 X B (.Name x p :: es) (gCons3 (gName3 i) u) := by
  refine PGs3.of (pgs_cons (pg_name hN hi hx hf) h2 hs) fun vs σ H Q ⟨ds, σ3, h, Q3, r, rv, t, c⟩ => ?_
  unfold gCons3 at t
  split at t
  · obtain ⟨v, us, rfl, r1, r2⟩ := reps_cons rv
    exact ⟨v, us, rfl, _, _, h, Q3, r.set i r1, r2, t, c⟩
  · exact t.elim
def gTup3 (n : Nat) (t : TGs3) : TG3 := fun d σ h Q => match d with
  | .tup ds => ds.length = n ∧ t ds σ h Q
  | _ => False
theorem pg3_tup {k : Nat} {g : TGs3} {n : Nat} (hc : X.calm = true) (hg : PGs3 X B es g)
    (hn : (assignEach es X.env).length = n := by rfl) (hst : (assignEach es X.env).findIdx? (·.1) = none := by rfl) : PG3 X B (.Tuple es k pos) (gTup3 n g) := by
  refine PG3.of (pg_tup hc hg hn hst) fun v σ H Q ⟨d, σ3, h, Q3, r, rv, t, c⟩ => ?_
  unfold gTup3 at t
  split at t
  · obtain ⟨a, xs, rfl, s, rs⟩ := repV_tup rv
    exact ⟨a, xs, rfl, s, by rw [rs.length]; exact t.1, _, σ3, h, Q3, r, rs, t.2, c⟩
  · exact t.elim
def setL3 : D → D → D → Hp3 → (Hp3 → Prop) → Prop := fun o i d h Q => match o, i with
  | .ref p, .int k => ∃ xs j, h p = some (.lst xs) ∧ ixN xs.length k = some j ∧ Q (upd3 h p (.lst (xs.set j d)))
  | _, _ => False
def gSub3 (to ti : TE3) : TG3 := fun d σ h Q => to σ h fun o h1 => ti σ h1 fun i h2 => setL3 o i d h2 fun h3 => Q σ h3
theorem pg3_sub {o i : Expr} {to ti : TE3} (ho : PE3 X B o to) (hi : PE3 X B i ti)
    (ha : ∀ v, assign (.Subscript o i pos) X.env v = (do
      let ov ← holding [v] (eval o X.env)
      let iv ← holding [v, ov] (eval i X.env)
      standAt pos
      holding [v, ov, iv] (setItem ov iv v)
      release [v, ov, iv] []) := by intro _; rfl) : PG3 X B (.Subscript o i pos) (gSub3 to ti) := by
  refine PG3.of (pg_sub ho hi set_list ha) fun v σ H Q ⟨d, σ3, h, Q3, r, rv, t, c⟩ => ?_
  refine ⟨σ3, h, _, r, t, fun x H1 dx h1 g1 rx t1 => ?_⟩
  refine ⟨σ3, h1, _, r.go g1, t1, fun y H2 dy h2 g2 ry t2 => ?_⟩
  unfold setL3 at t2
  split at t2
  · obtain ⟨xs, j, e1, e2, q⟩ := t2
    obtain ⟨us, a1, r1⟩ := g2.rep _ _ e1
    rw [repV_ref (rx.mono g2.toPers), repV_int ry]
    refine ⟨_, us, _, j, rfl, rfl, a1, by rw [r1.length]; exact e2, ?_⟩
    have g3 : Go X.K H2 h2 _ _ := .setL g2.rep e1 (r1.set j (rv.mono (g1.trans g2).toPers))
    exact c _ _ _ _ ((g1.trans g2).trans g3) (((r.go g1).go g2).go g3) q
  · exact t2.elim
def tAsg3 (te : TE3) (g : TG3) : TS3 := fun D σ h => te σ h fun x h1 => g x σ h1 D.nx
theorem lowAsg {g : TG3} : ∀ D σ H, LowS X.K B (tAsg3 te g) D σ H → tAsg (LowE X.K B te) (LowG X.K B g) D σ H := fun D σ H ⟨σ3, h, D3, r0, t, c⟩ =>
  ⟨σ3, h, _, r0, t, fun v H1 d h1 g1 rv t1 => ⟨d, σ3, h1, D3.nx, r0.go g1, rv, t1, c.nx.go g1⟩⟩
theorem ps3_asg {tg : Expr} {g : TG3} (he : PE3 X B e te) (hg : PG3 X B tg g) (hs : swapsWithSole [tg] e pos.line X.env = pure false := by rfl) (hw : swappedStores [tg] e X.env = pure none := by rfl)
    (h1 : (assignEach [tg] X.env).map (·.2) = [assign tg X.env] := by rfl) : PS3 X B (.Assign [tg] e pos) (tAsg3 te g) := PS3.of (ps_asg he hg hs hw h1) lowAsg
theorem ps3_set {i : Nat} {x : Str} {pos' : Pos} (hN : X.N.Nodup) (hi : X.N[i]? = some x) (hx : Loc X.env.scope x) (he : PE3 X B e te) (hs : swapsWith e (some (.Name x pos')) pos.line X.env = pure false := by rfl) (hf : X.fn x = true ∨ X.env.scope.names.lookup x = some .local := by first | exact .inl rfl | exact .inr rfl | assumption) :
    PS3 X B (.Assign [.Name x pos'] e pos) (tAsg3 te (gName3 i)) := PS3.of (ps_set hN hi hx he hs hf) fun D σ H ⟨σ3, h, D3, r0, t, c⟩ =>
  ⟨σ3, h, _, r0, t, fun v H1 d h1 g1 rv t1 => c.nx _ _ _ _ g1 ((r0.go g1).set i rv) t1⟩
/-- a, b = x, y -/
def tPar3 (i j : Nat) (ta : TA3) : TS3 := fun D σ h => ta σ h fun ds h1 => match ds with
  | [d, e] => D.nx ((σ.set i (some d)).set j (some e)) h1
  | _ => False
theorem ps3_par {i j : Nat} {x y : Str} {px py pt : Pos} {kt k2 pt2} (hc : X.calm = true) (hN : X.N.Nodup) (hi : X.N[i]? = some x) (hj : X.N[j]? = some y) (hij : i ≠ j)
    (hx : X.env.scope.names.lookup x = some .local) (hy : X.env.scope.names.lookup y = some .local) (ha : PA3 X B [a, b] t)
    (hw : swappedStores [.Tuple [.Name x px, .Name y py] kt pt] (.Tuple [a, b] k2 pt2) X.env = pure (some [x, y]))
    (hs : swapsWithSole [.Tuple [.Name x px, .Name y py] kt pt] (.Tuple [a, b] k2 pt2) pos.line X.env = pure false := by rfl) :
    PS3 X B (.Assign [.Tuple [.Name x px, .Name y py] kt pt] (.Tuple [a, b] k2 pt2) pos) (tPar3 i j t) := by
  refine PS3.of (ps_par hc hN hi hj hij hx hy ha hw hs) fun D σ H ⟨σ3, h, D3, r0, t, c⟩ => ?_
  refine ⟨σ3, h, _, r0, t, fun vs H1 ds h1 g1 rs t1 => ?_⟩
  split at t1
  · obtain ⟨v, w', rfl, r1, r2⟩ := reps2 rs
    exact ⟨v, w', rfl, c.nx _ _ _ _ g1 (((r0.go g1).set i r1).set j r2) t1⟩
  · exact t1.elim

/-! ### while -/
def wh3 (c : TT3) (tb : TS3) (Dn : Ends3) : Nat → St3 → Hp3 → Prop
  | 0, _, _ => False
  | n + 1, σ, h => c σ h fun b h1 => if b = true then tb { Dn with nx := wh3 c tb Dn n, ct := wh3 c tb Dn n, bk := Dn.nx } σ h1 else Dn.nx σ h1
def tWhile3 (c : TT3) (tb : TS3) : TS3 := fun D σ h => ∃ n, wh3 c tb D n σ h
theorem ps3_while {c : Expr} {body : List Stmt} {tc : TT3} {tb : TS3} (hp : PassesOwn (model X.prog X.w) X.A X.env X.xe) (hc : PT3 X B c tc) (hb : PSs3 X B body tb) : PS3 X B (.While c body [] pos) (tWhile3 tc tb) := by
  refine PS3.of (ps_while hp hc hb) fun D σ H ⟨σ3, h, D3, r0, ⟨n, t⟩, k⟩ => ?_
  refine ⟨fun m σ' H' => ∃ σ3 h', Go X.K H h H' h' ∧ RS X.K B H' σ' σ3 h' ∧ wh3 tc tb D3 m σ3 h', ⟨n, σ3, h, .refl r0.h, r0, t⟩, fun m σ1 H1 ⟨σ31, h1, g1, r1, t1⟩ => ?_⟩
  cases m with
  | zero => exact t1.elim
  | succ m =>
    refine ⟨σ31, h1, _, r1, t1, fun d H2 h2 g2 t2 => ?_⟩
    cases d with
    | true =>
      rw [if_pos rfl] at t2 ⊢
      refine ⟨fun σ' H' => ∃ σ3 h', Go X.K H h H' h' ∧ RS X.K B H' σ' σ3 h' ∧ wh3 tc tb D3 m σ3 h', fun σ' H' q => ⟨m, Nat.lt_succ_self m, q⟩, ?_⟩
      have go : CtN X.K B H2 h2 (wh3 tc tb D3 m) (fun σ' H' => ∃ σ3 h', Go X.K H h H' h' ∧ RS X.K B H' σ' σ3 h' ∧ wh3 tc tb D3 m σ3 h') := fun σ' H' σ3' h' g' r' t' => ⟨σ3', h', (g1.trans g2).trans g', r', t'⟩
      exact ⟨σ31, h2, _, r1.go g2, t2, ⟨go, k.rt.go (g1.trans g2), k.nx.go (g1.trans g2), go⟩⟩
    | false =>
      rw [if_neg Bool.false_ne_true] at t2 ⊢
      exact k.nx _ _ _ _ (g1.trans g2) (r1.go g2) t2

/-! ### what is walked -/
abbrev TI3 := St3 → Hp3 → (List D → (Hp3 → Prop) → Hp3 → Prop) → Prop
/-- J gives the values ds one by one while still holds -/
structure ItRep (K : Fg) (Hs : Hp) (J : It) (ds : List D) (still : Hp3 → Prop) : Prop where
  goes : ∀ i H h, i < ds.length → Pers K Hs H → RepH K H h → still h → J.go i H
  yields : ∀ i H h x H', i < ds.length → Pers K Hs H → RepH K H h → still h → J.yld i H x H' → Go K H h H' h ∧ ∃ d, ds[i]? = some d ∧ RepV K H' x d
  stops : ∀ H h, Pers K Hs H → RepH K H h → still h → J.stop ds.length H
def LowI (K : Fg) (B : B0) (t3 : TI3) : TI := fun σ H R => ∃ σ3 h R3, RS K B H σ σ3 h ∧ t3 σ3 h R3 ∧ ∀ J H' ds still h', Go K H h H' h' → ItRep K H' J ds still → R3 ds still h' → R J H'
def PI3 (X : Cx) (B : B0) (tg iter : Expr) (t : TI3) : Prop := PI X tg iter (LowI X.K B t)
theorem PI3.of {tg iter : Expr} {t : TI} {t3 : TI3} (he : PI X tg iter t) (hl : ∀ σ H R, LowI X.K B t3 σ H R → t σ H R) : PI3 X B tg iter t3 := ⟨fun pins s σ H R I h => he.run pins s σ H R I (hl σ H R h)⟩
theorem itrep_list {K : Fg} {H : Hp} {p : Addr} {ds : List D} : ItRep K H (Itl K p) ds (fun h => h p = some (.lst ds)) where
  goes := fun i H' h hi _ rh st => by
    obtain ⟨xs, a1, rs⟩ := rh _ _ st
    obtain ⟨d, hd⟩ : ∃ d, ds[i]? = some d := ⟨ds[i], List.getElem?_eq_getElem hi⟩
    obtain ⟨v, hv, _⟩ := rs.get hd
    exact ⟨xs, v, .of a1, hv⟩
  yields := fun i H' h x H'' hi _ rh st y => by
    obtain ⟨e, y⟩ := y
    subst e
    obtain ⟨xs, a1, rs⟩ := rh _ _ st
    obtain ⟨d, hd, rv⟩ := rs.getV (y xs (.of a1))
    exact ⟨.refl rh, d, hd, rv⟩
  stops := fun H' h _ rh st => by
    obtain ⟨xs, a1, rs⟩ := rh _ _ st
    exact ⟨xs, .of a1, by rw [rs.length]; exact Nat.le_refl _⟩
theorem itrep_rol {K : Fg} {H : Hp} {p : Addr} {xs : List V} {ds : List D} (s : SqRo K H p xs) (rs : Reps K H xs ds) : ItRep K H (Itl K p) ds (fun _ => True) where
  goes := fun i H' h hi pr rh st => by
    obtain ⟨d, hd⟩ : ∃ d, ds[i]? = some d := ⟨ds[i], List.getElem?_eq_getElem hi⟩
    obtain ⟨v, hv, _⟩ := rs.get hd
    exact ⟨xs, v, (pr.ro _ _ s).toL, hv⟩
  yields := fun i H' h x H'' hi pr rh st y => by
    obtain ⟨e, y⟩ := y
    subst e
    obtain ⟨d, hd, rv⟩ := rs.getV (y xs (pr.ro _ _ s).toL)
    exact ⟨.refl rh, d, hd, rv.mono pr⟩
  stops := fun H' h pr rh st => ⟨xs, (pr.ro _ _ s).toL, by rw [rs.length]; exact Nat.le_refl _⟩
theorem itrep_tup {K : Fg} {H : Hp} {p : Addr} {xs : List V} {ds : List D} (s : SqT K H p xs) (rs : Reps K H xs ds) : ItRep K H (Itt K p) ds (fun _ => True) where
  goes := fun i H' h hi pr rh st => by
    obtain ⟨d, hd⟩ : ∃ d, ds[i]? = some d := ⟨ds[i], List.getElem?_eq_getElem hi⟩
    obtain ⟨v, hv, _⟩ := rs.get hd
    exact ⟨xs, v, pr.tup _ _ s, hv⟩
  yields := fun i H' h x H'' hi pr rh st y => by
    obtain ⟨e, y⟩ := y
    subst e
    obtain ⟨d, hd, rv⟩ := rs.getV (y xs (pr.tup _ _ s))
    exact ⟨.refl rh, d, hd, rv.mono pr⟩
  stops := fun H' h pr rh st => ⟨xs, pr.tup _ _ s, by rw [rs.length]; exact Nat.le_refl _⟩
def sgn (c : Nat) : D := .str ⟨#[c]⟩
theorem itrep_str {K : Fg} {H : Hp} {z : Str} : ItRep K H (Its z) (z.cps.toList.map sgn) (fun _ => True) where
  goes := fun i H' h hi pr rh st => (walk_str (z := z)).goes i H' (by simpa using hi) trivial
  yields := fun i H' h x H'' hi pr rh st y => by
    obtain ⟨e, c, hc, rfl⟩ := (walk_str (z := z)).yields i H' x H'' (by simpa using hi) trivial y
    subst e
    refine ⟨.refl rh, sgn c, ?_, rv_str⟩
    rw [List.getElem?_map, Array.getElem?_toList, hc]; rfl
  stops := fun H' h pr rh st => by
    have q := (walk_str (z := z)).stops H' trivial
    simpa using q
/-- range(n), range(a, b) -/
def rng (lo : Int) (n : Nat) : List D := (List.range n).map fun (i : Nat) => D.int (lo + i)
theorem itrep_range {K : Fg} {H : Hp} {lo : Int} {n : Nat} : ItRep K H (Itr lo n) (rng lo n) (fun _ => True) where
  goes := fun i H' h hi pr rh st => (walk_range (lo := lo) (n := n)).goes i H' (by simpa [rng] using hi) trivial
  yields := fun i H' h x H'' hi pr rh st y => by
    obtain ⟨e, ex⟩ := (walk_range (lo := lo) (n := n)).yields i H' x H'' (by simpa [rng] using hi) trivial y
    subst e
    subst ex
    refine ⟨.refl rh, .int (lo + i), ?_, rv_int⟩
    have hi' : i < n := by simpa [rng] using hi
    unfold rng
    rw [List.getElem?_map, List.getElem?_range hi']; rfl
  stops := fun H' h pr rh st => by
    have q := (walk_range (lo := lo) (n := n)).stops H' trivial
    simpa [rng] using q
/-- a list, a tuple, a text -/
def iSeq3 (tl : TE3) : TI3 := fun σ h R => tl σ h fun x h1 => match x with
  | .tup ds => R ds (fun _ => True) h1
  | .rol ds => R ds (fun _ => True) h1
  | .str z => R (z.cps.toList.map sgn) (fun _ => True) h1
  | .ref p => ∃ ds, h1 p = some (.lst ds) ∧ R ds (fun h => h p = some (.lst ds)) h1
  | _ => False
theorem pi_any {tg l : Expr} {tl : TE} (hl : PE X l tl) : PI X tg l (fun σ H R => tl σ H fun x H1 => (∃ a, x = .ref a ∧ (∃ xs, SqL X.K H1 a xs) ∧ R (Itl X.K a) H1) ∨ (∃ a, x = .ref a ∧ (∃ xs, SqT X.K H1 a xs) ∧ R (Itt X.K a) H1) ∨ ∃ z, x = .str z ∧ R (Its z) H1) := by
  refine ⟨fun pins s σ H R I h => ?_⟩
  refine thn (hl.run pins s σ H _ I h) fun v s1 ⟨x, H1, I1, r1, q1⟩ => ?_
  rcases q1 with ⟨a, rfl, ⟨xs, hq⟩, q⟩ | ⟨a, rfl, ⟨xs, hq⟩, q⟩ | ⟨z, rfl, q⟩
  · cases r1
    obtain ⟨us, _, pl, _⟩ := I1.list hq
    exact wpAny_pyIter_list pl.isList (pi_one (tk := s1.toks) I1 _ (turn_list a _) ⟨_, Heap.get?_push_size _ rfl, rfl, rfl⟩ q)
  · cases r1
    obtain ⟨us, _, pl, _⟩ := I1.tuple hq
    exact wpAny_pyIter_tuple (show s1.heap.IsTuple a us.toArray from pl) (pi_one (tk := s1.toks) I1 _ (turn_tuple a _) ⟨_, Heap.get?_push_size _ rfl, rfl, rfl⟩ q)
  · obtain ⟨t, rfl⟩ := r1
    cases ha : z.cps.all (· < 128)
    · exact wpAny_pyIter_wide ha (pi_one (tk := s1.toks) I1 _ (turn_str _ z t "str_iterator" (.inr rfl)) ⟨_, Heap.get?_push_size _ rfl, rfl, rfl⟩ q)
    · exact wpAny_pyIter_ascii ha (pi_one (tk := s1.toks) I1 _ (turn_str _ z t "str_ascii_iterator" (.inl rfl)) ⟨_, Heap.get?_push_size _ rfl, rfl, rfl⟩ q)
theorem pi3_seq {tg l : Expr} {tl : TE3} (hl : PE3 X B l tl) : PI3 X B tg l (iSeq3 tl) := by
  refine PI3.of (pi_any hl) fun σ H R ⟨σ3, h, R3, r0, t, c⟩ => ?_
  refine ⟨σ3, h, _, r0, t, fun v H1 d h1 g1 rv t1 => ?_⟩
  split at t1
  · obtain ⟨a, xs, rfl, s, rs⟩ := repV_tup rv
    exact .inr (.inl ⟨a, rfl, ⟨xs, s⟩, c _ _ _ _ _ g1 (itrep_tup s rs) t1⟩)
  · obtain ⟨a, xs, rfl, s, rs⟩ := repV_rol rv
    exact .inl ⟨a, rfl, ⟨xs, s.toL⟩, c _ _ _ _ _ g1 (itrep_rol s rs) t1⟩
  · exact .inr (.inr ⟨_, repV_str rv, c _ _ _ _ _ g1 itrep_str t1⟩)
  · obtain ⟨ds, e1, t2⟩ := t1
    obtain ⟨xs, a1, rs⟩ := g1.rep _ _ e1
    exact .inl ⟨_, repV_ref rv, ⟨xs, .of a1⟩, c _ _ _ _ _ g1 itrep_list t2⟩
  · exact t1.elim
def iRng13 (ta : TA3) : TI3 := fun σ h R => ta σ h fun ds h1 => match ds with
  | [.int j] => -(2 ^ 62) ≤ j ∧ j < 2 ^ 62 ∧ R (rng 0 j.toNat) (fun _ => True) h1
  | _ => False
theorem pi3_range1 {tg a : Expr} {ta : TA3} {p pos : Pos} (hg : Gl X "range") (hm : X.mg "range" = none) (ha : PA3 X B [a] ta) (hs : starEach [a] X.env = [(false, eval a X.env)] := by rfl) : PI3 X B tg (.Call (.Name "range" p) [a] [] pos) (iRng13 ta) := by
  refine PI3.of (pi_range1 hg hm ha hs) fun σ H R ⟨σ3, h, R3, r0, t, c⟩ => ?_
  refine ⟨σ3, h, _, r0, t, fun vs H1 ds h1 g1 rs t1 => ?_⟩
  split at t1
  · obtain ⟨v, rfl, rv⟩ := reps1 rs
    rw [repV_int rv]
    exact ⟨_, rfl, t1.1, t1.2.1, c _ _ _ _ _ g1 itrep_range t1.2.2⟩
  · exact t1.elim
def iRng23 (ta : TA3) : TI3 := fun σ h R => ta σ h fun ds h1 => match ds with
  | [.int i, .int j] => (-(2 ^ 62) ≤ i ∧ i < 2 ^ 62 ∧ -(2 ^ 62) ≤ j ∧ j < 2 ^ 62) ∧ R (rng i (j - i).toNat) (fun _ => True) h1
  | _ => False
theorem pi3_range2 {tg a b : Expr} {ta : TA3} {p pos : Pos} (hg : Gl X "range") (hm : X.mg "range" = none) (ha : PA3 X B [a, b] ta) (hs : starEach [a, b] X.env = [(false, eval a X.env), (false, eval b X.env)] := by rfl) (hs2 : starEach [b] X.env = [(false, eval b X.env)] := by rfl) :
    PI3 X B tg (.Call (.Name "range" p) [a, b] [] pos) (iRng23 ta) := by
  refine PI3.of (pi_range2 hg hm ha hs hs2) fun σ H R ⟨σ3, h, R3, r0, t, c⟩ => ?_
  refine ⟨σ3, h, _, r0, t, fun vs H1 ds h1 g1 rs t1 => ?_⟩
  split at t1
  · obtain ⟨v, w, rfl, r1, r2⟩ := reps2 rs
    rw [repV_int r1, repV_int r2]
    exact ⟨_, _, rfl, t1.1, c _ _ _ _ _ g1 itrep_range t1.2⟩
  · exact t1.elim

/-! ### for -/
def for3 (still : Hp3 → Prop) (g : TG3) (tb : TS3) (Dn : Ends3) : List D → St3 → Hp3 → Prop
  | [], σ, h => still h ∧ Dn.nx σ h
  | d :: r, σ, h => still h ∧ g d σ h fun σ1 h1 => tb { Dn with nx := for3 still g tb Dn r, ct := for3 still g tb Dn r, bk := Dn.nx } σ1 h1
def tFor3 (ti : TI3) (g : TG3) (tb : TS3) : TS3 := fun D σ h => ti σ h fun ds still h1 => for3 still g tb D ds σ h1
theorem drop3 {ds : List D} {i : Nat} {d : D} (e : ds[i]? = some d) : ds.drop i = d :: ds.drop (i + 1) := by
  obtain ⟨hi, e⟩ := List.getElem?_eq_some_iff.mp e
  rw [List.drop_eq_getElem_cons hi, e]
theorem ps3_for {tg iter : Expr} {body : List Stmt} {ti : TI3} {g : TG3} {tb : TS3} (hp : PassesOwn (model X.prog X.w) X.A X.env X.xe) (hc : X.calm = true) (hi : PI3 X B tg iter ti) (hg : PG3 X B tg g) (hb : PSs3 X B body tb)
    (hs : ∀ x, foldedSetIterable iter X.env x = pure x := by intro _; rfl) : PS3 X B (.For tg iter body [] pos) (tFor3 ti g tb) := by
  refine PS3.of (ps_for hp hc hi hg hb hs) fun D σ H ⟨σ3, h, D3, r0, t, k⟩ => ?_
  refine ⟨σ3, h, _, r0, t, fun J H1 ds still h1 g1 it t1 => ?_⟩
  refine ⟨fun i m σ' H' => m = ds.length - i ∧ i ≤ ds.length ∧ ∃ σ3 h', RS X.K B H' σ' σ3 h' ∧ Go X.K H1 h1 H' h' ∧ for3 still g tb D3 (ds.drop i) σ3 h', ⟨_, rfl, Nat.zero_le _, σ3, h1, r0.go g1, .refl g1.rep, t1⟩, ?_⟩
  rintro i m σ2 H2 ⟨rfl, hi2, σ32, h2, r2, g2, t2⟩
  by_cases hlt : i < ds.length
  · obtain ⟨d, hd⟩ : ∃ d, ds[i]? = some d := ⟨ds[i], List.getElem?_eq_getElem hlt⟩
    rw [drop3 hd] at t2
    obtain ⟨st, t2⟩ := t2
    refine .inr ⟨it.goes i H2 h2 hlt g2.toPers r2.h st, fun σ' H' => ∃ σ3 h', Go X.K H1 h1 H' h' ∧ RS X.K B H' σ' σ3 h' ∧ for3 still g tb D3 (ds.drop (i + 1)) σ3 h', fun σ' H' ⟨σ3', h', g', r', t'⟩ => ⟨ds.length - (i + 1), by omega, rfl, hlt, σ3', h', r', g', t'⟩, fun x H3 y => ?_⟩
    obtain ⟨g3, d', hd', rv⟩ := it.yields i H2 h2 x H3 hlt g2.toPers r2.h st y
    rw [hd] at hd'
    cases hd'
    refine ⟨d, σ32, h2, _, r2.go g3, rv, t2, fun σ4 H4 σ34 h4 g4 r4 t4 => ?_⟩
    have g14 : Go X.K H1 h1 H4 h4 := (g2.trans g3).trans g4
    have go : CtN X.K B H4 h4 (for3 still g tb D3 (ds.drop (i + 1))) (fun σ' H' => ∃ σ3 h', Go X.K H1 h1 H' h' ∧ RS X.K B H' σ' σ3 h' ∧ for3 still g tb D3 (ds.drop (i + 1)) σ3 h') := fun σ' H' σ3' h' g' r' t' => ⟨σ3', h', g14.trans g', r', t'⟩
    exact ⟨σ34, h4, _, r4, t4, ⟨go, k.rt.go (g1.trans g14), k.nx.go (g1.trans g14), go⟩⟩
  · have e : i = ds.length := by omega
    subst e
    rw [List.drop_length] at t2
    exact .inl ⟨it.stops H2 h2 g2.toPers r2.h t2.1, k.nx _ _ _ _ (g1.trans g2) r2 t2.2⟩

/-! ### comprehensions -/
/-- a target within a comprehension: it stores into the comprehension's own slots alone -/
def GL (K : Fg) (vs : List Nat) (g : TG) (g3 : TG3) : Prop := ∀ (B : B0) x d σ H σ3 h Q3 (Q : St → Hp → Prop), RS K B H σ σ3 h → RepV K H x d → g3 d σ3 h Q3 → (∀ σ2 σ32, wipe σ2 vs = wipe σ vs → RS K B H σ2 σ32 h → Q3 σ32 h → Q σ2 H) → g x σ H Q
theorem wipe_comm {σ : St} {i : Nat} {v : Option V} : ∀ {vs : List Nat}, i ∉ vs → wipe (σ.set i v) vs = (wipe σ vs).set i v
  | [], _ => rfl
  | j :: r, h => by
    have h1 : j ≠ i := fun e => h (e ▸ List.mem_cons_self)
    have ih := wipe_comm (σ := σ) (v := v) (vs := r) fun z => h (List.mem_cons_of_mem _ z)
    show (wipe (σ.set i v) r).set j none = ((wipe σ r).set j none).set i v
    rw [ih, List.set_comm _ _ h1]
theorem wipe_set {σ : St} {i : Nat} {v : Option V} : ∀ {vs : List Nat}, i ∈ vs → wipe (σ.set i v) vs = wipe σ vs
  | j :: r, h => by
    show (wipe (σ.set i v) r).set j none = (wipe σ r).set j none
    by_cases hr : i ∈ r
    · rw [wipe_set hr]
    · have e : i = j := (List.mem_cons.mp h).resolve_right hr
      subst e
      rw [wipe_comm hr, List.set_set]
theorem wipe_has {σ : St} {i : Nat} : ∀ {vs : List Nat}, i ∈ vs → (wipe σ vs).set i none = wipe σ vs
  | j :: r, h => by
    show ((wipe σ r).set j none).set i none = (wipe σ r).set j none
    by_cases e : j = i
    · subst e; rw [List.set_set]
    · rw [List.set_comm _ _ e, wipe_has ((List.mem_cons.mp h).resolve_left (Ne.symm e))]
theorem wipe_sub {σ : St} {vs : List Nat} : ∀ {us : List Nat}, (∀ i ∈ us, i ∈ vs) → wipe (wipe σ vs) us = wipe σ vs
  | [], _ => rfl
  | j :: r, h => by
    show (wipe (wipe σ vs) r).set j none = wipe σ vs
    rw [wipe_sub fun i hi => h i (List.mem_cons_of_mem _ hi), wipe_has (h j List.mem_cons_self)]
theorem wipe_wipe {σ : St} {vs : List Nat} : wipe (wipe σ vs) vs = wipe σ vs := wipe_sub fun _ h => h
theorem gl_name {K : Fg} {vs : List Nat} {i : Nat} (hi : i ∈ vs) : GL K vs (gName i) (gName3 i) := fun B x d σ H σ3 h Q3 Q r rv t c => c _ _ (wipe_set hi) (r.set i rv) t
theorem gl_two {K : Fg} {vs : List Nat} {i j : Nat} (hi : i ∈ vs) (hj : j ∈ vs) : GL K vs (gTup K 2 (gCons (gName i) (gCons (gName j) gNil))) (gTup3 2 (gCons3 (gName3 i) (gCons3 (gName3 j) gNil3))) := by
  intro B x d σ H σ3 h Q3 Q r rv t c
  unfold gTup3 at t
  split at t
  · rename_i ds
    obtain ⟨a, xs, rfl, s, rs⟩ := repV_tup rv
    obtain ⟨hl, t⟩ := t
    refine ⟨a, xs, rfl, s, by rw [rs.length]; exact hl, ?_⟩
    match ds, hl, rs, t with
    | [d1, d2], _, rs, t =>
      obtain ⟨v1, v2, rfl, r1, r2⟩ := reps2 rs
      refine ⟨v1, _, rfl, v2, _, rfl, rfl, ?_⟩
      exact c _ _ (by rw [wipe_set hj, wipe_set hi]) ((r.set i r1).set j r2) t
  · exact t.elim
/-- the values that come, the heap behind -/
def lc3 (still : Hp3 → Prop) (g : TG3) (tt : TT3) (te : TE3) (σ : St3) : List D → List D → Hp3 → (List D → Hp3 → Prop) → Prop
  | [], acc, h, Q => still h ∧ Q acc h
  | d :: r, acc, h, Q => still h ∧ g d σ h fun σ1 h1 => tt σ1 h1 fun b h2 => if b = true then te σ1 h2 fun y h3 => acc.length < sizeLine ∧ lc3 still g tt te σ r (acc ++ [y]) h3 Q else lc3 still g tt te σ r acc h2 Q
abbrev TL3 := St3 → Hp3 → (List D → Hp3 → Prop) → Prop
def tLc3 (ti : TI3) (g : TG3) (tt : TT3) (te : TE3) (vs : List Nat) : TL3 := fun σ h Q => ti σ h fun ds still h1 => lc3 still g tt te (wipe3 σ vs) ds [] h1 Q
def tYes3 : TT3 := fun _ h Q => Q true h
def PTs3 (X : Cx) (B : B0) (ifs : List Expr) (t : TT3) : Prop := PTs X ifs (LowT X.K B t)
theorem pts3_nil : PTs3 X B [] tYes3 := ⟨fun pins s σ H Q I ⟨σ3, h, Q3, r0, t, c⟩ => pts_nil.run pins s σ H Q I (c _ _ _ (.refl r0.h) t)⟩
theorem pts3_one {c : Expr} {t : TT3} (h : PT3 X B c t) : PTs3 X B [c] t := pts_one h
/-- what a comprehension leaves: a list at a place that is not told of -/
def LowL (K : Fg) (B : B0) (t3 : TL3) : TE := fun σ H Q => ∃ σ3 h Q3, RS K B H σ σ3 h ∧ t3 σ3 h Q3 ∧ ∀ p H' xs ds h', Go K H h H' h' → H p = none → H' p = some (.lst xs) → h' p = none → Reps K H' xs ds → Q3 ds h' → Q (.ref p) H'
def PL3 (X : Cx) (B : B0) (e : Expr) (t : TL3) : Prop := PE X e (LowL X.K B t)
theorem PL3.of {e : Expr} {t : TE} {t3 : TL3} (he : PE X e t) (hl : ∀ σ H Q, LowL X.K B t3 σ H Q → t σ H Q) : PL3 X B e t3 := ⟨fun pins s σ H Q I h => he.run pins s σ H Q I (hl σ H Q h)⟩
theorem low_lc {ti : TI3} {g : TG} {gq : TG3} {tt : TT3} {te : TE3} {vs : List Nat} (hG : GL X.K vs g gq) : ∀ σ H Q, LowL X.K B (tLc3 ti gq tt te vs) σ H Q → tLc (LowI X.K B ti) g (LowT X.K B tt) (LowE X.K B te) vs σ H Q := fun σ H Q ⟨σ3, h, Q3, r0, t, c⟩ => by
  refine ⟨σ3, h, _, r0, t, fun J H1 ds still h1 g1 it t1 => ?_⟩
  intro L nL
  have n1 : h1 L = none := g1.rep.free nL
  refine ⟨fun i m H' => m = ds.length - i ∧ i ≤ ds.length ∧ ∃ h' xs acc, Go X.K H1 h1 H' h' ∧ H' L = some (.lst xs) ∧ h' L = none ∧ Reps X.K H' xs acc ∧ lc3 still gq tt te (wipe3 σ3 vs) (ds.drop i) acc h' Q3, ⟨_, rfl, Nat.zero_le _, h1, [], [], .new g1.rep nL, upd_same, n1, rs_nil, t1⟩, ?_⟩
  rintro i m H2 ⟨rfl, hi2, h2, xs, acc, g2, a2, n2, rs2, t2⟩
  have r2 : RS X.K B H2 (wipe σ vs) (wipe3 σ3 vs) h2 := ⟨((r0.go g1).go g2).s.wipe3 vs, ((r0.go g1).go g2).b⟩
  by_cases hlt : i < ds.length
  · obtain ⟨d, hd⟩ : ∃ d, ds[i]? = some d := ⟨ds[i], List.getElem?_eq_getElem hlt⟩
    rw [drop3 hd] at t2
    obtain ⟨st, t2⟩ := t2
    refine .inr ⟨it.goes i H2 h2 hlt g2.toPers r2.h st, fun H' => ∃ h' xs acc, Go X.K H1 h1 H' h' ∧ H' L = some (.lst xs) ∧ h' L = none ∧ Reps X.K H' xs acc ∧ lc3 still gq tt te (wipe3 σ3 vs) (ds.drop (i + 1)) acc h' Q3,
      fun H' ⟨h', xs', acc', q⟩ => ⟨ds.length - (i + 1), by omega, rfl, hlt, h', xs', acc', q⟩, fun x H3 y => ?_⟩
    obtain ⟨g3, d', hd', rv⟩ := it.yields i H2 h2 x H3 hlt g2.toPers r2.h st y
    rw [hd] at hd'
    cases hd'
    refine hG B x d _ H3 _ h2 _ _ (r2.go g3) rv t2 fun σ4 σ34 ew r4 t4 => ?_
    have ew' : wipe σ4 vs = wipe σ vs := by
      rw [ew]
      exact wipe_wipe
    refine ⟨ew', σ34, h2, _, r4, t4, fun b H5 h5 g5 t5 => ?_⟩
    have g25 : Go X.K H2 h2 H5 h5 := g3.trans g5
    cases b with
    | true =>
      dsimp only at t5 ⊢
      rw [if_pos rfl] at t5 ⊢
      refine ⟨σ34, h5, _, r4.go g5, t5, fun y H6 dy h6 g6 ry t6 => ?_⟩
      have g26 : Go X.K H2 h2 H6 h6 := g25.trans g6
      obtain ⟨a6, n6⟩ := g26.frm L _ a2 n2
      have rs6 : Reps X.K H6 xs acc := rs2.mono g26.toPers
      have w : Wr (H6 L) := by rw [a6]; trivial
      have g7 : Go X.K H1 h1 (upd H6 L (.lst (xs ++ [y]))) h6 := by
        refine ⟨(g2.trans g26).toPers.trans (.upd w), fun q o eq nq => ?_, fun q e => (g2.trans g26).live q (live_upd e), fun q o3 eq => ?_⟩
        · obtain ⟨e7, n7⟩ := (g2.trans g26).frm q o eq nq
          have ne : q ≠ L := ne_of_none eq nL
          exact ⟨by rw [upd_ne ne]; exact e7, n7⟩
        · have ne : q ≠ L := fun z => by rw [z, n6] at eq; cases eq
          exact (g6.rep q o3 eq).mono (.upd w) (upd_ne ne)
      exact ⟨xs, a6, by rw [rs6.length]; exact t6.1, h6, _, acc ++ [dy], g7, upd_same, n6, (rs6.append (rs_cons ry rs_nil)).mono (.upd w), t6.2⟩
    | false =>
      dsimp only at t5 ⊢
      rw [if_neg Bool.false_ne_true] at t5 ⊢
      obtain ⟨a5, n5⟩ := g25.frm L _ a2 n2
      exact ⟨h5, xs, acc, g2.trans g25, a5, n5, rs2.mono g25.toPers, t5⟩
  · have e : i = ds.length := by omega
    subst e
    rw [List.drop_length] at t2
    exact .inl ⟨it.stops H2 h2 g2.toPers r2.h t2.1, c L H2 xs acc h2 (g1.trans g2) (g1.live L nL) a2 n2 rs2 t2.2⟩
theorem pl3_lc {elt tg iter : Expr} {ifs : List Expr} {scope : Scope} {own : List (Str × Nat)} {ti : TI3} {g : TG} {gq : TG3} {tt : TT3} {te : TE3} (hc : X.calm = true) (hN : X.N.Nodup) (hi : PI3 X B tg iter ti) (ok : BlkOk X.N X.env.scope scope own)
    (hG : GL X.K (own.map (·.2)) g gq) (hg : ∀ (s : Shared) (H : Hp) (C : Addr) (cl : List (Str × Addr)) (fp : List Addr), PG (X.blk s H scope (compEnvC scope cl C X.env) fp) tg g) (ht : ∀ (s : Shared) (H : Hp) (C : Addr) (cl : List (Str × Addr)) (fp : List Addr), PTs3 (X.blk s H scope (compEnvC scope cl C X.env) fp) B ifs tt)
    (he : ∀ (s : Shared) (H : Hp) (C : Addr) (cl : List (Str × Addr)) (fp : List Addr), PE3 (X.blk s H scope (compEnvC scope cl C X.env) fp) B elt te) (hs : ∀ x, foldedSetIterable iter X.env x = pure x := by intro _; rfl) :
    PL3 X B (.ListComp elt [⟨tg, iter, ifs, 0⟩] scope pos) (tLc3 ti gq tt te (own.map (·.2))) := PL3.of (pe_lc (tt := LowT X.K B tt) (te := LowE X.K B te) hc hN hi ok hg ht he hs) (low_lc hG)
/-- the list told of -/
def tNew3 (t : TL3) : TE3 := fun σ h Q => t σ h fun ds h1 => ∀ p, h1 p = none → Q (.ref p) (upd3 h1 p (.lst ds))
theorem pe3_new {e : Expr} {t : TL3} (hl : PL3 X B e t) : PE3 X B e (tNew3 t) := PE3.of hl fun σ H Q ⟨σ3, h, Q3, r0, t, c⟩ => by
  refine ⟨σ3, h, _, r0, t, fun p H1 xs ds h1 g1 n0 a1 n1 rs t1 => ?_⟩
  refine c (.ref p) H1 _ (upd3 h1 p (.lst ds)) ⟨g1.toPers, fun q o eq nq => ?_, g1.live, fun q o3 eq => ?_⟩ rv_ref (t1 p n1)
  · obtain ⟨e1, n2⟩ := g1.frm q o eq nq
    exact ⟨e1, by rw [upd3_ne (ne_of_none eq n0)]; exact n2⟩
  · by_cases e : q = p
    · subst e
      rw [upd3_same] at eq
      cases eq
      exact ⟨xs, a1, rs⟩
    · rw [upd3_ne e] at eq
      exact g1.rep q o3 eq
/-- y = [..] on one line -/
theorem ps3_setLc {i : Nat} {y : Str} {py : Pos} {elt tg iter : Expr} {ifs : List Expr} {scope : Scope} {own : List (Str × Nat)} {pos spos : Pos} {ti : TI3} {g : TG} {gq : TG3} {tt : TT3} {te : TE3} (hc : X.calm = true) (hN : X.N.Nodup) (hy : X.N[i]? = some y) (hyl : X.env.scope.names.lookup y = some .local)
    (hsw : swapsWith (.ListComp elt [⟨tg, iter, ifs, 0⟩] scope pos) (some (.Name y py)) spos.line X.env = pure true) (hi : PI3 X B tg iter ti) (ok : BlkOk X.N X.env.scope scope own)
    (hG : GL X.K (own.map (·.2)) g gq) (hg : ∀ (s : Shared) (H : Hp) (C : Addr) (cl : List (Str × Addr)) (fp : List Addr), PG (X.blk s H scope (compEnvC scope cl C X.env) fp) tg g) (ht : ∀ (s : Shared) (H : Hp) (C : Addr) (cl : List (Str × Addr)) (fp : List Addr), PTs3 (X.blk s H scope (compEnvC scope cl C X.env) fp) B ifs tt)
    (he : ∀ (s : Shared) (H : Hp) (C : Addr) (cl : List (Str × Addr)) (fp : List Addr), PE3 (X.blk s H scope (compEnvC scope cl C X.env) fp) B elt te) (hs : ∀ x, foldedSetIterable iter X.env x = pure x := by intro _; rfl) :
    PS3 X B (.Assign [.Name y py] (.ListComp elt [⟨tg, iter, ifs, 0⟩] scope pos) spos) (tAsg3 (tNew3 (tLc3 ti gq tt te (own.map (·.2)))) (gName3 i)) := by
  refine PS3.of (ps_setLc (tt := LowT X.K B tt) (te := LowE X.K B te) hc hN hy hyl hsw hi ok hg ht he hs) fun D σ H ⟨σ3, h, D3, r0, t, c⟩ => ?_
  refine low_lc hG σ H _ ⟨σ3, h, _, r0, t, fun p H1 xs ds h1 g1 n0 a1 n1 rs t1 => ?_⟩
  have g2 : Go X.K H h H1 (upd3 h1 p (.lst ds)) := by
    refine ⟨g1.toPers, fun q o eq nq => ?_, g1.live, fun q o3 eq => ?_⟩
    · obtain ⟨e1, n2⟩ := g1.frm q o eq nq
      exact ⟨e1, by rw [upd3_ne (ne_of_none eq n0)]; exact n2⟩
    · by_cases e : q = p
      · subst e
        rw [upd3_same] at eq
        cases eq
        exact ⟨xs, a1, rs⟩
      · rw [upd3_ne e] at eq
        exact g1.rep q o3 eq
  exact c.nx _ _ _ _ g2 ((r0.go g2).set i rv_ref) (t1 p n1)
/-- a built-in upon a list that is dropped then: f([..]), sep.join([..]) -/
abbrev RL3 := List D → Hp3 → VK3 → Prop
def CallL3 (X : Cx) (f : Value) (r3 : RL3) : Prop := ∃ r, CallR X f r ∧ ∀ p H xs ds h Q3 Q, H p = some (.lst xs) → Reps X.K H xs ds → RepH X.K H h → r3 ds h Q3 → CtV X.K H h Q3 Q → r [.ref p] H Q
def tCL3 (r : RL3) (t : TL3) : TE3 := fun σ h Q => t σ h fun ds h1 => r ds h1 Q
theorem pe3_callBL {id : String} {r : RL3} {x : Str} {p : Pos} {t : TL3} (hc : CallL3 X (.builtin id) r) (hg : Gl X x) (hm : X.mg x = none) (hv : bootBuiltins x = some (.builtin id)) (ha : PL3 X B e t) (hn : x ≠ "__name__" := by decide) (hdb : (x == ("__debug__" : Str)) = false := by decide)
    (he : starEach [e] X.env = (false, eval e X.env) :: starEach [] X.env := by rfl) (hpl : (backTo pos (starEach [] X.env)).any (·.1) = false := by rfl) : PE3 X B (.Call (.Name x p) [e] [] pos) (tCL3 r t) := by
  obtain ⟨r2, k1, k2⟩ := hc
  refine PE3.of (pe_callB k1 hg hm hv (pa_cons ha pa_nil he) hn hdb he hpl) fun σ H Q ⟨σ3, h, Q3, r0, t, c⟩ => ?_
  exact ⟨σ3, h, _, r0, t, fun p H1 xs ds h1 g1 n0 a1 n1 rs t1 => k2 p H1 xs ds h1 Q3 Q a1 rs g1.rep t1 (c.go g1)⟩
theorem pe3_callTyL {T : String} {r : RL3} {x : Str} {p : Pos} {t : TL3} (hc : CallL3 X (.type T) r) (hg : Gl X x) (hm : X.mg x = none) (hv : bootBuiltins x = some (.type T)) (ha : PL3 X B e t) (hn : x ≠ "__name__" := by decide) (hdb : (x == ("__debug__" : Str)) = false := by decide)
    (he : starEach [e] X.env = (false, eval e X.env) :: starEach [] X.env := by rfl) (hpl : (backTo pos (starEach [] X.env)).any (·.1) = false := by rfl) : PE3 X B (.Call (.Name x p) [e] [] pos) (tCL3 r t) := by
  obtain ⟨r2, k1, k2⟩ := hc
  refine PE3.of (pe_callTy k1 hg hm hv (pa_cons ha pa_nil he) hn hdb he hpl) fun σ H Q ⟨σ3, h, Q3, r0, t, c⟩ => ?_
  exact ⟨σ3, h, _, r0, t, fun p H1 xs ds h1 g1 n0 a1 n1 rs t1 => k2 p H1 xs ds h1 Q3 Q a1 rs g1.rep t1 (c.go g1)⟩
def tupL : RL3 := fun ds h Q => Q (.tup ds) h
theorem cl3_tup : CallL3 X (.type "tuple") tupL := ⟨_, call_tuple_of, fun p H xs ds h Q3 Q a rs rh t c => ⟨p, xs, rfl, .inl ⟨.of a, fun q nq => c.newT rh nq rs t⟩⟩⟩
def allL : RL3 := fun ds h Q => ∃ ns : List Bool, ds = ns.map D.bl ∧ Q (.bl (ns.all id)) h
theorem cl3_all (hc : X.calm = true) : CallL3 X (.builtin "all") allL := ⟨_, cr_all hc, fun p H xs ds h Q3 Q a rs rh t c => by
  obtain ⟨ns, rfl, q⟩ := t
  have e2 := of_reps_bls rs
  subst e2
  exact ⟨p, ns, rfl, .of a, c.ok rv_bl rh q⟩⟩
def anyL : RL3 := fun ds h Q => ∃ ns : List Bool, ds = ns.map D.bl ∧ Q (.bl (ns.any id)) h
theorem cl3_any (hc : X.calm = true) : CallL3 X (.builtin "any") anyL := ⟨_, cr_any hc, fun p H xs ds h Q3 Q a rs rh t c => by
  obtain ⟨ns, rfl, q⟩ := t
  have e2 := of_reps_bls rs
  subst e2
  exact ⟨p, ns, rfl, .of a, c.ok rv_bl rh q⟩⟩
def sumL : RL3 := fun ds h Q => ∃ ns : List Int, ds = ns.map D.int ∧ Q (.int ns.sum) h
theorem cl3_sum (hc : X.calm = true) : CallL3 X (.builtin "sum") sumL := ⟨_, cr_sum hc, fun p H xs ds h Q3 Q a rs rh t c => by
  obtain ⟨ns, rfl, q⟩ := t
  have e2 := of_reps_ints rs
  subst e2
  exact ⟨p, ns, rfl, .of a, c.ok rv_int rh q⟩⟩
def sortedL : RL3 := fun ds h Q => ∃ xs : List Str, ds = xs.map D.str ∧ xs.length < 64 ∧ ∀ (ys : List Str) p, ys.Perm xs → sortedS ys = true → h p = none → Q (.ref p) (upd3 h p (.lst (ys.map D.str)))
theorem cl3_sorted : CallL3 X (.builtin "sorted") sortedL := ⟨_, cr_sortedS, fun p H xs ds h Q3 Q a rs rh t c => by
  obtain ⟨ns, rfl, z, q⟩ := t
  have e2 := of_reps_strs rs
  subst e2
  exact ⟨p, ns, rfl, .of a, z, fun ys r pm so nr => c.new rh nr (reps_strs ys) (q ys r pm so (rh.free nr))⟩⟩
/-- sep.join([..]) -/
def joinL (a : Str) : RL3 := fun ds h Q => ∃ ys : List Str, ds = ys.map D.str ∧ (ys.map (·.length)).sum + ys.length * a.length ≤ 16777216 ∧ Q (.str (Str.join a ys)) h
def tJoinL3 (to : TE3) (t : TL3) : TE3 := fun σ h Q => to σ h fun x h1 => match x with
  | .str a => t σ h1 fun ds h2 => joinL a ds h2 Q
  | _ => False
theorem pe3_joinL {apos cpos : Pos} {t : TL3} (ho : PE3 X B o to) (ha : PL3 X B e t)
    (hbase : attributeBase o "join" X.env (eval o X.env) = eval o X.env := by rfl)
    (hfew : ((backTo cpos (starEach [e] X.env)).all (fun x => !x.1) && (backToKw cpos (keywordEach [] X.env)).all (fun x => x.1.isSome)
      && decide ([e].length + ([] : List Keyword).length + (if ([] : List Keyword).isEmpty then 0 else 1) < 30)) = true := by rfl)
    (hline : (apos.endLine == cpos.line) = true := by rfl) (hs : starEach [e] X.env = (false, eval e X.env) :: starEach [] X.env := by rfl) (hplain : (backTo cpos (starEach [] X.env)).any (·.1) = false := by rfl) :
    PE3 X B (.Call (.Attribute o "join" apos) [e] [] cpos) (tJoinL3 to t) := by
  refine PE3.of (pe_bm PySem.F.plainAttrs_str PySem.F.slot_str_join PySem.F.type_str_join mt_join ho (pa_cons ha pa_nil hs) hbase hfew hline hs hplain) fun σ H Q ⟨σ3, h, Q3, r0, t, c⟩ => ?_
  refine ⟨σ3, h, _, r0, t, fun x H1 dx h1 g1 rx t1 => ?_⟩
  split at t1
  · rw [repV_str rx]
    refine ⟨rfl, σ3, h1, _, r0.go g1, t1, fun p H2 xs ds h2 g2 n0 a2 n2 rs t2 => ?_⟩
    obtain ⟨ys, rfl, z, q⟩ := t2
    have e2 := of_reps_strs rs
    subst e2
    refine ⟨_, p, ys, rfl, rfl, .inl (.of a2), z, ?_⟩
    rw [TL.join_eq]
    exact (c.go (g1.trans g2)).ok rv_str g2.rep q
  · exact t1.elim
end
end L3

end F_L3e

section F_L3f
/-! L3f: calls of own defs and methods, instances, fields, raise; the rule of a def. -/
namespace L3
open PySem PySem.Spec PyProof.Rows L2

abbrev Sp3 := List D → Hp3 → VK3 → XK3 → Prop
def sp2 (K : Fg) (sp : Sp3) : Sp := fun vs H Q E => ∃ ds h Q3 E3, Reps K H vs ds ∧ RepH K H h ∧ sp ds h Q3 E3 ∧ CtV K H h Q3 Q ∧ ∀ C H' h', Go K H h H' h' → E3 C h' → E (.ref C) none H'
/-- what is wished of an exception that leaves, by the slots -/
def Tk3 (X : Cx) (B : B0) (E3 : St3 → XK3) : Prop := ∃ W : WX, Takes X W ∧ ∀ σ H σ3 h C, RS X.K B H σ σ3 h → E3 σ3 C h → W (.ref C) none σ H
def N0 : St3 → XK3 := fun _ _ _ => False
theorem tk3_none {X : Cx} {B : B0} : Tk3 X B N0 := ⟨fun _ _ _ _ => False, takes0, fun _ _ _ _ _ _ z => z⟩
abbrev CXX (X : Cx) : CXT := L2.CX X.prog X.w
section
variable {X : Cx} {B : B0} {a b c e o : Expr} {es : List Expr} {ta tb tc te to : TE3} {t : TA3} {p pos apos : Pos} {k : Nat} {f C : Addr} {fd : FuncData} {ps : List Str} {sp : Sp3} {E3 : St3 → XK3} {x m : Str}

/-! ### calls -/
def tCall3 (sp : Sp3) (E3 : St3 → XK3) (t : TA3) : TE3 := fun σ h Q => t σ h fun ds h1 => sp ds h1 Q (E3 σ)
theorem pe3_call (F : FnOk X.prog X.w X.K X.mg X.base (CXX X) k f fd ps (sp2 X.K sp)) (hr : Room k X.A) (hg : Gl X x) (hm : X.mg x = some (.ref f)) (hk : PySem.W.keepIn X.K (.ref f) = true) (hb : Binds X.K fd ps []) (tk : Tk3 X B E3)
    (ha : PA3 X B (e :: es) t) (hdb : (x == ("__debug__" : Str)) = false := by decide) (he : starEach (e :: es) X.env = (false, eval e X.env) :: starEach es X.env := by rfl) (hpl : (backTo pos (starEach es X.env)).any (·.1) = false := by rfl) :
    PE3 X B (.Call (.Name x p) (e :: es) [] pos) (tCall3 sp E3 t) := by
  obtain ⟨W, tw, hw⟩ := tk
  refine PE3.of (pe_callS F hr hg hm hk hb (fun σ => passAt tw σ) ha hdb he hpl) fun σ H Q ⟨σ3, h, Q3, r0, t, c⟩ => ?_
  refine ⟨σ3, h, _, r0, t, fun vs H1 ds h1 g1 rs t1 => ?_⟩
  exact ⟨ds, h1, Q3, E3 σ3, rs, g1.rep, t1, c.go g1, fun C H' h' g' ex => hw σ H' σ3 h' C ((r0.go g1).go g') ex⟩

/-! ### methods -/
def tMethS (C : Addr) (m : Str) (sp : Sp) (E : St → XK) (ta : TE) (t : TA) : TE := fun σ H Q => ta σ H fun x H1 => ∃ a dx fs, x = .ref a ∧ H1 a = some (.ins C dx fs) ∧ fs.lookup m = none ∧ t σ H1 fun vs H2 => sp (x :: vs) H2 Q (E σ)
theorem pe_methS {pl : Sem Bool} {ta : TE} {t : TA} {sp : Sp} {E : St → XK} {CX : CXT} (he : PE X o ta) (cl : Cls X.K C) (hm : Meth X.K C m f) (F : FnOk X.prog X.w X.K X.mg X.base CX k f fd ps sp) (hr : Room k X.A) (hb : Binds X.K fd ps []) (hx : ∀ σ, PassesAt CX X σ (E σ)) (ha : PA X (e :: es) t)
    (hst : starEach (e :: es) X.env = (false, eval e X.env) :: starEach es X.env := by rfl) (hpl : (backTo pos (starEach es X.env)).any (·.1) = false := by rfl)
    (ht : eval (.Call (.Attribute o m apos) (e :: es) [] pos) X.env = (do
      let ov ← eval o X.env
      standAt apos.atName
      let (f, first) ← holding [ov] (getMethod ov m pl)
      callWith pos f first (backTo pos (starEach (e :: es) X.env)) (backToKw pos (keywordEach [] X.env))) := by rfl) :
    PE X (.Call (.Attribute o m apos) (e :: es) [] pos) (tMethS C m sp E ta t) := by
  refine ⟨fun pins s σ H Q I h => PySem.W.methodCall_KW (pl := pl) (thn (he.run pins s σ H _ I h) ?_) ht⟩
  rintro u s1 ⟨x, H1, I1, rx, a, dx, fs, rfl, ea, l, q⟩
  obtain rfl : u = Value.ref a := rx
  refine getmeth_ok I1 ea cl hm l (PySem.W.callWith_K (first := [.ref a]) (h₀ := X.base) I.ok.mod.kin hm.kp (thn (ha.run pos pins s1 σ H1 _ I1 q) ?_) hst hpl)
  rintro us s2 ⟨vs, H2, I2, r, q2⟩
  exact ⟨I2.kIn, run_fnS (us := .ref a :: us) (vs := .ref a :: vs) F hr hb (hx σ) I2 (.cons rfl r) q2⟩
theorem pe_methS0 {pl : Sem Bool} {ta : TE} {sp : Sp} {E : St → XK} {CX : CXT} (he : PE X o ta) (cl : Cls X.K C) (hm : Meth X.K C m f) (F : FnOk X.prog X.w X.K X.mg X.base CX k f fd ps sp) (hr : Room k X.A) (hb : Binds X.K fd ps []) (hx : ∀ σ, PassesAt CX X σ (E σ))
    (ht : eval (.Call (.Attribute o m apos) [] [] pos) X.env = (do
      let ov ← eval o X.env
      standAt apos.atName
      let (f, first) ← holding [ov] (getMethod ov m pl)
      callWith pos f first (backTo pos (starEach [] X.env)) (backToKw pos (keywordEach [] X.env))) := by rfl) :
    PE X (.Call (.Attribute o m apos) [] [] pos) (tMethS C m sp E ta tNil) := by
  refine ⟨fun pins s σ H Q I h => PySem.W.methodCall_KW (pl := pl) (thn (he.run pins s σ H _ I h) ?_) ht⟩
  rintro u s1 ⟨x, H1, I1, rx, a, dx, fs, rfl, ea, l, q⟩
  obtain rfl : u = Value.ref a := rx
  exact getmeth_ok I1 ea cl hm l (PySem.W.callWith_K0 (first := [.ref a]) I1.kIn hm.kp (run_fnS (us := [.ref a]) (vs := [.ref a]) F hr hb (hx σ) I1 (.cons rfl .nil) q))
def tMeth3 (C : Addr) (m : Str) (sp : Sp3) (E3 : St3 → XK3) (ta : TE3) (t : TA3) : TE3 := fun σ h Q => ta σ h fun x h1 => match x with
  | .ref a => ∃ fs, h1 a = some (.ins C fs) ∧ fs.lookup m = none ∧ t σ h1 fun ds h2 => sp (.ref a :: ds) h2 Q (E3 σ)
  | _ => False
theorem low_meth {W : WX} (hw : ∀ σ H σ3 h C, RS X.K B H σ σ3 h → E3 σ3 C h → W (.ref C) none σ H) : ∀ σ H Q, LowE X.K B (tMeth3 C m sp E3 ta t) σ H Q → tMethS C m (sp2 X.K sp) (WE W) (LowE X.K B ta) (LowA X.K B t) σ H Q := fun σ H Q ⟨σ3, h, Q3, r0, t, c⟩ => by
  refine ⟨σ3, h, _, r0, t, fun v H1 d h1 g1 rv t1 => ?_⟩
  split at t1
  · rename_i a
    obtain ⟨fs, e1, e2, t2⟩ := t1
    obtain ⟨dx, fv, a1, fl⟩ := g1.rep _ _ e1
    rw [repV_ref rv]
    refine ⟨a, dx, fv, rfl, a1, fl.lookupN e2, σ3, h1, _, r0.go g1, t2, fun vs H2 ds h2 g2 rs t3 => ?_⟩
    exact ⟨.ref a :: ds, h2, Q3, E3 σ3, rs_cons rv_ref rs, g2.rep, t3, c.go (g1.trans g2), fun C H' h' g' ex => hw σ H' σ3 h' C ((r0.go (g1.trans g2)).go g') ex⟩
  · exact t1.elim
theorem pe3_meth {pl : Sem Bool} (he : PE3 X B o ta) (cl : Cls X.K C) (hm : Meth X.K C m f) (F : FnOk X.prog X.w X.K X.mg X.base (CXX X) k f fd ps (sp2 X.K sp)) (hr : Room k X.A) (hb : Binds X.K fd ps []) (tk : Tk3 X B E3) (ha : PA3 X B (e :: es) t)
    (hst : starEach (e :: es) X.env = (false, eval e X.env) :: starEach es X.env := by rfl) (hpl : (backTo pos (starEach es X.env)).any (·.1) = false := by rfl)
    (ht : eval (.Call (.Attribute o m apos) (e :: es) [] pos) X.env = (do
      let ov ← eval o X.env
      standAt apos.atName
      let (f, first) ← holding [ov] (getMethod ov m pl)
      callWith pos f first (backTo pos (starEach (e :: es) X.env)) (backToKw pos (keywordEach [] X.env))) := by rfl) :
    PE3 X B (.Call (.Attribute o m apos) (e :: es) [] pos) (tMeth3 C m sp E3 ta t) := by
  obtain ⟨W, tw, hw⟩ := tk
  exact PE3.of (pe_methS he cl hm F hr hb (fun σ => passAt tw σ) ha hst hpl ht) (low_meth hw)
theorem pe3_meth0 {pl : Sem Bool} (he : PE3 X B o ta) (cl : Cls X.K C) (hm : Meth X.K C m f) (F : FnOk X.prog X.w X.K X.mg X.base (CXX X) k f fd ps (sp2 X.K sp)) (hr : Room k X.A) (hb : Binds X.K fd ps []) (tk : Tk3 X B E3)
    (ht : eval (.Call (.Attribute o m apos) [] [] pos) X.env = (do
      let ov ← eval o X.env
      standAt apos.atName
      let (f, first) ← holding [ov] (getMethod ov m pl)
      callWith pos f first (backTo pos (starEach [] X.env)) (backToKw pos (keywordEach [] X.env))) := by rfl) :
    PE3 X B (.Call (.Attribute o m apos) [] [] pos) (tMeth3 C m sp E3 ta tNil3) := by
  obtain ⟨W, tw, hw⟩ := tk
  refine PE3.of (pe_methS0 he cl hm F hr hb (fun σ => passAt tw σ) ht) fun σ H Q l => ?_
  refine (show ∀ (ta' : TE) (Q : VK), tMethS C m (sp2 X.K sp) (WE W) ta' (LowA X.K B tNil3) σ H Q → (∀ R R' : V → Hp → Prop, (∀ v H', R v H' → R' v H') → ta' σ H R → ta' σ H R') → tMethS C m (sp2 X.K sp) (WE W) ta' tNil σ H Q from fun ta' Q h mono => ?_) _ _ (low_meth hw σ H Q l) ?_
  · refine mono _ _ (fun v H' q => ?_) h
    obtain ⟨a, dx, fs, e1, e2, e3, σ3, h3, Q3, r0, t3, c⟩ := q
    exact ⟨a, dx, fs, e1, e2, e3, c _ _ _ _ (.refl r0.h) rs_nil t3⟩
  · rintro R R' hR ⟨σ3, h, Q3, r0, t, c⟩
    exact ⟨σ3, h, Q3, r0, t, fun v H' d h' g r q => hR _ _ (c v H' d h' g r q)⟩

/-! ### fields -/
def tFld3 (C : Addr) (f : Str) (ta : TE3) : TE3 := fun σ h Q => ta σ h fun x h1 => match x with
  | .ref a => ∃ fs v, h1 a = some (.ins C fs) ∧ fs.lookup f = some v ∧ Q v h1
  | _ => False
theorem pe3_fld {f : Str} (cl : Cls X.K C) (na : NoAttr X.K C f) (he : PE3 X B e ta) (hb : attributeBase e f X.env (eval e X.env) = eval e X.env := by rfl) : PE3 X B (.Attribute e f pos) (tFld3 C f ta) := by
  refine PE3.of (pe_fld he hb) fun σ H Q ⟨σ3, h, Q3, r0, t, c⟩ => ?_
  refine ⟨σ3, h, _, r0, t, fun v H1 d h1 g1 rv t1 => ?_⟩
  split at t1
  · obtain ⟨fs, v, e1, e2, q⟩ := t1
    obtain ⟨dx, fv, a1, fl⟩ := g1.rep _ _ e1
    obtain ⟨u, e3, ru⟩ := fl.lookup e2
    exact ⟨_, C, dx, fv, u, repV_ref rv, a1, cl, na, e3, (c.go g1).ok ru g1.rep q⟩
  · exact t1.elim
def sFld3 (C : Addr) (f : Str) (ta tv : TE3) : TS3 := fun D σ h => tv σ h fun y h1 => ta σ h1 fun x h2 => match x with
  | .ref a => ∃ fs, h2 a = some (.ins C fs) ∧ fs.length < 1000 ∧ D.nx σ (upd3 h2 a (.ins C (putD f y fs)))
  | _ => False
theorem ps3_fld {f : Str} {value : Expr} {tv : TE3} {pos' : Pos} (cl : Cls X.K C) (na : NoAttr X.K C f) (ha : PE3 X B o ta) (hv : PE3 X B value tv) (hs : swapsWith value (some (.Attribute o f pos')) pos.line X.env = pure false := by rfl) : PS3 X B (.Assign [.Attribute o f pos'] value pos) (sFld3 C f ta tv) := by
  refine PS3.of (ps_fld ha hv hs) fun D σ H ⟨σ3, h, D3, r0, t, c⟩ => ?_
  refine ⟨σ3, h, _, r0, t, fun y H1 dy h1 g1 ry t1 => ?_⟩
  refine ⟨σ3, h1, _, r0.go g1, t1, fun x H2 dx h2 g2 rx t2 => ?_⟩
  split at t2
  · obtain ⟨fs, e1, z, q⟩ := t2
    obtain ⟨dx, fv, a1, fl⟩ := g2.rep _ _ e1
    have w := g2.rep.wr e1
    refine ⟨_, C, dx, fv, repV_ref rx, a1, cl, na, by rw [fl.length]; exact z, ?_⟩
    have g3 : Go X.K H2 h2 (upd H2 _ (.ins C dx (putF f y fv))) (upd3 h2 _ (.ins C (putD f dy fs))) := .write g2.rep e1 (show RepO X.K _ _ (.ins C _) from ⟨dx, _, upd_same, (Flds.put (ry.mono g2.toPers) fl).mono (.upd w)⟩)
    exact c.nx _ _ _ _ ((g1.trans g2).trans g3) ((r0.go (g1.trans g2)).go g3) q
  · exact t2.elim

/-! ### C(..) -/
def tMakeS (C : Addr) (sp : Sp) (E : St → XK) (t : TA) : TE := fun σ H Q => t σ H fun vs H1 => ∀ x dx, H1 x = none → H1 dx = none → dx ≠ x → sp (.ref x :: vs) (upd (upd H1 dx (.own x)) x (.ins C dx [])) (fun v H2 => v = .non ∧ Q (.ref x) H2) (E σ)
theorem pe_makeS {t : TA} {sp : Sp} {E : St → XK} {CX : CXT} (M : Mk X.K C f) (F : FnOk X.prog X.w X.K X.mg X.base CX k f fd ps sp) (hr : Room (k + 1) X.A) (hg : Gl X x) (hm : X.mg x = some (.ref C)) (hb : Binds X.K fd ps []) (hx : ∀ σ, PassesAt CX X σ (E σ))
    (ha : PA X (e :: es) t) (hdb : (x == ("__debug__" : Str)) = false := by decide) (he : starEach (e :: es) X.env = (false, eval e X.env) :: starEach es X.env := by rfl) (hpl : (backTo pos (starEach es X.env)).any (·.1) = false := by rfl) :
    PE X (.Call (.Name x p) (e :: es) [] pos) (tMakeS C sp E t) := by
  refine ⟨fun pins s σ H Q I h => wpAny_Call_Name_kw (ld_glob I hg hm (PySem.W.callWith_K (h₀ := X.base) I.ok.mod.kin M.kp (thn (ha.run pos pins s σ H _ I h) ?_) he hpl) hdb)⟩
  rintro us s1 ⟨vs, H1, I1, r, q⟩
  refine ⟨I1.kIn, ?_⟩
  have q1 := q (s1.heap.objs.size + 1) s1.heap.objs.size (I1.hok.fresh (Nat.le_succ _)) (I1.hok.fresh (Nat.le_refl _)) (Nat.ne_of_lt (Nat.lt_succ_self _))
  have I2 := Inv.made (C := C) I1
  have r2 : Vals (V.ref (s1.heap.objs.size + 1) :: vs) (Value.ref (s1.heap.objs.size + 1) :: us) := .cons rfl r
  have hl : (Value.ref (s1.heap.objs.size + 1) :: us ++ []).length = ps.length := by
    rw [List.append_nil, ← r2.length]
    exact F.len _ _ _ _ q1
  have bb := hb _ (Value.ref (s1.heap.objs.size + 1) :: us) I2.kIn hl
  rw [List.append_nil] at bb
  refine wpAny_call (make_map (f := f) I1.kIn M.makes M.init (beq_iff_eq.mp M.fn) (codeAny_mono (F.run _ X.stack _ _ ⟨Value.ref (s1.heap.objs.size + 1) :: us, []⟩ _ _ _ (E σ) (hr.make C us []) (I2.env0.make C us []) bb r2 q1) ?_))
  intro r' s' hq
  match r', hq with
  | .error ex, hq => exact hx σ pins _ _ ex s' I2 hq
  | .ok (.ret u), hq =>
    obtain ⟨v, H', I3, rv, ev, q3⟩ := I2.after hq
    subst ev
    exact ⟨rv, V.ref (s1.heap.objs.size + 1), H', I3, rfl, q3⟩
  | .ok .next, hq => exact hq.elim
  | .ok .brk, hq => exact hq.elim
  | .ok .cont, hq => exact hq.elim
def isN (Q : Hp3 → Prop) : VK3 := fun v h => match v with
  | .non => Q h
  | _ => False
def tMake3 (C : Addr) (sp : Sp3) (E3 : St3 → XK3) (t : TA3) : TE3 := fun σ h Q => t σ h fun ds h1 => ∀ x, h1 x = none → sp (.ref x :: ds) (upd3 h1 x (.ins C [])) (isN (Q (.ref x))) (E3 σ)
theorem pe3_make (M : Mk X.K C f) (F : FnOk X.prog X.w X.K X.mg X.base (CXX X) k f fd ps (sp2 X.K sp)) (hr : Room (k + 1) X.A) (hg : Gl X x) (hm : X.mg x = some (.ref C)) (hb : Binds X.K fd ps []) (tk : Tk3 X B E3)
    (ha : PA3 X B (e :: es) t) (hdb : (x == ("__debug__" : Str)) = false := by decide) (he : starEach (e :: es) X.env = (false, eval e X.env) :: starEach es X.env := by rfl) (hpl : (backTo pos (starEach es X.env)).any (·.1) = false := by rfl) :
    PE3 X B (.Call (.Name x p) (e :: es) [] pos) (tMake3 C sp E3 t) := by
  obtain ⟨W, tw, hw⟩ := tk
  refine PE3.of (pe_makeS M F hr hg hm hb (fun σ => passAt tw σ) ha hdb he hpl) fun σ H Q ⟨σ3, h, Q3, r0, t, c⟩ => ?_
  refine ⟨σ3, h, _, r0, t, fun vs H1 ds h1 g1 rs t1 => ?_⟩
  intro x dx nx nd ne
  have nx1 : upd H1 dx (.own x) x = none := by rw [upd_ne (Ne.symm ne)]; exact nx
  have g2 : Go X.K H1 h1 (upd H1 dx (.own x)) h1 := .new g1.rep nd
  have g3 : Go X.K (upd H1 dx (.own x)) h1 (upd (upd H1 dx (.own x)) x (.ins C dx [])) (upd3 h1 x (.ins C [])) := .putNew g2.rep nx1 (show RepO X.K _ _ (.ins C _) from ⟨dx, [], upd_same, trivial⟩)
  have g4 := (g1.trans g2).trans g3
  refine ⟨.ref x :: ds, _, _, E3 σ3, rs_cons rv_ref (rs.mono (g2.trans g3).toPers), g3.rep, t1 x (g1.rep.free nx), fun v H2 d h2 g5 rv q => ?_, fun C H' h' g' ex => hw σ H' σ3 h' C ((r0.go g4).go g') ex⟩
  unfold isN at q
  split at q
  · exact ⟨repV_non rv, c _ _ _ _ (g4.trans g5) rv_ref q⟩
  · exact q.elim

/-! ### raise -/
def tRaise3 (C : Addr) (E3 : St3 → XK3) : TS3 := fun _ σ h => E3 σ C h
theorem ps3_raise (hc : X.calm = true) (tk : Tk3 X B E3) (he : PMk X e (fun _ H Q => Q (.ref C) none H)) : PS3 X B (.Raise (some e) none pos) (tRaise3 C E3) := by
  obtain ⟨W, tw, hw⟩ := tk
  exact PS3.of (ps_raise hc tw he) fun D σ H ⟨σ3, h, D3, r0, t, c⟩ => hw σ H σ3 h C r0 t

/-! ### the rule of a def -/
def start3 (N : List Str) (ds : List D) : St3 := ds.map some ++ List.replicate (N.length - ds.length) none
theorem repS_repl {K : Fg} {H : Hp} : ∀ n : Nat, RepS K H (List.replicate n none) (List.replicate n none)
  | 0 => trivial
  | n + 1 => ⟨fun d e => (nomatch e), repS_repl n⟩
theorem repS_start {K : Fg} {H : Hp} {n : Nat} : ∀ {ds : List D} {vs : List V}, Reps K H vs ds → RepS K H (vs.map some ++ List.replicate n none) (ds.map some ++ List.replicate n none)
  | [], _, r => by rw [reps_nil r]; exact repS_repl n
  | d :: ds, _, r => by
    obtain ⟨x, xs, rfl, r1, r2⟩ := reps_cons r
    exact ⟨fun d' e => ⟨x, rfl, by cases e; exact r1⟩, repS_start r2⟩
/-- a body's end: what was laid on the way may be forgotten -/
def endX (E : XK3) : XK3 := fun C h' => ∃ h2, Sub3 h2 h' ∧ E C h2
def endsOf (Q : VK3) : Ends3 := { nx := fun _ h' => ∃ h2, Sub3 h2 h' ∧ Q .non h2, rt := fun d h' => ∃ h2, Sub3 h2 h' ∧ Q d h2 }
end
section
variable {P : Program} {w : World} {K : Fg} {mg : Str → Option Value} {base : Heap} {x qual : Str} {params : Arguments} {body : List Stmt} {scope : Scope} {f : Addr} {fd : FuncData} {N ps : List Str} {k : Nat} {sp : Sp3}
abbrev cx3 (P : Program) (w : World) (K : Fg) (mg : Str → Option Value) (base : Heap) (N : List Str) (qual : Str) (scope : Scope) (f : Addr) (cdv : Value) (A : Around) (outer : List Env) (s : Shared) (H : Hp) (E : XK) : Cx := cxOf (L2.CX P w) P w K mg base N qual scope f cdv A outer s H E
theorem ok3 (F : FunD K x qual params body scope [] [] f fd) (S : FnScope N ps scope) (len : ∀ ds h Q E, sp ds h Q E → ds.length = ps.length)
    (hbody : ∀ (cdv : Value) (A : Around) (outer : List Env) (s : Shared) (H : Hp) (E : XK) (ds : List D) (h : Hp3) (Q : VK3) (E3 : XK3), Room k (A.deeper (envOfC qual scope s.heap.objs.size f cdv)) → sp ds h Q E3 → Tk3 (cx3 P w K mg base N qual scope f cdv A outer s H E) (H, h) (fun _ => endX E3) →
      ∃ t, PSs3 (cx3 P w K mg base N qual scope f cdv A outer s H E) (H, h) body t ∧ t (endsOf Q) (start3 N ds) h) : FnOk P w K mg base (L2.CX P w) (k + 1) f fd ps (sp2 K sp) := by
  refine F.ok S (fun vs H Q E h => ?_) fun cdv A outer s H vs Q E hr h => ?_
  · obtain ⟨ds, h3, Q3, E3, rs, _, hs, _⟩ := h
    rw [rs.length]
    exact len _ _ _ _ hs
  · obtain ⟨ds, h3, Q3, E3, rs, rh, hs, c, ce⟩ := h
    have tk : Tk3 (cx3 P w K mg base N qual scope f cdv A outer s H E) (H, h3) (fun _ => endX E3) := ⟨_, takes_of rfl rfl rfl rfl, fun σ H' σ3 h' C r ⟨h2, sub, ex⟩ => ce C H' h2 (r.b.trans (.less r.b.rep sub)) ex⟩
    obtain ⟨t, d, q⟩ := hbody cdv A outer s H E ds h3 Q3 E3 hr hs tk
    refine ⟨_, d, start3 N ds, h3, _, ⟨?_, .refl rh⟩, q, ⟨fun σ' H' σ3' h' g r n => ?_, fun v H' d' h' g r n => ?_, fun σ' H' σ3' h' g r n => n, fun σ' H' σ3' h' g r n => n⟩⟩
    · have e : L2.start N vs = vs.map some ++ List.replicate (N.length - ds.length) none := by unfold L2.start; rw [rs.length]
      rw [e]
      exact repS_start rs
    · obtain ⟨h2, sub, n⟩ := n
      exact c _ _ _ _ (g.trans (.less g.rep sub)) rv_non n
    · obtain ⟨h2, sub, n⟩ := n
      exact c _ _ _ _ (g.trans (.less g.rep sub)) r n
theorem passes3 {X : Cx} {K : Value → Shared → Prop} {E₁ : Value → Shared → Prop} (hx : X.xe = fun e s' => wpAny (model X.prog X.w) X.A (leaving X.env e) (fun _ s'' => K e s'') E₁ s') : PassesOwn (model X.prog X.w) X.A X.env X.xe := passes_of hx
end
end L3

end F_L3f

section F_L3g
/-! L3g: three comparisons in a chain; texts and lists times a number; len(set(..)) of texts. -/
namespace L3
open PySem PySem.Spec PyProof.Rows L2
section
variable {X : Cx} {B : B0} {a b c d e o : Expr} {es : List Expr} {ta tb tc td te to : TE3} {t : TA3} {pos : Pos}

/-- what comes of an expression, with its way -/
def EvP (K : Fg) (H : Hp) (h : Hp3) (Q3 : VK3) : VK := fun v H' => ∃ d h', Go K H h H' h' ∧ RepV K H' v d ∧ Q3 d h'
theorem ctEv {K : Fg} {H : Hp} {h : Hp3} {Q3 : VK3} : CtV K H h Q3 (EvP K H h Q3) := fun v H' d h' g r q => ⟨d, h', g, r, q⟩
theorem PE3.ev (he : PE3 X B e te) {pins : List (Addr × Obj)} {s : Shared} {σ : St} {H : Hp} {σ3 : St3} {h : Hp3} {Q3 : VK3} (I : Inv X pins σ H s) (r0 : RS X.K B H σ σ3 h) (t : te σ3 h Q3) : wpAny (model X.prog X.w) X.A (eval e X.env) (EP X pins σ (EvP X.K H h Q3)) X.xe s :=
  PE.run he pins s σ H _ I ⟨σ3, h, Q3, r0, t, ctEv⟩
theorem Op3.ev {f : Value → Value → Sem Value} {r3 : R3} (ho : Op3 X f r3) {pins : List (Addr × Obj)} {s : Shared} {σ : St} {H : Hp} {h : Hp3} {x y : V} {v u : Value} {dx dy : D} {Q3 : VK3} (I : Inv X pins σ H s) (rv : RelV x v) (ru : RelV y u) (rx : RepV X.K H x dx) (ry : RepV X.K H y dy) (rh : RepH X.K H h) (t : r3 dx dy h Q3) :
    wpAny (model X.prog X.w) X.A (f v u) (EP X pins σ (EvP X.K H h Q3)) X.xe s := by
  obtain ⟨r, o1, l1⟩ := ho
  exact o1 pins s σ H x y v u _ I rv ru (l1 x y H dx dy h Q3 _ rx ry rh t ctEv)

/-! ### a op b op c op d -/
def tChain4 (r r' r'' : R3) (ta tb tc td : TE3) : TE3 := fun σ h Q => ta σ h fun x h1 => tb σ h1 fun y h2 => r x y h2 fun z h3 => match z with
  | .bl true => tc σ h3 fun w h4 => r' y w h4 fun z h5 => match z with
    | .bl true => td σ h5 fun v h6 => r'' w v h6 Q
    | .bl false => Q (.bl false) h5
    | _ => False
  | .bl false => Q (.bl false) h3
  | _ => False
theorem pe3_chain4 {op op' op'' : CmpOp} {r r' r'' : R3} (ho : Op3 X (compareOp op) r) (ho' : Op3 X (compareOp op') r') (ho'' : Op3 X (compareOp op'') r'') (ha : PE3 X B a ta) (hb : PE3 X B b tb) (hc : PE3 X B c tc) (hd : PE3 X B d td)
    (hm : lastMarks [op, op', op''] [b, c, d] = false := by with_unfolding_all rfl) : PE3 X B (.Compare a [op, op', op''] [b, c, d] pos) (tChain4 r r' r'' ta tb tc td) := by
  refine ⟨fun pins s σ H Q I ⟨σ3, h, Q3, r0, t, k⟩ => Compare_chain (thn (ha.ev I r0 t) ?_) hm⟩
  rintro v s1 ⟨x, H1, I1, rv, dx, h1, g1, rx, t1⟩
  refine chain_link (thn (hb.ev I1 (r0.go g1) t1) ?_)
  rintro u s2 ⟨y, H2, I2, ru, dy, h2, g2, ry, t2⟩
  refine thn (ho.ev I2 rv ru (rx.mono g2.toPers) ry g2.rep t2) ?_
  rintro z s3 ⟨vz, H3, I3, rz, dz, h3, g3, rz3, t3⟩
  have g123 := (g1.trans g2).trans g3
  split at t3
  · have e1 := repV_bl rz3
    subst e1
    cases rz
    refine wpAny_truthy_bool (ite_tt ?_)
    refine chain_link (thn (hc.ev I3 (r0.go g123) t3) ?_)
    rintro u4 s4 ⟨w, H4, I4, rw4, dw, h4, g4, rw, t4⟩
    refine thn (ho'.ev I4 ru rw4 (ry.mono (g3.trans g4).toPers) rw g4.rep t4) ?_
    rintro z5 s5 ⟨vz5, H5, I5, rz5, dz5, h5, g5, rz53, t5⟩
    have g45 := (g123.trans g4).trans g5
    split at t5
    · have e2 := repV_bl rz53
      subst e2
      cases rz5
      refine wpAny_truthy_bool (ite_tt ?_)
      refine chain_last (thn (hd.ev I5 (r0.go g45) t5) ?_)
      rintro u6 s6 ⟨x6, H6, I6, r6, d6, h6, g6, rd6, t6⟩
      refine thn (ho''.ev I6 rw4 r6 (rw.mono (g5.trans g6).toPers) rd6 g6.rep t6) ?_
      rintro u7 s7 ⟨x7, H7, I7, r7, d7, h7, g7, rd7, t7⟩
      exact ⟨x7, H7, I7, r7, k _ _ _ _ ((g45.trans g6).trans g7) rd7 t7⟩
    · have e2 := repV_bl rz53
      subst e2
      cases rz5
      exact wpAny_truthy_bool (ite_ff ⟨.bl false, H5, I5, rfl, (k.go g45).ok rv_bl g5.rep t5⟩)
    · exact t5.elim
  · have e1 := repV_bl rz3
    subst e1
    cases rz
    exact wpAny_truthy_bool (ite_ff ⟨.bl false, H3, I3, rfl, (k.go g123).ok rv_bl g3.rep t3⟩)
  · exact t3.elim

/-! ### * -/
def strMul (x : Str) (n : Int) : Str := ⟨(List.replicate n.toNat x.cps.toList).flatten.toArray⟩
theorem fold_cat (x : Array Nat) : ∀ (n : Nat) (acc : Array Nat), (List.replicate n x).foldl (· ++ ·) acc = acc ++ (List.replicate n x.toList).flatten.toArray
  | 0, acc => by simp
  | n + 1, acc => by
    rw [List.replicate_succ, List.foldl_cons, fold_cat x n, List.replicate_succ, List.flatten_cons]
    apply Array.ext'
    simp
theorem op_mulS : OpR X (binaryOp .Mult) (fun x y H Q => ∃ z n, x = .str z ∧ y = .int n ∧ -1000000 ≤ n ∧ n ≤ 1000000 ∧ z.length * n.toNat ≤ 16777216 ∧ Q (.str (strMul z n)) H) := by
  intro pins s σ H x y v u Q I rx ry h
  obtain ⟨z, n, rfl, rfl, n1, n2, n3, q⟩ := h
  obtain ⟨t, rfl⟩ := rx
  obtain ⟨t', rfl⟩ := ry
  refine PySem.P.mul_str ?_ ?_ ?_ ?_
  · have h1 : ¬ n < -(2 ^ 63 : Int) := by omega
    have h2 : ¬ n ≥ 2 ^ 63 := by omega
    rw [decide_eq_false h1, decide_eq_false h2]; rfl
  · intro hn _ hgt
    have p1 : (z.length : Int) * n ≤ 16777216 := by
      have e : ((z.length * n.toNat : Nat) : Int) ≤ 16777216 := by omega
      rw [Int.natCast_mul, Int.toNat_of_nonneg (by omega)] at e
      exact e
    have p2 : (z.length : Int) ≤ 16777216 := by
      have : (z.length : Int) * 1 ≤ (z.length : Int) * n := Int.mul_le_mul_of_nonneg_left (by omega) (by omega)
      omega
    have p3 : (9223372036 : Int) ≤ (2 ^ 63 - 1) / n := by
      rw [Int.le_ediv_iff_mul_le (by omega)]
      omega
    omega
  · intro _ _
    show decide (z.length * n.toNat > sizeLine) = false
    exact decide_eq_false (by rw [sizeLine_eq]; omega)
  · by_cases h1 : n < 1
    · rw [if_pos h1]
      have e0 : n.toNat = 0 := by omega
      refine ⟨by decide, .str Str.empty, H, I.tok _, ⟨_, rfl⟩, ?_⟩
      have e : strMul z n = Str.empty := by unfold strMul; rw [e0]; rfl
      rw [e] at q
      exact q
    · rw [if_neg h1]
      by_cases h2 : (n == 1 || z.length == 0) = true
      · rw [if_pos h2]
        refine ⟨.str z, H, I, ⟨_, rfl⟩, ?_⟩
        have e : strMul z n = z := by
          unfold strMul
          rcases (Bool.or_eq_true _ _).mp h2 with h3 | h3
          · have e1 : n = 1 := by simpa using h3
            subst e1
            cases z with
            | mk cps => show (⟨([cps.toList].flatten).toArray⟩ : Str) = ⟨cps⟩; simp
          · have e1 : z.length = 0 := by simpa using h3
            have e2 : z.cps = #[] := Array.eq_empty_of_size_eq_zero e1
            cases z with
            | mk cps =>
              simp only at e2
              subst e2
              simp
        rw [e] at q
        exact q
      · rw [if_neg h2]
        have e : (⟨(List.replicate n.toNat z.cps).foldl (· ++ ·) #[]⟩ : Str) = strMul z n := by
          unfold strMul
          rw [fold_cat]
          simp
        rw [e]
        refine ⟨?_, .str (strMul z n), H, I.tok _, ⟨_, rfl⟩, q⟩
        have hl : (strMul z n).length = n.toNat * z.length := by
          show ((List.replicate n.toNat z.cps.toList).flatten.toArray).size = _
          simp [List.length_flatten, Str.length]
        rw [hl, Nat.mul_comm, sizeLine_eq]
        omega
def mul3 : R3 := fun x y h Q => match x, y with
  | .int i, .int j => CMulW i j ∧ Q (.int (i * j)) h
  | .str z, .int n => -1000000 ≤ n ∧ n ≤ 1000000 ∧ z.length * n.toNat ≤ 16777216 ∧ Q (.str (strMul z n)) h
  | .ref p, .int n => ∃ ds, h p = some (.lst ds) ∧ -1000000 ≤ n ∧ n ≤ 1000000 ∧ ds.length * n.toNat ≤ 16777216 ∧ ∀ r, h r = none → Q (.ref r) (upd3 h r (.lst (List.replicate n.toNat ds).flatten))
  | _, _ => False
theorem Reps.rep {K : Fg} {H : Hp} {ds : List D} {vs : List V} (r : Reps K H vs ds) : ∀ n : Nat, Reps K H (List.replicate n vs).flatten (List.replicate n ds).flatten
  | 0 => rs_nil
  | n + 1 => by
    rw [List.replicate_succ, List.replicate_succ, List.flatten_cons, List.flatten_cons]
    exact r.append (Reps.rep r n)
theorem op3_mul : Op3 X (binaryOp .Mult) mul3 := by
  refine ⟨_, op_mulW.or (op_mulS.or op_rep), fun x y H dx dy h Q3 Q rx ry rh t c => ?_⟩
  unfold mul3 at t
  split at t
  · exact .inl ⟨_, _, repV_int rx, repV_int ry, t.1, c.ok rv_int rh t.2⟩
  · exact .inr (.inl ⟨_, _, repV_str rx, repV_int ry, t.1, t.2.1, t.2.2.1, c.ok rv_str rh t.2.2.2⟩)
  · obtain ⟨ds, e, n1, n2, n3, q⟩ := t
    obtain ⟨vs, a1, rs⟩ := rh _ _ e
    exact .inr (.inr ⟨_, _, vs, repV_ref rx, repV_int ry, a1, by omega, by omega, by rw [rs.length, sizeLine_eq]; exact n3, fun p np => c.new rh np (rs.rep _) (q p (rh.free np))⟩)
  · exact t.elim
end
end L3

end F_L3g

section F_L3h
/-! L3h: len(set(..)) of texts, any number of them. -/
namespace L3
open PySem PySem.Spec PyProof.Rows L2
/-- the unlike ones, in the order of their first coming -/
def stepS (l : List Str) (v : Str) : List Str := if l.any (· == v) then l else l ++ [v]
def metS (xs : List Str) : List Str := xs.foldl stepS []
theorem metS_snoc (xs : List Str) (v : Str) : metS (xs ++ [v]) = stepS (metS xs) v := by unfold metS; rw [List.foldl_append]; rfl
theorem stepS_any (l : List Str) (v k : Str) : (stepS l v).any (· == k) = (l.any (· == k) || decide (k = v)) := by
  unfold stepS
  by_cases h : l.any (· == v) = true
  · rw [if_pos h]
    by_cases e : k = v
    · subst e; rw [h]; rfl
    · rw [decide_eq_false e, Bool.or_false]
  · rw [if_neg h, List.any_append]
    by_cases e : k = v
    · subst e; simp
    · have e2 : (v == k) = false := beq_eq_false_iff_ne.mpr fun z => e z.symm
      simp [e2, e]
theorem stepS_len (l : List Str) (v : Str) : (stepS l v).length = if l.any (· == v) then l.length else l.length + 1 := by
  unfold stepS; split <;> simp
theorem metS_le (xs : List Str) : (metS xs).length ≤ xs.length := by
  unfold metS
  have k : ∀ (ys l : List Str), (ys.foldl stepS l).length ≤ l.length + ys.length := by
    intro ys
    induction ys with
    | nil => intro l; exact Nat.le_refl _
    | cons y r ih =>
      intro l
      have h1 := ih (stepS l y)
      have h2 := stepS_len l y
      rw [List.foldl_cons, List.length_cons]
      split at h2 <;> omega
  have := k xs []
  simpa using this
theorem metS_nodup {xs : List Str} (h : xs.Nodup) : metS xs = xs := by
  unfold metS
  have k : ∀ (ys l : List Str), (l ++ ys).Nodup → ys.foldl stepS l = l ++ ys := by
    intro ys
    induction ys with
    | nil => intro l _; simp
    | cons y r ih =>
      intro l hn
      have hy : l.any (· == y) = false := by
        cases hb : l.any (· == y) with
        | false => rfl
        | true =>
          obtain ⟨z, hz, e⟩ := List.any_eq_true.mp hb
          have e2 : z = y := eq_of_beq e
          subst e2
          rw [List.nodup_append] at hn
          exact absurd rfl (hn.2.2 z hz z List.mem_cons_self)
      rw [List.foldl_cons]
      have e : stepS l y = l ++ [y] := by unfold stepS; rw [hy]; rfl
      rw [e, ih _ (by simpa using hn)]
      simp
  simpa using k xs [] (by simpa using h)
section
variable {prog : Program} {w : World} {A : Around} {R : Result → Shared → Prop} {I : Addr} {fp wr : List Addr} {G : Array GenState → Array GenState → Prop} {n : Nat} {P : Nat → Value → Prop} {Sx : Nat → Shared → Prop}
abbrev SetS (prog : Program) (w : World) (h : Heap) (S : Addr) (l : List Str) : Prop := h.SetOf (PySem.strKind prog w) S (fun k => l.any (· == k)) l.length
theorem SetS.keep {h h' : Heap} {S : Addr} {l : List Str} (x : SetS prog w h S l) (k : ∀ o, h.get? S = some o → h'.get? S = some o) : SetS prog w h' S l := by
  obtain ⟨o, es, ep, t, e, r⟩ := x
  exact ⟨o, es, ep, t, k o e, r⟩
theorem fill_loop (W : WalksS prog w A.in1 I fp wr G n P Sx) (S : Addr) (hS : S ∉ fp) (xs : List Str) (hl : xs.length = n) (hb : n + 1 < scanBound) (val : ∀ i v, P i v → ∃ t, v = .str (xs.getD i Str.empty) t) :
    ∀ (m i : Nat) (s : Shared), n - i = m → i ≤ n → Sx i s → SetS prog w s.heap S (metS (xs.take i)) →
      (∀ s', Moved (S :: wr) G s s' → SetS prog w s'.heap S (metS xs) → R (.ok (.ret .none)) s') → codeAny (model prog w) A (.builtin "set.update.loop" ⟨[.ref S, .ref I], []⟩) R s := by
  have nw : S ∉ wr := fun z => hS (W.sub _ z)
  have up : ∀ b ∈ wr, b ∈ S :: wr := fun b z => List.mem_cons_of_mem _ z
  intro m
  induction m with
  | zero =>
    intro i s e1 e2 st ss fin
    have e3 : i = n := by omega
    subst e3
    refine codeAny_builtin PyProof.Rows.F.entry_set_update_loop ?_
    rw [Around.under_plainId PyProof.Rows.F.plain_set_update_loop _]
    refine wpAny_bind (W.done s _ _ st fun s' mv => wpAny_pure (fin s' (mv.mono up) ?_))
    have q := SetS.keep (h' := s'.heap) ss fun o e => mv.heap S o nw e
    rw [← hl, List.take_length] at q
    exact q
  | succ m ih =>
    intro i s e1 e2 st ss fin
    have lt : i < n := by omega
    refine codeAny_builtin PyProof.Rows.F.entry_set_update_loop ?_
    rw [Around.under_plainId PyProof.Rows.F.plain_set_update_loop _]
    refine wpAny_bind (W.item i s _ _ lt st fun v s' pv st' mv => ?_)
    obtain ⟨t, rfl⟩ := val i v pv
    have ss' := SetS.keep (h' := s'.heap) ss fun o e => mv.heap S o nw e
    have room : (metS (xs.take i)).length + 1 < scanBound := by
      have h1 := metS_le (xs.take i)
      rw [List.length_take] at h1
      omega
    refine wpAny_bind (wpAny_holding ?_)
    unfold setAdd
    refine wpAny_holding (wpAny_bind ((PySem.strKind prog w).pyHash (k := xs.getD i Str.empty) (strKind_is _ _ _ _) ?_))
    refine wpAny_setAddHashed_of (knd := PySem.strKind prog w) (s := { s' with toks := s'.toks + 1 }) (strKind_is _ _ _ _) rfl ss' room fun h' sb ss2 => ?_
    have ex : xs.take (i + 1) = xs.take i ++ [xs.getD i Str.empty] := by
      have hi : i < xs.length := by omega
      rw [List.take_add_one, List.getElem?_eq_getElem hi, List.getD_eq_getElem?_getD, List.getElem?_eq_getElem hi]
      rfl
    have ss3 : SetS prog w h' S (metS (xs.take (i + 1))) := by
      rw [ex, metS_snoc]
      exact SetOf_congr ss2 (fun k => by rw [stepS_any]) (by rw [stepS_len])
    refine wpAny_pure ⟨plainId_quiet PyProof.Rows.F.plain_set_update_loop _, ih (i + 1) _ (by omega) lt (W.frame _ s' _ _ st' (Nat.le_succ _) fun b z o e => ?_) ss3 fun s2 mv2 ss4 => fin s2 (Moved.trans W.gtrans ((mv.mono up).then_heap (Nat.le_succ _) fun b o z e => ?_) mv2) ss4⟩
    · rw [sb.2 b (fun y : b = S => hS (by rw [← y]; exact z))]; exact e
    · rw [sb.2 b (fun y : b = S => z (by rw [y]; exact List.mem_cons_self))]; exact e
end
section
variable {prog : Program} {w : World} {A : Around} {E : Value → Shared → Prop} {s : Shared}
structure SmallS (xs : List Str) : Prop where
  lt : xs.length + 1 < scanBound
set_option maxHeartbeats 8000000 in
theorem set_of_seq {T : String} {l : Addr} {its : Array Value} {xs : List Str} {Q : Value → Shared → Prop} (hh : A.handled = none) (hT : T = "list" ∨ T = "tuple") (hl : ∃ o, s.heap.get? l = some o ∧ o.cls = .type T ∧ ∃ n, o.data = .seq its n) (hi : PyProof.Rows.StrsAre its.toList xs) (hn : SmallS xs)
    (fin : ∀ (h' : Heap) (tk : Nat), SetS prog w h' s.heap.objs.size (metS xs) → (∀ b o, b < s.heap.objs.size → s.heap.get? b = some o → h'.get? b = some o) → Q (.ref s.heap.objs.size) { s with heap := h', toks := tk }) :
    wpAny (model prog w) A (call (.type "set") [.ref l]) Q E s := by
  obtain ⟨cc, tl, hmro⟩ := PySem.F.called_set.mro
  have hmade := PySem.F.called_set.made
  have hsub := PySem.F.called_set.sub
  have f1 := PySem.F.called_set.notType
  have f2 := PySem.F.called_set.canCreate
  have f3 := PySem.F.typeCall_set_1 (.ref l)
  refine wpAny_call (codeAny_of_tree (show wpAny _ _ (callAny (.type "set") _) _ _ _ from wpAny_pure ⟨Code.quiet_builtin _ (by decide +kernel), codeAny_builtin PySem.F.entry_type_call ?_⟩))
  rw [Around.under_plain (weight_type_call_type "set" [.ref l] []) rfl]
  repeat (any_goals (first | assumption | wp_step))
  refine codeAny_mono (code_set_new_1 (.ref l) (E := E) (Q₁ := fun ob sn => ∃ led : Bool, ob = .ref s.heap.objs.size ∧ sn = { s with heap := s.heap.push { cls := .type "set", dict := none, data := .set #[] 0 (.fresh 0 0 led) } }) fun led => ⟨led, rfl, rfl⟩) fun r s1 hr => ?_
  match r, hr with
  | .error _, hr => exact hr
  | .ok .next, hr => exact hr.elim
  | .ok .brk, hr => exact hr.elim
  | .ok .cont, hr => exact hr.elim
  | .ok (.ret ob), hr =>
    obtain ⟨led, rfl, rfl⟩ := hr
    have at0 : (s.heap.push { cls := .type "set", dict := none, data := .set #[] 0 (.fresh 0 0 led) }).get? s.heap.objs.size = some { cls := .type "set", dict := none, data := .set #[] 0 (.fresh 0 0 led) } := Heap.get?_push_size _ rfl
    have ty0 : Shared.TypeIs { s with heap := (s.heap.push { cls := .type "set", dict := none, data := .set #[] 0 (.fresh 0 0 led) }) } (.ref s.heap.objs.size) "set" := ⟨_, at0, rfl⟩
    have g1 := PySem.F.called_set.init.lookup
    have g2 := PySem.F.called_set.init.bind (.ref s.heap.objs.size)
    repeat (any_goals (first | assumption | wp_step))
    refine codeAny_mono (codeAny_call_builtin (R := wants (fun r s2 => r = .none ∧ ∃ h' tk, s2 = { s with heap := h', toks := tk } ∧ SetS prog w h' s.heap.objs.size (metS xs) ∧ (∀ b o, b < s.heap.objs.size → s.heap.get? b = some o → h'.get? b = some o)) E)
      PySem.F.called_set.init.plain PySem.F.entry_set_init (check_set_init_1 ty0 ?_)) fun r2 s2 hr2 => ?_
    · obtain ⟨ol, hol, hcl, nl, hdl⟩ := hl
      obtain ⟨ocls, odict, odata, oslots⟩ := ol
      simp only at hcl hdl
      subst hcl hdl
      have hol1 : (s.heap.push { cls := .type "set", dict := none, data := .set #[] 0 (.fresh 0 0 led) }).get? l = some { cls := .type T, dict := odict, data := .seq its nl, slots := oslots } := Heap.get?_push_of_some _ hol
      have hls : isSubtype (.type T) (.type "set") = pure false := by rcases hT with rfl | rfl; exact PySem.F.sub_list_set; exact PySem.F.sub_tuple_set
      have hlf : isSubtype (.type T) (.type "frozenset") = pure false := by rcases hT with rfl | rfl; exact PySem.F.sub_list_frozenset; exact PySem.F.sub_tuple_frozenset
      have hne : (Value.type T == Value.type "dict") = false := by rcases hT with rfl | rfl <;> decide
      unfold Builtin.«set.__init__» noKeywords Builtin.Frozenset.updateFrom
      generalize hPI : pyIter = PI
      wp_walk
      subst hPI
      rcases hT with rfl | rfl
      · have hl1 : (s.heap.push { cls := .type "set", dict := none, data := .set #[] 0 (.fresh 0 0 led) }).IsList l its := ⟨_, hol1, rfl, nl, rfl⟩
        refine wpAny_pyIter_list hl1 (wpAny_bind (wpAny_runValue ?_))
        have lS : l < s.heap.objs.size := Heap.lt_size hol
        have h3 : A.in1.in1.in1.handled = none := by simp [hh]
        have lI : l ≠ (s.heap.push { cls := .type "set", dict := none, data := .set #[] 0 (.fresh 0 0 led) }).objs.size := by
          rw [Heap.size_push]; exact Nat.ne_of_lt (Nat.lt_succ_of_lt lS)
        have sf : s.heap.objs.size ∉ [(s.heap.push { cls := .type "set", dict := none, data := .set #[] 0 (.fresh 0 0 led) }).objs.size, l] := by
          rw [Heap.size_push]
          simp only [List.mem_cons, List.not_mem_nil, or_false, not_or]
          exact ⟨Nat.ne_of_lt (Nat.lt_succ_self _), Nat.ne_of_gt lS⟩
        have val : ∀ (i : Nat) (v : Value), its[i]? = some v → ∃ t, v = .str (xs.getD i Str.empty) t := fun i v hv => SS.strs_at hi i v (by rw [Array.getElem?_toList]; exact hv)
        have sz : xs.length = its.size := by rw [← StrsAre.len_eq hi, Array.length_toList]
        refine fill_loop ((Walks.list h3 _ l lI its).toS) s.heap.objs.size sf xs sz (by rw [← sz]; exact hn.lt) val (its.size - 0) 0 _ (by omega) (Nat.zero_le _) ⟨⟨_, Heap.get?_push_size _ rfl, rfl, rfl⟩, (hl1.push _)⟩ ?_ ?_
        · have at1 : ((s.heap.push { cls := .type "set", dict := none, data := .set #[] 0 (.fresh 0 0 led) }).push { cls := .type "list_iterator", data := .fields #[.ref l, .int 0 0] }).get? s.heap.objs.size = some { cls := .type "set", dict := none, data := .set #[] 0 (.fresh 0 0 led) } := Heap.get?_push_of_some _ at0
          exact PyProof.Rows.SetOf_congr ((PyProof.Rows.setObjOf_fresh (knd := PySem.strKind prog w) led).setOf at1 (by unfold scanBound; omega)) (fun _ => rfl) rfl
        · intro s3 mv ss
          obtain ⟨h', g', d', tk', os'⟩ := s3
          obtain rfl : g' = s.gens := mv.gens
          obtain rfl : d' = s.drawn := mv.drawn
          obtain rfl : os' = s.os := mv.os
          show wpAny _ _ _ _ _ _
          refine wpAny_pure (show wpAny _ _ (ret Value.none) _ _ _ from wpAny_pure ⟨rfl, h', tk', rfl, ss, fun b o hb e => ?_⟩)
          have n1 : b ≠ s.heap.objs.size := Nat.ne_of_lt hb
          have n2 : b ≠ (s.heap.push { cls := .type "set", dict := none, data := .set #[] 0 (.fresh 0 0 led) }).objs.size := by
            rw [Heap.size_push]; exact Nat.ne_of_lt (Nat.lt_succ_of_lt hb)
          exact mv.heap b o (by simp only [List.mem_cons, List.not_mem_nil, or_false, not_or]; exact ⟨n1, n2⟩) (Heap.get?_push_of_some _ (Heap.get?_push_of_some _ e))
      · have hl1 : (s.heap.push { cls := .type "set", dict := none, data := .set #[] 0 (.fresh 0 0 led) }).IsTuple l its := ⟨_, hol1, rfl, nl, rfl⟩
        refine wpAny_pyIter_tuple hl1 (wpAny_bind (wpAny_runValue ?_))
        have lS : l < s.heap.objs.size := Heap.lt_size hol
        have h3 : A.in1.in1.in1.handled = none := by simp [hh]
        have lI : l ≠ (s.heap.push { cls := .type "set", dict := none, data := .set #[] 0 (.fresh 0 0 led) }).objs.size := by
          rw [Heap.size_push]; exact Nat.ne_of_lt (Nat.lt_succ_of_lt lS)
        have sf : s.heap.objs.size ∉ [(s.heap.push { cls := .type "set", dict := none, data := .set #[] 0 (.fresh 0 0 led) }).objs.size, l] := by
          rw [Heap.size_push]
          simp only [List.mem_cons, List.not_mem_nil, or_false, not_or]
          exact ⟨Nat.ne_of_lt (Nat.lt_succ_self _), Nat.ne_of_gt lS⟩
        have val : ∀ (i : Nat) (v : Value), its[i]? = some v → ∃ t, v = .str (xs.getD i Str.empty) t := fun i v hv => SS.strs_at hi i v (by rw [Array.getElem?_toList]; exact hv)
        have sz : xs.length = its.size := by rw [← StrsAre.len_eq hi, Array.length_toList]
        refine fill_loop ((Walks.tuple h3 _ l lI its).toS) s.heap.objs.size sf xs sz (by rw [← sz]; exact hn.lt) val (its.size - 0) 0 _ (by omega) (Nat.zero_le _) ⟨⟨_, Heap.get?_push_size _ rfl, rfl, rfl⟩, (hl1.push _)⟩ ?_ ?_
        · have at1 : ((s.heap.push { cls := .type "set", dict := none, data := .set #[] 0 (.fresh 0 0 led) }).push { cls := .type "tuple_iterator", data := .fields #[.ref l, .int 0 0] }).get? s.heap.objs.size = some { cls := .type "set", dict := none, data := .set #[] 0 (.fresh 0 0 led) } := Heap.get?_push_of_some _ at0
          exact PyProof.Rows.SetOf_congr ((PyProof.Rows.setObjOf_fresh (knd := PySem.strKind prog w) led).setOf at1 (by unfold scanBound; omega)) (fun _ => rfl) rfl
        · intro s3 mv ss
          obtain ⟨h', g', d', tk', os'⟩ := s3
          obtain rfl : g' = s.gens := mv.gens
          obtain rfl : d' = s.drawn := mv.drawn
          obtain rfl : os' = s.os := mv.os
          show wpAny _ _ _ _ _ _
          refine wpAny_pure (show wpAny _ _ (ret Value.none) _ _ _ from wpAny_pure ⟨rfl, h', tk', rfl, ss, fun b o hb e => ?_⟩)
          have n1 : b ≠ s.heap.objs.size := Nat.ne_of_lt hb
          have n2 : b ≠ (s.heap.push { cls := .type "set", dict := none, data := .set #[] 0 (.fresh 0 0 led) }).objs.size := by
            rw [Heap.size_push]; exact Nat.ne_of_lt (Nat.lt_succ_of_lt hb)
          exact mv.heap b o (by simp only [List.mem_cons, List.not_mem_nil, or_false, not_or]; exact ⟨n1, n2⟩) (Heap.get?_push_of_some _ (Heap.get?_push_of_some _ e))
    · match r2, hr2 with
      | .error _, hr2 => exact hr2
      | .ok .next, hr2 => exact hr2.elim
      | .ok .brk, hr2 => exact hr2.elim
      | .ok .cont, hr2 => exact hr2.elim
      | .ok (.ret r), hr2 =>
        obtain ⟨rfl, h', tk, rfl, ss, hk⟩ := hr2
        repeat (any_goals (first | assumption | wp_step))
        exact fin _ _ ss hk
end
section
variable {X : Cx} {B : B0} {a : Expr} {ta : TE3}
/-- len(set(x)) -/
def tLenSet3 (ta : TE3) : TE3 := fun σ h Q => ta σ h fun x h1 => ∃ xs : List Str, seqOf h1 x = some (xs.map D.str) ∧ xs.length ≤ 1000 ∧ Q (.int (metS xs).length) h1
theorem pe3_lenSet {p p2 q pos : Pos} (hc : X.calm = true) (hg : Gl X "len") (hm : X.mg "len" = none) (hg2 : Gl X "set") (hm2 : X.mg "set" = none) (ha : PE3 X B a ta)
    (na : starEach [a] X.env = (false, eval a X.env) :: starEach [] X.env := by rfl) : PE3 X B (.Call (.Name "len" p) [.Call (.Name "set" p2) [a] [] q] [] pos) (tLenSet3 ta) := by
  refine ⟨fun pins s σ H Q I ⟨σ3, h, Q3, r0, t, c⟩ => ?_⟩
  refine Call_ (ld_blt I hg hm boot_len (PyProof.Rows.callWith_builtin1 (PyProof.Rows.args_cons ?_ rfl) rfl rfl))
  refine Call_ (ld_blt I hg2 hm2 (u := .type "set") (by decide +kernel) (PyProof.Rows.callWith_type1 (PyProof.Rows.args_cons (thn (ha.ev I r0 t) ?_) na) na rfl))
  rintro v s1 ⟨x, H1, I1, rv, d, h1, g1, rx, xs, e1, hz, q⟩
  refine PyProof.Rows.args_nil ?_
  obtain ⟨l, us, rfl, hq, rs⟩ := seq_of g1.rep rx e1
  have e2 := of_reps_strs rs
  subst e2
  cases rv
  have sb : SmallS xs := ⟨by unfold scanBound; omega⟩
  have done : ∀ (h' : Heap) (tk : Nat), SetS X.prog X.w h' s1.heap.objs.size (metS xs) → (∀ b o, b < s1.heap.objs.size → s1.heap.get? b = some o → h'.get? b = some o) →
      wpAny (model X.prog X.w) X.A (spliced (backTo pos (starEach [] X.env))) (fun vs s₂ => wpAny (model X.prog X.w) X.A (call (.builtin "len") (Value.ref s1.heap.objs.size :: vs)) (EP X pins σ Q) X.xe s₂) X.xe { s1 with heap := h', toks := tk } := fun h' tk hS hk => by
    refine PyProof.Rows.args_nil ?_
    have ml := metS_le xs
    obtain ⟨o, es, ep, t, ho, hex, hd, _, _, _, hf, hn⟩ := hS
    have I2 : Inv X pins σ H1 { s1 with heap := h', toks := tk } := I1.kept fun b o e => hk b o (Heap.lt_size e) e
    exact call_len_set ho hex hd hf (by rw [hn] <;> omega) ⟨.int (metS xs).length, H1, I2.tok _, ⟨_, by rw [hn]⟩, (c.go g1).ok rv_int g1.rep q⟩
  rcases hq with hq | hq
  · obtain ⟨its, r, pl, _⟩ := I1.list hq
    exact set_of_seq (I1.ok.hd hc) (.inl rfl) pl.isList (by simpa using strsAre_of r) sb done
  · obtain ⟨its, r, pl, _⟩ := I1.tuple hq
    exact set_of_seq (I1.ok.hd hc) (.inr rfl) pl (by simpa using strsAre_of r) sb done
end
end L3

end F_L3h

section F_L3i
/-! L3i: readings taken apart: one equation a construct. -/
namespace L3
open PySem PySem.Spec PyProof.Rows L2
section
variable {σ : St3} {h : Hp3} {D0 : Ends3} {t u : TS3} {te ta tb tc td : TE3} {c c2 : TT3} {g : TG3} {gs : TGs3} {ar : TA3} {i j n : Nat} {d d2 : D} {ds es : List D} {r r' r'' : R3} {rc : RC3} {rm : RM3} {tl tl2 : TO3} {ti : TI3} {l : TL3} {rl : RL3} {sp : Sp3} {E : St3 → XK3} {C a p : Addr} {m f : Str}
  {N : St3 → Hp3 → Prop} {Q : VK3} {QB : Bool → Hp3 → Prop} {QA : List D → Hp3 → Prop} {R : List D → (Hp3 → Prop) → Hp3 → Prop} {QO : Option Int → Hp3 → Prop}
/-! statements -/
theorem e_next : tNext3 D0 σ h = D0.nx σ h := rfl
theorem e_seq : tSeq3 t u D0 σ h = t { D0 with nx := u D0 } σ h := rfl
theorem e_brk : tBreak3 D0 σ h = D0.bk σ h := rfl
theorem e_cont : tCont3 D0 σ h = D0.ct σ h := rfl
theorem e_drop : tDrop3 te D0 σ h = te σ h fun _ h1 => D0.nx σ h1 := rfl
theorem e_ret : tRet3 te D0 σ h = te σ h D0.rt := rfl
theorem e_retN : tRetN3 D0 σ h = D0.rt .non h := rfl
theorem e_if : tIfS3 c t u D0 σ h = c σ h fun b h1 => if b = true then t D0 σ h1 else u D0 σ h1 := rfl
theorem e_asg : tAsg3 te g D0 σ h = te σ h fun x h1 => g x σ h1 D0.nx := rfl
theorem e_par : tPar3 i j ar D0 σ h = ar σ h fun ds h1 => match ds with
  | [d, e] => D0.nx ((σ.set i (some d)).set j (some e)) h1
  | _ => False := rfl
theorem e_for : tFor3 ti g t D0 σ h = ti σ h fun ds still h1 => for3 still g t D0 ds σ h1 := rfl
theorem e_raise : tRaise3 C E D0 σ h = E σ C h := rfl
theorem e_sfld : sFld3 C f ta te D0 σ h = te σ h fun y h1 => ta σ h1 fun x h2 => match x with
  | .ref a => ∃ fs, h2 a = some (.ins C fs) ∧ fs.length < 1000 ∧ D0.nx σ (upd3 h2 a (.ins C (putD f y fs)))
  | _ => False := rfl
/-! targets -/
theorem e_name : gName3 i d σ h N = N (σ.set i (some d)) h := rfl
theorem e_gnil : gNil3 [] σ h N = N σ h := rfl
theorem e_gcons : gCons3 g gs (d :: ds) σ h N = g d σ h fun σ' h' => gs ds σ' h' N := rfl
theorem e_gtup : gTup3 n gs (.tup ds) σ h N = (ds.length = n ∧ gs ds σ h N) := rfl
theorem e_gsub : gSub3 ta tb d σ h N = ta σ h fun o h1 => tb σ h1 fun i h2 => setL3 o i d h2 fun h3 => N σ h3 := rfl
theorem e_setL {k : Int} {QH : Hp3 → Prop} : setL3 (.ref p) (.int k) d h QH = ∃ xs j, h p = some (.lst xs) ∧ ixN xs.length k = some j ∧ QH (upd3 h p (.lst (xs.set j d))) := rfl
/-! expressions -/
theorem e_var : tVar3 i σ h Q = match σ[i]? with
  | some (some d) => Q d h
  | _ => False := rfl
theorem e_c : tC3 d σ h Q = Q d h := rfl
theorem e_op : tOp3 r ta tb σ h Q = ta σ h fun x h1 => tb σ h1 fun y h2 => r x y h2 Q := rfl
theorem e_neg : neg3 ta σ h Q = ta σ h fun x h1 => match x with
  | .int i => Q (.int (-i)) h1
  | _ => False := rfl
theorem e_andV : tAndV3 ta tb σ h Q = ta σ h fun x h1 => match x with
  | .bl true => tb σ h1 Q
  | .bl false => Q (.bl false) h1
  | _ => False := rfl
theorem e_orV : tOrV3 ta tb σ h Q = ta σ h fun x h1 => match x with
  | .bl true => Q (.bl true) h1
  | .bl false => tb σ h1 Q
  | _ => False := rfl
theorem e_notV : tNotV3 ta σ h Q = ta σ h fun x h1 => match x with
  | .bl b => Q (.bl (!b)) h1
  | _ => False := rfl
theorem e_ifE : tIf3 c ta tb σ h Q = c σ h fun b h1 => if b = true then ta σ h1 Q else tb σ h1 Q := rfl
theorem e_chain : tChain3 r r' ta tb tc σ h Q = ta σ h fun x h1 => tb σ h1 fun y h2 => r x y h2 fun z h3 => match z with
  | .bl true => tc σ h3 fun w h4 => r' y w h4 Q
  | .bl false => Q (.bl false) h3
  | _ => False := rfl
theorem e_chain4 : tChain4 r r' r'' ta tb tc td σ h Q = ta σ h fun x h1 => tb σ h1 fun y h2 => r x y h2 fun z h3 => match z with
  | .bl true => tc σ h3 fun w h4 => r' y w h4 fun z h5 => match z with
    | .bl true => td σ h5 fun v h6 => r'' w v h6 Q
    | .bl false => Q (.bl false) h5
    | _ => False
  | .bl false => Q (.bl false) h3
  | _ => False := rfl
theorem e_tup : tTup3 ar σ h Q = ar σ h fun ds h1 => ds.length ≤ sizeLine ∧ Q (.tup ds) h1 := rfl
theorem e_lst : tLst3 ar σ h Q = ar σ h fun ds h1 => ds.length ≤ sizeLine ∧ ∀ p, h1 p = none → Q (.ref p) (upd3 h1 p (.lst ds)) := rfl
theorem e_ixD : tIxD3 ar tb σ h Q = ar σ h fun ds h1 => ds.length ≤ sizeLine ∧ tb σ h1 fun y h2 => match y with
  | .int i => ∃ v, atI ds i = some v ∧ Q v h2
  | _ => False := rfl
theorem e_inD {neg : Bool} : tInD3 neg ta ar σ h Q = ta σ h fun x h1 => ar σ h1 fun ds h2 => ds.length ≤ sizeLine ∧ flatD x = true ∧ ds.all flatD = true ∧ Q (.bl (neg ^^ inD x ds)) h2 := rfl
theorem e_sl : tSl3 te tl tl2 σ h Q = te σ h fun x h1 => tl σ h1 fun l h2 => tl2 σ h2 fun u h3 => sl3 x l u h3 Q := rfl
theorem e_noPart : tNoPart3 σ h QO = QO none h := rfl
theorem e_part : tPart3 te σ h QO = te σ h fun x h1 => match x with
  | .int i => QO (some i) h1
  | _ => False := rfl
theorem e_cb : tCB3 rc ar σ h Q = ar σ h fun ds h1 => rc ds h1 Q := rfl
theorem e_cl : tCL3 rl l σ h Q = l σ h fun ds h1 => rl ds h1 Q := rfl
theorem e_joinL : tJoinL3 ta l σ h Q = ta σ h fun x h1 => match x with
  | .str a => l σ h1 fun ds h2 => joinL a ds h2 Q
  | _ => False := rfl
theorem e_new : tNew3 l σ h Q = l σ h fun ds h1 => ∀ p, h1 p = none → Q (.ref p) (upd3 h1 p (.lst ds)) := rfl
theorem e_lc {vs : List Nat} : tLc3 ti g c te vs σ h QA = ti σ h fun ds still h1 => lc3 still g c te (wipe3 σ vs) ds [] h1 QA := rfl
theorem e_bm {T : String} : tBM3 T rm ta ar σ h Q = ta σ h fun x h1 => tyD T h1 x ∧ ar σ h1 fun ds h2 => rm x ds h2 Q := rfl
theorem e_bm0 {T : String} : tBM03 T rm ta σ h Q = ta σ h fun x h1 => tyD T h1 x ∧ rm x [] h1 Q := rfl
theorem e_call : tCall3 sp E ar σ h Q = ar σ h fun ds h1 => sp ds h1 Q (E σ) := rfl
theorem e_meth : tMeth3 C m sp E ta ar σ h Q = ta σ h fun x h1 => match x with
  | .ref a => ∃ fs, h1 a = some (.ins C fs) ∧ fs.lookup m = none ∧ ar σ h1 fun ds h2 => sp (.ref a :: ds) h2 Q (E σ)
  | _ => False := rfl
theorem e_fld : tFld3 C f ta σ h Q = ta σ h fun x h1 => match x with
  | .ref a => ∃ fs v, h1 a = some (.ins C fs) ∧ fs.lookup f = some v ∧ Q v h1
  | _ => False := rfl
theorem e_make : tMake3 C sp E ar σ h Q = ar σ h fun ds h1 => ∀ x, h1 x = none → sp (.ref x :: ds) (upd3 h1 x (.ins C [])) (isN (Q (.ref x))) (E σ) := rfl
theorem e_isN {QH : Hp3 → Prop} : isN QH .non h = QH h := rfl
theorem e_lenSet : tLenSet3 ta σ h Q = ta σ h fun x h1 => ∃ xs : List Str, seqOf h1 x = some (xs.map D.str) ∧ xs.length ≤ 1000 ∧ Q (.int (metS xs).length) h1 := rfl
/-! arguments -/
theorem e_nil : tNil3 σ h QA = QA [] h := rfl
theorem e_cons : tCons3 ta ar σ h QA = ta σ h fun x h1 => ar σ h1 fun xs h2 => QA (x :: xs) h2 := rfl
/-! tests -/
theorem e_b : tB3 te σ h QB = te σ h fun d h1 => match d with
  | .bl b => QB b h1
  | _ => False := rfl
theorem e_and : tAnd3 c c2 σ h QB = c σ h fun b h1 => if b = true then c2 σ h1 QB else QB false h1 := rfl
theorem e_or : tOr3 c c2 σ h QB = c σ h fun b h1 => if b = true then QB true h1 else c2 σ h1 QB := rfl
theorem e_not : tNot3 c σ h QB = c σ h fun b h1 => QB (!b) h1 := rfl
theorem e_yes : tYes3 σ h QB = QB true h := rfl
/-! iterables -/
theorem e_seqI : iSeq3 te σ h R = te σ h fun x h1 => match x with
  | .tup ds => R ds (fun _ => True) h1
  | .rol ds => R ds (fun _ => True) h1
  | .str z => R (z.cps.toList.map sgn) (fun _ => True) h1
  | .ref p => ∃ ds, h1 p = some (.lst ds) ∧ R ds (fun h => h p = some (.lst ds)) h1
  | _ => False := rfl
theorem e_rng1 : iRng13 ar σ h R = ar σ h fun ds h1 => match ds with
  | [.int j] => -(2 ^ 62) ≤ j ∧ j < 2 ^ 62 ∧ R (rng 0 j.toNat) (fun _ => True) h1
  | _ => False := rfl
theorem e_rng2 : iRng23 ar σ h R = ar σ h fun ds h1 => match ds with
  | [.int i, .int j] => (-(2 ^ 62) ≤ i ∧ i < 2 ^ 62 ∧ -(2 ^ 62) ≤ j ∧ j < 2 ^ 62) ∧ R (rng i (j - i).toNat) (fun _ => True) h1
  | _ => False := rfl
/-! operators at values -/
section
variable {x y : Int} {s z : Str} {b : Bool}
theorem e_addI : add3 (.int x) (.int y) h Q = Q (.int (x + y)) h := rfl
theorem e_addS : add3 (.str s) (.str z) h Q = (s.length + z.length ≤ sizeLine ∧ Q (.str (s ++ z)) h) := rfl
theorem e_addT : add3 (.tup ds) (.tup es) h Q = (ds ≠ [] ∧ ds.length + es.length ≤ sizeLine ∧ Q (.tup (ds ++ es)) h) := rfl
theorem e_addR {q : Addr} : add3 (.ref p) (.ref q) h Q = ∃ xs ys, h p = some (.lst xs) ∧ h q = some (.lst ys) ∧ xs.length + ys.length ≤ sizeLine ∧ ∀ r, h r = none → Q (.ref r) (upd3 h r (.lst (xs ++ ys))) := rfl
theorem e_sub : sub3 (.int x) (.int y) h Q = Q (.int (x - y)) h := propext ⟨And.right, fun q => ⟨trivial, q⟩⟩
theorem e_div : div3 (.int x) (.int y) h Q = (CDivW x y ∧ Q (.int (x / y)) h) := rfl
theorem e_mod : mod3 (.int x) (.int y) h Q = (0 < y ∧ Q (.int (x % y)) h) := rfl
theorem e_pow : pow3 (.int x) (.int y) h Q = (CPow x y ∧ Q (.int (x ^ y.toNat)) h) := rfl
theorem e_mulI : mul3 (.int x) (.int y) h Q = (CMulW x y ∧ Q (.int (x * y)) h) := rfl
theorem e_mulS : mul3 (.str s) (.int y) h Q = (-1000000 ≤ y ∧ y ≤ 1000000 ∧ s.length * y.toNat ≤ 16777216 ∧ Q (.str (strMul s y)) h) := rfl
theorem e_ltI : lt3 (.int x) (.int y) h Q = Q (.bl (decide (x < y))) h := rfl
theorem e_leI : le3 (.int x) (.int y) h Q = Q (.bl (decide (x ≤ y))) h := rfl
theorem e_gtI : gt3 (.int x) (.int y) h Q = Q (.bl (decide (y < x))) h := rfl
theorem e_geI : ge3 (.int x) (.int y) h Q = Q (.bl (decide (y ≤ x))) h := rfl
theorem e_leS : le3 (.str s) (.str z) h Q = Q (.bl (!decide (z.cps.toList < s.cps.toList))) h := rfl
theorem e_eqI : eq3 (.int x) (.int y) h Q = Q (.bl (decide (x = y))) h := rfl
theorem e_eqS : eq3 (.str s) (.str z) h Q = Q (.bl (decide (s = z))) h := rfl
theorem e_neI : ne3 (.int x) (.int y) h Q = Q (.bl (!decide (x = y))) h := rfl
theorem e_neS : ne3 (.str s) (.str z) h Q = Q (.bl (!decide (s = z))) h := rfl
theorem e_inS {neg : Bool} : in3 neg (.str s) (.str z) h Q = ∃ c, s = ⟨#[c]⟩ ∧ Q (.bl (neg ^^ decide (c ∈ z.cps.toList))) h := rfl
theorem e_isN3 {neg : Bool} : isD neg d .non h Q = Q (.bl (neg ^^ isNonD d)) h := rfl
theorem e_ixT : ix3 (.tup ds) (.int x) h Q = (∃ v, atI ds x = some v ∧ Q v h) := propext ⟨fun ⟨_, v, e, k⟩ => ⟨v, by cases e; exact k⟩, fun ⟨v, k⟩ => ⟨ds, v, rfl, k⟩⟩
theorem e_ixRo : ix3 (.rol ds) (.int x) h Q = (∃ v, atI ds x = some v ∧ Q v h) := propext ⟨fun ⟨_, v, e, k⟩ => ⟨v, by cases e; exact k⟩, fun ⟨v, k⟩ => ⟨ds, v, rfl, k⟩⟩
theorem seq_ref : (seqOf h (.ref p) = some ds) = (h p = some (.lst ds)) := by
  refine propext ⟨fun e => ?_, fun e => ?_⟩
  · simp only [seqOf] at e
    split at e
    · rename_i q
      cases e
      exact q
    · cases e
  · simp only [seqOf]
    rw [e]
theorem lst_ref : (lstOf h (.ref p) = some ds) = (h p = some (.lst ds)) := by
  refine propext ⟨fun e => ?_, fun e => ?_⟩
  · simp only [lstOf] at e
    split at e
    · rename_i q
      cases e
      exact q
    · cases e
  · simp only [lstOf]
    rw [e]
theorem e_ixR : ix3 (.ref p) (.int x) h Q = (∃ ds, h p = some (.lst ds) ∧ ∃ v, atI ds x = some v ∧ Q v h) :=
  propext ⟨fun ⟨es, v, e, k⟩ => ⟨es, seq_ref.mp e, v, k⟩, fun ⟨ds, e, v, k⟩ => ⟨ds, v, seq_ref.mpr e, k⟩⟩
theorem e_ixS : ix3 (.str z) (.int x) h Q = ∃ c, z.length ≤ sizeLine ∧ atI z.cps.toList x = some c ∧ Q (.str ⟨#[c]⟩) h := rfl
theorem e_lenS : len3 [.str z] h Q = (z.length ≤ sizeLine ∧ Q (.int z.length) h) := rfl
theorem e_lenT : len3 [.tup ds] h Q = Q (.int ds.length) h := propext ⟨fun ⟨_, e, k⟩ => by cases e; exact k, fun k => ⟨_, rfl, k⟩⟩
theorem e_lenRo : len3 [.rol ds] h Q = Q (.int ds.length) h := propext ⟨fun ⟨_, e, k⟩ => by cases e; exact k, fun k => ⟨_, rfl, k⟩⟩
theorem e_lenR : len3 [.ref p] h Q = (∃ ds, h p = some (.lst ds) ∧ Q (.int ds.length) h) := propext ⟨fun ⟨xs, e, k⟩ => ⟨xs, seq_ref.mp e, k⟩, fun ⟨xs, e, k⟩ => ⟨xs, seq_ref.mpr e, k⟩⟩
theorem e_intI : int3 [.int x] h Q = Q (.int x) h := rfl
theorem e_intB : int3 [.bl b] h Q = Q (.int (if b then 1 else 0)) h := rfl
theorem e_intS : int3 [.str z] h Q = ∃ n, PySem.intText? z = some n ∧ z.length ≤ 640 ∧ Q (.int n) h := rfl
theorem e_strI : str3 [.int x] h Q = (x.natAbs.log2 < 1920 ∧ Q (.str (toString x)) h) := rfl
theorem e_tupR : tup3 [.ref p] h Q = (∃ ds, h p = some (.lst ds) ∧ Q (.tup ds) h) := propext ⟨fun ⟨xs, e, k⟩ => ⟨xs, seq_ref.mp e, k⟩, fun ⟨xs, e, k⟩ => ⟨xs, seq_ref.mpr e, k⟩⟩
theorem e_minI : min3 [.int x, .int y] h Q = Q (.int (min x y)) h := rfl
theorem e_maxI : max3 [.int x, .int y] h Q = Q (.int (max x y)) h := rfl
theorem e_ord {k : Nat} : ord3 [.str ⟨#[k]⟩] h Q = Q (.int (k : Nat)) h := by
  refine propext ⟨fun ⟨k', e, q⟩ => ?_, fun q => ⟨k, rfl, q⟩⟩
  have e2 : k = k' := by simpa using congrArg (fun z : Str => z.cps.toList) e
  rw [e2]
  exact q
theorem e_isi {T : String} {m : String} {b : Bool} (h1 : tyName h d = some m) (h2 : isiB m T = some b) : isi3 [d, .ty T] h Q = Q (.bl b) h := by
  refine propext ⟨fun ⟨m', r, e1, e2, q⟩ => ?_, fun q => ⟨m, b, h1, h2, q⟩⟩
  rw [h1] at e1
  cases e1
  rw [h2] at e2
  cases e2
  exact q
theorem e_app : append3 (.ref p) [d] h Q = ∃ xs, h p = some (.lst xs) ∧ xs.length < sizeLine ∧ Q .non (upd3 h p (.lst (xs ++ [d]))) := rfl
theorem e_rev : reverse3 (.ref p) [] h Q = ∃ xs, h p = some (.lst xs) ∧ Q .non (upd3 h p (.lst xs.reverse)) := rfl
theorem e_join : join3 (.str s) [d] h Q = ∃ ys : List Str, seqOf h d = some (ys.map D.str) ∧ (ys.map (·.length)).sum + ys.length * s.length ≤ 16777216 ∧ Q (.str (Str.join s ys)) h := rfl
theorem e_find3 : find3 (.str s) [.str z, .int x] h Q = Q (.int (Txt.find3 s z x)) h := rfl
end
/-! helpers -/
theorem sub_refl : Sub3 h h := fun _ _ e => e
theorem upd3_comm {o o' : O3} {q : Addr} (n : q ≠ p) : upd3 (upd3 h p o) q o' = upd3 (upd3 h q o') p o := by
  funext b
  unfold upd3
  by_cases e1 : b = q
  · subst e1
    rw [if_pos rfl, if_neg n, if_pos rfl]
  · rw [if_neg e1]
    by_cases e2 : b = p
    · rw [if_pos e2, if_pos e2]
    · rw [if_neg e2, if_neg e2, if_neg e1]
theorem upd3_self {o : O3} (e : h p = some o) : upd3 h p o = h := by
  funext b
  unfold upd3
  split
  · rename_i q
    rw [q, e]
  · rfl
theorem sub_upd {o : O3} (e : h p = none) : Sub3 h (upd3 h p o) := fun a o' q => by
  unfold upd3
  split
  · rename_i z
    rw [z, e] at q
    cases q
  · exact q
theorem Sub3.upd {h1 h2 : Hp3} {o : O3} (a : Sub3 h1 h2) : Sub3 (upd3 h1 p o) (upd3 h2 p o) := fun b o' e => by
  unfold upd3 at e ⊢
  split
  · rename_i z
    rw [if_pos z] at e
    exact e
  · rename_i z
    rw [if_neg z] at e
    exact a _ _ e
theorem ne_of_none {o : O3} (e : h a = some o) (n : h p = none) : a ≠ p := fun z => by rw [z, n] at e; cases e
theorem ends_rt {v : D} (q : Q v h) : (endsOf Q).rt v h := ⟨h, sub_refl, q⟩
theorem ends_nx (q : Q .non h) : (endsOf Q).nx σ h := ⟨h, sub_refl, q⟩
theorem ends_rt2 {v : D} {h2 : Hp3} (s : Sub3 h2 h) (q : Q v h2) : (endsOf Q).rt v h := ⟨h2, s, q⟩
theorem ends_nx2 {h2 : Hp3} (s : Sub3 h2 h) (q : Q .non h2) : (endsOf Q).nx σ h := ⟨h2, s, q⟩
theorem endX_of {E : XK3} {h2 : Hp3} (s : Sub3 h2 h) (q : E C h2) : endX E C h := ⟨h2, s, q⟩
theorem endX_at {E : XK3} (q : E C h) : endX E C h := ⟨h, sub_refl, q⟩
/-- a comprehension whose values are plain -/
theorem lc3_map {still : Hp3 → Prop} {g : TG3} {te : TE3} {σ : St3} (F : D → D) (hs : still h) : ∀ (ds acc : List D), acc.length + ds.length ≤ sizeLine → (∀ d ∈ ds, ∀ Q : VK3, Q (F d) h → g d σ h fun σ1 h1 => te σ1 h1 Q) → QA (acc ++ ds.map F) h → lc3 still g tYes3 te σ ds acc h QA
  | [], acc, _, _, q => ⟨hs, by simpa using q⟩
  | d :: ds, acc, hl, hf, q => ⟨hs, by
      refine hf d List.mem_cons_self (Q := fun y h3 => acc.length < sizeLine ∧ lc3 still g tYes3 te σ ds (acc ++ [y]) h3 QA) ⟨?_, ?_⟩
      · simp only [List.length_cons] at hl
        omega
      · refine lc3_map F hs ds _ (by simp only [List.length_append, List.length_cons, List.length_nil] at hl ⊢; omega) (fun d' m => hf d' (List.mem_cons_of_mem _ m)) ?_
        simpa using q⟩
theorem atI_nat {α : Type} {xs : List α} {n : Nat} {v : α} (e : xs[n]? = some v) : atI xs (n : Int) = some v := by
  have hn := (List.getElem?_eq_some_iff.mp e).1
  unfold atI ixN
  rw [if_pos (by omega), if_pos (by omega)]
  simpa using e
theorem atI0 {α : Type} {x : α} {xs : List α} : atI (x :: xs) 0 = some x := atI_nat (n := 0) rfl
theorem atI1 {α : Type} {x y : α} {xs : List α} : atI (x :: y :: xs) 1 = some y := atI_nat (n := 1) rfl
theorem atI2 {α : Type} {x y z : α} {xs : List α} : atI (x :: y :: z :: xs) 2 = some z := atI_nat (n := 2) rfl
theorem atI3 {α : Type} {x y z v : α} {xs : List α} : atI (x :: y :: z :: v :: xs) 3 = some v := atI_nat (n := 3) rfl
end
theorem ofS_inj {a b : String} : (Str.ofString a = Str.ofString b) = (a = b) := by
  refine propext ⟨fun e => ?_, fun e => by rw [e]⟩
  rw [Str.ofString_eq_toList, Str.ofString_eq_toList] at e
  have e2 : a.toList.map Char.toNat = b.toList.map Char.toNat := by simpa using congrArg (fun z : Str => z.cps.toList) e
  have inj : ∀ x y : Char, x.toNat = y.toNat → x = y := fun x y h => by
    apply Char.ext
    apply UInt32.toNat_inj.mp
    exact h
  have go : ∀ xs ys : List Char, xs.map Char.toNat = ys.map Char.toNat → xs = ys := by
    intro xs
    induction xs with
    | nil => intro ys e; cases ys with
      | nil => rfl
      | cons _ _ => cases e
    | cons x xs ih => intro ys e; cases ys with
      | nil => cases e
      | cons y ys =>
        simp only [List.map_cons, List.cons.injEq] at e
        rw [inj _ _ e.1, ih ys e.2]
  exact String.toList_inj.mp (go _ _ e2)
theorem i_non_int {h : Hp3} {Q : VK3} : isi3 [.non, .ty "int"] h Q = Q (.bl false) h := e_isi rfl rfl
theorem i_non_bool {h : Hp3} {Q : VK3} : isi3 [.non, .ty "bool"] h Q = Q (.bl false) h := e_isi rfl rfl
theorem i_non_str {h : Hp3} {Q : VK3} : isi3 [.non, .ty "str"] h Q = Q (.bl false) h := e_isi rfl rfl
theorem i_non_tuple {h : Hp3} {Q : VK3} : isi3 [.non, .ty "tuple"] h Q = Q (.bl false) h := e_isi rfl rfl
theorem i_non_list {h : Hp3} {Q : VK3} : isi3 [.non, .ty "list"] h Q = Q (.bl false) h := e_isi rfl rfl
theorem i_bl_int {h : Hp3} {Q : VK3} {b : Bool} : isi3 [(.bl b), .ty "int"] h Q = Q (.bl true) h := e_isi rfl rfl
theorem i_bl_bool {h : Hp3} {Q : VK3} {b : Bool} : isi3 [(.bl b), .ty "bool"] h Q = Q (.bl true) h := e_isi rfl rfl
theorem i_bl_str {h : Hp3} {Q : VK3} {b : Bool} : isi3 [(.bl b), .ty "str"] h Q = Q (.bl false) h := e_isi rfl rfl
theorem i_bl_tuple {h : Hp3} {Q : VK3} {b : Bool} : isi3 [(.bl b), .ty "tuple"] h Q = Q (.bl false) h := e_isi rfl rfl
theorem i_bl_list {h : Hp3} {Q : VK3} {b : Bool} : isi3 [(.bl b), .ty "list"] h Q = Q (.bl false) h := e_isi rfl rfl
theorem i_int_int {h : Hp3} {Q : VK3} {x : Int} : isi3 [(.int x), .ty "int"] h Q = Q (.bl true) h := e_isi rfl rfl
theorem i_int_bool {h : Hp3} {Q : VK3} {x : Int} : isi3 [(.int x), .ty "bool"] h Q = Q (.bl false) h := e_isi rfl rfl
theorem i_int_str {h : Hp3} {Q : VK3} {x : Int} : isi3 [(.int x), .ty "str"] h Q = Q (.bl false) h := e_isi rfl rfl
theorem i_int_tuple {h : Hp3} {Q : VK3} {x : Int} : isi3 [(.int x), .ty "tuple"] h Q = Q (.bl false) h := e_isi rfl rfl
theorem i_int_list {h : Hp3} {Q : VK3} {x : Int} : isi3 [(.int x), .ty "list"] h Q = Q (.bl false) h := e_isi rfl rfl
theorem i_str_int {h : Hp3} {Q : VK3} {s : Str} : isi3 [(.str s), .ty "int"] h Q = Q (.bl false) h := e_isi rfl rfl
theorem i_str_bool {h : Hp3} {Q : VK3} {s : Str} : isi3 [(.str s), .ty "bool"] h Q = Q (.bl false) h := e_isi rfl rfl
theorem i_str_str {h : Hp3} {Q : VK3} {s : Str} : isi3 [(.str s), .ty "str"] h Q = Q (.bl true) h := e_isi rfl rfl
theorem i_str_tuple {h : Hp3} {Q : VK3} {s : Str} : isi3 [(.str s), .ty "tuple"] h Q = Q (.bl false) h := e_isi rfl rfl
theorem i_str_list {h : Hp3} {Q : VK3} {s : Str} : isi3 [(.str s), .ty "list"] h Q = Q (.bl false) h := e_isi rfl rfl
theorem i_tup_int {h : Hp3} {Q : VK3} {ds : List D} : isi3 [(.tup ds), .ty "int"] h Q = Q (.bl false) h := e_isi rfl rfl
theorem i_tup_bool {h : Hp3} {Q : VK3} {ds : List D} : isi3 [(.tup ds), .ty "bool"] h Q = Q (.bl false) h := e_isi rfl rfl
theorem i_tup_str {h : Hp3} {Q : VK3} {ds : List D} : isi3 [(.tup ds), .ty "str"] h Q = Q (.bl false) h := e_isi rfl rfl
theorem i_tup_tuple {h : Hp3} {Q : VK3} {ds : List D} : isi3 [(.tup ds), .ty "tuple"] h Q = Q (.bl true) h := e_isi rfl rfl
theorem i_tup_list {h : Hp3} {Q : VK3} {ds : List D} : isi3 [(.tup ds), .ty "list"] h Q = Q (.bl false) h := e_isi rfl rfl
theorem i_rol_int {h : Hp3} {Q : VK3} {ds : List D} : isi3 [(.rol ds), .ty "int"] h Q = Q (.bl false) h := e_isi rfl rfl
theorem i_rol_bool {h : Hp3} {Q : VK3} {ds : List D} : isi3 [(.rol ds), .ty "bool"] h Q = Q (.bl false) h := e_isi rfl rfl
theorem i_rol_str {h : Hp3} {Q : VK3} {ds : List D} : isi3 [(.rol ds), .ty "str"] h Q = Q (.bl false) h := e_isi rfl rfl
theorem i_rol_tuple {h : Hp3} {Q : VK3} {ds : List D} : isi3 [(.rol ds), .ty "tuple"] h Q = Q (.bl false) h := e_isi rfl rfl
theorem i_rol_list {h : Hp3} {Q : VK3} {ds : List D} : isi3 [(.rol ds), .ty "list"] h Q = Q (.bl true) h := e_isi rfl rfl
theorem lkW {x y z : D} : List.lookup (Str.ofString "words") [(Str.ofString "words", x), (Str.ofString "at", y), (Str.ofString "deep", z)] = some x := rfl
theorem ptW {x y z v : D} : putD (Str.ofString "words") v [(Str.ofString "words", x), (Str.ofString "at", y), (Str.ofString "deep", z)] = [(Str.ofString "words", v), (Str.ofString "at", y), (Str.ofString "deep", z)] := rfl
theorem lkA {x y z : D} : List.lookup (Str.ofString "at") [(Str.ofString "words", x), (Str.ofString "at", y), (Str.ofString "deep", z)] = some y := rfl
theorem ptA {x y z v : D} : putD (Str.ofString "at") v [(Str.ofString "words", x), (Str.ofString "at", y), (Str.ofString "deep", z)] = [(Str.ofString "words", x), (Str.ofString "at", v), (Str.ofString "deep", z)] := rfl
theorem lkD {x y z : D} : List.lookup (Str.ofString "deep") [(Str.ofString "words", x), (Str.ofString "at", y), (Str.ofString "deep", z)] = some z := rfl
theorem ptD {x y z v : D} : putD (Str.ofString "deep") v [(Str.ofString "words", x), (Str.ofString "at", y), (Str.ofString "deep", z)] = [(Str.ofString "words", x), (Str.ofString "at", y), (Str.ofString "deep", v)] := rfl
theorem lm_next_is {x y z : D} : List.lookup (Str.ofString "next_is") [(Str.ofString "words", x), (Str.ofString "at", y), (Str.ofString "deep", z)] = none := rfl
theorem lm_due {x y z : D} : List.lookup (Str.ofString "due") [(Str.ofString "words", x), (Str.ofString "at", y), (Str.ofString "deep", z)] = none := rfl
theorem lm_taken {x y z : D} : List.lookup (Str.ofString "taken") [(Str.ofString "words", x), (Str.ofString "at", y), (Str.ofString "deep", z)] = none := rfl
theorem lm_opened {x y z : D} : List.lookup (Str.ofString "opened") [(Str.ofString "words", x), (Str.ofString "at", y), (Str.ofString "deep", z)] = none := rfl
theorem lm_closed {x y z : D} : List.lookup (Str.ofString "closed") [(Str.ofString "words", x), (Str.ofString "at", y), (Str.ofString "deep", z)] = none := rfl
theorem lm_ended {x y z : D} : List.lookup (Str.ofString "ended") [(Str.ofString "words", x), (Str.ofString "at", y), (Str.ofString "deep", z)] = none := rfl
theorem lm_goes_on {x y z : D} : List.lookup (Str.ofString "goes_on") [(Str.ofString "words", x), (Str.ofString "at", y), (Str.ofString "deep", z)] = none := rfl
theorem lm_names {x y z : D} : List.lookup (Str.ofString "names") [(Str.ofString "words", x), (Str.ofString "at", y), (Str.ofString "deep", z)] = none := rfl
theorem lm_kind_pairs {x y z : D} : List.lookup (Str.ofString "kind_pairs") [(Str.ofString "words", x), (Str.ofString "at", y), (Str.ofString "deep", z)] = none := rfl
theorem lm_name_pairs {x y z : D} : List.lookup (Str.ofString "name_pairs") [(Str.ofString "words", x), (Str.ofString "at", y), (Str.ofString "deep", z)] = none := rfl
theorem lm_value_pairs {x y z : D} : List.lookup (Str.ofString "value_pairs") [(Str.ofString "words", x), (Str.ofString "at", y), (Str.ofString "deep", z)] = none := rfl
theorem lm_values {x y z : D} : List.lookup (Str.ofString "values") [(Str.ofString "words", x), (Str.ofString "at", y), (Str.ofString "deep", z)] = none := rfl
theorem lm_kind_parts {x y z : D} : List.lookup (Str.ofString "kind_parts") [(Str.ofString "words", x), (Str.ofString "at", y), (Str.ofString "deep", z)] = none := rfl
theorem lm_kind {x y z : D} : List.lookup (Str.ofString "kind") [(Str.ofString "words", x), (Str.ofString "at", y), (Str.ofString "deep", z)] = none := rfl
theorem lm_value {x y z : D} : List.lookup (Str.ofString "value") [(Str.ofString "words", x), (Str.ofString "at", y), (Str.ofString "deep", z)] = none := rfl
theorem lm_part {x y z : D} : List.lookup (Str.ofString "part") [(Str.ofString "words", x), (Str.ofString "at", y), (Str.ofString "deep", z)] = none := rfl
theorem lm_parts {x y z : D} : List.lookup (Str.ofString "parts") [(Str.ofString "words", x), (Str.ofString "at", y), (Str.ofString "deep", z)] = none := rfl
theorem lm_turn {x y z : D} : List.lookup (Str.ofString "turn") [(Str.ofString "words", x), (Str.ofString "at", y), (Str.ofString "deep", z)] = none := rfl
theorem lm_piece {x y z : D} : List.lookup (Str.ofString "piece") [(Str.ofString "words", x), (Str.ofString "at", y), (Str.ofString "deep", z)] = none := rfl
theorem lm_path {x y z : D} : List.lookup (Str.ofString "path") [(Str.ofString "words", x), (Str.ofString "at", y), (Str.ofString "deep", z)] = none := rfl
end L3

end F_L3i

section F_R85
/-! Readings of the defs that the law reaches (printed by gen2.py). -/
namespace O85
open PySem PySem.Spec PyProof.Rows L2 L3
def r_in_brackets (E : XK3) : TS3 :=
  (tRet3 (tOp3 add3 (tOp3 add3 (tOp3 add3 (tVar3 0) (tC3 (.str "("))) (tBM3 "str" join3 (tC3 (.str ", ")) (tCons3 (tVar3 1) tNil3))) (tC3 (.str ")"))))

def r_pairs_text (E : XK3) : TS3 :=
  (tRet3 (tJoinL3 (tC3 (.str ", ")) (tLc3 (iSeq3 (tVar3 0)) (gTup3 2 (gCons3 (gName3 1) (gCons3 (gName3 2) gNil3))) tYes3 (tOp3 add3 (tOp3 add3 (tVar3 1) (tC3 (.str ": "))) (tVar3 2)) [1, 2])))

def r_kind_text (sp_in_brackets : Sp3) (sp_kind_text : Sp3) (sp_pairs_text : Sp3) (E : XK3) : TS3 :=
  (tSeq3 (tAsg3 (tOp3 ix3 (tVar3 0) (tC3 (.int 0))) (gName3 1))
    (tSeq3 (tIfS3 (tB3 (tOp3 eq3 (tVar3 1) (tC3 (.str "number")))) (tRet3 (tCall3 sp_in_brackets (fun _ => E) (tCons3 (tVar3 1) (tCons3 (tLst3 (tCons3 (tCB3 str3 (tCons3 (tOp3 ix3 (tVar3 0) (tC3 (.int 1))) tNil3)) (tCons3 (tCB3 str3 (tCons3 (tOp3 ix3 (tVar3 0) (tC3 (.int 2))) tNil3)) tNil3))) tNil3)))) tNext3)
    (tSeq3 (tIfS3 (tB3 (tOp3 eq3 (tVar3 1) (tC3 (.str "text")))) (tRet3 (tCall3 sp_in_brackets (fun _ => E) (tCons3 (tVar3 1) (tCons3 (tLst3 (tCons3 (tCB3 str3 (tCons3 (tOp3 ix3 (tVar3 0) (tC3 (.int 1))) tNil3)) tNil3)) tNil3)))) tNext3)
    (tSeq3 (tIfS3 (tB3 (tOp3 eq3 (tVar3 1) (tC3 (.str "choice")))) (tRet3 (tCall3 sp_in_brackets (fun _ => E) (tCons3 (tVar3 1) (tCons3 (tOp3 ix3 (tVar3 0) (tC3 (.int 1))) tNil3)))) tNext3)
    (tSeq3 (tIfS3 (tB3 (tOp3 eq3 (tVar3 1) (tC3 (.str "list")))) (tRet3 (tCall3 sp_in_brackets (fun _ => E) (tCons3 (tVar3 1) (tCons3 (tLst3 (tCons3 (tCB3 str3 (tCons3 (tOp3 ix3 (tVar3 0) (tC3 (.int 2))) tNil3)) (tCons3 (tCall3 sp_kind_text (fun _ => E) (tCons3 (tOp3 ix3 (tVar3 0) (tC3 (.int 1))) tNil3)) tNil3))) tNil3)))) tNext3)
    (tSeq3 (tIfS3 (tB3 (tOp3 eq3 (tVar3 1) (tC3 (.str "record")))) (tRet3 (tOp3 add3 (tOp3 add3 (tOp3 add3 (tVar3 1) (tC3 (.str "("))) (tCall3 sp_pairs_text (fun _ => E) (tCons3 (tNew3 (tLc3 (iSeq3 (tOp3 ix3 (tVar3 0) (tC3 (.int 1)))) (gTup3 2 (gCons3 (gName3 2) (gCons3 (gName3 3) gNil3))) tYes3 (tTup3 (tCons3 (tVar3 2) (tCons3 (tCall3 sp_kind_text N0 (tCons3 (tVar3 3) tNil3)) tNil3))) [2, 3])) tNil3))) (tC3 (.str ")")))) tNext3)
    (tRet3 (tCall3 sp_in_brackets (fun _ => E) (tCons3 (tVar3 1) (tCons3 (tLst3 (tCons3 (tOp3 ix3 (tVar3 0) (tC3 (.int 1))) (tCons3 (tCB3 str3 (tCons3 (tOp3 ix3 (tVar3 0) (tC3 (.int 3))) tNil3)) (tCons3 (tCall3 sp_kind_text (fun _ => E) (tCons3 (tOp3 ix3 (tVar3 0) (tC3 (.int 2))) tNil3)) tNil3)))) tNil3))))))))))

def r_is_whole (E : XK3) : TS3 :=
  (tRet3 (tAndV3 (tCB3 isi3 (tCons3 (tVar3 0) (tCons3 (tC3 (.ty "int")) tNil3))) (tNotV3 (tCB3 isi3 (tCons3 (tVar3 0) (tCons3 (tC3 (.ty "bool")) tNil3))))))

def r_is_number_kind (sp_is_whole : Sp3) (E : XK3) : TS3 :=
  (tSeq3 (tIfS3 (tOr3 (tB3 (tOp3 ne3 (tCB3 len3 (tCons3 (tVar3 0) tNil3)) (tC3 (.int 3)))) (tOr3 (tNot3 (tB3 (tCall3 sp_is_whole (fun _ => E) (tCons3 (tOp3 ix3 (tVar3 0) (tC3 (.int 1))) tNil3)))) (tNot3 (tB3 (tCall3 sp_is_whole (fun _ => E) (tCons3 (tOp3 ix3 (tVar3 0) (tC3 (.int 2))) tNil3)))))) (tRet3 (tC3 (.bl false))) tNext3)
    (tRet3 (tChain4 le3 le3 le3 (neg3 (tC3 (.int 1000000000000000000000000000000))) (tOp3 ix3 (tVar3 0) (tC3 (.int 1))) (tOp3 ix3 (tVar3 0) (tC3 (.int 2))) (tC3 (.int 1000000000000000000000000000000)))))

def r_is_name (E : XK3) : TS3 :=
  (tSeq3 (tIfS3 (tOr3 (tNot3 (tB3 (tChain3 le3 le3 (tC3 (.int 1)) (tCB3 len3 (tCons3 (tVar3 0) tNil3)) (tC3 (.int 8))))) (tB3 (tOp3 eq3 (tVar3 0) (tC3 (.str "each"))))) (tRet3 (tC3 (.bl false))) tNext3)
    (tRet3 (tCL3 allL (tLc3 (iSeq3 (tVar3 0)) (gName3 1) tYes3 (tOp3 (in3 false) (tVar3 1) (tC3 (.str "abcdefghijklmnopqrstuvwxyz"))) [1]))))

def r_are_names (sp_is_name : Sp3) (E : XK3) : TS3 :=
  (tSeq3 (tIfS3 (tNot3 (tB3 (tCL3 allL (tLc3 (iSeq3 (tVar3 0)) (gName3 1) tYes3 (tAndV3 (tCB3 isi3 (tCons3 (tVar3 1) (tCons3 (tC3 (.ty "str")) tNil3))) (tCall3 sp_is_name N0 (tCons3 (tVar3 1) tNil3))) [1])))) (tRet3 (tC3 (.bl false))) tNext3)
    (tRet3 (tOp3 eq3 (tLenSet3 (tVar3 0)) (tCB3 len3 (tCons3 (tVar3 0) tNil3)))))

def r_is_choice_kind (sp_are_names : Sp3) (E : XK3) : TS3 :=
  (tSeq3 (tIfS3 (tOr3 (tB3 (tOp3 ne3 (tCB3 len3 (tCons3 (tVar3 0) tNil3)) (tC3 (.int 2)))) (tOr3 (tNot3 (tB3 (tCB3 isi3 (tCons3 (tOp3 ix3 (tVar3 0) (tC3 (.int 1))) (tCons3 (tC3 (.ty "tuple")) tNil3))))) (tNot3 (tB3 (tChain3 le3 le3 (tC3 (.int 1)) (tCB3 len3 (tCons3 (tOp3 ix3 (tVar3 0) (tC3 (.int 1))) tNil3)) (tC3 (.int 8))))))) (tRet3 (tC3 (.bl false))) tNext3)
    (tRet3 (tCall3 sp_are_names (fun _ => E) (tCons3 (tOp3 ix3 (tVar3 0) (tC3 (.int 1))) tNil3))))

def r_is_count (sp_is_whole : Sp3) (E : XK3) : TS3 :=
  (tRet3 (tAndV3 (tCall3 sp_is_whole (fun _ => E) (tCons3 (tVar3 0) tNil3)) (tChain3 le3 le3 (tC3 (.int 0)) (tVar3 0) (tVar3 1))))

def r_is_field (E : XK3) : TS3 :=
  (tRet3 (tAndV3 (tCB3 isi3 (tCons3 (tVar3 0) (tCons3 (tC3 (.ty "tuple")) tNil3))) (tAndV3 (tOp3 eq3 (tCB3 len3 (tCons3 (tVar3 0) tNil3)) (tC3 (.int 2))) (tCB3 isi3 (tCons3 (tOp3 ix3 (tVar3 0) (tC3 (.int 0))) (tCons3 (tC3 (.ty "str")) tNil3))))))

def r_are_fields (sp_are_names : Sp3) (sp_is_field : Sp3) (E : XK3) : TS3 :=
  (tSeq3 (tIfS3 (tOr3 (tNot3 (tB3 (tCB3 isi3 (tCons3 (tVar3 0) (tCons3 (tC3 (.ty "tuple")) tNil3))))) (tB3 (tOp3 gt3 (tCB3 len3 (tCons3 (tVar3 0) tNil3)) (tC3 (.int 8))))) (tRet3 (tC3 (.bl false))) tNext3)
    (tSeq3 (tIfS3 (tNot3 (tB3 (tCL3 allL (tLc3 (iSeq3 (tVar3 0)) (gName3 2) tYes3 (tCall3 sp_is_field N0 (tCons3 (tVar3 2) tNil3)) [2])))) (tRet3 (tC3 (.bl false))) tNext3)
    (tSeq3 (tAsg3 (tNew3 (tLc3 (iSeq3 (tVar3 0)) (gName3 2) tYes3 (tOp3 ix3 (tVar3 2) (tC3 (.int 0))) [2])) (gName3 1))
    (tRet3 (tAndV3 (tCall3 sp_are_names (fun _ => E) (tCons3 (tVar3 1) tNil3)) (tOp3 eq3 (tVar3 1) (tCB3 sorted3 (tCons3 (tVar3 1) tNil3))))))))

def r_field_kind (E : XK3) : TS3 :=
  (tSeq3 (tFor3 (iSeq3 (tOp3 ix3 (tVar3 0) (tC3 (.int 1)))) (gTup3 2 (gCons3 (gName3 2) (gCons3 (gName3 3) gNil3))) (tIfS3 (tB3 (tOp3 eq3 (tVar3 2) (tVar3 1))) (tRet3 (tVar3 3)) tNext3))
    (tRet3 (tC3 .non)))

def r_has_key (sp_field_kind : Sp3) (sp_are_fields : Sp3) (E : XK3) : TS3 :=
  (tSeq3 (tIfS3 (tOr3 (tNot3 (tB3 (tCB3 isi3 (tCons3 (tVar3 0) (tCons3 (tC3 (.ty "tuple")) tNil3))))) (tOr3 (tB3 (tOp3 ne3 (tCB3 len3 (tCons3 (tVar3 0) tNil3)) (tC3 (.int 2)))) (tOr3 (tB3 (tOp3 ne3 (tOp3 ix3 (tVar3 0) (tC3 (.int 0))) (tC3 (.str "record")))) (tNot3 (tB3 (tCall3 sp_are_fields (fun _ => E) (tCons3 (tOp3 ix3 (tVar3 0) (tC3 (.int 1))) tNil3))))))) (tRet3 (tC3 (.bl false))) tNext3)
    (tSeq3 (tAsg3 (tCall3 sp_field_kind (fun _ => E) (tCons3 (tVar3 0) (tCons3 (tVar3 1) tNil3))) (gName3 2))
    (tRet3 (tAndV3 (tCB3 isi3 (tCons3 (tVar3 2) (tCons3 (tC3 (.ty "tuple")) tNil3))) (tAndV3 (tOp3 gt3 (tCB3 len3 (tCons3 (tVar3 2) tNil3)) (tC3 (.int 0))) (tOp3 (in3 false) (tOp3 ix3 (tVar3 2) (tC3 (.int 0))) (tTup3 (tCons3 (tC3 (.str "number")) (tCons3 (tC3 (.str "text")) tNil3)))))))))

def r_kinds_within (sp_is_number_kind : Sp3) (sp_is_choice_kind : Sp3) (sp_is_count : Sp3) (sp_are_fields : Sp3) (sp_has_key : Sp3) (E : XK3) : TS3 :=
  (tSeq3 (tIfS3 (tOr3 (tNot3 (tB3 (tCB3 isi3 (tCons3 (tVar3 0) (tCons3 (tC3 (.ty "tuple")) tNil3))))) (tOr3 (tB3 (tOp3 eq3 (tCB3 len3 (tCons3 (tVar3 0) tNil3)) (tC3 (.int 0)))) (tNot3 (tB3 (tCB3 isi3 (tCons3 (tOp3 ix3 (tVar3 0) (tC3 (.int 0))) (tCons3 (tC3 (.ty "str")) tNil3))))))) (tRet3 (tC3 .non)) tNext3)
    (tSeq3 (tAsg3 (tOp3 ix3 (tVar3 0) (tC3 (.int 0))) (gName3 1))
    (tSeq3 (tAsg3 (tC3 .non) (gName3 2))
    (tSeq3 (tIfS3 (tOr3 (tAnd3 (tB3 (tOp3 eq3 (tVar3 1) (tC3 (.str "number")))) (tB3 (tCall3 sp_is_number_kind (fun _ => E) (tCons3 (tVar3 0) tNil3)))) (tAnd3 (tB3 (tOp3 eq3 (tVar3 1) (tC3 (.str "choice")))) (tB3 (tCall3 sp_is_choice_kind (fun _ => E) (tCons3 (tVar3 0) tNil3))))) (tAsg3 (tLst3 tNil3) (gName3 2)) (tIfS3 (tAnd3 (tB3 (tOp3 eq3 (tVar3 1) (tC3 (.str "text")))) (tAnd3 (tB3 (tOp3 eq3 (tCB3 len3 (tCons3 (tVar3 0) tNil3)) (tC3 (.int 2)))) (tB3 (tCall3 sp_is_count (fun _ => E) (tCons3 (tOp3 ix3 (tVar3 0) (tC3 (.int 1))) (tCons3 (tC3 (.int 60)) tNil3)))))) (tAsg3 (tLst3 tNil3) (gName3 2)) (tIfS3 (tAnd3 (tB3 (tOp3 eq3 (tVar3 1) (tC3 (.str "list")))) (tAnd3 (tB3 (tOp3 eq3 (tCB3 len3 (tCons3 (tVar3 0) tNil3)) (tC3 (.int 3)))) (tB3 (tCall3 sp_is_count (fun _ => E) (tCons3 (tOp3 ix3 (tVar3 0) (tC3 (.int 2))) (tCons3 (tC3 (.int 8)) tNil3)))))) (tAsg3 (tLst3 (tCons3 (tOp3 ix3 (tVar3 0) (tC3 (.int 1))) tNil3)) (gName3 2)) (tIfS3 (tAnd3 (tB3 (tOp3 eq3 (tVar3 1) (tC3 (.str "record")))) (tAnd3 (tB3 (tOp3 eq3 (tCB3 len3 (tCons3 (tVar3 0) tNil3)) (tC3 (.int 2)))) (tB3 (tCall3 sp_are_fields (fun _ => E) (tCons3 (tOp3 ix3 (tVar3 0) (tC3 (.int 1))) tNil3))))) (tAsg3 (tNew3 (tLc3 (iSeq3 (tOp3 ix3 (tVar3 0) (tC3 (.int 1)))) (gTup3 2 (gCons3 (gName3 3) (gCons3 (gName3 4) gNil3))) tYes3 (tVar3 4) [3, 4])) (gName3 2)) (tIfS3 (tAnd3 (tB3 (tOp3 eq3 (tVar3 1) (tC3 (.str "rows")))) (tAnd3 (tB3 (tOp3 eq3 (tCB3 len3 (tCons3 (tVar3 0) tNil3)) (tC3 (.int 4)))) (tB3 (tCall3 sp_is_count (fun _ => E) (tCons3 (tOp3 ix3 (tVar3 0) (tC3 (.int 3))) (tCons3 (tC3 (.int 8)) tNil3)))))) (tIfS3 (tAnd3 (tB3 (tCB3 isi3 (tCons3 (tOp3 ix3 (tVar3 0) (tC3 (.int 1))) (tCons3 (tC3 (.ty "str")) tNil3)))) (tB3 (tCall3 sp_has_key (fun _ => E) (tCons3 (tOp3 ix3 (tVar3 0) (tC3 (.int 2))) (tCons3 (tOp3 ix3 (tVar3 0) (tC3 (.int 1))) tNil3))))) (tAsg3 (tLst3 (tCons3 (tOp3 ix3 (tVar3 0) (tC3 (.int 2))) tNil3)) (gName3 2)) tNext3) tNext3)))))
    (tRet3 (tVar3 2))))))

def r_kinds_left (sp_kinds_left : Sp3) (sp_kinds_within : Sp3) (E : XK3) : TS3 :=
  (tSeq3 (tAsg3 (tCall3 sp_kinds_within (fun _ => E) (tCons3 (tVar3 0) tNil3)) (gName3 3))
    (tSeq3 (tIfS3 (tOr3 (tB3 (tOp3 (isD false) (tVar3 3) (tC3 .non))) (tOr3 (tB3 (tOp3 lt3 (tVar3 1) (tC3 (.int 1)))) (tB3 (tOp3 lt3 (tVar3 2) (tC3 (.int 1)))))) (tRet3 (neg3 (tC3 (.int 1)))) tNext3)
    (tSeq3 (tAsg3 (tOp3 sub3 (tVar3 2) (tC3 (.int 1))) (gName3 2))
    (tSeq3 (tFor3 (iSeq3 (tVar3 3)) (gName3 4) (tIfS3 (tB3 (tOp3 ge3 (tVar3 2) (tC3 (.int 0)))) (tAsg3 (tCall3 sp_kinds_left (fun _ => E) (tCons3 (tVar3 4) (tCons3 (tOp3 sub3 (tVar3 1) (tC3 (.int 1))) (tCons3 (tVar3 2) tNil3)))) (gName3 2)) tNext3))
    (tRet3 (tVar3 2))))))

def r_made_kind (C_BadKind : Addr) (sp_kinds_left : Sp3) (E : XK3) : TS3 :=
  (tSeq3 (tIfS3 (tB3 (tOp3 lt3 (tCall3 sp_kinds_left (fun _ => E) (tCons3 (tVar3 0) (tCons3 (tC3 (.int 5)) (tCons3 (tC3 (.int 40)) tNil3)))) (tC3 (.int 0)))) (tRaise3 C_BadKind (fun _ => E)) tNext3)
    (tRet3 (tVar3 0)))

def r_TextReader_taken (C_TextReader : Addr) (C_BadText : Addr) (E : XK3) : TS3 :=
  (tSeq3 (tAsg3 (tOp3 ix3 (tFld3 C_TextReader "words" (tVar3 0)) (tFld3 C_TextReader "at" (tVar3 0))) (gTup3 2 (gCons3 (gName3 2) (gCons3 (gName3 3) gNil3))))
    (tSeq3 (tIfS3 (tB3 (tOp3 ne3 (tVar3 2) (tVar3 1))) (tRaise3 C_BadText (fun _ => E)) tNext3)
    (tSeq3 (sFld3 C_TextReader "at" (tVar3 0) (tOp3 add3 (tFld3 C_TextReader "at" (tVar3 0)) (tC3 (.int 1))))
    (tRet3 (tVar3 3)))))

def r_TextReader_ended (C_TextReader : Addr) (sp_TextReader_taken : Sp3) (E : XK3) : TS3 :=
  (tSeq3 (tDrop3 (tMeth3 C_TextReader "taken" sp_TextReader_taken (fun _ => E) (tVar3 0) (tCons3 (tC3 (.str "end")) tNil3)))
    (tRet3 (tVar3 1)))

def r_TextReader_next_is (C_TextReader : Addr) (E : XK3) : TS3 :=
  (tRet3 (tOp3 eq3 (tOp3 ix3 (tFld3 C_TextReader "words" (tVar3 0)) (tFld3 C_TextReader "at" (tVar3 0))) (tTup3 (tCons3 (tC3 (.str "sign")) (tCons3 (tVar3 1) tNil3)))))

def r_TextReader_due (C_TextReader : Addr) (C_BadText : Addr) (sp_TextReader_next_is : Sp3) (E : XK3) : TS3 :=
  (tSeq3 (tIfS3 (tNot3 (tB3 (tMeth3 C_TextReader "next_is" sp_TextReader_next_is (fun _ => E) (tVar3 0) (tCons3 (tVar3 1) tNil3)))) (tRaise3 C_BadText (fun _ => E)) tNext3)
    (sFld3 C_TextReader "at" (tVar3 0) (tOp3 add3 (tFld3 C_TextReader "at" (tVar3 0)) (tC3 (.int 1)))))

def r_TextReader_closed (C_TextReader : Addr) (sp_TextReader_due : Sp3) (E : XK3) : TS3 :=
  (tSeq3 (tDrop3 (tMeth3 C_TextReader "due" sp_TextReader_due (fun _ => E) (tVar3 0) (tCons3 (tVar3 1) tNil3)))
    (sFld3 C_TextReader "deep" (tVar3 0) (tOp3 sub3 (tFld3 C_TextReader "deep" (tVar3 0)) (tC3 (.int 1)))))

def r_TextReader_part (C_TextReader : Addr) (sp_TextReader_taken : Sp3) (sp_TextReader_turn : Sp3) (sp_TextReader_value : Sp3) (sp_TextReader_kind : Sp3) (E : XK3) : TS3 :=
  (tSeq3 (tIfS3 (tB3 (tOp3 eq3 (tVar3 1) (tC3 (.str "n")))) (tRet3 (tMeth3 C_TextReader "taken" sp_TextReader_taken (fun _ => E) (tVar3 0) (tCons3 (tC3 (.str "word")) tNil3))) tNext3)
    (tSeq3 (tIfS3 (tB3 (tOp3 eq3 (tVar3 1) (tC3 (.str "m")))) (tRet3 (tMeth3 C_TextReader "taken" sp_TextReader_taken (fun _ => E) (tVar3 0) (tCons3 (tC3 (.str "number")) tNil3))) tNext3)
    (tSeq3 (tIfS3 (tB3 (tOp3 eq3 (tVar3 1) (tC3 (.str "k")))) (tRet3 (tMeth3 C_TextReader "kind" sp_TextReader_kind (fun _ => E) (tVar3 0) tNil3)) tNext3)
    (tSeq3 (tIfS3 (tB3 (tOp3 eq3 (tVar3 1) (tC3 (.str "v")))) (tRet3 (tMeth3 C_TextReader "value" sp_TextReader_value (fun _ => E) (tVar3 0) tNil3)) tNext3)
    (tSeq3 (tIfS3 (tB3 (tOp3 eq3 (tVar3 1) (tC3 (.str "t")))) (tRet3 (tMeth3 C_TextReader "turn" sp_TextReader_turn (fun _ => E) (tVar3 0) tNil3)) tNext3)
    (tRet3 (tMeth3 C_TextReader "taken" sp_TextReader_taken (fun _ => E) (tVar3 0) (tCons3 (tC3 (.str "text")) tNil3))))))))

def r_TextReader_parts (C_TextReader : Addr) (sp_TextReader_part : Sp3) (sp_TextReader_due : Sp3) (E : XK3) : TS3 :=
  (tSeq3 (tAsg3 (tLst3 tNil3) (gName3 2))
    (tSeq3 (tFor3 (iSeq3 (tVar3 1)) (gName3 3) (tSeq3 (tIfS3 (tB3 (tOp3 gt3 (tCB3 len3 (tCons3 (tVar3 2) tNil3)) (tC3 (.int 0)))) (tDrop3 (tMeth3 C_TextReader "due" sp_TextReader_due (fun _ => E) (tVar3 0) (tCons3 (tC3 (.str ",")) tNil3))) tNext3)
    (tDrop3 (tBM3 "list" append3 (tVar3 2) (tCons3 (tMeth3 C_TextReader "part" sp_TextReader_part (fun _ => E) (tVar3 0) (tCons3 (tVar3 3) tNil3)) tNil3)))))
    (tRet3 (tCB3 tup3 (tCons3 (tVar3 2) tNil3)))))

def r_TextReader_goes_on (C_TextReader : Addr) (sp_TextReader_next_is : Sp3) (E : XK3) : TS3 :=
  (tSeq3 (tIfS3 (tB3 (tOp3 eq3 (tVar3 1) (tC3 (.int 0)))) (tRet3 (tNotV3 (tMeth3 C_TextReader "next_is" sp_TextReader_next_is (fun _ => E) (tVar3 0) (tCons3 (tVar3 2) tNil3)))) tNext3)
    (tSeq3 (tIfS3 (tNot3 (tB3 (tMeth3 C_TextReader "next_is" sp_TextReader_next_is (fun _ => E) (tVar3 0) (tCons3 (tC3 (.str ",")) tNil3)))) (tRet3 (tC3 (.bl false))) tNext3)
    (tSeq3 (sFld3 C_TextReader "at" (tVar3 0) (tOp3 add3 (tFld3 C_TextReader "at" (tVar3 0)) (tC3 (.int 1))))
    (tRet3 (tC3 (.bl true))))))

def r_TextReader_kind_pairs (C_TextReader : Addr) (sp_TextReader_goes_on : Sp3) (sp_TextReader_kind : Sp3) (sp_TextReader_due : Sp3) (sp_TextReader_taken : Sp3) (E : XK3) : TS3 :=
  (tSeq3 (tAsg3 (tLst3 tNil3) (gName3 1))
    (tSeq3 (tWhile3 (tB3 (tMeth3 C_TextReader "goes_on" sp_TextReader_goes_on (fun _ => E) (tVar3 0) (tCons3 (tCB3 len3 (tCons3 (tVar3 1) tNil3)) (tCons3 (tC3 (.str ")")) tNil3)))) (tSeq3 (tAsg3 (tMeth3 C_TextReader "taken" sp_TextReader_taken (fun _ => E) (tVar3 0) (tCons3 (tC3 (.str "word")) tNil3)) (gName3 2))
    (tSeq3 (tDrop3 (tMeth3 C_TextReader "due" sp_TextReader_due (fun _ => E) (tVar3 0) (tCons3 (tC3 (.str ":")) tNil3)))
    (tDrop3 (tBM3 "list" append3 (tVar3 1) (tCons3 (tTup3 (tCons3 (tVar3 2) (tCons3 (tMeth3 C_TextReader "kind" sp_TextReader_kind (fun _ => E) (tVar3 0) tNil3) tNil3))) tNil3))))))
    (tRet3 (tCB3 tup3 (tCons3 (tVar3 1) tNil3)))))

def r_TextReader_names (C_TextReader : Addr) (sp_TextReader_goes_on : Sp3) (sp_TextReader_taken : Sp3) (E : XK3) : TS3 :=
  (tSeq3 (tAsg3 (tLst3 (tCons3 (tMeth3 C_TextReader "taken" sp_TextReader_taken (fun _ => E) (tVar3 0) (tCons3 (tC3 (.str "word")) tNil3)) tNil3)) (gName3 2))
    (tSeq3 (tWhile3 (tB3 (tMeth3 C_TextReader "goes_on" sp_TextReader_goes_on (fun _ => E) (tVar3 0) (tCons3 (tCB3 len3 (tCons3 (tVar3 2) tNil3)) (tCons3 (tVar3 1) tNil3)))) (tDrop3 (tBM3 "list" append3 (tVar3 2) (tCons3 (tMeth3 C_TextReader "taken" sp_TextReader_taken (fun _ => E) (tVar3 0) (tCons3 (tC3 (.str "word")) tNil3)) tNil3))))
    (tRet3 (tCB3 tup3 (tCons3 (tVar3 2) tNil3)))))

def r_TextReader_kind_parts (C_BadText : Addr) (C_TextReader : Addr) (sp_TextReader_parts : Sp3) (sp_TextReader_kind_pairs : Sp3) (sp_TextReader_names : Sp3) (E : XK3) : TS3 :=
  (tSeq3 (tIfS3 (tB3 (tOp3 eq3 (tVar3 1) (tC3 (.str "number")))) (tRet3 (tMeth3 C_TextReader "parts" sp_TextReader_parts (fun _ => E) (tVar3 0) (tCons3 (tC3 (.str "mm")) tNil3))) tNext3)
    (tSeq3 (tIfS3 (tB3 (tOp3 eq3 (tVar3 1) (tC3 (.str "text")))) (tRet3 (tMeth3 C_TextReader "parts" sp_TextReader_parts (fun _ => E) (tVar3 0) (tCons3 (tC3 (.str "m")) tNil3))) tNext3)
    (tSeq3 (tIfS3 (tB3 (tOp3 eq3 (tVar3 1) (tC3 (.str "choice")))) (tRet3 (tTup3 (tCons3 (tMeth3 C_TextReader "names" sp_TextReader_names (fun _ => E) (tVar3 0) (tCons3 (tC3 (.str ")")) tNil3)) tNil3))) tNext3)
    (tSeq3 (tIfS3 (tB3 (tOp3 eq3 (tVar3 1) (tC3 (.str "record")))) (tRet3 (tTup3 (tCons3 (tMeth3 C_TextReader "kind_pairs" sp_TextReader_kind_pairs (fun _ => E) (tVar3 0) tNil3) tNil3))) tNext3)
    (tSeq3 (tIfS3 (tB3 (tOp3 eq3 (tVar3 1) (tC3 (.str "list")))) (tSeq3 (tAsg3 (tMeth3 C_TextReader "parts" sp_TextReader_parts (fun _ => E) (tVar3 0) (tCons3 (tC3 (.str "mk")) tNil3)) (gTup3 2 (gCons3 (gName3 2) (gCons3 (gName3 3) gNil3))))
    (tRet3 (tTup3 (tCons3 (tVar3 3) (tCons3 (tVar3 2) tNil3))))) tNext3)
    (tSeq3 (tIfS3 (tB3 (tOp3 eq3 (tVar3 1) (tC3 (.str "rows")))) (tSeq3 (tAsg3 (tMeth3 C_TextReader "parts" sp_TextReader_parts (fun _ => E) (tVar3 0) (tCons3 (tC3 (.str "nmk")) tNil3)) (gTup3 3 (gCons3 (gName3 4) (gCons3 (gName3 2) (gCons3 (gName3 3) gNil3)))))
    (tRet3 (tTup3 (tCons3 (tVar3 4) (tCons3 (tVar3 3) (tCons3 (tVar3 2) tNil3)))))) tNext3)
    (tRaise3 C_BadText (fun _ => E))))))))

def r_TextReader_opened (C_TextReader : Addr) (C_BadText : Addr) (sp_TextReader_due : Sp3) (E : XK3) : TS3 :=
  (tSeq3 (tDrop3 (tMeth3 C_TextReader "due" sp_TextReader_due (fun _ => E) (tVar3 0) (tCons3 (tVar3 1) tNil3)))
    (tSeq3 (sFld3 C_TextReader "deep" (tVar3 0) (tOp3 add3 (tFld3 C_TextReader "deep" (tVar3 0)) (tC3 (.int 1))))
    (tIfS3 (tB3 (tOp3 gt3 (tFld3 C_TextReader "deep" (tVar3 0)) (tC3 (.int 40)))) (tRaise3 C_BadText (fun _ => E)) tNext3)))

def r_TextReader_kind (C_TextReader : Addr) (sp_TextReader_closed : Sp3) (sp_TextReader_kind_parts : Sp3) (sp_TextReader_opened : Sp3) (sp_TextReader_taken : Sp3) (E : XK3) : TS3 :=
  (tSeq3 (tAsg3 (tMeth3 C_TextReader "taken" sp_TextReader_taken (fun _ => E) (tVar3 0) (tCons3 (tC3 (.str "word")) tNil3)) (gName3 1))
    (tSeq3 (tDrop3 (tMeth3 C_TextReader "opened" sp_TextReader_opened (fun _ => E) (tVar3 0) (tCons3 (tC3 (.str "(")) tNil3)))
    (tSeq3 (tAsg3 (tOp3 add3 (tTup3 (tCons3 (tVar3 1) tNil3)) (tMeth3 C_TextReader "kind_parts" sp_TextReader_kind_parts (fun _ => E) (tVar3 0) (tCons3 (tVar3 1) tNil3))) (gName3 2))
    (tSeq3 (tDrop3 (tMeth3 C_TextReader "closed" sp_TextReader_closed (fun _ => E) (tVar3 0) (tCons3 (tC3 (.str ")")) tNil3)))
    (tRet3 (tVar3 2))))))

def r_is_sign (E : XK3) : TS3 :=
  (tRet3 (tAndV3 (tChain3 le3 le3 (tC3 (.str " ")) (tVar3 0) (tC3 (.str "~"))) (tAndV3 (tOp3 ne3 (tVar3 0) (tC3 (.str "\""))) (tOp3 ne3 (tCB3 ord3 (tCons3 (tVar3 0) tNil3)) (tC3 (.int 37))))))

def r_quoted_end (C_BadText : Addr) (sp_is_sign : Sp3) (E : XK3) : TS3 :=
  (tSeq3 (tAsg3 (tBM3 "str" find3 (tVar3 0) (tCons3 (tC3 (.str "\"")) (tCons3 (tOp3 add3 (tVar3 1) (tC3 (.int 1))) tNil3))) (gName3 2))
    (tSeq3 (tIfS3 (tOr3 (tB3 (tOp3 lt3 (tVar3 2) (tC3 (.int 0)))) (tNot3 (tB3 (tCL3 allL (tLc3 (iSeq3 (tSl3 (tVar3 0) (tPart3 (tOp3 add3 (tVar3 1) (tC3 (.int 1)))) (tPart3 (tVar3 2)))) (gName3 3) tYes3 (tCall3 sp_is_sign N0 (tCons3 (tVar3 3) tNil3)) [3]))))) (tRaise3 C_BadText (fun _ => E)) tNext3)
    (tRet3 (tOp3 add3 (tVar3 2) (tC3 (.int 1))))))

def r_run_end (E : XK3) : TS3 :=
  (tSeq3 (tWhile3 (tAnd3 (tB3 (tOp3 lt3 (tVar3 1) (tCB3 len3 (tCons3 (tVar3 0) tNil3)))) (tB3 (tOp3 (in3 false) (tOp3 ix3 (tVar3 0) (tVar3 1)) (tVar3 2)))) (tAsg3 (tOp3 add3 (tVar3 1) (tC3 (.int 1))) (gName3 1)))
    (tRet3 (tVar3 1)))

def r_number_end (C_BadText : Addr) (sp_run_end : Sp3) (E : XK3) : TS3 :=
  (tSeq3 (tAsg3 (tOp3 add3 (tVar3 1) (tCB3 int3 (tCons3 (tOp3 eq3 (tOp3 ix3 (tVar3 0) (tVar3 1)) (tC3 (.str "-"))) tNil3))) (gName3 2))
    (tSeq3 (tAsg3 (tCall3 sp_run_end (fun _ => E) (tCons3 (tVar3 0) (tCons3 (tVar3 2) (tCons3 (tC3 (.str "0123456789")) tNil3)))) (gName3 3))
    (tSeq3 (tIfS3 (tOr3 (tB3 (tOp3 eq3 (tVar3 3) (tVar3 2))) (tOr3 (tB3 (tOp3 gt3 (tOp3 sub3 (tVar3 3) (tVar3 2)) (tC3 (.int 60)))) (tAnd3 (tB3 (tOp3 eq3 (tOp3 ix3 (tVar3 0) (tVar3 2)) (tC3 (.str "0")))) (tOr3 (tB3 (tOp3 gt3 (tVar3 3) (tOp3 add3 (tVar3 2) (tC3 (.int 1))))) (tB3 (tOp3 gt3 (tVar3 2) (tVar3 1))))))) (tRaise3 C_BadText (fun _ => E)) tNext3)
    (tRet3 (tVar3 3)))))

def r_words_of (C_BadText : Addr) (sp_quoted_end : Sp3) (sp_run_end : Sp3) (sp_number_end : Sp3) (E : XK3) : TS3 :=
  (tSeq3 (tAsg3 (tLst3 tNil3) (gName3 1))
    (tSeq3 (tAsg3 (tC3 (.int 0)) (gName3 2))
    (tSeq3 (tWhile3 (tB3 (tOp3 lt3 (tVar3 2) (tCB3 len3 (tCons3 (tVar3 0) tNil3)))) (tSeq3 (tAsg3 (tOp3 ix3 (tVar3 0) (tVar3 2)) (gName3 3))
    (tSeq3 (tAsg3 (tOp3 add3 (tVar3 2) (tC3 (.int 1))) (gName3 4))
    (tSeq3 (tIfS3 (tB3 (tOp3 eq3 (tVar3 3) (tC3 (.str "\"")))) (tSeq3 (tAsg3 (tCall3 sp_quoted_end (fun _ => E) (tCons3 (tVar3 0) (tCons3 (tVar3 2) tNil3))) (gName3 4))
    (tDrop3 (tBM3 "list" append3 (tVar3 1) (tCons3 (tTup3 (tCons3 (tC3 (.str "text")) (tCons3 (tSl3 (tVar3 0) (tPart3 (tOp3 add3 (tVar3 2) (tC3 (.int 1)))) (tPart3 (tOp3 sub3 (tVar3 4) (tC3 (.int 1))))) tNil3))) tNil3)))) (tIfS3 (tB3 (tOp3 (in3 false) (tVar3 3) (tC3 (.str "abcdefghijklmnopqrstuvwxyz")))) (tSeq3 (tAsg3 (tCall3 sp_run_end (fun _ => E) (tCons3 (tVar3 0) (tCons3 (tVar3 2) (tCons3 (tC3 (.str "abcdefghijklmnopqrstuvwxyz")) tNil3)))) (gName3 4))
    (tSeq3 (tIfS3 (tB3 (tOp3 gt3 (tOp3 sub3 (tVar3 4) (tVar3 2)) (tC3 (.int 8)))) (tRaise3 C_BadText (fun _ => E)) tNext3)
    (tDrop3 (tBM3 "list" append3 (tVar3 1) (tCons3 (tTup3 (tCons3 (tC3 (.str "word")) (tCons3 (tSl3 (tVar3 0) (tPart3 (tVar3 2)) (tPart3 (tVar3 4))) tNil3))) tNil3))))) (tIfS3 (tOr3 (tB3 (tOp3 (in3 false) (tVar3 3) (tC3 (.str "0123456789")))) (tB3 (tOp3 eq3 (tVar3 3) (tC3 (.str "-"))))) (tSeq3 (tAsg3 (tCall3 sp_number_end (fun _ => E) (tCons3 (tVar3 0) (tCons3 (tVar3 2) tNil3))) (gName3 4))
    (tDrop3 (tBM3 "list" append3 (tVar3 1) (tCons3 (tTup3 (tCons3 (tC3 (.str "number")) (tCons3 (tCB3 int3 (tCons3 (tSl3 (tVar3 0) (tPart3 (tVar3 2)) (tPart3 (tVar3 4))) tNil3)) tNil3))) tNil3)))) (tIfS3 (tB3 (tOp3 (in3 false) (tVar3 3) (tC3 (.str "()[]{},:;/")))) (tDrop3 (tBM3 "list" append3 (tVar3 1) (tCons3 (tTup3 (tCons3 (tC3 (.str "sign")) (tCons3 (tVar3 3) tNil3))) tNil3))) (tIfS3 (tB3 (tOp3 ne3 (tVar3 3) (tC3 (.str " ")))) (tRaise3 C_BadText (fun _ => E)) tNext3)))))
    (tAsg3 (tVar3 4) (gName3 2))))))
    (tSeq3 (tDrop3 (tBM3 "list" append3 (tVar3 1) (tCons3 (tTup3 (tCons3 (tC3 (.str "end")) (tCons3 (tC3 (.str "")) tNil3))) tNil3)))
    (tRet3 (tVar3 1))))))

def r_TextReader_init (C_TextReader : Addr) (sp_words_of : Sp3) (E : XK3) : TS3 :=
  (tSeq3 (sFld3 C_TextReader "words" (tVar3 0) (tCall3 sp_words_of (fun _ => E) (tCons3 (tVar3 1) tNil3)))
    (tSeq3 (sFld3 C_TextReader "at" (tVar3 0) (tC3 (.int 0)))
    (sFld3 C_TextReader "deep" (tVar3 0) (tC3 (.int 0)))))

def r_read_kind (C_TextReader : Addr) (sp_made_kind : Sp3) (sp_TextReader_ended : Sp3) (sp_TextReader_kind : Sp3) (sp_TextReader_init : Sp3) (E : XK3) : TS3 :=
  (tSeq3 (tAsg3 (tMake3 C_TextReader sp_TextReader_init (fun _ => E) (tCons3 (tVar3 0) tNil3)) (gName3 1))
    (tRet3 (tCall3 sp_made_kind (fun _ => E) (tCons3 (tMeth3 C_TextReader "ended" sp_TextReader_ended (fun _ => E) (tVar3 1) (tCons3 (tMeth3 C_TextReader "kind" sp_TextReader_kind (fun _ => E) (tVar3 1) tNil3) tNil3)) tNil3))))

def r__law_digit (E : XK3) : TS3 :=
  (tSeq3 (tAsg3 (tOp3 mod3 (tOp3 ix3 (tVar3 0) (tC3 (.int 0))) (tVar3 1)) (gName3 2))
    (tSeq3 (tAsg3 (tOp3 div3 (tOp3 ix3 (tVar3 0) (tC3 (.int 0))) (tVar3 1)) (gSub3 (tVar3 0) (tC3 (.int 0))))
    (tRet3 (tVar3 2))))

def r__law_loose (sp__law_digit : Sp3) (E : XK3) : TS3 :=
  (tRet3 (tOp3 add3 (tOp3 mul3 (tC3 (.str " ")) (tCall3 sp__law_digit (fun _ => E) (tCons3 (tVar3 1) (tCons3 (tC3 (.int 3)) tNil3)))) (tJoinL3 (tC3 (.str "")) (tLc3 (iSeq3 (tVar3 0)) (gName3 2) tYes3 (tOp3 add3 (tVar3 2) (tOp3 mul3 (tC3 (.str " ")) (tCall3 sp__law_digit N0 (tCons3 (tVar3 1) (tCons3 (tC3 (.int 3)) tNil3))))) [2]))))

def r__law_tight (E : XK3) : TS3 :=
  (tRet3 (tJoinL3 (tC3 (.str "")) (tLc3 (iSeq3 (tVar3 0)) (gName3 1) tYes3 (tOp3 add3 (tVar3 1) (tOp3 mul3 (tC3 (.str " ")) (tCB3 int3 (tCons3 (tInD3 false (tVar3 1) (tCons3 (tC3 (.str ",")) (tCons3 (tC3 (.str ":")) (tCons3 (tC3 (.str ";")) tNil3)))) tNil3)))) [1])))

def r__law_kind_words (sp__law_kind_words : Sp3) (E : XK3) : TS3 :=
  (tSeq3 (tAsg3 (tOp3 ix3 (tVar3 0) (tC3 (.int 0))) (gName3 1))
    (tSeq3 (tAsg3 (tLst3 (tCons3 (tVar3 1) (tCons3 (tC3 (.str "(")) tNil3))) (gName3 2))
    (tSeq3 (tIfS3 (tB3 (tOp3 eq3 (tVar3 1) (tC3 (.str "record")))) (tFor3 (iSeq3 (tOp3 ix3 (tVar3 0) (tC3 (.int 1)))) (gTup3 2 (gCons3 (gName3 3) (gCons3 (gName3 4) gNil3))) (tAsg3 (tOp3 add3 (tOp3 add3 (tOp3 add3 (tVar3 2) (tLst3 (tCons3 (tVar3 3) (tCons3 (tC3 (.str ":")) tNil3)))) (tCall3 sp__law_kind_words (fun _ => E) (tCons3 (tVar3 4) tNil3))) (tLst3 (tCons3 (tC3 (.str ",")) tNil3))) (gName3 2))) (tIfS3 (tB3 (tOp3 eq3 (tVar3 1) (tC3 (.str "choice")))) (tFor3 (iSeq3 (tOp3 ix3 (tVar3 0) (tC3 (.int 1)))) (gName3 3) (tAsg3 (tOp3 add3 (tVar3 2) (tLst3 (tCons3 (tVar3 3) (tCons3 (tC3 (.str ",")) tNil3)))) (gName3 2))) (tIfS3 (tB3 (tOp3 eq3 (tVar3 1) (tC3 (.str "list")))) (tAsg3 (tOp3 add3 (tOp3 add3 (tOp3 add3 (tVar3 2) (tLst3 (tCons3 (tCB3 str3 (tCons3 (tOp3 ix3 (tVar3 0) (tC3 (.int 2))) tNil3)) (tCons3 (tC3 (.str ",")) tNil3)))) (tCall3 sp__law_kind_words (fun _ => E) (tCons3 (tOp3 ix3 (tVar3 0) (tC3 (.int 1))) tNil3))) (tLst3 (tCons3 (tC3 (.str ",")) tNil3))) (gName3 2)) (tIfS3 (tB3 (tOp3 eq3 (tVar3 1) (tC3 (.str "rows")))) (tAsg3 (tOp3 add3 (tOp3 add3 (tOp3 add3 (tVar3 2) (tLst3 (tCons3 (tOp3 ix3 (tVar3 0) (tC3 (.int 1))) (tCons3 (tC3 (.str ",")) (tCons3 (tCB3 str3 (tCons3 (tOp3 ix3 (tVar3 0) (tC3 (.int 3))) tNil3)) (tCons3 (tC3 (.str ",")) tNil3)))))) (tCall3 sp__law_kind_words (fun _ => E) (tCons3 (tOp3 ix3 (tVar3 0) (tC3 (.int 2))) tNil3))) (tLst3 (tCons3 (tC3 (.str ",")) tNil3))) (gName3 2)) (tFor3 (iSeq3 (tSl3 (tVar3 0) (tPart3 (tC3 (.int 1))) tNoPart3)) (gName3 5) (tAsg3 (tOp3 add3 (tVar3 2) (tLst3 (tCons3 (tCB3 str3 (tCons3 (tVar3 5) tNil3)) (tCons3 (tC3 (.str ",")) tNil3)))) (gName3 2)))))))
    (tSeq3 (tIfS3 (tB3 (tOp3 eq3 (tOp3 ix3 (tVar3 2) (neg3 (tC3 (.int 1)))) (tC3 (.str ",")))) (tAsg3 (tSl3 (tVar3 2) tNoPart3 (tPart3 (neg3 (tC3 (.int 1))))) (gName3 2)) tNext3)
    (tRet3 (tOp3 add3 (tVar3 2) (tLst3 (tCons3 (tC3 (.str ")")) tNil3))))))))

def r__law_names (sp__law_digit : Sp3) (E : XK3) : TS3 :=
  (tSeq3 (tAsg3 (tCall3 sp__law_digit (fun _ => E) (tCons3 (tVar3 0) (tCons3 (tC3 (.int 26)) tNil3))) (gName3 2))
    (tSeq3 (tAsg3 (tIxD3 (tCons3 (tC3 (.str "")) (tCons3 (tC3 (.str "a")) (tCons3 (tC3 (.str "zz")) (tCons3 (tC3 (.str "eachone")) tNil3)))) (tCall3 sp__law_digit (fun _ => E) (tCons3 (tVar3 0) (tCons3 (tC3 (.int 4)) tNil3)))) (gName3 3))
    (tSeq3 (tAsg3 (tCall3 sp__law_digit (fun _ => E) (tCons3 (tVar3 0) (tCons3 (tC3 (.int 5)) tNil3))) (gName3 4))
    (tSeq3 (tIfS3 (tB3 (tOp3 eq3 (tVar3 4) (tC3 (.int 1)))) (tRet3 (tNew3 (tLc3 (iRng13 (tCons3 (tVar3 1) tNil3)) (gName3 6) tYes3 (tSl3 (tC3 (.str "abcdefgh")) tNoPart3 (tPart3 (tOp3 add3 (tVar3 6) (tC3 (.int 1))))) [6]))) tNext3)
    (tSeq3 (tIfS3 (tB3 (tOp3 eq3 (tVar3 4) (tC3 (.int 2)))) (tSeq3 (tAsg3 (tLst3 (tCons3 (tC3 (.str "eac")) (tCons3 (tC3 (.str "eachx")) (tCons3 (tC3 (.str "list")) (tCons3 (tC3 (.str "lists")) (tCons3 (tC3 (.str "number")) (tCons3 (tC3 (.str "rows")) (tCons3 (tC3 (.str "text")) (tCons3 (tC3 (.str "words")) tNil3))))))))) (gName3 5))
    (tRet3 (tCL3 sortedL (tLc3 (iRng13 (tCons3 (tVar3 1) tNil3)) (gName3 6) tYes3 (tOp3 ix3 (tVar3 5) (tOp3 mod3 (tOp3 add3 (tVar3 2) (tVar3 6)) (tC3 (.int 8)))) [6])))) tNext3)
    (tRet3 (tCL3 sortedL (tLc3 (iRng13 (tCons3 (tVar3 1) tNil3)) (gName3 6) tYes3 (tOp3 add3 (tOp3 ix3 (tC3 (.str "abcdefghijklmnopqrstuvwxyz")) (tOp3 mod3 (tOp3 add3 (tVar3 2) (tOp3 mul3 (tC3 (.int 7)) (tVar3 6))) (tC3 (.int 26)))) (tVar3 3)) [6]))))))))

def r__law_record_kind (sp__law_names : Sp3) (sp__law_kind : Sp3) (sp__law_digit : Sp3) (E : XK3) : TS3 :=
  (tSeq3 (tAsg3 (tCall3 sp__law_digit (fun _ => E) (tCons3 (tVar3 0) (tCons3 (tC3 (.int 4)) tNil3))) (gName3 3))
    (tSeq3 (tAsg3 (tLst3 tNil3) (gName3 4))
    (tSeq3 (tFor3 (iSeq3 (tCall3 sp__law_names (fun _ => E) (tCons3 (tVar3 0) (tCons3 (tVar3 3) tNil3)))) (gName3 5) (tDrop3 (tBM3 "list" append3 (tVar3 4) (tCons3 (tTup3 (tCons3 (tVar3 5) (tCons3 (tCall3 sp__law_kind (fun _ => E) (tCons3 (tVar3 0) (tCons3 (tOp3 sub3 (tVar3 1) (tC3 (.int 1))) (tCons3 (tVar3 2) tNil3)))) tNil3))) tNil3))))
    (tRet3 (tTup3 (tCons3 (tC3 (.str "record")) (tCons3 (tCB3 tup3 (tCons3 (tVar3 4) tNil3)) tNil3)))))))

def r__law_number_kind (sp__law_digit : Sp3) (E : XK3) : TS3 :=
  (tSeq3 (tAsg3 (tIxD3 (tCons3 (tOp3 sub3 (tCall3 sp__law_digit (fun _ => E) (tCons3 (tVar3 0) (tCons3 (tC3 (.int 12)) tNil3))) (tC3 (.int 6))) (tCons3 (tOp3 sub3 (tCall3 sp__law_digit (fun _ => E) (tCons3 (tVar3 0) (tCons3 (tOp3 add3 (tOp3 mul3 (tC3 (.int 2)) (tOp3 pow3 (tC3 (.int 10)) (tC3 (.int 30)))) (tC3 (.int 1))) tNil3))) (tOp3 pow3 (tC3 (.int 10)) (tC3 (.int 30)))) tNil3)) (tCB3 int3 (tCons3 (tOp3 eq3 (tCall3 sp__law_digit (fun _ => E) (tCons3 (tVar3 0) (tCons3 (tC3 (.int 4)) tNil3))) (tC3 (.int 1))) tNil3))) (gName3 1))
    (tSeq3 (tAsg3 (tCB3 min3 (tCons3 (tOp3 pow3 (tC3 (.int 10)) (tC3 (.int 30))) (tCons3 (tOp3 add3 (tVar3 1) (tIxD3 (tCons3 (tCall3 sp__law_digit (fun _ => E) (tCons3 (tVar3 0) (tCons3 (tC3 (.int 9)) tNil3))) (tCons3 (tOp3 pow3 (tC3 (.int 10)) (tC3 (.int 29))) (tCons3 (tCall3 sp__law_digit (fun _ => E) (tCons3 (tVar3 0) (tCons3 (tC3 (.int 2)) tNil3))) tNil3))) (tCall3 sp__law_digit (fun _ => E) (tCons3 (tVar3 0) (tCons3 (tC3 (.int 3)) tNil3))))) tNil3))) (gName3 2))
    (tRet3 (tTup3 (tCons3 (tC3 (.str "number")) (tCons3 (tVar3 1) (tCons3 (tVar3 2) tNil3)))))))

def r__law_rows_kind (sp__law_digit : Sp3) (sp__law_kind : Sp3) (sp__law_number_kind : Sp3) (sp__law_names : Sp3) (E : XK3) : TS3 :=
  (tSeq3 (tAsg3 (tCall3 sp__law_names (fun _ => E) (tCons3 (tVar3 0) (tCons3 (tOp3 add3 (tC3 (.int 1)) (tCall3 sp__law_digit (fun _ => E) (tCons3 (tVar3 0) (tCons3 (tC3 (.int 3)) tNil3)))) tNil3))) (gName3 3))
    (tSeq3 (tAsg3 (tOp3 ix3 (tVar3 3) (tCall3 sp__law_digit (fun _ => E) (tCons3 (tVar3 0) (tCons3 (tCB3 len3 (tCons3 (tVar3 3) tNil3)) tNil3)))) (gName3 4))
    (tSeq3 (tAsg3 (tLst3 tNil3) (gName3 5))
    (tSeq3 (tFor3 (iSeq3 (tVar3 3)) (gName3 6) (tSeq3 (tAsg3 (tCall3 sp__law_number_kind (fun _ => E) (tCons3 (tVar3 0) tNil3)) (gName3 7))
    (tSeq3 (tIfS3 (tB3 (tOp3 eq3 (tCall3 sp__law_digit (fun _ => E) (tCons3 (tVar3 0) (tCons3 (tC3 (.int 2)) tNil3))) (tC3 (.int 1)))) (tAsg3 (tTup3 (tCons3 (tC3 (.str "text")) (tCons3 (tCall3 sp__law_digit (fun _ => E) (tCons3 (tVar3 0) (tCons3 (tC3 (.int 4)) tNil3))) tNil3))) (gName3 7)) tNext3)
    (tSeq3 (tIfS3 (tB3 (tOp3 ne3 (tVar3 6) (tVar3 4))) (tAsg3 (tCall3 sp__law_kind (fun _ => E) (tCons3 (tVar3 0) (tCons3 (tOp3 sub3 (tVar3 1) (tC3 (.int 2))) (tCons3 (tVar3 2) tNil3)))) (gName3 7)) tNext3)
    (tDrop3 (tBM3 "list" append3 (tVar3 5) (tCons3 (tTup3 (tCons3 (tVar3 6) (tCons3 (tVar3 7) tNil3))) tNil3)))))))
    (tRet3 (tTup3 (tCons3 (tC3 (.str "rows")) (tCons3 (tVar3 4) (tCons3 (tTup3 (tCons3 (tC3 (.str "record")) (tCons3 (tCB3 tup3 (tCons3 (tVar3 5) tNil3)) tNil3))) (tCons3 (tCall3 sp__law_digit (fun _ => E) (tCons3 (tVar3 0) (tCons3 (tC3 (.int 9)) tNil3))) tNil3))))))))))

def r__law_leaf_kind (sp__law_digit : Sp3) (sp__law_names : Sp3) (sp__law_number_kind : Sp3) (E : XK3) : TS3 :=
  (tSeq3 (tAsg3 (tCall3 sp__law_digit (fun _ => E) (tCons3 (tVar3 0) (tCons3 (tC3 (.int 3)) tNil3))) (gName3 1))
    (tSeq3 (tIfS3 (tB3 (tOp3 eq3 (tVar3 1) (tC3 (.int 0)))) (tRet3 (tCall3 sp__law_number_kind (fun _ => E) (tCons3 (tVar3 0) tNil3))) tNext3)
    (tSeq3 (tIfS3 (tB3 (tOp3 eq3 (tVar3 1) (tC3 (.int 1)))) (tRet3 (tTup3 (tCons3 (tC3 (.str "text")) (tCons3 (tIxD3 (tCons3 (tCall3 sp__law_digit (fun _ => E) (tCons3 (tVar3 0) (tCons3 (tC3 (.int 4)) tNil3))) (tCons3 (tCall3 sp__law_digit (fun _ => E) (tCons3 (tVar3 0) (tCons3 (tC3 (.int 61)) tNil3))) tNil3)) (tCall3 sp__law_digit (fun _ => E) (tCons3 (tVar3 0) (tCons3 (tC3 (.int 2)) tNil3)))) tNil3)))) tNext3)
    (tSeq3 (tAsg3 (tCall3 sp__law_names (fun _ => E) (tCons3 (tVar3 0) (tCons3 (tOp3 add3 (tC3 (.int 1)) (tCall3 sp__law_digit (fun _ => E) (tCons3 (tVar3 0) (tCons3 (tC3 (.int 8)) tNil3)))) tNil3))) (gName3 2))
    (tSeq3 (tIfS3 (tB3 (tOp3 eq3 (tCall3 sp__law_digit (fun _ => E) (tCons3 (tVar3 0) (tCons3 (tC3 (.int 2)) tNil3))) (tC3 (.int 1)))) (tDrop3 (tBM03 "list" reverse3 (tVar3 2))) tNext3)
    (tRet3 (tTup3 (tCons3 (tC3 (.str "choice")) (tCons3 (tCB3 tup3 (tCons3 (tVar3 2) tNil3)) tNil3)))))))))

def r__law_kind (sp__law_record_kind : Sp3) (sp__law_rows_kind : Sp3) (sp__law_digit : Sp3) (sp__law_kind : Sp3) (sp__law_leaf_kind : Sp3) (E : XK3) : TS3 :=
  (tSeq3 (tAsg3 (tCall3 sp__law_digit (fun _ => E) (tCons3 (tVar3 0) (tCons3 (tC3 (.int 6)) tNil3))) (gName3 3))
    (tSeq3 (tAsg3 (tOp3 sub3 (tOp3 ix3 (tVar3 2) (tC3 (.int 0))) (tC3 (.int 5))) (gSub3 (tVar3 2) (tC3 (.int 0))))
    (tSeq3 (tIfS3 (tOr3 (tB3 (tOp3 lt3 (tVar3 3) (tC3 (.int 2)))) (tOr3 (tB3 (tOp3 lt3 (tVar3 1) (tC3 (.int 2)))) (tB3 (tOp3 lt3 (tOp3 ix3 (tVar3 2) (tC3 (.int 0))) (tC3 (.int 0)))))) (tRet3 (tCall3 sp__law_leaf_kind (fun _ => E) (tCons3 (tVar3 0) tNil3))) tNext3)
    (tSeq3 (tIfS3 (tB3 (tOp3 eq3 (tVar3 3) (tC3 (.int 2)))) (tRet3 (tTup3 (tCons3 (tC3 (.str "list")) (tCons3 (tCall3 sp__law_kind (fun _ => E) (tCons3 (tVar3 0) (tCons3 (tOp3 sub3 (tVar3 1) (tC3 (.int 1))) (tCons3 (tVar3 2) tNil3)))) (tCons3 (tCall3 sp__law_digit (fun _ => E) (tCons3 (tVar3 0) (tCons3 (tC3 (.int 9)) tNil3))) tNil3))))) tNext3)
    (tSeq3 (tIfS3 (tAnd3 (tB3 (tOp3 eq3 (tVar3 3) (tC3 (.int 3)))) (tB3 (tOp3 gt3 (tVar3 1) (tC3 (.int 2))))) (tRet3 (tCall3 sp__law_rows_kind (fun _ => E) (tCons3 (tVar3 0) (tCons3 (tVar3 1) (tCons3 (tVar3 2) tNil3))))) tNext3)
    (tRet3 (tCall3 sp__law_record_kind (fun _ => E) (tCons3 (tVar3 0) (tCons3 (tVar3 1) (tCons3 (tVar3 2) tNil3))))))))))

def r__law_mixed (E : XK3) : TS3 :=
  (tSeq3 (tAsg3 (tOp3 mod3 (tOp3 mul3 (tOp3 add3 (tOp3 add3 (tOp3 mod3 (tVar3 0) (tC3 (.int 1000000007))) (tOp3 mul3 (tC3 (.int 7919)) (tVar3 1))) (tC3 (.int 1))) (tC3 (.int 48271))) (tC3 (.int 2147483647))) (gName3 2))
    (tRet3 (tOp3 mod3 (tOp3 mul3 (tOp3 mod3 (tOp3 mul3 (tVar3 2) (tVar3 2)) (tC3 (.int 2147483629))) (tC3 (.int 69621))) (tC3 (.int 2147483647)))))

def r__law_cell_at (E : XK3) : TS3 :=
  (tSeq3 (tIfS3 (tB3 (tOp3 lt3 (tVar3 1) (tCB3 len3 (tCons3 (tVar3 0) tNil3)))) (tRet3 (tOp3 ix3 (tVar3 0) (tVar3 1))) tNext3)
    (tRet3 (tC3 (.int 0))))

def r__law_own (sp__law_mixed : Sp3) (sp__law_cell_at : Sp3) (E : XK3) : TS3 :=
  (tSeq3 (tAsg3 (tCall3 sp__law_cell_at (fun _ => E) (tCons3 (tVar3 0) (tCons3 (tVar3 1) tNil3))) (gName3 3))
    (tSeq3 (tAsg3 (tC3 (.int 0)) (gName3 4))
    (tSeq3 (tFor3 (iRng13 (tCons3 (tC3 (.int 40)) tNil3)) (gName3 5) (tAsg3 (tOp3 add3 (tOp3 mul3 (tVar3 4) (tC3 (.int 2147483647))) (tCall3 sp__law_mixed (fun _ => E) (tCons3 (tOp3 add3 (tOp3 add3 (tOp3 mod3 (tCB3 sum3 (tCons3 (tVar3 0) tNil3)) (tOp3 pow3 (tC3 (.int 10)) (tC3 (.int 60)))) (tVar3 3)) (tVar3 1)) (tCons3 (tOp3 add3 (tOp3 add3 (tOp3 mul3 (tC3 (.int 400)) (tVar3 1)) (tOp3 mul3 (tC3 (.int 40)) (tVar3 2))) (tVar3 5)) tNil3)))) (gName3 4)))
    (tSeq3 (tIfS3 (tAnd3 (tB3 (tOp3 ge3 (tVar3 3) (tOp3 pow3 (tC3 (.int 10)) (tC3 (.int 18))))) (tB3 (tOp3 eq3 (tVar3 2) (tC3 (.int 0))))) (tRet3 (tLst3 (tCons3 (tOp3 add3 (tOp3 mod3 (tVar3 3) (tOp3 pow3 (tC3 (.int 10)) (tC3 (.int 60)))) (tOp3 mul3 (tOp3 div3 (tVar3 4) (tC3 (.int 8))) (tOp3 pow3 (tC3 (.int 10)) (tC3 (.int 60))))) tNil3))) tNext3)
    (tRet3 (tLst3 (tCons3 (tOp3 div3 (tVar3 4) (tC3 (.int 8))) tNil3)))))))

def r_law (sp_kind_text : Sp3) (sp_read_kind : Sp3) (sp__law_loose : Sp3) (sp__law_tight : Sp3) (sp__law_kind_words : Sp3) (sp__law_kind : Sp3) (sp__law_own : Sp3) (E : XK3) : TS3 :=
  (tSeq3 (tFor3 (iRng13 (tCons3 (tCB3 min3 (tCons3 (tC3 (.int 12)) (tCons3 (tOp3 add3 (tC3 (.int 1)) (tCB3 len3 (tCons3 (tVar3 0) tNil3))) tNil3))) tNil3)) (gName3 1) (tFor3 (iRng13 (tCons3 (tC3 (.int 5)) tNil3)) (gName3 2) (tSeq3 (tAsg3 (tCall3 sp__law_own (fun _ => E) (tCons3 (tVar3 0) (tCons3 (tVar3 1) (tCons3 (tVar3 2) tNil3)))) (gName3 3))
    (tSeq3 (tAsg3 (tCall3 sp__law_kind (fun _ => E) (tCons3 (tVar3 3) (tCons3 (tC3 (.int 5)) (tCons3 (tLst3 (tCons3 (tC3 (.int 30)) tNil3)) tNil3)))) (gName3 4))
    (tSeq3 (tAsg3 (tCall3 sp__law_kind_words (fun _ => E) (tCons3 (tVar3 4) tNil3)) (gName3 5))
    (tSeq3 (tAsg3 (tCall3 sp__law_tight (fun _ => E) (tCons3 (tVar3 5) tNil3)) (gName3 6))
    (tIfS3 (tOr3 (tB3 (tOp3 ne3 (tCall3 sp_kind_text (fun _ => E) (tCons3 (tVar3 4) tNil3)) (tVar3 6))) (tOr3 (tB3 (tOp3 ne3 (tCall3 sp_read_kind (fun _ => E) (tCons3 (tVar3 6) tNil3)) (tVar3 4))) (tB3 (tOp3 ne3 (tCall3 sp_read_kind (fun _ => E) (tCons3 (tCall3 sp__law_loose (fun _ => E) (tCons3 (tVar3 5) (tCons3 (tVar3 3) tNil3))) tNil3)) (tVar3 4))))) (tRet3 (tC3 (.bl false))) tNext3)))))))
    (tRet3 (tC3 (.bl true))))

end O85

end F_R85

section F_K1
/-! K1: kinds as plain data, their texts, their tokens. -/
namespace Old
open PySem PySem.Spec PyProof.Rows L2 L3
/-- a text by its signs -/
def T (l : List Nat) : Str := ⟨l.toArray⟩
theorem T_app {a b : List Nat} : T a ++ T b = T (a ++ b) := by
  show (⟨a.toArray ++ b.toArray⟩ : Str) = _
  simp [T]
theorem T_len {a : List Nat} : (T a).length = a.length := by simp [T, Str.length]
theorem T_cps {a : List Nat} : (T a).cps.toList = a := by simp [T]
theorem T_inj {a b : List Nat} : (T a = T b) = (a = b) := propext ⟨fun e => by simpa [T_cps] using congrArg (fun z : Str => z.cps.toList) e, fun e => by rw [e]⟩
theorem T_of {s : Str} : T s.cps.toList = s := by simp [T]
theorem ofS {s : String} : Str.ofString s = T (s.toList.map Char.toNat) := by rw [Str.ofString_eq_toList]; rfl
theorem T_nil : (Str.empty) = T [] := rfl
/-- ys with s between -/
def sepBy {α : Type} (s : List α) : List (List α) → List α
  | [] => []
  | [x] => x
  | x :: y :: r => x ++ s ++ sepBy s (y :: r)
theorem join_T {s : List Nat} : ∀ ys : List (List Nat), Str.join (T s) (ys.map T) = T (sepBy s ys)
  | [] => rfl
  | [x] => rfl
  | x :: y :: r => by
    show T x ++ T s ++ Str.join (T s) ((y :: r).map T) = _
    rw [join_T (y :: r), T_app, T_app]
    rfl
theorem sepBy_len {α : Type} {s : List α} : ∀ ys : List (List α), ys ≠ [] → (sepBy s ys).length + s.length = (ys.map (·.length)).sum + ys.length * s.length
  | [], h => (h rfl).elim
  | [x], _ => by simp [sepBy]
  | x :: y :: r, _ => by
    have := sepBy_len (s := s) (y :: r) (List.cons_ne_nil _ _)
    simp only [sepBy, List.length_append, List.map_cons, List.sum_cons, List.length_cons] at this ⊢
    simp only [Nat.add_mul, Nat.one_mul] at this ⊢
    omega
theorem sepBy_le {α : Type} {s : List α} (ys : List (List α)) : (ys.map (·.length)).sum + ys.length * s.length ≤ (sepBy s ys).length + s.length := by
  cases ys with
  | nil => simp [sepBy]
  | cons y r => exact Nat.le_of_eq (sepBy_len _ (List.cons_ne_nil _ _)).symm
/-- an int's text -/
def intL (i : Int) : List Nat := (Str.ofString (toString i)).cps.toList
theorem intL_T {i : Int} : Str.ofString (toString i) = T (intL i) := T_of.symm
/-- c ( .. , .. ) -/
def brk (w : List Nat) (ys : List (List Nat)) : List Nat := w ++ [40] ++ sepBy [44, 32] ys ++ [41]
mutual
inductive Kd where
  | number (lo hi : Int)
  | text (n : Int)
  | choice (ws : List (List Nat))
  | list (k : Kd) (n : Int)
  | record (fs : Kds)
  | rows (key : List Nat) (k : Kd) (n : Int)
inductive Kds where
  | nil
  | cons (name : List Nat) (k : Kd) (r : Kds)
end
def wNumber : List Nat := [110, 117, 109, 98, 101, 114]
def wText : List Nat := [116, 101, 120, 116]
def wChoice : List Nat := [99, 104, 111, 105, 99, 101]
def wList : List Nat := [108, 105, 115, 116]
def wRecord : List Nat := [114, 101, 99, 111, 114, 100]
def wRows : List Nat := [114, 111, 119, 115]
theorem s_number : Str.ofString "number" = T wNumber := by decide
theorem s_text : Str.ofString "text" = T wText := by decide
theorem s_choice : Str.ofString "choice" = T wChoice := by decide
theorem s_list : Str.ofString "list" = T wList := by decide
theorem s_record : Str.ofString "record" = T wRecord := by decide
theorem s_rows : Str.ofString "rows" = T wRows := by decide
mutual
def Kd.enc : Kd → D
  | .number lo hi => .tup [.str "number", .int lo, .int hi]
  | .text n => .tup [.str "text", .int n]
  | .choice ws => .tup [.str "choice", .tup (ws.map fun w => .str (T w))]
  | .list k n => .tup [.str "list", k.enc, .int n]
  | .record fs => .tup [.str "record", .tup fs.enc]
  | .rows key k n => .tup [.str "rows", .str (T key), k.enc, .int n]
def Kds.enc : Kds → List D
  | .nil => []
  | .cons name k r => .tup [.str (T name), k.enc] :: r.enc
end
def Kds.toL : Kds → List (List Nat × Kd)
  | .nil => []
  | .cons name k r => (name, k) :: r.toL
def Kds.names : Kds → List (List Nat)
  | .nil => []
  | .cons name _ r => name :: r.names
theorem Kds.enc_map : ∀ fs : Kds, fs.enc = fs.toL.map fun q => .tup [.str (T q.1), q.2.enc]
  | .nil => by simp [Kds.enc, Kds.toL]
  | .cons name k r => by simp [Kds.enc, Kds.toL, Kds.enc_map r]
theorem Kds.names_map : ∀ fs : Kds, fs.names = fs.toL.map (·.1)
  | .nil => rfl
  | .cons name k r => by simp [Kds.names, Kds.toL, Kds.names_map r]
mutual
def Kd.dep : Kd → Nat
  | .list k _ => k.dep + 1
  | .record fs => fs.dep + 1
  | .rows _ k _ => k.dep + 1
  | _ => 1
def Kds.dep : Kds → Nat
  | .nil => 0
  | .cons _ k r => max k.dep r.dep
end
mutual
def Kd.size : Kd → Nat
  | .list k _ => k.size + 1
  | .record fs => fs.size + 1
  | .rows _ k _ => k.size + 1
  | _ => 1
def Kds.size : Kds → Nat
  | .nil => 0
  | .cons _ k r => k.size + r.size
end
theorem Kds.dep_mem : ∀ {fs : Kds} {q : List Nat × Kd}, q ∈ fs.toL → q.2.dep ≤ fs.dep
  | .nil, _, h => by cases h
  | .cons n k r, q, h => by
    simp only [Kds.toL, List.mem_cons] at h
    simp only [Kds.dep]
    rcases h with rfl | h
    · exact Nat.le_max_left _ _
    · exact Nat.le_trans (Kds.dep_mem h) (Nat.le_max_right _ _)
/-- every int of it can be written -/
def NumOk (i : Int) : Prop := i.natAbs.log2 < 1920
mutual
def Kd.nums : Kd → Prop
  | .number lo hi => NumOk lo ∧ NumOk hi
  | .text n => NumOk n
  | .choice _ => True
  | .list k n => k.nums ∧ NumOk n
  | .record fs => fs.nums
  | .rows _ k n => k.nums ∧ NumOk n
def Kds.nums : Kds → Prop
  | .nil => True
  | .cons _ k r => k.nums ∧ r.nums
end
theorem Kds.nums_mem : ∀ {fs : Kds} {q : List Nat × Kd}, fs.nums → q ∈ fs.toL → q.2.nums
  | .nil, _, _, h => by cases h
  | .cons n k r, q, hn, h => by
    simp only [Kds.toL, List.mem_cons] at h
    simp only [Kds.nums] at hn
    rcases h with rfl | h
    · exact hn.1
    · exact Kds.nums_mem hn.2 h
/-- name: text, .. -/
def pairL (n t : List Nat) : List Nat := n ++ [58, 32] ++ t
mutual
def Kd.txt : Kd → List Nat
  | .number lo hi => brk wNumber [intL lo, intL hi]
  | .text n => brk wText [intL n]
  | .choice ws => brk wChoice ws
  | .list k n => brk wList [intL n, k.txt]
  | .record fs => brk wRecord fs.txts
  | .rows key k n => brk wRows [key, intL n, k.txt]
def Kds.txts : Kds → List (List Nat)
  | .nil => []
  | .cons name k r => pairL name k.txt :: r.txts
end
theorem Kds.txts_map : ∀ fs : Kds, fs.txts = fs.toL.map fun q => pairL q.1 q.2.txt
  | .nil => by simp [Kds.txts, Kds.toL]
  | .cons name k r => by simp [Kds.txts, Kds.toL, Kds.txts_map r]
/-! tokens -/
inductive Lx where
  | word (s : List Nat)
  | num (i : Int)
  | text (s : List Nat)
  | sign (c : Nat)
  | fin
def Lx.sort : Lx → Str
  | .word _ => "word"
  | .num _ => "number"
  | .text _ => "text"
  | .sign _ => "sign"
  | .fin => "end"
def Lx.val : Lx → D
  | .word s => .str (T s)
  | .num i => .int i
  | .text s => .str (T s)
  | .sign c => .str (T [c])
  | .fin => .str (T [])
def Lx.enc (t : Lx) : D := .tup [.str t.sort, t.val]
mutual
/-- what stands between a kind's brackets -/
def Kd.parts : Kd → List Lx
  | .number lo hi => [.num lo, .sign 44, .num hi]
  | .text n => [.num n]
  | .choice ws => sepBy [.sign 44] (ws.map fun w => [Lx.word w])
  | .list k n => .num n :: .sign 44 :: (.word k.wordK :: .sign 40 :: (k.parts ++ [.sign 41]))
  | .record fs => sepBy [.sign 44] fs.toks
  | .rows key k n => .word key :: .sign 44 :: .num n :: .sign 44 :: (.word k.wordK :: .sign 40 :: (k.parts ++ [.sign 41]))
def Kds.toks : Kds → List (List Lx)
  | .nil => []
  | .cons name k r => (.word name :: .sign 58 :: (.word k.wordK :: .sign 40 :: (k.parts ++ [.sign 41]))) :: r.toks
def Kd.wordK : Kd → List Nat
  | .number _ _ => wNumber
  | .text _ => wText
  | .choice _ => wChoice
  | .list _ _ => wList
  | .record _ => wRecord
  | .rows _ _ _ => wRows
end
def Kd.toks (k : Kd) : List Lx := .word k.wordK :: .sign 40 :: (k.parts ++ [.sign 41])
theorem Kds.toks_map : ∀ fs : Kds, fs.toks = fs.toL.map fun q => .word q.1 :: .sign 58 :: q.2.toks
  | .nil => by simp [Kds.toks, Kds.toL]
  | .cons name k r => by simp [Kds.toks, Kds.toL, Kds.toks_map r, Kd.toks]
theorem lit_op : Str.ofString "(" = T [40] := by decide
theorem lit_cl : Str.ofString ")" = T [41] := by decide
theorem lit_cs : Str.ofString ", " = T [44, 32] := by decide
theorem lit_ks : Str.ofString ": " = T [58, 32] := by decide
theorem lit_comma : Str.ofString "," = T [44] := by decide
theorem lit_colon : Str.ofString ":" = T [58] := by decide
mutual
/-- no row of it is longer than a thousand -/
def Kd.wide : Kd → Prop
  | .choice ws => ws ≠ [] ∧ ws.length < 1000
  | .list k _ => k.wide
  | .record fs => fs.wide ∧ fs.toL.length < 1000
  | .rows _ k _ => k.wide
  | _ => True
def Kds.wide : Kds → Prop
  | .nil => True
  | .cons _ k r => k.wide ∧ r.wide
end
theorem Kds.wide_mem : ∀ {fs : Kds} {q : List Nat × Kd}, fs.wide → q ∈ fs.toL → q.2.wide
  | .nil, _, _, h => by cases h
  | .cons n k r, q, hn, h => by
    simp only [Kds.toL, List.mem_cons] at h
    simp only [Kds.wide] at hn
    rcases h with rfl | h
    · exact hn.1
    · exact Kds.wide_mem hn.2 h
end Old

end F_K1

section F_M1
/-! M1: what kind_text does. -/
namespace O85
open PySem PySem.Spec PyProof.Rows L2 L3 Old
local macro_rules
  | `(tactic| walk_at "sem") => `(tactic| simp only [↓e_next, ↓e_seq, ↓e_brk, ↓e_cont, ↓e_drop, ↓e_ret, ↓e_retN, ↓e_if, ↓e_asg, ↓e_par, ↓e_for, ↓e_raise, ↓e_sfld, ↓e_name, ↓e_gnil, ↓e_gcons, ↓e_gtup, ↓e_gsub, ↓e_setL, ↓e_var, ↓e_c, ↓e_op, ↓e_neg, ↓e_andV, ↓e_orV, ↓e_notV, ↓e_ifE, ↓e_chain, ↓e_chain4, ↓e_tup, ↓e_lst, ↓e_ixD, ↓e_inD, ↓e_sl, ↓e_noPart, ↓e_part, ↓e_cb, ↓e_cl, ↓e_joinL, ↓e_new, ↓e_lc, ↓e_bm, ↓e_bm0, ↓e_call, ↓e_meth, ↓e_fld, ↓e_make, ↓e_isN, ↓e_lenSet, ↓e_nil, ↓e_cons, ↓e_b, ↓e_and, ↓e_or, ↓e_not, ↓e_yes, ↓e_seqI, ↓e_rng1, ↓e_rng2, ↓e_addI, ↓e_addS, ↓e_addT, ↓e_addR, ↓e_sub, ↓e_div, ↓e_mod, ↓e_pow, ↓e_mulI, ↓e_mulS, ↓e_ltI, ↓e_leI, ↓e_gtI, ↓e_geI, ↓e_leS, ↓e_eqI, ↓e_eqS, ↓e_neI, ↓e_neS, ↓e_inS, ↓e_isN3, ↓e_ixT, ↓e_ixRo, ↓e_ixR, ↓e_ixS, ↓e_lenS, ↓e_lenT, ↓e_lenRo, ↓e_lenR, ↓e_intI, ↓e_intB, ↓e_intS, ↓e_strI, ↓e_tupR, ↓e_minI, ↓e_maxI, ↓e_app, ↓e_rev, ↓e_join, ↓e_find3, start3, List.map_cons, List.map_nil, List.length_cons, List.length_nil, List.cons_append, List.nil_append, List.replicate, List.getElem?_cons_zero, List.getElem?_cons_succ, List.set_cons_zero, List.set_cons_succ, Nat.reduceAdd, Nat.reduceSub, Nat.zero_add, atI0, atI1, atI2, atI3, Option.some.injEq, if_true, Bool.false_eq_true, if_false, Bool.not_true, Bool.not_false, ofS_inj, String.reduceEq, decide_true, decide_false, exists_and_left, exists_eq_left', exists_eq_left, O3.ins.injEq, O3.lst.injEq, eq_self, true_and, and_true, ↓reduceIte, exists_const, Bool.xor_false, Bool.false_xor, Bool.true_xor, seq_ref, lst_ref, tyD, lkW, lkA, lkD, ptW, ptA, ptD, i_non_int, i_non_bool, i_non_str, i_non_tuple, i_non_list, i_bl_int, i_bl_bool, i_bl_str, i_bl_tuple, i_bl_list, i_int_int, i_int_bool, i_int_str, i_int_tuple, i_int_list, i_str_int, i_str_bool, i_str_str, i_str_tuple, i_str_list, i_tup_int, i_tup_bool, i_tup_str, i_tup_tuple, i_tup_list, i_rol_int, i_rol_bool, i_rol_str, i_rol_tuple, i_rol_list, lm_next_is, lm_due, lm_taken, lm_opened, lm_closed, lm_ended, lm_goes_on, lm_names, lm_kind_pairs, lm_name_pairs, lm_value_pairs, lm_values, lm_kind_parts, lm_kind, lm_value, lm_part, lm_parts, lm_turn, lm_piece, lm_path, *])
  | `(tactic| walk_at "sem0") => `(tactic| simp only [↓e_next, ↓e_seq, ↓e_brk, ↓e_cont, ↓e_drop, ↓e_ret, ↓e_retN, ↓e_if, ↓e_asg, ↓e_par, ↓e_for, ↓e_raise, ↓e_sfld, ↓e_name, ↓e_gnil, ↓e_gcons, ↓e_gtup, ↓e_gsub, ↓e_setL, ↓e_var, ↓e_c, ↓e_op, ↓e_neg, ↓e_andV, ↓e_orV, ↓e_notV, ↓e_ifE, ↓e_chain, ↓e_chain4, ↓e_tup, ↓e_lst, ↓e_ixD, ↓e_inD, ↓e_sl, ↓e_noPart, ↓e_part, ↓e_cb, ↓e_cl, ↓e_joinL, ↓e_new, ↓e_lc, ↓e_bm, ↓e_bm0, ↓e_call, ↓e_meth, ↓e_fld, ↓e_make, ↓e_isN, ↓e_lenSet, ↓e_nil, ↓e_cons, ↓e_b, ↓e_and, ↓e_or, ↓e_not, ↓e_yes, ↓e_seqI, ↓e_rng1, ↓e_rng2, ↓e_addI, ↓e_addS, ↓e_addT, ↓e_addR, ↓e_sub, ↓e_div, ↓e_mod, ↓e_pow, ↓e_mulI, ↓e_mulS, ↓e_ltI, ↓e_leI, ↓e_gtI, ↓e_geI, ↓e_leS, ↓e_eqI, ↓e_eqS, ↓e_neI, ↓e_neS, ↓e_inS, ↓e_isN3, ↓e_ixT, ↓e_ixRo, ↓e_ixR, ↓e_ixS, ↓e_lenS, ↓e_lenT, ↓e_lenRo, ↓e_lenR, ↓e_intI, ↓e_intB, ↓e_intS, ↓e_strI, ↓e_tupR, ↓e_minI, ↓e_maxI, ↓e_app, ↓e_rev, ↓e_join, ↓e_find3, start3, List.map_cons, List.map_nil, List.length_cons, List.length_nil, List.cons_append, List.nil_append, List.replicate, List.getElem?_cons_zero, List.getElem?_cons_succ, List.set_cons_zero, List.set_cons_succ, Nat.reduceAdd, Nat.reduceSub, Nat.zero_add, atI0, atI1, atI2, atI3, Option.some.injEq, if_true, Bool.false_eq_true, if_false, Bool.not_true, Bool.not_false, ofS_inj, String.reduceEq, decide_true, decide_false, exists_and_left, exists_eq_left', exists_eq_left, O3.ins.injEq, O3.lst.injEq, eq_self, true_and, and_true, ↓reduceIte, exists_const, Bool.xor_false, Bool.false_xor, Bool.true_xor, seq_ref, lst_ref, tyD, lkW, lkA, lkD, ptW, ptA, ptD, i_non_int, i_non_bool, i_non_str, i_non_tuple, i_non_list, i_bl_int, i_bl_bool, i_bl_str, i_bl_tuple, i_bl_list, i_int_int, i_int_bool, i_int_str, i_int_tuple, i_int_list, i_str_int, i_str_bool, i_str_str, i_str_tuple, i_str_list, i_tup_int, i_tup_bool, i_tup_str, i_tup_tuple, i_tup_list, i_rol_int, i_rol_bool, i_rol_str, i_rol_tuple, i_rol_list, lm_next_is, lm_due, lm_taken, lm_opened, lm_closed, lm_ended, lm_goes_on, lm_names, lm_kind_pairs, lm_name_pairs, lm_value_pairs, lm_values, lm_kind_parts, lm_kind, lm_value, lm_part, lm_parts, lm_turn, lm_piece, lm_path])
/-! kind_text -/
def spBrk : Sp3 := fun ds h Q _ => ∃ (w : List Nat) (t : D) (ys : List (List Nat)), (ds = [.str (T w), t]) ∧ seqOf h t = some (ys.map fun y => .str (T y)) ∧ (brk w ys).length ≤ sizeLine ∧ Q (.str (T (brk w ys))) h
theorem strs_T (ys : List (List Nat)) : (ys.map fun y => D.str (T y)) = (ys.map T).map D.str := by simp
theorem sum_T (ys : List (List Nat)) : ((ys.map T).map (·.length)).sum = (ys.map (·.length)).sum := by simp [Function.comp_def, T_len]
theorem sem_in_brackets (ds : List D) (h : Hp3) (Q : VK3) (E : XK3) (s : spBrk ds h Q E) : r_in_brackets (endX E) (endsOf Q) (start3 ["word", "texts"] ds) h := by
  obtain ⟨w, t, ys, rfl, e1, e2, q⟩ := s
  unfold r_in_brackets
  walk_at "sem"
  have l := sepBy_le (s := [44, 32]) ys
  have z := sizeLine_eq
  simp only [brk, List.length_append, List.length_cons, List.length_nil] at e2 l
  refine ⟨?_, ys.map T, strs_T ys, ?_⟩
  · rw [lit_op, T_len, T_len]
    simp only [List.length_cons, List.length_nil]
    omega
  rw [sum_T, lit_op, lit_cl, lit_cs, join_T]
  simp only [T_app, T_len, List.length_append, List.length_cons, List.length_nil, List.length_map] at l ⊢
  refine ⟨by omega, by omega, by omega, ends_rt ?_⟩
  exact q
theorem mem_le_sum : ∀ {l : List Nat} {x : Nat}, x ∈ l → x ≤ l.sum
  | [], _, h => by cases h
  | y :: r, x, h => by
    simp only [List.mem_cons] at h
    simp only [List.sum_cons]
    rcases h with rfl | h
    · omega
    · have := mem_le_sum h
      omega
theorem sum_ge {α : Type} {f : α → Nat} (c : Nat) (hf : ∀ x, c ≤ f x) : ∀ l : List α, l.length * c ≤ (l.map f).sum
  | [] => by simp
  | x :: r => by
    have := sum_ge c hf r
    have := hf x
    simp only [List.length_cons, List.map_cons, List.sum_cons, Nat.add_mul, Nat.one_mul]
    omega
/-- a comprehension over encoded things, its values plain -/
theorem lc3_maps {α : Type} {still : Hp3 → Prop} {g : TG3} {te : TE3} {σ : St3} {h : Hp3} {QA : List D → Hp3 → Prop} (f F : α → D) (hs : still h) : ∀ (xs : List α) (acc : List D), acc.length + xs.length ≤ sizeLine → (∀ x ∈ xs, ∀ Q : VK3, Q (F x) h → g (f x) σ h fun σ1 h1 => te σ1 h1 Q) → QA (acc ++ xs.map F) h → lc3 still g tYes3 te σ (xs.map f) acc h QA
  | [], acc, _, _, q => ⟨hs, by simpa using q⟩
  | d :: ds, acc, hl, hf, q => ⟨hs, by
      refine hf d List.mem_cons_self (fun y h3 => acc.length < sizeLine ∧ lc3 still g tYes3 te σ (ds.map f) (acc ++ [y]) h3 QA) ⟨?_, ?_⟩
      · simp only [List.length_cons] at hl
        omega
      · refine lc3_maps f F hs ds _ (by simp only [List.length_append, List.length_cons, List.length_nil] at hl ⊢; omega) (fun d' m => hf d' (List.mem_cons_of_mem _ m)) ?_
        simpa using q⟩
def spPairs : Sp3 := fun ds h Q _ => ∃ (p : Addr) (ys : List (List Nat × List Nat)), (ds = [.ref p]) ∧ h p = some (.lst (ys.map fun y => .tup [.str (T y.1), .str (T y.2)])) ∧ (sepBy [44, 32] (ys.map fun y => pairL y.1 y.2)).length + 4 ≤ sizeLine ∧ Q (.str (T (sepBy [44, 32] (ys.map fun y => pairL y.1 y.2)))) h
theorem sem_pairs_text (ds : List D) (h : Hp3) (Q : VK3) (E : XK3) (s : spPairs ds h Q E) : r_pairs_text (endX E) (endsOf Q) (start3 ["pairs", "name", "text"] ds) h := by
  obtain ⟨p, ys, rfl, e1, e2, q⟩ := s
  have z := sizeLine_eq
  have l := sepBy_le (s := [44, 32]) (ys.map fun y => pairL y.1 y.2)
  have l2 : ys.length * 2 ≤ ((ys.map fun y => pairL y.1 y.2).map (·.length)).sum := by
    rw [List.map_map]
    exact sum_ge 2 (fun y => by simp only [Function.comp, pairL, List.length_append, List.length_cons, List.length_nil]; omega) ys
  simp only [List.length_map, List.length_cons, List.length_nil] at l
  unfold r_pairs_text
  walk_at "sem"
  refine lc3_maps (fun y : List Nat × List Nat => D.tup [.str (T y.1), .str (T y.2)]) (fun y => .str (T (pairL y.1 y.2))) e1 ys [] (by simp only [List.length_nil]; omega) (fun y hy Q hq => ?_) ?_
  · have hm : (pairL y.1 y.2).length ≤ _ := mem_le_sum (List.mem_map_of_mem (f := (·.length)) (List.mem_map_of_mem (f := fun y : List Nat × List Nat => pairL y.1 y.2) hy))
    have hp : (pairL y.1 y.2).length = y.1.length + 2 + y.2.length := by simp only [pairL, List.length_append, List.length_cons, List.length_nil]
    simp only [wipe3]
    walk_at "sem0"
    rw [lit_ks]
    simp only [T_app, T_len, List.length_append, List.length_cons, List.length_nil, e_addS]
    refine ⟨by omega, by omega, hq⟩
  · refine ⟨ys.map fun y => T (pairL y.1 y.2), by simp, ?_, ?_⟩
    · have e3 : ((ys.map fun y => T (pairL y.1 y.2)).map (·.length)).sum = ((ys.map fun y => pairL y.1 y.2).map (·.length)).sum := by simp [Function.comp_def, T_len]
      rw [e3, lit_cs, T_len]
      simp only [List.length_map, List.length_cons, List.length_nil]
      omega
    · have e3 : (ys.map fun y => T (pairL y.1 y.2)) = (ys.map fun y => pairL y.1 y.2).map T := by simp
      rw [e3, lit_cs, join_T]
      exact ends_rt q
def spKT (n : Nat) : Sp3 := fun ds h Q _ => ∃ k : Kd, (ds = [k.enc]) ∧ k.dep ≤ n ∧ k.nums ∧ k.txt.length + 4 ≤ sizeLine ∧ Q (.str (T k.txt)) h
theorem sem_kind_text (n : Nat) (ds : List D) (h : Hp3) (Q : VK3) (E : XK3) (s : spKT (n + 1) ds h Q E) : r_kind_text spBrk (spKT n) spPairs (endX E) (endsOf Q) (start3 ["kind", "word", "name", "inner"] ds) h := by
  obtain ⟨k, rfl, e1, e2, e3, q⟩ := s
  have z := sizeLine_eq
  have z2 : (2 : Nat) ≤ sizeLine := by omega
  have z3 : (3 : Nat) ≤ sizeLine := by omega
  have z1 : (1 : Nat) ≤ sizeLine := by omega
  unfold r_kind_text
  cases k with
  | number lo hi =>
    simp only [Kd.nums, NumOk] at e2
    simp only [Kd.txt] at q e3
    simp only [Kd.enc]
    walk_at "sem"
    refine ⟨by decide, fun p np => ⟨wNumber, .ref p, [intL lo, intL hi], by rw [s_number], ?_, by omega, ?_⟩⟩
    · rw [seq_ref, upd3_same, intL_T, intL_T]
      rfl
    · exact ends_rt2 (sub_upd np) q
  | text m =>
    simp only [Kd.nums, NumOk] at e2
    simp only [Kd.txt] at q e3
    simp only [Kd.enc]
    walk_at "sem"
    refine ⟨by decide, fun p np => ⟨wText, .ref p, [intL m], by rw [s_text], ?_, by omega, ?_⟩⟩
    · rw [seq_ref, upd3_same, intL_T]
      rfl
    · exact ends_rt2 (sub_upd np) q
  | choice ws =>
    simp only [Kd.txt] at q e3
    simp only [Kd.enc]
    walk_at "sem"
    exact ⟨wChoice, _, ws, by rw [s_choice], rfl, by omega, ends_rt q⟩
  | list k m =>
    simp only [Kd.nums, NumOk] at e2
    simp only [Kd.dep] at e1
    simp only [Kd.txt] at q e3
    simp only [Kd.enc]
    have l : k.txt.length ≤ (brk wList [intL m, k.txt]).length := by
      simp only [brk, sepBy, List.length_append]
      omega
    walk_at "sem"
    refine ⟨k, rfl, by omega, e2.1, by omega, by decide, fun p np => ⟨wList, .ref p, [intL m, k.txt], by rw [s_list], ?_, by omega, ?_⟩⟩
    · rw [seq_ref, upd3_same, intL_T]
      rfl
    · exact ends_rt2 (sub_upd np) q
  | record fs =>
    simp only [Kd.nums] at e2
    simp only [Kd.dep] at e1
    simp only [Kd.txt] at q e3
    simp only [Kd.enc]
    have et : fs.txts = (fs.toL.map fun q => (q.1, q.2.txt)).map fun y => pairL y.1 y.2 := by rw [Kds.txts_map, List.map_map]; rfl
    have l := sepBy_le (s := [44, 32]) fs.txts
    have l2 : fs.toL.length * 2 ≤ (fs.txts.map (·.length)).sum := by
      rw [Kds.txts_map, List.map_map]
      exact sum_ge 2 (fun y => by simp only [Function.comp, pairL, List.length_append, List.length_cons, List.length_nil]; omega) fs.toL
    have l3 : (sepBy [44, 32] fs.txts).length + 8 = (brk wRecord fs.txts).length := by
      simp only [brk, wRecord, List.length_append, List.length_cons, List.length_nil]
      omega
    simp only [List.length_cons, List.length_nil] at l
    walk_at "sem"
    refine ⟨by decide +kernel, ?_⟩
    rw [Kds.enc_map]
    refine lc3_maps (fun q : List Nat × Kd => D.tup [.str (T q.1), q.2.enc]) (fun q => .tup [.str (T q.1), .str (T q.2.txt)]) trivial fs.toL [] (by simp only [List.length_nil]; omega) (fun y hy Q hq => ?_) ?_
    · have hm : (pairL y.1 y.2.txt).length ≤ _ := mem_le_sum (List.mem_map_of_mem (f := (·.length)) (List.mem_map_of_mem (f := fun q : List Nat × Kd => pairL q.1 q.2.txt) hy))
      rw [← Kds.txts_map] at hm
      have hp : (pairL y.1 y.2.txt).length = y.1.length + 2 + y.2.txt.length := by simp only [pairL, List.length_append, List.length_cons, List.length_nil]
      simp only [wipe3]
      walk_at "sem0"
      exact ⟨y.2, rfl, Nat.le_trans (Kds.dep_mem hy) (by omega), Kds.nums_mem e2 hy, by omega, z2, hq⟩
    · intro p np
      refine ⟨p, fs.toL.map fun q => (q.1, q.2.txt), rfl, ?_, ?_, ?_⟩
      · rw [upd3_same, List.map_map]
        rfl
      · rw [← et]
        omega
      · rw [← et]
        walk_at "sem0"
        rw [s_record, lit_op, lit_cl]
        simp only [T_app, T_len, List.length_append, e_addS]
        simp only [wRecord, List.length_cons, List.length_nil]
        refine ⟨by omega, by omega, ends_rt2 (sub_upd np) ?_⟩
        exact q
  | rows key k m =>
    simp only [Kd.nums, NumOk] at e2
    simp only [Kd.dep] at e1
    simp only [Kd.txt] at q e3
    simp only [Kd.enc]
    have l : k.txt.length ≤ (brk wRows [key, intL m, k.txt]).length := by
      simp only [brk, sepBy, List.length_append]
      omega
    walk_at "sem"
    refine ⟨k, rfl, by omega, e2.1, by omega, by decide, fun p np => ⟨wRows, .ref p, [key, intL m, k.txt], by rw [s_rows], ?_, by omega, ?_⟩⟩
    · rw [seq_ref, upd3_same, intL_T]
      rfl
    · exact ends_rt2 (sub_upd np) q
end O85

end F_M1

section F_M2
/-! M2: what the reader does. -/
namespace O85
open PySem PySem.Spec PyProof.Rows L2 L3 Old
local macro_rules
  | `(tactic| walk_at "sem") => `(tactic| simp only [↓e_next, ↓e_seq, ↓e_brk, ↓e_cont, ↓e_drop, ↓e_ret, ↓e_retN, ↓e_if, ↓e_asg, ↓e_par, ↓e_for, ↓e_raise, ↓e_sfld, ↓e_name, ↓e_gnil, ↓e_gcons, ↓e_gtup, ↓e_gsub, ↓e_setL, ↓e_var, ↓e_c, ↓e_op, ↓e_neg, ↓e_andV, ↓e_orV, ↓e_notV, ↓e_ifE, ↓e_chain, ↓e_chain4, ↓e_tup, ↓e_lst, ↓e_ixD, ↓e_inD, ↓e_sl, ↓e_noPart, ↓e_part, ↓e_cb, ↓e_cl, ↓e_joinL, ↓e_new, ↓e_lc, ↓e_bm, ↓e_bm0, ↓e_call, ↓e_meth, ↓e_fld, ↓e_make, ↓e_isN, ↓e_lenSet, ↓e_nil, ↓e_cons, ↓e_b, ↓e_and, ↓e_or, ↓e_not, ↓e_yes, ↓e_seqI, ↓e_rng1, ↓e_rng2, ↓e_addI, ↓e_addS, ↓e_addT, ↓e_addR, ↓e_sub, ↓e_div, ↓e_mod, ↓e_pow, ↓e_mulI, ↓e_mulS, ↓e_ltI, ↓e_leI, ↓e_gtI, ↓e_geI, ↓e_leS, ↓e_eqI, ↓e_eqS, ↓e_neI, ↓e_neS, ↓e_inS, ↓e_isN3, ↓e_ixT, ↓e_ixRo, ↓e_ixR, ↓e_ixS, ↓e_lenS, ↓e_lenT, ↓e_lenRo, ↓e_lenR, ↓e_intI, ↓e_intB, ↓e_intS, ↓e_strI, ↓e_tupR, ↓e_minI, ↓e_maxI, ↓e_app, ↓e_rev, ↓e_join, ↓e_find3, start3, List.map_cons, List.map_nil, List.length_cons, List.length_nil, List.cons_append, List.nil_append, List.replicate, List.getElem?_cons_zero, List.getElem?_cons_succ, List.set_cons_zero, List.set_cons_succ, Nat.reduceAdd, Nat.reduceSub, Nat.zero_add, atI0, atI1, atI2, atI3, Option.some.injEq, if_true, Bool.false_eq_true, if_false, Bool.not_true, Bool.not_false, ofS_inj, String.reduceEq, decide_true, decide_false, exists_and_left, exists_eq_left', exists_eq_left, O3.ins.injEq, O3.lst.injEq, eq_self, true_and, and_true, ↓reduceIte, exists_const, exists_eq, exists_eq', and_self, Bool.xor_false, Bool.false_xor, Bool.true_xor, seq_ref, lst_ref, tyD, lkW, lkA, lkD, ptW, ptA, ptD, i_non_int, i_non_bool, i_non_str, i_non_tuple, i_non_list, i_bl_int, i_bl_bool, i_bl_str, i_bl_tuple, i_bl_list, i_int_int, i_int_bool, i_int_str, i_int_tuple, i_int_list, i_str_int, i_str_bool, i_str_str, i_str_tuple, i_str_list, i_tup_int, i_tup_bool, i_tup_str, i_tup_tuple, i_tup_list, i_rol_int, i_rol_bool, i_rol_str, i_rol_tuple, i_rol_list, lm_next_is, lm_due, lm_taken, lm_opened, lm_closed, lm_ended, lm_goes_on, lm_names, lm_kind_pairs, lm_name_pairs, lm_value_pairs, lm_values, lm_kind_parts, lm_kind, lm_value, lm_part, lm_parts, lm_turn, lm_piece, lm_path, *])
  | `(tactic| walk_at "sem0") => `(tactic| simp only [↓e_next, ↓e_seq, ↓e_brk, ↓e_cont, ↓e_drop, ↓e_ret, ↓e_retN, ↓e_if, ↓e_asg, ↓e_par, ↓e_for, ↓e_raise, ↓e_sfld, ↓e_name, ↓e_gnil, ↓e_gcons, ↓e_gtup, ↓e_gsub, ↓e_setL, ↓e_var, ↓e_c, ↓e_op, ↓e_neg, ↓e_andV, ↓e_orV, ↓e_notV, ↓e_ifE, ↓e_chain, ↓e_chain4, ↓e_tup, ↓e_lst, ↓e_ixD, ↓e_inD, ↓e_sl, ↓e_noPart, ↓e_part, ↓e_cb, ↓e_cl, ↓e_joinL, ↓e_new, ↓e_lc, ↓e_bm, ↓e_bm0, ↓e_call, ↓e_meth, ↓e_fld, ↓e_make, ↓e_isN, ↓e_lenSet, ↓e_nil, ↓e_cons, ↓e_b, ↓e_and, ↓e_or, ↓e_not, ↓e_yes, ↓e_seqI, ↓e_rng1, ↓e_rng2, ↓e_addI, ↓e_addS, ↓e_addT, ↓e_addR, ↓e_sub, ↓e_div, ↓e_mod, ↓e_pow, ↓e_mulI, ↓e_mulS, ↓e_ltI, ↓e_leI, ↓e_gtI, ↓e_geI, ↓e_leS, ↓e_eqI, ↓e_eqS, ↓e_neI, ↓e_neS, ↓e_inS, ↓e_isN3, ↓e_ixT, ↓e_ixRo, ↓e_ixR, ↓e_ixS, ↓e_lenS, ↓e_lenT, ↓e_lenRo, ↓e_lenR, ↓e_intI, ↓e_intB, ↓e_intS, ↓e_strI, ↓e_tupR, ↓e_minI, ↓e_maxI, ↓e_app, ↓e_rev, ↓e_join, ↓e_find3, start3, List.map_cons, List.map_nil, List.length_cons, List.length_nil, List.cons_append, List.nil_append, List.replicate, List.getElem?_cons_zero, List.getElem?_cons_succ, List.set_cons_zero, List.set_cons_succ, Nat.reduceAdd, Nat.reduceSub, Nat.zero_add, atI0, atI1, atI2, atI3, Option.some.injEq, if_true, Bool.false_eq_true, if_false, Bool.not_true, Bool.not_false, ofS_inj, String.reduceEq, decide_true, decide_false, exists_and_left, exists_eq_left', exists_eq_left, O3.ins.injEq, O3.lst.injEq, eq_self, true_and, and_true, ↓reduceIte, exists_const, exists_eq, exists_eq', and_self, Bool.xor_false, Bool.false_xor, Bool.true_xor, seq_ref, lst_ref, tyD, lkW, lkA, lkD, ptW, ptA, ptD, i_non_int, i_non_bool, i_non_str, i_non_tuple, i_non_list, i_bl_int, i_bl_bool, i_bl_str, i_bl_tuple, i_bl_list, i_int_int, i_int_bool, i_int_str, i_int_tuple, i_int_list, i_str_int, i_str_bool, i_str_str, i_str_tuple, i_str_list, i_tup_int, i_tup_bool, i_tup_str, i_tup_tuple, i_tup_list, i_rol_int, i_rol_bool, i_rol_str, i_rol_tuple, i_rol_list, lm_next_is, lm_due, lm_taken, lm_opened, lm_closed, lm_ended, lm_goes_on, lm_names, lm_kind_pairs, lm_name_pairs, lm_value_pairs, lm_values, lm_kind_parts, lm_kind, lm_value, lm_part, lm_parts, lm_turn, lm_piece, lm_path])
/-! the reader -/
def rdO (C p : Addr) (i : Nat) (d : Int) : O3 := .ins C [("words", .ref p), ("at", .int (i : Int)), ("deep", .int d)]
def okV : D → Bool
  | .str x => PyData.strOk x
  | _ => true
def isSign (t : Lx) (c : Nat) : Bool := match t with
  | .sign b => decide (b = c)
  | _ => false
structure Rd (C a p : Addr) (h : Hp3) (toks : List Lx) (i : Nat) (d : Int) : Prop where
  o : h a = some (rdO C p i d)
  l : h p = some (.lst (toks.map Lx.enc))
  k : ∀ t ∈ toks, okV t.val = true
theorem Rd.ne {C a p : Addr} {h : Hp3} {toks : List Lx} {i : Nat} {d : Int} (r : Rd C a p h toks i d) : p ≠ a := fun e => by
  have h1 := r.o
  have h2 := r.l
  rw [e, h1] at h2
  cases h2
theorem Rd.upd {C a p : Addr} {h : Hp3} {toks : List Lx} {i j : Nat} {d e : Int} (r : Rd C a p h toks i d) : Rd C a p (upd3 h a (rdO C p j e)) toks j e := ⟨upd3_same, by rw [upd3_ne r.ne]; exact r.l, r.k⟩
theorem Rd.new {C a p q : Addr} {h : Hp3} {toks : List Lx} {i : Nat} {d : Int} {o : O3} (r : Rd C a p h toks i d) (n : h q = none) : Rd C a p (upd3 h q o) toks i d := ⟨by rw [upd3_ne (ne_of_none r.o n)]; exact r.o, by rw [upd3_ne (ne_of_none r.l n)]; exact r.l, r.k⟩
theorem drop_at {toks rs : List Lx} {i : Nat} {t : Lx} (e : toks.drop i = t :: rs) : toks[i]? = some t := by
  rw [← List.head?_drop, e]
  rfl
theorem drop_next {toks rs : List Lx} {i : Nat} {t : Lx} (e : toks.drop i = t :: rs) : toks.drop (i + 1) = rs := by
  rw [← List.drop_drop, e]
  rfl
theorem drop_app {toks xs rs : List Lx} {i : Nat} (e : toks.drop i = xs ++ rs) : toks.drop (i + xs.length) = rs := by
  rw [← List.drop_drop, e]
  simp
theorem tok_at {toks rs : List Lx} {i : Nat} {t : Lx} (e : toks.drop i = t :: rs) : atI (toks.map Lx.enc) (i : Int) = some (.tup [.str t.sort, t.val]) := by
  refine L3.atI_nat ?_
  rw [List.getElem?_map, drop_at e]
  rfl
section
variable {C C2 : Addr} {ds : List D} {h : Hp3} {Q : VK3} {E : XK3}
def spTaken (C : Addr) : Sp3 := fun ds h Q _ => ∃ (a p : Addr) (toks : List Lx) (i : Nat) (d : Int) (t : Lx) (rs : List Lx), (ds = [.ref a, .str t.sort]) ∧ Rd C a p h toks i d ∧ toks.drop i = t :: rs ∧ Q t.val (upd3 h a (rdO C p (i + 1) d))
theorem sem_taken (s : spTaken C ds h Q E) : r_TextReader_taken C C2 (endX E) (endsOf Q) (start3 ["self", "sort", "found", "word"] ds) h := by
  obtain ⟨a, p, toks, i, d, t, rs, rfl, r, e, q⟩ := s
  have e1 := r.o
  have e2 := r.l
  have e3 := tok_at e
  unfold rdO at e1
  unfold r_TextReader_taken
  walk_at "sem"
  refine ⟨by decide, ends_rt ?_⟩
  exact q
def spNextIs (C : Addr) : Sp3 := fun ds h Q _ => ∃ (a p : Addr) (toks : List Lx) (i : Nat) (d : Int) (t : Lx) (rs : List Lx) (c : Nat), (ds = [.ref a, .str (T [c])]) ∧ c < 128 ∧ Rd C a p h toks i d ∧ toks.drop i = t :: rs ∧ Q (.bl (isSign t c)) h
theorem tok_eq {t : Lx} {c : Nat} (hc : c < 128) (ht : okV t.val = true) (q : Q (.bl (isSign t c)) h) : eq3 (.tup [.str t.sort, t.val]) (.tup [.str "sign", .str (T [c])]) h Q := by
  have k1 : PyData.strOk "sign" = true := by decide +kernel
  have k2 : PyData.strOk (T [c]) = true := by simp [PyData.strOk, T]; omega
  have go : ∀ (x : Str) (u : PyData), PyData.strOk x = true → PyData.canLay0 u = true → dat t.val = some u → u.depth = 0 → t.sort = x → isSign t c = ((x == ("sign" : Str)) && PyData.eqv u (.str (T [c]))) → eq3 (.tup [.str t.sort, t.val]) (.tup [.str "sign", .str (T [c])]) h Q := by
    intro x u kx ku eu du ex es
    refine ⟨.tuple [.str t.sort, u], .tuple [.str "sign", .str (T [c])], ?_, rfl, ?_, ?_, ?_⟩
    · simp only [datH, dat, dats, eu, Option.map]
    · simp only [SeqAt.shaped, PyData.canLay0, PyData.canLayAll0, PyData.depth, PyData.depthAll, ex, kx, ku, du]
      rfl
    · simp only [SeqAt.shaped, PyData.canLay0, PyData.canLayAll0, PyData.depth, PyData.depthAll, k1, k2]
      rfl
    · have e : PyData.eqv (.tuple [.str t.sort, u]) (.tuple [.str "sign", .str (T [c])]) = isSign t c := by
        simp only [PyData.eqv, PyData.eqvAll, ex, es, Bool.and_true]
      rw [e]
      exact q
  cases t with
  | word s => exact go "word" (.str (T s)) (by decide +kernel) ht rfl rfl rfl (by
      have : (("word" : Str) == ("sign" : Str)) = false := by decide +kernel
      rw [this]; rfl)
  | num i => exact go "number" (.int i) (by decide +kernel) rfl rfl rfl rfl (by
      have : (("number" : Str) == ("sign" : Str)) = false := by decide +kernel
      rw [this]; rfl)
  | text s => exact go "text" (.str (T s)) (by decide +kernel) ht rfl rfl rfl (by
      have : (("text" : Str) == ("sign" : Str)) = false := by decide +kernel
      rw [this]; rfl)
  | sign b => exact go "sign" (.str (T [b])) (by decide +kernel) ht rfl rfl rfl (by
      have : (("sign" : Str) == ("sign" : Str)) = true := by decide +kernel
      rw [this, Bool.true_and]
      show decide (b = c) = (T [b] == T [c])
      by_cases z : b = c
      · rw [z]; simp
      · rw [decide_eq_false z]
        symm
        apply beq_eq_false_iff_ne.mpr
        rw [ne_eq, T_inj]
        simpa using z)
  | fin => exact go "end" (.str (T [])) (by decide +kernel) ht rfl rfl rfl (by
      have : (("end" : Str) == ("sign" : Str)) = false := by decide +kernel
      rw [this]; rfl)
theorem drop_mem {toks rs : List Lx} {i : Nat} {t : Lx} (e : toks.drop i = t :: rs) : t ∈ toks := List.mem_of_mem_drop (by rw [e]; exact List.mem_cons_self)
theorem sem_next_is (s : spNextIs C ds h Q E) : r_TextReader_next_is C (endX E) (endsOf Q) (start3 ["self", "sign"] ds) h := by
  obtain ⟨a, p, toks, i, d, t, rs, c, rfl, hc, r, e, q⟩ := s
  have e1 := r.o
  have e2 := r.l
  have e3 := tok_at e
  unfold rdO at e1
  unfold r_TextReader_next_is
  walk_at "sem"
  refine ⟨by decide, ?_⟩
  exact tok_eq hc (r.k _ (drop_mem e)) (ends_rt q)
def spDue (C : Addr) : Sp3 := fun ds h Q _ => ∃ (a p : Addr) (toks : List Lx) (i : Nat) (d : Int) (c : Nat) (rs : List Lx), (ds = [.ref a, .str (T [c])]) ∧ c < 128 ∧ Rd C a p h toks i d ∧ toks.drop i = .sign c :: rs ∧ Q .non (upd3 h a (rdO C p (i + 1) d))
theorem sem_due (s : spDue C ds h Q E) : r_TextReader_due C C2 (spNextIs C) (endX E) (endsOf Q) (start3 ["self", "sign"] ds) h := by
  obtain ⟨a, p, toks, i, d, c, rs, rfl, hc, r, e, q⟩ := s
  have e1 := r.o
  unfold rdO at e1
  unfold r_TextReader_due
  walk_at "sem"
  refine ⟨a, p, toks, i, d, .sign c, rs, c, rfl, hc, r, e, ?_⟩
  have e5 : isSign (.sign c) c = true := decide_eq_true rfl
  walk_at "sem"
  refine ⟨by decide, ends_nx ?_⟩
  exact q
def spOpened (C : Addr) : Sp3 := fun ds h Q _ => ∃ (a p : Addr) (toks : List Lx) (i : Nat) (d : Int) (c : Nat) (rs : List Lx), (ds = [.ref a, .str (T [c])]) ∧ c < 128 ∧ Rd C a p h toks i d ∧ toks.drop i = .sign c :: rs ∧ d + 1 ≤ 40 ∧ Q .non (upd3 h a (rdO C p (i + 1) (d + 1)))
theorem sem_opened (s : spOpened C ds h Q E) : r_TextReader_opened C C2 (spDue C) (endX E) (endsOf Q) (start3 ["self", "sign"] ds) h := by
  obtain ⟨a, p, toks, i, d, c, rs, rfl, hc, r, e, ed, q⟩ := s
  have e1 := r.o
  unfold rdO at e1
  unfold r_TextReader_opened
  walk_at "sem"
  refine ⟨a, p, toks, i, d, c, rs, rfl, hc, r, e, ?_⟩
  have e4 : ¬ (40 : Int) < d + 1 := by omega
  unfold rdO
  walk_at "sem0"
  simp only [upd3_same, upd3_upd3]
  walk_at "sem"
  simp only [upd3_same, upd3_upd3]
  walk_at "sem"
  refine ⟨by decide, ends_nx ?_⟩
  exact q
def spClosed (C : Addr) : Sp3 := fun ds h Q _ => ∃ (a p : Addr) (toks : List Lx) (i : Nat) (d : Int) (c : Nat) (rs : List Lx), (ds = [.ref a, .str (T [c])]) ∧ c < 128 ∧ Rd C a p h toks i d ∧ toks.drop i = .sign c :: rs ∧ Q .non (upd3 h a (rdO C p (i + 1) (d - 1)))
theorem sem_closed (s : spClosed C ds h Q E) : r_TextReader_closed C (spDue C) (endX E) (endsOf Q) (start3 ["self", "sign"] ds) h := by
  obtain ⟨a, p, toks, i, d, c, rs, rfl, hc, r, e, q⟩ := s
  have e1 := r.o
  unfold rdO at e1
  unfold r_TextReader_closed
  walk_at "sem"
  refine ⟨a, p, toks, i, d, c, rs, rfl, hc, r, e, ?_⟩
  unfold rdO
  walk_at "sem0"
  simp only [upd3_same, upd3_upd3]
  walk_at "sem"
  simp only [upd3_same, upd3_upd3]
  walk_at "sem"
  refine ⟨by decide, ends_nx ?_⟩
  exact q
def spEnded (C : Addr) : Sp3 := fun ds h Q _ => ∃ (a p : Addr) (toks : List Lx) (i : Nat) (d : Int) (rs : List Lx) (v : D), (ds = [.ref a, v]) ∧ Rd C a p h toks i d ∧ toks.drop i = .fin :: rs ∧ Q v (upd3 h a (rdO C p (i + 1) d))
theorem sem_ended (s : spEnded C ds h Q E) : r_TextReader_ended C (spTaken C) (endX E) (endsOf Q) (start3 ["self", "found"] ds) h := by
  obtain ⟨a, p, toks, i, d, rs, v, rfl, r, e, q⟩ := s
  have e1 := r.o
  unfold rdO at e1
  unfold r_TextReader_ended
  walk_at "sem"
  refine ⟨a, p, toks, i, d, .fin, rs, rfl, r, e, ?_⟩
  walk_at "sem"
  exact ends_rt q
/-- behind the first: a comma is taken -/
def spGoesOn (C : Addr) : Sp3 := fun ds h Q _ => ∃ (a p : Addr) (toks : List Lx) (i : Nat) (d : Int) (t : Lx) (rs : List Lx) (c m : Nat), (ds = [.ref a, .int (m : Int), .str (T [c])]) ∧ c < 128 ∧ Rd C a p h toks i d ∧ toks.drop i = t :: rs ∧
  ((m = 0 ∧ Q (.bl (!isSign t c)) h) ∨ (m ≠ 0 ∧ t = .sign 44 ∧ Q (.bl true) (upd3 h a (rdO C p (i + 1) d))) ∨ (m ≠ 0 ∧ t ≠ .sign 44 ∧ Q (.bl false) h))
theorem sem_goes_on (s : spGoesOn C ds h Q E) : r_TextReader_goes_on C (spNextIs C) (endX E) (endsOf Q) (start3 ["self", "many", "closing"] ds) h := by
  obtain ⟨a, p, toks, i, d, t, rs, c, m, rfl, hc, r, e, k⟩ := s
  have e1 := r.o
  unfold rdO at e1
  unfold r_TextReader_goes_on
  rcases k with ⟨rfl, q⟩ | ⟨hm, rfl, q⟩ | ⟨hm, ht, q⟩
  · walk_at "sem"
    refine ⟨a, p, toks, i, d, t, rs, c, rfl, hc, r, e, ?_⟩
    walk_at "sem"
    exact ends_rt q
  · have e4 : ¬ ((m : Int) = 0) := by omega
    walk_at "sem"
    refine ⟨a, p, toks, i, d, .sign 44, rs, 44, by rw [lit_comma], by decide, r, e, ?_⟩
    walk_at "sem"
    refine ⟨by decide, ends_rt ?_⟩
    exact q
  · have e4 : ¬ ((m : Int) = 0) := by omega
    walk_at "sem"
    refine ⟨a, p, toks, i, d, t, rs, 44, by rw [lit_comma], by decide, r, e, ?_⟩
    have e5 : isSign t 44 = false := by
      unfold isSign
      cases t with
      | sign b => exact decide_eq_false fun z => ht (by rw [z])
      | _ => rfl
    rw [e5]
    walk_at "sem"
    exact ends_rt q
end
end O85

end F_M2

section F_M3
/-! M3: rows of words. -/
namespace O85
open PySem PySem.Spec PyProof.Rows L2 L3 Old
local macro_rules
  | `(tactic| walk_at "sem") => `(tactic| simp only [↓e_next, ↓e_seq, ↓e_brk, ↓e_cont, ↓e_drop, ↓e_ret, ↓e_retN, ↓e_if, ↓e_asg, ↓e_par, ↓e_for, ↓e_raise, ↓e_sfld, ↓e_name, ↓e_gnil, ↓e_gcons, ↓e_gtup, ↓e_gsub, ↓e_setL, ↓e_var, ↓e_c, ↓e_op, ↓e_neg, ↓e_andV, ↓e_orV, ↓e_notV, ↓e_ifE, ↓e_chain, ↓e_chain4, ↓e_tup, ↓e_lst, ↓e_ixD, ↓e_inD, ↓e_sl, ↓e_noPart, ↓e_part, ↓e_cb, ↓e_cl, ↓e_joinL, ↓e_new, ↓e_lc, ↓e_bm, ↓e_bm0, ↓e_call, ↓e_meth, ↓e_fld, ↓e_make, ↓e_isN, ↓e_lenSet, ↓e_nil, ↓e_cons, ↓e_b, ↓e_and, ↓e_or, ↓e_not, ↓e_yes, ↓e_seqI, ↓e_rng1, ↓e_rng2, ↓e_addI, ↓e_addS, ↓e_addT, ↓e_addR, ↓e_sub, ↓e_div, ↓e_mod, ↓e_pow, ↓e_mulI, ↓e_mulS, ↓e_ltI, ↓e_leI, ↓e_gtI, ↓e_geI, ↓e_leS, ↓e_eqI, ↓e_eqS, ↓e_neI, ↓e_neS, ↓e_inS, ↓e_isN3, ↓e_ixT, ↓e_ixRo, ↓e_ixR, ↓e_ixS, ↓e_lenS, ↓e_lenT, ↓e_lenRo, ↓e_lenR, ↓e_intI, ↓e_intB, ↓e_intS, ↓e_strI, ↓e_tupR, ↓e_minI, ↓e_maxI, ↓e_app, ↓e_rev, ↓e_join, ↓e_find3, start3, List.map_cons, List.map_nil, List.length_cons, List.length_nil, List.cons_append, List.nil_append, List.replicate, List.getElem?_cons_zero, List.getElem?_cons_succ, List.set_cons_zero, List.set_cons_succ, Nat.reduceAdd, Nat.reduceSub, Nat.zero_add, atI0, atI1, atI2, atI3, Option.some.injEq, if_true, Bool.false_eq_true, if_false, Bool.not_true, Bool.not_false, ofS_inj, String.reduceEq, decide_true, decide_false, exists_and_left, exists_eq_left', exists_eq_left, O3.ins.injEq, O3.lst.injEq, eq_self, true_and, and_true, ↓reduceIte, exists_const, exists_eq, exists_eq', and_self, Bool.xor_false, Bool.false_xor, Bool.true_xor, seq_ref, lst_ref, tyD, lkW, lkA, lkD, ptW, ptA, ptD, i_non_int, i_non_bool, i_non_str, i_non_tuple, i_non_list, i_bl_int, i_bl_bool, i_bl_str, i_bl_tuple, i_bl_list, i_int_int, i_int_bool, i_int_str, i_int_tuple, i_int_list, i_str_int, i_str_bool, i_str_str, i_str_tuple, i_str_list, i_tup_int, i_tup_bool, i_tup_str, i_tup_tuple, i_tup_list, i_rol_int, i_rol_bool, i_rol_str, i_rol_tuple, i_rol_list, lm_next_is, lm_due, lm_taken, lm_opened, lm_closed, lm_ended, lm_goes_on, lm_names, lm_kind_pairs, lm_name_pairs, lm_value_pairs, lm_values, lm_kind_parts, lm_kind, lm_value, lm_part, lm_parts, lm_turn, lm_piece, lm_path, *])
  | `(tactic| walk_at "sem0") => `(tactic| simp only [↓e_next, ↓e_seq, ↓e_brk, ↓e_cont, ↓e_drop, ↓e_ret, ↓e_retN, ↓e_if, ↓e_asg, ↓e_par, ↓e_for, ↓e_raise, ↓e_sfld, ↓e_name, ↓e_gnil, ↓e_gcons, ↓e_gtup, ↓e_gsub, ↓e_setL, ↓e_var, ↓e_c, ↓e_op, ↓e_neg, ↓e_andV, ↓e_orV, ↓e_notV, ↓e_ifE, ↓e_chain, ↓e_chain4, ↓e_tup, ↓e_lst, ↓e_ixD, ↓e_inD, ↓e_sl, ↓e_noPart, ↓e_part, ↓e_cb, ↓e_cl, ↓e_joinL, ↓e_new, ↓e_lc, ↓e_bm, ↓e_bm0, ↓e_call, ↓e_meth, ↓e_fld, ↓e_make, ↓e_isN, ↓e_lenSet, ↓e_nil, ↓e_cons, ↓e_b, ↓e_and, ↓e_or, ↓e_not, ↓e_yes, ↓e_seqI, ↓e_rng1, ↓e_rng2, ↓e_addI, ↓e_addS, ↓e_addT, ↓e_addR, ↓e_sub, ↓e_div, ↓e_mod, ↓e_pow, ↓e_mulI, ↓e_mulS, ↓e_ltI, ↓e_leI, ↓e_gtI, ↓e_geI, ↓e_leS, ↓e_eqI, ↓e_eqS, ↓e_neI, ↓e_neS, ↓e_inS, ↓e_isN3, ↓e_ixT, ↓e_ixRo, ↓e_ixR, ↓e_ixS, ↓e_lenS, ↓e_lenT, ↓e_lenRo, ↓e_lenR, ↓e_intI, ↓e_intB, ↓e_intS, ↓e_strI, ↓e_tupR, ↓e_minI, ↓e_maxI, ↓e_app, ↓e_rev, ↓e_join, ↓e_find3, start3, List.map_cons, List.map_nil, List.length_cons, List.length_nil, List.cons_append, List.nil_append, List.replicate, List.getElem?_cons_zero, List.getElem?_cons_succ, List.set_cons_zero, List.set_cons_succ, Nat.reduceAdd, Nat.reduceSub, Nat.zero_add, atI0, atI1, atI2, atI3, Option.some.injEq, if_true, Bool.false_eq_true, if_false, Bool.not_true, Bool.not_false, ofS_inj, String.reduceEq, decide_true, decide_false, exists_and_left, exists_eq_left', exists_eq_left, O3.ins.injEq, O3.lst.injEq, eq_self, true_and, and_true, ↓reduceIte, exists_const, exists_eq, exists_eq', and_self, Bool.xor_false, Bool.false_xor, Bool.true_xor, seq_ref, lst_ref, tyD, lkW, lkA, lkD, ptW, ptA, ptD, i_non_int, i_non_bool, i_non_str, i_non_tuple, i_non_list, i_bl_int, i_bl_bool, i_bl_str, i_bl_tuple, i_bl_list, i_int_int, i_int_bool, i_int_str, i_int_tuple, i_int_list, i_str_int, i_str_bool, i_str_str, i_str_tuple, i_str_list, i_tup_int, i_tup_bool, i_tup_str, i_tup_tuple, i_tup_list, i_rol_int, i_rol_bool, i_rol_str, i_rol_tuple, i_rol_list, lm_next_is, lm_due, lm_taken, lm_opened, lm_closed, lm_ended, lm_goes_on, lm_names, lm_kind_pairs, lm_name_pairs, lm_value_pairs, lm_values, lm_kind_parts, lm_kind, lm_value, lm_part, lm_parts, lm_turn, lm_piece, lm_path])
/-! rows of words, of kinds; a kind -/
theorem sepBy_cons {α : Type} {s : List α} : ∀ (x : List α) (r : List (List α)), sepBy s (x :: r) = x ++ r.flatMap fun y => s ++ y
  | x, [] => by simp [sepBy]
  | x, y :: r => by
    have := sepBy_cons (s := s) y r
    simp only [sepBy, List.flatMap_cons] at this ⊢
    rw [this]
    simp
/-- a list on the way, the reader on the way -/
def HH (h : Hp3) (q : Addr) (xs : List D) (a C p : Addr) (i : Nat) (d : Int) : Hp3 := upd3 (upd3 h q (.lst xs)) a (rdO C p i d)
section
variable {C C2 a p q : Addr} {ds xs ys : List D} {h : Hp3} {Q : VK3} {E : XK3} {toks rs : List Lx} {i j i0 : Nat} {d d0 e : Int}
theorem HH_rd (r : Rd C a p h toks i0 d0) (n : h q = none) : Rd C a p (HH h q xs a C p i d) toks i d := (r.new (o := .lst xs) n).upd
theorem HH_ne (r : Rd C a p h toks i0 d0) (n : h q = none) : q ≠ a := (ne_of_none r.o n).symm
theorem HH_q (r : Rd C a p h toks i0 d0) (n : h q = none) : HH h q xs a C p i d q = some (.lst xs) := by
  unfold HH
  rw [upd3_ne (HH_ne r n), upd3_same]
theorem HH_adv : upd3 (HH h q xs a C p i d) a (rdO C p j e) = HH h q xs a C p j e := by
  unfold HH
  rw [upd3_upd3]
theorem HH_app (r : Rd C a p h toks i0 d0) (n : h q = none) : upd3 (HH h q xs a C p i d) q (.lst ys) = HH h q ys a C p i d := by
  unfold HH
  rw [upd3_comm (HH_ne r n), upd3_upd3]
theorem HH_sub (n : h q = none) : Sub3 (upd3 h a (rdO C p i d)) (HH h q xs a C p i d) := Sub3.upd (sub_upd n)
theorem HH_0 (r : Rd C a p h toks i0 d0) (n : h q = none) : upd3 h q (.lst xs) = HH h q xs a C p i0 d0 := by
  unfold HH
  rw [← upd3_comm (HH_ne r n), upd3_self r.o]
theorem HH_1 (r : Rd C a p h toks i0 d0) (n : h q = none) : upd3 (upd3 h a (rdO C p i d)) q (.lst xs) = HH h q xs a C p i d := by
  unfold HH
  rw [upd3_comm (HH_ne r n)]
theorem upd_none (r : Rd C a p h toks i0 d0) {o : O3} (n : upd3 h a o q = none) : h q = none := by
  by_cases z : q = a
  · subst z
    rw [upd3_same] at n
    cases n
  · rw [upd3_ne z] at n
    exact n
/-- .. with a comma ahead of each -/
def behind (xs : List (List Lx)) : List Lx := xs.flatMap fun y => Lx.sign 44 :: y
theorem sep_behind (x : List Lx) (r : List (List Lx)) : sepBy [Lx.sign 44] (x :: r) = x ++ behind r := sepBy_cons x r
def spNames (C : Addr) : Sp3 := fun ds h Q _ => ∃ (a p : Addr) (toks : List Lx) (i : Nat) (d : Int) (ws : List (List Nat)) (rs : List Lx) (c : Nat), (ds = [.ref a, .str (T [c])]) ∧ c < 128 ∧ Rd C a p h toks i d ∧ ws ≠ [] ∧ toks.drop i = sepBy [.sign 44] (ws.map fun w => [Lx.word w]) ++ .sign c :: rs ∧ c ≠ 44 ∧ ws.length < 1000 ∧
  Q (.tup (ws.map fun w => .str (T w))) (upd3 h a (rdO C p (i + (sepBy [Lx.sign 44] (ws.map fun w => [Lx.word w])).length) d))
theorem sem_names (s : spNames C ds h Q E) : r_TextReader_names C (spGoesOn C) (spTaken C) (endX E) (endsOf Q) (start3 ["self", "closing", "found"] ds) h := by
  obtain ⟨a, p, toks, i, d, ws, rs, c, rfl, hc, r, hw, ed, hcc, hl, q0⟩ := s
  have zl := sizeLine_eq
  cases ws with
  | nil => exact (hw rfl).elim
  | cons w ws =>
  have es : sepBy [Lx.sign 44] ((w :: ws).map fun w => [Lx.word w]) = [Lx.word w] ++ behind (ws.map fun w => [Lx.word w]) := sep_behind _ _
  rw [es] at ed q0
  have e1 := r.o
  unfold rdO at e1
  unfold r_TextReader_names
  walk_at "sem"
  refine ⟨a, p, toks, i, d, .word w, _, rfl, r, ed, ?_⟩
  refine ⟨by omega, fun q n => ?_⟩
  have n0 := upd_none r n
  rw [HH_1 r n0]
  -- the loop
  have loop : ∀ (ws2 done : List (List Nat)) (i2 : Nat) (Dn : Ends3), done ≠ [] → done.length + ws2.length < 1000 → toks.drop i2 = behind (ws2.map fun w => [Lx.word w]) ++ .sign c :: rs →
      Dn.nx [some (.ref a), some (.str (T [c])), some (.ref q)] (HH h q ((done ++ ws2).map fun w => .str (T w)) a C p (i2 + (behind (ws2.map fun w => [Lx.word w])).length) d) →
      ∃ n, wh3 (tB3 (tMeth3 C "goes_on" (spGoesOn C) (fun _ => endX E) (tVar3 0) (tCons3 (tCB3 len3 (tCons3 (tVar3 2) tNil3)) (tCons3 (tVar3 1) tNil3)))) (tDrop3 (tBM3 "list" append3 (tVar3 2) (tCons3 (tMeth3 C "taken" (spTaken C) (fun _ => endX E) (tVar3 0) (tCons3 (tC3 (.str "word")) tNil3)) tNil3))) Dn n [some (.ref a), some (.str (T [c])), some (.ref q)] (HH h q (done.map fun w => .str (T w)) a C p i2 d) := by
    intro ws2
    induction ws2 with
    | nil =>
      intro done i2 Dn hd hl2 ed2 k
      refine ⟨1, ?_⟩
      have o1 : HH h q (done.map fun w => D.str (T w)) a C p i2 d a = _ := (HH_rd r n0).o
      have o2 : HH h q (done.map fun w => D.str (T w)) a C p i2 d q = _ := HH_q r n0
      unfold rdO at o1
      unfold wh3
      walk_at "sem"
      refine ⟨a, p, toks, i2, d, .sign c, rs, c, done.length, by simp, hc, HH_rd r n0, by simpa [behind] using ed2, .inr (.inr ⟨fun z => hd (List.eq_nil_of_length_eq_zero z), fun z => hcc (by injection z), ?_⟩)⟩
      walk_at "sem"
      simpa [behind] using k
    | cons w2 ws2 ih =>
      intro done i2 Dn hd hl2 ed2 k
      have ed3 : toks.drop i2 = .sign 44 :: (.word w2 :: (behind (ws2.map fun w => [Lx.word w]) ++ .sign c :: rs)) := by simpa [behind] using ed2
      have ed4 := drop_next ed3
      have ed5 := drop_next ed4
      obtain ⟨m, hm⟩ := ih (done ++ [w2]) (i2 + 1 + 1) Dn (by simp) (by simp at hl2 ⊢; omega) ed5 (by
        have e9 : i2 + 1 + 1 + (behind (ws2.map fun w => [Lx.word w])).length = i2 + (behind ((w2 :: ws2).map fun w => [Lx.word w])).length := by simp [behind]; omega
        rw [e9]
        simpa using k)
      refine ⟨m + 1, ?_⟩
      have o1 : HH h q (done.map fun w => D.str (T w)) a C p i2 d a = _ := (HH_rd r n0).o
      have o2 : HH h q (done.map fun w => D.str (T w)) a C p i2 d q = _ := HH_q r n0
      unfold rdO at o1
      unfold wh3
      walk_at "sem"
      refine ⟨a, p, toks, i2, d, .sign 44, _, c, done.length, by simp, hc, HH_rd r n0, ed3, .inr (.inl ⟨fun z => hd (List.eq_nil_of_length_eq_zero z), rfl, ?_⟩)⟩
      rw [HH_adv]
      have o3 : HH h q (done.map fun w => D.str (T w)) a C p (i2 + 1) d a = _ := (HH_rd r n0).o
      have o4 : HH h q (done.map fun w => D.str (T w)) a C p (i2 + 1) d q = _ := HH_q r n0
      unfold rdO at o3
      walk_at "sem"
      refine ⟨a, p, toks, i2 + 1, d, .word w2, _, rfl, HH_rd r n0, ed4, ?_⟩
      rw [HH_adv]
      have o5 : HH h q (done.map fun w => D.str (T w)) a C p (i2 + 1 + 1) d q = _ := HH_q r n0
      walk_at "sem"
      refine ⟨by simp at hl2 ⊢; omega, ?_⟩
      rw [HH_app r n0]
      simpa [Lx.val] using hm
  have ed2 := drop_next ed
  obtain ⟨m, hm⟩ := loop ws [w] (i + 1) { nx := tRet3 (tCB3 tup3 (tCons3 (tVar3 2) tNil3)) (endsOf Q), rt := (endsOf Q).rt, bk := (endsOf Q).bk, ct := (endsOf Q).ct } (by simp) (by simp at hl ⊢; omega) ed2 (by
    have o6 : HH h q (D.str (T w) :: ws.map fun w => D.str (T w)) a C p (i + 1 + (behind (ws.map fun w => [Lx.word w])).length) d q = _ := HH_q r n0
    walk_at "sem"
    refine ends_rt2 (HH_sub n0) ?_
    have e9 : i + 1 + (behind (ws.map fun w => [Lx.word w])).length = i + ([Lx.word w] ++ behind (ws.map fun w => [Lx.word w])).length := by simp; omega
    rw [e9]
    simpa using q0)
  exact ⟨m, hm⟩
end
end O85

end F_M3

section F_M4
/-! M4: kinds read. -/
namespace O85
open PySem PySem.Spec PyProof.Rows L2 L3 Old
local macro_rules
  | `(tactic| walk_at "sem") => `(tactic| simp only [↓e_next, ↓e_seq, ↓e_brk, ↓e_cont, ↓e_drop, ↓e_ret, ↓e_retN, ↓e_if, ↓e_asg, ↓e_par, ↓e_for, ↓e_raise, ↓e_sfld, ↓e_name, ↓e_gnil, ↓e_gcons, ↓e_gtup, ↓e_gsub, ↓e_setL, ↓e_var, ↓e_c, ↓e_op, ↓e_neg, ↓e_andV, ↓e_orV, ↓e_notV, ↓e_ifE, ↓e_chain, ↓e_chain4, ↓e_tup, ↓e_lst, ↓e_ixD, ↓e_inD, ↓e_sl, ↓e_noPart, ↓e_part, ↓e_cb, ↓e_cl, ↓e_joinL, ↓e_new, ↓e_lc, ↓e_bm, ↓e_bm0, ↓e_call, ↓e_meth, ↓e_fld, ↓e_make, ↓e_isN, ↓e_lenSet, ↓e_nil, ↓e_cons, ↓e_b, ↓e_and, ↓e_or, ↓e_not, ↓e_yes, ↓e_seqI, ↓e_rng1, ↓e_rng2, ↓e_addI, ↓e_addS, ↓e_addT, ↓e_addR, ↓e_sub, ↓e_div, ↓e_mod, ↓e_pow, ↓e_mulI, ↓e_mulS, ↓e_ltI, ↓e_leI, ↓e_gtI, ↓e_geI, ↓e_leS, ↓e_eqI, ↓e_eqS, ↓e_neI, ↓e_neS, ↓e_inS, ↓e_isN3, ↓e_ixT, ↓e_ixRo, ↓e_ixR, ↓e_ixS, ↓e_lenS, ↓e_lenT, ↓e_lenRo, ↓e_lenR, ↓e_intI, ↓e_intB, ↓e_intS, ↓e_strI, ↓e_tupR, ↓e_minI, ↓e_maxI, ↓e_app, ↓e_rev, ↓e_join, ↓e_find3, start3, List.map_cons, List.map_nil, List.length_cons, List.length_nil, List.cons_append, List.nil_append, List.replicate, List.getElem?_cons_zero, List.getElem?_cons_succ, List.set_cons_zero, List.set_cons_succ, Nat.reduceAdd, Nat.reduceSub, Nat.zero_add, atI0, atI1, atI2, atI3, Option.some.injEq, if_true, Bool.false_eq_true, if_false, Bool.not_true, Bool.not_false, ofS_inj, String.reduceEq, decide_true, decide_false, exists_and_left, exists_eq_left', exists_eq_left, O3.ins.injEq, O3.lst.injEq, eq_self, true_and, and_true, ↓reduceIte, exists_const, exists_eq, exists_eq', and_self, Bool.xor_false, Bool.false_xor, Bool.true_xor, seq_ref, lst_ref, tyD, lkW, lkA, lkD, ptW, ptA, ptD, i_non_int, i_non_bool, i_non_str, i_non_tuple, i_non_list, i_bl_int, i_bl_bool, i_bl_str, i_bl_tuple, i_bl_list, i_int_int, i_int_bool, i_int_str, i_int_tuple, i_int_list, i_str_int, i_str_bool, i_str_str, i_str_tuple, i_str_list, i_tup_int, i_tup_bool, i_tup_str, i_tup_tuple, i_tup_list, i_rol_int, i_rol_bool, i_rol_str, i_rol_tuple, i_rol_list, lm_next_is, lm_due, lm_taken, lm_opened, lm_closed, lm_ended, lm_goes_on, lm_names, lm_kind_pairs, lm_name_pairs, lm_value_pairs, lm_values, lm_kind_parts, lm_kind, lm_value, lm_part, lm_parts, lm_turn, lm_piece, lm_path, *])
  | `(tactic| walk_at "sem0") => `(tactic| simp only [↓e_next, ↓e_seq, ↓e_brk, ↓e_cont, ↓e_drop, ↓e_ret, ↓e_retN, ↓e_if, ↓e_asg, ↓e_par, ↓e_for, ↓e_raise, ↓e_sfld, ↓e_name, ↓e_gnil, ↓e_gcons, ↓e_gtup, ↓e_gsub, ↓e_setL, ↓e_var, ↓e_c, ↓e_op, ↓e_neg, ↓e_andV, ↓e_orV, ↓e_notV, ↓e_ifE, ↓e_chain, ↓e_chain4, ↓e_tup, ↓e_lst, ↓e_ixD, ↓e_inD, ↓e_sl, ↓e_noPart, ↓e_part, ↓e_cb, ↓e_cl, ↓e_joinL, ↓e_new, ↓e_lc, ↓e_bm, ↓e_bm0, ↓e_call, ↓e_meth, ↓e_fld, ↓e_make, ↓e_isN, ↓e_lenSet, ↓e_nil, ↓e_cons, ↓e_b, ↓e_and, ↓e_or, ↓e_not, ↓e_yes, ↓e_seqI, ↓e_rng1, ↓e_rng2, ↓e_addI, ↓e_addS, ↓e_addT, ↓e_addR, ↓e_sub, ↓e_div, ↓e_mod, ↓e_pow, ↓e_mulI, ↓e_mulS, ↓e_ltI, ↓e_leI, ↓e_gtI, ↓e_geI, ↓e_leS, ↓e_eqI, ↓e_eqS, ↓e_neI, ↓e_neS, ↓e_inS, ↓e_isN3, ↓e_ixT, ↓e_ixRo, ↓e_ixR, ↓e_ixS, ↓e_lenS, ↓e_lenT, ↓e_lenRo, ↓e_lenR, ↓e_intI, ↓e_intB, ↓e_intS, ↓e_strI, ↓e_tupR, ↓e_minI, ↓e_maxI, ↓e_app, ↓e_rev, ↓e_join, ↓e_find3, start3, List.map_cons, List.map_nil, List.length_cons, List.length_nil, List.cons_append, List.nil_append, List.replicate, List.getElem?_cons_zero, List.getElem?_cons_succ, List.set_cons_zero, List.set_cons_succ, Nat.reduceAdd, Nat.reduceSub, Nat.zero_add, atI0, atI1, atI2, atI3, Option.some.injEq, if_true, Bool.false_eq_true, if_false, Bool.not_true, Bool.not_false, ofS_inj, String.reduceEq, decide_true, decide_false, exists_and_left, exists_eq_left', exists_eq_left, O3.ins.injEq, O3.lst.injEq, eq_self, true_and, and_true, ↓reduceIte, exists_const, exists_eq, exists_eq', and_self, Bool.xor_false, Bool.false_xor, Bool.true_xor, seq_ref, lst_ref, tyD, lkW, lkA, lkD, ptW, ptA, ptD, i_non_int, i_non_bool, i_non_str, i_non_tuple, i_non_list, i_bl_int, i_bl_bool, i_bl_str, i_bl_tuple, i_bl_list, i_int_int, i_int_bool, i_int_str, i_int_tuple, i_int_list, i_str_int, i_str_bool, i_str_str, i_str_tuple, i_str_list, i_tup_int, i_tup_bool, i_tup_str, i_tup_tuple, i_tup_list, i_rol_int, i_rol_bool, i_rol_str, i_rol_tuple, i_rol_list, lm_next_is, lm_due, lm_taken, lm_opened, lm_closed, lm_ended, lm_goes_on, lm_names, lm_kind_pairs, lm_name_pairs, lm_value_pairs, lm_values, lm_kind_parts, lm_kind, lm_value, lm_part, lm_parts, lm_turn, lm_piece, lm_path])
section
variable {C C2 a p q : Addr} {ds xs ys : List D} {h : Hp3} {Q : VK3} {E : XK3} {toks rs : List Lx} {i j i0 : Nat} {d d0 e : Int}
/-- a kind's row of tokens is read -/
def spKind (C : Addr) (n : Nat) : Sp3 := fun ds h Q _ => ∃ (a p : Addr) (toks : List Lx) (i : Nat) (d : Int) (k : Kd) (rs : List Lx), (ds = [.ref a]) ∧ Rd C a p h toks i d ∧ toks.drop i = k.toks ++ rs ∧ k.dep ≤ n ∧ d + k.dep ≤ 40 ∧ k.wide ∧ Q k.enc (upd3 h a (rdO C p (i + k.toks.length) d))
def itemK (y : List Nat × Kd) : List Lx := .word y.1 :: .sign 58 :: y.2.toks
def encK (y : List Nat × Kd) : D := .tup [.str (T y.1), y.2.enc]
/-- rows of things, commas between: what is ahead of the next one -/
def ahead (first : Bool) (xs : List (List Lx)) : List Lx := if first then sepBy [.sign 44] xs else behind xs
def spKindPairs (C : Addr) (n : Nat) : Sp3 := fun ds h Q _ => ∃ (a p : Addr) (toks : List Lx) (i : Nat) (d : Int) (fs : List (List Nat × Kd)) (rs : List Lx), (ds = [.ref a]) ∧ Rd C a p h toks i d ∧ toks.drop i = sepBy [.sign 44] (fs.map itemK) ++ .sign 41 :: rs ∧ (∀ y ∈ fs, y.2.dep ≤ n ∧ d + y.2.dep ≤ 40 ∧ y.2.wide) ∧ fs.length < 1000 ∧
  Q (.tup (fs.map encK)) (upd3 h a (rdO C p (i + (sepBy [Lx.sign 44] (fs.map itemK)).length) d))
def cKP (C : Addr) (E : XK3) : TT3 := (tB3 (tMeth3 C "goes_on" (spGoesOn C) (fun _ => endX E) (tVar3 0) (tCons3 (tCB3 len3 (tCons3 (tVar3 1) tNil3)) (tCons3 (tC3 (.str ")")) tNil3))))
def bKP (C : Addr) (n : Nat) (E : XK3) : TS3 := (tSeq3 (tAsg3 (tMeth3 C "taken" (spTaken C) (fun _ => endX E) (tVar3 0) (tCons3 (tC3 (.str "word")) tNil3)) (gName3 2))
        (tSeq3 (tDrop3 (tMeth3 C "due" (spDue C) (fun _ => endX E) (tVar3 0) (tCons3 (tC3 (.str ":")) tNil3)))
        (tDrop3 (tBM3 "list" append3 (tVar3 1) (tCons3 (tTup3 (tCons3 (tVar3 2) (tCons3 (tMeth3 C "kind" (spKind C n) (fun _ => endX E) (tVar3 0) tNil3) tNil3))) tNil3)))))
theorem sem_kind_pairs (n : Nat) (s : spKindPairs C n ds h Q E) : r_TextReader_kind_pairs C (spGoesOn C) (spKind C n) (spDue C) (spTaken C) (endX E) (endsOf Q) (start3 ["self", "found", "name"] ds) h := by
  obtain ⟨a, p, toks, i, d, fs, rs, rfl, r, ed, hk, hl, q0⟩ := s
  have zl := sizeLine_eq
  have e1 := r.o
  unfold rdO at e1
  unfold r_TextReader_kind_pairs
  walk_at "sem"
  refine ⟨by decide, fun q n0 => ?_⟩
  rw [HH_0 r n0]
  have loop : ∀ (fs2 done : List (List Nat × Kd)) (i2 : Nat) (nm : Option D) (Dn : Ends3), done.length + fs2.length < 1000 → (∀ y ∈ fs2, y.2.dep ≤ n ∧ d + y.2.dep ≤ 40 ∧ y.2.wide) → toks.drop i2 = ahead (done.isEmpty) (fs2.map itemK) ++ .sign 41 :: rs →
      (∀ nm, Dn.nx [some (.ref a), some (.ref q), nm] (HH h q ((done ++ fs2).map encK) a C p (i2 + (ahead (done.isEmpty) (fs2.map itemK)).length) d)) →
      ∃ n2, wh3 (cKP C E) (bKP C n E) Dn n2 [some (.ref a), some (.ref q), nm] (HH h q (done.map encK) a C p i2 d) := by
    intro fs2
    induction fs2 with
    | nil =>
      intro done i2 nm Dn hl2 hk2 ed2 k
      refine ⟨1, ?_⟩
      have ed3 : toks.drop i2 = .sign 41 :: rs := by
        rw [ed2]
        unfold ahead
        split <;> rfl
      have o1 : HH h q (done.map encK) a C p i2 d a = _ := (HH_rd r n0).o
      have o2 : HH h q (done.map encK) a C p i2 d q = _ := HH_q r n0
      unfold rdO at o1
      unfold wh3 cKP
      walk_at "sem"
      refine ⟨a, p, toks, i2, d, .sign 41, rs, 41, done.length, by rw [List.length_map, lit_cl], by decide, HH_rd r n0, ed3, ?_⟩
      have k2 := k nm
      have e8 : (ahead done.isEmpty ([].map itemK)).length = 0 := by
        unfold ahead
        split <;> rfl
      rw [e8, List.append_nil, Nat.add_zero] at k2
      by_cases hd : done.length = 0
      · refine .inl ⟨hd, ?_⟩
        have e5 : isSign (.sign 41) 41 = true := rfl
        walk_at "sem"
      · refine .inr (.inr ⟨hd, fun z => by injection z; contradiction, ?_⟩)
        walk_at "sem"
    | cons y fs2 ih =>
      intro done i2 nm Dn hl2 hk2 ed2 k
      obtain ⟨hy1, hy2, hy3⟩ := hk2 y List.mem_cons_self
      -- behind the comma
      have main : ∀ i3 : Nat, toks.drop i3 = itemK y ++ (behind (fs2.map itemK) ++ .sign 41 :: rs) → i3 + (itemK y ++ behind (fs2.map itemK)).length = i2 + (ahead (done.isEmpty) ((y :: fs2).map itemK)).length →
          ∃ n2, (bKP C n E)
          { Dn with nx := wh3 (cKP C E) (bKP C n E) Dn n2, ct := wh3 (cKP C E) (bKP C n E) Dn n2, bk := Dn.nx } [some (.ref a), some (.ref q), nm] (HH h q (done.map encK) a C p i3 d) := by
        intro i3 ed3 hi
        have ed4 : toks.drop i3 = .word y.1 :: (.sign 58 :: (y.2.toks ++ (behind (fs2.map itemK) ++ .sign 41 :: rs))) := by rw [ed3]; simp [itemK]
        have ed5 := drop_next ed4
        have ed6 := drop_next ed5
        have ed7 := drop_app ed6
        have hb : (done ++ [y]).isEmpty = false := by simp
        obtain ⟨m, hm⟩ := ih (done ++ [y]) (i3 + 1 + 1 + y.2.toks.length) (some (.str (T y.1))) Dn (by simp at hl2 ⊢; omega) (fun z hz => hk2 z (List.mem_cons_of_mem _ hz)) (by rw [hb]; exact ed7) (fun nm => by
          rw [hb]
          have e9 : i3 + 1 + 1 + y.2.toks.length + (ahead false (fs2.map itemK)).length = i2 + (ahead done.isEmpty ((y :: fs2).map itemK)).length := by
            rw [← hi]
            simp [itemK, ahead]
            omega
          rw [e9]
          have k2 := k nm
          simpa using k2)
        refine ⟨m, ?_⟩
        unfold bKP at hm ⊢
        have o1 : HH h q (done.map encK) a C p i3 d a = _ := (HH_rd r n0).o
        unfold rdO at o1
        walk_at "sem"
        refine ⟨a, p, toks, i3, d, .word y.1, _, rfl, HH_rd r n0, ed4, ?_⟩
        rw [HH_adv]
        have o3 : HH h q (done.map encK) a C p (i3 + 1) d a = _ := (HH_rd r n0).o
        unfold rdO at o3
        simp only [Lx.val]
        walk_at "sem"
        refine ⟨a, p, toks, i3 + 1, d, 58, _, by rw [lit_colon], by decide, HH_rd r n0, ed5, ?_⟩
        rw [HH_adv]
        have o4 : HH h q (done.map encK) a C p (i3 + 1 + 1) d a = _ := (HH_rd r n0).o
        have o4q : HH h q (done.map encK) a C p (i3 + 1 + 1) d q = _ := HH_q r n0
        unfold rdO at o4
        walk_at "sem"
        refine ⟨a, p, toks, i3 + 1 + 1, d, y.2, _, rfl, HH_rd r n0, ed6, hy1, hy2, hy3, ?_⟩
        rw [HH_adv]
        have o5q : HH h q (done.map encK) a C p (i3 + 1 + 1 + y.2.toks.length) d q = _ := HH_q r n0
        walk_at "sem"
        refine ⟨by decide, by simp at hl2 ⊢; omega, ?_⟩
        rw [HH_app r n0]
        simpa [encK] using hm
      have o1 : HH h q (done.map encK) a C p i2 d a = _ := (HH_rd r n0).o
      have o2 : HH h q (done.map encK) a C p i2 d q = _ := HH_q r n0
      unfold rdO at o1
      by_cases hd : done.length = 0
      · have hdn : done = [] := List.eq_nil_of_length_eq_zero hd
        subst hdn
        have es : ahead ([] : List (List Nat × Kd)).isEmpty ((y :: fs2).map itemK) = itemK y ++ behind (fs2.map itemK) := by
          unfold ahead
          exact sep_behind _ _
        rw [es] at ed2
        have ed3 : toks.drop i2 = itemK y ++ (behind (fs2.map itemK) ++ .sign 41 :: rs) := by rw [ed2]; simp
        obtain ⟨m, hm⟩ := main i2 ed3 (by rw [es])
        refine ⟨m + 1, ?_⟩
        have ed4 : toks.drop i2 = .word y.1 :: (.sign 58 :: (y.2.toks ++ (behind (fs2.map itemK) ++ .sign 41 :: rs))) := by rw [ed3]; simp [itemK]
        have o1 : HH h q [] a C p i2 d a = _ := (HH_rd r n0).o
        have o2 : HH h q [] a C p i2 d q = _ := HH_q r n0
        unfold rdO at o1
        unfold wh3 cKP
        walk_at "sem"
        refine ⟨a, p, toks, i2, d, .word y.1, _, 41, 0, by rw [lit_cl], by decide, HH_rd r n0, ed4, .inl ⟨rfl, ?_⟩⟩
        have e5 : isSign (.word y.1) 41 = false := rfl
        rw [e5]
        simp only [Bool.not_false, ↓reduceIte]
        exact hm
      · have hdb : done.isEmpty = false := by
          cases done with
          | nil => exact (hd rfl).elim
          | cons _ _ => rfl
        have es : ahead done.isEmpty ((y :: fs2).map itemK) = .sign 44 :: (itemK y ++ behind (fs2.map itemK)) := by
          rw [hdb]
          simp [ahead, behind]
        rw [es] at ed2
        have ed3 : toks.drop i2 = .sign 44 :: (itemK y ++ (behind (fs2.map itemK) ++ .sign 41 :: rs)) := by rw [ed2]; simp
        have ed4 := drop_next ed3
        obtain ⟨m, hm⟩ := main (i2 + 1) ed4 (by rw [es]; simp only [List.length_cons]; omega)
        refine ⟨m + 1, ?_⟩
        unfold wh3 cKP
        walk_at "sem"
        refine ⟨a, p, toks, i2, d, .sign 44, _, 41, done.length, by rw [lit_cl, List.length_map], by decide, HH_rd r n0, ed3, .inr (.inl ⟨hd, rfl, ?_⟩)⟩
        rw [HH_adv]
        simp only [↓reduceIte]
        exact hm
  obtain ⟨m, hm⟩ := loop fs [] i none { nx := tRet3 (tCB3 tup3 (tCons3 (tVar3 1) tNil3)) (endsOf Q), rt := (endsOf Q).rt, bk := (endsOf Q).bk, ct := (endsOf Q).ct } (by simpa using hl) hk ed (fun nm => by
    have o6 : HH h q (fs.map encK) a C p (i + (ahead true (fs.map itemK)).length) d q = _ := HH_q r n0
    simp only [List.nil_append, List.isEmpty_nil]
    walk_at "sem"
    exact ends_rt2 (HH_sub n0) q0)
  exact ⟨m, hm⟩
end
end O85

end F_M4

section F_M5
/-! M5: parts. -/
namespace O85
open PySem PySem.Spec PyProof.Rows L2 L3 Old
local macro_rules
  | `(tactic| walk_at "sem") => `(tactic| simp only [↓e_next, ↓e_seq, ↓e_brk, ↓e_cont, ↓e_drop, ↓e_ret, ↓e_retN, ↓e_if, ↓e_asg, ↓e_par, ↓e_for, ↓e_raise, ↓e_sfld, ↓e_name, ↓e_gnil, ↓e_gcons, ↓e_gtup, ↓e_gsub, ↓e_setL, ↓e_var, ↓e_c, ↓e_op, ↓e_neg, ↓e_andV, ↓e_orV, ↓e_notV, ↓e_ifE, ↓e_chain, ↓e_chain4, ↓e_tup, ↓e_lst, ↓e_ixD, ↓e_inD, ↓e_sl, ↓e_noPart, ↓e_part, ↓e_cb, ↓e_cl, ↓e_joinL, ↓e_new, ↓e_lc, ↓e_bm, ↓e_bm0, ↓e_call, ↓e_meth, ↓e_fld, ↓e_make, ↓e_isN, ↓e_lenSet, ↓e_nil, ↓e_cons, ↓e_b, ↓e_and, ↓e_or, ↓e_not, ↓e_yes, ↓e_seqI, ↓e_rng1, ↓e_rng2, ↓e_addI, ↓e_addS, ↓e_addT, ↓e_addR, ↓e_sub, ↓e_div, ↓e_mod, ↓e_pow, ↓e_mulI, ↓e_mulS, ↓e_ltI, ↓e_leI, ↓e_gtI, ↓e_geI, ↓e_leS, ↓e_eqI, ↓e_eqS, ↓e_neI, ↓e_neS, ↓e_inS, ↓e_isN3, ↓e_ixT, ↓e_ixRo, ↓e_ixR, ↓e_ixS, ↓e_lenS, ↓e_lenT, ↓e_lenRo, ↓e_lenR, ↓e_intI, ↓e_intB, ↓e_intS, ↓e_strI, ↓e_tupR, ↓e_minI, ↓e_maxI, ↓e_app, ↓e_rev, ↓e_join, ↓e_find3, start3, List.map_cons, List.map_nil, List.length_cons, List.length_nil, List.cons_append, List.nil_append, List.replicate, List.getElem?_cons_zero, List.getElem?_cons_succ, List.set_cons_zero, List.set_cons_succ, Nat.reduceAdd, Nat.reduceSub, Nat.zero_add, atI0, atI1, atI2, atI3, Option.some.injEq, if_true, Bool.false_eq_true, if_false, Bool.not_true, Bool.not_false, ofS_inj, String.reduceEq, decide_true, decide_false, exists_and_left, exists_eq_left', exists_eq_left, O3.ins.injEq, O3.lst.injEq, eq_self, true_and, and_true, ↓reduceIte, exists_const, exists_eq, exists_eq', and_self, Bool.xor_false, Bool.false_xor, Bool.true_xor, seq_ref, lst_ref, tyD, lkW, lkA, lkD, ptW, ptA, ptD, i_non_int, i_non_bool, i_non_str, i_non_tuple, i_non_list, i_bl_int, i_bl_bool, i_bl_str, i_bl_tuple, i_bl_list, i_int_int, i_int_bool, i_int_str, i_int_tuple, i_int_list, i_str_int, i_str_bool, i_str_str, i_str_tuple, i_str_list, i_tup_int, i_tup_bool, i_tup_str, i_tup_tuple, i_tup_list, i_rol_int, i_rol_bool, i_rol_str, i_rol_tuple, i_rol_list, lm_next_is, lm_due, lm_taken, lm_opened, lm_closed, lm_ended, lm_goes_on, lm_names, lm_kind_pairs, lm_name_pairs, lm_value_pairs, lm_values, lm_kind_parts, lm_kind, lm_value, lm_part, lm_parts, lm_turn, lm_piece, lm_path, *])
  | `(tactic| walk_at "sem0") => `(tactic| simp only [↓e_next, ↓e_seq, ↓e_brk, ↓e_cont, ↓e_drop, ↓e_ret, ↓e_retN, ↓e_if, ↓e_asg, ↓e_par, ↓e_for, ↓e_raise, ↓e_sfld, ↓e_name, ↓e_gnil, ↓e_gcons, ↓e_gtup, ↓e_gsub, ↓e_setL, ↓e_var, ↓e_c, ↓e_op, ↓e_neg, ↓e_andV, ↓e_orV, ↓e_notV, ↓e_ifE, ↓e_chain, ↓e_chain4, ↓e_tup, ↓e_lst, ↓e_ixD, ↓e_inD, ↓e_sl, ↓e_noPart, ↓e_part, ↓e_cb, ↓e_cl, ↓e_joinL, ↓e_new, ↓e_lc, ↓e_bm, ↓e_bm0, ↓e_call, ↓e_meth, ↓e_fld, ↓e_make, ↓e_isN, ↓e_lenSet, ↓e_nil, ↓e_cons, ↓e_b, ↓e_and, ↓e_or, ↓e_not, ↓e_yes, ↓e_seqI, ↓e_rng1, ↓e_rng2, ↓e_addI, ↓e_addS, ↓e_addT, ↓e_addR, ↓e_sub, ↓e_div, ↓e_mod, ↓e_pow, ↓e_mulI, ↓e_mulS, ↓e_ltI, ↓e_leI, ↓e_gtI, ↓e_geI, ↓e_leS, ↓e_eqI, ↓e_eqS, ↓e_neI, ↓e_neS, ↓e_inS, ↓e_isN3, ↓e_ixT, ↓e_ixRo, ↓e_ixR, ↓e_ixS, ↓e_lenS, ↓e_lenT, ↓e_lenRo, ↓e_lenR, ↓e_intI, ↓e_intB, ↓e_intS, ↓e_strI, ↓e_tupR, ↓e_minI, ↓e_maxI, ↓e_app, ↓e_rev, ↓e_join, ↓e_find3, start3, List.map_cons, List.map_nil, List.length_cons, List.length_nil, List.cons_append, List.nil_append, List.replicate, List.getElem?_cons_zero, List.getElem?_cons_succ, List.set_cons_zero, List.set_cons_succ, Nat.reduceAdd, Nat.reduceSub, Nat.zero_add, atI0, atI1, atI2, atI3, Option.some.injEq, if_true, Bool.false_eq_true, if_false, Bool.not_true, Bool.not_false, ofS_inj, String.reduceEq, decide_true, decide_false, exists_and_left, exists_eq_left', exists_eq_left, O3.ins.injEq, O3.lst.injEq, eq_self, true_and, and_true, ↓reduceIte, exists_const, exists_eq, exists_eq', and_self, Bool.xor_false, Bool.false_xor, Bool.true_xor, seq_ref, lst_ref, tyD, lkW, lkA, lkD, ptW, ptA, ptD, i_non_int, i_non_bool, i_non_str, i_non_tuple, i_non_list, i_bl_int, i_bl_bool, i_bl_str, i_bl_tuple, i_bl_list, i_int_int, i_int_bool, i_int_str, i_int_tuple, i_int_list, i_str_int, i_str_bool, i_str_str, i_str_tuple, i_str_list, i_tup_int, i_tup_bool, i_tup_str, i_tup_tuple, i_tup_list, i_rol_int, i_rol_bool, i_rol_str, i_rol_tuple, i_rol_list, lm_next_is, lm_due, lm_taken, lm_opened, lm_closed, lm_ended, lm_goes_on, lm_names, lm_kind_pairs, lm_name_pairs, lm_value_pairs, lm_values, lm_kind_parts, lm_kind, lm_value, lm_part, lm_parts, lm_turn, lm_piece, lm_path])
structure Part where
  code : Nat
  toks : List Lx
  val : D
def Part.n (w : List Nat) : Part := ⟨110, [.word w], .str (T w)⟩
def Part.m (i : Int) : Part := ⟨109, [.num i], .int i⟩
def Part.k (k : Kd) : Part := ⟨107, k.toks, k.enc⟩
section
variable {C C2 a p q : Addr} {ds xs ys : List D} {h : Hp3} {Q : VK3} {E : XK3} {toks rs : List Lx} {i j i0 : Nat} {d d0 e : Int} {ok : Int → Part → Prop}
def spPart (C : Addr) (ok : Int → Part → Prop) : Sp3 := fun ds h Q _ => ∃ (a p : Addr) (toks : List Lx) (i : Nat) (d : Int) (t : Part) (rs : List Lx), (ds = [.ref a, .str (T [t.code])]) ∧ Rd C a p h toks i d ∧ toks.drop i = t.toks ++ rs ∧ ok d t ∧ Q t.val (upd3 h a (rdO C p (i + t.toks.length) d))
def okK (n : Nat) (d : Int) (t : Part) : Prop := (∃ w, t = .n w) ∨ (∃ i, t = .m i) ∨ ∃ k : Kd, t = .k k ∧ k.dep ≤ n ∧ d + k.dep ≤ 40 ∧ k.wide
def spNo : Sp3 := fun _ _ _ _ => False
theorem lit_n : Str.ofString "n" = T [110] := by decide
theorem lit_m : Str.ofString "m" = T [109] := by decide
theorem lit_k : Str.ofString "k" = T [107] := by decide
theorem sem_part (n : Nat) (s : spPart C (okK n) ds h Q E) : r_TextReader_part C (spTaken C) spNo spNo (spKind C n) (endX E) (endsOf Q) (start3 ["self", "sort"] ds) h := by
  obtain ⟨a, p, toks, i, d, t, rs, rfl, r, ed, ok, q0⟩ := s
  have e1 := r.o
  unfold rdO at e1
  unfold r_TextReader_part
  rcases ok with ⟨w, rfl⟩ | ⟨m, rfl⟩ | ⟨k, rfl, hk⟩
  · simp only [Part.n] at ed q0 ⊢
    rw [← lit_n]
    walk_at "sem"
    exact ⟨a, p, toks, i, d, .word w, rs, rfl, r, ed, ends_rt q0⟩
  · simp only [Part.m] at ed q0 ⊢
    rw [← lit_m]
    walk_at "sem"
    exact ⟨a, p, toks, i, d, .num m, rs, rfl, r, ed, ends_rt q0⟩
  · simp only [Part.k] at ed q0 ⊢
    rw [← lit_k]
    walk_at "sem"
    exact ⟨a, p, toks, i, d, k, rs, rfl, r, ed, hk.1, hk.2.1, hk.2.2, ends_rt q0⟩
def spParts (C : Addr) (ok : Int → Part → Prop) : Sp3 := fun ds h Q _ => ∃ (a p : Addr) (toks : List Lx) (i : Nat) (d : Int) (ts : List Part) (rs : List Lx), (ds = [.ref a, .str (T (ts.map (·.code)))]) ∧ Rd C a p h toks i d ∧ toks.drop i = sepBy [.sign 44] (ts.map (·.toks)) ++ rs ∧ (∀ t ∈ ts, ok d t) ∧ ts.length < 1000 ∧ Q (.tup (ts.map (·.val))) (upd3 h a (rdO C p (i + (sepBy [Lx.sign 44] (ts.map (·.toks))).length) d))
def bPs (C : Addr) (ok : Int → Part → Prop) (E : XK3) : TS3 := (tSeq3 (tIfS3 (tB3 (tOp3 gt3 (tCB3 len3 (tCons3 (tVar3 2) tNil3)) (tC3 (.int 0)))) (tDrop3 (tMeth3 C "due" (spDue C) (fun _ => endX E) (tVar3 0) (tCons3 (tC3 (.str ",")) tNil3))) tNext3)
    (tDrop3 (tBM3 "list" append3 (tVar3 2) (tCons3 (tMeth3 C "part" (spPart C ok) (fun _ => endX E) (tVar3 0) (tCons3 (tVar3 3) tNil3)) tNil3))))
theorem sem_parts (s : spParts C ok ds h Q E) : r_TextReader_parts C (spPart C ok) (spDue C) (endX E) (endsOf Q) (start3 ["self", "sorts", "found", "sort"] ds) h := by
  obtain ⟨a, p, toks, i, d, ts, rs, rfl, r, ed, hok, hl, q0⟩ := s
  have zl := sizeLine_eq
  have e1 := r.o
  unfold rdO at e1
  unfold r_TextReader_parts
  walk_at "sem"
  refine ⟨by decide, fun q n0 => ?_⟩
  rw [HH_0 r n0]
  have loop : ∀ (ts2 done : List Part) (i2 : Nat) (S : D) (nm : Option D) (Dn : Ends3), done.length + ts2.length < 1000 → (∀ t ∈ ts2, ok d t) → toks.drop i2 = ahead (done.isEmpty) (ts2.map (·.toks)) ++ rs →
      (∀ nm, Dn.nx [some (.ref a), some S, some (.ref q), nm] (HH h q ((done ++ ts2).map (·.val)) a C p (i2 + (ahead (done.isEmpty) (ts2.map (·.toks))).length) d)) →
      for3 (fun _ => True) (gName3 3) (bPs C ok E) Dn ((ts2.map (·.code)).map sgn) [some (.ref a), some S, some (.ref q), nm] (HH h q (done.map (·.val)) a C p i2 d) := by
    intro ts2
    induction ts2 with
    | nil =>
      intro done i2 S nm Dn hl2 hk2 ed2 k
      have k2 := k nm
      have e8 : (ahead done.isEmpty (([] : List Part).map (·.toks))).length = 0 := by
        unfold ahead
        split <;> rfl
      rw [e8, List.append_nil, Nat.add_zero] at k2
      exact ⟨trivial, k2⟩
    | cons t ts2 ih =>
      intro done i2 S nm Dn hl2 hk2 ed2 k
      refine ⟨trivial, ?_⟩
      rw [e_name]
      have hb : (done ++ [t]).isEmpty = false := by simp
      have main : ∀ i3 : Nat, toks.drop i3 = t.toks ++ (behind (ts2.map (·.toks)) ++ rs) → i3 + (t.toks ++ behind (ts2.map (·.toks))).length = i2 + (ahead (done.isEmpty) ((t :: ts2).map (·.toks))).length →
          tDrop3 (tBM3 "list" append3 (tVar3 2) (tCons3 (tMeth3 C "part" (spPart C ok) (fun _ => endX E) (tVar3 0) (tCons3 (tVar3 3) tNil3)) tNil3)) { Dn with nx := for3 (fun _ => True) (gName3 3) (bPs C ok E) Dn ((ts2.map (·.code)).map sgn), ct := for3 (fun _ => True) (gName3 3) (bPs C ok E) Dn ((ts2.map (·.code)).map sgn), bk := Dn.nx } [some (.ref a), some S, some (.ref q), some (sgn t.code)] (HH h q (done.map (·.val)) a C p i3 d) := by
        intro i3 ed3 hi
        have ed4 := drop_app ed3
        have hm := ih (done ++ [t]) (i3 + t.toks.length) S (some (sgn t.code)) Dn (by simp at hl2 ⊢; omega) (fun z hz => hk2 z (List.mem_cons_of_mem _ hz)) (by rw [hb]; exact ed4) (fun nm => by
          rw [hb]
          have e9 : i3 + t.toks.length + (ahead false (ts2.map (·.toks))).length = i2 + (ahead done.isEmpty ((t :: ts2).map (·.toks))).length := by
            rw [← hi]
            simp [ahead]
            omega
          rw [e9]
          have k2 := k nm
          simpa using k2)
        have o1 : HH h q (done.map (·.val)) a C p i3 d a = _ := (HH_rd r n0).o
        have o2 : HH h q (done.map (·.val)) a C p i3 d q = _ := HH_q r n0
        unfold rdO at o1
        walk_at "sem"
        refine ⟨a, p, toks, i3, d, t, _, rfl, HH_rd r n0, ed3, hk2 t List.mem_cons_self, ?_⟩
        rw [HH_adv]
        have o5q : HH h q (done.map (·.val)) a C p (i3 + t.toks.length) d q = _ := HH_q r n0
        walk_at "sem"
        refine ⟨by simp at hl2 ⊢; omega, ?_⟩
        rw [HH_app r n0]
        simpa using hm
      unfold bPs
      rw [e_seq, e_if]
      by_cases hd : done.length = 0
      · have hdn : done = [] := List.eq_nil_of_length_eq_zero hd
        subst hdn
        have es : ahead ([] : List Part).isEmpty ((t :: ts2).map (·.toks)) = t.toks ++ behind (ts2.map (·.toks)) := by
          unfold ahead
          exact sep_behind _ _
        rw [es] at ed2
        have ed3 : toks.drop i2 = t.toks ++ (behind (ts2.map (·.toks)) ++ rs) := by rw [ed2]; simp
        have hm := main i2 ed3 (by rw [es])
        have o2 : HH h q [] a C p i2 d q = _ := HH_q r n0
        unfold bPs at hm
        have e0 : ¬ ((0 : Int) < ((0 : Nat) : Int)) := by decide
        simp only [e_b, e_op, e_cb, e_cons, e_var, e_nil, e_c, List.set_cons_succ, List.set_cons_zero, List.getElem?_cons_succ, List.getElem?_cons_zero, List.map_nil, e_lenR, o2, Option.some.injEq, O3.lst.injEq, exists_eq_left', List.length_nil, e_gtI, decide_eq_false e0, Bool.false_eq_true, if_false, e_next]
        exact hm
      · have hdb : done.isEmpty = false := by
          cases done with
          | nil => exact (hd rfl).elim
          | cons _ _ => rfl
        have es : ahead done.isEmpty ((t :: ts2).map (·.toks)) = .sign 44 :: (t.toks ++ behind (ts2.map (·.toks))) := by
          rw [hdb]
          simp [ahead, behind]
        rw [es] at ed2
        have ed3 : toks.drop i2 = .sign 44 :: (t.toks ++ (behind (ts2.map (·.toks)) ++ rs)) := by rw [ed2]; simp
        have ed4 := drop_next ed3
        have hm := main (i2 + 1) ed4 (by rw [es]; simp only [List.length_cons]; omega)
        have o2 : HH h q (done.map (·.val)) a C p i2 d q = _ := HH_q r n0
        have o1 : HH h q (done.map (·.val)) a C p i2 d a = _ := (HH_rd r n0).o
        unfold rdO at o1
        unfold bPs at hm
        have e0 : (0 : Int) < (done.length : Int) := by omega
        simp only [e_b, e_op, e_cb, e_cons, e_var, e_nil, e_c, List.set_cons_succ, List.set_cons_zero, List.getElem?_cons_succ, List.getElem?_cons_zero, e_lenR, o2, Option.some.injEq, O3.lst.injEq, exists_eq_left', List.length_map, e_gtI, decide_eq_true e0, if_true, e_drop, e_meth, o1, O3.ins.injEq, true_and, lm_due]
        refine ⟨a, p, toks, i2, d, 44, _, by rw [lit_comma], by decide, HH_rd r n0, ed3, ?_⟩
        rw [HH_adv]
        exact hm
  refine loop ts [] i (.str (T (ts.map (·.code)))) none _ (by simpa using hl) hok ed (fun nm => ?_)
  have o6 : HH h q (ts.map (·.val)) a C p (i + (ahead true (ts.map (·.toks))).length) d q = _ := HH_q r n0
  simp only [List.nil_append, List.isEmpty_nil]
  walk_at "sem"
  exact ends_rt2 (HH_sub n0) q0
end
end O85

end F_M5

section F_M6
/-! M6: kinds read. -/
namespace O85
open PySem PySem.Spec PyProof.Rows L2 L3 Old
local macro_rules
  | `(tactic| walk_at "sem") => `(tactic| simp only [↓e_next, ↓e_seq, ↓e_brk, ↓e_cont, ↓e_drop, ↓e_ret, ↓e_retN, ↓e_if, ↓e_asg, ↓e_par, ↓e_for, ↓e_raise, ↓e_sfld, ↓e_name, ↓e_gnil, ↓e_gcons, ↓e_gtup, ↓e_gsub, ↓e_setL, ↓e_var, ↓e_c, ↓e_op, ↓e_neg, ↓e_andV, ↓e_orV, ↓e_notV, ↓e_ifE, ↓e_chain, ↓e_chain4, ↓e_tup, ↓e_lst, ↓e_ixD, ↓e_inD, ↓e_sl, ↓e_noPart, ↓e_part, ↓e_cb, ↓e_cl, ↓e_joinL, ↓e_new, ↓e_lc, ↓e_bm, ↓e_bm0, ↓e_call, ↓e_meth, ↓e_fld, ↓e_make, ↓e_isN, ↓e_lenSet, ↓e_nil, ↓e_cons, ↓e_b, ↓e_and, ↓e_or, ↓e_not, ↓e_yes, ↓e_seqI, ↓e_rng1, ↓e_rng2, ↓e_addI, ↓e_addS, ↓e_addT, ↓e_addR, ↓e_sub, ↓e_div, ↓e_mod, ↓e_pow, ↓e_mulI, ↓e_mulS, ↓e_ltI, ↓e_leI, ↓e_gtI, ↓e_geI, ↓e_leS, ↓e_eqI, ↓e_eqS, ↓e_neI, ↓e_neS, ↓e_inS, ↓e_isN3, ↓e_ixT, ↓e_ixRo, ↓e_ixR, ↓e_ixS, ↓e_lenS, ↓e_lenT, ↓e_lenRo, ↓e_lenR, ↓e_intI, ↓e_intB, ↓e_intS, ↓e_strI, ↓e_tupR, ↓e_minI, ↓e_maxI, ↓e_app, ↓e_rev, ↓e_join, ↓e_find3, start3, List.map_cons, List.map_nil, List.length_cons, List.length_nil, List.cons_append, List.nil_append, List.replicate, List.getElem?_cons_zero, List.getElem?_cons_succ, List.set_cons_zero, List.set_cons_succ, Nat.reduceAdd, Nat.reduceSub, Nat.zero_add, atI0, atI1, atI2, atI3, Option.some.injEq, if_true, Bool.false_eq_true, if_false, Bool.not_true, Bool.not_false, ofS_inj, String.reduceEq, decide_true, decide_false, exists_and_left, exists_eq_left', exists_eq_left, O3.ins.injEq, O3.lst.injEq, eq_self, true_and, and_true, ↓reduceIte, exists_const, exists_eq, exists_eq', and_self, Bool.xor_false, Bool.false_xor, Bool.true_xor, seq_ref, lst_ref, tyD, lkW, lkA, lkD, ptW, ptA, ptD, i_non_int, i_non_bool, i_non_str, i_non_tuple, i_non_list, i_bl_int, i_bl_bool, i_bl_str, i_bl_tuple, i_bl_list, i_int_int, i_int_bool, i_int_str, i_int_tuple, i_int_list, i_str_int, i_str_bool, i_str_str, i_str_tuple, i_str_list, i_tup_int, i_tup_bool, i_tup_str, i_tup_tuple, i_tup_list, i_rol_int, i_rol_bool, i_rol_str, i_rol_tuple, i_rol_list, lm_next_is, lm_due, lm_taken, lm_opened, lm_closed, lm_ended, lm_goes_on, lm_names, lm_kind_pairs, lm_name_pairs, lm_value_pairs, lm_values, lm_kind_parts, lm_kind, lm_value, lm_part, lm_parts, lm_turn, lm_piece, lm_path, *])
  | `(tactic| walk_at "sem0") => `(tactic| simp only [↓e_next, ↓e_seq, ↓e_brk, ↓e_cont, ↓e_drop, ↓e_ret, ↓e_retN, ↓e_if, ↓e_asg, ↓e_par, ↓e_for, ↓e_raise, ↓e_sfld, ↓e_name, ↓e_gnil, ↓e_gcons, ↓e_gtup, ↓e_gsub, ↓e_setL, ↓e_var, ↓e_c, ↓e_op, ↓e_neg, ↓e_andV, ↓e_orV, ↓e_notV, ↓e_ifE, ↓e_chain, ↓e_chain4, ↓e_tup, ↓e_lst, ↓e_ixD, ↓e_inD, ↓e_sl, ↓e_noPart, ↓e_part, ↓e_cb, ↓e_cl, ↓e_joinL, ↓e_new, ↓e_lc, ↓e_bm, ↓e_bm0, ↓e_call, ↓e_meth, ↓e_fld, ↓e_make, ↓e_isN, ↓e_lenSet, ↓e_nil, ↓e_cons, ↓e_b, ↓e_and, ↓e_or, ↓e_not, ↓e_yes, ↓e_seqI, ↓e_rng1, ↓e_rng2, ↓e_addI, ↓e_addS, ↓e_addT, ↓e_addR, ↓e_sub, ↓e_div, ↓e_mod, ↓e_pow, ↓e_mulI, ↓e_mulS, ↓e_ltI, ↓e_leI, ↓e_gtI, ↓e_geI, ↓e_leS, ↓e_eqI, ↓e_eqS, ↓e_neI, ↓e_neS, ↓e_inS, ↓e_isN3, ↓e_ixT, ↓e_ixRo, ↓e_ixR, ↓e_ixS, ↓e_lenS, ↓e_lenT, ↓e_lenRo, ↓e_lenR, ↓e_intI, ↓e_intB, ↓e_intS, ↓e_strI, ↓e_tupR, ↓e_minI, ↓e_maxI, ↓e_app, ↓e_rev, ↓e_join, ↓e_find3, start3, List.map_cons, List.map_nil, List.length_cons, List.length_nil, List.cons_append, List.nil_append, List.replicate, List.getElem?_cons_zero, List.getElem?_cons_succ, List.set_cons_zero, List.set_cons_succ, Nat.reduceAdd, Nat.reduceSub, Nat.zero_add, atI0, atI1, atI2, atI3, Option.some.injEq, if_true, Bool.false_eq_true, if_false, Bool.not_true, Bool.not_false, ofS_inj, String.reduceEq, decide_true, decide_false, exists_and_left, exists_eq_left', exists_eq_left, O3.ins.injEq, O3.lst.injEq, eq_self, true_and, and_true, ↓reduceIte, exists_const, exists_eq, exists_eq', and_self, Bool.xor_false, Bool.false_xor, Bool.true_xor, seq_ref, lst_ref, tyD, lkW, lkA, lkD, ptW, ptA, ptD, i_non_int, i_non_bool, i_non_str, i_non_tuple, i_non_list, i_bl_int, i_bl_bool, i_bl_str, i_bl_tuple, i_bl_list, i_int_int, i_int_bool, i_int_str, i_int_tuple, i_int_list, i_str_int, i_str_bool, i_str_str, i_str_tuple, i_str_list, i_tup_int, i_tup_bool, i_tup_str, i_tup_tuple, i_tup_list, i_rol_int, i_rol_bool, i_rol_str, i_rol_tuple, i_rol_list, lm_next_is, lm_due, lm_taken, lm_opened, lm_closed, lm_ended, lm_goes_on, lm_names, lm_kind_pairs, lm_name_pairs, lm_value_pairs, lm_values, lm_kind_parts, lm_kind, lm_value, lm_part, lm_parts, lm_turn, lm_piece, lm_path])
def Kd.tail : Kd → List D
  | .number lo hi => [.int lo, .int hi]
  | .text n => [.int n]
  | .choice ws => [.tup (ws.map fun w => .str (T w))]
  | .list k n => [k.enc, .int n]
  | .record fs => [.tup fs.enc]
  | .rows key k n => [.str (T key), k.enc, .int n]
theorem enc_tail (k : Kd) : k.enc = .tup (.str (T k.wordK) :: Kd.tail k) := by
  cases k <;> simp only [Kd.enc, Kd.tail, Kd.wordK, s_number, s_text, s_choice, s_list, s_record, s_rows]
theorem tail_len (k : Kd) : (Kd.tail k).length ≤ 3 := by
  cases k <;> simp [Kd.tail]
section
variable {C C2 a p q : Addr} {ds xs ys : List D} {h : Hp3} {Q : VK3} {E : XK3} {toks rs : List Lx} {i j i0 : Nat} {d d0 e : Int}
def spKindParts (C : Addr) (n : Nat) : Sp3 := fun ds h Q _ => ∃ (a p : Addr) (toks : List Lx) (i : Nat) (d : Int) (k : Kd) (rs : List Lx), (ds = [.ref a, .str (T k.wordK)]) ∧ Rd C a p h toks i d ∧ toks.drop i = k.parts ++ .sign 41 :: rs ∧ k.dep ≤ n + 1 ∧ d + k.dep ≤ 41 ∧ k.wide ∧ Q (.tup (Kd.tail k)) (upd3 h a (rdO C p (i + k.parts.length) d))
theorem mem2 {t x y : Part} {P : Part → Prop} (hx : P x) (hy : P y) : t ∈ [x, y] → P t := fun m => by
  simp only [List.mem_cons, List.not_mem_nil, or_false] at m
  rcases m with rfl | rfl
  · exact hx
  · exact hy
theorem mem3 {t x y z : Part} {P : Part → Prop} (hx : P x) (hy : P y) (hz : P z) : t ∈ [x, y, z] → P t := fun m => by
  simp only [List.mem_cons, List.not_mem_nil, or_false] at m
  rcases m with rfl | rfl | rfl
  · exact hx
  · exact hy
  · exact hz
theorem sem_kind_parts (n : Nat) (s : spKindParts C n ds h Q E) : r_TextReader_kind_parts C2 C (spParts C (okK n)) (spKindPairs C n) (spNames C) (endX E) (endsOf Q) (start3 ["self", "word", "most", "inner", "key"] ds) h := by
  obtain ⟨a, p, toks, i, d, k, rs, rfl, r, ed, hk, hd, hw, q0⟩ := s
  have zl := sizeLine_eq
  have e1 := r.o
  unfold rdO at e1
  unfold r_TextReader_kind_parts
  cases k with
  | number lo hi =>
    simp only [Kd.wordK, ← s_number]
    walk_at "sem"
    refine ⟨a, p, toks, i, d, [.m lo, .m hi], .sign 41 :: rs, by rw [show Str.ofString "mm" = T [109, 109] by decide]; rfl, r, ed, fun t m => mem2 (.inr (.inl ⟨_, rfl⟩)) (.inr (.inl ⟨_, rfl⟩)) m, by simp, ends_rt q0⟩
  | text m =>
    simp only [Kd.wordK, ← s_text]
    walk_at "sem"
    refine ⟨a, p, toks, i, d, [.m m], .sign 41 :: rs, by rw [show Str.ofString "m" = T [109] by decide]; rfl, r, ed, fun t mt => .inr (.inl ⟨m, List.mem_singleton.mp mt⟩), by simp, ends_rt q0⟩
  | choice ws =>
    simp only [Kd.wordK, ← s_choice]
    simp only [Kd.wide] at hw
    walk_at "sem"
    refine ⟨a, p, toks, i, d, ws, rs, 41, by rw [lit_cl], by decide, r, hw.1, ed, by decide, hw.2, ?_⟩
    exact ⟨by decide, ends_rt q0⟩
  | list k m =>
    simp only [Kd.wordK, ← s_list]
    simp only [Kd.dep] at hk hd
    walk_at "sem"
    refine ⟨a, p, toks, i, d, [.m m, .k k], .sign 41 :: rs, by rw [show Str.ofString "mk" = T [109, 107] by decide]; rfl, r, by simpa [sepBy, Part.m, Part.k, Kd.toks, Kd.parts] using ed, fun t m => mem2 (.inr (.inl ⟨_, rfl⟩)) (.inr (.inr ⟨k, rfl, by omega, by omega, hw⟩)) m, by simp, ?_⟩
    simp only [List.map_cons, List.map_nil, Part.m, Part.k]
    walk_at "sem0"
    refine ⟨by decide, ends_rt ?_⟩
    have e9 : (sepBy [Lx.sign 44] [[Lx.num m], k.toks]).length = (Kd.list k m).parts.length := by simp [sepBy, Kd.toks, Kd.parts]
    rw [e9]
    exact q0
  | record fs =>
    simp only [Kd.wordK, ← s_record]
    simp only [Kd.dep] at hk hd
    simp only [Kd.wide] at hw
    have et : fs.toL.map itemK = fs.toks := by rw [Kds.toks_map]; rfl
    have ee : fs.toL.map encK = fs.enc := by rw [Kds.enc_map]; rfl
    walk_at "sem"
    refine ⟨a, p, toks, i, d, fs.toL, rs, rfl, r, by rw [et]; exact ed, fun y hy => ?_, hw.2, ?_⟩
    · have := Kds.dep_mem hy
      exact ⟨by omega, by omega, Kds.wide_mem hw.1 hy⟩
    · rw [et, ee]
      exact ⟨by decide, ends_rt q0⟩
  | rows key k m =>
    simp only [Kd.wordK, ← s_rows]
    simp only [Kd.dep] at hk hd
    walk_at "sem"
    refine ⟨a, p, toks, i, d, [.n key, .m m, .k k], .sign 41 :: rs, by rw [show Str.ofString "nmk" = T [110, 109, 107] by decide]; rfl, r, by simpa [sepBy, Part.n, Part.m, Part.k, Kd.toks, Kd.parts] using ed, fun t m => mem3 (.inl ⟨_, rfl⟩) (.inr (.inl ⟨_, rfl⟩)) (.inr (.inr ⟨k, rfl, by omega, by omega, hw⟩)) m, by simp, ?_⟩
    simp only [List.map_cons, List.map_nil, Part.n, Part.m, Part.k]
    walk_at "sem0"
    refine ⟨by decide, ends_rt ?_⟩
    have e9 : (sepBy [Lx.sign 44] [[Lx.word key], [Lx.num m], k.toks]).length = (Kd.rows key k m).parts.length := by simp [sepBy, Kd.toks, Kd.parts]
    rw [e9]
    exact q0
/-- the reader on the way -/
def RH (h : Hp3) (a C p : Addr) (i : Nat) (d : Int) : Hp3 := upd3 h a (rdO C p i d)
theorem RH_0 : upd3 h a (rdO C p i d) = RH h a C p i d := rfl
theorem RH_rd (r : Rd C a p h toks i0 d0) : Rd C a p (RH h a C p i d) toks i d := r.upd
theorem RH_adv : upd3 (RH h a C p i d) a (rdO C p j e) = RH h a C p j e := upd3_upd3
theorem sem_kind (n : Nat) (s : spKind C (n + 1) ds h Q E) : r_TextReader_kind C (spClosed C) (spKindParts C n) (spOpened C) (spTaken C) (endX E) (endsOf Q) (start3 ["self", "word", "found"] ds) h := by
  obtain ⟨a, p, toks, i, d, k, rs, rfl, r, ed, hk, hd, hw, q0⟩ := s
  have zl := sizeLine_eq
  have e1 := r.o
  unfold rdO at e1
  have ed1 : toks.drop i = .word k.wordK :: (.sign 40 :: (k.parts ++ .sign 41 :: rs)) := by simpa [Kd.toks] using ed
  have ed2 := drop_next ed1
  have ed3 := drop_next ed2
  have ed4 := drop_app ed3
  have hdp : 1 ≤ k.dep := by cases k <;> simp [Kd.dep]
  unfold r_TextReader_kind
  walk_at "sem"
  refine ⟨a, p, toks, i, d, .word k.wordK, _, rfl, r, ed1, ?_⟩
  rw [RH_0]
  have o1 : RH h a C p (i + 1) d a = _ := (RH_rd r).o
  unfold rdO at o1
  simp only [Lx.val]
  walk_at "sem"
  refine ⟨a, p, toks, i + 1, d, 40, _, by rw [lit_op], by decide, RH_rd r, ed2, by omega, ?_⟩
  rw [RH_adv]
  have o2 : RH h a C p (i + 1 + 1) (d + 1) a = _ := (RH_rd r).o
  unfold rdO at o2
  walk_at "sem"
  refine ⟨by decide, a, p, toks, i + 1 + 1, d + 1, k, rs, rfl, RH_rd r, ed3, hk, by omega, hw, ?_⟩
  rw [RH_adv]
  have o3 : RH h a C p (i + 1 + 1 + k.parts.length) (d + 1) a = _ := (RH_rd r).o
  unfold rdO at o3
  have tl := tail_len k
  walk_at "sem"
  refine ⟨by simp, by omega, ?_⟩
  refine ⟨a, p, toks, i + 1 + 1 + k.parts.length, d + 1, 41, rs, by rw [lit_cl], by decide, RH_rd r, ed4, ?_⟩
  rw [RH_adv]
  walk_at "sem"
  refine ends_rt ?_
  have e9 : i + 1 + 1 + k.parts.length + 1 = i + k.toks.length := by simp [Kd.toks]; omega
  rw [e9, show d + 1 - 1 = d by omega, ← enc_tail]
  exact q0
end
end O85

end F_M6

section F_K7
/-! K7: signs, tokens of a text. -/
namespace O85
open PySem PySem.Spec PyProof.Rows L2 L3 Old
def LETs : List Nat := [97, 98, 99, 100, 101, 102, 103, 104, 105, 106, 107, 108, 109, 110, 111, 112, 113, 114, 115, 116, 117, 118, 119, 120, 121, 122]
def FIGs : List Nat := [48, 49, 50, 51, 52, 53, 54, 55, 56, 57]
def SIGs : List Nat := [40, 41, 91, 93, 123, 125, 44, 58, 59, 47]
theorem lit_let : Str.ofString "abcdefghijklmnopqrstuvwxyz" = T LETs := by decide
theorem lit_fig : Str.ofString "0123456789" = T FIGs := by decide
theorem lit_sig : Str.ofString "()[]{},:;/" = T SIGs := by decide
theorem lit_q : Str.ofString "\"" = T [34] := by decide
theorem lit_minus : Str.ofString "-" = T [45] := by decide
theorem lit_0 : Str.ofString "0" = T [48] := by decide
theorem lit_sp : Str.ofString " " = T [32] := by decide
theorem lit_e : Str.ofString "" = T [] := by decide
def isSg (c : Nat) : Prop := 32 ≤ c ∧ c ≤ 126 ∧ c ≠ 34 ∧ c ≠ 37
/-- figures, a minus ahead or none -/
structure NumL (m : List Nat) : Prop where
  ex : ∃ fs : List Nat, (m = fs ∨ m = 45 :: fs) ∧ fs ≠ [] ∧ (∀ c ∈ fs, c ∈ FIGs) ∧ fs.length ≤ 60 ∧ (fs.head? = some 48 → m = [48])
/-- a text's tokens -/
inductive Lex : List Nat → List Lx → Prop where
  | nil : Lex [] []
  | blank {cs ts} : Lex cs ts → Lex (32 :: cs) ts
  | sign {c cs ts} : c ∈ SIGs → Lex cs ts → Lex (c :: cs) (.sign c :: ts)
  | word {w cs ts} : w ≠ [] → (∀ c ∈ w, c ∈ LETs) → w.length ≤ 8 → (∀ c r, cs = c :: r → c ∉ LETs) → Lex cs ts → Lex (w ++ cs) (.word w :: ts)
  | num {m i cs ts} : NumL m → PySem.intText? (T m) = some i → (∀ c r, cs = c :: r → c ∉ FIGs) → Lex cs ts → Lex (m ++ cs) (.num i :: ts)
  | text {s cs ts} : (∀ c ∈ s, isSg c) → Lex cs ts → Lex (34 :: (s ++ 34 :: cs)) (.text s :: ts)
section
variable {C C2 a p q : Addr} {ds xs ys : List D} {h : Hp3} {Q : VK3} {E : XK3}
theorem e_inC {neg : Bool} {c : Nat} {z : Str} : in3 neg (.str (T [c])) (.str z) h Q = Q (.bl (neg ^^ decide (c ∈ z.cps.toList))) h := by
  refine propext ⟨fun ⟨c', e, k⟩ => ?_, fun k => ⟨c, rfl, k⟩⟩
  have e2 : c = c' := by simpa [T] using congrArg (fun z : Str => z.cps.toList) e
  rw [e2]
  exact k
theorem ixT {pre post : List Nat} {c : Nat} {Z : Str} (e : Z = T (pre ++ c :: post)) (hl : Z.length ≤ sizeLine) : ix3 (.str Z) (.int (pre.length : Int)) h Q = Q (.str (T [c])) h := by
  have ha : atI Z.cps.toList (pre.length : Int) = some c := by
    refine L3.atI_nat ?_
    rw [e, T_cps]
    simp
  refine propext ⟨fun ⟨c', _, e1, k⟩ => ?_, fun k => ⟨c, hl, ha, k⟩⟩
  rw [ha] at e1
  cases e1
  exact k
theorem cut_T {pre w post : List Nat} {Z : Str} {x y : Int} (e : T (pre ++ (w ++ post)) = Z) (hx : x = (pre.length : Int)) (hy : y = ((pre.length + w.length : Nat) : Int)) : sl3 (.str Z) (some x) (some y) h Q = (Z.length ≤ sizeLine ∧ Q (.str (T w)) h) := by
  have e2 : cutS Z (some x) (some y) = T w := by
    subst hx hy e
    unfold cutS
    rw [HT.sIx_nat, HT.sIx_nat, T_cps, T_len]
    simp only [List.length_append]
    rw [Nat.min_eq_left (by omega), Nat.min_eq_left (by omega)]
    simp [T]
  show (Z.length ≤ sizeLine ∧ Q (.str (cutS Z (some x) (some y))) h) = _
  rw [e2]
end
end O85

end F_K7

section F_M7
/-! M7: runs of signs. -/
namespace O85
open PySem PySem.Spec PyProof.Rows L2 L3 Old
local macro_rules
  | `(tactic| walk_at "sem") => `(tactic| simp only [↓e_next, ↓e_seq, ↓e_brk, ↓e_cont, ↓e_drop, ↓e_ret, ↓e_retN, ↓e_if, ↓e_asg, ↓e_par, ↓e_for, ↓e_raise, ↓e_sfld, ↓e_name, ↓e_gnil, ↓e_gcons, ↓e_gtup, ↓e_gsub, ↓e_setL, ↓e_var, ↓e_c, ↓e_op, ↓e_neg, ↓e_andV, ↓e_orV, ↓e_notV, ↓e_ifE, ↓e_chain, ↓e_chain4, ↓e_tup, ↓e_lst, ↓e_ixD, ↓e_inD, ↓e_sl, ↓e_noPart, ↓e_part, ↓e_cb, ↓e_cl, ↓e_joinL, ↓e_new, ↓e_lc, ↓e_bm, ↓e_bm0, ↓e_call, ↓e_meth, ↓e_fld, ↓e_make, ↓e_isN, ↓e_lenSet, ↓e_nil, ↓e_cons, ↓e_b, ↓e_and, ↓e_or, ↓e_not, ↓e_yes, ↓e_seqI, ↓e_rng1, ↓e_rng2, ↓e_addI, ↓e_addS, ↓e_addT, ↓e_addR, ↓e_sub, ↓e_div, ↓e_mod, ↓e_pow, ↓e_mulI, ↓e_mulS, ↓e_ltI, ↓e_leI, ↓e_gtI, ↓e_geI, ↓e_leS, ↓e_eqI, ↓e_eqS, ↓e_neI, ↓e_neS, ↓e_inC, ↓e_isN3, ↓e_ixT, ↓e_ixRo, ↓e_ixR, ↓e_lenS, ↓e_lenT, ↓e_lenRo, ↓e_lenR, ↓e_intI, ↓e_intB, ↓e_intS, ↓e_strI, ↓e_tupR, ↓e_minI, ↓e_maxI, ↓e_app, ↓e_rev, ↓e_join, ↓e_find3, start3, List.map_cons, List.map_nil, List.length_cons, List.length_nil, List.cons_append, List.nil_append, List.replicate, List.getElem?_cons_zero, List.getElem?_cons_succ, List.set_cons_zero, List.set_cons_succ, Nat.reduceAdd, Nat.reduceSub, Nat.zero_add, atI0, atI1, atI2, atI3, Option.some.injEq, if_true, Bool.false_eq_true, if_false, Bool.not_true, Bool.not_false, ofS_inj, String.reduceEq, decide_true, decide_false, exists_and_left, exists_eq_left', exists_eq_left, O3.ins.injEq, O3.lst.injEq, eq_self, true_and, and_true, ↓reduceIte, exists_const, exists_eq, exists_eq', and_self, Bool.xor_false, Bool.false_xor, Bool.true_xor, seq_ref, lst_ref, tyD, lkW, lkA, lkD, ptW, ptA, ptD, i_non_int, i_non_bool, i_non_str, i_non_tuple, i_non_list, i_bl_int, i_bl_bool, i_bl_str, i_bl_tuple, i_bl_list, i_int_int, i_int_bool, i_int_str, i_int_tuple, i_int_list, i_str_int, i_str_bool, i_str_str, i_str_tuple, i_str_list, i_tup_int, i_tup_bool, i_tup_str, i_tup_tuple, i_tup_list, i_rol_int, i_rol_bool, i_rol_str, i_rol_tuple, i_rol_list, lm_next_is, lm_due, lm_taken, lm_opened, lm_closed, lm_ended, lm_goes_on, lm_names, lm_kind_pairs, lm_name_pairs, lm_value_pairs, lm_values, lm_kind_parts, lm_kind, lm_value, lm_part, lm_parts, lm_turn, lm_piece, lm_path, *])
  | `(tactic| walk_at "sem0") => `(tactic| simp only [↓e_next, ↓e_seq, ↓e_brk, ↓e_cont, ↓e_drop, ↓e_ret, ↓e_retN, ↓e_if, ↓e_asg, ↓e_par, ↓e_for, ↓e_raise, ↓e_sfld, ↓e_name, ↓e_gnil, ↓e_gcons, ↓e_gtup, ↓e_gsub, ↓e_setL, ↓e_var, ↓e_c, ↓e_op, ↓e_neg, ↓e_andV, ↓e_orV, ↓e_notV, ↓e_ifE, ↓e_chain, ↓e_chain4, ↓e_tup, ↓e_lst, ↓e_ixD, ↓e_inD, ↓e_sl, ↓e_noPart, ↓e_part, ↓e_cb, ↓e_cl, ↓e_joinL, ↓e_new, ↓e_lc, ↓e_bm, ↓e_bm0, ↓e_call, ↓e_meth, ↓e_fld, ↓e_make, ↓e_isN, ↓e_lenSet, ↓e_nil, ↓e_cons, ↓e_b, ↓e_and, ↓e_or, ↓e_not, ↓e_yes, ↓e_seqI, ↓e_rng1, ↓e_rng2, ↓e_addI, ↓e_addS, ↓e_addT, ↓e_addR, ↓e_sub, ↓e_div, ↓e_mod, ↓e_pow, ↓e_mulI, ↓e_mulS, ↓e_ltI, ↓e_leI, ↓e_gtI, ↓e_geI, ↓e_leS, ↓e_eqI, ↓e_eqS, ↓e_neI, ↓e_neS, ↓e_inC, ↓e_isN3, ↓e_ixT, ↓e_ixRo, ↓e_ixR, ↓e_lenS, ↓e_lenT, ↓e_lenRo, ↓e_lenR, ↓e_intI, ↓e_intB, ↓e_intS, ↓e_strI, ↓e_tupR, ↓e_minI, ↓e_maxI, ↓e_app, ↓e_rev, ↓e_join, ↓e_find3, start3, List.map_cons, List.map_nil, List.length_cons, List.length_nil, List.cons_append, List.nil_append, List.replicate, List.getElem?_cons_zero, List.getElem?_cons_succ, List.set_cons_zero, List.set_cons_succ, Nat.reduceAdd, Nat.reduceSub, Nat.zero_add, atI0, atI1, atI2, atI3, Option.some.injEq, if_true, Bool.false_eq_true, if_false, Bool.not_true, Bool.not_false, ofS_inj, String.reduceEq, decide_true, decide_false, exists_and_left, exists_eq_left', exists_eq_left, O3.ins.injEq, O3.lst.injEq, eq_self, true_and, and_true, ↓reduceIte, exists_const, exists_eq, exists_eq', and_self, Bool.xor_false, Bool.false_xor, Bool.true_xor, seq_ref, lst_ref, tyD, lkW, lkA, lkD, ptW, ptA, ptD, i_non_int, i_non_bool, i_non_str, i_non_tuple, i_non_list, i_bl_int, i_bl_bool, i_bl_str, i_bl_tuple, i_bl_list, i_int_int, i_int_bool, i_int_str, i_int_tuple, i_int_list, i_str_int, i_str_bool, i_str_str, i_str_tuple, i_str_list, i_tup_int, i_tup_bool, i_tup_str, i_tup_tuple, i_tup_list, i_rol_int, i_rol_bool, i_rol_str, i_rol_tuple, i_rol_list, lm_next_is, lm_due, lm_taken, lm_opened, lm_closed, lm_ended, lm_goes_on, lm_names, lm_kind_pairs, lm_name_pairs, lm_value_pairs, lm_values, lm_kind_parts, lm_kind, lm_value, lm_part, lm_parts, lm_turn, lm_piece, lm_path])
section
variable {C C2 a p q : Addr} {ds xs ys : List D} {h : Hp3} {Q : VK3} {E : XK3}
/-- the end of a run of signs -/
def spRunEnd : Sp3 := fun ds h Q _ => ∃ (pre w post S : List Nat) (Z : Str), (ds = [.str Z, .int (pre.length : Int), .str (T S)]) ∧ T (pre ++ (w ++ post)) = Z ∧ (∀ c ∈ w, c ∈ S) ∧ (∀ c r, post = c :: r → c ∉ S) ∧ Z.length ≤ 16777216 ∧ Q (.int ((pre.length + w.length : Nat) : Int)) h
theorem sem_run_end (s : spRunEnd ds h Q E) : r_run_end (endX E) (endsOf Q) (start3 ["text", "at", "signs"] ds) h := by
  obtain ⟨pre, w, post, S, Z, rfl, hZ, hw, hp, hl, q0⟩ := s
  have zl := sizeLine_eq
  unfold r_run_end
  walk_at "sem0"
  have loop : ∀ (w pre : List Nat) (Dn : Ends3), T (pre ++ (w ++ post)) = Z → (∀ c ∈ w, c ∈ S) → Dn.nx [some (.str Z), some (.int ((pre.length + w.length : Nat) : Int)), some (.str (T S))] h →
      ∃ n, wh3 (tAnd3 (tB3 (tOp3 lt3 (tVar3 1) (tCB3 len3 (tCons3 (tVar3 0) tNil3)))) (tB3 (tOp3 (in3 false) (tOp3 ix3 (tVar3 0) (tVar3 1)) (tVar3 2)))) (tAsg3 (tOp3 add3 (tVar3 1) (tC3 (.int 1))) (gName3 1)) Dn n [some (.str Z), some (.int (pre.length : Int)), some (.str (T S))] h := by
    intro w
    induction w with
    | nil =>
      intro pre Dn e1 hw k
      refine ⟨1, ?_⟩
      unfold wh3
      cases post with
      | nil =>
        have e2 : ¬ ((pre.length : Int) < (Z.length : Int)) := by rw [← e1, T_len]; simp
        have e3 := decide_eq_false e2
        walk_at "sem"
        simpa using k
      | cons c r =>
        have e2 : ((pre.length : Int) < (Z.length : Int)) := by rw [← e1, T_len]; simp; omega
        have e3 := decide_eq_true e2
        have e4 : ∀ (h : Hp3) (Q : VK3), ix3 (.str Z) (.int (pre.length : Int)) h Q = Q (.str (T [c])) h := fun h Q => ixT e1.symm (by omega)
        have e5 : decide (c ∈ (T S).cps.toList) = false := by rw [T_cps]; exact decide_eq_false (hp c r rfl)
        walk_at "sem"
        simpa using k
    | cons c w ih =>
      intro pre Dn e1 hw k
      have e2 : ((pre.length : Int) < (Z.length : Int)) := by rw [← e1, T_len]; simp; omega
      have e3 := decide_eq_true e2
      have e4 : ∀ (h : Hp3) (Q : VK3), ix3 (.str Z) (.int (pre.length : Int)) h Q = Q (.str (T [c])) h := fun h Q => ixT (post := w ++ post) (by rw [← e1]; rfl) (by omega)
      have e5 : decide (c ∈ (T S).cps.toList) = true := by rw [T_cps]; exact decide_eq_true (hw c List.mem_cons_self)
      obtain ⟨m, hm⟩ := ih (pre ++ [c]) Dn (by rw [← e1]; simp) (fun c' hc => hw c' (List.mem_cons_of_mem _ hc)) (by
        have e9 : (pre ++ [c]).length + w.length = pre.length + (c :: w).length := by simp; omega
        rw [e9]
        exact k)
      refine ⟨m + 1, ?_⟩
      unfold wh3
      walk_at "sem"
      simpa using hm
  obtain ⟨m, hm⟩ := loop w pre { nx := tRet3 (tVar3 1) (endsOf Q), rt := (endsOf Q).rt, bk := (endsOf Q).bk, ct := (endsOf Q).ct } hZ hw (by
    walk_at "sem0"
    exact ends_rt q0)
  exact ⟨m, hm⟩
end
end O85

end F_M7

section F_M8
/-! M8: numbers. -/
namespace O85
open PySem PySem.Spec PyProof.Rows L2 L3 Old
local macro_rules
  | `(tactic| walk_at "sem") => `(tactic| simp only [↓e_next, ↓e_seq, ↓e_brk, ↓e_cont, ↓e_drop, ↓e_ret, ↓e_retN, ↓e_if, ↓e_asg, ↓e_par, ↓e_for, ↓e_raise, ↓e_sfld, ↓e_name, ↓e_gnil, ↓e_gcons, ↓e_gtup, ↓e_gsub, ↓e_setL, ↓e_var, ↓e_c, ↓e_op, ↓e_neg, ↓e_andV, ↓e_orV, ↓e_notV, ↓e_ifE, ↓e_chain, ↓e_chain4, ↓e_tup, ↓e_lst, ↓e_ixD, ↓e_inD, ↓e_sl, ↓e_noPart, ↓e_part, ↓e_cb, ↓e_cl, ↓e_joinL, ↓e_new, ↓e_lc, ↓e_bm, ↓e_bm0, ↓e_call, ↓e_meth, ↓e_fld, ↓e_make, ↓e_isN, ↓e_lenSet, ↓e_nil, ↓e_cons, ↓e_b, ↓e_and, ↓e_or, ↓e_not, ↓e_yes, ↓e_seqI, ↓e_rng1, ↓e_rng2, ↓e_addI, ↓e_addS, ↓e_addT, ↓e_addR, ↓e_sub, ↓e_div, ↓e_mod, ↓e_pow, ↓e_mulI, ↓e_mulS, ↓e_ltI, ↓e_leI, ↓e_gtI, ↓e_geI, ↓e_leS, ↓e_eqI, ↓e_eqS, ↓e_neI, ↓e_neS, ↓e_inC, ↓e_isN3, ↓e_ixT, ↓e_ixRo, ↓e_ixR, ↓e_lenS, ↓e_lenT, ↓e_lenRo, ↓e_lenR, ↓e_intI, ↓e_intB, ↓e_intS, ↓e_strI, ↓e_tupR, ↓e_minI, ↓e_maxI, ↓e_app, ↓e_rev, ↓e_join, ↓e_find3, start3, List.map_cons, List.map_nil, List.length_cons, List.length_nil, List.cons_append, List.nil_append, List.replicate, List.getElem?_cons_zero, List.getElem?_cons_succ, List.set_cons_zero, List.set_cons_succ, Nat.reduceAdd, Nat.reduceSub, Nat.zero_add, atI0, atI1, atI2, atI3, Option.some.injEq, if_true, Bool.false_eq_true, if_false, Bool.not_true, Bool.not_false, ofS_inj, String.reduceEq, decide_true, decide_false, exists_and_left, exists_eq_left', exists_eq_left, O3.ins.injEq, O3.lst.injEq, eq_self, true_and, and_true, ↓reduceIte, exists_const, exists_eq, exists_eq', and_self, Bool.xor_false, Bool.false_xor, Bool.true_xor, seq_ref, lst_ref, tyD, lkW, lkA, lkD, ptW, ptA, ptD, i_non_int, i_non_bool, i_non_str, i_non_tuple, i_non_list, i_bl_int, i_bl_bool, i_bl_str, i_bl_tuple, i_bl_list, i_int_int, i_int_bool, i_int_str, i_int_tuple, i_int_list, i_str_int, i_str_bool, i_str_str, i_str_tuple, i_str_list, i_tup_int, i_tup_bool, i_tup_str, i_tup_tuple, i_tup_list, i_rol_int, i_rol_bool, i_rol_str, i_rol_tuple, i_rol_list, lm_next_is, lm_due, lm_taken, lm_opened, lm_closed, lm_ended, lm_goes_on, lm_names, lm_kind_pairs, lm_name_pairs, lm_value_pairs, lm_values, lm_kind_parts, lm_kind, lm_value, lm_part, lm_parts, lm_turn, lm_piece, lm_path, *])
  | `(tactic| walk_at "sem0") => `(tactic| simp only [↓e_next, ↓e_seq, ↓e_brk, ↓e_cont, ↓e_drop, ↓e_ret, ↓e_retN, ↓e_if, ↓e_asg, ↓e_par, ↓e_for, ↓e_raise, ↓e_sfld, ↓e_name, ↓e_gnil, ↓e_gcons, ↓e_gtup, ↓e_gsub, ↓e_setL, ↓e_var, ↓e_c, ↓e_op, ↓e_neg, ↓e_andV, ↓e_orV, ↓e_notV, ↓e_ifE, ↓e_chain, ↓e_chain4, ↓e_tup, ↓e_lst, ↓e_ixD, ↓e_inD, ↓e_sl, ↓e_noPart, ↓e_part, ↓e_cb, ↓e_cl, ↓e_joinL, ↓e_new, ↓e_lc, ↓e_bm, ↓e_bm0, ↓e_call, ↓e_meth, ↓e_fld, ↓e_make, ↓e_isN, ↓e_lenSet, ↓e_nil, ↓e_cons, ↓e_b, ↓e_and, ↓e_or, ↓e_not, ↓e_yes, ↓e_seqI, ↓e_rng1, ↓e_rng2, ↓e_addI, ↓e_addS, ↓e_addT, ↓e_addR, ↓e_sub, ↓e_div, ↓e_mod, ↓e_pow, ↓e_mulI, ↓e_mulS, ↓e_ltI, ↓e_leI, ↓e_gtI, ↓e_geI, ↓e_leS, ↓e_eqI, ↓e_eqS, ↓e_neI, ↓e_neS, ↓e_inC, ↓e_isN3, ↓e_ixT, ↓e_ixRo, ↓e_ixR, ↓e_lenS, ↓e_lenT, ↓e_lenRo, ↓e_lenR, ↓e_intI, ↓e_intB, ↓e_intS, ↓e_strI, ↓e_tupR, ↓e_minI, ↓e_maxI, ↓e_app, ↓e_rev, ↓e_join, ↓e_find3, start3, List.map_cons, List.map_nil, List.length_cons, List.length_nil, List.cons_append, List.nil_append, List.replicate, List.getElem?_cons_zero, List.getElem?_cons_succ, List.set_cons_zero, List.set_cons_succ, Nat.reduceAdd, Nat.reduceSub, Nat.zero_add, atI0, atI1, atI2, atI3, Option.some.injEq, if_true, Bool.false_eq_true, if_false, Bool.not_true, Bool.not_false, ofS_inj, String.reduceEq, decide_true, decide_false, exists_and_left, exists_eq_left', exists_eq_left, O3.ins.injEq, O3.lst.injEq, eq_self, true_and, and_true, ↓reduceIte, exists_const, exists_eq, exists_eq', and_self, Bool.xor_false, Bool.false_xor, Bool.true_xor, seq_ref, lst_ref, tyD, lkW, lkA, lkD, ptW, ptA, ptD, i_non_int, i_non_bool, i_non_str, i_non_tuple, i_non_list, i_bl_int, i_bl_bool, i_bl_str, i_bl_tuple, i_bl_list, i_int_int, i_int_bool, i_int_str, i_int_tuple, i_int_list, i_str_int, i_str_bool, i_str_str, i_str_tuple, i_str_list, i_tup_int, i_tup_bool, i_tup_str, i_tup_tuple, i_tup_list, i_rol_int, i_rol_bool, i_rol_str, i_rol_tuple, i_rol_list, lm_next_is, lm_due, lm_taken, lm_opened, lm_closed, lm_ended, lm_goes_on, lm_names, lm_kind_pairs, lm_name_pairs, lm_value_pairs, lm_values, lm_kind_parts, lm_kind, lm_value, lm_part, lm_parts, lm_turn, lm_piece, lm_path])
section
variable {C C2 a p q : Addr} {ds xs ys : List D} {h : Hp3} {Q : VK3} {E : XK3}
def spNumEnd : Sp3 := fun ds h Q _ => ∃ (pre m post : List Nat) (Z : Str), (ds = [.str Z, .int (pre.length : Int)]) ∧ T (pre ++ (m ++ post)) = Z ∧ NumL m ∧ (∀ c r, post = c :: r → c ∉ FIGs) ∧ Z.length ≤ 16777216 ∧ Q (.int ((pre.length + m.length : Nat) : Int)) h
theorem fig_ne {c : Nat} (h : c ∈ FIGs) : c ≠ 45 := (show ∀ c ∈ FIGs, c ≠ 45 by decide) c h
theorem chr_f {c d : Nat} (n : c ≠ d) : decide (T [c] = T [d]) = false := decide_eq_false (by rw [T_inj]; simpa using n)
theorem chr_t {c : Nat} : decide (T [c] = T [c]) = true := decide_eq_true rfl
theorem sem_number_end (s : spNumEnd ds h Q E) : r_number_end C2 spRunEnd (endX E) (endsOf Q) (start3 ["text", "at", "first", "end"] ds) h := by
  obtain ⟨pre, m, post, Z, rfl, hZ, ⟨fs, hm, hf, hg, hl, h0⟩, hp, hz, q0⟩ := s
  have zl := sizeLine_eq
  cases fs with
  | nil => exact (hf rfl).elim
  | cons c fs =>
  have hc := hg c List.mem_cons_self
  unfold r_number_end
  rcases hm with rfl | rfl
  · have e1 : ∀ (h : Hp3) (Q : VK3), ix3 (.str Z) (.int (pre.length : Int)) h Q = Q (.str (T [c])) h := fun h Q => ixT (post := fs ++ post) hZ.symm (by omega)
    have e2 : decide (T [c] = Str.ofString "-") = false := by rw [lit_minus]; exact chr_f (fig_ne hc)
    have e0 : (pre.length : Int) + 0 = (pre.length : Int) := by omega
    walk_at "sem"
    refine ⟨pre, c :: fs, post, FIGs, Z, by rw [lit_fig], hZ, hg, hp, hz, ?_⟩
    have e3 : ¬ (((pre.length + (c :: fs).length : Nat) : Int) = (pre.length : Int)) := by simp; omega
    have e4 : ¬ ((60 : Int) < ((pre.length + (c :: fs).length : Nat) : Int) - (pre.length : Int)) := by simp only [List.length_cons] at hl ⊢; omega
    have e5 : ¬ ((pre.length : Int) < (pre.length : Int)) := by omega
    by_cases z : c = 48
    · subst z
      have hfs : fs = [] := by
        have := h0 rfl
        injection this
      subst hfs
      have e6 : decide (T [48] = Str.ofString "0") = true := by decide
      have e7 : ¬ ((pre.length : Int) + 1 < ((pre.length + [48].length : Nat) : Int)) := by simp
      simp only [List.length_cons, List.length_nil, Nat.zero_add] at e3 e4 e7 q0 ⊢
      walk_at "sem"
      exact ends_rt q0
    · have e6 : decide (T [c] = Str.ofString "0") = false := by rw [lit_0]; exact chr_f z
      simp only [List.length_cons] at e3 e4 q0 ⊢
      walk_at "sem"
      exact ends_rt q0
  · have e1 : ∀ (h : Hp3) (Q : VK3), ix3 (.str Z) (.int (pre.length : Int)) h Q = Q (.str (T [45])) h := fun h Q => ixT (post := c :: fs ++ post) hZ.symm (by omega)
    have e2 : decide (T [45] = Str.ofString "-") = true := by decide
    have hZ2 : T ((pre ++ [45]) ++ ((c :: fs) ++ post)) = Z := by rw [← hZ]; simp
    have hpl : (((pre ++ [45]).length : Nat) : Int) = (pre.length : Int) + 1 := by simp
    have e1b : ∀ (h : Hp3) (Q : VK3), ix3 (.str Z) (.int (((pre ++ [45]).length : Nat) : Int)) h Q = Q (.str (T [c])) h := fun h Q => ixT (post := fs ++ post) hZ2.symm (by omega)
    have e1c : ∀ (h : Hp3) (Q : VK3), ix3 (.str Z) (.int ((pre.length : Int) + 1)) h Q = Q (.str (T [c])) h := by
      rw [← hpl]
      exact e1b
    clear e1b
    have hN : (pre ++ [45]).length + (c :: fs).length = pre.length + (45 :: c :: fs).length := by simp; omega
    have hM : pre.length + (45 :: c :: fs).length = pre.length + 2 + fs.length := by simp; omega
    walk_at "sem"
    refine ⟨pre ++ [45], c :: fs, post, FIGs, Z, by rw [lit_fig, hpl], hZ2, hg, hp, hz, ?_⟩
    rw [hN]
    clear hN
    generalize pre.length + (45 :: c :: fs).length = N at *
    simp only [List.length_cons] at hl
    have e3 : ¬ ((N : Int) = (pre.length : Int) + 1) := by omega
    have e4 : ¬ ((60 : Int) < (N : Int) - ((pre.length : Int) + 1)) := by omega
    have e5 : decide (T [c] = Str.ofString "0") = false := by
      rw [lit_0]
      refine chr_f fun z => ?_
      have := h0 (by rw [z]; rfl)
      injection this with z1
      omega
    clear hM hpl hZ hZ2
    walk_at "sem"
    exact ends_rt q0
end
end O85

end F_M8

section F_M9
/-! M9: words. -/
namespace O85
open PySem PySem.Spec PyProof.Rows L2 L3 Old
local macro_rules
  | `(tactic| walk_at "sem") => `(tactic| simp only [↓e_next, ↓e_seq, ↓e_brk, ↓e_cont, ↓e_drop, ↓e_ret, ↓e_retN, ↓e_if, ↓e_asg, ↓e_par, ↓e_for, ↓e_raise, ↓e_sfld, ↓e_name, ↓e_gnil, ↓e_gcons, ↓e_gtup, ↓e_gsub, ↓e_setL, ↓e_var, ↓e_c, ↓e_op, ↓e_neg, ↓e_andV, ↓e_orV, ↓e_notV, ↓e_ifE, ↓e_chain, ↓e_chain4, ↓e_tup, ↓e_lst, ↓e_ixD, ↓e_inD, ↓e_sl, ↓e_noPart, ↓e_part, ↓e_cb, ↓e_cl, ↓e_joinL, ↓e_new, ↓e_lc, ↓e_bm, ↓e_bm0, ↓e_call, ↓e_meth, ↓e_fld, ↓e_make, ↓e_isN, ↓e_lenSet, ↓e_nil, ↓e_cons, ↓e_b, ↓e_and, ↓e_or, ↓e_not, ↓e_yes, ↓e_seqI, ↓e_rng1, ↓e_rng2, ↓e_addI, ↓e_addS, ↓e_addT, ↓e_addR, ↓e_sub, ↓e_div, ↓e_mod, ↓e_pow, ↓e_mulI, ↓e_mulS, ↓e_ltI, ↓e_leI, ↓e_gtI, ↓e_geI, ↓e_leS, ↓e_eqI, ↓e_eqS, ↓e_neI, ↓e_neS, ↓e_inC, ↓e_isN3, ↓e_ixT, ↓e_ixRo, ↓e_ixR, ↓e_lenS, ↓e_lenT, ↓e_lenRo, ↓e_lenR, ↓e_intI, ↓e_intB, ↓e_intS, ↓e_strI, ↓e_tupR, ↓e_minI, ↓e_maxI, ↓e_app, ↓e_rev, ↓e_join, ↓e_find3, start3, List.map_cons, List.map_nil, List.length_cons, List.length_nil, List.cons_append, List.nil_append, List.replicate, List.getElem?_cons_zero, List.getElem?_cons_succ, List.set_cons_zero, List.set_cons_succ, Nat.reduceAdd, Nat.reduceSub, Nat.zero_add, atI0, atI1, atI2, atI3, Option.some.injEq, if_true, Bool.false_eq_true, if_false, Bool.not_true, Bool.not_false, ofS_inj, String.reduceEq, decide_true, decide_false, exists_and_left, exists_eq_left', exists_eq_left, O3.ins.injEq, O3.lst.injEq, eq_self, true_and, and_true, ↓reduceIte, exists_const, exists_eq, exists_eq', and_self, Bool.xor_false, Bool.false_xor, Bool.true_xor, seq_ref, lst_ref, tyD, lkW, lkA, lkD, ptW, ptA, ptD, i_non_int, i_non_bool, i_non_str, i_non_tuple, i_non_list, i_bl_int, i_bl_bool, i_bl_str, i_bl_tuple, i_bl_list, i_int_int, i_int_bool, i_int_str, i_int_tuple, i_int_list, i_str_int, i_str_bool, i_str_str, i_str_tuple, i_str_list, i_tup_int, i_tup_bool, i_tup_str, i_tup_tuple, i_tup_list, i_rol_int, i_rol_bool, i_rol_str, i_rol_tuple, i_rol_list, lm_next_is, lm_due, lm_taken, lm_opened, lm_closed, lm_ended, lm_goes_on, lm_names, lm_kind_pairs, lm_name_pairs, lm_value_pairs, lm_values, lm_kind_parts, lm_kind, lm_value, lm_part, lm_parts, lm_turn, lm_piece, lm_path, *])
  | `(tactic| walk_at "sem0") => `(tactic| simp only [↓e_next, ↓e_seq, ↓e_brk, ↓e_cont, ↓e_drop, ↓e_ret, ↓e_retN, ↓e_if, ↓e_asg, ↓e_par, ↓e_for, ↓e_raise, ↓e_sfld, ↓e_name, ↓e_gnil, ↓e_gcons, ↓e_gtup, ↓e_gsub, ↓e_setL, ↓e_var, ↓e_c, ↓e_op, ↓e_neg, ↓e_andV, ↓e_orV, ↓e_notV, ↓e_ifE, ↓e_chain, ↓e_chain4, ↓e_tup, ↓e_lst, ↓e_ixD, ↓e_inD, ↓e_sl, ↓e_noPart, ↓e_part, ↓e_cb, ↓e_cl, ↓e_joinL, ↓e_new, ↓e_lc, ↓e_bm, ↓e_bm0, ↓e_call, ↓e_meth, ↓e_fld, ↓e_make, ↓e_isN, ↓e_lenSet, ↓e_nil, ↓e_cons, ↓e_b, ↓e_and, ↓e_or, ↓e_not, ↓e_yes, ↓e_seqI, ↓e_rng1, ↓e_rng2, ↓e_addI, ↓e_addS, ↓e_addT, ↓e_addR, ↓e_sub, ↓e_div, ↓e_mod, ↓e_pow, ↓e_mulI, ↓e_mulS, ↓e_ltI, ↓e_leI, ↓e_gtI, ↓e_geI, ↓e_leS, ↓e_eqI, ↓e_eqS, ↓e_neI, ↓e_neS, ↓e_inC, ↓e_isN3, ↓e_ixT, ↓e_ixRo, ↓e_ixR, ↓e_lenS, ↓e_lenT, ↓e_lenRo, ↓e_lenR, ↓e_intI, ↓e_intB, ↓e_intS, ↓e_strI, ↓e_tupR, ↓e_minI, ↓e_maxI, ↓e_app, ↓e_rev, ↓e_join, ↓e_find3, start3, List.map_cons, List.map_nil, List.length_cons, List.length_nil, List.cons_append, List.nil_append, List.replicate, List.getElem?_cons_zero, List.getElem?_cons_succ, List.set_cons_zero, List.set_cons_succ, Nat.reduceAdd, Nat.reduceSub, Nat.zero_add, atI0, atI1, atI2, atI3, Option.some.injEq, if_true, Bool.false_eq_true, if_false, Bool.not_true, Bool.not_false, ofS_inj, String.reduceEq, decide_true, decide_false, exists_and_left, exists_eq_left', exists_eq_left, O3.ins.injEq, O3.lst.injEq, eq_self, true_and, and_true, ↓reduceIte, exists_const, exists_eq, exists_eq', and_self, Bool.xor_false, Bool.false_xor, Bool.true_xor, seq_ref, lst_ref, tyD, lkW, lkA, lkD, ptW, ptA, ptD, i_non_int, i_non_bool, i_non_str, i_non_tuple, i_non_list, i_bl_int, i_bl_bool, i_bl_str, i_bl_tuple, i_bl_list, i_int_int, i_int_bool, i_int_str, i_int_tuple, i_int_list, i_str_int, i_str_bool, i_str_str, i_str_tuple, i_str_list, i_tup_int, i_tup_bool, i_tup_str, i_tup_tuple, i_tup_list, i_rol_int, i_rol_bool, i_rol_str, i_rol_tuple, i_rol_list, lm_next_is, lm_due, lm_taken, lm_opened, lm_closed, lm_ended, lm_goes_on, lm_names, lm_kind_pairs, lm_name_pairs, lm_value_pairs, lm_values, lm_kind_parts, lm_kind, lm_value, lm_part, lm_parts, lm_turn, lm_piece, lm_path])
section
variable {C C2 a p q : Addr} {ds xs ys : List D} {h : Hp3} {Q : VK3} {E : XK3}
def spQuoted : Sp3 := fun ds h Q _ => ∃ (pre s post : List Nat) (Z : Str), (ds = [.str Z, .int (pre.length : Int)]) ∧ T (pre ++ (34 :: (s ++ 34 :: post))) = Z ∧ (∀ c ∈ s, isSg c) ∧ Z.length ≤ 16777216 ∧ Q (.int ((pre.length + s.length + 2 : Nat) : Int)) h
def spWordsOf : Sp3 := fun ds h Q _ => ∃ (cs : List Nat) (ts : List Lx), (ds = [.str (T cs)]) ∧ Lex cs ts ∧ cs.length + 10 ≤ 16777216 ∧ ∀ p, h p = none → Q (.ref p) (upd3 h p (.lst ((ts ++ [Lx.fin]).map Lx.enc)))
def bWO (C2 : Addr) (E : XK3) : TS3 := (tSeq3 (tAsg3 (tOp3 ix3 (tVar3 0) (tVar3 2)) (gName3 3))
    (tSeq3 (tAsg3 (tOp3 add3 (tVar3 2) (tC3 (.int 1))) (gName3 4))
    (tSeq3 (tIfS3 (tB3 (tOp3 eq3 (tVar3 3) (tC3 (.str "\"")))) (tSeq3 (tAsg3 (tCall3 spQuoted (fun _ => E) (tCons3 (tVar3 0) (tCons3 (tVar3 2) tNil3))) (gName3 4))
    (tDrop3 (tBM3 "list" append3 (tVar3 1) (tCons3 (tTup3 (tCons3 (tC3 (.str "text")) (tCons3 (tSl3 (tVar3 0) (tPart3 (tOp3 add3 (tVar3 2) (tC3 (.int 1)))) (tPart3 (tOp3 sub3 (tVar3 4) (tC3 (.int 1))))) tNil3))) tNil3)))) (tIfS3 (tB3 (tOp3 (in3 false) (tVar3 3) (tC3 (.str "abcdefghijklmnopqrstuvwxyz")))) (tSeq3 (tAsg3 (tCall3 spRunEnd (fun _ => E) (tCons3 (tVar3 0) (tCons3 (tVar3 2) (tCons3 (tC3 (.str "abcdefghijklmnopqrstuvwxyz")) tNil3)))) (gName3 4))
    (tSeq3 (tIfS3 (tB3 (tOp3 gt3 (tOp3 sub3 (tVar3 4) (tVar3 2)) (tC3 (.int 8)))) (tRaise3 C2 (fun _ => E)) tNext3)
    (tDrop3 (tBM3 "list" append3 (tVar3 1) (tCons3 (tTup3 (tCons3 (tC3 (.str "word")) (tCons3 (tSl3 (tVar3 0) (tPart3 (tVar3 2)) (tPart3 (tVar3 4))) tNil3))) tNil3))))) (tIfS3 (tOr3 (tB3 (tOp3 (in3 false) (tVar3 3) (tC3 (.str "0123456789")))) (tB3 (tOp3 eq3 (tVar3 3) (tC3 (.str "-"))))) (tSeq3 (tAsg3 (tCall3 spNumEnd (fun _ => E) (tCons3 (tVar3 0) (tCons3 (tVar3 2) tNil3))) (gName3 4))
    (tDrop3 (tBM3 "list" append3 (tVar3 1) (tCons3 (tTup3 (tCons3 (tC3 (.str "number")) (tCons3 (tCB3 int3 (tCons3 (tSl3 (tVar3 0) (tPart3 (tVar3 2)) (tPart3 (tVar3 4))) tNil3)) tNil3))) tNil3)))) (tIfS3 (tB3 (tOp3 (in3 false) (tVar3 3) (tC3 (.str "()[]{},:;/")))) (tDrop3 (tBM3 "list" append3 (tVar3 1) (tCons3 (tTup3 (tCons3 (tC3 (.str "sign")) (tCons3 (tVar3 3) tNil3))) tNil3))) (tIfS3 (tB3 (tOp3 ne3 (tVar3 3) (tC3 (.str " ")))) (tRaise3 C2 (fun _ => E)) tNext3)))))
    (tAsg3 (tVar3 4) (gName3 2)))))
theorem in_let {c : Nat} : decide (c ∈ (Str.ofString "abcdefghijklmnopqrstuvwxyz").cps.toList) = decide (c ∈ LETs) := by rw [show (Str.ofString "abcdefghijklmnopqrstuvwxyz").cps.toList = LETs by decide]
theorem in_fig {c : Nat} : decide (c ∈ (Str.ofString "0123456789").cps.toList) = decide (c ∈ FIGs) := by rw [show (Str.ofString "0123456789").cps.toList = FIGs by decide]
theorem in_sig {c : Nat} : decide (c ∈ (Str.ofString "()[]{},:;/").cps.toList) = decide (c ∈ SIGs) := by rw [show (Str.ofString "()[]{},:;/").cps.toList = SIGs by decide]
theorem let_ne {c : Nat} (h : c ∈ LETs) : c ≠ 34 := (show ∀ c ∈ LETs, c ≠ 34 by decide) c h
theorem sig_ne {c : Nat} (h : c ∈ SIGs) : c ≠ 34 ∧ c ≠ 45 ∧ c ∉ LETs ∧ c ∉ FIGs := (show ∀ c ∈ SIGs, c ≠ 34 ∧ c ≠ 45 ∧ c ∉ LETs ∧ c ∉ FIGs by decide) c h
theorem fig_ne2 {c : Nat} (h : c ∈ FIGs) : c ≠ 34 ∧ c ∉ LETs := (show ∀ c ∈ FIGs, c ≠ 34 ∧ c ∉ LETs by decide) c h
/-- one token's turn of the loop -/
theorem words_step {Z : Str} {pre w post : List Nat} {acc : List D} {sg en : Option D} {o : List D} {Dn : Ends3} {q : Addr} (nx : St3 → Hp3 → Prop)
    (hZ : T (pre ++ (w ++ post)) = Z) (hw : w ≠ []) (hz : Z.length ≤ 16777216) (ha : acc.length < 16777216)
    (hk : (w = [32] ∧ o = []) ∨ (∃ c, w = [c] ∧ c ∈ SIGs ∧ o = [Lx.enc (.sign c)]) ∨ ((∀ c ∈ w, c ∈ LETs) ∧ w.length ≤ 8 ∧ (∀ c r, post = c :: r → c ∉ LETs) ∧ o = [Lx.enc (.word w)]) ∨ (∃ i, NumL w ∧ PySem.intText? (T w) = some i ∧ w.length ≤ 61 ∧ (∀ c r, post = c :: r → c ∉ FIGs) ∧ o = [Lx.enc (.num i)]) ∨ ∃ s, w = 34 :: (s ++ [34]) ∧ (∀ c ∈ s, isSg c) ∧ o = [Lx.enc (.text s)])
    (k : ∀ sg en, nx [some (.str Z), some (.ref q), some (.int ((pre.length + w.length : Nat) : Int)), sg, en] (upd3 h q (.lst (acc ++ o)))) :
    bWO C2 E { Dn with nx := nx } [some (.str Z), some (.ref q), some (.int (pre.length : Int)), sg, en] (upd3 h q (.lst acc)) := by
  have zl := sizeLine_eq
  have oq : upd3 h q (.lst acc) q = some (.lst acc) := upd3_same
  unfold bWO
  rcases hk with ⟨rfl, rfl⟩ | ⟨c, rfl, hc, rfl⟩ | ⟨hl, h8, hp, rfl⟩ | ⟨i, hn, hi, h61, hp, rfl⟩ | ⟨s, rfl, hs, rfl⟩
  · have e4 : ∀ (h : Hp3) (Q : VK3), ix3 (.str Z) (.int (pre.length : Int)) h Q = Q (.str (T [32])) h := fun h Q => ixT (post := post) hZ.symm (by omega)
    have b1 : decide (T [32] = Str.ofString "\"") = false := by decide
    have b2 : decide (32 ∈ (Str.ofString "abcdefghijklmnopqrstuvwxyz").cps.toList) = false := by decide
    have b3 : decide (32 ∈ (Str.ofString "0123456789").cps.toList) = false := by decide
    have b4 : decide (T [32] = Str.ofString "-") = false := by decide
    have b5 : decide (32 ∈ (Str.ofString "()[]{},:;/").cps.toList) = false := by decide
    have b6 : decide (T [32] = Str.ofString " ") = true := by decide
    have k2 := k (some (.str (T [32]))) (some (.int ((pre.length : Int) + 1)))
    rw [List.append_nil, show ((pre.length + [32].length : Nat) : Int) = (pre.length : Int) + 1 by simp] at k2
    walk_at "sem"
  · have e4 : ∀ (h : Hp3) (Q : VK3), ix3 (.str Z) (.int (pre.length : Int)) h Q = Q (.str (T [c])) h := fun h Q => ixT (post := post) hZ.symm (by omega)
    obtain ⟨n1, n2, n3, n4⟩ := sig_ne hc
    have b1 : decide (T [c] = Str.ofString "\"") = false := by rw [lit_q]; exact chr_f n1
    have b2 : decide (c ∈ (Str.ofString "abcdefghijklmnopqrstuvwxyz").cps.toList) = false := by rw [in_let]; exact decide_eq_false n3
    have b3 : decide (c ∈ (Str.ofString "0123456789").cps.toList) = false := by rw [in_fig]; exact decide_eq_false n4
    have b4 : decide (T [c] = Str.ofString "-") = false := by rw [lit_minus]; exact chr_f n2
    have b5 : decide (c ∈ (Str.ofString "()[]{},:;/").cps.toList) = true := by rw [in_sig]; exact decide_eq_true hc
    have k2 := k (some (.str (T [c]))) (some (.int ((pre.length : Int) + 1)))
    rw [show ((pre.length + [c].length : Nat) : Int) = (pre.length : Int) + 1 by simp] at k2
    simp only [Lx.enc, Lx.sort, Lx.val] at k2
    walk_at "sem"
    refine ⟨by decide, ?_⟩
    rw [upd3_upd3]
    exact k2
  · cases w with
    | nil => exact (hw rfl).elim
    | cons c w =>
    have hc := hl c List.mem_cons_self
    have e4 : ∀ (h : Hp3) (Q : VK3), ix3 (.str Z) (.int (pre.length : Int)) h Q = Q (.str (T [c])) h := fun h Q => ixT (post := w ++ post) hZ.symm (by omega)
    have b1 : decide (T [c] = Str.ofString "\"") = false := by rw [lit_q]; exact chr_f (let_ne hc)
    have b2 : decide (c ∈ (Str.ofString "abcdefghijklmnopqrstuvwxyz").cps.toList) = true := by rw [in_let]; exact decide_eq_true hc
    walk_at "sem"
    refine ⟨pre, c :: w, post, LETs, Z, by rw [lit_let], hZ, hl, hp, hz, ?_⟩
    have b3 : ¬ ((8 : Int) < ((pre.length + (c :: w).length : Nat) : Int) - (pre.length : Int)) := by omega
    have k2 := k (some (.str (T [c]))) (some (.int ((pre.length + (c :: w).length : Nat) : Int)))
    have cc : ∀ (h : Hp3) (Q : VK3), sl3 (.str Z) (some (pre.length : Int)) (some ((pre.length + (c :: w).length : Nat) : Int)) h Q = (Z.length ≤ sizeLine ∧ Q (.str (T (c :: w))) h) := fun h Q => cut_T hZ rfl rfl
    generalize pre.length + (c :: w).length = N at *
    simp only [Lx.enc, Lx.sort, Lx.val] at k2
    walk_at "sem"
    refine ⟨by decide, ?_⟩
    rw [upd3_upd3]
    exact k2
  · obtain ⟨c, w', rfl⟩ : ∃ c w', w = c :: w' := by
      cases w with
      | nil => exact (hw rfl).elim
      | cons c w => exact ⟨c, w, rfl⟩
    have hcc : c ≠ 34 ∧ c ∉ LETs ∧ (c ∈ FIGs ∨ c = 45) := by
      obtain ⟨fs, hm, hf, hg, _⟩ := hn.ex
      rcases hm with rfl | e
      · have := fig_ne2 (hg c List.mem_cons_self)
        exact ⟨this.1, this.2, .inl (hg c List.mem_cons_self)⟩
      · injection e with e1 e2
        subst e1
        exact ⟨by decide, by decide, .inr rfl⟩
    have e4 : ∀ (h : Hp3) (Q : VK3), ix3 (.str Z) (.int (pre.length : Int)) h Q = Q (.str (T [c])) h := fun h Q => ixT (post := w' ++ post) hZ.symm (by omega)
    have b1 : decide (T [c] = Str.ofString "\"") = false := by rw [lit_q]; exact chr_f hcc.1
    have b2 : decide (c ∈ (Str.ofString "abcdefghijklmnopqrstuvwxyz").cps.toList) = false := by rw [in_let]; exact decide_eq_false hcc.2.1
    have main : (∃ (pre_1 m post_1 : List Nat) (Z_1 : Str), (([.str Z, .int (pre.length : Int)] : List D) = [.str Z_1, .int (pre_1.length : Int)]) ∧ T (pre_1 ++ (m ++ post_1)) = Z_1 ∧ NumL m ∧ (∀ c r, post_1 = c :: r → c ∉ FIGs) ∧ Z_1.length ≤ 16777216 ∧ pre_1.length + m.length = pre.length + (c :: w').length) := ⟨pre, c :: w', post, Z, rfl, hZ, hn, hp, hz, rfl⟩
    have fin : ∀ (F : VK3), F (.int ((pre.length + (c :: w').length : Nat) : Int)) (upd3 h q (.lst acc)) → spNumEnd [.str Z, .int (pre.length : Int)] (upd3 h q (.lst acc)) F E := fun F hF => ⟨pre, c :: w', post, Z, rfl, hZ, hn, hp, hz, hF⟩
    clear main
    have k2 := k (some (.str (T [c]))) (some (.int ((pre.length + (c :: w').length : Nat) : Int)))
    have cc : ∀ (h : Hp3) (Q : VK3), sl3 (.str Z) (some (pre.length : Int)) (some ((pre.length + (c :: w').length : Nat) : Int)) h Q = (Z.length ≤ sizeLine ∧ Q (.str (T (c :: w'))) h) := fun h Q => cut_T hZ rfl rfl
    have h640 : (T (c :: w')).length ≤ 640 := by rw [T_len]; omega
    simp only [Lx.enc, Lx.sort, Lx.val] at k2
    rcases hcc.2.2 with hf | rfl
    · have b3 : decide (c ∈ (Str.ofString "0123456789").cps.toList) = true := by rw [in_fig]; exact decide_eq_true hf
      clear hcc
      walk_at "sem"
      refine fin _ ?_
      clear fin
      generalize pre.length + (c :: w').length = N at *
      walk_at "sem"
      refine ⟨by decide, ?_⟩
      rw [upd3_upd3]
      exact k2
    · have b3 : decide (45 ∈ (Str.ofString "0123456789").cps.toList) = false := by decide
      have b4 : decide (T [45] = Str.ofString "-") = true := by decide
      clear hcc
      walk_at "sem"
      refine fin _ ?_
      clear fin
      generalize pre.length + (45 :: w').length = N at *
      walk_at "sem"
      refine ⟨by decide, ?_⟩
      rw [upd3_upd3]
      exact k2
  · have e4 : ∀ (h : Hp3) (Q : VK3), ix3 (.str Z) (.int (pre.length : Int)) h Q = Q (.str (T [34])) h := fun h Q => ixT (post := (s ++ [34]) ++ post) (by rw [← hZ]; rfl) (by omega)
    have b1 : decide (T [34] = Str.ofString "\"") = true := by decide
    have hZ2 : T (pre ++ (34 :: (s ++ 34 :: post))) = Z := by rw [← hZ]; simp
    walk_at "sem"
    refine ⟨pre, s, post, Z, rfl, hZ2, hs, hz, ?_⟩
    have hN : pre.length + s.length + 2 = pre.length + (34 :: (s ++ [34])).length := by simp; omega
    have hM : ((pre.length + s.length + 2 : Nat) : Int) - 1 = (((pre ++ [34]).length + s.length : Nat) : Int) := by simp; omega
    have hx : (pre.length : Int) + 1 = (((pre ++ [34]).length : Nat) : Int) := by simp
    have cc : ∀ (h : Hp3) (Q : VK3), sl3 (.str Z) (some ((pre.length : Int) + 1)) (some (((pre.length + s.length + 2 : Nat) : Int) - 1)) h Q = (Z.length ≤ sizeLine ∧ Q (.str (T s)) h) := fun h Q => cut_T (pre := pre ++ [34]) (post := 34 :: post) (by rw [← hZ2]; simp) hx hM
    have k2 := k (some (.str (T [34]))) (some (.int ((pre.length + (34 :: (s ++ [34])).length : Nat) : Int)))
    simp only [Lx.enc, Lx.sort, Lx.val] at k2
    rw [← hN] at k2
    clear hN hM hx
    generalize pre.length + s.length + 2 = N at *
    walk_at "sem"
    refine ⟨by decide, ?_⟩
    rw [upd3_upd3]
    exact k2
end
end O85

end F_M9

section F_M10
/-! M10: words_of. -/
namespace O85
open PySem PySem.Spec PyProof.Rows L2 L3 Old
local macro_rules
  | `(tactic| walk_at "sem") => `(tactic| simp only [↓e_next, ↓e_seq, ↓e_brk, ↓e_cont, ↓e_drop, ↓e_ret, ↓e_retN, ↓e_if, ↓e_asg, ↓e_par, ↓e_for, ↓e_raise, ↓e_sfld, ↓e_name, ↓e_gnil, ↓e_gcons, ↓e_gtup, ↓e_gsub, ↓e_setL, ↓e_var, ↓e_c, ↓e_op, ↓e_neg, ↓e_andV, ↓e_orV, ↓e_notV, ↓e_ifE, ↓e_chain, ↓e_chain4, ↓e_tup, ↓e_lst, ↓e_ixD, ↓e_inD, ↓e_sl, ↓e_noPart, ↓e_part, ↓e_cb, ↓e_cl, ↓e_joinL, ↓e_new, ↓e_lc, ↓e_bm, ↓e_bm0, ↓e_call, ↓e_meth, ↓e_fld, ↓e_make, ↓e_isN, ↓e_lenSet, ↓e_nil, ↓e_cons, ↓e_b, ↓e_and, ↓e_or, ↓e_not, ↓e_yes, ↓e_seqI, ↓e_rng1, ↓e_rng2, ↓e_addI, ↓e_addS, ↓e_addT, ↓e_addR, ↓e_sub, ↓e_div, ↓e_mod, ↓e_pow, ↓e_mulI, ↓e_mulS, ↓e_ltI, ↓e_leI, ↓e_gtI, ↓e_geI, ↓e_leS, ↓e_eqI, ↓e_eqS, ↓e_neI, ↓e_neS, ↓e_inC, ↓e_isN3, ↓e_ixT, ↓e_ixRo, ↓e_ixR, ↓e_lenS, ↓e_lenT, ↓e_lenRo, ↓e_lenR, ↓e_intI, ↓e_intB, ↓e_intS, ↓e_strI, ↓e_tupR, ↓e_minI, ↓e_maxI, ↓e_app, ↓e_rev, ↓e_join, ↓e_find3, start3, List.map_cons, List.map_nil, List.length_cons, List.length_nil, List.cons_append, List.nil_append, List.replicate, List.getElem?_cons_zero, List.getElem?_cons_succ, List.set_cons_zero, List.set_cons_succ, Nat.reduceAdd, Nat.reduceSub, Nat.zero_add, atI0, atI1, atI2, atI3, Option.some.injEq, if_true, Bool.false_eq_true, if_false, Bool.not_true, Bool.not_false, ofS_inj, String.reduceEq, decide_true, decide_false, exists_and_left, exists_eq_left', exists_eq_left, O3.ins.injEq, O3.lst.injEq, eq_self, true_and, and_true, ↓reduceIte, exists_const, exists_eq, exists_eq', and_self, Bool.xor_false, Bool.false_xor, Bool.true_xor, seq_ref, lst_ref, tyD, lkW, lkA, lkD, ptW, ptA, ptD, i_non_int, i_non_bool, i_non_str, i_non_tuple, i_non_list, i_bl_int, i_bl_bool, i_bl_str, i_bl_tuple, i_bl_list, i_int_int, i_int_bool, i_int_str, i_int_tuple, i_int_list, i_str_int, i_str_bool, i_str_str, i_str_tuple, i_str_list, i_tup_int, i_tup_bool, i_tup_str, i_tup_tuple, i_tup_list, i_rol_int, i_rol_bool, i_rol_str, i_rol_tuple, i_rol_list, lm_next_is, lm_due, lm_taken, lm_opened, lm_closed, lm_ended, lm_goes_on, lm_names, lm_kind_pairs, lm_name_pairs, lm_value_pairs, lm_values, lm_kind_parts, lm_kind, lm_value, lm_part, lm_parts, lm_turn, lm_piece, lm_path, *])
  | `(tactic| walk_at "sem0") => `(tactic| simp only [↓e_next, ↓e_seq, ↓e_brk, ↓e_cont, ↓e_drop, ↓e_ret, ↓e_retN, ↓e_if, ↓e_asg, ↓e_par, ↓e_for, ↓e_raise, ↓e_sfld, ↓e_name, ↓e_gnil, ↓e_gcons, ↓e_gtup, ↓e_gsub, ↓e_setL, ↓e_var, ↓e_c, ↓e_op, ↓e_neg, ↓e_andV, ↓e_orV, ↓e_notV, ↓e_ifE, ↓e_chain, ↓e_chain4, ↓e_tup, ↓e_lst, ↓e_ixD, ↓e_inD, ↓e_sl, ↓e_noPart, ↓e_part, ↓e_cb, ↓e_cl, ↓e_joinL, ↓e_new, ↓e_lc, ↓e_bm, ↓e_bm0, ↓e_call, ↓e_meth, ↓e_fld, ↓e_make, ↓e_isN, ↓e_lenSet, ↓e_nil, ↓e_cons, ↓e_b, ↓e_and, ↓e_or, ↓e_not, ↓e_yes, ↓e_seqI, ↓e_rng1, ↓e_rng2, ↓e_addI, ↓e_addS, ↓e_addT, ↓e_addR, ↓e_sub, ↓e_div, ↓e_mod, ↓e_pow, ↓e_mulI, ↓e_mulS, ↓e_ltI, ↓e_leI, ↓e_gtI, ↓e_geI, ↓e_leS, ↓e_eqI, ↓e_eqS, ↓e_neI, ↓e_neS, ↓e_inC, ↓e_isN3, ↓e_ixT, ↓e_ixRo, ↓e_ixR, ↓e_lenS, ↓e_lenT, ↓e_lenRo, ↓e_lenR, ↓e_intI, ↓e_intB, ↓e_intS, ↓e_strI, ↓e_tupR, ↓e_minI, ↓e_maxI, ↓e_app, ↓e_rev, ↓e_join, ↓e_find3, start3, List.map_cons, List.map_nil, List.length_cons, List.length_nil, List.cons_append, List.nil_append, List.replicate, List.getElem?_cons_zero, List.getElem?_cons_succ, List.set_cons_zero, List.set_cons_succ, Nat.reduceAdd, Nat.reduceSub, Nat.zero_add, atI0, atI1, atI2, atI3, Option.some.injEq, if_true, Bool.false_eq_true, if_false, Bool.not_true, Bool.not_false, ofS_inj, String.reduceEq, decide_true, decide_false, exists_and_left, exists_eq_left', exists_eq_left, O3.ins.injEq, O3.lst.injEq, eq_self, true_and, and_true, ↓reduceIte, exists_const, exists_eq, exists_eq', and_self, Bool.xor_false, Bool.false_xor, Bool.true_xor, seq_ref, lst_ref, tyD, lkW, lkA, lkD, ptW, ptA, ptD, i_non_int, i_non_bool, i_non_str, i_non_tuple, i_non_list, i_bl_int, i_bl_bool, i_bl_str, i_bl_tuple, i_bl_list, i_int_int, i_int_bool, i_int_str, i_int_tuple, i_int_list, i_str_int, i_str_bool, i_str_str, i_str_tuple, i_str_list, i_tup_int, i_tup_bool, i_tup_str, i_tup_tuple, i_tup_list, i_rol_int, i_rol_bool, i_rol_str, i_rol_tuple, i_rol_list, lm_next_is, lm_due, lm_taken, lm_opened, lm_closed, lm_ended, lm_goes_on, lm_names, lm_kind_pairs, lm_name_pairs, lm_value_pairs, lm_values, lm_kind_parts, lm_kind, lm_value, lm_part, lm_parts, lm_turn, lm_piece, lm_path])
section
variable {C C2 a p q : Addr} {ds xs ys : List D} {h : Hp3} {Q : VK3} {E : XK3}
def cWO : TT3 := (tB3 (tOp3 lt3 (tVar3 2) (tCB3 len3 (tCons3 (tVar3 0) tNil3))))
theorem words_loop {Z : Str} {q : Addr} (Dn : Ends3) (hz : Z.length + 10 ≤ 16777216) : ∀ {cs : List Nat} {ts : List Lx}, Lex cs ts → ∃ n, ∀ (pre : List Nat) (acc : List D) (sg en : Option D), T (pre ++ cs) = Z → acc.length ≤ pre.length → (∀ sg en, Dn.nx [some (.str Z), some (.ref q), some (.int (Z.length : Int)), sg, en] (upd3 h q (.lst (acc ++ ts.map Lx.enc)))) →
    wh3 cWO (bWO C2 E) Dn n [some (.str Z), some (.ref q), some (.int (pre.length : Int)), sg, en] (upd3 h q (.lst acc)) := by
  have zl := sizeLine_eq
  have zs : Z.length ≤ 16777216 := by omega
  -- a turn
  have turn : ∀ (n : Nat) (pre w post : List Nat) (acc o : List D) (sg en : Option D), T (pre ++ (w ++ post)) = Z → w ≠ [] → acc.length ≤ pre.length →
      ((w = [32] ∧ o = []) ∨ (∃ c, w = [c] ∧ c ∈ SIGs ∧ o = [Lx.enc (.sign c)]) ∨ ((∀ c ∈ w, c ∈ LETs) ∧ w.length ≤ 8 ∧ (∀ c r, post = c :: r → c ∉ LETs) ∧ o = [Lx.enc (.word w)]) ∨ (∃ i, NumL w ∧ PySem.intText? (T w) = some i ∧ w.length ≤ 61 ∧ (∀ c r, post = c :: r → c ∉ FIGs) ∧ o = [Lx.enc (.num i)]) ∨ ∃ s, w = 34 :: (s ++ [34]) ∧ (∀ c ∈ s, isSg c) ∧ o = [Lx.enc (.text s)]) →
      (∀ sg en, wh3 cWO (bWO C2 E) Dn n [some (.str Z), some (.ref q), some (.int ((pre ++ w).length : Int)), sg, en] (upd3 h q (.lst (acc ++ o)))) →
      wh3 cWO (bWO C2 E) Dn (n + 1) [some (.str Z), some (.ref q), some (.int (pre.length : Int)), sg, en] (upd3 h q (.lst acc)) := by
    intro n pre w post acc o sg en hZ hw ha hk k
    have hwl : 0 < w.length := List.length_pos_iff.mpr hw
    have hzl : Z.length = pre.length + (w.length + post.length) := by rw [← hZ, T_len]; simp
    have e2 : ((pre.length : Int) < (Z.length : Int)) := by omega
    have e3 := decide_eq_true e2
    have st := words_step (E := E) (C2 := C2) (Dn := { Dn with ct := wh3 cWO (bWO C2 E) Dn n, bk := Dn.nx }) (sg := sg) (en := en) (wh3 cWO (bWO C2 E) Dn n) hZ hw zs (acc := acc) (by omega) hk (fun sg en => by
      have := k sg en
      rw [List.length_append] at this
      exact this)
    clear hzl hZ
    unfold wh3 cWO
    walk_at "sem"
    exact st
  intro cs ts hlex
  induction hlex with
  | nil =>
    refine ⟨1, fun pre acc sg en hZ ha k => ?_⟩
    have hzl : Z.length = pre.length := by rw [← hZ, T_len]; simp
    have e2 : ¬ ((pre.length : Int) < (Z.length : Int)) := by omega
    have e3 := decide_eq_false e2
    have k2 := k sg en
    rw [List.map_nil, List.append_nil, hzl] at k2
    clear hzl
    unfold wh3 cWO
    walk_at "sem"
  | @blank cs ts _ ih =>
    obtain ⟨n, hn⟩ := ih
    refine ⟨n + 1, fun pre acc sg en hZ ha k => ?_⟩
    refine turn n pre [32] cs acc [] sg en hZ (by simp) ha (.inl ⟨rfl, rfl⟩) fun sg en => ?_
    refine hn (pre ++ [32]) (acc ++ []) sg en (by rw [← hZ]; simp) (by simp; omega) (by simpa using k)
  | @sign c cs ts hc _ ih =>
    obtain ⟨n, hn⟩ := ih
    refine ⟨n + 1, fun pre acc sg en hZ ha k => ?_⟩
    refine turn n pre [c] cs acc [Lx.enc (.sign c)] sg en hZ (by simp) ha (.inr (.inl ⟨c, rfl, hc, rfl⟩)) fun sg en => ?_
    refine hn (pre ++ [c]) (acc ++ [Lx.enc (.sign c)]) sg en (by rw [← hZ]; simp) (by simp; omega) (by simpa using k)
  | @word w cs ts h1 h2 h3 h4 _ ih =>
    obtain ⟨n, hn⟩ := ih
    refine ⟨n + 1, fun pre acc sg en hZ ha k => ?_⟩
    have hwl : 0 < w.length := List.length_pos_iff.mpr h1
    refine turn n pre w cs acc [Lx.enc (.word w)] sg en hZ h1 ha (.inr (.inr (.inl ⟨h2, h3, h4, rfl⟩))) fun sg en => ?_
    refine hn (pre ++ w) (acc ++ [Lx.enc (.word w)]) sg en (by rw [← hZ]; simp) (by simp; omega) (by simpa using k)
  | @num m i cs ts h1 h2 h3 _ ih =>
    obtain ⟨n, hn⟩ := ih
    refine ⟨n + 1, fun pre acc sg en hZ ha k => ?_⟩
    obtain ⟨fs, hm, hf, hg, h60, _⟩ := h1.ex
    have hfl : 0 < fs.length := List.length_pos_iff.mpr hf
    have hml : 0 < m.length ∧ m.length ≤ 61 := by
      rcases hm with rfl | rfl
      · omega
      · simp; omega
    refine turn n pre m cs acc [Lx.enc (.num i)] sg en hZ (List.length_pos_iff.mp hml.1) ha (.inr (.inr (.inr (.inl ⟨i, h1, h2, hml.2, h3, rfl⟩)))) fun sg en => ?_
    refine hn (pre ++ m) (acc ++ [Lx.enc (.num i)]) sg en (by rw [← hZ]; simp) (by simp; omega) (by simpa using k)
  | @text s cs ts h1 _ ih =>
    obtain ⟨n, hn⟩ := ih
    refine ⟨n + 1, fun pre acc sg en hZ ha k => ?_⟩
    refine turn n pre (34 :: (s ++ [34])) cs acc [Lx.enc (.text s)] sg en (by rw [← hZ]; simp) (by simp) ha (.inr (.inr (.inr (.inr ⟨s, rfl, h1, rfl⟩)))) fun sg en => ?_
    refine hn (pre ++ (34 :: (s ++ [34]))) (acc ++ [Lx.enc (.text s)]) sg en (by rw [← hZ]; simp) (by simp; omega) (by simpa using k)
theorem lex_len {cs : List Nat} {ts : List Lx} (l : Lex cs ts) : ts.length ≤ cs.length := by
  induction l with
  | nil => simp
  | blank _ ih => simp; omega
  | sign _ _ ih => simp; omega
  | word h1 _ _ _ _ ih =>
    have := List.length_pos_iff.mpr h1
    simp; omega
  | num h1 _ _ _ ih =>
    obtain ⟨fs, hm, hf, _⟩ := h1.ex
    have := List.length_pos_iff.mpr hf
    rcases hm with rfl | rfl
    · simp; omega
    · simp; omega
  | text _ _ ih => simp; omega
theorem sem_words_of (s : spWordsOf ds h Q E) : r_words_of C2 spQuoted spRunEnd spNumEnd (endX E) (endsOf Q) (start3 ["text", "found", "at", "sign", "end"] ds) h := by
  obtain ⟨cs, ts, rfl, hlex, hl, q0⟩ := s
  have zl := sizeLine_eq
  have hll := lex_len hlex
  unfold r_words_of
  walk_at "sem0"
  refine ⟨by omega, fun q n0 => ?_⟩
  obtain ⟨n, hn⟩ := words_loop (h := h) (C2 := C2) (E := endX E) (Z := T cs) (q := q) { nx := tSeq3 (tDrop3 (tBM3 "list" append3 (tVar3 1) (tCons3 (tTup3 (tCons3 (tC3 (.str "end")) (tCons3 (tC3 (.str "")) tNil3))) tNil3))) (tRet3 (tVar3 1)) (endsOf Q), rt := (endsOf Q).rt, bk := (endsOf Q).bk, ct := (endsOf Q).ct } (by rw [T_len]; exact hl) hlex
  refine ⟨n, hn [] [] none none rfl (by simp) fun sg en => ?_⟩
  have oq : upd3 h q (.lst (ts.map Lx.enc)) q = some (.lst (ts.map Lx.enc)) := upd3_same
  rw [List.nil_append]
  walk_at "sem"
  refine ⟨by decide, by simp; omega, ?_⟩
  rw [upd3_upd3]
  refine ends_rt ?_
  have := q0 q n0
  rw [List.map_append] at this
  exact this
/-- a new reader -/
def spInit (C : Addr) : Sp3 := fun ds h Q _ => ∃ (a : Addr) (cs : List Nat) (ts : List Lx), (ds = [.ref a, .str (T cs)]) ∧ h a = some (.ins C []) ∧ Lex cs ts ∧ cs.length + 10 ≤ 16777216 ∧ ∀ p, h p = none → Q .non (upd3 (upd3 h p (.lst ((ts ++ [Lx.fin]).map Lx.enc))) a (rdO C p 0 0))
theorem sem_init (s : spInit C ds h Q E) : r_TextReader_init C spWordsOf (endX E) (endsOf Q) (start3 ["self", "text"] ds) h := by
  obtain ⟨a, cs, ts, rfl, ea, hlex, hl, q0⟩ := s
  unfold r_TextReader_init
  walk_at "sem0"
  refine ⟨cs, ts, rfl, hlex, hl, fun p np => ?_⟩
  have ne : a ≠ p := ne_of_none ea np
  refine ⟨[], by rw [upd3_ne ne]; exact ea, by decide, ?_⟩
  refine ⟨_, upd3_same, (show 1 < 1000 by decide), ?_⟩
  rw [upd3_upd3]
  refine ⟨_, upd3_same, (show 2 < 1000 by decide), ?_⟩
  rw [upd3_upd3]
  exact ends_nx (q0 p np)
end
end O85

end F_M10

section F_K11
/-! K11: kinds that are let by. -/
namespace Old
open PySem PySem.Spec PyProof.Rows L2 L3 O85
def wEach : List Nat := [101, 97, 99, 104]
structure IsName (w : List Nat) : Prop where
  n1 : 1 ≤ w.length
  n8 : w.length ≤ 8
  ne : w ≠ wEach
  lt : ∀ c ∈ w, c ∈ LETs
structure Names (ws : List (List Nat)) : Prop where
  all : ∀ w ∈ ws, IsName w
  nd : ws.Nodup
/-- ascending -/
def Asc (ws : List (List Nat)) : Prop := sortedS (ws.map T) = true
def Kd.isKey : Kd → Bool
  | .number _ _ => true
  | .text _ => true
  | _ => false
def Kd.fields : Kd → List (List Nat × Kd)
  | .record fs => fs.toL
  | _ => []
def Kd.isRec : Kd → Bool
  | .record _ => true
  | _ => false
mutual
def Kd.ok : Kd → Prop
  | .number lo hi => -(10 ^ 30) ≤ lo ∧ lo ≤ hi ∧ hi ≤ 10 ^ 30
  | .text n => 0 ≤ n ∧ n ≤ 60
  | .choice ws => 1 ≤ ws.length ∧ ws.length ≤ 8 ∧ Names ws
  | .list k n => k.ok ∧ 0 ≤ n ∧ n ≤ 8
  | .record fs => fs.ok ∧ fs.toL.length ≤ 8 ∧ Names fs.names ∧ Asc fs.names
  | .rows key k n => k.ok ∧ 0 ≤ n ∧ n ≤ 8 ∧ Kd.isRec k = true ∧ ∃ q ∈ Kd.fields k, q.1 = key ∧ Kd.isKey q.2 = true
def Kds.ok : Kds → Prop
  | .nil => True
  | .cons _ k r => k.ok ∧ r.ok
end
theorem Kds.ok_mem : ∀ {fs : Kds} {q : List Nat × Kd}, fs.ok → q ∈ fs.toL → Kd.ok q.2
  | .nil, _, _, h => by cases h
  | .cons n k r, q, hn, h => by
    simp only [Kds.toL, List.mem_cons] at h
    simp only [Kds.ok] at hn
    rcases h with rfl | h
    · exact hn.1
    · exact Kds.ok_mem hn.2 h
theorem rising_pw : ∀ {p : Str} {l : List Str}, risingS p l = true → (p :: l).Pairwise fun a b => a.cps.toList ≤ b.cps.toList
  | p, [], _ => by simp
  | p, x :: r, h => by
    have h0 : (!ltCps x.cps.toList p.cps.toList && risingS x r) = true := h
    rw [Bool.and_eq_true, Bool.not_eq_true', ltCps_eq, decide_eq_false_iff_not] at h0
    have ih := rising_pw h0.2
    refine List.pairwise_cons.mpr ⟨fun y hy => ?_, ih⟩
    have hpx : p.cps.toList ≤ x.cps.toList := List.not_lt.mp h0.1
    rcases List.mem_cons.mp hy with rfl | hy
    · exact hpx
    · exact List.le_trans hpx ((List.pairwise_cons.mp ih).1 y hy)
theorem sorted_pw {l : List Str} (h : sortedS l = true) : l.Pairwise fun a b => a.cps.toList ≤ b.cps.toList := by
  cases l with
  | nil => exact List.Pairwise.nil
  | cons x r => exact rising_pw h
theorem sorted_uniq {xs ys : List Str} (p : ys.Perm xs) (hx : sortedS xs = true) (hy : sortedS ys = true) : ys = xs := by
  refine List.Perm.eq_of_pairwise (le := fun a b : Str => a.cps.toList ≤ b.cps.toList) (fun a b _ _ h1 h2 => ?_) (sorted_pw hy) (sorted_pw hx) p
  have e := List.le_antisymm h1 h2
  rw [← T_of (s := a), ← T_of (s := b), e]
/-! data of it -/
def strD (ws : List (List Nat)) : List D := ws.map fun w => .str (T w)
theorem dats_map {α : Type} (f : α → D) (g : α → PyData) (h : ∀ x, dat (f x) = some (g x)) : ∀ xs : List α, dats (xs.map f) = some (xs.map g)
  | [] => rfl
  | x :: r => by
    have := dats_map f g h r
    simp only [List.map_cons, dats, h, this]
theorem strOk_T {w : List Nat} (h : ∀ c ∈ w, c < 1114112) : PyData.strOk (T w) = true := by
  unfold PyData.strOk T
  rw [← Array.all_toList]
  simpa using h
theorem let_lt {c : Nat} (h : c ∈ LETs) : c < 1114112 := (show ∀ c ∈ LETs, c < 1114112 by decide) c h
theorem IsName.ok {w : List Nat} (h : IsName w) : PyData.strOk (T w) = true := strOk_T fun c hc => let_lt (h.lt c hc)
theorem canAll_map {α : Type} (g : α → PyData) : ∀ xs : List α, (∀ x ∈ xs, (g x).canLay0 = true) → PyData.canLayAll0 (xs.map g) = true
  | [], _ => by simp [PyData.canLayAll0]
  | x :: r, h => by
    rw [List.map_cons, PyData.canLayAll0, h x List.mem_cons_self, canAll_map g r fun y hy => h y (List.mem_cons_of_mem _ hy)]
    rfl
theorem depthAll_map {α : Type} (g : α → PyData) (n : Nat) : ∀ xs : List α, (∀ x ∈ xs, (g x).depth ≤ n) → PyData.depthAll (xs.map g) ≤ n
  | [], _ => by simp [PyData.depthAll]
  | x :: r, h => by
    rw [List.map_cons, PyData.depthAll]
    exact Nat.max_le.mpr ⟨h x List.mem_cons_self, depthAll_map g n r fun y hy => h y (List.mem_cons_of_mem _ hy)⟩
theorem nodup_T {ws : List (List Nat)} (h : ws.Nodup) : (ws.map T).Nodup := by
  refine List.Pairwise.map T (fun a b n e => n ?_) h
  rw [T_inj] at e
  exact e
end Old

end F_K11

section F_M11
/-! M11: kinds let by. -/
namespace O85
open PySem PySem.Spec PyProof.Rows L2 L3 Old
local macro_rules
  | `(tactic| walk_at "sem") => `(tactic| simp only [↓e_next, ↓e_seq, ↓e_brk, ↓e_cont, ↓e_drop, ↓e_ret, ↓e_retN, ↓e_if, ↓e_asg, ↓e_par, ↓e_for, ↓e_raise, ↓e_sfld, ↓e_name, ↓e_gnil, ↓e_gcons, ↓e_gtup, ↓e_gsub, ↓e_setL, ↓e_var, ↓e_c, ↓e_op, ↓e_neg, ↓e_andV, ↓e_orV, ↓e_notV, ↓e_ifE, ↓e_chain, ↓e_chain4, ↓e_tup, ↓e_lst, ↓e_ixD, ↓e_inD, ↓e_sl, ↓e_noPart, ↓e_part, ↓e_cb, ↓e_cl, ↓e_joinL, ↓e_new, ↓e_lc, ↓e_bm, ↓e_bm0, ↓e_call, ↓e_meth, ↓e_fld, ↓e_make, ↓e_isN, ↓e_lenSet, ↓e_nil, ↓e_cons, ↓e_b, ↓e_and, ↓e_or, ↓e_not, ↓e_yes, ↓e_seqI, ↓e_rng1, ↓e_rng2, ↓e_addI, ↓e_addS, ↓e_addT, ↓e_addR, ↓e_sub, ↓e_div, ↓e_mod, ↓e_pow, ↓e_mulI, ↓e_mulS, ↓e_ltI, ↓e_leI, ↓e_gtI, ↓e_geI, ↓e_leS, ↓e_eqI, ↓e_eqS, ↓e_neI, ↓e_neS, ↓e_inC, ↓e_isN3, ↓e_ixT, ↓e_ixRo, ↓e_ixR, ↓e_lenS, ↓e_lenT, ↓e_lenRo, ↓e_lenR, ↓e_intI, ↓e_intB, ↓e_intS, ↓e_strI, ↓e_tupR, ↓e_minI, ↓e_maxI, ↓e_app, ↓e_rev, ↓e_join, ↓e_find3, start3, List.map_cons, List.map_nil, List.length_cons, List.length_nil, List.cons_append, List.nil_append, List.replicate, List.getElem?_cons_zero, List.getElem?_cons_succ, List.set_cons_zero, List.set_cons_succ, Nat.reduceAdd, Nat.reduceSub, Nat.zero_add, atI0, atI1, atI2, atI3, Option.some.injEq, if_true, Bool.false_eq_true, if_false, Bool.not_true, Bool.not_false, ofS_inj, String.reduceEq, decide_true, decide_false, exists_and_left, exists_eq_left', exists_eq_left, O3.ins.injEq, O3.lst.injEq, eq_self, true_and, and_true, ↓reduceIte, exists_const, exists_eq, exists_eq', and_self, Bool.xor_false, Bool.false_xor, Bool.true_xor, seq_ref, lst_ref, tyD, lkW, lkA, lkD, ptW, ptA, ptD, i_non_int, i_non_bool, i_non_str, i_non_tuple, i_non_list, i_bl_int, i_bl_bool, i_bl_str, i_bl_tuple, i_bl_list, i_int_int, i_int_bool, i_int_str, i_int_tuple, i_int_list, i_str_int, i_str_bool, i_str_str, i_str_tuple, i_str_list, i_tup_int, i_tup_bool, i_tup_str, i_tup_tuple, i_tup_list, i_rol_int, i_rol_bool, i_rol_str, i_rol_tuple, i_rol_list, lm_next_is, lm_due, lm_taken, lm_opened, lm_closed, lm_ended, lm_goes_on, lm_names, lm_kind_pairs, lm_name_pairs, lm_value_pairs, lm_values, lm_kind_parts, lm_kind, lm_value, lm_part, lm_parts, lm_turn, lm_piece, lm_path, *])
  | `(tactic| walk_at "sem0") => `(tactic| simp only [↓e_next, ↓e_seq, ↓e_brk, ↓e_cont, ↓e_drop, ↓e_ret, ↓e_retN, ↓e_if, ↓e_asg, ↓e_par, ↓e_for, ↓e_raise, ↓e_sfld, ↓e_name, ↓e_gnil, ↓e_gcons, ↓e_gtup, ↓e_gsub, ↓e_setL, ↓e_var, ↓e_c, ↓e_op, ↓e_neg, ↓e_andV, ↓e_orV, ↓e_notV, ↓e_ifE, ↓e_chain, ↓e_chain4, ↓e_tup, ↓e_lst, ↓e_ixD, ↓e_inD, ↓e_sl, ↓e_noPart, ↓e_part, ↓e_cb, ↓e_cl, ↓e_joinL, ↓e_new, ↓e_lc, ↓e_bm, ↓e_bm0, ↓e_call, ↓e_meth, ↓e_fld, ↓e_make, ↓e_isN, ↓e_lenSet, ↓e_nil, ↓e_cons, ↓e_b, ↓e_and, ↓e_or, ↓e_not, ↓e_yes, ↓e_seqI, ↓e_rng1, ↓e_rng2, ↓e_addI, ↓e_addS, ↓e_addT, ↓e_addR, ↓e_sub, ↓e_div, ↓e_mod, ↓e_pow, ↓e_mulI, ↓e_mulS, ↓e_ltI, ↓e_leI, ↓e_gtI, ↓e_geI, ↓e_leS, ↓e_eqI, ↓e_eqS, ↓e_neI, ↓e_neS, ↓e_inC, ↓e_isN3, ↓e_ixT, ↓e_ixRo, ↓e_ixR, ↓e_lenS, ↓e_lenT, ↓e_lenRo, ↓e_lenR, ↓e_intI, ↓e_intB, ↓e_intS, ↓e_strI, ↓e_tupR, ↓e_minI, ↓e_maxI, ↓e_app, ↓e_rev, ↓e_join, ↓e_find3, start3, List.map_cons, List.map_nil, List.length_cons, List.length_nil, List.cons_append, List.nil_append, List.replicate, List.getElem?_cons_zero, List.getElem?_cons_succ, List.set_cons_zero, List.set_cons_succ, Nat.reduceAdd, Nat.reduceSub, Nat.zero_add, atI0, atI1, atI2, atI3, Option.some.injEq, if_true, Bool.false_eq_true, if_false, Bool.not_true, Bool.not_false, ofS_inj, String.reduceEq, decide_true, decide_false, exists_and_left, exists_eq_left', exists_eq_left, O3.ins.injEq, O3.lst.injEq, eq_self, true_and, and_true, ↓reduceIte, exists_const, exists_eq, exists_eq', and_self, Bool.xor_false, Bool.false_xor, Bool.true_xor, seq_ref, lst_ref, tyD, lkW, lkA, lkD, ptW, ptA, ptD, i_non_int, i_non_bool, i_non_str, i_non_tuple, i_non_list, i_bl_int, i_bl_bool, i_bl_str, i_bl_tuple, i_bl_list, i_int_int, i_int_bool, i_int_str, i_int_tuple, i_int_list, i_str_int, i_str_bool, i_str_str, i_str_tuple, i_str_list, i_tup_int, i_tup_bool, i_tup_str, i_tup_tuple, i_tup_list, i_rol_int, i_rol_bool, i_rol_str, i_rol_tuple, i_rol_list, lm_next_is, lm_due, lm_taken, lm_opened, lm_closed, lm_ended, lm_goes_on, lm_names, lm_kind_pairs, lm_name_pairs, lm_value_pairs, lm_values, lm_kind_parts, lm_kind, lm_value, lm_part, lm_parts, lm_turn, lm_piece, lm_path])
section
variable {C C2 a p q : Addr} {ds xs ys : List D} {h : Hp3} {Q : VK3} {E : XK3}
def spWhole : Sp3 := fun ds h Q _ => ∃ i : Int, (ds = [.int i]) ∧ Q (.bl true) h
theorem sem_is_whole (s : spWhole ds h Q E) : r_is_whole (endX E) (endsOf Q) (start3 ["thing"] ds) h := by
  obtain ⟨i, rfl, q⟩ := s
  unfold r_is_whole
  walk_at "sem"
  exact ends_rt q
def spCount : Sp3 := fun ds h Q _ => ∃ i m : Int, (ds = [.int i, .int m]) ∧ 0 ≤ i ∧ i ≤ m ∧ Q (.bl true) h
theorem sem_is_count (s : spCount ds h Q E) : r_is_count spWhole (endX E) (endsOf Q) (start3 ["thing", "most"] ds) h := by
  obtain ⟨i, m, rfl, h1, h2, q⟩ := s
  unfold r_is_count
  walk_at "sem"
  refine ⟨i, rfl, ?_⟩
  walk_at "sem"
  exact ends_rt q
def spNumK : Sp3 := fun ds h Q _ => ∃ lo hi : Int, (ds = [(Kd.number lo hi).enc]) ∧ (Kd.number lo hi).ok ∧ Q (.bl true) h
theorem sem_is_number_kind (s : spNumK ds h Q E) : r_is_number_kind spWhole (endX E) (endsOf Q) (start3 ["kind"] ds) h := by
  obtain ⟨lo, hi, rfl, h1, q⟩ := s
  simp only [Kd.ok] at h1
  obtain ⟨h1, h2, h3⟩ := h1
  have e1 : -1000000000000000000000000000000 ≤ lo := by omega
  have e2 : hi ≤ 1000000000000000000000000000000 := by omega
  unfold r_is_number_kind
  simp only [Kd.enc]
  walk_at "sem"
  refine ⟨lo, rfl, ?_⟩
  walk_at "sem"
  refine ⟨hi, rfl, ?_⟩
  walk_at "sem"
  exact ends_rt q
def spIsName : Sp3 := fun ds h Q _ => ∃ w : List Nat, (ds = [.str (T w)]) ∧ IsName w ∧ Q (.bl true) h
theorem all_true {α : Type} (xs : List α) : ((xs.map fun _ => true).all id) = true := by
  induction xs with
  | nil => rfl
  | cons x r ih => simp
theorem lit_each : Str.ofString "each" = T wEach := by decide
theorem sem_is_name (s : spIsName ds h Q E) : r_is_name (endX E) (endsOf Q) (start3 ["text", "sign"] ds) h := by
  obtain ⟨w, rfl, hn, q⟩ := s
  have zl := sizeLine_eq
  have l1 := hn.n1
  have l8 := hn.n8
  have e1 : (T w).length = w.length := T_len
  have e2 : w.length ≤ 16777216 := by omega
  have e3 : decide ((1 : Int) ≤ (w.length : Int)) = true := decide_eq_true (by omega)
  have e4 : decide ((w.length : Int) ≤ 8) = true := decide_eq_true (by omega)
  have e5 : decide (T w = Str.ofString "each") = false := decide_eq_false (by rw [lit_each, T_inj]; exact hn.ne)
  have e6 : (T w).cps.toList = w := T_cps
  unfold r_is_name
  clear zl
  have z2 : w.length ≤ sizeLine := by rw [sizeLine_eq]; omega
  walk_at "sem"
  refine lc3_maps (fun c : Nat => sgn c) (fun _ => D.bl true) trivial w [] (by simpa using z2) (fun c hc Q hq => ?_) ?_
  · have e7 : decide (c ∈ (Str.ofString "abcdefghijklmnopqrstuvwxyz").cps.toList) = true := by rw [in_let]; exact decide_eq_true (hn.lt c hc)
    simp only [wipe3]
    walk_at "sem0"
    show in3 false (.str (T [c])) _ _ _
    rw [e_inC, e7]
    exact hq
  · refine ⟨w.map fun _ => true, by simp, ?_⟩
    rw [all_true]
    exact ends_rt q
/-- a row of names -/
def spAreNames : Sp3 := fun ds h Q _ => ∃ (d : D) (ws : List (List Nat)), (ds = [d]) ∧ (d = .tup (strD ws) ∨ ∃ p, d = .ref p ∧ h p = some (.lst (strD ws))) ∧ Names ws ∧ ws.length ≤ 8 ∧ Q (.bl true) h
theorem sem_are_names (s : spAreNames ds h Q E) : r_are_names spIsName (endX E) (endsOf Q) (start3 ["things", "thing"] ds) h := by
  obtain ⟨d, ws, rfl, hd, hn, hl, q⟩ := s
  have zl := sizeLine_eq
  have hm : (metS (ws.map T)).length = ws.length := by rw [metS_nodup (nodup_T hn.nd)]; simp
  have each : ∀ {still : Hp3 → Prop} {σ : St3} {QA : List D → Hp3 → Prop}, still h → σ.length = 2 → QA (ws.map fun _ => D.bl true) h → lc3 still (gName3 1) tYes3 (tAndV3 (tCB3 isi3 (tCons3 (tVar3 1) (tCons3 (tC3 (.ty "str")) tNil3))) (tCall3 spIsName N0 (tCons3 (tVar3 1) tNil3))) σ (strD ws) [] h QA := by
    intro still σ QA hs hsl hq
    refine lc3_maps (fun w : List Nat => D.str (T w)) (fun _ => D.bl true) hs ws [] (by simp; omega) (fun w hw Q hq => ?_) (by simpa using hq)
    match σ, hsl with
    | [s0, s1], _ =>
      walk_at "sem0"
      exact ⟨w, rfl, hn.all w hw, hq⟩
  have hstr : strD ws = (ws.map T).map D.str := by simp [strD]
  have sl : (strD ws).length = ws.length := by simp [strD]
  unfold r_are_names
  rcases hd with rfl | ⟨p, rfl, hp⟩
  · walk_at "sem0"
    refine each trivial rfl ⟨ws.map fun _ => true, by simp, ?_⟩
    rw [all_true]
    walk_at "sem0"
    refine ⟨ws.map T, by simp only [seqOf]; rw [hstr], by simp; omega, ?_⟩
    rw [hm, sl]
    walk_at "sem0"
    exact ends_rt q
  · walk_at "sem0"
    refine ⟨_, hp, each hp rfl ⟨ws.map fun _ => true, by simp, ?_⟩⟩
    rw [all_true]
    walk_at "sem0"
    refine ⟨ws.map T, by rw [hp, hstr], by simp; omega, _, hp, ?_⟩
    rw [hm, sl]
    walk_at "sem0"
    exact ends_rt q
def spChoiceK : Sp3 := fun ds h Q _ => ∃ ws : List (List Nat), (ds = [(Kd.choice ws).enc]) ∧ (Kd.choice ws).ok ∧ Q (.bl true) h
theorem sem_is_choice_kind (s : spChoiceK ds h Q E) : r_is_choice_kind spAreNames (endX E) (endsOf Q) (start3 ["kind"] ds) h := by
  obtain ⟨ws, rfl, h1, q⟩ := s
  simp only [Kd.ok] at h1
  obtain ⟨h1, h2, h3⟩ := h1
  have e3 : decide ((1 : Int) ≤ (((ws.map fun w => D.str (T w)).length : Nat) : Int)) = true := decide_eq_true (by simp; omega)
  have e4 : decide ((((ws.map fun w => D.str (T w)).length : Nat) : Int) ≤ 8) = true := decide_eq_true (by simp; omega)
  unfold r_is_choice_kind
  simp only [Kd.enc]
  walk_at "sem"
  exact ⟨_, ws, rfl, .inl rfl, h3, h2, ends_rt q⟩
def spField : Sp3 := fun ds h Q _ => ∃ y : List Nat × Kd, (ds = [encK y]) ∧ Q (.bl true) h
theorem sem_is_field (s : spField ds h Q E) : r_is_field (endX E) (endsOf Q) (start3 ["thing"] ds) h := by
  obtain ⟨y, rfl, q⟩ := s
  unfold r_is_field
  simp only [encK]
  walk_at "sem"
  exact ends_rt q
def spFields : Sp3 := fun ds h Q _ => ∃ fs : Kds, (ds = [.tup fs.enc]) ∧ (Kd.record fs).ok ∧ Q (.bl true) h
theorem sem_are_fields (s : spFields ds h Q E) : r_are_fields spAreNames spField (endX E) (endsOf Q) (start3 ["things", "names", "thing"] ds) h := by
  obtain ⟨fs, rfl, h1, q⟩ := s
  simp only [Kd.ok] at h1
  obtain ⟨h1, h2, h3, h4⟩ := h1
  have zl := sizeLine_eq
  have ee : fs.enc = fs.toL.map encK := by rw [Kds.enc_map]; rfl
  have el : fs.enc.length = fs.toL.length := by rw [ee]; simp
  have nl : fs.names.length = fs.toL.length := by rw [Kds.names_map]; simp
  have en : (fs.toL.map fun y => D.str (T y.1)) = strD fs.names := by rw [Kds.names_map]; simp [strD]
  have e1 : decide ((8 : Int) < (((fs.toL.map encK).length : Nat) : Int)) = false := decide_eq_false (by simp; omega)
  unfold r_are_fields
  clear zl el
  rw [ee]
  clear ee
  walk_at "sem"
  refine lc3_maps encK (fun _ => D.bl true) trivial fs.toL [] (by rw [sizeLine_eq]; simp; omega) (fun y hy Q hq => ?_) ?_
  · simp only [wipe3]
    walk_at "sem0"
    exact ⟨y, rfl, hq⟩
  · refine ⟨fs.toL.map fun _ => true, by simp, ?_⟩
    rw [all_true]
    walk_at "sem0"
    refine lc3_maps encK (fun y => D.str (T y.1)) trivial fs.toL [] (by rw [sizeLine_eq]; simp; omega) (fun y hy Q hq => ?_) ?_
    · simp only [wipe3, encK]
      walk_at "sem0"
      exact hq
    · intro p np
      rw [List.nil_append, en]
      refine ⟨_, fs.names, rfl, .inr ⟨p, rfl, upd3_same⟩, h3, by omega, ?_⟩
      walk_at "sem0"
      have hstr : strD fs.names = (fs.names.map T).map D.str := by simp [strD]
      refine ⟨fs.names.map T, by rw [lst_ref, upd3_same, hstr], by simp; omega, fun ys p2 pm so n2 => ?_⟩
      have ey := sorted_uniq pm h4 so
      subst ey
      have ne : p ≠ p2 := ne_of_none upd3_same n2
      have hd1 : datH (upd3 (upd3 h p (.lst (strD fs.names))) p2 (.lst ((fs.names.map T).map D.str))) (.ref p) = some (.list (fs.names.map fun w => .str (T w))) := by
        simp only [datH]
        rw [upd3_ne ne, upd3_same]
        simp only [strD]
        rw [dats_map (fun w => D.str (T w)) (fun w => PyData.str (T w)) (fun _ => rfl)]
        rfl
      have hd2 : datH (upd3 (upd3 h p (.lst (strD fs.names))) p2 (.lst ((fs.names.map T).map D.str))) (.ref p2) = some (.list (fs.names.map fun w => .str (T w))) := by
        simp only [datH]
        rw [upd3_same, List.map_map]
        show (dats (fs.names.map fun w => D.str (T w))).map _ = _
        rw [dats_map (fun w => D.str (T w)) (fun w => PyData.str (T w)) (fun _ => rfl)]
        rfl
      have cl : PyData.canLay0 (.list (fs.names.map fun w => .str (T w))) = true := by
        simp only [PyData.canLay0]
        exact canAll_map (fun w => PyData.str (T w)) _ fun w hw => (h3.all w hw).ok
      have sh : SeqAt.shaped (.list (fs.names.map fun w => .str (T w))) = true := by
        unfold SeqAt.shaped
        rw [cl, Bool.true_and]
        refine decide_eq_true ?_
        simp only [PyData.depth]
        have := depthAll_map (fun w : List Nat => PyData.str (T w)) 0 fs.names (fun w _ => by simp [PyData.depth])
        omega
      refine ⟨_, _, hd1, hd2, sh, sh, ?_⟩
      rw [PySem.SeqAt.eqv_refl _ cl]
      exact ends_rt2 ((sub_upd np).trans (sub_upd n2)) q
end
end O85

end F_M11

section F_M12
/-! M12: kinds let by. -/
namespace O85
open PySem PySem.Spec PyProof.Rows L2 L3 Old
local macro_rules
  | `(tactic| walk_at "sem") => `(tactic| simp only [↓e_next, ↓e_seq, ↓e_brk, ↓e_cont, ↓e_drop, ↓e_ret, ↓e_retN, ↓e_if, ↓e_asg, ↓e_par, ↓e_for, ↓e_raise, ↓e_sfld, ↓e_name, ↓e_gnil, ↓e_gcons, ↓e_gtup, ↓e_gsub, ↓e_setL, ↓e_var, ↓e_c, ↓e_op, ↓e_neg, ↓e_andV, ↓e_orV, ↓e_notV, ↓e_ifE, ↓e_chain, ↓e_chain4, ↓e_tup, ↓e_lst, ↓e_ixD, ↓e_inD, ↓e_sl, ↓e_noPart, ↓e_part, ↓e_cb, ↓e_cl, ↓e_joinL, ↓e_new, ↓e_lc, ↓e_bm, ↓e_bm0, ↓e_call, ↓e_meth, ↓e_fld, ↓e_make, ↓e_isN, ↓e_lenSet, ↓e_nil, ↓e_cons, ↓e_b, ↓e_and, ↓e_or, ↓e_not, ↓e_yes, ↓e_seqI, ↓e_rng1, ↓e_rng2, ↓e_addI, ↓e_addS, ↓e_addT, ↓e_addR, ↓e_sub, ↓e_div, ↓e_mod, ↓e_pow, ↓e_mulI, ↓e_mulS, ↓e_ltI, ↓e_leI, ↓e_gtI, ↓e_geI, ↓e_leS, ↓e_eqI, ↓e_eqS, ↓e_neI, ↓e_neS, ↓e_inC, ↓e_isN3, ↓e_ixT, ↓e_ixRo, ↓e_ixR, ↓e_lenS, ↓e_lenT, ↓e_lenRo, ↓e_lenR, ↓e_intI, ↓e_intB, ↓e_intS, ↓e_strI, ↓e_tupR, ↓e_minI, ↓e_maxI, ↓e_app, ↓e_rev, ↓e_join, ↓e_find3, start3, List.map_cons, List.map_nil, List.length_cons, List.length_nil, List.cons_append, List.nil_append, List.replicate, List.getElem?_cons_zero, List.getElem?_cons_succ, List.set_cons_zero, List.set_cons_succ, Nat.reduceAdd, Nat.reduceSub, Nat.zero_add, atI0, atI1, atI2, atI3, Option.some.injEq, if_true, Bool.false_eq_true, if_false, Bool.not_true, Bool.not_false, ofS_inj, String.reduceEq, decide_true, decide_false, exists_and_left, exists_eq_left', exists_eq_left, O3.ins.injEq, O3.lst.injEq, eq_self, true_and, and_true, ↓reduceIte, exists_const, exists_eq, exists_eq', and_self, Bool.xor_false, Bool.false_xor, Bool.true_xor, seq_ref, lst_ref, tyD, lkW, lkA, lkD, ptW, ptA, ptD, i_non_int, i_non_bool, i_non_str, i_non_tuple, i_non_list, i_bl_int, i_bl_bool, i_bl_str, i_bl_tuple, i_bl_list, i_int_int, i_int_bool, i_int_str, i_int_tuple, i_int_list, i_str_int, i_str_bool, i_str_str, i_str_tuple, i_str_list, i_tup_int, i_tup_bool, i_tup_str, i_tup_tuple, i_tup_list, i_rol_int, i_rol_bool, i_rol_str, i_rol_tuple, i_rol_list, lm_next_is, lm_due, lm_taken, lm_opened, lm_closed, lm_ended, lm_goes_on, lm_names, lm_kind_pairs, lm_name_pairs, lm_value_pairs, lm_values, lm_kind_parts, lm_kind, lm_value, lm_part, lm_parts, lm_turn, lm_piece, lm_path, *])
  | `(tactic| walk_at "sem0") => `(tactic| simp only [↓e_next, ↓e_seq, ↓e_brk, ↓e_cont, ↓e_drop, ↓e_ret, ↓e_retN, ↓e_if, ↓e_asg, ↓e_par, ↓e_for, ↓e_raise, ↓e_sfld, ↓e_name, ↓e_gnil, ↓e_gcons, ↓e_gtup, ↓e_gsub, ↓e_setL, ↓e_var, ↓e_c, ↓e_op, ↓e_neg, ↓e_andV, ↓e_orV, ↓e_notV, ↓e_ifE, ↓e_chain, ↓e_chain4, ↓e_tup, ↓e_lst, ↓e_ixD, ↓e_inD, ↓e_sl, ↓e_noPart, ↓e_part, ↓e_cb, ↓e_cl, ↓e_joinL, ↓e_new, ↓e_lc, ↓e_bm, ↓e_bm0, ↓e_call, ↓e_meth, ↓e_fld, ↓e_make, ↓e_isN, ↓e_lenSet, ↓e_nil, ↓e_cons, ↓e_b, ↓e_and, ↓e_or, ↓e_not, ↓e_yes, ↓e_seqI, ↓e_rng1, ↓e_rng2, ↓e_addI, ↓e_addS, ↓e_addT, ↓e_addR, ↓e_sub, ↓e_div, ↓e_mod, ↓e_pow, ↓e_mulI, ↓e_mulS, ↓e_ltI, ↓e_leI, ↓e_gtI, ↓e_geI, ↓e_leS, ↓e_eqI, ↓e_eqS, ↓e_neI, ↓e_neS, ↓e_inC, ↓e_isN3, ↓e_ixT, ↓e_ixRo, ↓e_ixR, ↓e_lenS, ↓e_lenT, ↓e_lenRo, ↓e_lenR, ↓e_intI, ↓e_intB, ↓e_intS, ↓e_strI, ↓e_tupR, ↓e_minI, ↓e_maxI, ↓e_app, ↓e_rev, ↓e_join, ↓e_find3, start3, List.map_cons, List.map_nil, List.length_cons, List.length_nil, List.cons_append, List.nil_append, List.replicate, List.getElem?_cons_zero, List.getElem?_cons_succ, List.set_cons_zero, List.set_cons_succ, Nat.reduceAdd, Nat.reduceSub, Nat.zero_add, atI0, atI1, atI2, atI3, Option.some.injEq, if_true, Bool.false_eq_true, if_false, Bool.not_true, Bool.not_false, ofS_inj, String.reduceEq, decide_true, decide_false, exists_and_left, exists_eq_left', exists_eq_left, O3.ins.injEq, O3.lst.injEq, eq_self, true_and, and_true, ↓reduceIte, exists_const, exists_eq, exists_eq', and_self, Bool.xor_false, Bool.false_xor, Bool.true_xor, seq_ref, lst_ref, tyD, lkW, lkA, lkD, ptW, ptA, ptD, i_non_int, i_non_bool, i_non_str, i_non_tuple, i_non_list, i_bl_int, i_bl_bool, i_bl_str, i_bl_tuple, i_bl_list, i_int_int, i_int_bool, i_int_str, i_int_tuple, i_int_list, i_str_int, i_str_bool, i_str_str, i_str_tuple, i_str_list, i_tup_int, i_tup_bool, i_tup_str, i_tup_tuple, i_tup_list, i_rol_int, i_rol_bool, i_rol_str, i_rol_tuple, i_rol_list, lm_next_is, lm_due, lm_taken, lm_opened, lm_closed, lm_ended, lm_goes_on, lm_names, lm_kind_pairs, lm_name_pairs, lm_value_pairs, lm_values, lm_kind_parts, lm_kind, lm_value, lm_part, lm_parts, lm_turn, lm_piece, lm_path])
section
variable {C C2 a p q : Addr} {ds xs ys : List D} {h : Hp3} {Q : VK3} {E : XK3}
def spFieldKind : Sp3 := fun ds h Q _ => ∃ (fs : Kds) (key : List Nat), (ds = [(Kd.record fs).enc, .str (T key)]) ∧ (∃ q ∈ fs.toL, q.1 = key) ∧ ∀ q ∈ fs.toL, q.1 = key → Q q.2.enc h
theorem sem_field_kind (s : spFieldKind ds h Q E) : r_field_kind (endX E) (endsOf Q) (start3 ["kind", "name", "other", "inner"] ds) h := by
  obtain ⟨fs, key, rfl, hex, hq⟩ := s
  unfold r_field_kind
  simp only [Kd.enc]
  have ee : fs.enc = fs.toL.map encK := by rw [Kds.enc_map]; rfl
  rw [ee]
  generalize fs.toL = L at *
  generalize hkd : (D.tup [.str "record", .tup (L.map encK)]) = kd
  have loop : ∀ (L2 : List (List Nat × Kd)) (s2 s3 : Option D) (Dn : Ends3), (∃ q ∈ L2, q.1 = key) → (∀ q ∈ L2, q.1 = key → Dn.rt q.2.enc h) → for3 (fun _ => True) (gTup3 2 (gCons3 (gName3 2) (gCons3 (gName3 3) gNil3))) (tIfS3 (tB3 (tOp3 eq3 (tVar3 2) (tVar3 1))) (tRet3 (tVar3 3)) tNext3) Dn (L2.map encK) [some kd, some (.str (T key)), s2, s3] h := by
    intro L2
    induction L2 with
    | nil => intro _ _ _ ⟨q, hq, _⟩ _; cases hq
    | cons y L2 ih =>
      intro s2 s3 Dn hex hq
      refine ⟨trivial, ?_⟩
      simp only [encK]
      walk_at "sem0"
      by_cases z : y.1 = key
      · have e1 : decide (T y.1 = T key) = true := decide_eq_true (by rw [z])
        rw [e1]
        exact hq y List.mem_cons_self z
      · have e1 : decide (T y.1 = T key) = false := decide_eq_false (by rw [T_inj]; exact z)
        rw [e1]
        refine ih _ _ Dn ?_ (fun q hm e => hq q (List.mem_cons_of_mem _ hm) e)
        obtain ⟨q, hm, e⟩ := hex
        rcases List.mem_cons.mp hm with rfl | hm
        · exact (z e).elim
        · exact ⟨q, hm, e⟩
  rw [e_seq, e_for]
  subst hkd
  walk_at "sem0"
  refine loop L none none _ hex fun q hm e => ?_
  exact ends_rt (hq q hm e)
def spHasKey : Sp3 := fun ds h Q _ => ∃ (fs : Kds) (key : List Nat), (ds = [(Kd.record fs).enc, .str (T key)]) ∧ (Kd.record fs).ok ∧ (∃ q ∈ fs.toL, q.1 = key ∧ Kd.isKey q.2 = true) ∧ Q (.bl true) h
theorem uniq_name {L : List (List Nat × Kd)} (nd : (L.map (·.1)).Nodup) {x y : List Nat × Kd} (hx : x ∈ L) (hy : y ∈ L) (e : x.1 = y.1) : x = y := by
  induction L with
  | nil => cases hx
  | cons z L ih =>
    simp only [List.map_cons, List.nodup_cons] at nd
    rcases List.mem_cons.mp hx with ex | hx2
    · rcases List.mem_cons.mp hy with ey | hy2
      · rw [ex, ey]
      · exact (nd.1 (by rw [← ex, e]; exact List.mem_map_of_mem hy2)).elim
    · rcases List.mem_cons.mp hy with ey | hy2
      · exact (nd.1 (by rw [← ey, ← e]; exact List.mem_map_of_mem hx2)).elim
      · exact ih nd.2 hx2 hy2
theorem sem_has_key (s : spHasKey ds h Q E) : r_has_key spFieldKind spFields (endX E) (endsOf Q) (start3 ["kind", "key", "inner"] ds) h := by
  obtain ⟨fs, key, rfl, hok, ⟨q1, hm1, rfl, hk1⟩, q⟩ := s
  have nd : (fs.toL.map (·.1)).Nodup := by
    simp only [Kd.ok] at hok
    rw [← Kds.names_map]
    exact hok.2.2.1.nd
  unfold r_has_key
  simp only [Kd.enc]
  walk_at "sem0"
  refine ⟨fs, rfl, hok, ?_⟩
  walk_at "sem0"
  refine ⟨fs, q1.1, by simp only [Kd.enc], ⟨q1, hm1, rfl⟩, fun q2 hm2 e2 => ?_⟩
  have e3 := uniq_name nd hm2 hm1 e2
  subst e3
  have z : (2 : Nat) ≤ sizeLine := by rw [sizeLine_eq]; decide
  match hq : q2.2, hk1 with
  | .number lo hi, _ =>
    simp only [Kd.enc]
    walk_at "sem0"
    have e4 : decide ((0 : Int) < ((3 : Nat) : Int)) = true := by decide
    rw [e4]
    refine ⟨z, rfl, rfl, ?_⟩
    exact ends_rt q
  | .text m, _ =>
    simp only [Kd.enc]
    walk_at "sem0"
    have e4 : decide ((0 : Int) < ((2 : Nat) : Int)) = true := by decide
    rw [e4]
    refine ⟨z, rfl, rfl, ?_⟩
    exact ends_rt q
def Kd.kids : Kd → List Kd
  | .list k _ => [k]
  | .record fs => fs.toL.map (·.2)
  | .rows _ k _ => [k]
  | _ => []
def spWithin : Sp3 := fun ds h Q _ => ∃ k : Kd, (ds = [k.enc]) ∧ k.ok ∧ ∀ p, h p = none → Q (.ref p) (upd3 h p (.lst ((Kd.kids k).map Kd.enc)))
theorem sem_kinds_within (s : spWithin ds h Q E) : r_kinds_within spNumK spChoiceK spCount spFields spHasKey (endX E) (endsOf Q) (start3 ["kind", "word", "found", "name", "inner"] ds) h := by
  obtain ⟨k, rfl, hok, q⟩ := s
  have z0 : (0 : Nat) ≤ sizeLine := Nat.zero_le _
  have z1 : (1 : Nat) ≤ sizeLine := by rw [sizeLine_eq]; decide
  unfold r_kinds_within
  cases k with
  | number lo hi =>
    simp only [Kd.enc]
    walk_at "sem0"
    refine ⟨lo, hi, by simp only [Kd.enc], hok, ?_⟩
    walk_at "sem0"
    exact ⟨z0, fun p np => ends_rt (q p np)⟩
  | text m =>
    simp only [Kd.enc]
    simp only [Kd.ok] at hok
    walk_at "sem0"
    refine ⟨m, 60, rfl, hok.1, hok.2, ?_⟩
    walk_at "sem0"
    exact ⟨z0, fun p np => ends_rt (q p np)⟩
  | choice ws =>
    simp only [Kd.enc]
    walk_at "sem0"
    refine ⟨ws, by simp only [Kd.enc], hok, ?_⟩
    walk_at "sem0"
    exact ⟨z0, fun p np => ends_rt (q p np)⟩
  | list k m =>
    simp only [Kd.enc]
    simp only [Kd.ok] at hok
    walk_at "sem0"
    refine ⟨m, 8, rfl, hok.2.1, hok.2.2, ?_⟩
    walk_at "sem0"
    exact ⟨z1, fun p np => ends_rt (q p np)⟩
  | record fs =>
    have hok2 := hok
    simp only [Kd.ok] at hok2
    simp only [Kd.enc]
    walk_at "sem0"
    refine ⟨fs, rfl, hok, ?_⟩
    walk_at "sem0"
    have ee : fs.enc = fs.toL.map encK := by rw [Kds.enc_map]; rfl
    rw [ee]
    refine lc3_maps encK (fun y => y.2.enc) trivial fs.toL [] (by rw [sizeLine_eq]; simp; omega) (fun y hy Q hq => ?_) ?_
    · simp only [wipe3, encK]
      walk_at "sem0"
      exact hq
    · intro p np
      refine ends_rt ?_
      have := q p np
      simp only [Kd.kids, List.map_map] at this
      exact this
  | rows key k m =>
    simp only [Kd.enc]
    simp only [Kd.ok] at hok
    obtain ⟨ho, h0, h8, hr, hx⟩ := hok
    walk_at "sem0"
    refine ⟨m, 8, rfl, h0, h8, ?_⟩
    walk_at "sem0"
    match k, hr, ho, hx, q with
    | .record fs, _, ho, hx, q =>
      refine ⟨fs, key, by simp only [Kd.enc], ho, hx, ?_⟩
      walk_at "sem0"
      exact ⟨z1, fun p np => ends_rt (q p np)⟩
def Kd.sizes (ks : List Kd) : Nat := (ks.map Kd.size).sum
theorem size_kids (k : Kd) : k.size = Kd.sizes (Kd.kids k) + 1 := by
  cases k with
  | record fs =>
    have : ∀ fs : Kds, fs.size = ((fs.toL.map (·.2)).map Kd.size).sum := by
      intro fs
      induction fs using Kds.rec (motive_1 := fun _ => True) with
      | nil => simp [Kds.size, Kds.toL]
      | cons n k r _ ih => simp [Kds.size, Kds.toL, ih]
      | _ => trivial
    simp only [Kd.size, Kd.sizes, Kd.kids, this]
  | _ => simp [Kd.size, Kd.sizes, Kd.kids]
theorem dep_kids {k y : Kd} (h : y ∈ Kd.kids k) : y.dep + 1 ≤ k.dep := by
  cases k with
  | record fs =>
    simp only [Kd.kids, List.mem_map] at h
    obtain ⟨q, hq, rfl⟩ := h
    have := Kds.dep_mem hq
    simp only [Kd.dep]
    omega
  | list k m => simp only [Kd.kids, List.mem_singleton] at h; subst h; simp [Kd.dep]
  | rows key k m => simp only [Kd.kids, List.mem_singleton] at h; subst h; simp [Kd.dep]
  | _ => simp [Kd.kids] at h
theorem ok_kids {k y : Kd} (ho : k.ok) (h : y ∈ Kd.kids k) : y.ok := by
  cases k with
  | record fs =>
    simp only [Kd.kids, List.mem_map] at h
    obtain ⟨q, hq, rfl⟩ := h
    simp only [Kd.ok] at ho
    exact Kds.ok_mem ho.1 hq
  | list k m => simp only [Kd.kids, List.mem_singleton] at h; subst h; simp only [Kd.ok] at ho; exact ho.1
  | rows key k m => simp only [Kd.kids, List.mem_singleton] at h; subst h; simp only [Kd.ok] at ho; exact ho.1
  | _ => simp [Kd.kids] at h
def spLeft (n : Nat) : Sp3 := fun ds h Q _ => ∃ (k : Kd) (deep left : Int), (ds = [k.enc, .int deep, .int left]) ∧ k.ok ∧ k.dep ≤ n ∧ (k.dep : Int) ≤ deep ∧ (k.size : Int) ≤ left ∧ Q (.int (left - k.size)) h
theorem sem_kinds_left (n : Nat) (s : spLeft (n + 1) ds h Q E) : r_kinds_left (spLeft n) spWithin (endX E) (endsOf Q) (start3 ["kind", "deep", "left", "within", "inner"] ds) h := by
  obtain ⟨k, deep, left, rfl, hok, hn, hd, hs, q⟩ := s
  have hk := size_kids k
  have e1 : decide (deep < 1) = false := decide_eq_false (by
    have : 1 ≤ k.dep := by cases k <;> simp [Kd.dep]
    omega)
  have e2 : decide (left < 1) = false := decide_eq_false (by omega)
  unfold r_kinds_left
  walk_at "sem0"
  refine ⟨k, rfl, hok, fun p np => ?_⟩
  walk_at "sem0"
  rw [show isNonD (.ref p) = false from rfl]
  walk_at "sem0"
  rw [e1, e2]
  walk_at "sem0"
  refine ⟨_, upd3_same, ?_⟩
  have loop : ∀ (L : List Kd) (l : Int) (s4 : Option D) (Dn : Ends3), (∀ y ∈ L, y ∈ Kd.kids k) → (Kd.sizes L : Int) ≤ l → (∀ s4, Dn.nx [some k.enc, some (.int deep), some (.int (l - Kd.sizes L)), some (.ref p), s4] (upd3 h p (.lst ((Kd.kids k).map Kd.enc)))) →
      for3 (fun h_1 => h_1 p = some (.lst ((Kd.kids k).map Kd.enc))) (gName3 4) (tIfS3 (tB3 (tOp3 ge3 (tVar3 2) (tC3 (.int 0)))) (tAsg3 (tCall3 (spLeft n) (fun _ => endX E) (tCons3 (tVar3 4) (tCons3 (tOp3 sub3 (tVar3 1) (tC3 (.int 1))) (tCons3 (tVar3 2) tNil3)))) (gName3 2)) tNext3) Dn (L.map Kd.enc) [some k.enc, some (.int deep), some (.int l), some (.ref p), s4] (upd3 h p (.lst ((Kd.kids k).map Kd.enc))) := by
    intro L
    induction L with
    | nil =>
      intro l s4 Dn _ _ kx
      have := kx s4
      simp only [Kd.sizes, List.map_nil, List.sum_nil] at this
      rw [show l - ((0 : Nat) : Int) = l by omega] at this
      exact ⟨upd3_same, this⟩
    | cons y L ih =>
      intro l s4 Dn hm hsz kx
      have hy := hm y List.mem_cons_self
      have es : Kd.sizes (y :: L) = y.size + Kd.sizes L := by simp [Kd.sizes]
      have hdy := dep_kids hy
      rw [es] at hsz
      refine ⟨upd3_same, ?_⟩
      have e3 : decide ((0 : Int) ≤ l) = true := decide_eq_true (by omega)
      walk_at "sem0"
      rw [e3]
      refine ⟨y, deep - 1, l, rfl, ok_kids hok hy, by omega, by omega, by omega, ?_⟩
      refine ih _ _ Dn (fun z hz => hm z (List.mem_cons_of_mem _ hz)) (by omega) fun s4 => ?_
      have := kx s4
      rw [es] at this
      rw [show l - (y.size : Int) - (Kd.sizes L : Int) = l - ((y.size + Kd.sizes L : Nat) : Int) by omega]
      exact this
  refine loop (Kd.kids k) (left - 1) none _ (fun _ z => z) (by omega) fun s4 => ?_
  walk_at "sem0"
  refine ends_rt2 (sub_upd np) ?_
  rw [show left - 1 - (Kd.sizes (Kd.kids k) : Int) = left - k.size by omega]
  exact q
def spMade : Sp3 := fun ds h Q _ => ∃ k : Kd, (ds = [k.enc]) ∧ k.ok ∧ k.dep ≤ 5 ∧ k.size ≤ 40 ∧ Q k.enc h
theorem sem_made_kind (s : spMade ds h Q E) : r_made_kind C (spLeft 5) (endX E) (endsOf Q) (start3 ["kind"] ds) h := by
  obtain ⟨k, rfl, hok, hd, hs, q⟩ := s
  have e1 : decide ((40 : Int) - k.size < 0) = false := decide_eq_false (by omega)
  unfold r_made_kind
  walk_at "sem0"
  refine ⟨k, 5, 40, rfl, hok, hd, by omega, by omega, ?_⟩
  walk_at "sem0"
  rw [e1]
  exact ends_rt q
end
end O85

end F_M12

section F_M13
/-! M13: read_kind. -/
namespace O85
open PySem PySem.Spec PyProof.Rows L2 L3 Old
local macro_rules
  | `(tactic| walk_at "sem") => `(tactic| simp only [↓e_next, ↓e_seq, ↓e_brk, ↓e_cont, ↓e_drop, ↓e_ret, ↓e_retN, ↓e_if, ↓e_asg, ↓e_par, ↓e_for, ↓e_raise, ↓e_sfld, ↓e_name, ↓e_gnil, ↓e_gcons, ↓e_gtup, ↓e_gsub, ↓e_setL, ↓e_var, ↓e_c, ↓e_op, ↓e_neg, ↓e_andV, ↓e_orV, ↓e_notV, ↓e_ifE, ↓e_chain, ↓e_chain4, ↓e_tup, ↓e_lst, ↓e_ixD, ↓e_inD, ↓e_sl, ↓e_noPart, ↓e_part, ↓e_cb, ↓e_cl, ↓e_joinL, ↓e_new, ↓e_lc, ↓e_bm, ↓e_bm0, ↓e_call, ↓e_meth, ↓e_fld, ↓e_make, ↓e_isN, ↓e_lenSet, ↓e_nil, ↓e_cons, ↓e_b, ↓e_and, ↓e_or, ↓e_not, ↓e_yes, ↓e_seqI, ↓e_rng1, ↓e_rng2, ↓e_addI, ↓e_addS, ↓e_addT, ↓e_addR, ↓e_sub, ↓e_div, ↓e_mod, ↓e_pow, ↓e_mulI, ↓e_mulS, ↓e_ltI, ↓e_leI, ↓e_gtI, ↓e_geI, ↓e_leS, ↓e_eqI, ↓e_eqS, ↓e_neI, ↓e_neS, ↓e_inC, ↓e_isN3, ↓e_ixT, ↓e_ixRo, ↓e_ixR, ↓e_lenS, ↓e_lenT, ↓e_lenRo, ↓e_lenR, ↓e_intI, ↓e_intB, ↓e_intS, ↓e_strI, ↓e_tupR, ↓e_minI, ↓e_maxI, ↓e_app, ↓e_rev, ↓e_join, ↓e_find3, start3, List.map_cons, List.map_nil, List.length_cons, List.length_nil, List.cons_append, List.nil_append, List.replicate, List.getElem?_cons_zero, List.getElem?_cons_succ, List.set_cons_zero, List.set_cons_succ, Nat.reduceAdd, Nat.reduceSub, Nat.zero_add, atI0, atI1, atI2, atI3, Option.some.injEq, if_true, Bool.false_eq_true, if_false, Bool.not_true, Bool.not_false, ofS_inj, String.reduceEq, decide_true, decide_false, exists_and_left, exists_eq_left', exists_eq_left, O3.ins.injEq, O3.lst.injEq, eq_self, true_and, and_true, ↓reduceIte, exists_const, exists_eq, exists_eq', and_self, Bool.xor_false, Bool.false_xor, Bool.true_xor, seq_ref, lst_ref, tyD, lkW, lkA, lkD, ptW, ptA, ptD, i_non_int, i_non_bool, i_non_str, i_non_tuple, i_non_list, i_bl_int, i_bl_bool, i_bl_str, i_bl_tuple, i_bl_list, i_int_int, i_int_bool, i_int_str, i_int_tuple, i_int_list, i_str_int, i_str_bool, i_str_str, i_str_tuple, i_str_list, i_tup_int, i_tup_bool, i_tup_str, i_tup_tuple, i_tup_list, i_rol_int, i_rol_bool, i_rol_str, i_rol_tuple, i_rol_list, lm_next_is, lm_due, lm_taken, lm_opened, lm_closed, lm_ended, lm_goes_on, lm_names, lm_kind_pairs, lm_name_pairs, lm_value_pairs, lm_values, lm_kind_parts, lm_kind, lm_value, lm_part, lm_parts, lm_turn, lm_piece, lm_path, *])
  | `(tactic| walk_at "sem0") => `(tactic| simp only [↓e_next, ↓e_seq, ↓e_brk, ↓e_cont, ↓e_drop, ↓e_ret, ↓e_retN, ↓e_if, ↓e_asg, ↓e_par, ↓e_for, ↓e_raise, ↓e_sfld, ↓e_name, ↓e_gnil, ↓e_gcons, ↓e_gtup, ↓e_gsub, ↓e_setL, ↓e_var, ↓e_c, ↓e_op, ↓e_neg, ↓e_andV, ↓e_orV, ↓e_notV, ↓e_ifE, ↓e_chain, ↓e_chain4, ↓e_tup, ↓e_lst, ↓e_ixD, ↓e_inD, ↓e_sl, ↓e_noPart, ↓e_part, ↓e_cb, ↓e_cl, ↓e_joinL, ↓e_new, ↓e_lc, ↓e_bm, ↓e_bm0, ↓e_call, ↓e_meth, ↓e_fld, ↓e_make, ↓e_isN, ↓e_lenSet, ↓e_nil, ↓e_cons, ↓e_b, ↓e_and, ↓e_or, ↓e_not, ↓e_yes, ↓e_seqI, ↓e_rng1, ↓e_rng2, ↓e_addI, ↓e_addS, ↓e_addT, ↓e_addR, ↓e_sub, ↓e_div, ↓e_mod, ↓e_pow, ↓e_mulI, ↓e_mulS, ↓e_ltI, ↓e_leI, ↓e_gtI, ↓e_geI, ↓e_leS, ↓e_eqI, ↓e_eqS, ↓e_neI, ↓e_neS, ↓e_inC, ↓e_isN3, ↓e_ixT, ↓e_ixRo, ↓e_ixR, ↓e_lenS, ↓e_lenT, ↓e_lenRo, ↓e_lenR, ↓e_intI, ↓e_intB, ↓e_intS, ↓e_strI, ↓e_tupR, ↓e_minI, ↓e_maxI, ↓e_app, ↓e_rev, ↓e_join, ↓e_find3, start3, List.map_cons, List.map_nil, List.length_cons, List.length_nil, List.cons_append, List.nil_append, List.replicate, List.getElem?_cons_zero, List.getElem?_cons_succ, List.set_cons_zero, List.set_cons_succ, Nat.reduceAdd, Nat.reduceSub, Nat.zero_add, atI0, atI1, atI2, atI3, Option.some.injEq, if_true, Bool.false_eq_true, if_false, Bool.not_true, Bool.not_false, ofS_inj, String.reduceEq, decide_true, decide_false, exists_and_left, exists_eq_left', exists_eq_left, O3.ins.injEq, O3.lst.injEq, eq_self, true_and, and_true, ↓reduceIte, exists_const, exists_eq, exists_eq', and_self, Bool.xor_false, Bool.false_xor, Bool.true_xor, seq_ref, lst_ref, tyD, lkW, lkA, lkD, ptW, ptA, ptD, i_non_int, i_non_bool, i_non_str, i_non_tuple, i_non_list, i_bl_int, i_bl_bool, i_bl_str, i_bl_tuple, i_bl_list, i_int_int, i_int_bool, i_int_str, i_int_tuple, i_int_list, i_str_int, i_str_bool, i_str_str, i_str_tuple, i_str_list, i_tup_int, i_tup_bool, i_tup_str, i_tup_tuple, i_tup_list, i_rol_int, i_rol_bool, i_rol_str, i_rol_tuple, i_rol_list, lm_next_is, lm_due, lm_taken, lm_opened, lm_closed, lm_ended, lm_goes_on, lm_names, lm_kind_pairs, lm_name_pairs, lm_value_pairs, lm_values, lm_kind_parts, lm_kind, lm_value, lm_part, lm_parts, lm_turn, lm_piece, lm_path])
section
variable {C C2 a p q : Addr} {ds xs ys : List D} {h : Hp3} {Q : VK3} {E : XK3}
theorem sub_fresh {h h' : Hp3} {a : Addr} {o : O3} (n : h a = none) (s : Sub3 h h') : Sub3 h (upd3 h' a o) := fun b o' e => by
  rw [upd3_ne (ne_of_none e n)]
  exact s b o' e
theorem sub_of_none {h : Hp3} {a b : Addr} {o : O3} (n : upd3 h b o a = none) : h a = none := by
  by_cases z : a = b
  · subst z
    rw [upd3_same] at n
    cases n
  · rw [upd3_ne z] at n
    exact n
theorem lex_ok {cs : List Nat} {ts : List Lx} (l : Lex cs ts) : ∀ t ∈ ts, okV t.val = true := by
  have hs : ∀ c ∈ SIGs, c < 1114112 := by decide
  induction l with
  | nil => intro t h; cases h
  | blank _ ih => exact ih
  | sign hc _ ih =>
    intro t ht
    rcases List.mem_cons.mp ht with rfl | ht
    · exact strOk_T fun c hc2 => by rw [List.mem_singleton.mp hc2]; exact hs _ hc
    · exact ih t ht
  | word _ hl _ _ _ ih =>
    intro t ht
    rcases List.mem_cons.mp ht with rfl | ht
    · exact strOk_T fun c hc => let_lt (hl c hc)
    · exact ih t ht
  | num _ _ _ _ ih =>
    intro t ht
    rcases List.mem_cons.mp ht with rfl | ht
    · rfl
    · exact ih t ht
  | text hl _ ih =>
    intro t ht
    rcases List.mem_cons.mp ht with rfl | ht
    · exact strOk_T fun c hc => by
        have := hl c hc
        unfold isSg at this
        omega
    · exact ih t ht
def spReadKind : Sp3 := fun ds h Q _ => ∃ (cs : List Nat) (k : Kd), (ds = [.str (T cs)]) ∧ Lex cs k.toks ∧ cs.length + 10 ≤ 16777216 ∧ k.ok ∧ k.dep ≤ 5 ∧ k.size ≤ 40 ∧ k.wide ∧ Q k.enc h
theorem sem_read_kind (s : spReadKind ds h Q E) : r_read_kind C spMade (spEnded C) (spKind C 5) (spInit C) (endX E) (endsOf Q) (start3 ["text", "reader"] ds) h := by
  obtain ⟨cs, k, rfl, hlex, hl, hok, hd, hs, hw, q⟩ := s
  unfold r_read_kind
  walk_at "sem0"
  intro x nx
  refine ⟨x, cs, k.toks, rfl, upd3_same, hlex, hl, fun p np => ?_⟩
  rw [e_isN]
  have np0 := sub_of_none np
  have r : Rd C x p (upd3 (upd3 (upd3 h x (.ins C [])) p (.lst ((k.toks ++ [Lx.fin]).map Lx.enc))) x (rdO C p 0 0)) (k.toks ++ [Lx.fin]) 0 0 := by
    refine ⟨upd3_same, ?_, ?_⟩
    · have ne : p ≠ x := fun e => by rw [e, upd3_same] at np; cases np
      rw [upd3_ne ne, upd3_same]
    · intro t ht
      rcases List.mem_append.mp ht with ht | ht
      · exact lex_ok hlex t ht
      · rw [List.mem_singleton.mp ht]
        exact strOk_T (w := []) fun c hc => by cases hc
  have sb : Sub3 h (upd3 (upd3 (upd3 h x (.ins C [])) p (.lst ((k.toks ++ [Lx.fin]).map Lx.enc))) x (rdO C p 0 0)) := sub_fresh nx (sub_fresh np0 (sub_upd nx))
  generalize upd3 (upd3 (upd3 h x (.ins C [])) p (.lst ((k.toks ++ [Lx.fin]).map Lx.enc))) x (rdO C p 0 0) = h1 at *
  have o1 := r.o
  unfold rdO at o1
  walk_at "sem"
  refine ⟨x, p, k.toks ++ [Lx.fin], 0, 0, k, [Lx.fin], rfl, r, rfl, hd, by omega, hw, ?_⟩
  have e9 : (k.toks ++ [Lx.fin]).drop (0 + k.toks.length) = Lx.fin :: [] := drop_app (i := 0) rfl
  rw [RH_0]
  refine ⟨x, p, k.toks ++ [Lx.fin], 0 + k.toks.length, 0, [], k.enc, rfl, RH_rd r, e9, ?_⟩
  rw [RH_adv]
  refine ⟨k, rfl, hok, hd, hs, ?_⟩
  refine ends_rt2 ?_ q
  unfold RH
  exact sub_fresh nx sb
/-! the law's draws -/
def spDigit : Sp3 := fun ds h Q _ => ∃ (p : Addr) (c m : Int), (ds = [.ref p, .int m]) ∧ h p = some (.lst [.int c]) ∧ 0 < m ∧ m.natAbs.log2 < 9000 ∧ Q (.int (c % m)) (upd3 h p (.lst [.int (c / m)]))
theorem sem_law_digit (s : spDigit ds h Q E) : r__law_digit (endX E) (endsOf Q) (start3 ["row", "many", "digit"] ds) h := by
  obtain ⟨p, c, m, rfl, hp, hm, hb, q⟩ := s
  unfold r__law_digit
  walk_at "sem"
  refine ⟨⟨hm, hb⟩, 0, rfl, ?_⟩
  exact ends_rt q
end
end O85

end F_M13

section F_M14
/-! M14: names drawn. -/
namespace O85
open PySem PySem.Spec PyProof.Rows L2 L3 Old
local macro_rules
  | `(tactic| walk_at "sem") => `(tactic| simp only [↓e_next, ↓e_seq, ↓e_brk, ↓e_cont, ↓e_drop, ↓e_ret, ↓e_retN, ↓e_if, ↓e_asg, ↓e_par, ↓e_for, ↓e_raise, ↓e_sfld, ↓e_name, ↓e_gnil, ↓e_gcons, ↓e_gtup, ↓e_gsub, ↓e_setL, ↓e_var, ↓e_c, ↓e_op, ↓e_neg, ↓e_andV, ↓e_orV, ↓e_notV, ↓e_ifE, ↓e_chain, ↓e_chain4, ↓e_tup, ↓e_lst, ↓e_ixD, ↓e_inD, ↓e_sl, ↓e_noPart, ↓e_part, ↓e_cb, ↓e_cl, ↓e_joinL, ↓e_new, ↓e_lc, ↓e_bm, ↓e_bm0, ↓e_call, ↓e_meth, ↓e_fld, ↓e_make, ↓e_isN, ↓e_lenSet, ↓e_nil, ↓e_cons, ↓e_b, ↓e_and, ↓e_or, ↓e_not, ↓e_yes, ↓e_seqI, ↓e_rng1, ↓e_rng2, ↓e_addI, ↓e_addS, ↓e_addT, ↓e_addR, ↓e_sub, ↓e_div, ↓e_mod, ↓e_pow, ↓e_mulI, ↓e_mulS, ↓e_ltI, ↓e_leI, ↓e_gtI, ↓e_geI, ↓e_leS, ↓e_eqI, ↓e_eqS, ↓e_neI, ↓e_neS, ↓e_inC, ↓e_isN3, ↓e_ixT, ↓e_ixRo, ↓e_ixR, ↓e_lenS, ↓e_lenT, ↓e_lenRo, ↓e_lenR, ↓e_intI, ↓e_intB, ↓e_intS, ↓e_strI, ↓e_tupR, ↓e_minI, ↓e_maxI, ↓e_app, ↓e_rev, ↓e_join, ↓e_find3, start3, List.map_cons, List.map_nil, List.length_cons, List.length_nil, List.cons_append, List.nil_append, List.replicate, List.getElem?_cons_zero, List.getElem?_cons_succ, List.set_cons_zero, List.set_cons_succ, Nat.reduceAdd, Nat.reduceSub, Nat.zero_add, atI0, atI1, atI2, atI3, Option.some.injEq, if_true, Bool.false_eq_true, if_false, Bool.not_true, Bool.not_false, ofS_inj, String.reduceEq, decide_true, decide_false, exists_and_left, exists_eq_left', exists_eq_left, O3.ins.injEq, O3.lst.injEq, eq_self, true_and, and_true, ↓reduceIte, exists_const, exists_eq, exists_eq', and_self, Bool.xor_false, Bool.false_xor, Bool.true_xor, seq_ref, lst_ref, tyD, lkW, lkA, lkD, ptW, ptA, ptD, i_non_int, i_non_bool, i_non_str, i_non_tuple, i_non_list, i_bl_int, i_bl_bool, i_bl_str, i_bl_tuple, i_bl_list, i_int_int, i_int_bool, i_int_str, i_int_tuple, i_int_list, i_str_int, i_str_bool, i_str_str, i_str_tuple, i_str_list, i_tup_int, i_tup_bool, i_tup_str, i_tup_tuple, i_tup_list, i_rol_int, i_rol_bool, i_rol_str, i_rol_tuple, i_rol_list, lm_next_is, lm_due, lm_taken, lm_opened, lm_closed, lm_ended, lm_goes_on, lm_names, lm_kind_pairs, lm_name_pairs, lm_value_pairs, lm_values, lm_kind_parts, lm_kind, lm_value, lm_part, lm_parts, lm_turn, lm_piece, lm_path, *])
  | `(tactic| walk_at "sem0") => `(tactic| simp only [↓e_next, ↓e_seq, ↓e_brk, ↓e_cont, ↓e_drop, ↓e_ret, ↓e_retN, ↓e_if, ↓e_asg, ↓e_par, ↓e_for, ↓e_raise, ↓e_sfld, ↓e_name, ↓e_gnil, ↓e_gcons, ↓e_gtup, ↓e_gsub, ↓e_setL, ↓e_var, ↓e_c, ↓e_op, ↓e_neg, ↓e_andV, ↓e_orV, ↓e_notV, ↓e_ifE, ↓e_chain, ↓e_chain4, ↓e_tup, ↓e_lst, ↓e_ixD, ↓e_inD, ↓e_sl, ↓e_noPart, ↓e_part, ↓e_cb, ↓e_cl, ↓e_joinL, ↓e_new, ↓e_lc, ↓e_bm, ↓e_bm0, ↓e_call, ↓e_meth, ↓e_fld, ↓e_make, ↓e_isN, ↓e_lenSet, ↓e_nil, ↓e_cons, ↓e_b, ↓e_and, ↓e_or, ↓e_not, ↓e_yes, ↓e_seqI, ↓e_rng1, ↓e_rng2, ↓e_addI, ↓e_addS, ↓e_addT, ↓e_addR, ↓e_sub, ↓e_div, ↓e_mod, ↓e_pow, ↓e_mulI, ↓e_mulS, ↓e_ltI, ↓e_leI, ↓e_gtI, ↓e_geI, ↓e_leS, ↓e_eqI, ↓e_eqS, ↓e_neI, ↓e_neS, ↓e_inC, ↓e_isN3, ↓e_ixT, ↓e_ixRo, ↓e_ixR, ↓e_lenS, ↓e_lenT, ↓e_lenRo, ↓e_lenR, ↓e_intI, ↓e_intB, ↓e_intS, ↓e_strI, ↓e_tupR, ↓e_minI, ↓e_maxI, ↓e_app, ↓e_rev, ↓e_join, ↓e_find3, start3, List.map_cons, List.map_nil, List.length_cons, List.length_nil, List.cons_append, List.nil_append, List.replicate, List.getElem?_cons_zero, List.getElem?_cons_succ, List.set_cons_zero, List.set_cons_succ, Nat.reduceAdd, Nat.reduceSub, Nat.zero_add, atI0, atI1, atI2, atI3, Option.some.injEq, if_true, Bool.false_eq_true, if_false, Bool.not_true, Bool.not_false, ofS_inj, String.reduceEq, decide_true, decide_false, exists_and_left, exists_eq_left', exists_eq_left, O3.ins.injEq, O3.lst.injEq, eq_self, true_and, and_true, ↓reduceIte, exists_const, exists_eq, exists_eq', and_self, Bool.xor_false, Bool.false_xor, Bool.true_xor, seq_ref, lst_ref, tyD, lkW, lkA, lkD, ptW, ptA, ptD, i_non_int, i_non_bool, i_non_str, i_non_tuple, i_non_list, i_bl_int, i_bl_bool, i_bl_str, i_bl_tuple, i_bl_list, i_int_int, i_int_bool, i_int_str, i_int_tuple, i_int_list, i_str_int, i_str_bool, i_str_str, i_str_tuple, i_str_list, i_tup_int, i_tup_bool, i_tup_str, i_tup_tuple, i_tup_list, i_rol_int, i_rol_bool, i_rol_str, i_rol_tuple, i_rol_list, lm_next_is, lm_due, lm_taken, lm_opened, lm_closed, lm_ended, lm_goes_on, lm_names, lm_kind_pairs, lm_name_pairs, lm_value_pairs, lm_values, lm_kind_parts, lm_kind, lm_value, lm_part, lm_parts, lm_turn, lm_piece, lm_path])
def nameB (w : List Nat) : Bool := decide (1 ≤ w.length) && decide (w.length ≤ 8) && !decide (w = wEach) && w.all fun c => decide (c ∈ LETs)
def namesB (ws : List (List Nat)) : Bool := ws.all nameB && decide ws.Nodup
theorem nameB_ok {w : List Nat} (h : nameB w = true) : IsName w := by
  simp only [nameB, Bool.and_eq_true, decide_eq_true_eq, Bool.not_eq_true', decide_eq_false_iff_not, List.all_eq_true] at h
  exact ⟨h.1.1.1, h.1.1.2, h.1.2, h.2⟩
theorem namesB_ok {ws : List (List Nat)} (h : namesB ws = true) : Names ws := by
  simp only [namesB, Bool.and_eq_true, decide_eq_true_eq, List.all_eq_true] at h
  exact ⟨fun w hw => nameB_ok (h.1 w hw), h.2⟩
def abc : List Nat := [97, 98, 99, 100, 101, 102, 103, 104]
def pool : List (List Nat) := [[101, 97, 99], [101, 97, 99, 104, 120], [108, 105, 115, 116], [108, 105, 115, 116, 115], [110, 117, 109, 98, 101, 114], [114, 111, 119, 115], [116, 101, 120, 116], [119, 111, 114, 100, 115]]
def tails : List (List Nat) := [[], [97], [122, 122], [101, 97, 99, 104, 111, 110, 101]]
def way1 (m : Nat) : List (List Nat) := (List.range m).map fun k => abc.take (k + 1)
def way2 (b m : Nat) : List (List Nat) := (List.range m).map fun k => pool.getD ((b + k) % 8) []
def way3 (b t m : Nat) : List (List Nat) := (List.range m).map fun k => LETs.getD ((b + 7 * k) % 26) 0 :: tails.getD t []
theorem way1_ok : ∀ m : Fin 9, namesB (way1 m) = true := by decide +kernel
theorem way1_asc : ∀ m : Fin 9, sortedS ((way1 m).map T) = true := by decide +kernel
theorem way2_ok : ∀ (b : Fin 26) (m : Fin 9), namesB (way2 b m) = true := by decide +kernel
theorem way3_ok : ∀ (b : Fin 26) (t : Fin 4) (m : Fin 9), namesB (way3 b t m) = true := by decide +kernel
theorem names_perm {ws : List (List Nat)} {ys : List Str} (h : Names ws) (p : ys.Perm (ws.map T)) (so : sortedS ys = true) : ∃ vs : List (List Nat), ys = vs.map T ∧ Names vs ∧ Asc vs ∧ vs.length = ws.length := by
  refine ⟨ys.map fun z => z.cps.toList, ?_, ⟨?_, ?_⟩, ?_, ?_⟩
  · rw [List.map_map]
    have : (T ∘ fun z : Str => z.cps.toList) = id := funext fun z => T_of
    rw [this, List.map_id]
  · intro w hw
    obtain ⟨z, hz, rfl⟩ := List.mem_map.mp hw
    obtain ⟨v, hv, rfl⟩ := List.mem_map.mp (p.mem_iff.mp hz)
    rw [T_cps]
    exact h.all v hv
  · have p2 := p.map fun z : Str => z.cps.toList
    rw [List.map_map] at p2
    have : ((fun z : Str => z.cps.toList) ∘ T) = id := funext fun z => T_cps
    rw [this, List.map_id] at p2
    exact p2.nodup_iff.mpr h.nd
  · unfold Asc
    rw [List.map_map]
    have : (T ∘ fun z : Str => z.cps.toList) = id := funext fun z => T_of
    rw [this, List.map_id]
    exact so
  · rw [List.length_map, p.length_eq, List.length_map]
section
variable {C C2 a p q : Addr} {ds xs ys : List D} {h : Hp3} {Q : VK3} {E : XK3}
/-- the row on the way -/
def RW (h : Hp3) (p : Addr) (c : Int) : Hp3 := upd3 h p (.lst [.int c])
theorem RW_p {c : Int} : RW h p c p = some (.lst [.int c]) := upd3_same
theorem RW_adv {c c' : Int} : upd3 (RW h p c) p (.lst [.int c']) = RW h p c' := upd3_upd3
theorem RW_0 {c : Int} : upd3 h p (.lst [.int c]) = RW h p c := rfl
theorem RW_self {c : Int} (e : h p = some (.lst [.int c])) : RW h p c = h := upd3_self e
theorem RW_none {c : Int} {q : Addr} (n : RW h p c q = none) : h q = none := sub_of_none n
def spNamesL : Sp3 := fun ds h Q _ => ∃ (p : Addr) (c : Int) (m : Nat), (ds = [.ref p, .int (m : Int)]) ∧ h p = some (.lst [.int c]) ∧ m ≤ 8 ∧ ∀ (c' : Int) (ws : List (List Nat)) (q : Addr), Names ws → Asc ws → ws.length = m → h q = none → Q (.ref q) (upd3 (RW h p c') q (.lst (strD ws)))
theorem lit_abc : Str.ofString "abcdefgh" = T abc := by decide
theorem mod_nat {c : Int} {m : Nat} (hm : 0 < m) : ∃ b : Nat, b < m ∧ c % (m : Int) = (b : Int) := by
  refine ⟨(c % (m : Int)).toNat, ?_, ?_⟩
  · have := Int.emod_nonneg c (show (m : Int) ≠ 0 by omega)
    have := Int.emod_lt_of_pos c (show (0 : Int) < m by omega)
    omega
  · have := Int.emod_nonneg c (show (m : Int) ≠ 0 by omega)
    omega
theorem sem_law_names (s : spNamesL ds h Q E) : r__law_names spDigit (endX E) (endsOf Q) (start3 ["row", "many", "base", "tail", "way", "words", "k"] ds) h := by
  obtain ⟨p, c, m, rfl, hp, hm, q⟩ := s
  have zl := sizeLine_eq
  unfold r__law_names
  rw [← RW_self hp]
  walk_at "sem0"
  refine ⟨p, c, 26, rfl, RW_p, by decide, by decide +kernel, ?_⟩
  rw [RW_adv]
  obtain ⟨b, hb, eb⟩ := mod_nat (c := c) (m := 26) (by decide)
  rw [show c % (26 : Int) = (b : Int) from eb]
  try walk_at "sem0"
  refine ⟨by omega, p, c / 26, 4, rfl, RW_p, by decide, by decide +kernel, ?_⟩
  rw [RW_adv]
  obtain ⟨t, ht, et⟩ := mod_nat (c := c / 26) (m := 4) (by decide)
  rw [show c / 26 % (4 : Int) = (t : Int) from et]
  refine ⟨.str (T (tails.getD t [])), ?_, ?_⟩
  · refine L3.atI_nat ?_
    have : ∀ t : Fin 4, ([.str (Str.ofString ""), .str (Str.ofString "a"), .str (Str.ofString "zz"), .str (Str.ofString "eachone")] : List D)[(t : Nat)]? = some (.str (T (tails.getD t []))) := by
      intro t
      rw [lit_e, show Str.ofString "a" = T [97] by decide, show Str.ofString "zz" = T [122, 122] by decide, show Str.ofString "eachone" = T [101, 97, 99, 104, 111, 110, 101] by decide]
      match t with
      | 0 => rfl
      | 1 => rfl
      | 2 => rfl
      | 3 => rfl
    exact this ⟨t, ht⟩
  generalize hT : T (tails.getD t []) = tl
  refine ⟨p, c / 26 / 4, 5, rfl, RW_p, by decide, by decide +kernel, ?_⟩
  rw [RW_adv]
  generalize c / 26 / 4 / 5 = c9
  generalize c / 26 / 4 % 5 = w9
  have q2 := q c9
  clear q
  have hf : ∀ {x : Addr}, RW h p c9 x = none → h x = none := fun n => RW_none n
  by_cases w1 : w9 = 1
  · subst w1
    walk_at "sem0"
    refine ⟨by omega, by omega, ?_⟩
    refine lc3_maps (fun i : Nat => D.int (0 + (i : Int))) (fun i => .str (T (abc.take (i + 1)))) trivial (List.range m) [] (by simp; omega) (fun i hi Q hq => ?_) ?_
    · simp only [wipe3]
      walk_at "sem0"
      rw [lit_abc]
      have : sl3 (.str (T abc)) none (some (0 + (i : Int) + 1)) (RW h p c9) Q = ((T abc).length ≤ sizeLine ∧ Q (.str (T (abc.take (i + 1)))) (RW h p c9)) := by
        show ((T abc).length ≤ sizeLine ∧ Q (.str (cutS (T abc) none (some (0 + (i : Int) + 1)))) (RW h p c9)) = _
        have e : cutS (T abc) none (some (0 + (i : Int) + 1)) = T (abc.take (i + 1)) := by
          unfold cutS
          rw [show (0 + (i : Int) + 1) = ((i + 1 : Nat) : Int) by omega, HT.sIx_nat, HT.sIx_none, T_cps, T_len]
          have hi2 : i < m := List.mem_range.mp hi
          rw [Nat.min_eq_left (by show i + 1 ≤ 8; omega)]
          simp [T]
        rw [e]
      rw [this]
      exact ⟨by rw [T_len, sizeLine_eq]; decide, hq⟩
    · intro x nx
      refine ends_rt ?_
      have := q2 (way1 m) x (namesB_ok (way1_ok ⟨m, by omega⟩)) (way1_asc ⟨m, by omega⟩) (by simp [way1]) (hf nx)
      simpa [way1, strD, Function.comp_def] using this
  · by_cases w2 : w9 = 2
    · subst w2
      walk_at "sem0"
      refine ⟨by omega, fun x nx => ⟨by omega, by omega, ?_⟩⟩
      refine lc3_maps (fun i : Nat => D.int (0 + (i : Int))) (fun i => .str (T (pool.getD ((b + i) % 8) []))) trivial (List.range m) [] (by simp; omega) (fun i hi Q hq => ?_) ?_
      · simp only [wipe3]
        walk_at "sem0"
        refine ⟨by decide, _, upd3_same, .str (T (pool.getD ((b + i) % 8) [])), ?_, hq⟩
        rw [show ((b : Int) + (0 + (i : Int))) % 8 = (((b + i) % 8 : Nat) : Int) by omega]
        refine L3.atI_nat ?_
        have hlt : (b + i) % 8 < 8 := Nat.mod_lt _ (by decide)
        generalize (b + i) % 8 = z at hlt
        have : ∀ z : Fin 8, ([.str (Str.ofString "eac"), .str (Str.ofString "eachx"), .str (Str.ofString "list"), .str (Str.ofString "lists"), .str (Str.ofString "number"), .str (Str.ofString "rows"), .str (Str.ofString "text"), .str (Str.ofString "words")] : List D)[(z : Nat)]? = some (.str (T (pool.getD z []))) := by
          intro z
          rw [show Str.ofString "eac" = T [101, 97, 99] by decide, show Str.ofString "eachx" = T [101, 97, 99, 104, 120] by decide, s_list, show Str.ofString "lists" = T [108, 105, 115, 116, 115] by decide, s_number, s_rows, s_text, show Str.ofString "words" = T [119, 111, 114, 100, 115] by decide]
          match z with
          | 0 => rfl
          | 1 => rfl
          | 2 => rfl
          | 3 => rfl
          | 4 => rfl
          | 5 => rfl
          | 6 => rfl
          | 7 => rfl
        exact this ⟨z, hlt⟩
      · refine ⟨(way2 b m).map T, by simp [way2], by simp [way2]; omega, fun ys y pm so ny => ?_⟩
        obtain ⟨vs, rfl, hv, ha, hl⟩ := names_perm (namesB_ok (way2_ok ⟨b, hb⟩ ⟨m, by omega⟩)) pm so
        have nx0 := hf nx
        have ny0 := hf (sub_of_none ny)
        have := q2 vs y hv ha (by rw [hl]; simp [way2]) ny0
        refine ends_rt2 (h2 := upd3 (RW h p c9) y (.lst ((vs.map T).map D.str))) (Sub3.upd (sub_upd nx)) ?_
        simpa [strD, Function.comp_def] using this
    · have e1 : decide (w9 = 1) = false := decide_eq_false w1
      have e2 : decide (w9 = 2) = false := decide_eq_false w2
      walk_at "sem0"
      rw [e1, e2]
      walk_at "sem0"
      refine ⟨by omega, by omega, ?_⟩
      subst hT
      refine lc3_maps (fun i : Nat => D.int (0 + (i : Int))) (fun i => .str (T (LETs.getD ((b + 7 * i) % 26) 0 :: tails.getD t []))) trivial (List.range m) [] (by simp; omega) (fun i hi Q hq => ?_) ?_
      · simp only [wipe3]
        walk_at "sem0"
        have hi2 : i < m := List.mem_range.mp hi
        refine ⟨?_, by decide, ?_⟩
        · unfold CMulW
          have : (0 + (i : Int)).natAbs < 2 ^ 4 := by omega
          have h2 := (Nat.log2_lt (n := (0 + (i : Int)).natAbs) (k := 4))
          have h3 : (0 + (i : Int)).natAbs.log2 ≤ 8 := Nat.le_trans (Nat.log2_le_self _) (by omega)
          have h4 : (7 : Int).natAbs.log2 = 2 := by decide +kernel
          rw [h4]
          omega
        · rw [show ((b : Int) + 7 * (0 + (i : Int))) % 26 = (((b + 7 * i) % 26 : Nat) : Int) by omega, lit_let]
          have hlt : (b + 7 * i) % 26 < 26 := Nat.mod_lt _ (by decide)
          refine ⟨LETs.getD ((b + 7 * i) % 26) 0, by rw [T_len, sizeLine_eq]; decide, ?_, ?_⟩
          · refine L3.atI_nat ?_
            rw [T_cps, List.getD_eq_getElem?_getD, List.getElem?_eq_getElem (show (b + 7 * i) % 26 < LETs.length from hlt)]
            rfl
          · show add3 (.str (T [LETs.getD ((b + 7 * i) % 26) 0])) _ _ _
            rw [e_addS, T_app, T_len, T_len]
            refine ⟨?_, hq⟩
            have : ∀ t : Fin 4, (tails.getD t []).length ≤ 7 := by decide
            have : (tails.getD t []).length ≤ 7 := this ⟨t, ht⟩
            simp only [List.length_cons, List.length_nil]
            rw [sizeLine_eq]
            omega
      · refine ⟨(way3 b t m).map T, by simp [way3], by simp [way3]; omega, fun ys y pm so ny => ?_⟩
        obtain ⟨vs, rfl, hv, ha, hl⟩ := names_perm (namesB_ok (way3_ok ⟨b, hb⟩ ⟨t, ht⟩ ⟨m, by omega⟩)) pm so
        have := q2 vs y hv ha (by rw [hl]; simp [way3]) (hf ny)
        refine ends_rt ?_
        simpa [strD, Function.comp_def] using this
end
end O85

end F_M14

section F_M15
/-! M15: leaves drawn. -/
namespace O85
open PySem PySem.Spec PyProof.Rows L2 L3 Old
local macro_rules
  | `(tactic| walk_at "sem") => `(tactic| simp only [↓e_next, ↓e_seq, ↓e_brk, ↓e_cont, ↓e_drop, ↓e_ret, ↓e_retN, ↓e_if, ↓e_asg, ↓e_par, ↓e_for, ↓e_raise, ↓e_sfld, ↓e_name, ↓e_gnil, ↓e_gcons, ↓e_gtup, ↓e_gsub, ↓e_setL, ↓e_var, ↓e_c, ↓e_op, ↓e_neg, ↓e_andV, ↓e_orV, ↓e_notV, ↓e_ifE, ↓e_chain, ↓e_chain4, ↓e_tup, ↓e_lst, ↓e_ixD, ↓e_inD, ↓e_sl, ↓e_noPart, ↓e_part, ↓e_cb, ↓e_cl, ↓e_joinL, ↓e_new, ↓e_lc, ↓e_bm, ↓e_bm0, ↓e_call, ↓e_meth, ↓e_fld, ↓e_make, ↓e_isN, ↓e_lenSet, ↓e_nil, ↓e_cons, ↓e_b, ↓e_and, ↓e_or, ↓e_not, ↓e_yes, ↓e_seqI, ↓e_rng1, ↓e_rng2, ↓e_addI, ↓e_addS, ↓e_addT, ↓e_addR, ↓e_sub, ↓e_div, ↓e_mod, ↓e_pow, ↓e_mulI, ↓e_mulS, ↓e_ltI, ↓e_leI, ↓e_gtI, ↓e_geI, ↓e_leS, ↓e_eqI, ↓e_eqS, ↓e_neI, ↓e_neS, ↓e_inC, ↓e_isN3, ↓e_ixT, ↓e_ixRo, ↓e_ixR, ↓e_lenS, ↓e_lenT, ↓e_lenRo, ↓e_lenR, ↓e_intI, ↓e_intB, ↓e_intS, ↓e_strI, ↓e_tupR, ↓e_minI, ↓e_maxI, ↓e_app, ↓e_rev, ↓e_join, ↓e_find3, start3, List.map_cons, List.map_nil, List.length_cons, List.length_nil, List.cons_append, List.nil_append, List.replicate, List.getElem?_cons_zero, List.getElem?_cons_succ, List.set_cons_zero, List.set_cons_succ, Nat.reduceAdd, Nat.reduceSub, Nat.zero_add, atI0, atI1, atI2, atI3, Option.some.injEq, if_true, Bool.false_eq_true, if_false, Bool.not_true, Bool.not_false, ofS_inj, String.reduceEq, decide_true, decide_false, exists_and_left, exists_eq_left', exists_eq_left, O3.ins.injEq, O3.lst.injEq, eq_self, true_and, and_true, ↓reduceIte, exists_const, exists_eq, exists_eq', and_self, Bool.xor_false, Bool.false_xor, Bool.true_xor, seq_ref, lst_ref, tyD, lkW, lkA, lkD, ptW, ptA, ptD, i_non_int, i_non_bool, i_non_str, i_non_tuple, i_non_list, i_bl_int, i_bl_bool, i_bl_str, i_bl_tuple, i_bl_list, i_int_int, i_int_bool, i_int_str, i_int_tuple, i_int_list, i_str_int, i_str_bool, i_str_str, i_str_tuple, i_str_list, i_tup_int, i_tup_bool, i_tup_str, i_tup_tuple, i_tup_list, i_rol_int, i_rol_bool, i_rol_str, i_rol_tuple, i_rol_list, lm_next_is, lm_due, lm_taken, lm_opened, lm_closed, lm_ended, lm_goes_on, lm_names, lm_kind_pairs, lm_name_pairs, lm_value_pairs, lm_values, lm_kind_parts, lm_kind, lm_value, lm_part, lm_parts, lm_turn, lm_piece, lm_path, *])
  | `(tactic| walk_at "sem0") => `(tactic| simp only [↓e_next, ↓e_seq, ↓e_brk, ↓e_cont, ↓e_drop, ↓e_ret, ↓e_retN, ↓e_if, ↓e_asg, ↓e_par, ↓e_for, ↓e_raise, ↓e_sfld, ↓e_name, ↓e_gnil, ↓e_gcons, ↓e_gtup, ↓e_gsub, ↓e_setL, ↓e_var, ↓e_c, ↓e_op, ↓e_neg, ↓e_andV, ↓e_orV, ↓e_notV, ↓e_ifE, ↓e_chain, ↓e_chain4, ↓e_tup, ↓e_lst, ↓e_ixD, ↓e_inD, ↓e_sl, ↓e_noPart, ↓e_part, ↓e_cb, ↓e_cl, ↓e_joinL, ↓e_new, ↓e_lc, ↓e_bm, ↓e_bm0, ↓e_call, ↓e_meth, ↓e_fld, ↓e_make, ↓e_isN, ↓e_lenSet, ↓e_nil, ↓e_cons, ↓e_b, ↓e_and, ↓e_or, ↓e_not, ↓e_yes, ↓e_seqI, ↓e_rng1, ↓e_rng2, ↓e_addI, ↓e_addS, ↓e_addT, ↓e_addR, ↓e_sub, ↓e_div, ↓e_mod, ↓e_pow, ↓e_mulI, ↓e_mulS, ↓e_ltI, ↓e_leI, ↓e_gtI, ↓e_geI, ↓e_leS, ↓e_eqI, ↓e_eqS, ↓e_neI, ↓e_neS, ↓e_inC, ↓e_isN3, ↓e_ixT, ↓e_ixRo, ↓e_ixR, ↓e_lenS, ↓e_lenT, ↓e_lenRo, ↓e_lenR, ↓e_intI, ↓e_intB, ↓e_intS, ↓e_strI, ↓e_tupR, ↓e_minI, ↓e_maxI, ↓e_app, ↓e_rev, ↓e_join, ↓e_find3, start3, List.map_cons, List.map_nil, List.length_cons, List.length_nil, List.cons_append, List.nil_append, List.replicate, List.getElem?_cons_zero, List.getElem?_cons_succ, List.set_cons_zero, List.set_cons_succ, Nat.reduceAdd, Nat.reduceSub, Nat.zero_add, atI0, atI1, atI2, atI3, Option.some.injEq, if_true, Bool.false_eq_true, if_false, Bool.not_true, Bool.not_false, ofS_inj, String.reduceEq, decide_true, decide_false, exists_and_left, exists_eq_left', exists_eq_left, O3.ins.injEq, O3.lst.injEq, eq_self, true_and, and_true, ↓reduceIte, exists_const, exists_eq, exists_eq', and_self, Bool.xor_false, Bool.false_xor, Bool.true_xor, seq_ref, lst_ref, tyD, lkW, lkA, lkD, ptW, ptA, ptD, i_non_int, i_non_bool, i_non_str, i_non_tuple, i_non_list, i_bl_int, i_bl_bool, i_bl_str, i_bl_tuple, i_bl_list, i_int_int, i_int_bool, i_int_str, i_int_tuple, i_int_list, i_str_int, i_str_bool, i_str_str, i_str_tuple, i_str_list, i_tup_int, i_tup_bool, i_tup_str, i_tup_tuple, i_tup_list, i_rol_int, i_rol_bool, i_rol_str, i_rol_tuple, i_rol_list, lm_next_is, lm_due, lm_taken, lm_opened, lm_closed, lm_ended, lm_goes_on, lm_names, lm_kind_pairs, lm_name_pairs, lm_value_pairs, lm_values, lm_kind_parts, lm_kind, lm_value, lm_part, lm_parts, lm_turn, lm_piece, lm_path])
section
variable {C C2 a p q : Addr} {ds xs ys : List D} {h : Hp3} {Q : VK3} {E : XK3}
/-- a number kind drawn -/
def spNumL : Sp3 := fun ds h Q _ => ∃ (p : Addr) (c : Int), (ds = [.ref p]) ∧ h p = some (.lst [.int c]) ∧ ∀ (c' lo hi : Int), (Kd.number lo hi).ok → Q (Kd.number lo hi).enc (RW h p c')
theorem pow30 : (10 : Int) ^ (30 : Int).toNat = 10 ^ 30 := rfl
theorem pow29 : (10 : Int) ^ (29 : Int).toNat = 10 ^ 29 := rfl
theorem emod_b (c : Int) {m : Int} (hm : 0 < m) : 0 ≤ c % m ∧ c % m < m := ⟨Int.emod_nonneg c (by omega), Int.emod_lt_of_pos c hm⟩
theorem sem_law_number_kind (s : spNumL ds h Q E) : r__law_number_kind spDigit (endX E) (endsOf Q) (start3 ["row", "low", "high"] ds) h := by
  obtain ⟨p, c, rfl, hp, q⟩ := s
  have zl := sizeLine_eq
  have cp : CPow 10 30 := by unfold CPow; decide
  have cp2 : CPow 10 29 := by unfold CPow; decide
  have cm : CMulW 2 (10 ^ 30) := by unfold CMulW; decide +kernel
  unfold r__law_number_kind
  rw [← RW_self hp]
  walk_at "sem0"
  refine ⟨p, c, 12, rfl, RW_p, by decide, by decide +kernel, ?_⟩
  rw [RW_adv]
  walk_at "sem0"
  rw [pow30]
  refine ⟨cp, cm, p, _, 2 * 10 ^ 30 + 1, rfl, RW_p, by decide, by decide +kernel, ?_⟩
  rw [RW_adv]
  try walk_at "sem0"
  refine ⟨cp, by omega, p, _, 4, rfl, RW_p, by decide, by decide +kernel, ?_⟩
  rw [RW_adv]
  have b1 := emod_b c (m := 12) (by decide)
  have b2 := emod_b (c / 12) (m := 2 * 10 ^ 30 + 1) (by decide)
  -- the lower bound
  have low : ∃ lo : Int, -(10 ^ 30) ≤ lo ∧ lo ≤ 10 ^ 30 ∧ atI [D.int (c % 12 - 6), D.int (c / 12 % (2 * 10 ^ 30 + 1) - 10 ^ 30)] (if decide (c / 12 / (2 * 10 ^ 30 + 1) % 4 = 1) = true then 1 else 0) = some (.int lo) := by
    by_cases z : decide (c / 12 / (2 * 10 ^ 30 + 1) % 4 = 1) = true
    · rw [if_pos z]
      exact ⟨_, by omega, by omega, atI1⟩
    · rw [if_neg z]
      exact ⟨_, by omega, by omega, atI0⟩
  obtain ⟨lo, l1, l2, l3⟩ := low
  generalize c / 12 / (2 * 10 ^ 30 + 1) = c4 at *
  walk_at "sem0"
  rw [l3]
  refine ⟨_, rfl, ?_⟩
  try walk_at "sem0"
  refine ⟨cp, p, _, 9, rfl, RW_p, by decide, by decide +kernel, ?_⟩
  rw [RW_adv]
  walk_at "sem0"
  rw [pow29]
  refine ⟨cp2, p, _, 2, rfl, RW_p, by decide, by decide +kernel, ?_⟩
  rw [RW_adv]
  refine ⟨by omega, p, _, 3, rfl, RW_p, by decide, by decide +kernel, ?_⟩
  rw [RW_adv]
  have b3 := emod_b (c4 / 4) (m := 9) (by decide)
  have b4 := emod_b (c4 / 4 / 9) (m := 2) (by decide)
  obtain ⟨w, hw, ew⟩ := mod_nat (c := c4 / 4 / 9 / 2) (m := 3) (by decide)
  rw [show c4 / 4 / 9 / 2 % (3 : Int) = (w : Int) from ew]
  have hi : ∃ v : Int, 0 ≤ v ∧ atI [D.int (c4 / 4 % 9), D.int (10 ^ 29), D.int (c4 / 4 / 9 % 2)] (w : Int) = some (.int v) := by
    match w, hw with
    | 0, _ => exact ⟨_, b3.1, atI0⟩
    | 1, _ => exact ⟨_, by decide, atI1⟩
    | 2, _ => exact ⟨_, b4.1, atI2⟩
  obtain ⟨v, v1, v2⟩ := hi
  refine ⟨_, v2, ?_⟩
  walk_at "sem0"
  refine ⟨by omega, ends_rt ?_⟩
  have := q (c4 / 4 / 9 / 2 / 3) lo (min (10 ^ 30) (lo + v)) ⟨l1, by omega, by omega⟩
  simp only [Kd.enc] at this
  exact this
/-- a leaf drawn -/
def Kd.leaf : Kd → Prop
  | .number _ _ => True
  | .text _ => True
  | .choice _ => True
  | _ => False
def spLeafL : Sp3 := fun ds h Q _ => ∃ (p : Addr) (c : Int), (ds = [.ref p]) ∧ h p = some (.lst [.int c]) ∧ ∀ (c' : Int) (k : Kd), k.ok → Kd.leaf k → Q k.enc (RW h p c')
theorem names_rev {ws : List (List Nat)} (h : Names ws) : Names ws.reverse := ⟨fun w hw => h.all w (List.mem_reverse.mp hw), (List.reverse_perm ws).nodup_iff.mpr h.nd⟩
theorem RW_upd_p {c : Int} {y : Addr} {o : O3} (n : h p = some (.lst [.int c])) (ny : h y = none) (c' : Int) : upd3 (RW h p c') y o p = some (.lst [.int c']) := by
  rw [upd3_ne (ne_of_none n ny)]
  exact upd3_same
theorem sem_law_leaf_kind (s : spLeafL ds h Q E) : r__law_leaf_kind spDigit spNamesL spNumL (endX E) (endsOf Q) (start3 ["row", "way", "words"] ds) h := by
  obtain ⟨p, c, rfl, hp, q⟩ := s
  have zl := sizeLine_eq
  unfold r__law_leaf_kind
  rw [← RW_self hp]
  walk_at "sem0"
  refine ⟨p, c, 3, rfl, RW_p, by decide, by decide +kernel, ?_⟩
  rw [RW_adv]
  obtain ⟨w, hw, ew⟩ := mod_nat (c := c) (m := 3) (by decide)
  rw [show c % (3 : Int) = (w : Int) from ew]
  match w, hw with
  | 0, _ =>
    walk_at "sem0"
    refine ⟨p, _, rfl, RW_p, fun c' lo hi ho => ends_rt ?_⟩
    have := q c' (.number lo hi) ho trivial
    unfold RW at this ⊢
    rw [upd3_upd3]
    exact this
  | 1, _ =>
    have e0 : decide (((1 : Nat) : Int) = 0) = false := by decide
    have e1 : decide (((1 : Nat) : Int) = 1) = true := by decide
    walk_at "sem0"
    rw [e0]
    walk_at "sem0"
    rw [e1]
    walk_at "sem0"
    refine ⟨p, _, 4, rfl, RW_p, by decide, by decide +kernel, ?_⟩
    rw [RW_adv]
    refine ⟨p, _, 61, rfl, RW_p, by decide, by decide +kernel, ?_⟩
    rw [RW_adv]
    refine ⟨by omega, p, _, 2, rfl, RW_p, by decide, by decide +kernel, ?_⟩
    rw [RW_adv]
    have b1 := emod_b (c / 3) (m := 4) (by decide)
    have b2 := emod_b (c / 3 / 4) (m := 61) (by decide)
    obtain ⟨v, hv, ev⟩ := mod_nat (c := c / 3 / 4 / 61) (m := 2) (by decide)
    rw [show c / 3 / 4 / 61 % (2 : Int) = (v : Int) from ev]
    have hi : ∃ n : Int, 0 ≤ n ∧ n ≤ 60 ∧ atI [D.int (c / 3 % 4), D.int (c / 3 / 4 % 61)] (v : Int) = some (.int n) := by
      match v, hv with
      | 0, _ => exact ⟨_, b1.1, by omega, atI0⟩
      | 1, _ => exact ⟨_, b2.1, by omega, atI1⟩
    obtain ⟨n, n1, n2, n3⟩ := hi
    refine ⟨_, n3, by omega, ends_rt ?_⟩
    have := q (c / 3 / 4 / 61 / 2) (.text n) ⟨n1, n2⟩ trivial
    simp only [Kd.enc] at this
    exact this
  | 2, _ =>
    have e0 : decide (((2 : Nat) : Int) = 0) = false := by decide
    have e1 : decide (((2 : Nat) : Int) = 1) = false := by decide
    walk_at "sem0"
    rw [e0]
    walk_at "sem0"
    rw [e1]
    walk_at "sem0"
    refine ⟨p, _, 8, rfl, RW_p, by decide, by decide +kernel, ?_⟩
    rw [RW_adv]
    obtain ⟨v, hv, ev⟩ := mod_nat (c := c / 3) (m := 8) (by decide)
    rw [show c / 3 % (8 : Int) = (v : Int) from ev]
    walk_at "sem0"
    rw [show (1 : Int) + (v : Int) = ((1 + v : Nat) : Int) by omega]
    refine ⟨p, _, 1 + v, rfl, RW_p, by omega, fun c' ws y hn ha hl ny => ?_⟩
    have er : RW (RW h p (c / 3 / 8)) p c' = RW h p c' := by unfold RW; rw [upd3_upd3]
    rw [er]
    have ny0 := RW_none ny
    have ney : p ≠ y := ne_of_none hp ny0
    refine ⟨p, c', 2, rfl, RW_upd_p hp ny0 c', by decide, by decide +kernel, ?_⟩
    have eo : upd3 (upd3 (RW h p c') y (.lst (strD ws))) p (.lst [.int (c' / 2)]) = upd3 (RW h p (c' / 2)) y (.lst (strD ws)) := by
      rw [upd3_comm ney]
      unfold RW
      rw [upd3_upd3]
    rw [eo]
    walk_at "sem0"
    have hsub : ∀ (o : O3), Sub3 (RW h p (c' / 2)) (upd3 (RW h p (c' / 2)) y o) := fun o => sub_upd (by unfold RW; rw [upd3_ne ney.symm]; exact ny0)
    by_cases z : decide (c' % 2 = 1) = true
    · rw [z]
      walk_at "sem0"
      refine ⟨⟨_, upd3_same⟩, _, upd3_same, ?_⟩
      rw [upd3_upd3]
      refine ⟨_, upd3_same, by decide, ends_rt2 (hsub _) ?_⟩
      have := q (c' / 2) (.choice ws.reverse) (by simp only [Kd.ok, List.length_reverse]; exact ⟨by omega, by omega, names_rev hn⟩) trivial
      simp only [Kd.enc] at this
      rw [show (strD ws).reverse = ws.reverse.map fun w => D.str (T w) by simp [strD]]
      exact this
    · have z2 : decide (c' % 2 = 1) = false := by simpa using z
      rw [z2]
      walk_at "sem0"
      refine ⟨_, upd3_same, by decide, ends_rt2 (hsub _) ?_⟩
      have := q (c' / 2) (.choice ws) (by simp only [Kd.ok]; exact ⟨by omega, by omega, hn⟩) trivial
      simp only [Kd.enc] at this
      exact this
end
end O85

end F_M15

section F_K16
/-! K16: rows of fields; a row and a room on the way. -/
namespace Old
open PySem PySem.Spec PyProof.Rows L2 L3 O85
def Kds.ofL : List (List Nat × Kd) → Kds
  | [] => .nil
  | (n, k) :: r => .cons n k (Kds.ofL r)
theorem toL_ofL : ∀ L : List (List Nat × Kd), (Kds.ofL L).toL = L
  | [] => rfl
  | (n, k) :: r => by simp [Kds.ofL, Kds.toL, toL_ofL r]
theorem ofL_enc (L : List (List Nat × Kd)) : (Kds.ofL L).enc = L.map encK := by
  rw [Kds.enc_map, toL_ofL]
  rfl
theorem ofL_names (L : List (List Nat × Kd)) : (Kds.ofL L).names = L.map (·.1) := by
  rw [Kds.names_map, toL_ofL]
theorem ofL_ok : ∀ {L : List (List Nat × Kd)}, (∀ y ∈ L, Kd.ok y.2) → (Kds.ofL L).ok
  | [], _ => by simp [Kds.ofL, Kds.ok]
  | (n, k) :: r, h => by
    simp only [Kds.ofL, Kds.ok]
    exact ⟨h (n, k) List.mem_cons_self, ofL_ok fun y hy => h y (List.mem_cons_of_mem _ hy)⟩
theorem ofL_dep {D : Nat} : ∀ {L : List (List Nat × Kd)}, (∀ y ∈ L, y.2.dep ≤ D) → (Kds.ofL L).dep ≤ D
  | [], _ => by simp [Kds.ofL, Kds.dep]
  | (n, k) :: r, h => by
    simp only [Kds.ofL, Kds.dep]
    exact Nat.max_le.mpr ⟨h (n, k) List.mem_cons_self, ofL_dep fun y hy => h y (List.mem_cons_of_mem _ hy)⟩
theorem ofL_size : ∀ L : List (List Nat × Kd), (Kds.ofL L).size = (L.map fun y => y.2.size).sum
  | [] => by simp [Kds.ofL, Kds.size]
  | (n, k) :: r => by simp [Kds.ofL, Kds.size, ofL_size r]
/-- calls left -/
def left (m : Int) : Nat := (m / 5).toNat
theorem left_sub {m : Int} (h : 0 ≤ m - 5) : left (m - 5) + 1 = left m := by
  unfold left
  omega
theorem left_le {m : Int} : left (m - 5) ≤ left m := by
  unfold left
  omega
def H2 (h : Hp3) (p : Addr) (c : Int) (r : Addr) (m : Int) : Hp3 := upd3 (upd3 h p (.lst [.int c])) r (.lst [.int m])
section
variable {h : Hp3} {p r q : Addr} {c c' m m' : Int} {o : O3}
theorem H2_p (n : p ≠ r) : H2 h p c r m p = some (.lst [.int c]) := by
  unfold H2
  rw [upd3_ne n, upd3_same]
theorem H2_r : H2 h p c r m r = some (.lst [.int m]) := upd3_same
theorem H2_o (n : q ≠ p) (n2 : q ≠ r) : H2 h p c r m q = h q := by
  unfold H2
  rw [upd3_ne n2, upd3_ne n]
theorem H2_RW (n : p ≠ r) : RW (H2 h p c r m) p c' = H2 h p c' r m := by
  unfold RW H2
  rw [upd3_comm n, upd3_upd3]
theorem H2_advp (n : p ≠ r) : upd3 (H2 h p c r m) p (.lst [.int c']) = H2 h p c' r m := H2_RW n
theorem H2_advr : upd3 (H2 h p c r m) r (.lst [.int m']) = H2 h p c r m' := upd3_upd3
theorem H2_H2 (n : p ≠ r) : H2 (H2 h p c r m) p c' r m' = H2 h p c' r m' := by
  show upd3 (upd3 (H2 h p c r m) p (.lst [.int c'])) r (.lst [.int m']) = _
  rw [H2_advp n, H2_advr]
theorem H2_self (e1 : h p = some (.lst [.int c])) (e2 : h r = some (.lst [.int m])) : H2 h p c r m = h := by
  unfold H2
  rw [upd3_self e1, upd3_self e2]
theorem H2_up (n1 : q ≠ p) (n2 : q ≠ r) : upd3 (H2 h p c r m) q o = H2 (upd3 h q o) p c r m := by
  unfold H2
  rw [upd3_comm n2, upd3_comm n1]
theorem H2_sub {h' : Hp3} (s : Sub3 h h') : Sub3 (H2 h p c r m) (H2 h' p c r m) := Sub3.upd (Sub3.upd s)
theorem H2_none (n : H2 h p c r m q = none) : q ≠ p ∧ q ≠ r ∧ h q = none := by
  have n2 : q ≠ r := fun e => by rw [e] at n; rw [H2_r] at n; cases n
  have n1 : q ≠ p := fun e => by
    unfold H2 at n
    rw [upd3_ne n2, e, upd3_same] at n
    cases n
  exact ⟨n1, n2, by rw [H2_o n1 n2] at n; exact n⟩
end
/-- what is drawn -/
structure Good (deep : Nat) (m m' : Int) (k : Kd) : Prop where
  ok : k.ok
  dep : k.dep ≤ deep
  size : k.size + 4 * left m' ≤ 1 + 4 * left m
  le : m' ≤ m
end Old

end F_K16

section F_M16
/-! M16: records drawn. -/
namespace O85
open PySem PySem.Spec PyProof.Rows L2 L3 Old
local macro_rules
  | `(tactic| walk_at "sem") => `(tactic| simp only [↓e_next, ↓e_seq, ↓e_brk, ↓e_cont, ↓e_drop, ↓e_ret, ↓e_retN, ↓e_if, ↓e_asg, ↓e_par, ↓e_for, ↓e_raise, ↓e_sfld, ↓e_name, ↓e_gnil, ↓e_gcons, ↓e_gtup, ↓e_gsub, ↓e_setL, ↓e_var, ↓e_c, ↓e_op, ↓e_neg, ↓e_andV, ↓e_orV, ↓e_notV, ↓e_ifE, ↓e_chain, ↓e_chain4, ↓e_tup, ↓e_lst, ↓e_ixD, ↓e_inD, ↓e_sl, ↓e_noPart, ↓e_part, ↓e_cb, ↓e_cl, ↓e_joinL, ↓e_new, ↓e_lc, ↓e_bm, ↓e_bm0, ↓e_call, ↓e_meth, ↓e_fld, ↓e_make, ↓e_isN, ↓e_lenSet, ↓e_nil, ↓e_cons, ↓e_b, ↓e_and, ↓e_or, ↓e_not, ↓e_yes, ↓e_seqI, ↓e_rng1, ↓e_rng2, ↓e_addI, ↓e_addS, ↓e_addT, ↓e_addR, ↓e_sub, ↓e_div, ↓e_mod, ↓e_pow, ↓e_mulI, ↓e_mulS, ↓e_ltI, ↓e_leI, ↓e_gtI, ↓e_geI, ↓e_leS, ↓e_eqI, ↓e_eqS, ↓e_neI, ↓e_neS, ↓e_inC, ↓e_isN3, ↓e_ixT, ↓e_ixRo, ↓e_ixR, ↓e_lenS, ↓e_lenT, ↓e_lenRo, ↓e_lenR, ↓e_intI, ↓e_intB, ↓e_intS, ↓e_strI, ↓e_tupR, ↓e_minI, ↓e_maxI, ↓e_app, ↓e_rev, ↓e_join, ↓e_find3, start3, List.map_cons, List.map_nil, List.length_cons, List.length_nil, List.cons_append, List.nil_append, List.replicate, List.getElem?_cons_zero, List.getElem?_cons_succ, List.set_cons_zero, List.set_cons_succ, Nat.reduceAdd, Nat.reduceSub, Nat.zero_add, atI0, atI1, atI2, atI3, Option.some.injEq, if_true, Bool.false_eq_true, if_false, Bool.not_true, Bool.not_false, ofS_inj, String.reduceEq, decide_true, decide_false, exists_and_left, exists_eq_left', exists_eq_left, O3.ins.injEq, O3.lst.injEq, eq_self, true_and, and_true, ↓reduceIte, exists_const, exists_eq, exists_eq', and_self, Bool.xor_false, Bool.false_xor, Bool.true_xor, seq_ref, lst_ref, tyD, lkW, lkA, lkD, ptW, ptA, ptD, i_non_int, i_non_bool, i_non_str, i_non_tuple, i_non_list, i_bl_int, i_bl_bool, i_bl_str, i_bl_tuple, i_bl_list, i_int_int, i_int_bool, i_int_str, i_int_tuple, i_int_list, i_str_int, i_str_bool, i_str_str, i_str_tuple, i_str_list, i_tup_int, i_tup_bool, i_tup_str, i_tup_tuple, i_tup_list, i_rol_int, i_rol_bool, i_rol_str, i_rol_tuple, i_rol_list, lm_next_is, lm_due, lm_taken, lm_opened, lm_closed, lm_ended, lm_goes_on, lm_names, lm_kind_pairs, lm_name_pairs, lm_value_pairs, lm_values, lm_kind_parts, lm_kind, lm_value, lm_part, lm_parts, lm_turn, lm_piece, lm_path, *])
  | `(tactic| walk_at "sem0") => `(tactic| simp only [↓e_next, ↓e_seq, ↓e_brk, ↓e_cont, ↓e_drop, ↓e_ret, ↓e_retN, ↓e_if, ↓e_asg, ↓e_par, ↓e_for, ↓e_raise, ↓e_sfld, ↓e_name, ↓e_gnil, ↓e_gcons, ↓e_gtup, ↓e_gsub, ↓e_setL, ↓e_var, ↓e_c, ↓e_op, ↓e_neg, ↓e_andV, ↓e_orV, ↓e_notV, ↓e_ifE, ↓e_chain, ↓e_chain4, ↓e_tup, ↓e_lst, ↓e_ixD, ↓e_inD, ↓e_sl, ↓e_noPart, ↓e_part, ↓e_cb, ↓e_cl, ↓e_joinL, ↓e_new, ↓e_lc, ↓e_bm, ↓e_bm0, ↓e_call, ↓e_meth, ↓e_fld, ↓e_make, ↓e_isN, ↓e_lenSet, ↓e_nil, ↓e_cons, ↓e_b, ↓e_and, ↓e_or, ↓e_not, ↓e_yes, ↓e_seqI, ↓e_rng1, ↓e_rng2, ↓e_addI, ↓e_addS, ↓e_addT, ↓e_addR, ↓e_sub, ↓e_div, ↓e_mod, ↓e_pow, ↓e_mulI, ↓e_mulS, ↓e_ltI, ↓e_leI, ↓e_gtI, ↓e_geI, ↓e_leS, ↓e_eqI, ↓e_eqS, ↓e_neI, ↓e_neS, ↓e_inC, ↓e_isN3, ↓e_ixT, ↓e_ixRo, ↓e_ixR, ↓e_lenS, ↓e_lenT, ↓e_lenRo, ↓e_lenR, ↓e_intI, ↓e_intB, ↓e_intS, ↓e_strI, ↓e_tupR, ↓e_minI, ↓e_maxI, ↓e_app, ↓e_rev, ↓e_join, ↓e_find3, start3, List.map_cons, List.map_nil, List.length_cons, List.length_nil, List.cons_append, List.nil_append, List.replicate, List.getElem?_cons_zero, List.getElem?_cons_succ, List.set_cons_zero, List.set_cons_succ, Nat.reduceAdd, Nat.reduceSub, Nat.zero_add, atI0, atI1, atI2, atI3, Option.some.injEq, if_true, Bool.false_eq_true, if_false, Bool.not_true, Bool.not_false, ofS_inj, String.reduceEq, decide_true, decide_false, exists_and_left, exists_eq_left', exists_eq_left, O3.ins.injEq, O3.lst.injEq, eq_self, true_and, and_true, ↓reduceIte, exists_const, exists_eq, exists_eq', and_self, Bool.xor_false, Bool.false_xor, Bool.true_xor, seq_ref, lst_ref, tyD, lkW, lkA, lkD, ptW, ptA, ptD, i_non_int, i_non_bool, i_non_str, i_non_tuple, i_non_list, i_bl_int, i_bl_bool, i_bl_str, i_bl_tuple, i_bl_list, i_int_int, i_int_bool, i_int_str, i_int_tuple, i_int_list, i_str_int, i_str_bool, i_str_str, i_str_tuple, i_str_list, i_tup_int, i_tup_bool, i_tup_str, i_tup_tuple, i_tup_list, i_rol_int, i_rol_bool, i_rol_str, i_rol_tuple, i_rol_list, lm_next_is, lm_due, lm_taken, lm_opened, lm_closed, lm_ended, lm_goes_on, lm_names, lm_kind_pairs, lm_name_pairs, lm_value_pairs, lm_values, lm_kind_parts, lm_kind, lm_value, lm_part, lm_parts, lm_turn, lm_piece, lm_path])
section
variable {C C2 a p q r : Addr} {ds xs ys : List D} {h : Hp3} {Q : VK3} {E : XK3}
def spKindL (n : Nat) : Sp3 := fun ds h Q _ => ∃ (p r : Addr) (c m : Int) (deep : Nat), (ds = [.ref p, .int (deep : Int), .ref r]) ∧ p ≠ r ∧ h p = some (.lst [.int c]) ∧ h r = some (.lst [.int m]) ∧ 1 ≤ deep ∧ deep ≤ n ∧ ∀ (c' m' : Int) (k : Kd), Good deep m m' k → Q k.enc (H2 h p c' r m')
structure GoodR (deep : Nat) (m m' : Int) (k : Kd) : Prop where
  ok : k.ok
  dep : k.dep ≤ deep
  size : k.size + 4 * left m' ≤ 5 + 4 * left m
  le : m' ≤ m
def spRecL (n : Nat) : Sp3 := fun ds h Q _ => ∃ (p r : Addr) (c m : Int) (deep : Nat), (ds = [.ref p, .int (deep : Int), .ref r]) ∧ p ≠ r ∧ h p = some (.lst [.int c]) ∧ h r = some (.lst [.int m]) ∧ 2 ≤ deep ∧ deep ≤ n + 1 ∧ ∀ (c' m' : Int) (k : Kd), GoodR deep m m' k → Q k.enc (H2 h p c' r m')
def bRec (n : Nat) (E : XK3) : TS3 := (tDrop3 (tBM3 "list" append3 (tVar3 4) (tCons3 (tTup3 (tCons3 (tVar3 5) (tCons3 (tCall3 (spKindL n) (fun _ => E) (tCons3 (tVar3 0) (tCons3 (tOp3 sub3 (tVar3 1) (tC3 (.int 1))) (tCons3 (tVar3 2) tNil3)))) tNil3))) tNil3)))
/-- the fields drawn so far -/
structure FOk (D : Nat) (m0 m : Int) (L : List (List Nat × Kd)) : Prop where
  ok : ∀ y ∈ L, Kd.ok y.2
  dep : ∀ y ∈ L, y.2.dep ≤ D
  size : (L.map fun y => y.2.size).sum + 4 * left m ≤ L.length + 4 * left m0
  le : m ≤ m0
theorem FOk.nil {D : Nat} {m : Int} : FOk D m m [] := ⟨fun _ h => (nomatch h), fun _ h => (nomatch h), (by simp), (by omega)⟩
theorem FOk.snoc {D : Nat} {m0 m m' : Int} {L : List (List Nat × Kd)} {w : List Nat} {k : Kd} (f : FOk D m0 m L) (g : Good D m m' k) : FOk D m0 m' (L ++ [(w, k)]) := by
  have h1 := g.size
  have h2 := f.size
  have h3 := f.le
  have h4 := g.le
  refine ⟨fun y hy => ?_, fun y hy => ?_, ?_, by omega⟩
  · rcases List.mem_append.mp hy with hy | hy
    · exact f.ok y hy
    · rw [List.mem_singleton.mp hy]; exact g.ok
  · rcases List.mem_append.mp hy with hy | hy
    · exact f.dep y hy
    · rw [List.mem_singleton.mp hy]; exact g.dep
  · simp only [List.map_append, List.sum_append, List.map_cons, List.map_nil, List.sum_cons, List.sum_nil, List.length_append, List.length_cons, List.length_nil]
    omega
theorem rec_ok {D : Nat} {m0 m : Int} {L : List (List Nat × Kd)} (f : FOk D m0 m L) (hn : Names (L.map (·.1))) (ha : Asc (L.map (·.1))) (hl : L.length ≤ 8) : (Kd.record (Kds.ofL L)).ok := by
  simp only [Kd.ok, toL_ofL, ofL_names]
  exact ⟨ofL_ok f.ok, hl, hn, ha⟩
theorem sem_law_record_kind (n : Nat) (s : spRecL n ds h Q E) : r__law_record_kind spNamesL (spKindL n) spDigit (endX E) (endsOf Q) (start3 ["row", "deep", "room", "many", "fields", "name"] ds) h := by
  obtain ⟨p, r, c, m, deep, rfl, npr, hp, hr, hd2, hdn, q0⟩ := s
  have zl := sizeLine_eq
  unfold r__law_record_kind
  rw [← H2_self hp hr]
  walk_at "sem0"
  refine ⟨p, c, 4, rfl, H2_p npr, by decide, by decide +kernel, ?_⟩
  rw [H2_advp npr]
  obtain ⟨v, hv, ev⟩ := mod_nat (c := c) (m := 4) (by decide)
  rw [show c % (4 : Int) = (v : Int) from ev]
  generalize c / 4 = c1
  refine ⟨by omega, fun y ny => ?_⟩
  obtain ⟨ny1, ny2, ny3⟩ := H2_none ny
  rw [H2_up ny1 ny2]
  refine ⟨p, c1, v, rfl, H2_p npr, by omega, fun c2 ws x hn ha hl nx => ?_⟩
  obtain ⟨nx1, nx2, nx3⟩ := H2_none nx
  rw [H2_RW npr, H2_up nx1 nx2]
  have nxy : y ≠ x := ne_of_none upd3_same nx3
  have nx4 : h x = none := sub_of_none nx3
  -- the heap on the way
  have loop : ∀ (rest : List (List Nat)) (L : List (List Nat × Kd)) (c m1 : Int) (nm : Option D) (Dn : Ends3), FOk (deep - 1) m m1 L → L.map (·.1) ++ rest = ws → L.length + rest.length ≤ 8 →
      (∀ (L2 : List (List Nat × Kd)) (c m2 : Int) (nm : Option D), FOk (deep - 1) m m2 L2 → L2.map (·.1) = ws → Dn.nx [some (.ref p), some (.int (deep : Int)), some (.ref r), some (.int (v : Int)), some (.ref y), nm] (H2 (upd3 (upd3 h y (.lst (L2.map encK))) x (.lst (strD ws))) p c r m2)) →
      for3 (fun h_1 => h_1 x = some (.lst (strD ws))) (gName3 5) (bRec n (endX E)) Dn (strD rest) [some (.ref p), some (.int (deep : Int)), some (.ref r), some (.int (v : Int)), some (.ref y), nm] (H2 (upd3 (upd3 h y (.lst (L.map encK))) x (.lst (strD ws))) p c r m1) := by
    intro rest
    induction rest with
    | nil =>
      intro L c m1 nm Dn f e hl k
      refine ⟨(H2_o nx1 nx2).trans upd3_same, k L c m1 nm f (by simpa using e)⟩
    | cons w rest ih =>
      intro L c m1 nm Dn f e hl k
      refine ⟨(H2_o nx1 nx2).trans upd3_same, ?_⟩
      have hy : ∀ (L : List (List Nat × Kd)) (c m : Int), H2 (upd3 (upd3 h y (.lst (L.map encK))) x (.lst (strD ws))) p c r m y = some (.lst (L.map encK)) := fun L c m => by
        rw [H2_o ny1 ny2, upd3_ne nxy, upd3_same]
      rw [e_name]
      unfold bRec
      walk_at "sem0"
      refine ⟨⟨_, hy _ _ _⟩, p, r, c, m1, deep - 1, by rw [show ((deep - 1 : Nat) : Int) = (deep : Int) - 1 by omega], npr, H2_p npr, H2_r, by omega, by omega, fun c' m' k2 g => ?_⟩
      rw [H2_H2 npr]
      refine ⟨by omega, _, hy _ _ _, by simp at hl ⊢; omega, ?_⟩
      rw [H2_up ny1 ny2, upd3_comm (h := upd3 h y (.lst (L.map encK))) nxy, upd3_upd3]
      have := ih (L ++ [(w, k2)]) c' m' (some (.str (T w))) Dn (f.snoc g) (by rw [← e]; simp) (by simp at hl ⊢; omega) k
      simpa [bRec, encK, strD] using this
  refine ⟨_, (H2_o nx1 nx2).trans upd3_same, ?_⟩
  refine loop ws [] c2 m none _ FOk.nil rfl (by simp; omega) fun L2 c9 m2 nm f e => ?_
  have hy : H2 (upd3 (upd3 h y (.lst (L2.map encK))) x (.lst (strD ws))) p c9 r m2 y = some (.lst (L2.map encK)) := by
    rw [H2_o ny1 ny2, upd3_ne nxy, upd3_same]
  have hll : L2.length = ws.length := by rw [← e]; simp
  walk_at "sem"
  refine ⟨by decide, ends_rt2 (H2_sub (sub_fresh nx4 (sub_upd ny3))) ?_⟩
  have h1 := f.size
  have h2 := f.le
  have := q0 c9 m2 (.record (Kds.ofL L2)) ⟨rec_ok f (by rw [e]; exact hn) (by rw [e]; exact ha) (by omega), by
      have := ofL_dep f.dep
      simp only [Kd.dep]
      omega, by
      simp only [Kd.size, ofL_size]
      omega, f.le⟩
  simp only [Kd.enc, ofL_enc] at this
  exact this
end
end O85

end F_M16

section F_M17
/-! M17: rows drawn. -/
namespace O85
open PySem PySem.Spec PyProof.Rows L2 L3 Old
local macro_rules
  | `(tactic| walk_at "sem") => `(tactic| simp only [↓e_next, ↓e_seq, ↓e_brk, ↓e_cont, ↓e_drop, ↓e_ret, ↓e_retN, ↓e_if, ↓e_asg, ↓e_par, ↓e_for, ↓e_raise, ↓e_sfld, ↓e_name, ↓e_gnil, ↓e_gcons, ↓e_gtup, ↓e_gsub, ↓e_setL, ↓e_var, ↓e_c, ↓e_op, ↓e_neg, ↓e_andV, ↓e_orV, ↓e_notV, ↓e_ifE, ↓e_chain, ↓e_chain4, ↓e_tup, ↓e_lst, ↓e_ixD, ↓e_inD, ↓e_sl, ↓e_noPart, ↓e_part, ↓e_cb, ↓e_cl, ↓e_joinL, ↓e_new, ↓e_lc, ↓e_bm, ↓e_bm0, ↓e_call, ↓e_meth, ↓e_fld, ↓e_make, ↓e_isN, ↓e_lenSet, ↓e_nil, ↓e_cons, ↓e_b, ↓e_and, ↓e_or, ↓e_not, ↓e_yes, ↓e_seqI, ↓e_rng1, ↓e_rng2, ↓e_addI, ↓e_addS, ↓e_addT, ↓e_addR, ↓e_sub, ↓e_div, ↓e_mod, ↓e_pow, ↓e_mulI, ↓e_mulS, ↓e_ltI, ↓e_leI, ↓e_gtI, ↓e_geI, ↓e_leS, ↓e_eqI, ↓e_eqS, ↓e_neI, ↓e_neS, ↓e_inC, ↓e_isN3, ↓e_ixT, ↓e_ixRo, ↓e_ixR, ↓e_lenS, ↓e_lenT, ↓e_lenRo, ↓e_lenR, ↓e_intI, ↓e_intB, ↓e_intS, ↓e_strI, ↓e_tupR, ↓e_minI, ↓e_maxI, ↓e_app, ↓e_rev, ↓e_join, ↓e_find3, start3, List.map_cons, List.map_nil, List.length_cons, List.length_nil, List.cons_append, List.nil_append, List.replicate, List.getElem?_cons_zero, List.getElem?_cons_succ, List.set_cons_zero, List.set_cons_succ, Nat.reduceAdd, Nat.reduceSub, Nat.zero_add, atI0, atI1, atI2, atI3, Option.some.injEq, if_true, Bool.false_eq_true, if_false, Bool.not_true, Bool.not_false, ofS_inj, String.reduceEq, decide_true, decide_false, exists_and_left, exists_eq_left', exists_eq_left, O3.ins.injEq, O3.lst.injEq, eq_self, true_and, and_true, ↓reduceIte, exists_const, exists_eq, exists_eq', and_self, Bool.xor_false, Bool.false_xor, Bool.true_xor, seq_ref, lst_ref, tyD, lkW, lkA, lkD, ptW, ptA, ptD, i_non_int, i_non_bool, i_non_str, i_non_tuple, i_non_list, i_bl_int, i_bl_bool, i_bl_str, i_bl_tuple, i_bl_list, i_int_int, i_int_bool, i_int_str, i_int_tuple, i_int_list, i_str_int, i_str_bool, i_str_str, i_str_tuple, i_str_list, i_tup_int, i_tup_bool, i_tup_str, i_tup_tuple, i_tup_list, i_rol_int, i_rol_bool, i_rol_str, i_rol_tuple, i_rol_list, lm_next_is, lm_due, lm_taken, lm_opened, lm_closed, lm_ended, lm_goes_on, lm_names, lm_kind_pairs, lm_name_pairs, lm_value_pairs, lm_values, lm_kind_parts, lm_kind, lm_value, lm_part, lm_parts, lm_turn, lm_piece, lm_path, *])
  | `(tactic| walk_at "sem0") => `(tactic| simp only [↓e_next, ↓e_seq, ↓e_brk, ↓e_cont, ↓e_drop, ↓e_ret, ↓e_retN, ↓e_if, ↓e_asg, ↓e_par, ↓e_for, ↓e_raise, ↓e_sfld, ↓e_name, ↓e_gnil, ↓e_gcons, ↓e_gtup, ↓e_gsub, ↓e_setL, ↓e_var, ↓e_c, ↓e_op, ↓e_neg, ↓e_andV, ↓e_orV, ↓e_notV, ↓e_ifE, ↓e_chain, ↓e_chain4, ↓e_tup, ↓e_lst, ↓e_ixD, ↓e_inD, ↓e_sl, ↓e_noPart, ↓e_part, ↓e_cb, ↓e_cl, ↓e_joinL, ↓e_new, ↓e_lc, ↓e_bm, ↓e_bm0, ↓e_call, ↓e_meth, ↓e_fld, ↓e_make, ↓e_isN, ↓e_lenSet, ↓e_nil, ↓e_cons, ↓e_b, ↓e_and, ↓e_or, ↓e_not, ↓e_yes, ↓e_seqI, ↓e_rng1, ↓e_rng2, ↓e_addI, ↓e_addS, ↓e_addT, ↓e_addR, ↓e_sub, ↓e_div, ↓e_mod, ↓e_pow, ↓e_mulI, ↓e_mulS, ↓e_ltI, ↓e_leI, ↓e_gtI, ↓e_geI, ↓e_leS, ↓e_eqI, ↓e_eqS, ↓e_neI, ↓e_neS, ↓e_inC, ↓e_isN3, ↓e_ixT, ↓e_ixRo, ↓e_ixR, ↓e_lenS, ↓e_lenT, ↓e_lenRo, ↓e_lenR, ↓e_intI, ↓e_intB, ↓e_intS, ↓e_strI, ↓e_tupR, ↓e_minI, ↓e_maxI, ↓e_app, ↓e_rev, ↓e_join, ↓e_find3, start3, List.map_cons, List.map_nil, List.length_cons, List.length_nil, List.cons_append, List.nil_append, List.replicate, List.getElem?_cons_zero, List.getElem?_cons_succ, List.set_cons_zero, List.set_cons_succ, Nat.reduceAdd, Nat.reduceSub, Nat.zero_add, atI0, atI1, atI2, atI3, Option.some.injEq, if_true, Bool.false_eq_true, if_false, Bool.not_true, Bool.not_false, ofS_inj, String.reduceEq, decide_true, decide_false, exists_and_left, exists_eq_left', exists_eq_left, O3.ins.injEq, O3.lst.injEq, eq_self, true_and, and_true, ↓reduceIte, exists_const, exists_eq, exists_eq', and_self, Bool.xor_false, Bool.false_xor, Bool.true_xor, seq_ref, lst_ref, tyD, lkW, lkA, lkD, ptW, ptA, ptD, i_non_int, i_non_bool, i_non_str, i_non_tuple, i_non_list, i_bl_int, i_bl_bool, i_bl_str, i_bl_tuple, i_bl_list, i_int_int, i_int_bool, i_int_str, i_int_tuple, i_int_list, i_str_int, i_str_bool, i_str_str, i_str_tuple, i_str_list, i_tup_int, i_tup_bool, i_tup_str, i_tup_tuple, i_tup_list, i_rol_int, i_rol_bool, i_rol_str, i_rol_tuple, i_rol_list, lm_next_is, lm_due, lm_taken, lm_opened, lm_closed, lm_ended, lm_goes_on, lm_names, lm_kind_pairs, lm_name_pairs, lm_value_pairs, lm_values, lm_kind_parts, lm_kind, lm_value, lm_part, lm_parts, lm_turn, lm_piece, lm_path])
section
variable {C C2 a p q r : Addr} {ds xs ys : List D} {h : Hp3} {Q : VK3} {E : XK3}
theorem FOk.leaf {D : Nat} {m0 m : Int} {L : List (List Nat × Kd)} {w : List Nat} {k : Kd} (f : FOk D m0 m L) (ho : k.ok) (hk : Kd.leaf k) (hD : 1 ≤ D) : FOk D m0 m (L ++ [(w, k)]) := by
  have e1 : k.size = 1 ∧ k.dep = 1 := by cases k <;> simp_all [Kd.leaf, Kd.size, Kd.dep]
  exact f.snoc (m' := m) ⟨ho, by omega, by omega, by omega⟩
def spRowsL (n : Nat) : Sp3 := fun ds h Q _ => ∃ (p r : Addr) (c m : Int) (deep : Nat), (ds = [.ref p, .int (deep : Int), .ref r]) ∧ p ≠ r ∧ h p = some (.lst [.int c]) ∧ h r = some (.lst [.int m]) ∧ 3 ≤ deep ∧ deep ≤ n + 1 ∧ ∀ (c' m' : Int) (k : Kd), GoodR deep m m' k → Q k.enc (H2 h p c' r m')
def bRows (n : Nat) (E : XK3) : TS3 := (tSeq3 (tAsg3 (tCall3 spNumL (fun _ => E) (tCons3 (tVar3 0) tNil3)) (gName3 7))
    (tSeq3 (tIfS3 (tB3 (tOp3 eq3 (tCall3 spDigit (fun _ => E) (tCons3 (tVar3 0) (tCons3 (tC3 (.int 2)) tNil3))) (tC3 (.int 1)))) (tAsg3 (tTup3 (tCons3 (tC3 (.str "text")) (tCons3 (tCall3 spDigit (fun _ => E) (tCons3 (tVar3 0) (tCons3 (tC3 (.int 4)) tNil3))) tNil3))) (gName3 7)) tNext3)
    (tSeq3 (tIfS3 (tB3 (tOp3 ne3 (tVar3 6) (tVar3 4))) (tAsg3 (tCall3 (spKindL n) (fun _ => E) (tCons3 (tVar3 0) (tCons3 (tOp3 sub3 (tVar3 1) (tC3 (.int 2))) (tCons3 (tVar3 2) tNil3)))) (gName3 7)) tNext3)
    (tDrop3 (tBM3 "list" append3 (tVar3 5) (tCons3 (tTup3 (tCons3 (tVar3 6) (tCons3 (tVar3 7) tNil3))) tNil3))))))
/-- one field of a row: drawn leaf, or any kind -/
theorem rows_turn {n deep : Nat} {B : Hp3} {p r y : Addr} {c m : Int} {w key : List Nat} {L : List D} {s3 s7 : Option D} (Dn : Ends3) (npr : p ≠ r) (ny1 : y ≠ p) (ny2 : y ≠ r) (hd : 3 ≤ deep) (hdn : deep ≤ n + 1) (hy : B y = some (.lst L)) (hl : L.length < 100)
    (k : ∀ (c' m' : Int) (kd : Kd) (s7 : Option D), Good (deep - 2) m m' kd → (w = key → Kd.isKey kd = true) → Dn.nx [some (.ref p), some (.int (deep : Int)), some (.ref r), s3, some (.str (T key)), some (.ref y), some (.str (T w)), s7] (H2 (upd3 B y (.lst (L ++ [.tup [.str (T w), kd.enc]]))) p c' r m')) :
    bRows n (endX E) Dn [some (.ref p), some (.int (deep : Int)), some (.ref r), s3, some (.str (T key)), some (.ref y), some (.str (T w)), s7] (H2 B p c r m) := by
  have zl := sizeLine_eq
  unfold bRows
  walk_at "sem0"
  refine ⟨p, c, rfl, H2_p npr, fun c1 lo hi hno => ?_⟩
  rw [H2_RW npr]
  refine ⟨p, c1, 2, rfl, H2_p npr, by decide, by decide +kernel, ?_⟩
  rw [H2_advp npr]
  generalize c1 / 2 = c2
  generalize c1 % 2 = d2
  -- behind the leaf
  have tail : ∀ (leaf : Kd) (c3 : Int), leaf.ok → Kd.isKey leaf = true → (tSeq3 (tIfS3 (tB3 (tOp3 ne3 (tVar3 6) (tVar3 4))) (tAsg3 (tCall3 (spKindL n) (fun _ => endX E) (tCons3 (tVar3 0) (tCons3 (tOp3 sub3 (tVar3 1) (tC3 (.int 2))) (tCons3 (tVar3 2) tNil3)))) (gName3 7)) tNext3)
      (tDrop3 (tBM3 "list" append3 (tVar3 5) (tCons3 (tTup3 (tCons3 (tVar3 6) (tCons3 (tVar3 7) tNil3))) tNil3)))) Dn [some (.ref p), some (.int (deep : Int)), some (.ref r), s3, some (.str (T key)), some (.ref y), some (.str (T w)), some leaf.enc] (H2 B p c3 r m) := by
    intro leaf c3 ho hk
    have hby : ∀ c m, H2 B p c r m y = some (.lst L) := fun c m => (H2_o ny1 ny2).trans hy
    have hlf : Kd.leaf leaf := by cases leaf <;> first | trivial | (cases hk)
    have e1 : leaf.size = 1 ∧ leaf.dep = 1 := by cases leaf <;> simp_all [Kd.leaf, Kd.size, Kd.dep]
    by_cases z : w = key
    · have e0 : decide (T w = T key) = true := decide_eq_true (by rw [z])
      walk_at "sem0"
      rw [e0]
      walk_at "sem0"
      refine ⟨⟨_, hby _ _⟩, by omega, _, hby _ _, by omega, ?_⟩
      rw [H2_up ny1 ny2]
      exact k c3 m leaf _ ⟨ho, by omega, by omega, by omega⟩ (fun _ => hk)
    · have e0 : decide (T w = T key) = false := decide_eq_false (by rw [T_inj]; exact z)
      walk_at "sem0"
      rw [e0]
      walk_at "sem0"
      refine ⟨p, r, c3, m, deep - 2, by rw [show ((deep - 2 : Nat) : Int) = (deep : Int) - 2 by omega], npr, H2_p npr, H2_r, by omega, by omega, fun c' m' k2 g => ?_⟩
      rw [H2_H2 npr]
      refine ⟨⟨_, hby _ _⟩, by omega, _, hby _ _, by omega, ?_⟩
      rw [H2_up ny1 ny2]
      exact k c' m' k2 _ g (fun e => (z e).elim)
  by_cases z : d2 = 1
  · subst z
    walk_at "sem0"
    refine ⟨p, c2, 4, rfl, H2_p npr, by decide, by decide +kernel, ?_⟩
    rw [H2_advp npr]
    have b := emod_b c2 (m := 4) (by decide)
    have := tail (.text (c2 % 4)) (c2 / 4) (by simp only [Kd.ok]; omega) rfl
    simp only [Kd.enc] at this
    revert this
    walk_at "sem0"
    intro this
    exact ⟨by omega, this⟩
  · have e1 : decide (d2 = 1) = false := decide_eq_false z
    walk_at "sem0"
    rw [e1]
    have := tail (.number lo hi) c2 hno rfl
    revert this
    walk_at "sem0"
    exact id
theorem sem_law_rows_kind (n : Nat) (s : spRowsL n ds h Q E) : r__law_rows_kind spDigit (spKindL n) spNumL spNamesL (endX E) (endsOf Q) (start3 ["row", "deep", "room", "names", "key", "fields", "name", "inner"] ds) h := by
  obtain ⟨p, r, c, m, deep, rfl, npr, hp, hr, hd2, hdn, q0⟩ := s
  have zl := sizeLine_eq
  unfold r__law_rows_kind
  rw [← H2_self hp hr]
  walk_at "sem0"
  refine ⟨p, c, 3, rfl, H2_p npr, by decide, by decide +kernel, ?_⟩
  rw [H2_advp npr]
  obtain ⟨v, hv, ev⟩ := mod_nat (c := c) (m := 3) (by decide)
  rw [show c % (3 : Int) = (v : Int) from ev]
  generalize c / 3 = c1
  walk_at "sem0"
  rw [show (1 : Int) + (v : Int) = ((1 + v : Nat) : Int) by omega]
  refine ⟨p, c1, 1 + v, rfl, H2_p npr, by omega, fun c2 ws x hn ha hl nx => ?_⟩
  obtain ⟨nx1, nx2, nx3⟩ := H2_none nx
  rw [H2_RW npr, H2_up nx1 nx2]
  have hx : ∀ (c m : Int) (o : O3), H2 (upd3 h x o) p c r m x = some o := fun c m o => (H2_o nx1 nx2).trans upd3_same
  have sl : (strD ws).length = 1 + v := by simp [strD, hl]
  walk_at "sem0"
  refine ⟨_, hx _ _ _, ?_⟩
  rw [sl]
  refine ⟨p, c2, ((1 + v : Nat) : Int), rfl, H2_p npr, by omega, ?_, ?_⟩
  · have : (((1 + v : Nat) : Int)).natAbs = 1 + v := rfl
    rw [this]
    exact Nat.lt_of_le_of_lt (Nat.log2_le_self _) (by omega)
  rw [H2_advp npr]
  obtain ⟨j, hj, ej⟩ := mod_nat (c := c2) (m := 1 + v) (by omega)
  rw [ej]
  generalize c2 / ((1 + v : Nat) : Int) = c3
  walk_at "sem0"
  refine ⟨_, hx _ _ _, ?_⟩
  have hjw : ws[j]? = some ws[j] := List.getElem?_eq_getElem (by omega)
  generalize hkey : ws[j] = key at hjw
  refine ⟨.str (T key), L3.atI_nat (by simp [strD, hjw]), by omega, fun y ny => ?_⟩
  obtain ⟨ny1, ny2, ny3⟩ := H2_none ny
  rw [H2_up ny1 ny2]
  have nyx : x ≠ y := ne_of_none upd3_same ny3
  have ny4 : h y = none := sub_of_none ny3
  have hkm : key ∈ ws := by rw [← hkey]; exact List.getElem_mem _
  have hx2 : ∀ (c m : Int) (o o2 : O3), H2 (upd3 (upd3 h x o) y o2) p c r m x = some o := fun c m o o2 => (H2_o nx1 nx2).trans (by rw [upd3_ne nyx, upd3_same])
  refine ⟨_, hx2 _ _ _ _, ?_⟩
  have loop : ∀ (rest : List (List Nat)) (L : List (List Nat × Kd)) (c m1 : Int) (s6 s7 : Option D) (Dn : Ends3), FOk (deep - 2) m m1 L → (∀ z ∈ L, z.1 = key → Kd.isKey z.2 = true) → L.map (·.1) ++ rest = ws → L.length + rest.length ≤ 8 →
      (∀ (L2 : List (List Nat × Kd)) (c m2 : Int) (s6 s7 : Option D), FOk (deep - 2) m m2 L2 → (∀ z ∈ L2, z.1 = key → Kd.isKey z.2 = true) → L2.map (·.1) = ws → Dn.nx [some (.ref p), some (.int (deep : Int)), some (.ref r), some (.ref x), some (.str (T key)), some (.ref y), s6, s7] (H2 (upd3 (upd3 h x (.lst (strD ws))) y (.lst (L2.map encK))) p c r m2)) →
      for3 (fun h_1 => h_1 x = some (.lst (strD ws))) (gName3 6) (bRows n (endX E)) Dn (strD rest) [some (.ref p), some (.int (deep : Int)), some (.ref r), some (.ref x), some (.str (T key)), some (.ref y), s6, s7] (H2 (upd3 (upd3 h x (.lst (strD ws))) y (.lst (L.map encK))) p c r m1) := by
    intro rest
    induction rest with
    | nil =>
      intro L c m1 s6 s7 Dn f hk e hl k
      refine ⟨hx2 _ _ _ _, k L c m1 s6 s7 f hk (by simpa using e)⟩
    | cons w rest ih =>
      intro L c m1 s6 s7 Dn f hk e hl k
      refine ⟨hx2 _ _ _ _, ?_⟩
      rw [e_name]
      refine rows_turn _ npr ny1 ny2 hd2 hdn (w := w) upd3_same (by simp at hl ⊢; omega) fun c' m' kd s7' g hg => ?_
      have := ih (L ++ [(w, kd)]) c' m' (some (.str (T w))) s7' Dn (f.snoc g) (fun z hz ez => by
        rcases List.mem_append.mp hz with hz | hz
        · exact hk z hz ez
        · rw [List.mem_singleton.mp hz] at ez ⊢
          exact hg ez) (by rw [← e]; simp) (by simp at hl ⊢; omega) k
      rw [upd3_upd3]
      simpa [encK, strD] using this
  refine loop ws [] c3 m none none _ FOk.nil (fun _ hz => (nomatch hz)) rfl (by simp; omega) fun L2 c9 m2 s6 s7 f hk e => ?_
  have hy : ∀ c m, H2 (upd3 (upd3 h x (.lst (strD ws))) y (.lst (L2.map encK))) p c r m y = some (.lst (L2.map encK)) := fun c m => (H2_o ny1 ny2).trans upd3_same
  have hll : L2.length = ws.length := by rw [← e]; simp
  walk_at "sem0"
  refine ⟨_, hy _ _, by omega, p, c9, 9, rfl, H2_p npr, by decide, by decide +kernel, ?_⟩
  rw [H2_advp npr]
  have b := emod_b c9 (m := 9) (by decide)
  refine ⟨by omega, ends_rt2 (H2_sub (sub_fresh ny4 (sub_upd nx3))) ?_⟩
  have h1 := f.size
  have h2 := f.le
  have := q0 (c9 / 9) m2 (.rows key (.record (Kds.ofL L2)) (c9 % 9)) ⟨by
      simp only [Kd.ok]
      have := rec_ok f (by rw [e]; exact hn) (by rw [e]; exact ha) (by omega)
      simp only [Kd.ok] at this
      refine ⟨this, by omega, by omega, rfl, ?_⟩
      rw [← e] at hkm
      obtain ⟨z, hz, ez⟩ := List.mem_map.mp hkm
      exact ⟨z, by simp only [Kd.fields, toL_ofL]; exact hz, ez, hk z hz ez⟩, by
      have := ofL_dep f.dep
      simp only [Kd.dep]
      omega, by
      simp only [Kd.size, ofL_size]
      omega, f.le⟩
  simp only [Kd.enc, ofL_enc] at this
  exact this
end
end O85

end F_M17

section F_M18
/-! M18: kinds drawn; streams. -/
namespace O85
open PySem PySem.Spec PyProof.Rows L2 L3 Old
local macro_rules
  | `(tactic| walk_at "sem") => `(tactic| simp only [↓e_next, ↓e_seq, ↓e_brk, ↓e_cont, ↓e_drop, ↓e_ret, ↓e_retN, ↓e_if, ↓e_asg, ↓e_par, ↓e_for, ↓e_raise, ↓e_sfld, ↓e_name, ↓e_gnil, ↓e_gcons, ↓e_gtup, ↓e_gsub, ↓e_setL, ↓e_var, ↓e_c, ↓e_op, ↓e_neg, ↓e_andV, ↓e_orV, ↓e_notV, ↓e_ifE, ↓e_chain, ↓e_chain4, ↓e_tup, ↓e_lst, ↓e_ixD, ↓e_inD, ↓e_sl, ↓e_noPart, ↓e_part, ↓e_cb, ↓e_cl, ↓e_joinL, ↓e_new, ↓e_lc, ↓e_bm, ↓e_bm0, ↓e_call, ↓e_meth, ↓e_fld, ↓e_make, ↓e_isN, ↓e_lenSet, ↓e_nil, ↓e_cons, ↓e_b, ↓e_and, ↓e_or, ↓e_not, ↓e_yes, ↓e_seqI, ↓e_rng1, ↓e_rng2, ↓e_addI, ↓e_addS, ↓e_addT, ↓e_addR, ↓e_sub, ↓e_div, ↓e_mod, ↓e_pow, ↓e_mulI, ↓e_mulS, ↓e_ltI, ↓e_leI, ↓e_gtI, ↓e_geI, ↓e_leS, ↓e_eqI, ↓e_eqS, ↓e_neI, ↓e_neS, ↓e_inC, ↓e_isN3, ↓e_ixT, ↓e_ixRo, ↓e_ixR, ↓e_lenS, ↓e_lenT, ↓e_lenRo, ↓e_lenR, ↓e_intI, ↓e_intB, ↓e_intS, ↓e_strI, ↓e_tupR, ↓e_minI, ↓e_maxI, ↓e_app, ↓e_rev, ↓e_join, ↓e_find3, start3, List.map_cons, List.map_nil, List.length_cons, List.length_nil, List.cons_append, List.nil_append, List.replicate, List.getElem?_cons_zero, List.getElem?_cons_succ, List.set_cons_zero, List.set_cons_succ, Nat.reduceAdd, Nat.reduceSub, Nat.zero_add, atI0, atI1, atI2, atI3, Option.some.injEq, if_true, Bool.false_eq_true, if_false, Bool.not_true, Bool.not_false, ofS_inj, String.reduceEq, decide_true, decide_false, exists_and_left, exists_eq_left', exists_eq_left, O3.ins.injEq, O3.lst.injEq, eq_self, true_and, and_true, ↓reduceIte, exists_const, exists_eq, exists_eq', and_self, Bool.xor_false, Bool.false_xor, Bool.true_xor, seq_ref, lst_ref, tyD, lkW, lkA, lkD, ptW, ptA, ptD, i_non_int, i_non_bool, i_non_str, i_non_tuple, i_non_list, i_bl_int, i_bl_bool, i_bl_str, i_bl_tuple, i_bl_list, i_int_int, i_int_bool, i_int_str, i_int_tuple, i_int_list, i_str_int, i_str_bool, i_str_str, i_str_tuple, i_str_list, i_tup_int, i_tup_bool, i_tup_str, i_tup_tuple, i_tup_list, i_rol_int, i_rol_bool, i_rol_str, i_rol_tuple, i_rol_list, lm_next_is, lm_due, lm_taken, lm_opened, lm_closed, lm_ended, lm_goes_on, lm_names, lm_kind_pairs, lm_name_pairs, lm_value_pairs, lm_values, lm_kind_parts, lm_kind, lm_value, lm_part, lm_parts, lm_turn, lm_piece, lm_path, *])
  | `(tactic| walk_at "sem0") => `(tactic| simp only [↓e_next, ↓e_seq, ↓e_brk, ↓e_cont, ↓e_drop, ↓e_ret, ↓e_retN, ↓e_if, ↓e_asg, ↓e_par, ↓e_for, ↓e_raise, ↓e_sfld, ↓e_name, ↓e_gnil, ↓e_gcons, ↓e_gtup, ↓e_gsub, ↓e_setL, ↓e_var, ↓e_c, ↓e_op, ↓e_neg, ↓e_andV, ↓e_orV, ↓e_notV, ↓e_ifE, ↓e_chain, ↓e_chain4, ↓e_tup, ↓e_lst, ↓e_ixD, ↓e_inD, ↓e_sl, ↓e_noPart, ↓e_part, ↓e_cb, ↓e_cl, ↓e_joinL, ↓e_new, ↓e_lc, ↓e_bm, ↓e_bm0, ↓e_call, ↓e_meth, ↓e_fld, ↓e_make, ↓e_isN, ↓e_lenSet, ↓e_nil, ↓e_cons, ↓e_b, ↓e_and, ↓e_or, ↓e_not, ↓e_yes, ↓e_seqI, ↓e_rng1, ↓e_rng2, ↓e_addI, ↓e_addS, ↓e_addT, ↓e_addR, ↓e_sub, ↓e_div, ↓e_mod, ↓e_pow, ↓e_mulI, ↓e_mulS, ↓e_ltI, ↓e_leI, ↓e_gtI, ↓e_geI, ↓e_leS, ↓e_eqI, ↓e_eqS, ↓e_neI, ↓e_neS, ↓e_inC, ↓e_isN3, ↓e_ixT, ↓e_ixRo, ↓e_ixR, ↓e_lenS, ↓e_lenT, ↓e_lenRo, ↓e_lenR, ↓e_intI, ↓e_intB, ↓e_intS, ↓e_strI, ↓e_tupR, ↓e_minI, ↓e_maxI, ↓e_app, ↓e_rev, ↓e_join, ↓e_find3, start3, List.map_cons, List.map_nil, List.length_cons, List.length_nil, List.cons_append, List.nil_append, List.replicate, List.getElem?_cons_zero, List.getElem?_cons_succ, List.set_cons_zero, List.set_cons_succ, Nat.reduceAdd, Nat.reduceSub, Nat.zero_add, atI0, atI1, atI2, atI3, Option.some.injEq, if_true, Bool.false_eq_true, if_false, Bool.not_true, Bool.not_false, ofS_inj, String.reduceEq, decide_true, decide_false, exists_and_left, exists_eq_left', exists_eq_left, O3.ins.injEq, O3.lst.injEq, eq_self, true_and, and_true, ↓reduceIte, exists_const, exists_eq, exists_eq', and_self, Bool.xor_false, Bool.false_xor, Bool.true_xor, seq_ref, lst_ref, tyD, lkW, lkA, lkD, ptW, ptA, ptD, i_non_int, i_non_bool, i_non_str, i_non_tuple, i_non_list, i_bl_int, i_bl_bool, i_bl_str, i_bl_tuple, i_bl_list, i_int_int, i_int_bool, i_int_str, i_int_tuple, i_int_list, i_str_int, i_str_bool, i_str_str, i_str_tuple, i_str_list, i_tup_int, i_tup_bool, i_tup_str, i_tup_tuple, i_tup_list, i_rol_int, i_rol_bool, i_rol_str, i_rol_tuple, i_rol_list, lm_next_is, lm_due, lm_taken, lm_opened, lm_closed, lm_ended, lm_goes_on, lm_names, lm_kind_pairs, lm_name_pairs, lm_value_pairs, lm_values, lm_kind_parts, lm_kind, lm_value, lm_part, lm_parts, lm_turn, lm_piece, lm_path])
section
variable {C C2 a p q r : Addr} {ds xs ys : List D} {h : Hp3} {Q : VK3} {E : XK3}
theorem leaf_sd {k : Kd} (h : Kd.leaf k) : k.size = 1 ∧ k.dep = 1 := by
  cases k <;> simp_all [Kd.leaf, Kd.size, Kd.dep]
theorem sem_law_kind (n : Nat) (s : spKindL (n + 1) ds h Q E) : r__law_kind (spRecL n) (spRowsL n) spDigit (spKindL n) spLeafL (endX E) (endsOf Q) (start3 ["row", "deep", "room", "way"] ds) h := by
  obtain ⟨p, r, c, m, deep, rfl, npr, hp, hr, hd1, hdn, q0⟩ := s
  have zl := sizeLine_eq
  unfold r__law_kind
  rw [← H2_self hp hr]
  walk_at "sem0"
  refine ⟨p, c, 6, rfl, H2_p npr, by decide, by decide +kernel, ?_⟩
  rw [H2_advp npr]
  obtain ⟨w, hw, ew⟩ := mod_nat (c := c) (m := 6) (by decide)
  rw [show c % (6 : Int) = (w : Int) from ew]
  generalize c / 6 = c1
  walk_at "sem0"
  refine ⟨_, H2_r, .int m, atI0, ?_⟩
  walk_at "sem0"
  refine ⟨_, H2_r, 0, rfl, ?_⟩
  rw [show ([D.int m].set 0 (.int (m - 5))) = [.int (m - 5)] from rfl, H2_advr]
  have hle := left_le (m := m)
  -- a leaf
  have lf : spLeafL [.ref p] (H2 h p c1 r (m - 5)) (endsOf Q).rt (endX E) := by
    refine ⟨p, c1, rfl, H2_p npr, fun c' k ho hk => ends_rt ?_⟩
    rw [H2_RW npr]
    have := leaf_sd hk
    exact q0 c' (m - 5) k ⟨ho, by omega, by omega, by omega⟩
  by_cases g1 : (w : Int) < 2
  · rw [decide_eq_true g1]
    exact lf
  rw [decide_eq_false g1]
  by_cases g2 : (deep : Int) < 2
  · walk_at "sem0"
    rw [decide_eq_true g2]
    exact lf
  walk_at "sem0"
  rw [decide_eq_false g2]
  walk_at "sem0"
  refine ⟨_, H2_r, .int (m - 5), atI0, ?_⟩
  walk_at "sem0"
  by_cases g3 : m - 5 < 0
  · rw [decide_eq_true g3]
    exact lf
  rw [decide_eq_false g3]
  walk_at "sem0"
  have hls := left_sub (m := m) (by omega)
  by_cases w2 : (w : Int) = 2
  · rw [decide_eq_true w2]
    walk_at "sem0"
    refine ⟨p, r, c1, m - 5, deep - 1, by rw [show ((deep - 1 : Nat) : Int) = (deep : Int) - 1 by omega], npr, H2_p npr, H2_r, by omega, by omega, fun c' m' k g => ?_⟩
    rw [H2_H2 npr]
    refine ⟨p, c', 9, rfl, H2_p npr, by decide, by decide +kernel, ?_⟩
    rw [H2_advp npr]
    have b := emod_b c' (m := 9) (by decide)
    have g1 := g.dep
    have g2 := g.size
    have g3 := g.le
    refine ⟨by omega, ends_rt ?_⟩
    have := q0 (c' / 9) m' (.list k (c' % 9)) ⟨by simp only [Kd.ok]; exact ⟨g.ok, by omega, by omega⟩, by simp only [Kd.dep]; omega, by simp only [Kd.size]; omega, by omega⟩
    simp only [Kd.enc] at this
    exact this
  rw [decide_eq_false w2]
  walk_at "sem0"
  have hrec : spRecL n [.ref p, .int (deep : Int), .ref r] (H2 h p c1 r (m - 5)) (endsOf Q).rt (endX E) := by
    refine ⟨p, r, c1, m - 5, deep, rfl, npr, H2_p npr, H2_r, by omega, by omega, fun c' m' k g => ends_rt ?_⟩
    rw [H2_H2 npr]
    have g2 := g.size
    have g3 := g.le
    exact q0 c' m' k ⟨g.ok, g.dep, by omega, by omega⟩
  by_cases w3 : (w : Int) = 3
  · rw [decide_eq_true w3]
    walk_at "sem0"
    by_cases d3 : (2 : Int) < (deep : Int)
    · rw [decide_eq_true d3]
      refine ⟨p, r, c1, m - 5, deep, rfl, npr, H2_p npr, H2_r, by omega, by omega, fun c' m' k g => ends_rt ?_⟩
      rw [H2_H2 npr]
      have g2 := g.size
      have g3 := g.le
      exact q0 c' m' k ⟨g.ok, g.dep, by omega, by omega⟩
    · rw [decide_eq_false d3]
      exact hrec
  · rw [decide_eq_false w3]
    exact hrec
/-! the streams -/
theorem ipow_pos : ∀ j : Nat, (0 : Int) < 2147483647 ^ j
  | 0 => by decide
  | j + 1 => by
    have := ipow_pos j
    rw [Int.pow_succ]
    omega
theorem ipow_le {j k : Nat} (h : j ≤ k) : (2147483647 : Int) ^ j ≤ 2147483647 ^ k := by
  obtain ⟨d, rfl⟩ := Nat.exists_eq_add_of_le h
  clear h
  induction d with
  | zero => exact Int.le_refl _
  | succ d ih =>
    have := ipow_pos (j + d)
    rw [← Nat.add_assoc, Int.pow_succ]
    omega
def spCell : Sp3 := fun ds h Q _ => ∃ (ns : List Int) (k : Nat), (ds = [.rol (ns.map D.int), .int (k : Int)]) ∧ ∀ c : Int, Q (.int c) h
theorem sem_law_cell_at (s : spCell ds h Q E) : r__law_cell_at (endX E) (endsOf Q) (start3 ["script", "k"] ds) h := by
  obtain ⟨ns, k, rfl, q⟩ := s
  unfold r__law_cell_at
  walk_at "sem0"
  by_cases z : (k : Int) < ((ns.map D.int).length : Int)
  · rw [decide_eq_true z]
    walk_at "sem0"
    have hk : k < ns.length := by simpa using z
    refine ⟨.int ns[k], L3.atI_nat (by simp [hk]), ends_rt (q _)⟩
  · rw [decide_eq_false z]
    walk_at "sem0"
    exact ends_rt (q _)
def spMixed : Sp3 := fun ds h Q _ => ∃ (c : Int) (k : Nat), (ds = [.int c, .int (k : Int)]) ∧ k < 100000 ∧ ∀ v : Int, 0 ≤ v → v < 2147483647 → Q (.int v) h
theorem mulw {x y : Int} {i j : Nat} (hx : x.natAbs < 2 ^ i) (hy : y.natAbs < 2 ^ j) (hij : i + j < 900000) : CMulW x y := by
  unfold CMulW
  have a1 : x.natAbs.log2 ≤ i := by
    by_cases z : x.natAbs = 0
    · rw [z]; simp
    · exact Nat.le_of_lt ((Nat.log2_lt z).mpr hx)
  have a2 : y.natAbs.log2 ≤ j := by
    by_cases z : y.natAbs = 0
    · rw [z]; simp
    · exact Nat.le_of_lt ((Nat.log2_lt z).mpr hy)
  omega
theorem sem_law_mixed (s : spMixed ds h Q E) : r__law_mixed (endX E) (endsOf Q) (start3 ["cell", "k", "stir"] ds) h := by
  obtain ⟨c, k, rfl, hk, q⟩ := s
  have b1 := emod_b c (m := 1000000007) (by decide)
  unfold r__law_mixed
  walk_at "sem0"
  refine ⟨by decide, mulw (i := 13) (j := 17) (by decide) (by have : k < 2 ^ 17 := Nat.lt_trans hk (by decide); simpa using this) (by decide), ?_⟩
  generalize hs : c % 1000000007 + 7919 * (k : Int) + 1 = s1
  have h1 : s1.natAbs < 2 ^ 40 := by omega
  refine ⟨mulw (i := 40) (j := 16) h1 (by decide) (by decide), by decide, ?_⟩
  have b2 := emod_b (s1 * 48271) (m := 2147483647) (by decide)
  generalize s1 * 48271 % 2147483647 = s2 at *
  have h2 : s2.natAbs < 2 ^ 31 := by omega
  refine ⟨mulw (i := 31) (j := 31) h2 h2 (by decide), by decide, ?_⟩
  have b3 := emod_b (s2 * s2) (m := 2147483629) (by decide)
  generalize s2 * s2 % 2147483629 = s3 at *
  have h3 : s3.natAbs < 2 ^ 31 := by omega
  refine ⟨mulw (i := 31) (j := 17) h3 (by decide) (by decide), by decide, ?_⟩
  have b4 := emod_b (s3 * 69621) (m := 2147483647) (by decide)
  exact ends_rt (q _ b4.1 b4.2)
def spOwn : Sp3 := fun ds h Q _ => ∃ (ns : List Int) (k t : Nat), (ds = [.rol (ns.map D.int), .int (k : Int), .int (t : Int)]) ∧ k < 20 ∧ t < 20 ∧ ∀ (c : Int) (p : Addr), h p = none → Q (.ref p) (upd3 h p (.lst [.int c]))
def bOwn (E : XK3) : TS3 := (tAsg3 (tOp3 add3 (tOp3 mul3 (tVar3 4) (tC3 (.int 2147483647))) (tCall3 spMixed (fun _ => E) (tCons3 (tOp3 add3 (tOp3 add3 (tOp3 mod3 (tCB3 sum3 (tCons3 (tVar3 0) tNil3)) (tOp3 pow3 (tC3 (.int 10)) (tC3 (.int 60)))) (tVar3 3)) (tVar3 1)) (tCons3 (tOp3 add3 (tOp3 add3 (tOp3 mul3 (tC3 (.int 400)) (tVar3 1)) (tOp3 mul3 (tC3 (.int 40)) (tVar3 2))) (tVar3 5)) tNil3)))) (gName3 4))
theorem sem_law_own (s : spOwn ds h Q E) : r__law_own spMixed spCell (endX E) (endsOf Q) (start3 ["script", "k", "turn", "cell", "found", "j"] ds) h := by
  obtain ⟨ns, k, t, rfl, hk, ht, q⟩ := s
  have zl := sizeLine_eq
  have cp : CPow 10 60 := by unfold CPow; decide
  have cp2 : CPow 10 18 := by unfold CPow; decide
  unfold r__law_own
  walk_at "sem0"
  refine ⟨ns, k, rfl, fun cell => ?_⟩
  refine ⟨by decide, by decide, ?_⟩
  have loop : ∀ (i j : Nat) (f : Int) (sj : Option D) (Dn : Ends3), i + j = 40 → 0 ≤ f → f < 2147483647 ^ j →
      (∀ (f : Int) (sj : Option D), 0 ≤ f → f < 2147483647 ^ 40 → Dn.nx [some (.rol (ns.map D.int)), some (.int (k : Int)), some (.int (t : Int)), some (.int cell), some (.int f), sj] h) →
      for3 (fun _ => True) (gName3 5) (bOwn (endX E)) Dn (((List.range' j i).map fun (i : Nat) => D.int (0 + (i : Int)))) [some (.rol (ns.map D.int)), some (.int (k : Int)), some (.int (t : Int)), some (.int cell), some (.int f), sj] h := by
    intro i
    induction i with
    | zero =>
      intro j f sj Dn e f0 f1 k
      refine ⟨trivial, k f sj f0 ?_⟩
      have : j = 40 := by omega
      rw [← this]
      exact f1
    | succ i ih =>
      intro j f sj Dn e f0 f1 kk
      rw [List.range'_succ, List.map_cons]
      refine ⟨trivial, ?_⟩
      rw [e_name]
      have hfb : f.natAbs < 2 ^ (31 * 40) := by
        have a1 : (2147483647 : Int) ^ j ≤ 2147483647 ^ 40 := ipow_le (show j ≤ 40 by omega)
        have a2 : (2147483647 : Int) ^ 40 ≤ 2 ^ (31 * 40) := by decide +kernel
        have a3 : f < 2 ^ (31 * 40) := by omega
        have a4 : ((f.natAbs : Nat) : Int) = f := by omega
        have a5 : ((2 ^ (31 * 40) : Nat) : Int) = 2 ^ (31 * 40) := by decide +kernel
        omega
      unfold bOwn
      walk_at "sem0"
      refine ⟨mulw (i := 31 * 40) (j := 31) hfb (by decide) (by decide), ns, rfl, ?_⟩
      walk_at "sem0"
      refine ⟨cp, by decide +kernel, mulw (i := 9) (j := 17) (by decide) (by have : k < 2 ^ 17 := Nat.lt_trans hk (by decide); simpa using this) (by decide), mulw (i := 6) (j := 17) (by decide) (by have : t < 2 ^ 17 := Nat.lt_trans ht (by decide); simpa using this) (by decide), ?_⟩
      refine ⟨_, 400 * k + 40 * t + j, by rw [show (400 * (k : Int) + 40 * (t : Int) + (0 + (j : Int))) = ((400 * k + 40 * t + j : Nat) : Int) by omega], by omega, fun v v0 v1 => ?_⟩
      refine ih (j + 1) _ _ Dn (by omega) (by omega) ?_ kk
      rw [Int.pow_succ]
      have : (f + 1) * 2147483647 ≤ 2147483647 ^ j * 2147483647 := Int.mul_le_mul_of_nonneg_right (by omega) (by decide)
      omega
  have hr : rng 0 (40 : Int).toNat = (List.range' 0 40).map fun (i : Nat) => D.int (0 + (i : Int)) := by
    unfold rng
    rw [List.range_eq_range']
    rfl
  rw [hr]
  refine loop 40 0 0 none _ rfl (by decide) (by decide) fun f sj f0 f1 => ?_
  have hf8 : (f / 8).natAbs < 2 ^ 1300 := by
    have a1 : f / 8 ≤ f := by omega
    have a2 : (2147483647 : Int) ^ 40 ≤ 2 ^ 1300 := by decide +kernel
    have a4 : (((f / 8).natAbs : Nat) : Int) = f / 8 := by omega
    have a5 : ((2 ^ 1300 : Nat) : Int) = 2 ^ 1300 := by decide +kernel
    omega
  have cd : CDivW f 8 := by unfold CDivW; exact ⟨by decide, by decide +kernel⟩
  walk_at "sem0"
  refine ⟨cp2, ?_⟩
  by_cases z1 : (10 : Int) ^ (18 : Int).toNat ≤ cell
  · rw [decide_eq_true z1]
    walk_at "sem0"
    by_cases z2 : (t : Int) = 0
    · rw [decide_eq_true z2]
      walk_at "sem0"
      refine ⟨cp, by decide +kernel, cd, cp, mulw (i := 1300) (j := 300) hf8 (by decide +kernel) (by decide), by omega, fun p np => ends_rt (q _ p np)⟩
    · rw [decide_eq_false z2]
      walk_at "sem0"
      exact ⟨cd, by omega, fun p np => ends_rt (q _ p np)⟩
  · rw [decide_eq_false z1]
    walk_at "sem0"
    exact ⟨cd, by omega, fun p np => ends_rt (q _ p np)⟩
end
end O85

end F_M18

section F_M19
/-! M19: words. -/
namespace O85
open PySem PySem.Spec PyProof.Rows L2 L3 Old
local macro_rules
  | `(tactic| walk_at "sem") => `(tactic| simp only [↓e_next, ↓e_seq, ↓e_brk, ↓e_cont, ↓e_drop, ↓e_ret, ↓e_retN, ↓e_if, ↓e_asg, ↓e_par, ↓e_for, ↓e_raise, ↓e_sfld, ↓e_name, ↓e_gnil, ↓e_gcons, ↓e_gtup, ↓e_gsub, ↓e_setL, ↓e_var, ↓e_c, ↓e_op, ↓e_neg, ↓e_andV, ↓e_orV, ↓e_notV, ↓e_ifE, ↓e_chain, ↓e_chain4, ↓e_tup, ↓e_lst, ↓e_ixD, ↓e_inD, ↓e_sl, ↓e_noPart, ↓e_part, ↓e_cb, ↓e_cl, ↓e_joinL, ↓e_new, ↓e_lc, ↓e_bm, ↓e_bm0, ↓e_call, ↓e_meth, ↓e_fld, ↓e_make, ↓e_isN, ↓e_lenSet, ↓e_nil, ↓e_cons, ↓e_b, ↓e_and, ↓e_or, ↓e_not, ↓e_yes, ↓e_seqI, ↓e_rng1, ↓e_rng2, ↓e_addI, ↓e_addS, ↓e_addT, ↓e_addR, ↓e_sub, ↓e_div, ↓e_mod, ↓e_pow, ↓e_mulI, ↓e_mulS, ↓e_ltI, ↓e_leI, ↓e_gtI, ↓e_geI, ↓e_leS, ↓e_eqI, ↓e_eqS, ↓e_neI, ↓e_neS, ↓e_inC, ↓e_isN3, ↓e_ixT, ↓e_ixRo, ↓e_ixR, ↓e_lenS, ↓e_lenT, ↓e_lenRo, ↓e_lenR, ↓e_intI, ↓e_intB, ↓e_intS, ↓e_strI, ↓e_tupR, ↓e_minI, ↓e_maxI, ↓e_app, ↓e_rev, ↓e_join, ↓e_find3, start3, List.map_cons, List.map_nil, List.length_cons, List.length_nil, List.cons_append, List.nil_append, List.replicate, List.getElem?_cons_zero, List.getElem?_cons_succ, List.set_cons_zero, List.set_cons_succ, Nat.reduceAdd, Nat.reduceSub, Nat.zero_add, atI0, atI1, atI2, atI3, Option.some.injEq, if_true, Bool.false_eq_true, if_false, Bool.not_true, Bool.not_false, ofS_inj, String.reduceEq, decide_true, decide_false, exists_and_left, exists_eq_left', exists_eq_left, O3.ins.injEq, O3.lst.injEq, eq_self, true_and, and_true, ↓reduceIte, exists_const, exists_eq, exists_eq', and_self, Bool.xor_false, Bool.false_xor, Bool.true_xor, seq_ref, lst_ref, tyD, lkW, lkA, lkD, ptW, ptA, ptD, i_non_int, i_non_bool, i_non_str, i_non_tuple, i_non_list, i_bl_int, i_bl_bool, i_bl_str, i_bl_tuple, i_bl_list, i_int_int, i_int_bool, i_int_str, i_int_tuple, i_int_list, i_str_int, i_str_bool, i_str_str, i_str_tuple, i_str_list, i_tup_int, i_tup_bool, i_tup_str, i_tup_tuple, i_tup_list, i_rol_int, i_rol_bool, i_rol_str, i_rol_tuple, i_rol_list, lm_next_is, lm_due, lm_taken, lm_opened, lm_closed, lm_ended, lm_goes_on, lm_names, lm_kind_pairs, lm_name_pairs, lm_value_pairs, lm_values, lm_kind_parts, lm_kind, lm_value, lm_part, lm_parts, lm_turn, lm_piece, lm_path, *])
  | `(tactic| walk_at "sem0") => `(tactic| simp only [↓e_next, ↓e_seq, ↓e_brk, ↓e_cont, ↓e_drop, ↓e_ret, ↓e_retN, ↓e_if, ↓e_asg, ↓e_par, ↓e_for, ↓e_raise, ↓e_sfld, ↓e_name, ↓e_gnil, ↓e_gcons, ↓e_gtup, ↓e_gsub, ↓e_setL, ↓e_var, ↓e_c, ↓e_op, ↓e_neg, ↓e_andV, ↓e_orV, ↓e_notV, ↓e_ifE, ↓e_chain, ↓e_chain4, ↓e_tup, ↓e_lst, ↓e_ixD, ↓e_inD, ↓e_sl, ↓e_noPart, ↓e_part, ↓e_cb, ↓e_cl, ↓e_joinL, ↓e_new, ↓e_lc, ↓e_bm, ↓e_bm0, ↓e_call, ↓e_meth, ↓e_fld, ↓e_make, ↓e_isN, ↓e_lenSet, ↓e_nil, ↓e_cons, ↓e_b, ↓e_and, ↓e_or, ↓e_not, ↓e_yes, ↓e_seqI, ↓e_rng1, ↓e_rng2, ↓e_addI, ↓e_addS, ↓e_addT, ↓e_addR, ↓e_sub, ↓e_div, ↓e_mod, ↓e_pow, ↓e_mulI, ↓e_mulS, ↓e_ltI, ↓e_leI, ↓e_gtI, ↓e_geI, ↓e_leS, ↓e_eqI, ↓e_eqS, ↓e_neI, ↓e_neS, ↓e_inC, ↓e_isN3, ↓e_ixT, ↓e_ixRo, ↓e_ixR, ↓e_lenS, ↓e_lenT, ↓e_lenRo, ↓e_lenR, ↓e_intI, ↓e_intB, ↓e_intS, ↓e_strI, ↓e_tupR, ↓e_minI, ↓e_maxI, ↓e_app, ↓e_rev, ↓e_join, ↓e_find3, start3, List.map_cons, List.map_nil, List.length_cons, List.length_nil, List.cons_append, List.nil_append, List.replicate, List.getElem?_cons_zero, List.getElem?_cons_succ, List.set_cons_zero, List.set_cons_succ, Nat.reduceAdd, Nat.reduceSub, Nat.zero_add, atI0, atI1, atI2, atI3, Option.some.injEq, if_true, Bool.false_eq_true, if_false, Bool.not_true, Bool.not_false, ofS_inj, String.reduceEq, decide_true, decide_false, exists_and_left, exists_eq_left', exists_eq_left, O3.ins.injEq, O3.lst.injEq, eq_self, true_and, and_true, ↓reduceIte, exists_const, exists_eq, exists_eq', and_self, Bool.xor_false, Bool.false_xor, Bool.true_xor, seq_ref, lst_ref, tyD, lkW, lkA, lkD, ptW, ptA, ptD, i_non_int, i_non_bool, i_non_str, i_non_tuple, i_non_list, i_bl_int, i_bl_bool, i_bl_str, i_bl_tuple, i_bl_list, i_int_int, i_int_bool, i_int_str, i_int_tuple, i_int_list, i_str_int, i_str_bool, i_str_str, i_str_tuple, i_str_list, i_tup_int, i_tup_bool, i_tup_str, i_tup_tuple, i_tup_list, i_rol_int, i_rol_bool, i_rol_str, i_rol_tuple, i_rol_list, lm_next_is, lm_due, lm_taken, lm_opened, lm_closed, lm_ended, lm_goes_on, lm_names, lm_kind_pairs, lm_name_pairs, lm_value_pairs, lm_values, lm_kind_parts, lm_kind, lm_value, lm_part, lm_parts, lm_turn, lm_piece, lm_path])
mutual
/-- a kind's words, as the law tells them -/
def Kd.ws : Kd → List (List Nat)
  | .number lo hi => wNumber :: [40] :: (sepBy [[44]] [[intL lo], [intL hi]] ++ [[41]])
  | .text n => wText :: [40] :: (sepBy [[44]] [[intL n]] ++ [[41]])
  | .choice vs => wChoice :: [40] :: (sepBy [[44]] (vs.map fun v => [v]) ++ [[41]])
  | .list k n => wList :: [40] :: (sepBy [[44]] [[intL n], Kd.ws k] ++ [[41]])
  | .record fs => wRecord :: [40] :: (sepBy [[44]] (Kds.wss fs) ++ [[41]])
  | .rows key k n => wRows :: [40] :: (sepBy [[44]] [[key], [intL n], Kd.ws k] ++ [[41]])
def Kds.wss : Kds → List (List (List Nat))
  | .nil => []
  | .cons n k r => (n :: [58] :: Kd.ws k) :: Kds.wss r
end
theorem Kds.wss_map : ∀ fs : Kds, Kds.wss fs = fs.toL.map fun y => y.1 :: [58] :: Kd.ws y.2
  | .nil => by simp [Kds.wss, Kds.toL]
  | .cons n k r => by simp [Kds.wss, Kds.toL, Kds.wss_map r]
def Kd.items : Kd → List (List (List Nat))
  | .number lo hi => [[intL lo], [intL hi]]
  | .text n => [[intL n]]
  | .choice vs => vs.map fun v => [v]
  | .list k n => [[intL n], Kd.ws k]
  | .record fs => Kds.wss fs
  | .rows key k n => [[key], [intL n], Kd.ws k]
theorem ws_items (k : Kd) : Kd.ws k = k.wordK :: [40] :: (sepBy [[44]] (Kd.items k) ++ [[41]]) := by
  cases k <;> simp only [Kd.ws, Kd.items, Kd.wordK]
/-- .. each with a comma behind -/
def trail (xs : List (List (List Nat))) : List (List Nat) := xs.flatMap fun x => x ++ [[44]]
theorem trail_sep : ∀ (x : List (List Nat)) (r : List (List (List Nat))), trail (x :: r) = sepBy [[44]] (x :: r) ++ [[44]]
  | x, [] => by simp [trail, sepBy]
  | x, y :: r => by
    have := trail_sep y r
    simp only [trail, List.flatMap_cons] at this ⊢
    rw [this]
    simp [sepBy]
theorem sD_app {a b : List (List Nat)} : strD (a ++ b) = strD a ++ strD b := by simp [strD]
theorem sD_len {a : List (List Nat)} : (strD a).length = a.length := by simp [strD]
section
variable {C C2 a p q r : Addr} {ds xs ys : List D} {h : Hp3} {Q : VK3} {E : XK3}
theorem add_lists {A B : List D} {q : Addr} (hp : h p = some (.lst A)) (nq : h q = none) (hl : A.length + B.length ≤ sizeLine) (k : ∀ (r : Addr) (h2 : Hp3), Sub3 h h2 → h2 r = some (.lst (A ++ B)) → Q (.ref r) h2) : add3 (.ref p) (.ref q) (upd3 h q (.lst B)) Q := by
  rw [e_addR]
  exact ⟨A, B, by rw [upd3_ne (ne_of_none hp nq)]; exact hp, upd3_same, hl, fun r nr => k r _ ((sub_upd nq).trans (sub_upd nr)) upd3_same⟩
def spWds (n : Nat) : Sp3 := fun ds h Q _ => ∃ k : Kd, (ds = [k.enc]) ∧ k.dep ≤ n ∧ k.nums ∧ (Kd.ws k).length ≤ 1000000 ∧ ∀ p, h p = none → Q (.ref p) (upd3 h p (.lst (strD (Kd.ws k))))
/-- words = words + [..] -/
theorem tick_disp {h : Hp3} {p : Addr} {A B : List D} (hp : h p = some (.lst A)) (hl : A.length + B.length ≤ 4000000) (k : ∀ (r : Addr) (h2 : Hp3), Sub3 h h2 → h2 r = some (.lst (A ++ B)) → Q (.ref r) h2) : B.length ≤ sizeLine ∧ ∀ q, h q = none → add3 (.ref p) (.ref q) (upd3 h q (.lst B)) Q := by
  have zl := sizeLine_eq
  exact ⟨by omega, fun q nq => add_lists hp nq (by omega) k⟩
/-- words + [..] + the words of one + [,] -/
theorem tick_all {n : Nat} {h : Hp3} {p : Addr} {A B : List D} {k : Kd} {E2 : XK3} (hp : h p = some (.lst A)) (hk : k.dep ≤ n) (hn : k.nums) (hw : (Kd.ws k).length ≤ 1000000) (hl : A.length + B.length + (Kd.ws k).length + 1 ≤ 3000000)
    (kk : ∀ (r : Addr) (h2 : Hp3), Sub3 h h2 → h2 r = some (.lst (A ++ B ++ strD (Kd.ws k) ++ [.str (Str.ofString ",")])) → Q (.ref r) h2) :
    B.length ≤ sizeLine ∧ ∀ q, h q = none → add3 (.ref p) (.ref q) (upd3 h q (.lst B)) fun x h1 => spWds n [k.enc] h1 (fun y h2 => add3 x y h2 fun x h3 => 1 ≤ sizeLine ∧ ∀ q, h3 q = none → add3 x (.ref q) (upd3 h3 q (.lst [.str (Str.ofString ",")])) Q) E2 := by
  have zl := sizeLine_eq
  refine tick_disp hp (by omega) fun r1 h1 s1 e1 => ?_
  refine ⟨k, rfl, hk, hn, hw, fun q nq => ?_⟩
  refine add_lists e1 nq (by simp [sD_len]; omega) fun r2 h2 s2 e2 => ?_
  refine tick_disp (B := [.str (Str.ofString ",")]) e2 (by simp [sD_len]; omega) fun r3 h3 s3 e3 => kk r3 h3 ((s1.trans s2).trans s3) e3
theorem at_last {ds : List D} {d : D} : atI (ds ++ [d]) (-1) = some d := by
  unfold atI ixN
  simp
  rw [if_pos (by omega), show (-1 + ((ds.length : Int) + 1)).toNat = ds.length by omega]
  simp
theorem cut_last {ds : List D} {d : D} : L3.cutD (ds ++ [d]) none (some (-1)) = ds := by
  unfold L3.cutD
  have : HT.sIx (ds ++ [d]).length (ds ++ [d]).length (some (-1)) = ds.length := by
    show (if (-1 : Int) < 0 then (-1 + ((ds ++ [d]).length : Int)).toNat else min (-1 : Int).toNat (ds ++ [d]).length) = _
    rw [if_pos (by decide)]
    simp
    omega
  rw [this, HT.sIx_none]
  simp
/-- the law's end: the last comma away, the bracket behind -/
theorem words_end {h h2 : Hp3} {p : Addr} {k : Kd} {kd wd s3 s4 s5 : Option D} (s : Sub3 h h2) (hp : h2 p = some (.lst (strD (k.wordK :: [40] :: trail (Kd.items k))))) (hw : (Kd.ws k).length ≤ 1000000)
    (q : ∀ p, h p = none → Q (.ref p) (upd3 h p (.lst (strD (Kd.ws k))))) :
    (tSeq3 (tIfS3 (tB3 (tOp3 eq3 (tOp3 ix3 (tVar3 2) (neg3 (tC3 (.int 1)))) (tC3 (.str ",")))) (tAsg3 (tSl3 (tVar3 2) tNoPart3 (tPart3 (neg3 (tC3 (.int 1))))) (gName3 2)) tNext3)
    (tRet3 (tOp3 add3 (tVar3 2) (tLst3 (tCons3 (tC3 (.str ")")) tNil3))))) (endsOf Q) [kd, wd, some (.ref p), s3, s4, s5] h2 := by
  have zl := sizeLine_eq
  have fin : ∀ (r : Addr) (h3 : Hp3), Sub3 h h3 → h3 r = some (.lst (strD (k.wordK :: [40] :: sepBy [[44]] (Kd.items k)))) → 1 ≤ sizeLine ∧ ∀ q, h3 q = none → add3 (.ref r) (.ref q) (upd3 h3 q (.lst [.str (Str.ofString ")")])) (endsOf Q).rt := by
    intro r h3 s3 e3
    refine ⟨by omega, fun q2 nq => ?_⟩
    rw [e_addR]
    have hlw : (Kd.ws k).length = (k.wordK :: [40] :: sepBy [[44]] (Kd.items k)).length + 1 := by rw [ws_items]; simp
    refine ⟨_, _, by rw [upd3_ne (ne_of_none e3 nq)]; exact e3, upd3_same, by rw [sD_len]; simp only [List.length_cons, List.length_nil]; simp only [List.length_cons] at hlw; omega, fun r4 n4 => ?_⟩
    have n5 : h r4 = none := by
      cases e : h r4 with
      | none => rfl
      | some o =>
        have := sub_upd (o := .lst [.str (Str.ofString ")")]) nq _ _ (s3 _ _ e)
        rw [n4] at this
        cases this
    refine ends_rt2 (Sub3.upd (s3.trans (sub_upd nq))) ?_
    have := q r4 n5
    rw [ws_items] at this
    rw [show strD (k.wordK :: [40] :: sepBy [[44]] (Kd.items k)) ++ [.str (Str.ofString ")")] = strD (k.wordK :: [40] :: (sepBy [[44]] (Kd.items k) ++ [[41]])) by rw [lit_cl]; simp [strD]]
    exact this
  cases hi : Kd.items k with
  | nil =>
    rw [hi] at hp fin
    have e1 : strD (k.wordK :: [40] :: trail []) = strD [k.wordK] ++ [.str (T [40])] := by simp [strD, trail]
    have e2 : decide (T [40] = Str.ofString ",") = false := by decide
    have e3 : h2 p = some (.lst (strD [k.wordK] ++ [.str (T [40])])) := by rw [hp, e1]
    walk_at "sem0"
    refine ⟨_, e3, _, at_last, ?_⟩
    walk_at "sem0"
    rw [e2]
    have f2 := fin p h2 s (by rw [hp]; rfl)
    revert f2
    walk_at "sem0"
    exact id
  | cons x r =>
    rw [hi] at hp fin
    have e1 : strD (k.wordK :: [40] :: trail (x :: r)) = strD (k.wordK :: [40] :: sepBy [[44]] (x :: r)) ++ [.str (T [44])] := by rw [trail_sep]; simp [strD]
    have e2 : decide (T [44] = Str.ofString ",") = true := by decide
    have e3 : h2 p = some (.lst (strD (k.wordK :: [40] :: sepBy [[44]] (x :: r)) ++ [.str (T [44])])) := by rw [hp, e1]
    walk_at "sem0"
    refine ⟨_, e3, _, at_last, ?_⟩
    walk_at "sem0"
    rw [e2]
    refine ⟨_, e3, fun r2 n2 => ?_⟩
    rw [cut_last]
    have f2 := fin r2 _ (s.trans (sub_upd n2)) upd3_same
    revert f2
    walk_at "sem0"
    exact id
end
end O85

end F_M19

section F_M20
/-! M20: words. -/
namespace O85
open PySem PySem.Spec PyProof.Rows L2 L3 Old
local macro_rules
  | `(tactic| walk_at "sem") => `(tactic| simp only [↓e_next, ↓e_seq, ↓e_brk, ↓e_cont, ↓e_drop, ↓e_ret, ↓e_retN, ↓e_if, ↓e_asg, ↓e_par, ↓e_for, ↓e_raise, ↓e_sfld, ↓e_name, ↓e_gnil, ↓e_gcons, ↓e_gtup, ↓e_gsub, ↓e_setL, ↓e_var, ↓e_c, ↓e_op, ↓e_neg, ↓e_andV, ↓e_orV, ↓e_notV, ↓e_ifE, ↓e_chain, ↓e_chain4, ↓e_tup, ↓e_lst, ↓e_ixD, ↓e_inD, ↓e_sl, ↓e_noPart, ↓e_part, ↓e_cb, ↓e_cl, ↓e_joinL, ↓e_new, ↓e_lc, ↓e_bm, ↓e_bm0, ↓e_call, ↓e_meth, ↓e_fld, ↓e_make, ↓e_isN, ↓e_lenSet, ↓e_nil, ↓e_cons, ↓e_b, ↓e_and, ↓e_or, ↓e_not, ↓e_yes, ↓e_seqI, ↓e_rng1, ↓e_rng2, ↓e_addI, ↓e_addS, ↓e_addT, ↓e_addR, ↓e_sub, ↓e_div, ↓e_mod, ↓e_pow, ↓e_mulI, ↓e_mulS, ↓e_ltI, ↓e_leI, ↓e_gtI, ↓e_geI, ↓e_leS, ↓e_eqI, ↓e_eqS, ↓e_neI, ↓e_neS, ↓e_inC, ↓e_isN3, ↓e_ixT, ↓e_ixRo, ↓e_ixR, ↓e_lenS, ↓e_lenT, ↓e_lenRo, ↓e_lenR, ↓e_intI, ↓e_intB, ↓e_intS, ↓e_strI, ↓e_tupR, ↓e_minI, ↓e_maxI, ↓e_app, ↓e_rev, ↓e_join, ↓e_find3, start3, List.map_cons, List.map_nil, List.length_cons, List.length_nil, List.cons_append, List.nil_append, List.replicate, List.getElem?_cons_zero, List.getElem?_cons_succ, List.set_cons_zero, List.set_cons_succ, Nat.reduceAdd, Nat.reduceSub, Nat.zero_add, atI0, atI1, atI2, atI3, Option.some.injEq, if_true, Bool.false_eq_true, if_false, Bool.not_true, Bool.not_false, ofS_inj, String.reduceEq, decide_true, decide_false, exists_and_left, exists_eq_left', exists_eq_left, O3.ins.injEq, O3.lst.injEq, eq_self, true_and, and_true, ↓reduceIte, exists_const, exists_eq, exists_eq', and_self, Bool.xor_false, Bool.false_xor, Bool.true_xor, seq_ref, lst_ref, tyD, lkW, lkA, lkD, ptW, ptA, ptD, i_non_int, i_non_bool, i_non_str, i_non_tuple, i_non_list, i_bl_int, i_bl_bool, i_bl_str, i_bl_tuple, i_bl_list, i_int_int, i_int_bool, i_int_str, i_int_tuple, i_int_list, i_str_int, i_str_bool, i_str_str, i_str_tuple, i_str_list, i_tup_int, i_tup_bool, i_tup_str, i_tup_tuple, i_tup_list, i_rol_int, i_rol_bool, i_rol_str, i_rol_tuple, i_rol_list, lm_next_is, lm_due, lm_taken, lm_opened, lm_closed, lm_ended, lm_goes_on, lm_names, lm_kind_pairs, lm_name_pairs, lm_value_pairs, lm_values, lm_kind_parts, lm_kind, lm_value, lm_part, lm_parts, lm_turn, lm_piece, lm_path, *])
  | `(tactic| walk_at "sem0") => `(tactic| simp only [↓e_next, ↓e_seq, ↓e_brk, ↓e_cont, ↓e_drop, ↓e_ret, ↓e_retN, ↓e_if, ↓e_asg, ↓e_par, ↓e_for, ↓e_raise, ↓e_sfld, ↓e_name, ↓e_gnil, ↓e_gcons, ↓e_gtup, ↓e_gsub, ↓e_setL, ↓e_var, ↓e_c, ↓e_op, ↓e_neg, ↓e_andV, ↓e_orV, ↓e_notV, ↓e_ifE, ↓e_chain, ↓e_chain4, ↓e_tup, ↓e_lst, ↓e_ixD, ↓e_inD, ↓e_sl, ↓e_noPart, ↓e_part, ↓e_cb, ↓e_cl, ↓e_joinL, ↓e_new, ↓e_lc, ↓e_bm, ↓e_bm0, ↓e_call, ↓e_meth, ↓e_fld, ↓e_make, ↓e_isN, ↓e_lenSet, ↓e_nil, ↓e_cons, ↓e_b, ↓e_and, ↓e_or, ↓e_not, ↓e_yes, ↓e_seqI, ↓e_rng1, ↓e_rng2, ↓e_addI, ↓e_addS, ↓e_addT, ↓e_addR, ↓e_sub, ↓e_div, ↓e_mod, ↓e_pow, ↓e_mulI, ↓e_mulS, ↓e_ltI, ↓e_leI, ↓e_gtI, ↓e_geI, ↓e_leS, ↓e_eqI, ↓e_eqS, ↓e_neI, ↓e_neS, ↓e_inC, ↓e_isN3, ↓e_ixT, ↓e_ixRo, ↓e_ixR, ↓e_lenS, ↓e_lenT, ↓e_lenRo, ↓e_lenR, ↓e_intI, ↓e_intB, ↓e_intS, ↓e_strI, ↓e_tupR, ↓e_minI, ↓e_maxI, ↓e_app, ↓e_rev, ↓e_join, ↓e_find3, start3, List.map_cons, List.map_nil, List.length_cons, List.length_nil, List.cons_append, List.nil_append, List.replicate, List.getElem?_cons_zero, List.getElem?_cons_succ, List.set_cons_zero, List.set_cons_succ, Nat.reduceAdd, Nat.reduceSub, Nat.zero_add, atI0, atI1, atI2, atI3, Option.some.injEq, if_true, Bool.false_eq_true, if_false, Bool.not_true, Bool.not_false, ofS_inj, String.reduceEq, decide_true, decide_false, exists_and_left, exists_eq_left', exists_eq_left, O3.ins.injEq, O3.lst.injEq, eq_self, true_and, and_true, ↓reduceIte, exists_const, exists_eq, exists_eq', and_self, Bool.xor_false, Bool.false_xor, Bool.true_xor, seq_ref, lst_ref, tyD, lkW, lkA, lkD, ptW, ptA, ptD, i_non_int, i_non_bool, i_non_str, i_non_tuple, i_non_list, i_bl_int, i_bl_bool, i_bl_str, i_bl_tuple, i_bl_list, i_int_int, i_int_bool, i_int_str, i_int_tuple, i_int_list, i_str_int, i_str_bool, i_str_str, i_str_tuple, i_str_list, i_tup_int, i_tup_bool, i_tup_str, i_tup_tuple, i_tup_list, i_rol_int, i_rol_bool, i_rol_str, i_rol_tuple, i_rol_list, lm_next_is, lm_due, lm_taken, lm_opened, lm_closed, lm_ended, lm_goes_on, lm_names, lm_kind_pairs, lm_name_pairs, lm_value_pairs, lm_values, lm_kind_parts, lm_kind, lm_value, lm_part, lm_parts, lm_turn, lm_piece, lm_path])
section
variable {C C2 a p q r : Addr} {ds xs ys : List D} {h : Hp3} {Q : VK3} {E : XK3}
theorem trail_len (x : List (List (List Nat))) : (trail x).length = (x.map fun y => y.length + 1).sum := by
  induction x with
  | nil => rfl
  | cons y r ih =>
    simp only [trail, List.flatMap_cons, List.length_append, List.map_cons, List.sum_cons] at ih ⊢
    rw [ih]
    simp
theorem trail_snoc (x : List (List (List Nat))) (y : List (List Nat)) : trail (x ++ [y]) = trail x ++ (y ++ [[44]]) := by simp [trail]
/-- the items' words, each with a comma, are not many more than the kind's -/
theorem trail_ws (k : Kd) : (trail (Kd.items k)).length ≤ (Kd.ws k).length := by
  rw [ws_items]
  cases hi : Kd.items k with
  | nil => simp [trail]
  | cons x r =>
    rw [trail_sep]
    simp
theorem item_mem {k : Kd} {x : List (List Nat)} (h : x ∈ Kd.items k) : x.length + 1 ≤ (trail (Kd.items k)).length := by
  rw [trail_len]
  exact mem_le_sum (List.mem_map_of_mem (f := fun y : List (List Nat) => y.length + 1) h)
def bWR (n : Nat) (E : XK3) : TS3 := (tAsg3 (tOp3 add3 (tOp3 add3 (tOp3 add3 (tVar3 2) (tLst3 (tCons3 (tVar3 3) (tCons3 (tC3 (.str ":")) tNil3)))) (tCall3 (spWds n) (fun _ => E) (tCons3 (tVar3 4) tNil3))) (tLst3 (tCons3 (tC3 (.str ",")) tNil3))) (gName3 2))
def bWC : TS3 := (tAsg3 (tOp3 add3 (tVar3 2) (tLst3 (tCons3 (tVar3 3) (tCons3 (tC3 (.str ",")) tNil3)))) (gName3 2))
def bWN : TS3 := (tAsg3 (tOp3 add3 (tVar3 2) (tLst3 (tCons3 (tCB3 str3 (tCons3 (tVar3 5) tNil3)) (tCons3 (tC3 (.str ",")) tNil3)))) (gName3 2))
theorem w_rec {n : Nat} {h0 : Hp3} {kd wd : Option D} (W : List (List Nat)) (hW : W.length ≤ 10) (Dn : Ends3) : ∀ (L : List (List Nat × Kd)) (done : List (List (List Nat))) (h : Hp3) (p : Addr) (s3 s4 s5 : Option D), (∀ y ∈ L, y.2.dep ≤ n ∧ y.2.nums ∧ (Kd.ws y.2).length ≤ 1000000) → (trail (done ++ L.map fun y => y.1 :: [58] :: Kd.ws y.2)).length ≤ 1500000 → Sub3 h0 h → h p = some (.lst (strD (W ++ trail done))) →
    (∀ (h : Hp3) (p : Addr) (s3 s4 s5 : Option D), Sub3 h0 h → h p = some (.lst (strD (W ++ trail (done ++ L.map fun y => y.1 :: [58] :: Kd.ws y.2)))) → Dn.nx [kd, wd, some (.ref p), s3, s4, s5] h) →
    for3 (fun _ => True) (gTup3 2 (gCons3 (gName3 3) (gCons3 (gName3 4) gNil3))) (bWR n (endX E)) Dn (L.map encK) [kd, wd, some (.ref p), s3, s4, s5] h := by
  intro L
  induction L with
  | nil => intro done h p s3 s4 s5 _ _ s e k; exact ⟨trivial, k h p s3 s4 s5 s (by simpa using e)⟩
  | cons y L ih =>
    intro done h p s3 s4 s5 hk hl s e k
    obtain ⟨k1, k2, k3⟩ := hk y List.mem_cons_self
    refine ⟨trivial, ?_⟩
    have hl2 : (trail (done ++ [y.1 :: [58] :: Kd.ws y.2])).length ≤ 1500000 := by
      rw [trail_len] at hl ⊢
      simp only [List.map_append, List.sum_append, List.map_cons, List.sum_cons, List.map_nil, List.sum_nil] at hl ⊢
      omega
    simp only [encK]
    unfold bWR
    walk_at "sem0"
    have hA : (strD (W ++ trail done)).length + 2 + (Kd.ws y.2).length + 1 ≤ 3000000 := by
      rw [trail_snoc] at hl2
      simp only [sD_len, List.length_append, List.length_cons, List.length_nil] at hl2 ⊢
      omega
    have ta := tick_all (n := n) (E2 := endX E) (Q := fun x h1 => for3 (fun _ => True) (gTup3 2 (gCons3 (gName3 3) (gCons3 (gName3 4) gNil3))) (bWR n (endX E)) Dn (L.map encK) [kd, wd, some x, some (.str (T y.1)), some y.2.enc, s5] h1) (B := [.str (T y.1), .str (Str.ofString ":")]) (k := y.2) e k1 k2 k3 hA (fun r h2 s2 e2 => by
      refine ih (done ++ [y.1 :: [58] :: Kd.ws y.2]) h2 r _ _ _ (fun z hz => hk z (List.mem_cons_of_mem _ hz)) (by simpa using hl) (s.trans s2) ?_ (fun h p s3 s4 s5 a b => k h p s3 s4 s5 a (by simpa using b))
      rw [e2, trail_snoc, lit_colon, lit_comma]
      simp [strD])
    revert ta
    unfold bWR
    walk_at "sem0"
    exact id
theorem w_cho {h0 : Hp3} {kd wd : Option D} (W : List (List Nat)) (hW : W.length ≤ 10) (Dn : Ends3) : ∀ (L : List (List Nat)) (done : List (List (List Nat))) (h : Hp3) (p : Addr) (s3 s4 s5 : Option D), (trail (done ++ L.map fun v => [v])).length ≤ 1500000 → Sub3 h0 h → h p = some (.lst (strD (W ++ trail done))) →
    (∀ (h : Hp3) (p : Addr) (s3 s4 s5 : Option D), Sub3 h0 h → h p = some (.lst (strD (W ++ trail (done ++ L.map fun v => [v])))) → Dn.nx [kd, wd, some (.ref p), s3, s4, s5] h) →
    for3 (fun _ => True) (gName3 3) bWC Dn (strD L) [kd, wd, some (.ref p), s3, s4, s5] h := by
  intro L
  induction L with
  | nil => intro done h p s3 s4 s5 _ s e k; exact ⟨trivial, k h p s3 s4 s5 s (by simpa using e)⟩
  | cons y L ih =>
    intro done h p s3 s4 s5 hl s e k
    refine ⟨trivial, ?_⟩
    have hl2 : (trail (done ++ [[y]])).length ≤ 1500000 := by
      rw [trail_len] at hl ⊢
      simp only [List.map_append, List.sum_append, List.map_cons, List.sum_cons, List.map_nil, List.sum_nil] at hl ⊢
      omega
    rw [e_name]
    unfold bWC
    walk_at "sem0"
    have hA : (strD (W ++ trail done)).length + 2 ≤ 4000000 := by
      rw [trail_snoc] at hl2
      simp only [sD_len, List.length_append, List.length_cons, List.length_nil] at hl2 ⊢
      omega
    have ta := tick_disp (Q := fun x h1 => for3 (fun _ => True) (gName3 3) bWC Dn (strD L) [kd, wd, some x, some (.str (T y)), s4, s5] h1) (B := [.str (T y), .str (Str.ofString ",")]) e hA (fun r h2 s2 e2 => by
      refine ih (done ++ [[y]]) h2 r _ _ _ (by simpa using hl) (s.trans s2) ?_ (fun h p s3 s4 s5 a b => k h p s3 s4 s5 a (by simpa using b))
      rw [e2, trail_snoc, lit_comma]
      simp [strD])
    revert ta
    unfold bWC
    walk_at "sem0"
    exact id
theorem w_num {h0 : Hp3} {kd wd : Option D} (W : List (List Nat)) (hW : W.length ≤ 10) (Dn : Ends3) : ∀ (L : List Int) (done : List (List (List Nat))) (h : Hp3) (p : Addr) (s3 s4 s5 : Option D), (∀ i ∈ L, NumOk i) → (trail (done ++ L.map fun v => [intL v])).length ≤ 1500000 → Sub3 h0 h → h p = some (.lst (strD (W ++ trail done))) →
    (∀ (h : Hp3) (p : Addr) (s3 s4 s5 : Option D), Sub3 h0 h → h p = some (.lst (strD (W ++ trail (done ++ L.map fun v => [intL v])))) → Dn.nx [kd, wd, some (.ref p), s3, s4, s5] h) →
    for3 (fun _ => True) (gName3 5) bWN Dn (L.map D.int) [kd, wd, some (.ref p), s3, s4, s5] h := by
  intro L
  induction L with
  | nil => intro done h p s3 s4 s5 _ _ s e k; exact ⟨trivial, k h p s3 s4 s5 s (by simpa using e)⟩
  | cons y L ih =>
    intro done h p s3 s4 s5 hn hl s e k
    refine ⟨trivial, ?_⟩
    have hl2 : (trail (done ++ [[intL y]])).length ≤ 1500000 := by
      rw [trail_len] at hl ⊢
      simp only [List.map_append, List.sum_append, List.map_cons, List.sum_cons, List.map_nil, List.sum_nil] at hl ⊢
      omega
    rw [e_name]
    have hny := hn y List.mem_cons_self
    unfold NumOk at hny
    unfold bWN
    walk_at "sem0"
    have hA : (strD (W ++ trail done)).length + 2 ≤ 4000000 := by
      rw [trail_snoc] at hl2
      simp only [sD_len, List.length_append, List.length_cons, List.length_nil] at hl2 ⊢
      omega
    have ta := tick_disp (Q := fun x h1 => for3 (fun _ => True) (gName3 5) bWN Dn (L.map D.int) [kd, wd, some x, s3, s4, some (.int y)] h1) (B := [.str (Str.ofString (toString y)), .str (Str.ofString ",")]) e hA (fun r h2 s2 e2 => by
      refine ih (done ++ [[intL y]]) h2 r _ _ _ (fun i hi => hn i (List.mem_cons_of_mem _ hi)) (by simpa using hl) (s.trans s2) ?_ (fun h p s3 s4 s5 a b => k h p s3 s4 s5 a (by simpa using b))
      rw [e2, trail_snoc, lit_comma, intL_T]
      simp [strD])
    revert ta
    unfold bWN
    walk_at "sem0"
    exact fun t => ⟨hny, t⟩
theorem sem_law_kind_words (n : Nat) (s : spWds (n + 1) ds h Q E) : r__law_kind_words (spWds n) (endX E) (endsOf Q) (start3 ["kind", "word", "words", "name", "inner", "number"] ds) h := by
  obtain ⟨k, rfl, hd, hn, hw, q⟩ := s
  have zl := sizeLine_eq
  have ht := trail_ws k
  have h0 : ∀ p, h p = none → Sub3 h (upd3 h p (.lst (strD [k.wordK, [40]]))) := fun p np => sub_upd np
  have ew : ∀ p : Addr, upd3 h p (.lst [.str (T k.wordK), .str (Str.ofString "(")]) = upd3 h p (.lst (strD [k.wordK, [40]])) := fun p => by rw [lit_op]; rfl
  unfold r__law_kind_words
  cases k with
  | number lo hi =>
    simp only [Kd.nums] at hn
    simp only [Kd.enc]
    walk_at "sem0"
    refine ⟨by omega, fun p np => ?_⟩
    have := w_num (h0 := h) (kd := some (.tup [.str (Str.ofString "number"), .int lo, .int hi])) (wd := some (.str (Str.ofString "number"))) [wNumber, [40]] (by decide) { nx := (tSeq3 (tIfS3 (tB3 (tOp3 eq3 (tOp3 ix3 (tVar3 2) (neg3 (tC3 (.int 1)))) (tC3 (.str ",")))) (tAsg3 (tSl3 (tVar3 2) tNoPart3 (tPart3 (neg3 (tC3 (.int 1))))) (gName3 2)) tNext3) (tRet3 (tOp3 add3 (tVar3 2) (tLst3 (tCons3 (tC3 (.str ")")) tNil3))))) (endsOf Q), rt := (endsOf Q).rt, bk := (endsOf Q).bk, ct := (endsOf Q).ct } [lo, hi] [] _ p none none none (fun i hi => by
        simp only [List.mem_cons, List.not_mem_nil, or_false] at hi
        rcases hi with rfl | rfl
        · exact hn.1
        · exact hn.2) (by simp only [Kd.items] at ht; exact Nat.le_trans ht (by omega)) (sub_upd np) upd3_same (fun h2 p2 s3 s4 s5 s2 e2 => words_end (k := .number lo hi) s2 e2 hw q)
    exact ⟨fun z => absurd z.1 (show ¬ HT.sIx 3 0 (some 1) = 0 by decide), this⟩
  | text m =>
    simp only [Kd.nums] at hn
    simp only [Kd.enc]
    walk_at "sem0"
    refine ⟨by omega, fun p np => ?_⟩
    have := w_num (h0 := h) (kd := some (.tup [.str (Str.ofString "text"), .int m])) (wd := some (.str (Str.ofString "text"))) [wText, [40]] (by decide) { nx := (tSeq3 (tIfS3 (tB3 (tOp3 eq3 (tOp3 ix3 (tVar3 2) (neg3 (tC3 (.int 1)))) (tC3 (.str ",")))) (tAsg3 (tSl3 (tVar3 2) tNoPart3 (tPart3 (neg3 (tC3 (.int 1))))) (gName3 2)) tNext3) (tRet3 (tOp3 add3 (tVar3 2) (tLst3 (tCons3 (tC3 (.str ")")) tNil3))))) (endsOf Q), rt := (endsOf Q).rt, bk := (endsOf Q).bk, ct := (endsOf Q).ct } [m] [] _ p none none none (fun i hi => by
        rw [List.mem_singleton.mp hi]
        exact hn) (by simp only [Kd.items] at ht; exact Nat.le_trans ht (by omega)) (sub_upd np) upd3_same (fun h2 p2 s3 s4 s5 s2 e2 => words_end (k := .text m) s2 e2 hw q)
    exact ⟨fun z => absurd z.1 (show ¬ HT.sIx 2 0 (some 1) = 0 by decide), this⟩
  | choice vs =>
    simp only [Kd.enc]
    walk_at "sem0"
    refine ⟨by omega, fun p np => ?_⟩
    exact w_cho (h0 := h) [wChoice, [40]] (by decide) _ vs [] _ p none none none (by simp only [Kd.items] at ht; exact Nat.le_trans ht (by omega)) (sub_upd np) upd3_same (fun h2 p2 s3 s4 s5 s2 e2 => words_end (k := .choice vs) s2 e2 hw q)
  | list k m =>
    simp only [Kd.nums, NumOk] at hn
    simp only [Kd.dep] at hd
    have hm := item_mem (k := .list k m) (x := Kd.ws k) (by simp [Kd.items])
    simp only [Kd.enc]
    walk_at "sem0"
    refine ⟨by omega, fun p np => ⟨hn.2, ?_⟩⟩
    have ta := tick_all (n := n) (E2 := endX E) (Q := fun x h1 => (tSeq3 (tIfS3 (tB3 (tOp3 eq3 (tOp3 ix3 (tVar3 2) (neg3 (tC3 (.int 1)))) (tC3 (.str ",")))) (tAsg3 (tSl3 (tVar3 2) tNoPart3 (tPart3 (neg3 (tC3 (.int 1))))) (gName3 2)) tNext3) (tRet3 (tOp3 add3 (tVar3 2) (tLst3 (tCons3 (tC3 (.str ")")) tNil3))))) (endsOf Q) [some (.tup [.str (Str.ofString "list"), k.enc, .int m]), some (.str (Str.ofString "list")), some x, none, none, none] h1) (B := [.str (Str.ofString (toString m)), .str (Str.ofString ",")]) (h := upd3 h p (.lst [.str (Str.ofString "list"), .str (Str.ofString "(")])) upd3_same (by omega : k.dep ≤ n) hn.1 (by omega) (by simp; omega) (fun r h2 s2 e2 => by
      refine words_end (k := .list k m) ((sub_upd np).trans s2) ?_ hw q
      rw [e2, lit_comma, lit_op, intL_T, s_list]
      simp [strD, trail, Kd.items, Kd.wordK])
    revert ta
    walk_at "sem0"
    exact id
  | record fs =>
    simp only [Kd.nums] at hn
    simp only [Kd.dep] at hd
    simp only [Kd.enc]
    walk_at "sem0"
    refine ⟨by omega, fun p np => ?_⟩
    have ee : fs.enc = fs.toL.map encK := by rw [Kds.enc_map]; rfl
    rw [ee]
    have hit : Kd.items (.record fs) = fs.toL.map fun y => y.1 :: [58] :: Kd.ws y.2 := by simp only [Kd.items]; rw [Kds.wss_map]
    refine w_rec (n := n) (h0 := h) [wRecord, [40]] (by decide) _ fs.toL [] _ p none none none (fun y hy => ?_) (by rw [List.nil_append, ← hit]; omega) (sub_upd np) upd3_same (fun h2 p2 s3 s4 s5 s2 e2 => words_end (k := .record fs) s2 (by rw [e2, List.nil_append, ← hit]; rfl) hw q)
    have hm := item_mem (k := .record fs) (x := y.1 :: [58] :: Kd.ws y.2) (by rw [hit]; exact List.mem_map_of_mem hy)
    have := Kds.dep_mem hy
    simp only [List.length_cons] at hm
    exact ⟨by omega, Kds.nums_mem hn hy, by omega⟩
  | rows key k m =>
    simp only [Kd.nums, NumOk] at hn
    simp only [Kd.dep] at hd
    have hm := item_mem (k := .rows key k m) (x := Kd.ws k) (by simp [Kd.items])
    simp only [Kd.enc]
    walk_at "sem0"
    refine ⟨by omega, fun p np => ⟨hn.2, ?_⟩⟩
    have ta := tick_all (n := n) (E2 := endX E) (Q := fun x h1 => (tSeq3 (tIfS3 (tB3 (tOp3 eq3 (tOp3 ix3 (tVar3 2) (neg3 (tC3 (.int 1)))) (tC3 (.str ",")))) (tAsg3 (tSl3 (tVar3 2) tNoPart3 (tPart3 (neg3 (tC3 (.int 1))))) (gName3 2)) tNext3) (tRet3 (tOp3 add3 (tVar3 2) (tLst3 (tCons3 (tC3 (.str ")")) tNil3))))) (endsOf Q) [some (.tup [.str (Str.ofString "rows"), .str (T key), k.enc, .int m]), some (.str (Str.ofString "rows")), some x, none, none, none] h1) (B := [.str (T key), .str (Str.ofString ","), .str (Str.ofString (toString m)), .str (Str.ofString ",")]) (h := upd3 h p (.lst [.str (Str.ofString "rows"), .str (Str.ofString "(")])) upd3_same (by omega : k.dep ≤ n) hn.1 (by omega) (by simp; omega) (fun r h2 s2 e2 => by
      refine words_end (k := .rows key k m) ((sub_upd np).trans s2) ?_ hw q
      rw [e2, lit_comma, lit_op, intL_T, s_rows]
      simp [strD, trail, Kd.items, Kd.wordK])
    revert ta
    walk_at "sem0"
    exact id
end
end O85

end F_M20

section F_M21
/-! M21: tight, loose. -/
namespace O85
open PySem PySem.Spec PyProof.Rows L2 L3 Old
local macro_rules
  | `(tactic| walk_at "sem") => `(tactic| simp only [↓e_next, ↓e_seq, ↓e_brk, ↓e_cont, ↓e_drop, ↓e_ret, ↓e_retN, ↓e_if, ↓e_asg, ↓e_par, ↓e_for, ↓e_raise, ↓e_sfld, ↓e_name, ↓e_gnil, ↓e_gcons, ↓e_gtup, ↓e_gsub, ↓e_setL, ↓e_var, ↓e_c, ↓e_op, ↓e_neg, ↓e_andV, ↓e_orV, ↓e_notV, ↓e_ifE, ↓e_chain, ↓e_chain4, ↓e_tup, ↓e_lst, ↓e_ixD, ↓e_inD, ↓e_sl, ↓e_noPart, ↓e_part, ↓e_cb, ↓e_cl, ↓e_joinL, ↓e_new, ↓e_lc, ↓e_bm, ↓e_bm0, ↓e_call, ↓e_meth, ↓e_fld, ↓e_make, ↓e_isN, ↓e_lenSet, ↓e_nil, ↓e_cons, ↓e_b, ↓e_and, ↓e_or, ↓e_not, ↓e_yes, ↓e_seqI, ↓e_rng1, ↓e_rng2, ↓e_addI, ↓e_addS, ↓e_addT, ↓e_addR, ↓e_sub, ↓e_div, ↓e_mod, ↓e_pow, ↓e_mulI, ↓e_mulS, ↓e_ltI, ↓e_leI, ↓e_gtI, ↓e_geI, ↓e_leS, ↓e_eqI, ↓e_eqS, ↓e_neI, ↓e_neS, ↓e_inC, ↓e_isN3, ↓e_ixT, ↓e_ixRo, ↓e_ixR, ↓e_lenS, ↓e_lenT, ↓e_lenRo, ↓e_lenR, ↓e_intI, ↓e_intB, ↓e_intS, ↓e_strI, ↓e_tupR, ↓e_minI, ↓e_maxI, ↓e_app, ↓e_rev, ↓e_join, ↓e_find3, start3, List.map_cons, List.map_nil, List.length_cons, List.length_nil, List.cons_append, List.nil_append, List.replicate, List.getElem?_cons_zero, List.getElem?_cons_succ, List.set_cons_zero, List.set_cons_succ, Nat.reduceAdd, Nat.reduceSub, Nat.zero_add, atI0, atI1, atI2, atI3, Option.some.injEq, if_true, Bool.false_eq_true, if_false, Bool.not_true, Bool.not_false, ofS_inj, String.reduceEq, decide_true, decide_false, exists_and_left, exists_eq_left', exists_eq_left, O3.ins.injEq, O3.lst.injEq, eq_self, true_and, and_true, ↓reduceIte, exists_const, exists_eq, exists_eq', and_self, Bool.xor_false, Bool.false_xor, Bool.true_xor, seq_ref, lst_ref, tyD, lkW, lkA, lkD, ptW, ptA, ptD, i_non_int, i_non_bool, i_non_str, i_non_tuple, i_non_list, i_bl_int, i_bl_bool, i_bl_str, i_bl_tuple, i_bl_list, i_int_int, i_int_bool, i_int_str, i_int_tuple, i_int_list, i_str_int, i_str_bool, i_str_str, i_str_tuple, i_str_list, i_tup_int, i_tup_bool, i_tup_str, i_tup_tuple, i_tup_list, i_rol_int, i_rol_bool, i_rol_str, i_rol_tuple, i_rol_list, lm_next_is, lm_due, lm_taken, lm_opened, lm_closed, lm_ended, lm_goes_on, lm_names, lm_kind_pairs, lm_name_pairs, lm_value_pairs, lm_values, lm_kind_parts, lm_kind, lm_value, lm_part, lm_parts, lm_turn, lm_piece, lm_path, *])
  | `(tactic| walk_at "sem0") => `(tactic| simp only [↓e_next, ↓e_seq, ↓e_brk, ↓e_cont, ↓e_drop, ↓e_ret, ↓e_retN, ↓e_if, ↓e_asg, ↓e_par, ↓e_for, ↓e_raise, ↓e_sfld, ↓e_name, ↓e_gnil, ↓e_gcons, ↓e_gtup, ↓e_gsub, ↓e_setL, ↓e_var, ↓e_c, ↓e_op, ↓e_neg, ↓e_andV, ↓e_orV, ↓e_notV, ↓e_ifE, ↓e_chain, ↓e_chain4, ↓e_tup, ↓e_lst, ↓e_ixD, ↓e_inD, ↓e_sl, ↓e_noPart, ↓e_part, ↓e_cb, ↓e_cl, ↓e_joinL, ↓e_new, ↓e_lc, ↓e_bm, ↓e_bm0, ↓e_call, ↓e_meth, ↓e_fld, ↓e_make, ↓e_isN, ↓e_lenSet, ↓e_nil, ↓e_cons, ↓e_b, ↓e_and, ↓e_or, ↓e_not, ↓e_yes, ↓e_seqI, ↓e_rng1, ↓e_rng2, ↓e_addI, ↓e_addS, ↓e_addT, ↓e_addR, ↓e_sub, ↓e_div, ↓e_mod, ↓e_pow, ↓e_mulI, ↓e_mulS, ↓e_ltI, ↓e_leI, ↓e_gtI, ↓e_geI, ↓e_leS, ↓e_eqI, ↓e_eqS, ↓e_neI, ↓e_neS, ↓e_inC, ↓e_isN3, ↓e_ixT, ↓e_ixRo, ↓e_ixR, ↓e_lenS, ↓e_lenT, ↓e_lenRo, ↓e_lenR, ↓e_intI, ↓e_intB, ↓e_intS, ↓e_strI, ↓e_tupR, ↓e_minI, ↓e_maxI, ↓e_app, ↓e_rev, ↓e_join, ↓e_find3, start3, List.map_cons, List.map_nil, List.length_cons, List.length_nil, List.cons_append, List.nil_append, List.replicate, List.getElem?_cons_zero, List.getElem?_cons_succ, List.set_cons_zero, List.set_cons_succ, Nat.reduceAdd, Nat.reduceSub, Nat.zero_add, atI0, atI1, atI2, atI3, Option.some.injEq, if_true, Bool.false_eq_true, if_false, Bool.not_true, Bool.not_false, ofS_inj, String.reduceEq, decide_true, decide_false, exists_and_left, exists_eq_left', exists_eq_left, O3.ins.injEq, O3.lst.injEq, eq_self, true_and, and_true, ↓reduceIte, exists_const, exists_eq, exists_eq', and_self, Bool.xor_false, Bool.false_xor, Bool.true_xor, seq_ref, lst_ref, tyD, lkW, lkA, lkD, ptW, ptA, ptD, i_non_int, i_non_bool, i_non_str, i_non_tuple, i_non_list, i_bl_int, i_bl_bool, i_bl_str, i_bl_tuple, i_bl_list, i_int_int, i_int_bool, i_int_str, i_int_tuple, i_int_list, i_str_int, i_str_bool, i_str_str, i_str_tuple, i_str_list, i_tup_int, i_tup_bool, i_tup_str, i_tup_tuple, i_tup_list, i_rol_int, i_rol_bool, i_rol_str, i_rol_tuple, i_rol_list, lm_next_is, lm_due, lm_taken, lm_opened, lm_closed, lm_ended, lm_goes_on, lm_names, lm_kind_pairs, lm_name_pairs, lm_value_pairs, lm_values, lm_kind_parts, lm_kind, lm_value, lm_part, lm_parts, lm_turn, lm_piece, lm_path])
/-- n blanks -/
def blanks (n : Nat) : List Nat := List.replicate n 32
/-- commas, colons, semicolons have a blank behind -/
def pad (w : List Nat) : List Nat := if w = [44] ∨ w = [58] ∨ w = [59] then w ++ [32] else w
def tightL (ws : List (List Nat)) : List Nat := ws.flatMap pad
/-- each word with its blanks behind -/
def looseL (ws : List (List Nat × Nat)) : List Nat := ws.flatMap fun y => y.1 ++ blanks y.2
section
variable {C C2 a p q r : Addr} {ds xs ys : List D} {h : Hp3} {Q : VK3} {E : XK3}
theorem join_nil : ∀ ws : List (List Nat), Str.join (T []) (ws.map T) = T (ws.flatMap fun w => w)
  | [] => rfl
  | [x] => by simp [Str.join]
  | x :: y :: r => by
    show T x ++ T [] ++ Str.join (T []) ((y :: r).map T) = _
    rw [join_nil (y :: r), T_app, T_app]
    simp
theorem mulB {n : Nat} : strMul (T [32]) (n : Int) = T (blanks n) := by
  unfold strMul
  have e : ∀ n : Nat, (List.replicate n [32]).flatten = blanks n := by
    intro n
    induction n with
    | zero => rfl
    | succ n ih =>
      rw [List.replicate_succ, List.flatten_cons, ih]
      rfl
  rw [T_cps, Int.toNat_natCast, e]
  rfl
theorem mulB2 {n : Nat} : strMul (Str.ofString " ") (n : Int) = T (blanks n) := by
  rw [lit_sp]
  exact mulB
def spTight : Sp3 := fun ds h Q _ => ∃ (p : Addr) (ws : List (List Nat)), (ds = [.ref p]) ∧ h p = some (.lst (strD ws)) ∧ (tightL ws).length ≤ 1000000 ∧ ws.length ≤ 1000000 ∧ Q (.str (T (tightL ws))) h
theorem flat_in {w : List Nat} : inD (.str (T w)) [.str (Str.ofString ","), .str (Str.ofString ":"), .str (Str.ofString ";")] = decide (w = [44] ∨ w = [58] ∨ w = [59]) := by
  rw [lit_comma, lit_colon, show Str.ofString ";" = T [59] by decide]
  have e : ∀ x : List Nat, (T x == T w) = decide (w = x) := fun x => by
    by_cases z : w = x
    · rw [z]
      simp
    · rw [decide_eq_false z]
      refine beq_eq_false_iff_ne.mpr fun y => z ?_
      rw [T_inj] at y
      exact y.symm
  show ((T [44] == T w) || ((T [58] == T w) || ((T [59] == T w) || false))) = _
  rw [e, e, e]
  by_cases z1 : w = [44]
  · simp [z1]
  · by_cases z2 : w = [58]
    · simp [z2]
    · by_cases z3 : w = [59] <;> simp [z1, z2, z3]
theorem sem_law_tight (s : spTight ds h Q E) : r__law_tight (endX E) (endsOf Q) (start3 ["words", "word"] ds) h := by
  obtain ⟨p, ws, rfl, hp, hl, hn, q⟩ := s
  have zl := sizeLine_eq
  unfold r__law_tight
  walk_at "sem0"
  refine ⟨_, hp, ?_⟩
  have hlen : ((ws.map pad).map (·.length)).sum = (tightL ws).length := by
    clear hp hl hn q
    induction ws with
    | nil => rfl
    | cons w r ih => simp only [List.map_cons, List.sum_cons, tightL, List.flatMap_cons, List.length_append] at ih ⊢; omega
  refine lc3_maps (fun w : List Nat => D.str (T w)) (fun w => .str (T (pad w))) hp ws [] (by simp; omega) (fun w hw Q hq => ?_) ?_
  · have hm : (pad w).length ≤ _ := mem_le_sum (List.mem_map_of_mem (f := (·.length)) (List.mem_map_of_mem (f := pad) hw))
    rw [hlen] at hm
    have hwl : w.length ≤ (pad w).length := by
      unfold pad
      split <;> simp
    simp only [wipe3]
    walk_at "sem0"
    rw [flat_in]
    refine ⟨by omega, rfl, rfl, ?_⟩
    by_cases z : w = [44] ∨ w = [58] ∨ w = [59]
    · rw [show (pad w) = w ++ [32] by unfold pad; rw [if_pos z]] at hm hq
      rw [decide_eq_true z]
      refine ⟨by decide, by decide, by decide, ?_⟩
      rw [lit_sp, show strMul (T [32]) (if true = true then 1 else 0) = T (blanks 1) from mulB (n := 1)]
      rw [T_app, T_len, T_len]
      refine ⟨?_, hq⟩
      simp only [List.length_append] at hm
      simp [blanks] at hm ⊢
      omega
    · rw [show (pad w) = w by unfold pad; rw [if_neg z]] at hm hq
      rw [decide_eq_false z]
      refine ⟨by decide, by decide, by decide, ?_⟩
      rw [lit_sp, show strMul (T [32]) (if false = true then 1 else 0) = T (blanks 0) from mulB (n := 0)]
      rw [T_app, T_len, T_len]
      refine ⟨by simp [blanks]; omega, ?_⟩
      simpa [blanks] using hq
  · refine ⟨(ws.map pad).map T, by simp, ?_, ?_⟩
    · rw [sum_T, hlen, lit_e, T_len]
      simp
      omega
    · rw [lit_e, join_nil]
      refine ends_rt ?_
      have : ((ws.map pad).flatMap fun w => w) = tightL ws := by simp [tightL, List.flatMap_map]
      rw [this]
      exact q
def spLoose : Sp3 := fun ds h Q _ => ∃ (p q : Addr) (ws : List (List Nat)) (c : Int), (ds = [.ref p, .ref q]) ∧ p ≠ q ∧ h p = some (.lst (strD ws)) ∧ h q = some (.lst [.int c]) ∧ (ws.map fun w => w.length + 2).sum ≤ 1000000 ∧ ws.length ≤ 1000000 ∧ ∀ (b : Nat) (us : List (List Nat × Nat)) (c' : Int), b ≤ 2 → us.map (·.1) = ws → (∀ u ∈ us, u.2 ≤ 2) → Q (.str (T (blanks b ++ looseL us))) (RW h q c')
theorem sem_law_loose (s : spLoose ds h Q E) : r__law_loose spDigit (endX E) (endsOf Q) (start3 ["words", "row", "word"] ds) h := by
  obtain ⟨p, q, ws, c, rfl, npq, hp, hq, hl, hn, k⟩ := s
  have zl := sizeLine_eq
  unfold r__law_loose
  walk_at "sem0"
  refine ⟨q, c, 3, rfl, hq, by decide, by decide +kernel, ?_⟩
  rw [RW_0]
  obtain ⟨b, hb, eb⟩ := mod_nat (c := c) (m := 3) (by decide)
  rw [show c % (3 : Int) = (b : Int) from eb]
  walk_at "sem0"
  refine ⟨by omega, by omega, by rw [show (Str.ofString " ").length = 1 by decide]; omega, ?_⟩
  rw [mulB2]
  have hpr : ∀ c : Int, RW h q c p = some (.lst (strD ws)) := fun c => by unfold RW; rw [upd3_ne npq]; exact hp
  refine ⟨_, hpr _, ?_⟩
  have loop : ∀ (rest : List (List Nat)) (us : List (List Nat × Nat)) (c : Int) (QA : List D → Hp3 → Prop), us.map (·.1) ++ rest = ws → (∀ u ∈ us, u.2 ≤ 2) →
      (∀ (us : List (List Nat × Nat)) (c : Int), us.map (·.1) = ws → (∀ u ∈ us, u.2 ≤ 2) → QA (us.map fun u => .str (T (u.1 ++ blanks u.2))) (RW h q c)) →
      lc3 (fun h_1 => h_1 p = some (.lst (strD ws))) (gName3 2) tYes3 (tOp3 add3 (tVar3 2) (tOp3 mul3 (tC3 (.str " ")) (tCall3 spDigit N0 (tCons3 (tVar3 1) (tCons3 (tC3 (.int 3)) tNil3))))) (wipe3 [some (.ref p), some (.ref q), none] [2]) (strD rest) (us.map fun u => .str (T (u.1 ++ blanks u.2))) (RW h q c) QA := by
    intro rest
    induction rest with
    | nil =>
      intro us c QA e hu kk
      exact ⟨hpr _, kk us c (by simpa using e) hu⟩
    | cons w rest ih =>
      intro us c QA e hu kk
      refine ⟨hpr _, ?_⟩
      have hwm : w ∈ ws := by rw [← e]; simp
      have hwl := mem_le_sum (List.mem_map_of_mem (f := fun w : List Nat => w.length + 2) hwm)
      have hul : us.length < 1000000 := by
        have := congrArg List.length e
        simp at this
        omega
      simp only [wipe3]
      walk_at "sem0"
      refine ⟨q, c, 3, rfl, RW_p, by decide, by decide +kernel, ?_⟩
      rw [RW_adv]
      obtain ⟨v, hv, ev⟩ := mod_nat (c := c) (m := 3) (by decide)
      rw [show c % (3 : Int) = (v : Int) from ev]
      walk_at "sem0"
      refine ⟨by omega, by omega, by rw [show (Str.ofString " ").length = 1 by decide]; omega, ?_⟩
      rw [mulB2, T_app, T_len, T_len]
      refine ⟨by simp [blanks]; omega, by simp; omega, ?_⟩
      have := ih (us ++ [(w, v)]) (c / 3) QA (by rw [← e]; simp) (fun u hm => by
        rcases List.mem_append.mp hm with hm | hm
        · exact hu u hm
        · rw [List.mem_singleton.mp hm]; show v ≤ 2; omega) kk
      simpa [strD, wipe3] using this
  refine loop ws [] (c / 3) _ rfl (fun _ hm => (nomatch hm)) fun us c2 e hu => ?_
  have hsum : ((us.map fun u => u.1 ++ blanks u.2).map (·.length)).sum ≤ (ws.map fun w => w.length + 2).sum := by
    rw [← e]
    clear e
    induction us with
    | nil => simp
    | cons u us ih =>
      have h1 := hu u List.mem_cons_self
      have h2 := ih fun u hm => hu u (List.mem_cons_of_mem _ hm)
      simp only [List.map_cons, List.sum_cons, List.length_append, blanks, List.length_replicate] at h2 ⊢
      omega
  have hlen : ((us.map fun u => u.1 ++ blanks u.2).map (·.length)).sum = (looseL us).length := by
    clear hsum e hu
    induction us with
    | nil => rfl
    | cons w r ih => simp only [List.map_cons, List.sum_cons, looseL, List.flatMap_cons, List.length_append] at ih ⊢; omega
  refine ⟨(us.map fun u => u.1 ++ blanks u.2).map T, by simp, ?_, ?_⟩
  · rw [sum_T, lit_e, T_len]
    simp only [List.length_nil]
    omega
  · rw [lit_e, join_nil, show ((us.map fun u => u.1 ++ blanks u.2).flatMap fun w => w) = looseL us by simp [looseL, List.flatMap_map]]
    show add3 (.str (T (blanks b))) (.str (T (looseL us))) _ _
    rw [e_addS, T_app, T_len, T_len]
    refine ⟨by simp [blanks]; omega, ends_rt (k b us c2 (by omega) e hu)⟩
end
end O85

end F_M21

section F_K22
/-! K22: a kind's words are told apart again. -/
namespace Old
open PySem PySem.Spec PyProof.Rows L2 L3 O85
def SgHead (cs : List Nat) : Prop := ∀ c r, cs = c :: r → c ∈ SIGs ∨ c = 32
/-- however many blanks behind each word: the tokens; H: whatever follows, G: a sign, a blank or nothing follows -/
def Hh (ws : List (List Nat)) (ts : List Lx) : Prop := ∀ us : List (List Nat × Nat), us.map (·.1) = ws → ∀ cs o, Lex cs o → Lex (looseL us ++ cs) (ts ++ o)
def Gg (ws : List (List Nat)) (ts : List Lx) : Prop := ∀ us : List (List Nat × Nat), us.map (·.1) = ws → ∀ cs o, Lex cs o → SgHead cs → Lex (looseL us ++ cs) (ts ++ o)
def Sts (ws : List (List Nat)) : Prop := ∃ c r, ws = [c] :: r ∧ c ∈ SIGs
theorem lex_blanks {cs : List Nat} {o : List Lx} (h : Lex cs o) : ∀ n, Lex (blanks n ++ cs) o
  | 0 => h
  | n + 1 => by
    show Lex (32 :: (blanks n ++ cs)) o
    exact .blank (lex_blanks h n)
theorem sg_blanks {cs : List Nat} (h : SgHead cs) : ∀ n, SgHead (blanks n ++ cs)
  | 0 => h
  | n + 1 => fun c r e => by
    injection e with e1 e2
    exact .inr e1.symm
theorem loose_app (a b : List (List Nat × Nat)) : looseL (a ++ b) = looseL a ++ looseL b := by simp [looseL]
theorem split_us {us : List (List Nat × Nat)} {a b : List (List Nat)} (e : us.map (·.1) = a ++ b) : ∃ u v, us = u ++ v ∧ u.map (·.1) = a ∧ v.map (·.1) = b := List.map_eq_append_iff.mp e
theorem sg_of_st {ws : List (List Nat)} (h : Sts ws) {us : List (List Nat × Nat)} (e : us.map (·.1) = ws) (cs : List Nat) : SgHead (looseL us ++ cs) := by
  obtain ⟨c, r, rfl, hc⟩ := h
  cases us with
  | nil => cases e
  | cons u us =>
    simp only [List.map_cons, List.cons.injEq] at e
    intro x y ex
    simp only [looseL, List.flatMap_cons, e.1] at ex
    injection ex with e1 e2
    exact .inl (e1 ▸ hc)
theorem Hh.g {ws ts} (h : Hh ws ts) : Gg ws ts := fun us e cs o l _ => h us e cs o l
theorem gh {a b : List (List Nat)} {ta tb : List Lx} (ha : Gg a ta) (hb : Hh b tb) (sb : Sts b) : Hh (a ++ b) (ta ++ tb) := fun us e cs o l => by
  obtain ⟨u, v, rfl, e1, e2⟩ := split_us e
  rw [loose_app, List.append_assoc, List.append_assoc]
  exact ha u e1 _ _ (hb v e2 cs o l) (sg_of_st sb e2 cs)
theorem gg {a b : List (List Nat)} {ta tb : List Lx} (ha : Gg a ta) (hb : Gg b tb) (sb : Sts b) : Gg (a ++ b) (ta ++ tb) := fun us e cs o l s => by
  obtain ⟨u, v, rfl, e1, e2⟩ := split_us e
  rw [loose_app, List.append_assoc, List.append_assoc]
  exact ha u e1 _ _ (hb v e2 cs o l s) (sg_of_st sb e2 cs)
theorem hh {a b : List (List Nat)} {ta tb : List Lx} (ha : Hh a ta) (hb : Hh b tb) : Hh (a ++ b) (ta ++ tb) := fun us e cs o l => by
  obtain ⟨u, v, rfl, e1, e2⟩ := split_us e
  rw [loose_app, List.append_assoc, List.append_assoc]
  exact ha u e1 _ _ (hb v e2 cs o l)
theorem hg {a b : List (List Nat)} {ta tb : List Lx} (ha : Hh a ta) (hb : Gg b tb) : Gg (a ++ b) (ta ++ tb) := fun us e cs o l s => by
  obtain ⟨u, v, rfl, e1, e2⟩ := split_us e
  rw [loose_app, List.append_assoc, List.append_assoc]
  exact ha u e1 _ _ (hb v e2 cs o l s)
theorem g_nil : Gg [] [] := fun us e cs o l _ => by
  have : us = [] := List.map_eq_nil_iff.mp e
  subst this
  exact l
theorem one_us {us : List (List Nat × Nat)} {w : List Nat} (e : us.map (·.1) = [w]) : ∃ n, us = [(w, n)] := by
  cases us with
  | nil => cases e
  | cons u us =>
    simp only [List.map_cons, List.cons.injEq, List.map_eq_nil_iff] at e
    obtain ⟨e1, e2⟩ := e
    subst e2
    exact ⟨u.2, by rw [← e1]⟩
theorem h_sign {c : Nat} (hc : c ∈ SIGs) : Hh [[c]] [.sign c] := fun us e cs o l => by
  obtain ⟨n, rfl⟩ := one_us e
  simp only [looseL, List.flatMap_cons, List.flatMap_nil, List.append_nil, List.append_assoc]
  exact .sign hc (lex_blanks l n)
theorem sg_not {cs : List Nat} (s : SgHead cs) : (∀ c r, cs = c :: r → c ∉ LETs) ∧ (∀ c r, cs = c :: r → c ∉ FIGs) := by
  constructor <;> intro c r e <;> rcases s c r e with h | rfl
  · exact (sig_ne h).2.2.1
  · decide
  · exact (sig_ne h).2.2.2
  · decide
theorem g_word {w : List Nat} (h1 : w ≠ []) (h2 : ∀ c ∈ w, c ∈ LETs) (h3 : w.length ≤ 8) : Gg [w] [.word w] := fun us e cs o l s => by
  obtain ⟨n, rfl⟩ := one_us e
  simp only [looseL, List.flatMap_cons, List.flatMap_nil, List.append_nil, List.append_assoc]
  exact .word h1 h2 h3 (sg_not (sg_blanks s n)).1 (lex_blanks l n)
theorem g_name {w : List Nat} (h : IsName w) : Gg [w] [.word w] := g_word (fun e => by have := h.n1; rw [e] at this; cases this) h.lt h.n8
theorem g_num {m : List Nat} {i : Int} (h1 : NumL m) (h2 : PySem.intText? (T m) = some i) : Gg [m] [.num i] := fun us e cs o l s => by
  obtain ⟨n, rfl⟩ := one_us e
  simp only [looseL, List.flatMap_cons, List.flatMap_nil, List.append_nil, List.append_assoc]
  exact .num h1 h2 (sg_not (sg_blanks s n)).2 (lex_blanks l n)
theorem sts_sign {c : Nat} (hc : c ∈ SIGs) (r : List (List Nat)) : Sts ([c] :: r) := ⟨c, r, rfl, hc⟩
/-- rows with commas -/
theorem g_sep {α : Type} (f : α → List (List Nat)) (g : α → List Lx) : ∀ xs : List α, (∀ x ∈ xs, Gg (f x) (g x)) → Gg (sepBy [[44]] (xs.map f)) (sepBy [.sign 44] (xs.map g))
  | [], _ => g_nil
  | [x], h => h x List.mem_cons_self
  | x :: y :: r, h => by
    have ih := g_sep f g (y :: r) fun z hz => h z (List.mem_cons_of_mem _ hz)
    have h1 := h x List.mem_cons_self
    have := gg h1 (hg (h_sign (c := 44) (by decide)) ih) (sts_sign (by decide) _)
    simpa [sepBy] using this
/-- a kind in brackets -/
theorem h_brk {w : List Nat} {ws : List (List Nat)} {ts : List Lx} (hw : Gg [w] [.word w]) (hb : Gg ws ts) : Hh (w :: [40] :: (ws ++ [[41]])) (.word w :: .sign 40 :: (ts ++ [.sign 41])) := by
  have h1 := gh hb (h_sign (c := 41) (by decide)) (sts_sign (by decide) [])
  have h2 := hh (h_sign (c := 40) (by decide)) h1
  have h3 := gh hw h2 (sts_sign (c := 40) (by decide) _)
  simpa using h3
/-- what is told of a number: it is read back -/
def NumR (i : Int) : Prop := NumL (intL i) ∧ PySem.intText? (T (intL i)) = some i
theorem gw (w : List Nat) (h1 : w ≠ [] := by decide) (h2 : ∀ c ∈ w, c ∈ LETs := by decide) (h3 : w.length ≤ 8 := by decide) : Gg [w] [.word w] := g_word h1 h2 h3
mutual
theorem kind_H (NR : ∀ i : Int, -(10 ^ 30) ≤ i → i ≤ 10 ^ 30 → NumR i) : ∀ k : Kd, k.ok → Hh (Kd.ws k) k.toks
  | .number lo hi, h => by
    simp only [Kd.ok] at h
    have r1 := NR lo (by omega) (by omega)
    have r2 := NR hi (by omega) (by omega)
    have b := gg (g_num r1.1 r1.2) (hg (h_sign (c := 44) (by decide)) (g_num r2.1 r2.2)) (sts_sign (by decide) _)
    have := h_brk (gw wNumber) b
    simpa [Kd.ws, Kd.toks, Kd.parts, Kd.wordK, sepBy] using this
  | .text n, h => by
    simp only [Kd.ok] at h
    have r1 := NR n (by omega) (by omega)
    have := h_brk (gw wText) (g_num r1.1 r1.2)
    simpa [Kd.ws, Kd.toks, Kd.parts, Kd.wordK, sepBy] using this
  | .choice vs, h => by
    simp only [Kd.ok] at h
    have b := g_sep (fun v : List Nat => [v]) (fun v => [Lx.word v]) vs fun v hv => g_name (h.2.2.all v hv)
    have := h_brk (gw wChoice) b
    simpa [Kd.ws, Kd.toks, Kd.parts, Kd.wordK] using this
  | .list k n, h => by
    simp only [Kd.ok] at h
    have r1 := NR n (by omega) (by omega)
    have ih := kind_H NR k h.1
    have b := gg (g_num r1.1 r1.2) (hg (h_sign (c := 44) (by decide)) ih.g) (sts_sign (by decide) _)
    have := h_brk (gw wList) b
    simpa [Kd.ws, Kd.toks, Kd.parts, Kd.wordK, sepBy] using this
  | .record fs, h => by
    simp only [Kd.ok] at h
    have b := fields_G NR fs h.1 (by
      have := h.2.2.1.all
      rw [Kds.names_map] at this
      exact fun y hy => this _ (List.mem_map_of_mem hy))
    have := h_brk (gw wRecord) b
    simpa [Kd.ws, Kd.toks, Kd.parts, Kd.wordK] using this
  | .rows key k n, h => by
    simp only [Kd.ok] at h
    have r1 := NR n (by omega) (by omega)
    have ih := kind_H NR k h.1
    have hkey : IsName key := by
      obtain ⟨ho, _, _, hr, q, hq, rfl, _⟩ := h
      cases k with
      | record fs =>
        simp only [Kd.ok] at ho
        have := ho.2.2.1.all
        rw [Kds.names_map] at this
        exact this _ (List.mem_map_of_mem hq)
      | _ => cases hr
    have b := gg (g_name hkey) (hg (h_sign (c := 44) (by decide)) (gg (g_num r1.1 r1.2) (hg (h_sign (c := 44) (by decide)) ih.g) (sts_sign (by decide) _))) (sts_sign (by decide) _)
    have := h_brk (gw wRows) b
    simpa [Kd.ws, Kd.toks, Kd.parts, Kd.wordK, sepBy] using this
theorem fields_G (NR : ∀ i : Int, -(10 ^ 30) ≤ i → i ≤ 10 ^ 30 → NumR i) : ∀ fs : Kds, fs.ok → (∀ y ∈ fs.toL, IsName y.1) → Gg (sepBy [[44]] (Kds.wss fs)) (sepBy [.sign 44] fs.toks)
  | .nil, _, _ => g_nil
  | .cons n k r, h, hn => by
    simp only [Kds.ok] at h
    have ih := kind_H NR k h.1
    have i1 := gg (g_name (hn (n, k) (by simp [Kds.toL]))) (hg (h_sign (c := 58) (by decide)) ih.g) (sts_sign (by decide) _)
    have i2 := fields_G NR r h.2 fun y hy => hn y (by simp [Kds.toL, hy])
    cases r with
    | nil => simpa [Kds.wss, Kds.toks, sepBy, Kd.toks] using i1
    | cons n2 k2 r2 =>
      have := gg i1 (hg (h_sign (c := 44) (by decide)) i2) (sts_sign (by decide) _)
      simpa [Kds.wss, Kds.toks, sepBy, Kd.toks] using this
end
end Old

end F_K22

section F_K23
/-! K23: numbers read back; the text of a kind by its words; bounds. -/
namespace Old
open PySem PySem.Spec PyProof.Rows L2 L3 O85 PySem.NumText PySem.W.KIN
/-- a number's figures -/
def dg (n : Nat) : List Nat := (Nat.toDigits 10 n).map Char.toNat
theorem dg_small {n : Nat} (h : n < 10) : dg n = [48 + n] := by
  unfold dg
  rw [Nat.toDigits_of_lt_base h]
  have : ∀ d : Fin 10, [Nat.digitChar d].map Char.toNat = [48 + (d : Nat)] := by decide
  exact this ⟨n, h⟩
theorem dg_step {n : Nat} (h : 10 ≤ n) : dg n = dg (n / 10) ++ [48 + n % 10] := by
  have hm : n % 10 < 10 := Nat.mod_lt n (by decide)
  have t : Nat.toDigits 10 (n / 10) ++ Nat.toDigits 10 (n % 10) = Nat.toDigits 10 (10 * (n / 10) + n % 10) := Nat.toDigits_append_toDigits (by decide) (by omega) hm
  rw [Nat.div_add_mod] at t
  have := dg_small hm
  unfold dg at this ⊢
  rw [← t, List.map_append, this]
theorem fig_mem {d : Nat} (h : d < 10) : 48 + d ∈ FIGs := by
  have : ∀ d : Fin 10, 48 + (d : Nat) ∈ FIGs := by decide
  exact this ⟨d, h⟩
theorem dg_fig (n : Nat) : ∀ c ∈ dg n, c ∈ FIGs := by
  induction n using Nat.strongRecOn with
  | _ n ih =>
    by_cases h : n < 10
    · rw [dg_small h]
      intro c hc
      rw [List.mem_singleton.mp hc]
      exact fig_mem h
    · rw [dg_step (by omega)]
      intro c hc
      rcases List.mem_append.mp hc with hc | hc
      · exact ih (n / 10) (by omega) c hc
      · rw [List.mem_singleton.mp hc]
        exact fig_mem (Nat.mod_lt n (by decide))
theorem dg_ne (n : Nat) : dg n ≠ [] := by
  by_cases h : n < 10
  · rw [dg_small h]; simp
  · rw [dg_step (by omega)]; simp
theorem dg_len : ∀ (k n : Nat), n < 10 ^ (k + 1) → (dg n).length ≤ k + 1
  | 0, n, h => by rw [dg_small (by omega)]; simp
  | k + 1, n, h => by
    by_cases h10 : n < 10
    · rw [dg_small h10]; simp
    · rw [dg_step (by omega)]
      have := dg_len k (n / 10) (by rw [Nat.pow_succ] at h; omega)
      simp
      omega
theorem dg_head (n : Nat) : 0 < n → (dg n).head? ≠ some 48 := by
  induction n using Nat.strongRecOn with
  | _ n ih =>
    intro hp
    by_cases h : n < 10
    · rw [dg_small h]
      simp
      omega
    · rw [dg_step (by omega)]
      have h2 := ih (n / 10) (by omega) (by omega)
      have h3 := dg_ne (n / 10)
      cases hd : dg (n / 10) with
      | nil => exact (h3 hd).elim
      | cons c r =>
        rw [hd] at h2
        simpa using h2
theorem digits_ok {cs : List Nat} (h : ∀ c ∈ cs, c ∈ FIGs) : AllDigits cs := fun c hc => (show ∀ c ∈ FIGs, 48 ≤ c ∧ c ≤ 57 by decide) c (h c hc)
theorem intL_nat (n : Nat) : intL (n : Int) = dg n := signs_num n
theorem intL_neg (n : Nat) : intL (-((n + 1 : Nat) : Int)) = 45 :: dg (n + 1) := by
  unfold intL
  rw [ofS, T_cps]
  show ((Int.repr (Int.negSucc n)).toList.map Char.toNat) = _
  show (("-" ++ Nat.repr (n + 1)).toList.map Char.toNat) = _
  rw [String.toList_append, List.map_append, Nat.toList_repr]
  rfl
theorem numR (i : Int) (h1 : -(10 ^ 30) ≤ i) (h2 : i ≤ 10 ^ 30) : NumR i := by
  rcases Int.lt_or_le i 0 with h | h
  · obtain ⟨n, rfl⟩ : ∃ n : Nat, i = -((n + 1 : Nat) : Int) := ⟨(-i - 1).toNat, by omega⟩
    have hl := dg_len 30 (n + 1) (by omega)
    refine ⟨⟨dg (n + 1), .inr (intL_neg n), dg_ne _, dg_fig _, by omega, fun e => (dg_head (n + 1) (by omega) e).elim⟩, ?_⟩
    have := intText_neg (x := T (intL (-((n + 1 : Nat) : Int)))) (cs := dg (n + 1)) (by rw [T_cps, intL_neg]) (digits_ok (dg_fig _)) (dg_ne _) (by rw [T_len, intL_neg]; simp; omega)
    rw [this]
    have e : digitsVal (dg (n + 1)) = n + 1 := val_back (n + 1)
    rw [e]
  · obtain ⟨n, rfl⟩ := Int.eq_ofNat_of_zero_le h
    have hl := dg_len 30 n (by omega)
    refine ⟨⟨dg n, .inl (intL_nat n), dg_ne _, dg_fig _, by omega, fun e => ?_⟩, ?_⟩
    · by_cases z : n = 0
      · subst z
        rw [intL_nat]
        rfl
      · exact (dg_head n (by omega) e).elim
    · have := intText_digits (x := T (intL (n : Int))) (by rw [T_cps, intL_nat]; exact digits_ok (dg_fig _)) (by rw [T_cps, intL_nat]; exact dg_ne _) (by rw [T_len, intL_nat]; omega)
      rw [this, T_cps, intL_nat]
      have e : digitsVal (dg n) = n := val_back n
      rw [e]
theorem intL_len {i : Int} (h1 : -(10 ^ 30) ≤ i) (h2 : i ≤ 10 ^ 30) : (intL i).length ≤ 32 := by
  rcases Int.lt_or_le i 0 with h | h
  · obtain ⟨n, rfl⟩ : ∃ n : Nat, i = -((n + 1 : Nat) : Int) := ⟨(-i - 1).toNat, by omega⟩
    have hl := dg_len 30 (n + 1) (by omega)
    rw [intL_neg]
    simp
    omega
  · obtain ⟨n, rfl⟩ := Int.eq_ofNat_of_zero_le h
    have hl := dg_len 30 n (by omega)
    rw [intL_nat]
    omega
theorem numOk {i : Int} (h1 : -(10 ^ 30) ≤ i) (h2 : i ≤ 10 ^ 30) : NumOk i := by
  unfold NumOk
  by_cases z : i.natAbs = 0
  · rw [z]; simp
  · have : i.natAbs.log2 < 100 := (Nat.log2_lt z).mpr (by omega)
    omega
/-- a sign or a word of letters, figures: no blank is added -/
theorem pad_plain {w : List Nat} (h : w ≠ [44] ∧ w ≠ [58] ∧ w ≠ [59]) : pad w = w := by
  unfold pad
  rw [if_neg (fun z => z.elim h.1 fun z => z.elim h.2.1 h.2.2)]
theorem tight_app (a b : List (List Nat)) : tightL (a ++ b) = tightL a ++ tightL b := by simp [tightL]
theorem tight_one {w : List Nat} (h : w ≠ [44] ∧ w ≠ [58] ∧ w ≠ [59]) : tightL [w] = w := by simp [tightL, pad_plain h]
theorem tight_sep {α : Type} (f : α → List (List Nat)) (g : α → List Nat) : ∀ xs : List α, (∀ x ∈ xs, tightL (f x) = g x) → tightL (sepBy [[44]] (xs.map f)) = sepBy [44, 32] (xs.map g)
  | [], _ => rfl
  | [x], h => h x List.mem_cons_self
  | x :: y :: r, h => by
    have ih := tight_sep f g (y :: r) fun z hz => h z (List.mem_cons_of_mem _ hz)
    have h1 := h x List.mem_cons_self
    simp only [List.map_cons, sepBy] at ih ⊢
    rw [tight_app, tight_app, h1, ih]
    rfl
theorem name_plain {w : List Nat} (h : ∀ c ∈ w, c ∈ LETs) : w ≠ [44] ∧ w ≠ [58] ∧ w ≠ [59] := by
  refine ⟨?_, ?_, ?_⟩ <;> rintro rfl <;> exact absurd (h _ List.mem_cons_self) (by decide)
theorem num_plain (i : Int) (h1 : -(10 ^ 30) ≤ i) (h2 : i ≤ 10 ^ 30) : intL i ≠ [44] ∧ intL i ≠ [58] ∧ intL i ≠ [59] := by
  obtain ⟨fs, hm, hf, hg, _⟩ := (numR i h1 h2).1.ex
  have : ∀ c : Nat, c ∉ FIGs → c ≠ 45 → intL i ≠ [c] := fun c n1 n2 e => by
    rcases hm with e2 | e2
    · rw [e] at e2
      exact n1 (hg c (by rw [← e2]; simp))
    · rw [e] at e2
      injection e2 with e3 _
      exact n2 e3
  exact ⟨this 44 (by decide) (by decide), this 58 (by decide) (by decide), this 59 (by decide) (by decide)⟩
theorem tight_brk {w : List Nat} {ws : List (List Nat)} {ys : List (List Nat)} (hw : w ≠ [44] ∧ w ≠ [58] ∧ w ≠ [59]) (h : tightL ws = sepBy [44, 32] ys) : tightL (w :: [40] :: (ws ++ [[41]])) = brk w ys := by
  have e : (w :: [40] :: (ws ++ [[41]])) = [w] ++ ([[40]] ++ (ws ++ [[41]])) := rfl
  rw [e, tight_app, tight_app, tight_app, h, tight_one hw, tight_one (by decide), tight_one (by decide)]
  simp [brk]
mutual
theorem kind_tight : ∀ k : Kd, k.ok → tightL (Kd.ws k) = k.txt
  | .number lo hi, h => by
    simp only [Kd.ok] at h
    have := tight_sep (fun i : Int => [intL i]) intL [lo, hi] (fun i hi2 => by
      simp only [List.mem_cons, List.not_mem_nil, or_false] at hi2
      rcases hi2 with rfl | rfl
      · exact tight_one (num_plain _ (by omega) (by omega))
      · exact tight_one (num_plain _ (by omega) (by omega)))
    simpa only [Kd.ws, Kd.txt, List.map_cons, List.map_nil] using tight_brk (w := wNumber) (by decide) this
  | .text n, h => by
    simp only [Kd.ok] at h
    have := tight_sep (fun i : Int => [intL i]) intL [n] (fun i hi2 => by
      rw [List.mem_singleton.mp hi2]
      exact tight_one (num_plain _ (by omega) (by omega)))
    simpa only [Kd.ws, Kd.txt, List.map_cons, List.map_nil] using tight_brk (w := wText) (by decide) this
  | .choice vs, h => by
    simp only [Kd.ok] at h
    have := tight_sep (fun v : List Nat => [v]) id vs (fun v hv => tight_one (name_plain (h.2.2.all v hv).lt))
    simpa only [Kd.ws, Kd.txt, List.map_id] using tight_brk (w := wChoice) (by decide) this
  | .list k n, h => by
    simp only [Kd.ok] at h
    have ih := kind_tight k h.1
    have e1 := tight_one (num_plain n (by omega) (by omega))
    have : tightL (sepBy [[44]] [[intL n], Kd.ws k]) = sepBy [44, 32] [intL n, k.txt] := by
      simp only [sepBy]
      rw [tight_app, tight_app, ih, e1]
      rfl
    simpa only [Kd.ws, Kd.txt] using tight_brk (w := wList) (by decide) this
  | .record fs, h => by
    simp only [Kd.ok] at h
    have := fields_tight fs h.1 (by
      have := h.2.2.1.all
      rw [Kds.names_map] at this
      exact fun y hy => this _ (List.mem_map_of_mem hy))
    simpa only [Kd.ws, Kd.txt] using tight_brk (w := wRecord) (by decide) this
  | .rows key k n, h => by
    simp only [Kd.ok] at h
    have ih := kind_tight k h.1
    have hkey : IsName key := by
      obtain ⟨ho, _, _, hr, q, hq, rfl, _⟩ := h
      cases k with
      | record fs =>
        simp only [Kd.ok] at ho
        have := ho.2.2.1.all
        rw [Kds.names_map] at this
        exact this _ (List.mem_map_of_mem hq)
      | _ => cases hr
    have e1 := tight_one (num_plain n (by omega) (by omega))
    have e2 := tight_one (name_plain hkey.lt)
    have : tightL (sepBy [[44]] [[key], [intL n], Kd.ws k]) = sepBy [44, 32] [key, intL n, k.txt] := by
      simp only [sepBy]
      rw [tight_app, tight_app, tight_app, tight_app, ih, e1, e2]
      rfl
    simpa only [Kd.ws, Kd.txt] using tight_brk (w := wRows) (by decide) this
theorem fields_tight : ∀ fs : Kds, fs.ok → (∀ y ∈ fs.toL, IsName y.1) → tightL (sepBy [[44]] (Kds.wss fs)) = sepBy [44, 32] fs.txts
  | .nil, _, _ => by simp [Kds.wss, Kds.txts, sepBy, tightL]
  | .cons n k r, h, hn => by
    simp only [Kds.ok] at h
    have ih := kind_tight k h.1
    have e2 := tight_one (name_plain (hn (n, k) (by simp [Kds.toL])).lt)
    have i1 : tightL (n :: [58] :: Kd.ws k) = pairL n k.txt := by
      have e : (n :: [58] :: Kd.ws k) = [n] ++ ([[58]] ++ Kd.ws k) := rfl
      rw [e, tight_app, tight_app, ih, e2]
      simp [pairL, tightL, pad]
    have i2 := fields_tight r h.2 fun y hy => hn y (by simp [Kds.toL, hy])
    cases r with
    | nil => simpa only [Kds.wss, Kds.txts, sepBy] using i1
    | cons n2 k2 r2 =>
      simp only [Kds.wss, Kds.txts, sepBy] at i2 ⊢
      rw [tight_app, tight_app, i1, i2]
      rfl
end
/-- the tight text is told apart, too -/
theorem tight_loose (ws : List (List Nat)) : ∃ us : List (List Nat × Nat), us.map (·.1) = ws ∧ looseL us = tightL ws := by
  refine ⟨ws.map fun w => (w, if w = [44] ∨ w = [58] ∨ w = [59] then 1 else 0), by rw [List.map_map]; exact List.map_id ws, ?_⟩
  induction ws with
  | nil => rfl
  | cons w r ih =>
    simp only [looseL, tightL, List.map_cons, List.flatMap_cons] at ih ⊢
    rw [ih]
    congr 1
    unfold pad
    split <;> simp [blanks]
end Old

end F_K23

section F_K24
/-! K24: how long a kind's words are; what a kind that is let by has. -/
namespace Old
open PySem PySem.Spec PyProof.Rows L2 L3 O85
def wsum (ws : List (List Nat)) : Nat := (ws.map fun w => w.length + 2).sum
theorem wsum_app (a b : List (List Nat)) : wsum (a ++ b) = wsum a + wsum b := by simp [wsum]
theorem wsum_one (w : List Nat) : wsum [w] = w.length + 2 := by simp [wsum]
theorem wsum_cons (w : List Nat) (r : List (List Nat)) : wsum (w :: r) = w.length + 2 + wsum r := by simp [wsum]
theorem wsum_brk {w : List Nat} {ws : List (List Nat)} : wsum (w :: [40] :: (ws ++ [[41]])) = w.length + 8 + wsum ws := by
  rw [wsum_cons, wsum_cons, wsum_app, wsum_one]
  simp
  omega
theorem wsum_sep {α : Type} (f : α → List (List Nat)) (n : Nat) : ∀ xs : List α, (∀ x ∈ xs, wsum (f x) ≤ n) → wsum (sepBy [[44]] (xs.map f)) ≤ xs.length * (n + 3)
  | [], _ => by simp [sepBy, wsum]
  | [x], h => by
    have := h x List.mem_cons_self
    simp only [List.map_cons, List.map_nil, sepBy, List.length_cons, List.length_nil]
    omega
  | x :: y :: r, h => by
    have ih := wsum_sep f n (y :: r) fun z hz => h z (List.mem_cons_of_mem _ hz)
    have h1 := h x List.mem_cons_self
    simp only [List.map_cons, sepBy, List.length_cons] at ih ⊢
    rw [wsum_app, wsum_app, wsum_one]
    simp only [List.length_cons, List.length_nil]
    rw [Nat.add_mul]
    omega
mutual
theorem kind_sum : ∀ k : Kd, k.ok → wsum (Kd.ws k) ≤ 200 * k.size
  | .number lo hi, h => by
    simp only [Kd.ok] at h
    have := wsum_sep (fun i : Int => [intL i]) 34 [lo, hi] (fun i hi2 => by
      simp only [List.mem_cons, List.not_mem_nil, or_false] at hi2
      rw [wsum_one]
      rcases hi2 with rfl | rfl
      · have := intL_len (i := i) (by omega) (by omega); omega
      · have := intL_len (i := i) (by omega) (by omega); omega)
    simp only [Kd.ws]
    rw [wsum_brk]
    simp only [Kd.size, wNumber, List.length_cons, List.length_nil, List.map_cons, List.map_nil] at this ⊢
    omega
  | .text n, h => by
    simp only [Kd.ok] at h
    have := intL_len (i := n) (by omega) (by omega)
    simp only [Kd.ws]
    rw [wsum_brk]
    simp only [Kd.size, wText, sepBy, wsum_one, List.length_cons, List.length_nil]
    omega
  | .choice vs, h => by
    simp only [Kd.ok] at h
    have := wsum_sep (fun v : List Nat => [v]) 10 vs (fun v hv => by rw [wsum_one]; have := (h.2.2.all v hv).n8; omega)
    simp only [Kd.ws]
    rw [wsum_brk]
    simp only [Kd.size, wChoice, List.length_cons, List.length_nil]
    omega
  | .list k n, h => by
    simp only [Kd.ok] at h
    have ih := kind_sum k h.1
    have := intL_len (i := n) (by omega) (by omega)
    simp only [Kd.ws]
    rw [wsum_brk]
    simp only [Kd.size, wList, sepBy, wsum_app, wsum_one, List.length_cons, List.length_nil]
    omega
  | .record fs, h => by
    simp only [Kd.ok] at h
    have := fields_sum fs h.1 (by
      have := h.2.2.1.all
      rw [Kds.names_map] at this
      exact fun y hy => this _ (List.mem_map_of_mem hy))
    simp only [Kd.ws]
    rw [wsum_brk]
    simp only [Kd.size, wRecord, List.length_cons, List.length_nil]
    omega
  | .rows key k n, h => by
    simp only [Kd.ok] at h
    have ih := kind_sum k h.1
    have := intL_len (i := n) (by omega) (by omega)
    have hkey : IsName key := by
      obtain ⟨ho, _, _, hr, q, hq, rfl, _⟩ := h
      cases k with
      | record fs =>
        simp only [Kd.ok] at ho
        have := ho.2.2.1.all
        rw [Kds.names_map] at this
        exact this _ (List.mem_map_of_mem hq)
      | _ => cases hr
    have := hkey.n8
    simp only [Kd.ws]
    rw [wsum_brk]
    simp only [Kd.size, wRows, sepBy, wsum_app, wsum_one, List.length_cons, List.length_nil]
    omega
theorem fields_sum : ∀ fs : Kds, fs.ok → (∀ y ∈ fs.toL, IsName y.1) → wsum (sepBy [[44]] (Kds.wss fs)) ≤ 16 * fs.toL.length + 200 * fs.size
  | .nil, _, _ => by simp [Kds.wss, sepBy, wsum]
  | .cons n k r, h, hn => by
    simp only [Kds.ok] at h
    have ih := kind_sum k h.1
    have i2 := fields_sum r h.2 fun y hy => hn y (by simp [Kds.toL, hy])
    have hnl : n.length ≤ 8 := (hn (n, k) (by simp [Kds.toL])).n8
    have i1 : wsum (n :: [58] :: Kd.ws k) ≤ 13 + 200 * k.size := by
      rw [wsum_cons, wsum_cons]
      simp only [List.length_cons, List.length_nil]
      omega
    cases r with
    | nil =>
      simp only [Kds.wss, sepBy, Kds.toL, Kds.size, List.length_cons, List.length_nil] at i2 ⊢
      omega
    | cons n2 k2 r2 =>
      simp only [Kds.wss, sepBy, Kds.toL, Kds.size, List.length_cons, wsum_app, wsum_one] at i2 ⊢
      simp only [List.length_nil] at i2 ⊢
      omega
end
mutual
theorem kind_nums : ∀ k : Kd, k.ok → k.nums
  | .number lo hi, h => by
    simp only [Kd.ok] at h
    simp only [Kd.nums]
    exact ⟨numOk (by omega) (by omega), numOk (by omega) (by omega)⟩
  | .text n, h => by
    simp only [Kd.ok] at h
    simp only [Kd.nums]
    exact numOk (by omega) (by omega)
  | .choice vs, h => by simp only [Kd.nums]
  | .list k n, h => by
    simp only [Kd.ok] at h
    simp only [Kd.nums]
    exact ⟨kind_nums k h.1, numOk (by omega) (by omega)⟩
  | .record fs, h => by
    simp only [Kd.ok] at h
    simp only [Kd.nums]
    exact fields_nums fs h.1
  | .rows key k n, h => by
    simp only [Kd.ok] at h
    simp only [Kd.nums]
    exact ⟨kind_nums k h.1, numOk (by omega) (by omega)⟩
theorem fields_nums : ∀ fs : Kds, fs.ok → fs.nums
  | .nil, _ => by simp only [Kds.nums]
  | .cons n k r, h => by
    simp only [Kds.ok] at h
    simp only [Kds.nums]
    exact ⟨kind_nums k h.1, fields_nums r h.2⟩
end
mutual
theorem kind_wide : ∀ k : Kd, k.ok → k.wide
  | .number lo hi, h => by simp only [Kd.wide]
  | .text n, h => by simp only [Kd.wide]
  | .choice vs, h => by
    simp only [Kd.ok] at h
    simp only [Kd.wide]
    exact ⟨fun e => by rw [e] at h; exact absurd h.1 (by decide), by omega⟩
  | .list k n, h => by
    simp only [Kd.ok] at h
    simp only [Kd.wide]
    exact kind_wide k h.1
  | .record fs, h => by
    simp only [Kd.ok] at h
    simp only [Kd.wide]
    exact ⟨fields_wide fs h.1, by omega⟩
  | .rows key k n, h => by
    simp only [Kd.ok] at h
    simp only [Kd.wide]
    exact kind_wide k h.1
theorem fields_wide : ∀ fs : Kds, fs.ok → fs.wide
  | .nil, _ => by simp only [Kds.wide]
  | .cons n k r, h => by
    simp only [Kds.ok] at h
    simp only [Kds.wide]
    exact ⟨kind_wide k h.1, fields_wide r h.2⟩
end
theorem ws_le (ws : List (List Nat)) : ws.length ≤ wsum ws := by
  induction ws with
  | nil => simp
  | cons w r ih => rw [wsum_cons]; simp; omega
theorem tight_le (ws : List (List Nat)) : (tightL ws).length ≤ wsum ws := by
  induction ws with
  | nil => simp [tightL]
  | cons w r ih =>
    rw [wsum_cons]
    have : (pad w).length ≤ w.length + 2 := by
      unfold pad
      split <;> simp
    simp only [tightL, List.flatMap_cons, List.length_append] at ih ⊢
    omega
theorem loose_le {us : List (List Nat × Nat)} (hu : ∀ u ∈ us, u.2 ≤ 2) : (looseL us).length ≤ wsum (us.map (·.1)) := by
  induction us with
  | nil => simp [looseL]
  | cons u us ih =>
    have h1 := hu u List.mem_cons_self
    have h2 := ih fun u hm => hu u (List.mem_cons_of_mem _ hm)
    rw [List.map_cons, wsum_cons]
    simp only [looseL, List.flatMap_cons, List.length_append, blanks, List.length_replicate] at h2 ⊢
    omega
/-- what comes of a kind that is let by -/
theorem lex_of {k : Kd} (h : k.ok) {us : List (List Nat × Nat)} (e : us.map (·.1) = Kd.ws k) (b : Nat) : Lex (blanks b ++ looseL us) k.toks := by
  have := kind_H numR k h us e [] [] .nil
  rw [List.append_nil, List.append_nil] at this
  exact lex_blanks this b
/-! the data of a kind -/
mutual
theorem enc_dat : ∀ k : Kd, k.ok → ∃ u, dat k.enc = some u ∧ u.canLay0 = true ∧ u.depth ≤ 3 * k.dep
  | .number lo hi, h => by
    refine ⟨_, rfl, ?_, ?_⟩
    · simp only [PyData.canLay0, PyData.canLayAll0]; decide +kernel
    · simp only [PyData.depth, PyData.depthAll, Kd.dep]; decide +kernel
  | .text n, h => by
    refine ⟨_, rfl, ?_, ?_⟩
    · simp only [PyData.canLay0, PyData.canLayAll0]; decide +kernel
    · simp only [PyData.depth, PyData.depthAll, Kd.dep]; decide +kernel
  | .choice vs, h => by
    simp only [Kd.ok] at h
    refine ⟨.tuple [.str "choice", .tuple (vs.map fun w => .str (T w))], ?_, ?_, ?_⟩
    · simp only [Kd.enc, dat, dats, dats_map (fun w => D.str (T w)) (fun w => PyData.str (T w)) (fun _ => rfl), Option.map]
    · have e1 : PyData.canLayAll0 (vs.map fun w => PyData.str (T w)) = true := canAll_map (fun w => PyData.str (T w)) vs fun w hw => (h.2.2.all w hw).ok
      simp only [PyData.canLay0, PyData.canLayAll0, e1]; decide +kernel
    · have e2 := depthAll_map (fun w : List Nat => PyData.str (T w)) 0 vs (fun w _ => by simp [PyData.depth])
      simp only [PyData.depth, PyData.depthAll, Kd.dep]
      omega
  | .list k n, h => by
    simp only [Kd.ok] at h
    obtain ⟨u, u1, u2, u3⟩ := enc_dat k h.1
    refine ⟨.tuple [.str "list", u, .int n], ?_, ?_, ?_⟩
    · simp only [Kd.enc, dat, dats, u1, Option.map]
    · simp only [PyData.canLay0, PyData.canLayAll0, u2]; decide +kernel
    · simp only [PyData.depth, PyData.depthAll, Kd.dep]
      omega
  | .record fs, h => by
    simp only [Kd.ok] at h
    obtain ⟨us, u1, u2, u3⟩ := encs_dat fs h.1 (by
      have := h.2.2.1.all
      rw [Kds.names_map] at this
      exact fun y hy => this _ (List.mem_map_of_mem hy))
    refine ⟨.tuple [.str "record", .tuple us], ?_, ?_, ?_⟩
    · simp only [Kd.enc, dat, dats, u1, Option.map]
    · simp only [PyData.canLay0, PyData.canLayAll0, u2]; decide +kernel
    · simp only [PyData.depth, PyData.depthAll, Kd.dep]
      omega
  | .rows key k n, h => by
    simp only [Kd.ok] at h
    obtain ⟨u, u1, u2, u3⟩ := enc_dat k h.1
    have hkey : IsName key := by
      obtain ⟨ho, _, _, hr, q, hq, rfl, _⟩ := h
      cases k with
      | record fs =>
        simp only [Kd.ok] at ho
        have := ho.2.2.1.all
        rw [Kds.names_map] at this
        exact this _ (List.mem_map_of_mem hq)
      | _ => cases hr
    refine ⟨.tuple [.str "rows", .str (T key), u, .int n], ?_, ?_, ?_⟩
    · simp only [Kd.enc, dat, dats, u1, Option.map]
    · simp only [PyData.canLay0, PyData.canLayAll0, u2, hkey.ok]; decide +kernel
    · simp only [PyData.depth, PyData.depthAll, Kd.dep]
      omega
theorem encs_dat : ∀ fs : Kds, fs.ok → (∀ y ∈ fs.toL, IsName y.1) → ∃ us, dats fs.enc = some us ∧ PyData.canLayAll0 us = true ∧ PyData.depthAll us ≤ 3 * fs.dep + 1
  | .nil, _, _ => ⟨[], rfl, by simp [PyData.canLayAll0], by simp [PyData.depthAll]⟩
  | .cons n k r, h, hn => by
    simp only [Kds.ok] at h
    obtain ⟨u, u1, u2, u3⟩ := enc_dat k h.1
    obtain ⟨us, v1, v2, v3⟩ := encs_dat r h.2 fun y hy => hn y (by simp [Kds.toL, hy])
    have hk := (hn (n, k) (by simp [Kds.toL])).ok
    refine ⟨.tuple [.str (T n), u] :: us, ?_, ?_, ?_⟩
    · simp only [Kds.enc, dats, dat, u1, v1, Option.map]
    · simp only [PyData.canLay0, PyData.canLayAll0, u2, v2, hk]; decide +kernel
    · simp only [PyData.depth, PyData.depthAll, Kds.dep]
      omega
end
theorem ne_self {k : Kd} (h : k.ok) (hd : k.dep ≤ 5) {hp : Hp3} {Q : VK3} (q : Q (.bl false) hp) : ne3 k.enc k.enc hp Q := by
  obtain ⟨u, u1, u2, u3⟩ := enc_dat k h
  have hdat : datH hp k.enc = some u := by
    rw [enc_tail] at u1 ⊢
    exact u1
  have sh : SeqAt.shaped u = true := by
    unfold SeqAt.shaped
    rw [u2, Bool.true_and]
    exact decide_eq_true (by omega)
  rw [enc_tail] at hdat ⊢
  refine ⟨u, u, hdat, hdat, sh, sh, ?_⟩
  rw [PySem.SeqAt.eqv_refl u u2]
  exact q
end Old

end F_K24

section F_M25
/-! M25: the law. -/
namespace O85
open PySem PySem.Spec PyProof.Rows L2 L3 Old
local macro_rules
  | `(tactic| walk_at "sem") => `(tactic| simp only [↓e_next, ↓e_seq, ↓e_brk, ↓e_cont, ↓e_drop, ↓e_ret, ↓e_retN, ↓e_if, ↓e_asg, ↓e_par, ↓e_for, ↓e_raise, ↓e_sfld, ↓e_name, ↓e_gnil, ↓e_gcons, ↓e_gtup, ↓e_gsub, ↓e_setL, ↓e_var, ↓e_c, ↓e_op, ↓e_neg, ↓e_andV, ↓e_orV, ↓e_notV, ↓e_ifE, ↓e_chain, ↓e_chain4, ↓e_tup, ↓e_lst, ↓e_ixD, ↓e_inD, ↓e_sl, ↓e_noPart, ↓e_part, ↓e_cb, ↓e_cl, ↓e_joinL, ↓e_new, ↓e_lc, ↓e_bm, ↓e_bm0, ↓e_call, ↓e_meth, ↓e_fld, ↓e_make, ↓e_isN, ↓e_lenSet, ↓e_nil, ↓e_cons, ↓e_b, ↓e_and, ↓e_or, ↓e_not, ↓e_yes, ↓e_seqI, ↓e_rng1, ↓e_rng2, ↓e_addI, ↓e_addS, ↓e_addT, ↓e_addR, ↓e_sub, ↓e_div, ↓e_mod, ↓e_pow, ↓e_mulI, ↓e_mulS, ↓e_ltI, ↓e_leI, ↓e_gtI, ↓e_geI, ↓e_leS, ↓e_eqI, ↓e_eqS, ↓e_neI, ↓e_neS, ↓e_inC, ↓e_isN3, ↓e_ixT, ↓e_ixRo, ↓e_ixR, ↓e_lenS, ↓e_lenT, ↓e_lenRo, ↓e_lenR, ↓e_intI, ↓e_intB, ↓e_intS, ↓e_strI, ↓e_tupR, ↓e_minI, ↓e_maxI, ↓e_app, ↓e_rev, ↓e_join, ↓e_find3, start3, List.map_cons, List.map_nil, List.length_cons, List.length_nil, List.cons_append, List.nil_append, List.replicate, List.getElem?_cons_zero, List.getElem?_cons_succ, List.set_cons_zero, List.set_cons_succ, Nat.reduceAdd, Nat.reduceSub, Nat.zero_add, atI0, atI1, atI2, atI3, Option.some.injEq, if_true, Bool.false_eq_true, if_false, Bool.not_true, Bool.not_false, ofS_inj, String.reduceEq, decide_true, decide_false, exists_and_left, exists_eq_left', exists_eq_left, O3.ins.injEq, O3.lst.injEq, eq_self, true_and, and_true, ↓reduceIte, exists_const, exists_eq, exists_eq', and_self, Bool.xor_false, Bool.false_xor, Bool.true_xor, seq_ref, lst_ref, tyD, lkW, lkA, lkD, ptW, ptA, ptD, i_non_int, i_non_bool, i_non_str, i_non_tuple, i_non_list, i_bl_int, i_bl_bool, i_bl_str, i_bl_tuple, i_bl_list, i_int_int, i_int_bool, i_int_str, i_int_tuple, i_int_list, i_str_int, i_str_bool, i_str_str, i_str_tuple, i_str_list, i_tup_int, i_tup_bool, i_tup_str, i_tup_tuple, i_tup_list, i_rol_int, i_rol_bool, i_rol_str, i_rol_tuple, i_rol_list, lm_next_is, lm_due, lm_taken, lm_opened, lm_closed, lm_ended, lm_goes_on, lm_names, lm_kind_pairs, lm_name_pairs, lm_value_pairs, lm_values, lm_kind_parts, lm_kind, lm_value, lm_part, lm_parts, lm_turn, lm_piece, lm_path, *])
  | `(tactic| walk_at "sem0") => `(tactic| simp only [↓e_next, ↓e_seq, ↓e_brk, ↓e_cont, ↓e_drop, ↓e_ret, ↓e_retN, ↓e_if, ↓e_asg, ↓e_par, ↓e_for, ↓e_raise, ↓e_sfld, ↓e_name, ↓e_gnil, ↓e_gcons, ↓e_gtup, ↓e_gsub, ↓e_setL, ↓e_var, ↓e_c, ↓e_op, ↓e_neg, ↓e_andV, ↓e_orV, ↓e_notV, ↓e_ifE, ↓e_chain, ↓e_chain4, ↓e_tup, ↓e_lst, ↓e_ixD, ↓e_inD, ↓e_sl, ↓e_noPart, ↓e_part, ↓e_cb, ↓e_cl, ↓e_joinL, ↓e_new, ↓e_lc, ↓e_bm, ↓e_bm0, ↓e_call, ↓e_meth, ↓e_fld, ↓e_make, ↓e_isN, ↓e_lenSet, ↓e_nil, ↓e_cons, ↓e_b, ↓e_and, ↓e_or, ↓e_not, ↓e_yes, ↓e_seqI, ↓e_rng1, ↓e_rng2, ↓e_addI, ↓e_addS, ↓e_addT, ↓e_addR, ↓e_sub, ↓e_div, ↓e_mod, ↓e_pow, ↓e_mulI, ↓e_mulS, ↓e_ltI, ↓e_leI, ↓e_gtI, ↓e_geI, ↓e_leS, ↓e_eqI, ↓e_eqS, ↓e_neI, ↓e_neS, ↓e_inC, ↓e_isN3, ↓e_ixT, ↓e_ixRo, ↓e_ixR, ↓e_lenS, ↓e_lenT, ↓e_lenRo, ↓e_lenR, ↓e_intI, ↓e_intB, ↓e_intS, ↓e_strI, ↓e_tupR, ↓e_minI, ↓e_maxI, ↓e_app, ↓e_rev, ↓e_join, ↓e_find3, start3, List.map_cons, List.map_nil, List.length_cons, List.length_nil, List.cons_append, List.nil_append, List.replicate, List.getElem?_cons_zero, List.getElem?_cons_succ, List.set_cons_zero, List.set_cons_succ, Nat.reduceAdd, Nat.reduceSub, Nat.zero_add, atI0, atI1, atI2, atI3, Option.some.injEq, if_true, Bool.false_eq_true, if_false, Bool.not_true, Bool.not_false, ofS_inj, String.reduceEq, decide_true, decide_false, exists_and_left, exists_eq_left', exists_eq_left, O3.ins.injEq, O3.lst.injEq, eq_self, true_and, and_true, ↓reduceIte, exists_const, exists_eq, exists_eq', and_self, Bool.xor_false, Bool.false_xor, Bool.true_xor, seq_ref, lst_ref, tyD, lkW, lkA, lkD, ptW, ptA, ptD, i_non_int, i_non_bool, i_non_str, i_non_tuple, i_non_list, i_bl_int, i_bl_bool, i_bl_str, i_bl_tuple, i_bl_list, i_int_int, i_int_bool, i_int_str, i_int_tuple, i_int_list, i_str_int, i_str_bool, i_str_str, i_str_tuple, i_str_list, i_tup_int, i_tup_bool, i_tup_str, i_tup_tuple, i_tup_list, i_rol_int, i_rol_bool, i_rol_str, i_rol_tuple, i_rol_list, lm_next_is, lm_due, lm_taken, lm_opened, lm_closed, lm_ended, lm_goes_on, lm_names, lm_kind_pairs, lm_name_pairs, lm_value_pairs, lm_values, lm_kind_parts, lm_kind, lm_value, lm_part, lm_parts, lm_turn, lm_piece, lm_path])
section
variable {C C2 a p q r : Addr} {ds xs ys : List D} {h : Hp3} {Q : VK3} {E : XK3}
def spLaw : Sp3 := fun ds h Q _ => ∃ ns : List Int, (ds = [.rol (ns.map D.int)]) ∧ ns.length ≤ 63 ∧ Q (.bl true) h
def bLaw (E : XK3) : TS3 := (tSeq3 (tAsg3 (tCall3 spOwn (fun _ => E) (tCons3 (tVar3 0) (tCons3 (tVar3 1) (tCons3 (tVar3 2) tNil3)))) (gName3 3))
    (tSeq3 (tAsg3 (tCall3 (spKindL 5) (fun _ => E) (tCons3 (tVar3 3) (tCons3 (tC3 (.int 5)) (tCons3 (tLst3 (tCons3 (tC3 (.int 30)) tNil3)) tNil3)))) (gName3 4))
    (tSeq3 (tAsg3 (tCall3 (spWds 5) (fun _ => E) (tCons3 (tVar3 4) tNil3)) (gName3 5))
    (tSeq3 (tAsg3 (tCall3 spTight (fun _ => E) (tCons3 (tVar3 5) tNil3)) (gName3 6))
    (tIfS3 (tOr3 (tB3 (tOp3 ne3 (tCall3 (spKT 5) (fun _ => E) (tCons3 (tVar3 4) tNil3)) (tVar3 6))) (tOr3 (tB3 (tOp3 ne3 (tCall3 spReadKind (fun _ => E) (tCons3 (tVar3 6) tNil3)) (tVar3 4))) (tB3 (tOp3 ne3 (tCall3 spReadKind (fun _ => E) (tCons3 (tCall3 spLoose (fun _ => E) (tCons3 (tVar3 5) (tCons3 (tVar3 3) tNil3))) tNil3)) (tVar3 4))))) (tRet3 (tC3 (.bl false))) tNext3)))))
theorem law_turn {ns : List Int} {k t : Nat} {s3 s4 s5 s6 : Option D} (Dn : Ends3) (hk : k < 20) (ht : t < 20)
    (kk : ∀ (s3 s4 s5 s6 : Option D) (h2 : Hp3), Sub3 h h2 → Dn.nx [some (.rol (ns.map D.int)), some (.int (k : Int)), some (.int (t : Int)), s3, s4, s5, s6] h2) :
    bLaw (endX E) Dn [some (.rol (ns.map D.int)), some (.int (k : Int)), some (.int (t : Int)), s3, s4, s5, s6] h := by
  have zl := sizeLine_eq
  unfold bLaw
  walk_at "sem0"
  refine ⟨ns, k, t, rfl, hk, ht, fun c p np => ?_⟩
  walk_at "sem0"
  refine ⟨by omega, fun q nq => ?_⟩
  have npq : p ≠ q := ne_of_none upd3_same nq
  have nq0 : h q = none := sub_of_none nq
  refine ⟨p, q, c, 30, 5, rfl, npq, by rw [upd3_ne npq, upd3_same], upd3_same, by decide, by decide, fun c' m' kd g => ?_⟩
  have e0 : H2 (upd3 (upd3 h p (.lst [.int c])) q (.lst [.int 30])) p c' q m' = H2 h p c' q m' := H2_H2 npq
  rw [e0]
  have hok := g.ok
  have hdep := g.dep
  have hsz : kd.size ≤ 25 := by
    have := g.size
    have : left 30 = 6 := rfl
    omega
  have hsum := kind_sum kd hok
  have hws := ws_le (Kd.ws kd)
  have htl := tight_le (Kd.ws kd)
  have htx := kind_tight kd hok
  refine ⟨kd, rfl, hdep, kind_nums kd hok, by omega, fun x nx => ?_⟩
  obtain ⟨nx1, nx2, nx3⟩ := H2_none nx
  rw [H2_up nx1 nx2]
  have hx : H2 (upd3 h x (.lst (strD (Kd.ws kd)))) p c' q m' x = some (.lst (strD (Kd.ws kd))) := (H2_o nx1 nx2).trans upd3_same
  have sb : Sub3 h (H2 (upd3 h x (.lst (strD (Kd.ws kd)))) p c' q m') := sub_fresh nq0 (sub_fresh np (sub_upd nx3))
  refine ⟨x, Kd.ws kd, rfl, hx, by omega, by omega, ?_⟩
  refine ⟨kd, rfl, hdep, kind_nums kd hok, by rw [← htx]; omega, ?_⟩
  rw [htx]
  walk_at "sem0"
  obtain ⟨us, eu, el⟩ := tight_loose (Kd.ws kd)
  have hlex := lex_of hok eu 0
  rw [el, htx] at hlex
  refine ⟨kd.txt, kd, rfl, hlex, by rw [← htx]; omega, hok, hdep, by omega, kind_wide kd hok, ?_⟩
  refine ne_self hok hdep ?_
  walk_at "sem0"
  refine ⟨x, p, Kd.ws kd, c', rfl, nx1, hx, H2_p npq, (show wsum (Kd.ws kd) ≤ 1000000 by omega), by omega, fun b us2 c2 hb eu2 hu2 => ?_⟩
  rw [H2_RW npq]
  have hl2 := loose_le hu2
  rw [eu2] at hl2
  refine ⟨blanks b ++ looseL us2, kd, rfl, lex_of hok eu2 b, by simp [blanks]; omega, hok, hdep, by omega, kind_wide kd hok, ?_⟩
  refine ne_self hok hdep ?_
  walk_at "sem0"
  refine kk _ _ _ _ _ ?_
  exact sub_fresh nq0 (sub_fresh np (sub_upd nx3))
theorem sem_law (s : spLaw ds h Q E) : r_law (spKT 5) spReadKind spLoose spTight (spWds 5) (spKindL 5) spOwn (endX E) (endsOf Q) (start3 ["script", "k", "turn", "row", "kind", "words", "text"] ds) h := by
  obtain ⟨ns, rfl, hl, q⟩ := s
  have zl := sizeLine_eq
  unfold r_law
  walk_at "sem0"
  have hm : 0 ≤ min 12 (1 + (((ns.map D.int).length : Nat) : Int)) ∧ min 12 (1 + (((ns.map D.int).length : Nat) : Int)) ≤ 12 := by omega
  generalize min 12 (1 + (((ns.map D.int).length : Nat) : Int)) = m at *
  refine ⟨by omega, by omega, ?_⟩
  have inner : ∀ (i t k : Nat) (h1 : Hp3) (s2 s3 s4 s5 s6 : Option D) (Dn : Ends3), i + t = 5 → k < 20 → (∀ (s2 s3 s4 s5 s6 : Option D) (h2 : Hp3), Sub3 h1 h2 → Dn.nx [some (.rol (ns.map D.int)), some (.int (k : Int)), s2, s3, s4, s5, s6] h2) →
      for3 (fun _ => True) (gName3 2) (bLaw (endX E)) Dn ((List.range' t i).map fun (i : Nat) => D.int (0 + (i : Int))) [some (.rol (ns.map D.int)), some (.int (k : Int)), s2, s3, s4, s5, s6] h1 := by
    intro i
    induction i with
    | zero => intro t k h1 s2 s3 s4 s5 s6 Dn e hk kk; exact ⟨trivial, kk _ _ _ _ _ _ sub_refl⟩
    | succ i ih =>
      intro t k h1 s2 s3 s4 s5 s6 Dn e hk kk
      rw [List.range'_succ, List.map_cons]
      refine ⟨trivial, ?_⟩
      rw [e_name, show (0 : Int) + (t : Int) = (t : Int) by omega]
      refine law_turn _ hk (by omega) fun s3 s4 s5 s6 h2 sb => ?_
      exact ih (t + 1) k h2 _ _ _ _ _ Dn (by omega) hk fun a b c d e h3 s3 => kk a b c d e h3 (sb.trans s3)
  have r5 : rng 0 (5 : Int).toNat = (List.range' 0 5).map fun (i : Nat) => D.int (0 + (i : Int)) := by
    unfold rng
    rw [List.range_eq_range']
    rfl
  have outer : ∀ (i k : Nat) (h1 : Hp3) (s1 s2 s3 s4 s5 s6 : Option D) (Dn : Ends3), i + k ≤ 12 → (∀ (s1 s2 s3 s4 s5 s6 : Option D) (h2 : Hp3), Sub3 h1 h2 → Dn.nx [some (.rol (ns.map D.int)), s1, s2, s3, s4, s5, s6] h2) →
      for3 (fun _ => True) (gName3 1) (tFor3 (iRng13 (tCons3 (tC3 (.int 5)) tNil3)) (gName3 2) (bLaw (endX E))) Dn ((List.range' k i).map fun (i : Nat) => D.int (0 + (i : Int))) [some (.rol (ns.map D.int)), s1, s2, s3, s4, s5, s6] h1 := by
    intro i
    induction i with
    | zero => intro k h1 s1 s2 s3 s4 s5 s6 Dn e kk; exact ⟨trivial, kk _ _ _ _ _ _ _ sub_refl⟩
    | succ i ih =>
      intro k h1 s1 s2 s3 s4 s5 s6 Dn e kk
      rw [List.range'_succ, List.map_cons]
      refine ⟨trivial, ?_⟩
      rw [e_name, show (0 : Int) + (k : Int) = (k : Int) by omega]
      walk_at "sem0"
      refine ⟨by decide, by decide, ?_⟩
      rw [r5]
      refine inner 5 0 k h1 _ _ _ _ _ _ rfl (by omega) fun s2 s3 s4 s5 s6 h2 sb => ?_
      exact ih (k + 1) h2 _ _ _ _ _ _ Dn (by omega) fun a b c d e f h3 s3 => kk a b c d e f h3 (sb.trans s3)
  have rm : rng 0 m.toNat = (List.range' 0 m.toNat).map fun (i : Nat) => D.int (0 + (i : Int)) := by
    unfold rng
    rw [List.range_eq_range']
  rw [rm]
  refine outer m.toNat 0 h none none none none none none _ (by omega) fun s1 s2 s3 s4 s5 s6 h2 sb => ?_
  exact ends_rt2 sb q
end
end O85

end F_M25

section F_M26
/-! M26: signs of a text. -/
namespace O85
open PySem PySem.Spec PyProof.Rows L2 L3 Old
local macro_rules
  | `(tactic| walk_at "sem") => `(tactic| simp only [↓e_next, ↓e_seq, ↓e_brk, ↓e_cont, ↓e_drop, ↓e_ret, ↓e_retN, ↓e_if, ↓e_asg, ↓e_par, ↓e_for, ↓e_raise, ↓e_sfld, ↓e_name, ↓e_gnil, ↓e_gcons, ↓e_gtup, ↓e_gsub, ↓e_setL, ↓e_var, ↓e_c, ↓e_op, ↓e_neg, ↓e_andV, ↓e_orV, ↓e_notV, ↓e_ifE, ↓e_chain, ↓e_chain4, ↓e_tup, ↓e_lst, ↓e_ixD, ↓e_inD, ↓e_sl, ↓e_noPart, ↓e_part, ↓e_cb, ↓e_cl, ↓e_joinL, ↓e_new, ↓e_lc, ↓e_bm, ↓e_bm0, ↓e_call, ↓e_meth, ↓e_fld, ↓e_make, ↓e_isN, ↓e_lenSet, ↓e_nil, ↓e_cons, ↓e_b, ↓e_and, ↓e_or, ↓e_not, ↓e_yes, ↓e_seqI, ↓e_rng1, ↓e_rng2, ↓e_addI, ↓e_addS, ↓e_addT, ↓e_addR, ↓e_sub, ↓e_div, ↓e_mod, ↓e_pow, ↓e_mulI, ↓e_mulS, ↓e_ltI, ↓e_leI, ↓e_gtI, ↓e_geI, ↓e_leS, ↓e_eqI, ↓e_eqS, ↓e_neI, ↓e_neS, ↓e_inC, ↓e_isN3, ↓e_ixT, ↓e_ixRo, ↓e_ixR, ↓e_lenS, ↓e_lenT, ↓e_lenRo, ↓e_lenR, ↓e_intI, ↓e_intB, ↓e_intS, ↓e_strI, ↓e_tupR, ↓e_minI, ↓e_maxI, ↓e_app, ↓e_rev, ↓e_join, ↓e_find3, start3, List.map_cons, List.map_nil, List.length_cons, List.length_nil, List.cons_append, List.nil_append, List.replicate, List.getElem?_cons_zero, List.getElem?_cons_succ, List.set_cons_zero, List.set_cons_succ, Nat.reduceAdd, Nat.reduceSub, Nat.zero_add, atI0, atI1, atI2, atI3, Option.some.injEq, if_true, Bool.false_eq_true, if_false, Bool.not_true, Bool.not_false, ofS_inj, String.reduceEq, decide_true, decide_false, exists_and_left, exists_eq_left', exists_eq_left, O3.ins.injEq, O3.lst.injEq, eq_self, true_and, and_true, ↓reduceIte, exists_const, exists_eq, exists_eq', and_self, Bool.xor_false, Bool.false_xor, Bool.true_xor, seq_ref, lst_ref, tyD, lkW, lkA, lkD, ptW, ptA, ptD, i_non_int, i_non_bool, i_non_str, i_non_tuple, i_non_list, i_bl_int, i_bl_bool, i_bl_str, i_bl_tuple, i_bl_list, i_int_int, i_int_bool, i_int_str, i_int_tuple, i_int_list, i_str_int, i_str_bool, i_str_str, i_str_tuple, i_str_list, i_tup_int, i_tup_bool, i_tup_str, i_tup_tuple, i_tup_list, i_rol_int, i_rol_bool, i_rol_str, i_rol_tuple, i_rol_list, lm_next_is, lm_due, lm_taken, lm_opened, lm_closed, lm_ended, lm_goes_on, lm_names, lm_kind_pairs, lm_name_pairs, lm_value_pairs, lm_values, lm_kind_parts, lm_kind, lm_value, lm_part, lm_parts, lm_turn, lm_piece, lm_path, *])
  | `(tactic| walk_at "sem0") => `(tactic| simp only [↓e_next, ↓e_seq, ↓e_brk, ↓e_cont, ↓e_drop, ↓e_ret, ↓e_retN, ↓e_if, ↓e_asg, ↓e_par, ↓e_for, ↓e_raise, ↓e_sfld, ↓e_name, ↓e_gnil, ↓e_gcons, ↓e_gtup, ↓e_gsub, ↓e_setL, ↓e_var, ↓e_c, ↓e_op, ↓e_neg, ↓e_andV, ↓e_orV, ↓e_notV, ↓e_ifE, ↓e_chain, ↓e_chain4, ↓e_tup, ↓e_lst, ↓e_ixD, ↓e_inD, ↓e_sl, ↓e_noPart, ↓e_part, ↓e_cb, ↓e_cl, ↓e_joinL, ↓e_new, ↓e_lc, ↓e_bm, ↓e_bm0, ↓e_call, ↓e_meth, ↓e_fld, ↓e_make, ↓e_isN, ↓e_lenSet, ↓e_nil, ↓e_cons, ↓e_b, ↓e_and, ↓e_or, ↓e_not, ↓e_yes, ↓e_seqI, ↓e_rng1, ↓e_rng2, ↓e_addI, ↓e_addS, ↓e_addT, ↓e_addR, ↓e_sub, ↓e_div, ↓e_mod, ↓e_pow, ↓e_mulI, ↓e_mulS, ↓e_ltI, ↓e_leI, ↓e_gtI, ↓e_geI, ↓e_leS, ↓e_eqI, ↓e_eqS, ↓e_neI, ↓e_neS, ↓e_inC, ↓e_isN3, ↓e_ixT, ↓e_ixRo, ↓e_ixR, ↓e_lenS, ↓e_lenT, ↓e_lenRo, ↓e_lenR, ↓e_intI, ↓e_intB, ↓e_intS, ↓e_strI, ↓e_tupR, ↓e_minI, ↓e_maxI, ↓e_app, ↓e_rev, ↓e_join, ↓e_find3, start3, List.map_cons, List.map_nil, List.length_cons, List.length_nil, List.cons_append, List.nil_append, List.replicate, List.getElem?_cons_zero, List.getElem?_cons_succ, List.set_cons_zero, List.set_cons_succ, Nat.reduceAdd, Nat.reduceSub, Nat.zero_add, atI0, atI1, atI2, atI3, Option.some.injEq, if_true, Bool.false_eq_true, if_false, Bool.not_true, Bool.not_false, ofS_inj, String.reduceEq, decide_true, decide_false, exists_and_left, exists_eq_left', exists_eq_left, O3.ins.injEq, O3.lst.injEq, eq_self, true_and, and_true, ↓reduceIte, exists_const, exists_eq, exists_eq', and_self, Bool.xor_false, Bool.false_xor, Bool.true_xor, seq_ref, lst_ref, tyD, lkW, lkA, lkD, ptW, ptA, ptD, i_non_int, i_non_bool, i_non_str, i_non_tuple, i_non_list, i_bl_int, i_bl_bool, i_bl_str, i_bl_tuple, i_bl_list, i_int_int, i_int_bool, i_int_str, i_int_tuple, i_int_list, i_str_int, i_str_bool, i_str_str, i_str_tuple, i_str_list, i_tup_int, i_tup_bool, i_tup_str, i_tup_tuple, i_tup_list, i_rol_int, i_rol_bool, i_rol_str, i_rol_tuple, i_rol_list, lm_next_is, lm_due, lm_taken, lm_opened, lm_closed, lm_ended, lm_goes_on, lm_names, lm_kind_pairs, lm_name_pairs, lm_value_pairs, lm_values, lm_kind_parts, lm_kind, lm_value, lm_part, lm_parts, lm_turn, lm_piece, lm_path])
section
variable {C C2 a p q r : Addr} {ds xs ys : List D} {h : Hp3} {Q : VK3} {E : XK3}
def spIsSign : Sp3 := fun ds h Q _ => ∃ c : Nat, (ds = [.str (T [c])]) ∧ isSg c ∧ Q (.bl true) h
theorem ne_lt (c d : Nat) : ([c] < [d]) = (c < d) := by
  simp [List.cons_lt_cons_iff]
theorem sem_is_sign (s : spIsSign ds h Q E) : r_is_sign (endX E) (endsOf Q) (start3 ["sign"] ds) h := by
  obtain ⟨c, rfl, ⟨h1, h2, h3, h4⟩, q⟩ := s
  unfold r_is_sign
  rw [show Str.ofString " " = T [32] by decide, show Str.ofString "~" = T [126] by decide, lit_q]
  have e1 : decide ((T [c]).cps.toList < (T [32]).cps.toList) = false := decide_eq_false (by rw [T_cps, T_cps, ne_lt]; omega)
  have e2 : decide ((T [126]).cps.toList < (T [c]).cps.toList) = false := decide_eq_false (by rw [T_cps, T_cps, ne_lt]; omega)
  have e3 := chr_f h3
  have e4 : decide ((c : Int) = 37) = false := decide_eq_false (by omega)
  have eo : ∀ (h : Hp3) (Q : VK3), ord3 [.str (T [c])] h Q = Q (.int (c : Nat)) h := fun h Q => e_ord
  walk_at "sem"
  exact ends_rt q
theorem getD_T {l : List Nat} {k : Nat} : (T l).cps.getD k 0 = l.getD k 0 := by
  show (l.toArray).getD k 0 = l.getD k 0
  simp
theorem find_q {pre s post : List Nat} (hs : ∀ c ∈ s, isSg c) : Txt.find3 (T (pre ++ (34 :: (s ++ 34 :: post)))) (T [34]) ((pre.length : Int) + 1) = ((pre.length + 1 + s.length : Nat) : Int) := by
  have hlen : (T (pre ++ (34 :: (s ++ 34 :: post)))).length = pre.length + (s.length + (post.length + 2)) := by
    rw [T_len]; simp; omega
  have hfr : PySem.fromIndex (T (pre ++ (34 :: (s ++ 34 :: post)))).length ((pre.length : Int) + 1) = pre.length + 1 := by
    rw [hlen]
    unfold PySem.fromIndex
    rw [if_neg (by omega)]
    omega
  have at1 : ∀ j, (pre ++ (34 :: (s ++ 34 :: post))).getD (pre.length + 1 + j) 0 = (s ++ 34 :: post).getD j 0 := fun j => by
    rw [List.getD_eq_getElem?_getD, List.getD_eq_getElem?_getD, List.getElem?_append_right (by omega), show pre.length + 1 + j - pre.length = j + 1 by omega, List.getElem?_cons_succ]
  have hin : ∀ j, j < s.length → (s ++ 34 :: post).getD j 0 ≠ 34 := fun j hj => by
    rw [List.getD_eq_getElem?_getD, List.getElem?_append_left hj, List.getElem?_eq_getElem hj]
    exact (hs _ (List.getElem_mem hj)).2.2.1
  have hend : (s ++ 34 :: post).getD s.length 0 = 34 := by
    rw [List.getD_eq_getElem?_getD, List.getElem?_append_right (Nat.le_refl _)]
    simp
  rcases StrLaws.find3_spec (T (pre ++ (34 :: (s ++ 34 :: post)))) 34 ((pre.length : Int) + 1) with ⟨_, hn⟩ | ⟨k, e, k1, k2, k3, k4⟩
  · have := hn (pre.length + 1 + s.length) (by rw [hfr]; omega) (by rw [hlen]; omega)
    rw [getD_T, at1] at this
    exact (this hend).elim
  · show Txt.find3 _ ⟨#[34]⟩ _ = _
    rw [e]
    rw [hfr] at k1 k4
    have hk : k = pre.length + 1 + s.length := by
      rcases Nat.lt_trichotomy k (pre.length + 1 + s.length) with z | z | z
      · have e2 : k = pre.length + 1 + (k - (pre.length + 1)) := by omega
        rw [e2, getD_T, at1] at k3
        exact (hin _ (by omega) k3).elim
      · exact z
      · have := k4 (pre.length + 1 + s.length) (by omega) z
        rw [getD_T, at1] at this
        exact (this hend).elim
    rw [hk]
theorem sem_quoted_end (s : spQuoted ds h Q E) : r_quoted_end C2 spIsSign (endX E) (endsOf Q) (start3 ["text", "at", "end", "sign"] ds) h := by
  obtain ⟨pre, s, post, Z, rfl, hZ, hs, hz, q⟩ := s
  have hzl : pre.length + (s.length + (post.length + 2)) ≤ 16777216 := by rw [← hZ, T_len] at hz; simp at hz; omega
  have hf := find_q (pre := pre) (post := post) hs
  rw [hZ, ← lit_q] at hf
  have hZ2 : T ((pre ++ [34]) ++ (s ++ 34 :: post)) = Z := by rw [← hZ]; simp
  have cc : ∀ (h : Hp3) (Q : VK3), sl3 (.str Z) (some ((pre.length : Int) + 1)) (some ((pre.length + 1 + s.length : Nat) : Int)) h Q = (Z.length ≤ sizeLine ∧ Q (.str (T s)) h) := fun h Q => cut_T hZ2 (by simp) (by simp)
  have e1 : decide (((pre.length + 1 + s.length : Nat) : Int) < 0) = false := decide_eq_false (by omega)
  unfold r_quoted_end
  have zs : Z.length ≤ sizeLine := by rw [sizeLine_eq]; exact hz
  have ef : ∀ (h : Hp3) (Q : VK3), find3 (.str Z) [.str (Str.ofString "\""), .int ((pre.length : Int) + 1)] h Q = Q (.int ((pre.length + 1 + s.length : Nat) : Int)) h := fun h Q => by rw [e_find3, hf]
  clear ef hZ hZ2 hz
  generalize hN : pre.length + 1 + s.length = N at *
  walk_at "sem"
  refine lc3_maps sgn (fun _ => D.bl true) trivial s [] (by rw [sizeLine_eq]; simp; omega) (fun c hc Q hq => ?_) ?_
  · simp only [wipe3]
    walk_at "sem0"
    exact ⟨c, rfl, hs c hc, hq⟩
  · refine ⟨s.map fun _ => true, by simp, ?_⟩
    rw [all_true]
    walk_at "sem0"
    refine ends_rt ?_
    have : ((N : Nat) : Int) + 1 = ((pre.length + s.length + 2 : Nat) : Int) := by omega
    rw [this]
    exact q
end
end O85

end F_M26

section F_D85
/-! Each def keeps its promise (printed by gen2.py). -/
namespace O85
open PySem PySem.Spec PyProof.Rows L2 L3
section
variable {w : World} {K : Fg} {mg : Str → Option Value} {base : Heap} {k : Nat}
abbrev Ok (w : World) (K : Fg) (mg : Str → Option Value) (base : Heap) (k : Nat) (d : He.DefD) (ps : List Str) (sp : Sp3) : Prop := FnOk PR w K mg base (L2.CX PR w) k (He.fAd K d.at_) (fdOf K d) ps (sp2 K sp)
def spNone : Sp3 := fun _ _ _ _ => False
theorem ok_none {d : He.DefD} {ps : List Str} : Ok w K mg base 0 d ps spNone := ⟨fun _ _ _ _ h => let ⟨_, _, _, _, _, _, h, _⟩ := h; h.elim, fun _ _ _ _ _ _ _ _ _ _ _ _ _ h => let ⟨_, _, _, _, _, _, h, _⟩ := h; h.elim⟩
theorem sc_in_brackets : FnScope ["word", "texts"] ["word", "texts"] (defScope s_in_brackets) := ⟨rfl, rfl, rfl, by decide +kernel, rfl, by decide +kernel, by decide +kernel⟩
theorem o_in_brackets (T : Txt w K mg) {sp : Sp3} (len : ∀ ds h Q E, sp ds h Q E → ds.length = 2) (sem : ∀ ds h Q E, sp ds h Q E → r_in_brackets (endX E) (endsOf Q) (start3 ["word", "texts"] ds) h) : Ok w K mg base (k + 1) d_in_brackets ["word", "texts"] sp :=
  ok3 T.F_in_brackets sc_in_brackets len fun cdv A outer s H E ds h Q E3 hr hs tk => ⟨_, by
    show PSs3 _ _ (defBody s_in_brackets) (r_in_brackets (endX E3))
    exact (pss3_one (ps3_ret (pe3_op op3_add (pe3_op op3_add (pe3_op op3_add (pv3 0) pe3_str) (pe3_bm PySem.F.plainAttrs_str PySem.F.slot_str_join PySem.F.type_str_join mt3_join pe3_str (pa3_cons (pv3 1) pa3_nil))) pe3_str))), sem _ _ _ _ hs⟩
theorem sc_pairs_text : FnScope ["pairs", "name", "text"] ["pairs"] (defScope s_pairs_text) := ⟨rfl, rfl, rfl, by decide +kernel, rfl, by decide +kernel, by decide +kernel⟩
theorem o_pairs_text (T : Txt w K mg) {sp : Sp3} (len : ∀ ds h Q E, sp ds h Q E → ds.length = 1) (sem : ∀ ds h Q E, sp ds h Q E → r_pairs_text (endX E) (endsOf Q) (start3 ["pairs", "name", "text"] ds) h) : Ok w K mg base (k + 1) d_pairs_text ["pairs"] sp :=
  ok3 T.F_pairs_text sc_pairs_text len fun cdv A outer s H E ds h Q E3 hr hs tk => ⟨_, by
    show PSs3 _ _ (defBody s_pairs_text) (r_pairs_text (endX E3))
    exact (pss3_one (ps3_ret (pe3_joinL pe3_str (pl3_lc (own := [("name", 1), ("text", 2)]) rfl sc_pairs_text.nd (pi3_seq (pv3 0)) (blkOk_by (own := [("name", 1), ("text", 2)]) (N := ["pairs", "name", "text"]) (sc := defScope s_pairs_text) (by decide +kernel)) (gl_two (by decide) (by decide)) (fun _ _ _ _ _ => pg_tup rfl (pgs_cons (pg_name (i := 1) sc_pairs_text.nd rfl (Or.inl rfl)) (pgs_cons (pg_name (i := 2) sc_pairs_text.nd rfl (Or.inl rfl)) pgs_nil))) (fun _ _ _ _ _ => pts3_nil) (fun _ _ _ _ _ => (pe3_op op3_add (pe3_op op3_add (pv3 1) pe3_str) (pv3 2))))))), sem _ _ _ _ hs⟩
theorem sc_kind_text : FnScope ["kind", "word", "name", "inner"] ["kind"] (defScope s_kind_text) := ⟨rfl, rfl, rfl, by decide +kernel, rfl, by decide +kernel, by decide +kernel⟩
theorem o_kind_text (T : Txt w K mg) {k_in_brackets : Nat} {sp_in_brackets : Sp3} (G_in_brackets : Ok w K mg base k_in_brackets d_in_brackets ["word", "texts"] sp_in_brackets) (l_in_brackets : k_in_brackets ≤ k) {k_kind_text : Nat} {sp_kind_text : Sp3} (G_kind_text : Ok w K mg base k_kind_text d_kind_text ["kind"] sp_kind_text) (l_kind_text : k_kind_text ≤ k) {k_pairs_text : Nat} {sp_pairs_text : Sp3} (G_pairs_text : Ok w K mg base k_pairs_text d_pairs_text ["pairs"] sp_pairs_text) (l_pairs_text : k_pairs_text ≤ k) {sp : Sp3} (len : ∀ ds h Q E, sp ds h Q E → ds.length = 1) (sem : ∀ ds h Q E, sp ds h Q E → r_kind_text sp_in_brackets sp_kind_text sp_pairs_text (endX E) (endsOf Q) (start3 ["kind", "word", "name", "inner"] ds) h) : Ok w K mg base (k + 1) d_kind_text ["kind"] sp :=
  ok3 T.F_kind_text sc_kind_text len fun cdv A outer s H E ds h Q E3 hr hs tk => ⟨_, by
    show PSs3 _ _ (defBody s_kind_text) (r_kind_text sp_in_brackets sp_kind_text sp_pairs_text (endX E3))
    exact (pss3_cons (ps3_set (i := 1) sc_kind_text.nd rfl (.inl rfl) (pe3_ix (pv3 0) pe3_int))
    (pss3_cons (ps3_if (pt3_cmp (op3_eq hr.units) (pv3 1) pe3_str (nomark _)) (pss3_one (ps3_ret (pe3_call G_in_brackets (hr.mono l_in_brackets) rfl T.g_in_brackets T.F_in_brackets.kp T.b_in_brackets tk (pa3_cons (pv3 1) (pa3_cons (pe3_lst (pa3_cons (pe3_callTy cr3_str rfl T.z_str (by decide +kernel) (pa3_cons (pe3_ix (pv3 0) pe3_int) pa3_nil)) (pa3_cons (pe3_callTy cr3_str rfl T.z_str (by decide +kernel) (pa3_cons (pe3_ix (pv3 0) pe3_int) pa3_nil)) pa3_nil))) pa3_nil))))) pss3_nil)
    (pss3_cons (ps3_if (pt3_cmp (op3_eq hr.units) (pv3 1) pe3_str (nomark _)) (pss3_one (ps3_ret (pe3_call G_in_brackets (hr.mono l_in_brackets) rfl T.g_in_brackets T.F_in_brackets.kp T.b_in_brackets tk (pa3_cons (pv3 1) (pa3_cons (pe3_lst (pa3_cons (pe3_callTy cr3_str rfl T.z_str (by decide +kernel) (pa3_cons (pe3_ix (pv3 0) pe3_int) pa3_nil)) pa3_nil)) pa3_nil))))) pss3_nil)
    (pss3_cons (ps3_if (pt3_cmp (op3_eq hr.units) (pv3 1) pe3_str (nomark _)) (pss3_one (ps3_ret (pe3_call G_in_brackets (hr.mono l_in_brackets) rfl T.g_in_brackets T.F_in_brackets.kp T.b_in_brackets tk (pa3_cons (pv3 1) (pa3_cons (pe3_ix (pv3 0) pe3_int) pa3_nil))))) pss3_nil)
    (pss3_cons (ps3_if (pt3_cmp (op3_eq hr.units) (pv3 1) pe3_str (nomark _)) (pss3_one (ps3_ret (pe3_call G_in_brackets (hr.mono l_in_brackets) rfl T.g_in_brackets T.F_in_brackets.kp T.b_in_brackets tk (pa3_cons (pv3 1) (pa3_cons (pe3_lst (pa3_cons (pe3_callTy cr3_str rfl T.z_str (by decide +kernel) (pa3_cons (pe3_ix (pv3 0) pe3_int) pa3_nil)) (pa3_cons (pe3_call G_kind_text (hr.mono l_kind_text) rfl T.g_kind_text T.F_kind_text.kp T.b_kind_text tk (pa3_cons (pe3_ix (pv3 0) pe3_int) pa3_nil)) pa3_nil))) pa3_nil))))) pss3_nil)
    (pss3_cons (ps3_if (pt3_cmp (op3_eq hr.units) (pv3 1) pe3_str (nomark _)) (pss3_one (ps3_ret (pe3_op op3_add (pe3_op op3_add (pe3_op op3_add (pv3 1) pe3_str) (pe3_call G_pairs_text (hr.mono l_pairs_text) rfl T.g_pairs_text T.F_pairs_text.kp T.b_pairs_text tk (pa3_cons (pe3_new (pl3_lc (own := [("name", 2), ("inner", 3)]) rfl sc_kind_text.nd (pi3_seq (pe3_ix (pv3 0) pe3_int)) (blkOk_by (own := [("name", 2), ("inner", 3)]) (N := ["kind", "word", "name", "inner"]) (sc := defScope s_kind_text) (by decide +kernel)) (gl_two (by decide) (by decide)) (fun _ _ _ _ _ => pg_tup rfl (pgs_cons (pg_name (i := 2) sc_kind_text.nd rfl (Or.inl rfl)) (pgs_cons (pg_name (i := 3) sc_kind_text.nd rfl (Or.inl rfl)) pgs_nil))) (fun _ _ _ _ _ => pts3_nil) (fun _ _ _ _ _ => (pe3_tup (pa3_cons (pv3 2) (pa3_cons (pe3_call G_kind_text (hr.mono l_kind_text) rfl T.g_kind_text T.F_kind_text.kp T.b_kind_text tk3_none (pa3_cons (pv3 3) pa3_nil)) pa3_nil)))))) pa3_nil))) pe3_str))) pss3_nil)
    (pss3_one (ps3_ret (pe3_call G_in_brackets (hr.mono l_in_brackets) rfl T.g_in_brackets T.F_in_brackets.kp T.b_in_brackets tk (pa3_cons (pv3 1) (pa3_cons (pe3_lst (pa3_cons (pe3_ix (pv3 0) pe3_int) (pa3_cons (pe3_callTy cr3_str rfl T.z_str (by decide +kernel) (pa3_cons (pe3_ix (pv3 0) pe3_int) pa3_nil)) (pa3_cons (pe3_call G_kind_text (hr.mono l_kind_text) rfl T.g_kind_text T.F_kind_text.kp T.b_kind_text tk (pa3_cons (pe3_ix (pv3 0) pe3_int) pa3_nil)) pa3_nil)))) pa3_nil))))))))))), sem _ _ _ _ hs⟩
theorem sc_is_whole : FnScope ["thing"] ["thing"] (defScope s_is_whole) := ⟨rfl, rfl, rfl, by decide +kernel, rfl, by decide +kernel, by decide +kernel⟩
theorem o_is_whole (T : Txt w K mg) {sp : Sp3} (len : ∀ ds h Q E, sp ds h Q E → ds.length = 1) (sem : ∀ ds h Q E, sp ds h Q E → r_is_whole (endX E) (endsOf Q) (start3 ["thing"] ds) h) : Ok w K mg base (k + 1) d_is_whole ["thing"] sp :=
  ok3 T.F_is_whole sc_is_whole len fun cdv A outer s H E ds h Q E3 hr hs tk => ⟨_, by
    show PSs3 _ _ (defBody s_is_whole) (r_is_whole (endX E3))
    exact (pss3_one (ps3_ret (pe3_and (pe3_callB cr3_isi rfl T.z_isinstance (by decide +kernel) (pa3_cons (pv3 0) (pa3_cons (pe3_ty rfl T.z_int (by decide +kernel)) pa3_nil))) (pe3_one (pe3_not (pe3_callB cr3_isi rfl T.z_isinstance (by decide +kernel) (pa3_cons (pv3 0) (pa3_cons (pe3_ty rfl T.z_bool (by decide +kernel)) pa3_nil)))))))), sem _ _ _ _ hs⟩
theorem sc_is_number_kind : FnScope ["kind"] ["kind"] (defScope s_is_number_kind) := ⟨rfl, rfl, rfl, by decide +kernel, rfl, by decide +kernel, by decide +kernel⟩
theorem o_is_number_kind (T : Txt w K mg) {k_is_whole : Nat} {sp_is_whole : Sp3} (G_is_whole : Ok w K mg base k_is_whole d_is_whole ["thing"] sp_is_whole) (l_is_whole : k_is_whole ≤ k) {sp : Sp3} (len : ∀ ds h Q E, sp ds h Q E → ds.length = 1) (sem : ∀ ds h Q E, sp ds h Q E → r_is_number_kind sp_is_whole (endX E) (endsOf Q) (start3 ["kind"] ds) h) : Ok w K mg base (k + 1) d_is_number_kind ["kind"] sp :=
  ok3 T.F_is_number_kind sc_is_number_kind len fun cdv A outer s H E ds h Q E3 hr hs tk => ⟨_, by
    show PSs3 _ _ (defBody s_is_number_kind) (r_is_number_kind sp_is_whole (endX E3))
    exact (pss3_cons (ps3_if (pw3_pt (pw3_or (pt3_cmp (op3_ne hr.units) (pe3_callB cr3_len rfl T.z_len (by decide +kernel) (pa3_cons (pv3 0) pa3_nil)) pe3_int (nomark _)) (pw3_or (pt3_not (pt3_val (pe3_call G_is_whole (hr.mono l_is_whole) rfl T.g_is_whole T.F_is_whole.kp T.b_is_whole tk (pa3_cons (pe3_ix (pv3 0) pe3_int) pa3_nil)))) (pw3_or1 (pt3_not (pt3_val (pe3_call G_is_whole (hr.mono l_is_whole) rfl T.g_is_whole T.F_is_whole.kp T.b_is_whole tk (pa3_cons (pe3_ix (pv3 0) pe3_int) pa3_nil)))))))) (pss3_one (ps3_ret pe3_bl)) pss3_nil)
    (pss3_one (ps3_ret (pe3_chain4 op3_le op3_le op3_le (pe3_neg (pe3_gint rfl T.c_MOST_NUMBER)) (pe3_ix (pv3 0) pe3_int) (pe3_ix (pv3 0) pe3_int) (pe3_gint rfl T.c_MOST_NUMBER))))), sem _ _ _ _ hs⟩
theorem sc_is_name : FnScope ["text", "sign"] ["text"] (defScope s_is_name) := ⟨rfl, rfl, rfl, by decide +kernel, rfl, by decide +kernel, by decide +kernel⟩
theorem o_is_name (T : Txt w K mg) {sp : Sp3} (len : ∀ ds h Q E, sp ds h Q E → ds.length = 1) (sem : ∀ ds h Q E, sp ds h Q E → r_is_name (endX E) (endsOf Q) (start3 ["text", "sign"] ds) h) : Ok w K mg base (k + 1) d_is_name ["text"] sp :=
  ok3 T.F_is_name sc_is_name len fun cdv A outer s H E ds h Q E3 hr hs tk => ⟨_, by
    show PSs3 _ _ (defBody s_is_name) (r_is_name (endX E3))
    exact (pss3_cons (ps3_if (pw3_pt (pw3_or (pt3_not (pt3_chain op3_le op3_le pe3_int (pe3_callB cr3_len rfl T.z_len (by decide +kernel) (pa3_cons (pv3 0) pa3_nil)) (pe3_gint rfl T.c_LONGEST_NAME))) (pw3_or1 (pt3_cmp (op3_eq hr.units) (pv3 0) (pe3_gstr rfl T.c_EACH) (nomark _))))) (pss3_one (ps3_ret pe3_bl)) pss3_nil)
    (pss3_one (ps3_ret (pe3_callBL (cl3_all rfl) rfl T.z_all (by decide +kernel) (pl3_lc (own := [("sign", 1)]) rfl sc_is_name.nd (pi3_seq (pv3 0)) (blkOk_by (own := [("sign", 1)]) (N := ["text", "sign"]) (sc := defScope s_is_name) (by decide +kernel)) (gl_name (by decide)) (fun _ _ _ _ _ => pg_name (i := 1) sc_is_name.nd rfl (Or.inl rfl)) (fun _ _ _ _ _ => pts3_nil) (fun _ _ _ _ _ => (pe3_cmp op3_in (pv3 1) (pe3_gstr rfl T.c_LETTERS_kinds) rfl))))))), sem _ _ _ _ hs⟩
theorem sc_are_names : FnScope ["things", "thing"] ["things"] (defScope s_are_names) := ⟨rfl, rfl, rfl, by decide +kernel, rfl, by decide +kernel, by decide +kernel⟩
theorem o_are_names (T : Txt w K mg) {k_is_name : Nat} {sp_is_name : Sp3} (G_is_name : Ok w K mg base k_is_name d_is_name ["text"] sp_is_name) (l_is_name : k_is_name ≤ k) {sp : Sp3} (len : ∀ ds h Q E, sp ds h Q E → ds.length = 1) (sem : ∀ ds h Q E, sp ds h Q E → r_are_names sp_is_name (endX E) (endsOf Q) (start3 ["things", "thing"] ds) h) : Ok w K mg base (k + 1) d_are_names ["things"] sp :=
  ok3 T.F_are_names sc_are_names len fun cdv A outer s H E ds h Q E3 hr hs tk => ⟨_, by
    show PSs3 _ _ (defBody s_are_names) (r_are_names sp_is_name (endX E3))
    exact (pss3_cons (ps3_if (pt3_not (pt3_val (pe3_callBL (cl3_all rfl) rfl T.z_all (by decide +kernel) (pl3_lc (own := [("thing", 1)]) rfl sc_are_names.nd (pi3_seq (pv3 0)) (blkOk_by (own := [("thing", 1)]) (N := ["things", "thing"]) (sc := defScope s_are_names) (by decide +kernel)) (gl_name (by decide)) (fun _ _ _ _ _ => pg_name (i := 1) sc_are_names.nd rfl (Or.inl rfl)) (fun _ _ _ _ _ => pts3_nil) (fun _ _ _ _ _ => (pe3_and (pe3_callB cr3_isi rfl T.z_isinstance (by decide +kernel) (pa3_cons (pv3 1) (pa3_cons (pe3_ty rfl T.z_str (by decide +kernel)) pa3_nil))) (pe3_one (pe3_call G_is_name (hr.mono l_is_name) rfl T.g_is_name T.F_is_name.kp T.b_is_name tk3_none (pa3_cons (pv3 1) pa3_nil))))))))) (pss3_one (ps3_ret pe3_bl)) pss3_nil)
    (pss3_one (ps3_ret (pe3_cmp (op3_eq hr.units) (pe3_lenSet rfl rfl T.z_len rfl T.z_set (pv3 0)) (pe3_callB cr3_len rfl T.z_len (by decide +kernel) (pa3_cons (pv3 0) pa3_nil)) (nomark _))))), sem _ _ _ _ hs⟩
theorem sc_is_choice_kind : FnScope ["kind"] ["kind"] (defScope s_is_choice_kind) := ⟨rfl, rfl, rfl, by decide +kernel, rfl, by decide +kernel, by decide +kernel⟩
theorem o_is_choice_kind (T : Txt w K mg) {k_are_names : Nat} {sp_are_names : Sp3} (G_are_names : Ok w K mg base k_are_names d_are_names ["things"] sp_are_names) (l_are_names : k_are_names ≤ k) {sp : Sp3} (len : ∀ ds h Q E, sp ds h Q E → ds.length = 1) (sem : ∀ ds h Q E, sp ds h Q E → r_is_choice_kind sp_are_names (endX E) (endsOf Q) (start3 ["kind"] ds) h) : Ok w K mg base (k + 1) d_is_choice_kind ["kind"] sp :=
  ok3 T.F_is_choice_kind sc_is_choice_kind len fun cdv A outer s H E ds h Q E3 hr hs tk => ⟨_, by
    show PSs3 _ _ (defBody s_is_choice_kind) (r_is_choice_kind sp_are_names (endX E3))
    exact (pss3_cons (ps3_if (pw3_pt (pw3_or (pt3_cmp (op3_ne hr.units) (pe3_callB cr3_len rfl T.z_len (by decide +kernel) (pa3_cons (pv3 0) pa3_nil)) pe3_int (nomark _)) (pw3_or (pt3_not (pt3_val (pe3_callB cr3_isi rfl T.z_isinstance (by decide +kernel) (pa3_cons (pe3_ix (pv3 0) pe3_int) (pa3_cons (pe3_ty rfl T.z_tuple (by decide +kernel)) pa3_nil))))) (pw3_or1 (pt3_not (pt3_chain op3_le op3_le pe3_int (pe3_callB cr3_len rfl T.z_len (by decide +kernel) (pa3_cons (pe3_ix (pv3 0) pe3_int) pa3_nil)) (pe3_gint rfl T.c_MOST_WORDS))))))) (pss3_one (ps3_ret pe3_bl)) pss3_nil)
    (pss3_one (ps3_ret (pe3_call G_are_names (hr.mono l_are_names) rfl T.g_are_names T.F_are_names.kp T.b_are_names tk (pa3_cons (pe3_ix (pv3 0) pe3_int) pa3_nil))))), sem _ _ _ _ hs⟩
theorem sc_is_count : FnScope ["thing", "most"] ["thing", "most"] (defScope s_is_count) := ⟨rfl, rfl, rfl, by decide +kernel, rfl, by decide +kernel, by decide +kernel⟩
theorem o_is_count (T : Txt w K mg) {k_is_whole : Nat} {sp_is_whole : Sp3} (G_is_whole : Ok w K mg base k_is_whole d_is_whole ["thing"] sp_is_whole) (l_is_whole : k_is_whole ≤ k) {sp : Sp3} (len : ∀ ds h Q E, sp ds h Q E → ds.length = 2) (sem : ∀ ds h Q E, sp ds h Q E → r_is_count sp_is_whole (endX E) (endsOf Q) (start3 ["thing", "most"] ds) h) : Ok w K mg base (k + 1) d_is_count ["thing", "most"] sp :=
  ok3 T.F_is_count sc_is_count len fun cdv A outer s H E ds h Q E3 hr hs tk => ⟨_, by
    show PSs3 _ _ (defBody s_is_count) (r_is_count sp_is_whole (endX E3))
    exact (pss3_one (ps3_ret (pe3_and (pe3_call G_is_whole (hr.mono l_is_whole) rfl T.g_is_whole T.F_is_whole.kp T.b_is_whole tk (pa3_cons (pv3 0) pa3_nil)) (pe3_one (pe3_chain op3_le op3_le pe3_int (pv3 0) (pv3 1)))))), sem _ _ _ _ hs⟩
theorem sc_is_field : FnScope ["thing"] ["thing"] (defScope s_is_field) := ⟨rfl, rfl, rfl, by decide +kernel, rfl, by decide +kernel, by decide +kernel⟩
theorem o_is_field (T : Txt w K mg) {sp : Sp3} (len : ∀ ds h Q E, sp ds h Q E → ds.length = 1) (sem : ∀ ds h Q E, sp ds h Q E → r_is_field (endX E) (endsOf Q) (start3 ["thing"] ds) h) : Ok w K mg base (k + 1) d_is_field ["thing"] sp :=
  ok3 T.F_is_field sc_is_field len fun cdv A outer s H E ds h Q E3 hr hs tk => ⟨_, by
    show PSs3 _ _ (defBody s_is_field) (r_is_field (endX E3))
    exact (pss3_one (ps3_ret (pe3_and (pe3_callB cr3_isi rfl T.z_isinstance (by decide +kernel) (pa3_cons (pv3 0) (pa3_cons (pe3_ty rfl T.z_tuple (by decide +kernel)) pa3_nil))) (pe3_and (pe3_cmp (op3_eq hr.units) (pe3_callB cr3_len rfl T.z_len (by decide +kernel) (pa3_cons (pv3 0) pa3_nil)) pe3_int (nomark _)) (pe3_one (pe3_callB cr3_isi rfl T.z_isinstance (by decide +kernel) (pa3_cons (pe3_ix (pv3 0) pe3_int) (pa3_cons (pe3_ty rfl T.z_str (by decide +kernel)) pa3_nil)))))))), sem _ _ _ _ hs⟩
theorem sc_are_fields : FnScope ["things", "names", "thing"] ["things"] (defScope s_are_fields) := ⟨rfl, rfl, rfl, by decide +kernel, rfl, by decide +kernel, by decide +kernel⟩
theorem o_are_fields (T : Txt w K mg) {k_are_names : Nat} {sp_are_names : Sp3} (G_are_names : Ok w K mg base k_are_names d_are_names ["things"] sp_are_names) (l_are_names : k_are_names ≤ k) {k_is_field : Nat} {sp_is_field : Sp3} (G_is_field : Ok w K mg base k_is_field d_is_field ["thing"] sp_is_field) (l_is_field : k_is_field ≤ k) {sp : Sp3} (len : ∀ ds h Q E, sp ds h Q E → ds.length = 1) (sem : ∀ ds h Q E, sp ds h Q E → r_are_fields sp_are_names sp_is_field (endX E) (endsOf Q) (start3 ["things", "names", "thing"] ds) h) : Ok w K mg base (k + 1) d_are_fields ["things"] sp :=
  ok3 T.F_are_fields sc_are_fields len fun cdv A outer s H E ds h Q E3 hr hs tk => ⟨_, by
    show PSs3 _ _ (defBody s_are_fields) (r_are_fields sp_are_names sp_is_field (endX E3))
    exact (pss3_cons (ps3_if (pw3_pt (pw3_or (pt3_not (pt3_val (pe3_callB cr3_isi rfl T.z_isinstance (by decide +kernel) (pa3_cons (pv3 0) (pa3_cons (pe3_ty rfl T.z_tuple (by decide +kernel)) pa3_nil))))) (pw3_or1 (pt3_cmp op3_gt (pe3_callB cr3_len rfl T.z_len (by decide +kernel) (pa3_cons (pv3 0) pa3_nil)) (pe3_gint rfl T.c_MOST_FIELDS) (nomark _))))) (pss3_one (ps3_ret pe3_bl)) pss3_nil)
    (pss3_cons (ps3_if (pt3_not (pt3_val (pe3_callBL (cl3_all rfl) rfl T.z_all (by decide +kernel) (pl3_lc (own := [("thing", 2)]) rfl sc_are_fields.nd (pi3_seq (pv3 0)) (blkOk_by (own := [("thing", 2)]) (N := ["things", "names", "thing"]) (sc := defScope s_are_fields) (by decide +kernel)) (gl_name (by decide)) (fun _ _ _ _ _ => pg_name (i := 2) sc_are_fields.nd rfl (Or.inl rfl)) (fun _ _ _ _ _ => pts3_nil) (fun _ _ _ _ _ => (pe3_call G_is_field (hr.mono l_is_field) rfl T.g_is_field T.F_is_field.kp T.b_is_field tk3_none (pa3_cons (pv3 2) pa3_nil))))))) (pss3_one (ps3_ret pe3_bl)) pss3_nil)
    (pss3_cons (ps3_setLc (i := 1) (own := [("thing", 2)]) rfl sc_are_fields.nd rfl rfl (sw_true rfl rfl rfl (by decide +kernel)) (pi3_seq (pv3 0)) (blkOk_by (own := [("thing", 2)]) (N := ["things", "names", "thing"]) (sc := defScope s_are_fields) (by decide +kernel)) (gl_name (by decide)) (fun _ _ _ _ _ => pg_name (i := 2) sc_are_fields.nd rfl (Or.inl rfl)) (fun _ _ _ _ _ => pts3_nil) (fun _ _ _ _ _ => (pe3_ix (pv3 2) pe3_int)))
    (pss3_one (ps3_ret (pe3_and (pe3_call G_are_names (hr.mono l_are_names) rfl T.g_are_names T.F_are_names.kp T.b_are_names tk (pa3_cons (pv3 1) pa3_nil)) (pe3_one (pe3_cmp (op3_eq hr.units) (pv3 1) (pe3_callB cr3_sorted rfl T.z_sorted (by decide +kernel) (pa3_cons (pv3 1) pa3_nil)) (nomark _))))))))), sem _ _ _ _ hs⟩
theorem sc_field_kind : FnScope ["kind", "name", "other", "inner"] ["kind", "name"] (defScope s_field_kind) := ⟨rfl, rfl, rfl, by decide +kernel, rfl, by decide +kernel, by decide +kernel⟩
theorem o_field_kind (T : Txt w K mg) {sp : Sp3} (len : ∀ ds h Q E, sp ds h Q E → ds.length = 2) (sem : ∀ ds h Q E, sp ds h Q E → r_field_kind (endX E) (endsOf Q) (start3 ["kind", "name", "other", "inner"] ds) h) : Ok w K mg base (k + 1) d_field_kind ["kind", "name"] sp :=
  ok3 T.F_field_kind sc_field_kind len fun cdv A outer s H E ds h Q E3 hr hs tk => ⟨_, by
    show PSs3 _ _ (defBody s_field_kind) (r_field_kind (endX E3))
    exact (pss3_cons (ps3_for (passes3 rfl) rfl (pi3_seq (pe3_ix (pv3 0) pe3_int)) (pg3_tup rfl (pgs3_cons (i := 2) sc_field_kind.nd rfl (.inl rfl) (pgs3_cons (i := 3) sc_field_kind.nd rfl (.inl rfl) pgs3_nil))) (pss3_one (ps3_if (pt3_cmp (op3_eq hr.units) (pv3 2) (pv3 1) (nomark _)) (pss3_one (ps3_ret (pv3 3))) pss3_nil)))
    (pss3_one (ps3_ret pe3_non))), sem _ _ _ _ hs⟩
theorem sc_has_key : FnScope ["kind", "key", "inner"] ["kind", "key"] (defScope s_has_key) := ⟨rfl, rfl, rfl, by decide +kernel, rfl, by decide +kernel, by decide +kernel⟩
theorem o_has_key (T : Txt w K mg) {k_field_kind : Nat} {sp_field_kind : Sp3} (G_field_kind : Ok w K mg base k_field_kind d_field_kind ["kind", "name"] sp_field_kind) (l_field_kind : k_field_kind ≤ k) {k_are_fields : Nat} {sp_are_fields : Sp3} (G_are_fields : Ok w K mg base k_are_fields d_are_fields ["things"] sp_are_fields) (l_are_fields : k_are_fields ≤ k) {sp : Sp3} (len : ∀ ds h Q E, sp ds h Q E → ds.length = 2) (sem : ∀ ds h Q E, sp ds h Q E → r_has_key sp_field_kind sp_are_fields (endX E) (endsOf Q) (start3 ["kind", "key", "inner"] ds) h) : Ok w K mg base (k + 1) d_has_key ["kind", "key"] sp :=
  ok3 T.F_has_key sc_has_key len fun cdv A outer s H E ds h Q E3 hr hs tk => ⟨_, by
    show PSs3 _ _ (defBody s_has_key) (r_has_key sp_field_kind sp_are_fields (endX E3))
    exact (pss3_cons (ps3_if (pw3_pt (pw3_or (pt3_not (pt3_val (pe3_callB cr3_isi rfl T.z_isinstance (by decide +kernel) (pa3_cons (pv3 0) (pa3_cons (pe3_ty rfl T.z_tuple (by decide +kernel)) pa3_nil))))) (pw3_or (pt3_cmp (op3_ne hr.units) (pe3_callB cr3_len rfl T.z_len (by decide +kernel) (pa3_cons (pv3 0) pa3_nil)) pe3_int (nomark _)) (pw3_or (pt3_cmp (op3_ne hr.units) (pe3_ix (pv3 0) pe3_int) pe3_str (nomark _)) (pw3_or1 (pt3_not (pt3_val (pe3_call G_are_fields (hr.mono l_are_fields) rfl T.g_are_fields T.F_are_fields.kp T.b_are_fields tk (pa3_cons (pe3_ix (pv3 0) pe3_int) pa3_nil))))))))) (pss3_one (ps3_ret pe3_bl)) pss3_nil)
    (pss3_cons (ps3_set (i := 2) sc_has_key.nd rfl (.inl rfl) (pe3_call G_field_kind (hr.mono l_field_kind) rfl T.g_field_kind T.F_field_kind.kp T.b_field_kind tk (pa3_cons (pv3 0) (pa3_cons (pv3 1) pa3_nil))))
    (pss3_one (ps3_ret (pe3_and (pe3_callB cr3_isi rfl T.z_isinstance (by decide +kernel) (pa3_cons (pv3 2) (pa3_cons (pe3_ty rfl T.z_tuple (by decide +kernel)) pa3_nil))) (pe3_and (pe3_cmp op3_gt (pe3_callB cr3_len rfl T.z_len (by decide +kernel) (pa3_cons (pv3 2) pa3_nil)) pe3_int (nomark _)) (pe3_one (pe3_cmp op3_in (pe3_ix (pv3 2) pe3_int) (pe3_tup (pa3_cons pe3_str (pa3_cons pe3_str pa3_nil))) rfl)))))))), sem _ _ _ _ hs⟩
theorem sc_kinds_within : FnScope ["kind", "word", "found", "name", "inner"] ["kind"] (defScope s_kinds_within) := ⟨rfl, rfl, rfl, by decide +kernel, rfl, by decide +kernel, by decide +kernel⟩
theorem o_kinds_within (T : Txt w K mg) {k_is_number_kind : Nat} {sp_is_number_kind : Sp3} (G_is_number_kind : Ok w K mg base k_is_number_kind d_is_number_kind ["kind"] sp_is_number_kind) (l_is_number_kind : k_is_number_kind ≤ k) {k_is_choice_kind : Nat} {sp_is_choice_kind : Sp3} (G_is_choice_kind : Ok w K mg base k_is_choice_kind d_is_choice_kind ["kind"] sp_is_choice_kind) (l_is_choice_kind : k_is_choice_kind ≤ k) {k_is_count : Nat} {sp_is_count : Sp3} (G_is_count : Ok w K mg base k_is_count d_is_count ["thing", "most"] sp_is_count) (l_is_count : k_is_count ≤ k) {k_are_fields : Nat} {sp_are_fields : Sp3} (G_are_fields : Ok w K mg base k_are_fields d_are_fields ["things"] sp_are_fields) (l_are_fields : k_are_fields ≤ k) {k_has_key : Nat} {sp_has_key : Sp3} (G_has_key : Ok w K mg base k_has_key d_has_key ["kind", "key"] sp_has_key) (l_has_key : k_has_key ≤ k) {sp : Sp3} (len : ∀ ds h Q E, sp ds h Q E → ds.length = 1) (sem : ∀ ds h Q E, sp ds h Q E → r_kinds_within sp_is_number_kind sp_is_choice_kind sp_is_count sp_are_fields sp_has_key (endX E) (endsOf Q) (start3 ["kind", "word", "found", "name", "inner"] ds) h) : Ok w K mg base (k + 1) d_kinds_within ["kind"] sp :=
  ok3 T.F_kinds_within sc_kinds_within len fun cdv A outer s H E ds h Q E3 hr hs tk => ⟨_, by
    show PSs3 _ _ (defBody s_kinds_within) (r_kinds_within sp_is_number_kind sp_is_choice_kind sp_is_count sp_are_fields sp_has_key (endX E3))
    exact (pss3_cons (ps3_if (pw3_pt (pw3_or (pt3_not (pt3_val (pe3_callB cr3_isi rfl T.z_isinstance (by decide +kernel) (pa3_cons (pv3 0) (pa3_cons (pe3_ty rfl T.z_tuple (by decide +kernel)) pa3_nil))))) (pw3_or (pt3_cmp (op3_eq hr.units) (pe3_callB cr3_len rfl T.z_len (by decide +kernel) (pa3_cons (pv3 0) pa3_nil)) pe3_int (nomark _)) (pw3_or1 (pt3_not (pt3_val (pe3_callB cr3_isi rfl T.z_isinstance (by decide +kernel) (pa3_cons (pe3_ix (pv3 0) pe3_int) (pa3_cons (pe3_ty rfl T.z_str (by decide +kernel)) pa3_nil))))))))) (pss3_one (ps3_ret pe3_non)) pss3_nil)
    (pss3_cons (ps3_set (i := 1) sc_kinds_within.nd rfl (.inl rfl) (pe3_ix (pv3 0) pe3_int))
    (pss3_cons (ps3_set (i := 2) sc_kinds_within.nd rfl (.inl rfl) pe3_non)
    (pss3_cons (ps3_if (pw3_pt (pw3_or (pw3_pt (pw3_and (pt3_cmp (op3_eq hr.units) (pv3 1) pe3_str (nomark _)) (pw3_and1 (pt3_val (pe3_call G_is_number_kind (hr.mono l_is_number_kind) rfl T.g_is_number_kind T.F_is_number_kind.kp T.b_is_number_kind tk (pa3_cons (pv3 0) pa3_nil)))))) (pw3_or1 (pw3_pt (pw3_and (pt3_cmp (op3_eq hr.units) (pv3 1) pe3_str (nomark _)) (pw3_and1 (pt3_val (pe3_call G_is_choice_kind (hr.mono l_is_choice_kind) rfl T.g_is_choice_kind T.F_is_choice_kind.kp T.b_is_choice_kind tk (pa3_cons (pv3 0) pa3_nil))))))))) (pss3_one (ps3_set (i := 2) sc_kinds_within.nd rfl (.inl rfl) (pe3_lst pa3_nil))) (pss3_one (ps3_if (pw3_pt (pw3_and (pt3_cmp (op3_eq hr.units) (pv3 1) pe3_str (nomark _)) (pw3_and (pt3_cmp (op3_eq hr.units) (pe3_callB cr3_len rfl T.z_len (by decide +kernel) (pa3_cons (pv3 0) pa3_nil)) pe3_int (nomark _)) (pw3_and1 (pt3_val (pe3_call G_is_count (hr.mono l_is_count) rfl T.g_is_count T.F_is_count.kp T.b_is_count tk (pa3_cons (pe3_ix (pv3 0) pe3_int) (pa3_cons (pe3_gint rfl T.c_MOST_SIGNS) pa3_nil)))))))) (pss3_one (ps3_set (i := 2) sc_kinds_within.nd rfl (.inl rfl) (pe3_lst pa3_nil))) (pss3_one (ps3_if (pw3_pt (pw3_and (pt3_cmp (op3_eq hr.units) (pv3 1) pe3_str (nomark _)) (pw3_and (pt3_cmp (op3_eq hr.units) (pe3_callB cr3_len rfl T.z_len (by decide +kernel) (pa3_cons (pv3 0) pa3_nil)) pe3_int (nomark _)) (pw3_and1 (pt3_val (pe3_call G_is_count (hr.mono l_is_count) rfl T.g_is_count T.F_is_count.kp T.b_is_count tk (pa3_cons (pe3_ix (pv3 0) pe3_int) (pa3_cons (pe3_gint rfl T.c_MOST_ITEMS) pa3_nil)))))))) (pss3_one (ps3_set (i := 2) sc_kinds_within.nd rfl (.inl rfl) (pe3_lst (pa3_cons (pe3_ix (pv3 0) pe3_int) pa3_nil)))) (pss3_one (ps3_if (pw3_pt (pw3_and (pt3_cmp (op3_eq hr.units) (pv3 1) pe3_str (nomark _)) (pw3_and (pt3_cmp (op3_eq hr.units) (pe3_callB cr3_len rfl T.z_len (by decide +kernel) (pa3_cons (pv3 0) pa3_nil)) pe3_int (nomark _)) (pw3_and1 (pt3_val (pe3_call G_are_fields (hr.mono l_are_fields) rfl T.g_are_fields T.F_are_fields.kp T.b_are_fields tk (pa3_cons (pe3_ix (pv3 0) pe3_int) pa3_nil))))))) (pss3_one (ps3_setLc (i := 2) (own := [("name", 3), ("inner", 4)]) rfl sc_kinds_within.nd rfl rfl (sw_true rfl rfl rfl (by decide +kernel)) (pi3_seq (pe3_ix (pv3 0) pe3_int)) (blkOk_by (own := [("name", 3), ("inner", 4)]) (N := ["kind", "word", "found", "name", "inner"]) (sc := defScope s_kinds_within) (by decide +kernel)) (gl_two (by decide) (by decide)) (fun _ _ _ _ _ => pg_tup rfl (pgs_cons (pg_name (i := 3) sc_kinds_within.nd rfl (Or.inl rfl)) (pgs_cons (pg_name (i := 4) sc_kinds_within.nd rfl (Or.inl rfl)) pgs_nil))) (fun _ _ _ _ _ => pts3_nil) (fun _ _ _ _ _ => (pv3 4)))) (pss3_one (ps3_if (pw3_pt (pw3_and (pt3_cmp (op3_eq hr.units) (pv3 1) pe3_str (nomark _)) (pw3_and (pt3_cmp (op3_eq hr.units) (pe3_callB cr3_len rfl T.z_len (by decide +kernel) (pa3_cons (pv3 0) pa3_nil)) pe3_int (nomark _)) (pw3_and1 (pt3_val (pe3_call G_is_count (hr.mono l_is_count) rfl T.g_is_count T.F_is_count.kp T.b_is_count tk (pa3_cons (pe3_ix (pv3 0) pe3_int) (pa3_cons (pe3_gint rfl T.c_MOST_ITEMS) pa3_nil)))))))) (pss3_one (ps3_if (pw3_pt (pw3_and (pt3_val (pe3_callB cr3_isi rfl T.z_isinstance (by decide +kernel) (pa3_cons (pe3_ix (pv3 0) pe3_int) (pa3_cons (pe3_ty rfl T.z_str (by decide +kernel)) pa3_nil)))) (pw3_and1 (pt3_val (pe3_call G_has_key (hr.mono l_has_key) rfl T.g_has_key T.F_has_key.kp T.b_has_key tk (pa3_cons (pe3_ix (pv3 0) pe3_int) (pa3_cons (pe3_ix (pv3 0) pe3_int) pa3_nil))))))) (pss3_one (ps3_set (i := 2) sc_kinds_within.nd rfl (.inl rfl) (pe3_lst (pa3_cons (pe3_ix (pv3 0) pe3_int) pa3_nil)))) pss3_nil)) pss3_nil)))))))))
    (pss3_one (ps3_ret (pv3 2))))))), sem _ _ _ _ hs⟩
theorem sc_kinds_left : FnScope ["kind", "deep", "left", "within", "inner"] ["kind", "deep", "left"] (defScope s_kinds_left) := ⟨rfl, rfl, rfl, by decide +kernel, rfl, by decide +kernel, by decide +kernel⟩
theorem o_kinds_left (T : Txt w K mg) {k_kinds_left : Nat} {sp_kinds_left : Sp3} (G_kinds_left : Ok w K mg base k_kinds_left d_kinds_left ["kind", "deep", "left"] sp_kinds_left) (l_kinds_left : k_kinds_left ≤ k) {k_kinds_within : Nat} {sp_kinds_within : Sp3} (G_kinds_within : Ok w K mg base k_kinds_within d_kinds_within ["kind"] sp_kinds_within) (l_kinds_within : k_kinds_within ≤ k) {sp : Sp3} (len : ∀ ds h Q E, sp ds h Q E → ds.length = 3) (sem : ∀ ds h Q E, sp ds h Q E → r_kinds_left sp_kinds_left sp_kinds_within (endX E) (endsOf Q) (start3 ["kind", "deep", "left", "within", "inner"] ds) h) : Ok w K mg base (k + 1) d_kinds_left ["kind", "deep", "left"] sp :=
  ok3 T.F_kinds_left sc_kinds_left len fun cdv A outer s H E ds h Q E3 hr hs tk => ⟨_, by
    show PSs3 _ _ (defBody s_kinds_left) (r_kinds_left sp_kinds_left sp_kinds_within (endX E3))
    exact (pss3_cons (ps3_set (i := 3) sc_kinds_left.nd rfl (.inl rfl) (pe3_call G_kinds_within (hr.mono l_kinds_within) rfl T.g_kinds_within T.F_kinds_within.kp T.b_kinds_within tk (pa3_cons (pv3 0) pa3_nil)))
    (pss3_cons (ps3_if (pw3_pt (pw3_or (pt3_cmp op3_is (pv3 3) pe3_non (nomark _)) (pw3_or (pt3_cmp op3_lt (pv3 1) pe3_int (nomark _)) (pw3_or1 (pt3_cmp op3_lt (pv3 2) pe3_int (nomark _)))))) (pss3_one (ps3_ret (pe3_neg pe3_int))) pss3_nil)
    (pss3_cons (ps3_set (i := 2) sc_kinds_left.nd rfl (.inl rfl) (pe3_op op3_sub (pv3 2) pe3_int))
    (pss3_cons (ps3_for (passes3 rfl) rfl (pi3_seq (pv3 3)) (pg3_name (i := 4) sc_kinds_left.nd rfl (.inl rfl)) (pss3_one (ps3_if (pt3_cmp op3_ge (pv3 2) pe3_int (nomark _)) (pss3_one (ps3_set (i := 2) sc_kinds_left.nd rfl (.inl rfl) (pe3_call G_kinds_left (hr.mono l_kinds_left) rfl T.g_kinds_left T.F_kinds_left.kp T.b_kinds_left tk (pa3_cons (pv3 4) (pa3_cons (pe3_op op3_sub (pv3 1) pe3_int) (pa3_cons (pv3 2) pa3_nil)))))) pss3_nil)))
    (pss3_one (ps3_ret (pv3 2))))))), sem _ _ _ _ hs⟩
theorem sc_made_kind : FnScope ["kind"] ["kind"] (defScope s_made_kind) := ⟨rfl, rfl, rfl, by decide +kernel, rfl, by decide +kernel, by decide +kernel⟩
theorem o_made_kind (T : Txt w K mg) {k_kinds_left : Nat} {sp_kinds_left : Sp3} (G_kinds_left : Ok w K mg base k_kinds_left d_kinds_left ["kind", "deep", "left"] sp_kinds_left) (l_kinds_left : k_kinds_left ≤ k) {sp : Sp3} (len : ∀ ds h Q E, sp ds h Q E → ds.length = 1) (sem : ∀ ds h Q E, sp ds h Q E → r_made_kind (He.ga K "BadKind") sp_kinds_left (endX E) (endsOf Q) (start3 ["kind"] ds) h) : Ok w K mg base (k + 1) d_made_kind ["kind"] sp :=
  ok3 T.F_made_kind sc_made_kind len fun cdv A outer s H E ds h Q E3 hr hs tk => ⟨_, by
    show PSs3 _ _ (defBody s_made_kind) (r_made_kind (He.ga K "BadKind") sp_kinds_left (endX E3))
    exact (pss3_cons (ps3_if (pt3_cmp op3_lt (pe3_call G_kinds_left (hr.mono l_kinds_left) rfl T.g_kinds_left T.F_kinds_left.kp T.b_kinds_left tk (pa3_cons (pv3 0) (pa3_cons (pe3_gint rfl T.c_DEEPEST) (pa3_cons (pe3_gint rfl T.c_MOST_KINDS) pa3_nil)))) pe3_int (nomark _)) (pss3_one (ps3_raise rfl tk (pmk_own PySem.F.excBase_ValueError T.x_BadKind T.g_BadKind T.k_BadKind (raises_own T.s_BadKind T.t_BadKind) rfl))) pss3_nil)
    (pss3_one (ps3_ret (pv3 0)))), sem _ _ _ _ hs⟩
theorem sc_TextReader_taken : FnScope ["self", "sort", "found", "word"] ["self", "sort"] (defScope s_TextReader_taken) := ⟨rfl, rfl, rfl, by decide +kernel, rfl, by decide +kernel, by decide +kernel⟩
theorem o_TextReader_taken (T : Txt w K mg) {sp : Sp3} (len : ∀ ds h Q E, sp ds h Q E → ds.length = 2) (sem : ∀ ds h Q E, sp ds h Q E → r_TextReader_taken (He.ga K "TextReader") (He.ga K "BadText") (endX E) (endsOf Q) (start3 ["self", "sort", "found", "word"] ds) h) : Ok w K mg base (k + 1) d_TextReader_taken ["self", "sort"] sp :=
  ok3 T.F_TextReader_taken sc_TextReader_taken len fun cdv A outer s H E ds h Q E3 hr hs tk => ⟨_, by
    show PSs3 _ _ (defBody s_TextReader_taken) (r_TextReader_taken (He.ga K "TextReader") (He.ga K "BadText") (endX E3))
    exact (pss3_cons (ps3_asg (pe3_ix (pe3_fld T.cl_TextReader T.n_TextReader_words (pv3 0)) (pe3_fld T.cl_TextReader T.n_TextReader_at (pv3 0))) (pg3_tup rfl (pgs3_cons (i := 2) sc_TextReader_taken.nd rfl (.inl rfl) (pgs3_cons (i := 3) sc_TextReader_taken.nd rfl (.inl rfl) pgs3_nil))))
    (pss3_cons (ps3_if (pt3_cmp (op3_ne hr.units) (pv3 2) (pv3 1) (nomark _)) (pss3_one (ps3_raise rfl tk (pmk_own PySem.F.excBase_ValueError T.x_BadText T.g_BadText T.k_BadText (raises_own T.s_BadText T.t_BadText) rfl))) pss3_nil)
    (pss3_cons (ps3_fld T.cl_TextReader T.n_TextReader_at (pv3 0) (pe3_op op3_add (pe3_fld T.cl_TextReader T.n_TextReader_at (pv3 0)) pe3_int))
    (pss3_one (ps3_ret (pv3 3)))))), sem _ _ _ _ hs⟩
theorem sc_TextReader_ended : FnScope ["self", "found"] ["self", "found"] (defScope s_TextReader_ended) := ⟨rfl, rfl, rfl, by decide +kernel, rfl, by decide +kernel, by decide +kernel⟩
theorem o_TextReader_ended (T : Txt w K mg) {k_TextReader_taken : Nat} {sp_TextReader_taken : Sp3} (G_TextReader_taken : Ok w K mg base k_TextReader_taken d_TextReader_taken ["self", "sort"] sp_TextReader_taken) (l_TextReader_taken : k_TextReader_taken ≤ k) {sp : Sp3} (len : ∀ ds h Q E, sp ds h Q E → ds.length = 2) (sem : ∀ ds h Q E, sp ds h Q E → r_TextReader_ended (He.ga K "TextReader") sp_TextReader_taken (endX E) (endsOf Q) (start3 ["self", "found"] ds) h) : Ok w K mg base (k + 1) d_TextReader_ended ["self", "found"] sp :=
  ok3 T.F_TextReader_ended sc_TextReader_ended len fun cdv A outer s H E ds h Q E3 hr hs tk => ⟨_, by
    show PSs3 _ _ (defBody s_TextReader_ended) (r_TextReader_ended (He.ga K "TextReader") sp_TextReader_taken (endX E3))
    exact (pss3_cons (ps3_expr (pe3_meth (pv3 0) T.cl_TextReader T.m_TextReader_taken G_TextReader_taken (hr.mono l_TextReader_taken) T.b_TextReader_taken tk (pa3_cons pe3_str pa3_nil)))
    (pss3_one (ps3_ret (pv3 1)))), sem _ _ _ _ hs⟩
theorem sc_TextReader_next_is : FnScope ["self", "sign"] ["self", "sign"] (defScope s_TextReader_next_is) := ⟨rfl, rfl, rfl, by decide +kernel, rfl, by decide +kernel, by decide +kernel⟩
theorem o_TextReader_next_is (T : Txt w K mg) {sp : Sp3} (len : ∀ ds h Q E, sp ds h Q E → ds.length = 2) (sem : ∀ ds h Q E, sp ds h Q E → r_TextReader_next_is (He.ga K "TextReader") (endX E) (endsOf Q) (start3 ["self", "sign"] ds) h) : Ok w K mg base (k + 1) d_TextReader_next_is ["self", "sign"] sp :=
  ok3 T.F_TextReader_next_is sc_TextReader_next_is len fun cdv A outer s H E ds h Q E3 hr hs tk => ⟨_, by
    show PSs3 _ _ (defBody s_TextReader_next_is) (r_TextReader_next_is (He.ga K "TextReader") (endX E3))
    exact (pss3_one (ps3_ret (pe3_cmp (op3_eq hr.units) (pe3_ix (pe3_fld T.cl_TextReader T.n_TextReader_words (pv3 0)) (pe3_fld T.cl_TextReader T.n_TextReader_at (pv3 0))) (pe3_tup (pa3_cons pe3_str (pa3_cons (pv3 1) pa3_nil))) (nomark _)))), sem _ _ _ _ hs⟩
theorem sc_TextReader_due : FnScope ["self", "sign"] ["self", "sign"] (defScope s_TextReader_due) := ⟨rfl, rfl, rfl, by decide +kernel, rfl, by decide +kernel, by decide +kernel⟩
theorem o_TextReader_due (T : Txt w K mg) {k_TextReader_next_is : Nat} {sp_TextReader_next_is : Sp3} (G_TextReader_next_is : Ok w K mg base k_TextReader_next_is d_TextReader_next_is ["self", "sign"] sp_TextReader_next_is) (l_TextReader_next_is : k_TextReader_next_is ≤ k) {sp : Sp3} (len : ∀ ds h Q E, sp ds h Q E → ds.length = 2) (sem : ∀ ds h Q E, sp ds h Q E → r_TextReader_due (He.ga K "TextReader") (He.ga K "BadText") sp_TextReader_next_is (endX E) (endsOf Q) (start3 ["self", "sign"] ds) h) : Ok w K mg base (k + 1) d_TextReader_due ["self", "sign"] sp :=
  ok3 T.F_TextReader_due sc_TextReader_due len fun cdv A outer s H E ds h Q E3 hr hs tk => ⟨_, by
    show PSs3 _ _ (defBody s_TextReader_due) (r_TextReader_due (He.ga K "TextReader") (He.ga K "BadText") sp_TextReader_next_is (endX E3))
    exact (pss3_cons (ps3_if (pt3_not (pt3_val (pe3_meth (pv3 0) T.cl_TextReader T.m_TextReader_next_is G_TextReader_next_is (hr.mono l_TextReader_next_is) T.b_TextReader_next_is tk (pa3_cons (pv3 1) pa3_nil)))) (pss3_one (ps3_raise rfl tk (pmk_own PySem.F.excBase_ValueError T.x_BadText T.g_BadText T.k_BadText (raises_own T.s_BadText T.t_BadText) rfl))) pss3_nil)
    (pss3_one (ps3_fld T.cl_TextReader T.n_TextReader_at (pv3 0) (pe3_op op3_add (pe3_fld T.cl_TextReader T.n_TextReader_at (pv3 0)) pe3_int)))), sem _ _ _ _ hs⟩
theorem sc_TextReader_closed : FnScope ["self", "sign"] ["self", "sign"] (defScope s_TextReader_closed) := ⟨rfl, rfl, rfl, by decide +kernel, rfl, by decide +kernel, by decide +kernel⟩
theorem o_TextReader_closed (T : Txt w K mg) {k_TextReader_due : Nat} {sp_TextReader_due : Sp3} (G_TextReader_due : Ok w K mg base k_TextReader_due d_TextReader_due ["self", "sign"] sp_TextReader_due) (l_TextReader_due : k_TextReader_due ≤ k) {sp : Sp3} (len : ∀ ds h Q E, sp ds h Q E → ds.length = 2) (sem : ∀ ds h Q E, sp ds h Q E → r_TextReader_closed (He.ga K "TextReader") sp_TextReader_due (endX E) (endsOf Q) (start3 ["self", "sign"] ds) h) : Ok w K mg base (k + 1) d_TextReader_closed ["self", "sign"] sp :=
  ok3 T.F_TextReader_closed sc_TextReader_closed len fun cdv A outer s H E ds h Q E3 hr hs tk => ⟨_, by
    show PSs3 _ _ (defBody s_TextReader_closed) (r_TextReader_closed (He.ga K "TextReader") sp_TextReader_due (endX E3))
    exact (pss3_cons (ps3_expr (pe3_meth (pv3 0) T.cl_TextReader T.m_TextReader_due G_TextReader_due (hr.mono l_TextReader_due) T.b_TextReader_due tk (pa3_cons (pv3 1) pa3_nil)))
    (pss3_one (ps3_fld T.cl_TextReader T.n_TextReader_deep (pv3 0) (pe3_op op3_sub (pe3_fld T.cl_TextReader T.n_TextReader_deep (pv3 0)) pe3_int)))), sem _ _ _ _ hs⟩
theorem sc_TextReader_part : FnScope ["self", "sort"] ["self", "sort"] (defScope s_TextReader_part) := ⟨rfl, rfl, rfl, by decide +kernel, rfl, by decide +kernel, by decide +kernel⟩
theorem o_TextReader_part (T : Txt w K mg) {k_TextReader_taken : Nat} {sp_TextReader_taken : Sp3} (G_TextReader_taken : Ok w K mg base k_TextReader_taken d_TextReader_taken ["self", "sort"] sp_TextReader_taken) (l_TextReader_taken : k_TextReader_taken ≤ k) {k_TextReader_turn : Nat} {sp_TextReader_turn : Sp3} (G_TextReader_turn : Ok w K mg base k_TextReader_turn d_TextReader_turn ["self"] sp_TextReader_turn) (l_TextReader_turn : k_TextReader_turn ≤ k) {k_TextReader_value : Nat} {sp_TextReader_value : Sp3} (G_TextReader_value : Ok w K mg base k_TextReader_value d_TextReader_value ["self"] sp_TextReader_value) (l_TextReader_value : k_TextReader_value ≤ k) {k_TextReader_kind : Nat} {sp_TextReader_kind : Sp3} (G_TextReader_kind : Ok w K mg base k_TextReader_kind d_TextReader_kind ["self"] sp_TextReader_kind) (l_TextReader_kind : k_TextReader_kind ≤ k) {sp : Sp3} (len : ∀ ds h Q E, sp ds h Q E → ds.length = 2) (sem : ∀ ds h Q E, sp ds h Q E → r_TextReader_part (He.ga K "TextReader") sp_TextReader_taken sp_TextReader_turn sp_TextReader_value sp_TextReader_kind (endX E) (endsOf Q) (start3 ["self", "sort"] ds) h) : Ok w K mg base (k + 1) d_TextReader_part ["self", "sort"] sp :=
  ok3 T.F_TextReader_part sc_TextReader_part len fun cdv A outer s H E ds h Q E3 hr hs tk => ⟨_, by
    show PSs3 _ _ (defBody s_TextReader_part) (r_TextReader_part (He.ga K "TextReader") sp_TextReader_taken sp_TextReader_turn sp_TextReader_value sp_TextReader_kind (endX E3))
    exact (pss3_cons (ps3_if (pt3_cmp (op3_eq hr.units) (pv3 1) pe3_str (nomark _)) (pss3_one (ps3_ret (pe3_meth (pv3 0) T.cl_TextReader T.m_TextReader_taken G_TextReader_taken (hr.mono l_TextReader_taken) T.b_TextReader_taken tk (pa3_cons pe3_str pa3_nil)))) pss3_nil)
    (pss3_cons (ps3_if (pt3_cmp (op3_eq hr.units) (pv3 1) pe3_str (nomark _)) (pss3_one (ps3_ret (pe3_meth (pv3 0) T.cl_TextReader T.m_TextReader_taken G_TextReader_taken (hr.mono l_TextReader_taken) T.b_TextReader_taken tk (pa3_cons pe3_str pa3_nil)))) pss3_nil)
    (pss3_cons (ps3_if (pt3_cmp (op3_eq hr.units) (pv3 1) pe3_str (nomark _)) (pss3_one (ps3_ret (pe3_meth0 (pv3 0) T.cl_TextReader T.m_TextReader_kind G_TextReader_kind (hr.mono l_TextReader_kind) T.b_TextReader_kind tk))) pss3_nil)
    (pss3_cons (ps3_if (pt3_cmp (op3_eq hr.units) (pv3 1) pe3_str (nomark _)) (pss3_one (ps3_ret (pe3_meth0 (pv3 0) T.cl_TextReader T.m_TextReader_value G_TextReader_value (hr.mono l_TextReader_value) T.b_TextReader_value tk))) pss3_nil)
    (pss3_cons (ps3_if (pt3_cmp (op3_eq hr.units) (pv3 1) pe3_str (nomark _)) (pss3_one (ps3_ret (pe3_meth0 (pv3 0) T.cl_TextReader T.m_TextReader_turn G_TextReader_turn (hr.mono l_TextReader_turn) T.b_TextReader_turn tk))) pss3_nil)
    (pss3_one (ps3_ret (pe3_meth (pv3 0) T.cl_TextReader T.m_TextReader_taken G_TextReader_taken (hr.mono l_TextReader_taken) T.b_TextReader_taken tk (pa3_cons pe3_str pa3_nil))))))))), sem _ _ _ _ hs⟩
theorem sc_TextReader_parts : FnScope ["self", "sorts", "found", "sort"] ["self", "sorts"] (defScope s_TextReader_parts) := ⟨rfl, rfl, rfl, by decide +kernel, rfl, by decide +kernel, by decide +kernel⟩
theorem o_TextReader_parts (T : Txt w K mg) {k_TextReader_part : Nat} {sp_TextReader_part : Sp3} (G_TextReader_part : Ok w K mg base k_TextReader_part d_TextReader_part ["self", "sort"] sp_TextReader_part) (l_TextReader_part : k_TextReader_part ≤ k) {k_TextReader_due : Nat} {sp_TextReader_due : Sp3} (G_TextReader_due : Ok w K mg base k_TextReader_due d_TextReader_due ["self", "sign"] sp_TextReader_due) (l_TextReader_due : k_TextReader_due ≤ k) {sp : Sp3} (len : ∀ ds h Q E, sp ds h Q E → ds.length = 2) (sem : ∀ ds h Q E, sp ds h Q E → r_TextReader_parts (He.ga K "TextReader") sp_TextReader_part sp_TextReader_due (endX E) (endsOf Q) (start3 ["self", "sorts", "found", "sort"] ds) h) : Ok w K mg base (k + 1) d_TextReader_parts ["self", "sorts"] sp :=
  ok3 T.F_TextReader_parts sc_TextReader_parts len fun cdv A outer s H E ds h Q E3 hr hs tk => ⟨_, by
    show PSs3 _ _ (defBody s_TextReader_parts) (r_TextReader_parts (He.ga K "TextReader") sp_TextReader_part sp_TextReader_due (endX E3))
    exact (pss3_cons (ps3_set (i := 2) sc_TextReader_parts.nd rfl (.inl rfl) (pe3_lst pa3_nil))
    (pss3_cons (ps3_for (passes3 rfl) rfl (pi3_seq (pv3 1)) (pg3_name (i := 3) sc_TextReader_parts.nd rfl (.inl rfl)) (pss3_cons (ps3_if (pt3_cmp op3_gt (pe3_callB cr3_len rfl T.z_len (by decide +kernel) (pa3_cons (pv3 2) pa3_nil)) pe3_int (nomark _)) (pss3_one (ps3_expr (pe3_meth (pv3 0) T.cl_TextReader T.m_TextReader_due G_TextReader_due (hr.mono l_TextReader_due) T.b_TextReader_due tk (pa3_cons pe3_str pa3_nil)))) pss3_nil)
    (pss3_one (ps3_expr (pe3_bm PySem.F.plainAttrs_list PySem.F.slot_list_append PySem.F.type_list_append mt3_append (pv3 2) (pa3_cons (pe3_meth (pv3 0) T.cl_TextReader T.m_TextReader_part G_TextReader_part (hr.mono l_TextReader_part) T.b_TextReader_part tk (pa3_cons (pv3 3) pa3_nil)) pa3_nil))))))
    (pss3_one (ps3_ret (pe3_callTy cr3_tup rfl T.z_tuple (by decide +kernel) (pa3_cons (pv3 2) pa3_nil)))))), sem _ _ _ _ hs⟩
theorem sc_TextReader_goes_on : FnScope ["self", "many", "closing"] ["self", "many", "closing"] (defScope s_TextReader_goes_on) := ⟨rfl, rfl, rfl, by decide +kernel, rfl, by decide +kernel, by decide +kernel⟩
theorem o_TextReader_goes_on (T : Txt w K mg) {k_TextReader_next_is : Nat} {sp_TextReader_next_is : Sp3} (G_TextReader_next_is : Ok w K mg base k_TextReader_next_is d_TextReader_next_is ["self", "sign"] sp_TextReader_next_is) (l_TextReader_next_is : k_TextReader_next_is ≤ k) {sp : Sp3} (len : ∀ ds h Q E, sp ds h Q E → ds.length = 3) (sem : ∀ ds h Q E, sp ds h Q E → r_TextReader_goes_on (He.ga K "TextReader") sp_TextReader_next_is (endX E) (endsOf Q) (start3 ["self", "many", "closing"] ds) h) : Ok w K mg base (k + 1) d_TextReader_goes_on ["self", "many", "closing"] sp :=
  ok3 T.F_TextReader_goes_on sc_TextReader_goes_on len fun cdv A outer s H E ds h Q E3 hr hs tk => ⟨_, by
    show PSs3 _ _ (defBody s_TextReader_goes_on) (r_TextReader_goes_on (He.ga K "TextReader") sp_TextReader_next_is (endX E3))
    exact (pss3_cons (ps3_if (pt3_cmp (op3_eq hr.units) (pv3 1) pe3_int (nomark _)) (pss3_one (ps3_ret (pe3_not (pe3_meth (pv3 0) T.cl_TextReader T.m_TextReader_next_is G_TextReader_next_is (hr.mono l_TextReader_next_is) T.b_TextReader_next_is tk (pa3_cons (pv3 2) pa3_nil))))) pss3_nil)
    (pss3_cons (ps3_if (pt3_not (pt3_val (pe3_meth (pv3 0) T.cl_TextReader T.m_TextReader_next_is G_TextReader_next_is (hr.mono l_TextReader_next_is) T.b_TextReader_next_is tk (pa3_cons pe3_str pa3_nil)))) (pss3_one (ps3_ret pe3_bl)) pss3_nil)
    (pss3_cons (ps3_fld T.cl_TextReader T.n_TextReader_at (pv3 0) (pe3_op op3_add (pe3_fld T.cl_TextReader T.n_TextReader_at (pv3 0)) pe3_int))
    (pss3_one (ps3_ret pe3_bl))))), sem _ _ _ _ hs⟩
theorem sc_TextReader_kind_pairs : FnScope ["self", "found", "name"] ["self"] (defScope s_TextReader_kind_pairs) := ⟨rfl, rfl, rfl, by decide +kernel, rfl, by decide +kernel, by decide +kernel⟩
theorem o_TextReader_kind_pairs (T : Txt w K mg) {k_TextReader_goes_on : Nat} {sp_TextReader_goes_on : Sp3} (G_TextReader_goes_on : Ok w K mg base k_TextReader_goes_on d_TextReader_goes_on ["self", "many", "closing"] sp_TextReader_goes_on) (l_TextReader_goes_on : k_TextReader_goes_on ≤ k) {k_TextReader_kind : Nat} {sp_TextReader_kind : Sp3} (G_TextReader_kind : Ok w K mg base k_TextReader_kind d_TextReader_kind ["self"] sp_TextReader_kind) (l_TextReader_kind : k_TextReader_kind ≤ k) {k_TextReader_due : Nat} {sp_TextReader_due : Sp3} (G_TextReader_due : Ok w K mg base k_TextReader_due d_TextReader_due ["self", "sign"] sp_TextReader_due) (l_TextReader_due : k_TextReader_due ≤ k) {k_TextReader_taken : Nat} {sp_TextReader_taken : Sp3} (G_TextReader_taken : Ok w K mg base k_TextReader_taken d_TextReader_taken ["self", "sort"] sp_TextReader_taken) (l_TextReader_taken : k_TextReader_taken ≤ k) {sp : Sp3} (len : ∀ ds h Q E, sp ds h Q E → ds.length = 1) (sem : ∀ ds h Q E, sp ds h Q E → r_TextReader_kind_pairs (He.ga K "TextReader") sp_TextReader_goes_on sp_TextReader_kind sp_TextReader_due sp_TextReader_taken (endX E) (endsOf Q) (start3 ["self", "found", "name"] ds) h) : Ok w K mg base (k + 1) d_TextReader_kind_pairs ["self"] sp :=
  ok3 T.F_TextReader_kind_pairs sc_TextReader_kind_pairs len fun cdv A outer s H E ds h Q E3 hr hs tk => ⟨_, by
    show PSs3 _ _ (defBody s_TextReader_kind_pairs) (r_TextReader_kind_pairs (He.ga K "TextReader") sp_TextReader_goes_on sp_TextReader_kind sp_TextReader_due sp_TextReader_taken (endX E3))
    exact (pss3_cons (ps3_set (i := 1) sc_TextReader_kind_pairs.nd rfl (.inl rfl) (pe3_lst pa3_nil))
    (pss3_cons (ps3_while (passes3 rfl) (pt3_val (pe3_meth (pv3 0) T.cl_TextReader T.m_TextReader_goes_on G_TextReader_goes_on (hr.mono l_TextReader_goes_on) T.b_TextReader_goes_on tk (pa3_cons (pe3_callB cr3_len rfl T.z_len (by decide +kernel) (pa3_cons (pv3 1) pa3_nil)) (pa3_cons pe3_str pa3_nil)))) (pss3_cons (ps3_set (i := 2) sc_TextReader_kind_pairs.nd rfl (.inl rfl) (pe3_meth (pv3 0) T.cl_TextReader T.m_TextReader_taken G_TextReader_taken (hr.mono l_TextReader_taken) T.b_TextReader_taken tk (pa3_cons pe3_str pa3_nil)))
    (pss3_cons (ps3_expr (pe3_meth (pv3 0) T.cl_TextReader T.m_TextReader_due G_TextReader_due (hr.mono l_TextReader_due) T.b_TextReader_due tk (pa3_cons pe3_str pa3_nil)))
    (pss3_one (ps3_expr (pe3_bm PySem.F.plainAttrs_list PySem.F.slot_list_append PySem.F.type_list_append mt3_append (pv3 1) (pa3_cons (pe3_tup (pa3_cons (pv3 2) (pa3_cons (pe3_meth0 (pv3 0) T.cl_TextReader T.m_TextReader_kind G_TextReader_kind (hr.mono l_TextReader_kind) T.b_TextReader_kind tk) pa3_nil))) pa3_nil)))))))
    (pss3_one (ps3_ret (pe3_callTy cr3_tup rfl T.z_tuple (by decide +kernel) (pa3_cons (pv3 1) pa3_nil)))))), sem _ _ _ _ hs⟩
theorem sc_TextReader_names : FnScope ["self", "closing", "found"] ["self", "closing"] (defScope s_TextReader_names) := ⟨rfl, rfl, rfl, by decide +kernel, rfl, by decide +kernel, by decide +kernel⟩
theorem o_TextReader_names (T : Txt w K mg) {k_TextReader_goes_on : Nat} {sp_TextReader_goes_on : Sp3} (G_TextReader_goes_on : Ok w K mg base k_TextReader_goes_on d_TextReader_goes_on ["self", "many", "closing"] sp_TextReader_goes_on) (l_TextReader_goes_on : k_TextReader_goes_on ≤ k) {k_TextReader_taken : Nat} {sp_TextReader_taken : Sp3} (G_TextReader_taken : Ok w K mg base k_TextReader_taken d_TextReader_taken ["self", "sort"] sp_TextReader_taken) (l_TextReader_taken : k_TextReader_taken ≤ k) {sp : Sp3} (len : ∀ ds h Q E, sp ds h Q E → ds.length = 2) (sem : ∀ ds h Q E, sp ds h Q E → r_TextReader_names (He.ga K "TextReader") sp_TextReader_goes_on sp_TextReader_taken (endX E) (endsOf Q) (start3 ["self", "closing", "found"] ds) h) : Ok w K mg base (k + 1) d_TextReader_names ["self", "closing"] sp :=
  ok3 T.F_TextReader_names sc_TextReader_names len fun cdv A outer s H E ds h Q E3 hr hs tk => ⟨_, by
    show PSs3 _ _ (defBody s_TextReader_names) (r_TextReader_names (He.ga K "TextReader") sp_TextReader_goes_on sp_TextReader_taken (endX E3))
    exact (pss3_cons (ps3_set (i := 2) sc_TextReader_names.nd rfl (.inl rfl) (pe3_lst (pa3_cons (pe3_meth (pv3 0) T.cl_TextReader T.m_TextReader_taken G_TextReader_taken (hr.mono l_TextReader_taken) T.b_TextReader_taken tk (pa3_cons pe3_str pa3_nil)) pa3_nil)))
    (pss3_cons (ps3_while (passes3 rfl) (pt3_val (pe3_meth (pv3 0) T.cl_TextReader T.m_TextReader_goes_on G_TextReader_goes_on (hr.mono l_TextReader_goes_on) T.b_TextReader_goes_on tk (pa3_cons (pe3_callB cr3_len rfl T.z_len (by decide +kernel) (pa3_cons (pv3 2) pa3_nil)) (pa3_cons (pv3 1) pa3_nil)))) (pss3_one (ps3_expr (pe3_bm PySem.F.plainAttrs_list PySem.F.slot_list_append PySem.F.type_list_append mt3_append (pv3 2) (pa3_cons (pe3_meth (pv3 0) T.cl_TextReader T.m_TextReader_taken G_TextReader_taken (hr.mono l_TextReader_taken) T.b_TextReader_taken tk (pa3_cons pe3_str pa3_nil)) pa3_nil)))))
    (pss3_one (ps3_ret (pe3_callTy cr3_tup rfl T.z_tuple (by decide +kernel) (pa3_cons (pv3 2) pa3_nil)))))), sem _ _ _ _ hs⟩
theorem sc_TextReader_kind_parts : FnScope ["self", "word", "most", "inner", "key"] ["self", "word"] (defScope s_TextReader_kind_parts) := ⟨rfl, rfl, rfl, by decide +kernel, rfl, by decide +kernel, by decide +kernel⟩
theorem o_TextReader_kind_parts (T : Txt w K mg) {k_TextReader_parts : Nat} {sp_TextReader_parts : Sp3} (G_TextReader_parts : Ok w K mg base k_TextReader_parts d_TextReader_parts ["self", "sorts"] sp_TextReader_parts) (l_TextReader_parts : k_TextReader_parts ≤ k) {k_TextReader_kind_pairs : Nat} {sp_TextReader_kind_pairs : Sp3} (G_TextReader_kind_pairs : Ok w K mg base k_TextReader_kind_pairs d_TextReader_kind_pairs ["self"] sp_TextReader_kind_pairs) (l_TextReader_kind_pairs : k_TextReader_kind_pairs ≤ k) {k_TextReader_names : Nat} {sp_TextReader_names : Sp3} (G_TextReader_names : Ok w K mg base k_TextReader_names d_TextReader_names ["self", "closing"] sp_TextReader_names) (l_TextReader_names : k_TextReader_names ≤ k) {sp : Sp3} (len : ∀ ds h Q E, sp ds h Q E → ds.length = 2) (sem : ∀ ds h Q E, sp ds h Q E → r_TextReader_kind_parts (He.ga K "BadText") (He.ga K "TextReader") sp_TextReader_parts sp_TextReader_kind_pairs sp_TextReader_names (endX E) (endsOf Q) (start3 ["self", "word", "most", "inner", "key"] ds) h) : Ok w K mg base (k + 1) d_TextReader_kind_parts ["self", "word"] sp :=
  ok3 T.F_TextReader_kind_parts sc_TextReader_kind_parts len fun cdv A outer s H E ds h Q E3 hr hs tk => ⟨_, by
    show PSs3 _ _ (defBody s_TextReader_kind_parts) (r_TextReader_kind_parts (He.ga K "BadText") (He.ga K "TextReader") sp_TextReader_parts sp_TextReader_kind_pairs sp_TextReader_names (endX E3))
    exact (pss3_cons (ps3_if (pt3_cmp (op3_eq hr.units) (pv3 1) pe3_str (nomark _)) (pss3_one (ps3_ret (pe3_meth (pv3 0) T.cl_TextReader T.m_TextReader_parts G_TextReader_parts (hr.mono l_TextReader_parts) T.b_TextReader_parts tk (pa3_cons pe3_str pa3_nil)))) pss3_nil)
    (pss3_cons (ps3_if (pt3_cmp (op3_eq hr.units) (pv3 1) pe3_str (nomark _)) (pss3_one (ps3_ret (pe3_meth (pv3 0) T.cl_TextReader T.m_TextReader_parts G_TextReader_parts (hr.mono l_TextReader_parts) T.b_TextReader_parts tk (pa3_cons pe3_str pa3_nil)))) pss3_nil)
    (pss3_cons (ps3_if (pt3_cmp (op3_eq hr.units) (pv3 1) pe3_str (nomark _)) (pss3_one (ps3_ret (pe3_tup (pa3_cons (pe3_meth (pv3 0) T.cl_TextReader T.m_TextReader_names G_TextReader_names (hr.mono l_TextReader_names) T.b_TextReader_names tk (pa3_cons pe3_str pa3_nil)) pa3_nil)))) pss3_nil)
    (pss3_cons (ps3_if (pt3_cmp (op3_eq hr.units) (pv3 1) pe3_str (nomark _)) (pss3_one (ps3_ret (pe3_tup (pa3_cons (pe3_meth0 (pv3 0) T.cl_TextReader T.m_TextReader_kind_pairs G_TextReader_kind_pairs (hr.mono l_TextReader_kind_pairs) T.b_TextReader_kind_pairs tk) pa3_nil)))) pss3_nil)
    (pss3_cons (ps3_if (pt3_cmp (op3_eq hr.units) (pv3 1) pe3_str (nomark _)) (pss3_cons (ps3_asg (pe3_meth (pv3 0) T.cl_TextReader T.m_TextReader_parts G_TextReader_parts (hr.mono l_TextReader_parts) T.b_TextReader_parts tk (pa3_cons pe3_str pa3_nil)) (pg3_tup rfl (pgs3_cons (i := 2) sc_TextReader_kind_parts.nd rfl (.inl rfl) (pgs3_cons (i := 3) sc_TextReader_kind_parts.nd rfl (.inl rfl) pgs3_nil))))
    (pss3_one (ps3_ret (pe3_tup (pa3_cons (pv3 3) (pa3_cons (pv3 2) pa3_nil)))))) pss3_nil)
    (pss3_cons (ps3_if (pt3_cmp (op3_eq hr.units) (pv3 1) pe3_str (nomark _)) (pss3_cons (ps3_asg (pe3_meth (pv3 0) T.cl_TextReader T.m_TextReader_parts G_TextReader_parts (hr.mono l_TextReader_parts) T.b_TextReader_parts tk (pa3_cons pe3_str pa3_nil)) (pg3_tup rfl (pgs3_cons (i := 4) sc_TextReader_kind_parts.nd rfl (.inl rfl) (pgs3_cons (i := 2) sc_TextReader_kind_parts.nd rfl (.inl rfl) (pgs3_cons (i := 3) sc_TextReader_kind_parts.nd rfl (.inl rfl) pgs3_nil)))))
    (pss3_one (ps3_ret (pe3_tup (pa3_cons (pv3 4) (pa3_cons (pv3 3) (pa3_cons (pv3 2) pa3_nil))))))) pss3_nil)
    (pss3_one (ps3_raise rfl tk (pmk_own PySem.F.excBase_ValueError T.x_BadText T.g_BadText T.k_BadText (raises_own T.s_BadText T.t_BadText) rfl))))))))), sem _ _ _ _ hs⟩
theorem sc_TextReader_opened : FnScope ["self", "sign"] ["self", "sign"] (defScope s_TextReader_opened) := ⟨rfl, rfl, rfl, by decide +kernel, rfl, by decide +kernel, by decide +kernel⟩
theorem o_TextReader_opened (T : Txt w K mg) {k_TextReader_due : Nat} {sp_TextReader_due : Sp3} (G_TextReader_due : Ok w K mg base k_TextReader_due d_TextReader_due ["self", "sign"] sp_TextReader_due) (l_TextReader_due : k_TextReader_due ≤ k) {sp : Sp3} (len : ∀ ds h Q E, sp ds h Q E → ds.length = 2) (sem : ∀ ds h Q E, sp ds h Q E → r_TextReader_opened (He.ga K "TextReader") (He.ga K "BadText") sp_TextReader_due (endX E) (endsOf Q) (start3 ["self", "sign"] ds) h) : Ok w K mg base (k + 1) d_TextReader_opened ["self", "sign"] sp :=
  ok3 T.F_TextReader_opened sc_TextReader_opened len fun cdv A outer s H E ds h Q E3 hr hs tk => ⟨_, by
    show PSs3 _ _ (defBody s_TextReader_opened) (r_TextReader_opened (He.ga K "TextReader") (He.ga K "BadText") sp_TextReader_due (endX E3))
    exact (pss3_cons (ps3_expr (pe3_meth (pv3 0) T.cl_TextReader T.m_TextReader_due G_TextReader_due (hr.mono l_TextReader_due) T.b_TextReader_due tk (pa3_cons (pv3 1) pa3_nil)))
    (pss3_cons (ps3_fld T.cl_TextReader T.n_TextReader_deep (pv3 0) (pe3_op op3_add (pe3_fld T.cl_TextReader T.n_TextReader_deep (pv3 0)) pe3_int))
    (pss3_one (ps3_if (pt3_cmp op3_gt (pe3_fld T.cl_TextReader T.n_TextReader_deep (pv3 0)) (pe3_gint rfl T.c_MOST_DEEP) (nomark _)) (pss3_one (ps3_raise rfl tk (pmk_own PySem.F.excBase_ValueError T.x_BadText T.g_BadText T.k_BadText (raises_own T.s_BadText T.t_BadText) rfl))) pss3_nil)))), sem _ _ _ _ hs⟩
theorem sc_TextReader_kind : FnScope ["self", "word", "found"] ["self"] (defScope s_TextReader_kind) := ⟨rfl, rfl, rfl, by decide +kernel, rfl, by decide +kernel, by decide +kernel⟩
theorem o_TextReader_kind (T : Txt w K mg) {k_TextReader_closed : Nat} {sp_TextReader_closed : Sp3} (G_TextReader_closed : Ok w K mg base k_TextReader_closed d_TextReader_closed ["self", "sign"] sp_TextReader_closed) (l_TextReader_closed : k_TextReader_closed ≤ k) {k_TextReader_kind_parts : Nat} {sp_TextReader_kind_parts : Sp3} (G_TextReader_kind_parts : Ok w K mg base k_TextReader_kind_parts d_TextReader_kind_parts ["self", "word"] sp_TextReader_kind_parts) (l_TextReader_kind_parts : k_TextReader_kind_parts ≤ k) {k_TextReader_opened : Nat} {sp_TextReader_opened : Sp3} (G_TextReader_opened : Ok w K mg base k_TextReader_opened d_TextReader_opened ["self", "sign"] sp_TextReader_opened) (l_TextReader_opened : k_TextReader_opened ≤ k) {k_TextReader_taken : Nat} {sp_TextReader_taken : Sp3} (G_TextReader_taken : Ok w K mg base k_TextReader_taken d_TextReader_taken ["self", "sort"] sp_TextReader_taken) (l_TextReader_taken : k_TextReader_taken ≤ k) {sp : Sp3} (len : ∀ ds h Q E, sp ds h Q E → ds.length = 1) (sem : ∀ ds h Q E, sp ds h Q E → r_TextReader_kind (He.ga K "TextReader") sp_TextReader_closed sp_TextReader_kind_parts sp_TextReader_opened sp_TextReader_taken (endX E) (endsOf Q) (start3 ["self", "word", "found"] ds) h) : Ok w K mg base (k + 1) d_TextReader_kind ["self"] sp :=
  ok3 T.F_TextReader_kind sc_TextReader_kind len fun cdv A outer s H E ds h Q E3 hr hs tk => ⟨_, by
    show PSs3 _ _ (defBody s_TextReader_kind) (r_TextReader_kind (He.ga K "TextReader") sp_TextReader_closed sp_TextReader_kind_parts sp_TextReader_opened sp_TextReader_taken (endX E3))
    exact (pss3_cons (ps3_set (i := 1) sc_TextReader_kind.nd rfl (.inl rfl) (pe3_meth (pv3 0) T.cl_TextReader T.m_TextReader_taken G_TextReader_taken (hr.mono l_TextReader_taken) T.b_TextReader_taken tk (pa3_cons pe3_str pa3_nil)))
    (pss3_cons (ps3_expr (pe3_meth (pv3 0) T.cl_TextReader T.m_TextReader_opened G_TextReader_opened (hr.mono l_TextReader_opened) T.b_TextReader_opened tk (pa3_cons pe3_str pa3_nil)))
    (pss3_cons (ps3_set (i := 2) sc_TextReader_kind.nd rfl (.inl rfl) (pe3_op op3_add (pe3_tup (pa3_cons (pv3 1) pa3_nil)) (pe3_meth (pv3 0) T.cl_TextReader T.m_TextReader_kind_parts G_TextReader_kind_parts (hr.mono l_TextReader_kind_parts) T.b_TextReader_kind_parts tk (pa3_cons (pv3 1) pa3_nil))))
    (pss3_cons (ps3_expr (pe3_meth (pv3 0) T.cl_TextReader T.m_TextReader_closed G_TextReader_closed (hr.mono l_TextReader_closed) T.b_TextReader_closed tk (pa3_cons pe3_str pa3_nil)))
    (pss3_one (ps3_ret (pv3 2))))))), sem _ _ _ _ hs⟩
theorem sc_is_sign : FnScope ["sign"] ["sign"] (defScope s_is_sign) := ⟨rfl, rfl, rfl, by decide +kernel, rfl, by decide +kernel, by decide +kernel⟩
theorem o_is_sign (T : Txt w K mg) {sp : Sp3} (len : ∀ ds h Q E, sp ds h Q E → ds.length = 1) (sem : ∀ ds h Q E, sp ds h Q E → r_is_sign (endX E) (endsOf Q) (start3 ["sign"] ds) h) : Ok w K mg base (k + 1) d_is_sign ["sign"] sp :=
  ok3 T.F_is_sign sc_is_sign len fun cdv A outer s H E ds h Q E3 hr hs tk => ⟨_, by
    show PSs3 _ _ (defBody s_is_sign) (r_is_sign (endX E3))
    exact (pss3_one (ps3_ret (pe3_and (pe3_chain op3_le op3_le pe3_str (pv3 0) pe3_str) (pe3_and (pe3_cmp (op3_ne hr.units) (pv3 0) pe3_str (nomark _)) (pe3_one (pe3_cmp (op3_ne hr.units) (pe3_callB cr3_ord rfl T.z_ord (by decide +kernel) (pa3_cons (pv3 0) pa3_nil)) pe3_int (nomark _))))))), sem _ _ _ _ hs⟩
theorem sc_quoted_end : FnScope ["text", "at", "end", "sign"] ["text", "at"] (defScope s_quoted_end) := ⟨rfl, rfl, rfl, by decide +kernel, rfl, by decide +kernel, by decide +kernel⟩
theorem o_quoted_end (T : Txt w K mg) {k_is_sign : Nat} {sp_is_sign : Sp3} (G_is_sign : Ok w K mg base k_is_sign d_is_sign ["sign"] sp_is_sign) (l_is_sign : k_is_sign ≤ k) {sp : Sp3} (len : ∀ ds h Q E, sp ds h Q E → ds.length = 2) (sem : ∀ ds h Q E, sp ds h Q E → r_quoted_end (He.ga K "BadText") sp_is_sign (endX E) (endsOf Q) (start3 ["text", "at", "end", "sign"] ds) h) : Ok w K mg base (k + 1) d_quoted_end ["text", "at"] sp :=
  ok3 T.F_quoted_end sc_quoted_end len fun cdv A outer s H E ds h Q E3 hr hs tk => ⟨_, by
    show PSs3 _ _ (defBody s_quoted_end) (r_quoted_end (He.ga K "BadText") sp_is_sign (endX E3))
    exact (pss3_cons (ps3_set (i := 2) sc_quoted_end.nd rfl (.inl rfl) (pe3_bm PySem.F.plainAttrs_str PySem.F.slot_str_find PySem.F.type_str_find mt3_find (pv3 0) (pa3_cons pe3_str (pa3_cons (pe3_op op3_add (pv3 1) pe3_int) pa3_nil))))
    (pss3_cons (ps3_if (pw3_pt (pw3_or (pt3_cmp op3_lt (pv3 2) pe3_int (nomark _)) (pw3_or1 (pt3_not (pt3_val (pe3_callBL (cl3_all rfl) rfl T.z_all (by decide +kernel) (pl3_lc (own := [("sign", 3)]) rfl sc_quoted_end.nd (pi3_seq (pe3_slice (pv3 0) (po3_some (pe3_op op3_add (pv3 1) pe3_int)) (po3_some (pv3 2)))) (blkOk_by (own := [("sign", 3)]) (N := ["text", "at", "end", "sign"]) (sc := defScope s_quoted_end) (by decide +kernel)) (gl_name (by decide)) (fun _ _ _ _ _ => pg_name (i := 3) sc_quoted_end.nd rfl (Or.inl rfl)) (fun _ _ _ _ _ => pts3_nil) (fun _ _ _ _ _ => (pe3_call G_is_sign (hr.mono l_is_sign) rfl T.g_is_sign T.F_is_sign.kp T.b_is_sign tk3_none (pa3_cons (pv3 3) pa3_nil)))))))))) (pss3_one (ps3_raise rfl tk (pmk_own PySem.F.excBase_ValueError T.x_BadText T.g_BadText T.k_BadText (raises_own T.s_BadText T.t_BadText) rfl))) pss3_nil)
    (pss3_one (ps3_ret (pe3_op op3_add (pv3 2) pe3_int))))), sem _ _ _ _ hs⟩
theorem sc_run_end : FnScope ["text", "at", "signs"] ["text", "at", "signs"] (defScope s_run_end) := ⟨rfl, rfl, rfl, by decide +kernel, rfl, by decide +kernel, by decide +kernel⟩
theorem o_run_end (T : Txt w K mg) {sp : Sp3} (len : ∀ ds h Q E, sp ds h Q E → ds.length = 3) (sem : ∀ ds h Q E, sp ds h Q E → r_run_end (endX E) (endsOf Q) (start3 ["text", "at", "signs"] ds) h) : Ok w K mg base (k + 1) d_run_end ["text", "at", "signs"] sp :=
  ok3 T.F_run_end sc_run_end len fun cdv A outer s H E ds h Q E3 hr hs tk => ⟨_, by
    show PSs3 _ _ (defBody s_run_end) (r_run_end (endX E3))
    exact (pss3_cons (ps3_while (passes3 rfl) (pw3_pt (pw3_and (pt3_cmp op3_lt (pv3 1) (pe3_callB cr3_len rfl T.z_len (by decide +kernel) (pa3_cons (pv3 0) pa3_nil)) (nomark _)) (pw3_and1 (pt3_cmp op3_in (pe3_ix (pv3 0) (pv3 1)) (pv3 2) rfl)))) (pss3_one (ps3_set (i := 1) sc_run_end.nd rfl (.inl rfl) (pe3_op op3_add (pv3 1) pe3_int))))
    (pss3_one (ps3_ret (pv3 1)))), sem _ _ _ _ hs⟩
theorem sc_number_end : FnScope ["text", "at", "first", "end"] ["text", "at"] (defScope s_number_end) := ⟨rfl, rfl, rfl, by decide +kernel, rfl, by decide +kernel, by decide +kernel⟩
theorem o_number_end (T : Txt w K mg) {k_run_end : Nat} {sp_run_end : Sp3} (G_run_end : Ok w K mg base k_run_end d_run_end ["text", "at", "signs"] sp_run_end) (l_run_end : k_run_end ≤ k) {sp : Sp3} (len : ∀ ds h Q E, sp ds h Q E → ds.length = 2) (sem : ∀ ds h Q E, sp ds h Q E → r_number_end (He.ga K "BadText") sp_run_end (endX E) (endsOf Q) (start3 ["text", "at", "first", "end"] ds) h) : Ok w K mg base (k + 1) d_number_end ["text", "at"] sp :=
  ok3 T.F_number_end sc_number_end len fun cdv A outer s H E ds h Q E3 hr hs tk => ⟨_, by
    show PSs3 _ _ (defBody s_number_end) (r_number_end (He.ga K "BadText") sp_run_end (endX E3))
    exact (pss3_cons (ps3_set (i := 2) sc_number_end.nd rfl (.inl rfl) (pe3_op op3_add (pv3 1) (pe3_callTy cr3_int rfl T.z_int (by decide +kernel) (pa3_cons (pe3_cmp (op3_eq hr.units) (pe3_ix (pv3 0) (pv3 1)) pe3_str (nomark _)) pa3_nil))))
    (pss3_cons (ps3_set (i := 3) sc_number_end.nd rfl (.inl rfl) (pe3_call G_run_end (hr.mono l_run_end) rfl T.g_run_end T.F_run_end.kp T.b_run_end tk (pa3_cons (pv3 0) (pa3_cons (pv3 2) (pa3_cons (pe3_gstr rfl T.c_FIGURES) pa3_nil)))))
    (pss3_cons (ps3_if (pw3_pt (pw3_or (pt3_cmp (op3_eq hr.units) (pv3 3) (pv3 2) (nomark _)) (pw3_or (pt3_cmp op3_gt (pe3_op op3_sub (pv3 3) (pv3 2)) (pe3_gint rfl T.c_MOST_FIGURES) (nomark _)) (pw3_or1 (pw3_pt (pw3_and (pt3_cmp (op3_eq hr.units) (pe3_ix (pv3 0) (pv3 2)) pe3_str (nomark _)) (pw3_and1 (pw3_pt (pw3_or (pt3_cmp op3_gt (pv3 3) (pe3_op op3_add (pv3 2) pe3_int) (nomark _)) (pw3_or1 (pt3_cmp op3_gt (pv3 2) (pv3 1) (nomark _)))))))))))) (pss3_one (ps3_raise rfl tk (pmk_own PySem.F.excBase_ValueError T.x_BadText T.g_BadText T.k_BadText (raises_own T.s_BadText T.t_BadText) rfl))) pss3_nil)
    (pss3_one (ps3_ret (pv3 3)))))), sem _ _ _ _ hs⟩
theorem sc_words_of : FnScope ["text", "found", "at", "sign", "end"] ["text"] (defScope s_words_of) := ⟨rfl, rfl, rfl, by decide +kernel, rfl, by decide +kernel, by decide +kernel⟩
theorem o_words_of (T : Txt w K mg) {k_quoted_end : Nat} {sp_quoted_end : Sp3} (G_quoted_end : Ok w K mg base k_quoted_end d_quoted_end ["text", "at"] sp_quoted_end) (l_quoted_end : k_quoted_end ≤ k) {k_run_end : Nat} {sp_run_end : Sp3} (G_run_end : Ok w K mg base k_run_end d_run_end ["text", "at", "signs"] sp_run_end) (l_run_end : k_run_end ≤ k) {k_number_end : Nat} {sp_number_end : Sp3} (G_number_end : Ok w K mg base k_number_end d_number_end ["text", "at"] sp_number_end) (l_number_end : k_number_end ≤ k) {sp : Sp3} (len : ∀ ds h Q E, sp ds h Q E → ds.length = 1) (sem : ∀ ds h Q E, sp ds h Q E → r_words_of (He.ga K "BadText") sp_quoted_end sp_run_end sp_number_end (endX E) (endsOf Q) (start3 ["text", "found", "at", "sign", "end"] ds) h) : Ok w K mg base (k + 1) d_words_of ["text"] sp :=
  ok3 T.F_words_of sc_words_of len fun cdv A outer s H E ds h Q E3 hr hs tk => ⟨_, by
    show PSs3 _ _ (defBody s_words_of) (r_words_of (He.ga K "BadText") sp_quoted_end sp_run_end sp_number_end (endX E3))
    exact (pss3_cons (ps3_set (i := 1) sc_words_of.nd rfl (.inl rfl) (pe3_lst pa3_nil))
    (pss3_cons (ps3_set (i := 2) sc_words_of.nd rfl (.inl rfl) pe3_int)
    (pss3_cons (ps3_while (passes3 rfl) (pt3_cmp op3_lt (pv3 2) (pe3_callB cr3_len rfl T.z_len (by decide +kernel) (pa3_cons (pv3 0) pa3_nil)) (nomark _)) (pss3_cons (ps3_set (i := 3) sc_words_of.nd rfl (.inl rfl) (pe3_ix (pv3 0) (pv3 2)))
    (pss3_cons (ps3_set (i := 4) sc_words_of.nd rfl (.inl rfl) (pe3_op op3_add (pv3 2) pe3_int))
    (pss3_cons (ps3_if (pt3_cmp (op3_eq hr.units) (pv3 3) pe3_str (nomark _)) (pss3_cons (ps3_set (i := 4) sc_words_of.nd rfl (.inl rfl) (pe3_call G_quoted_end (hr.mono l_quoted_end) rfl T.g_quoted_end T.F_quoted_end.kp T.b_quoted_end tk (pa3_cons (pv3 0) (pa3_cons (pv3 2) pa3_nil))))
    (pss3_one (ps3_expr (pe3_bm PySem.F.plainAttrs_list PySem.F.slot_list_append PySem.F.type_list_append mt3_append (pv3 1) (pa3_cons (pe3_tup (pa3_cons pe3_str (pa3_cons (pe3_slice (pv3 0) (po3_some (pe3_op op3_add (pv3 2) pe3_int)) (po3_some (pe3_op op3_sub (pv3 4) pe3_int))) pa3_nil))) pa3_nil))))) (pss3_one (ps3_if (pt3_cmp op3_in (pv3 3) (pe3_gstr rfl T.c_LETTERS_texts) rfl) (pss3_cons (ps3_set (i := 4) sc_words_of.nd rfl (.inl rfl) (pe3_call G_run_end (hr.mono l_run_end) rfl T.g_run_end T.F_run_end.kp T.b_run_end tk (pa3_cons (pv3 0) (pa3_cons (pv3 2) (pa3_cons (pe3_gstr rfl T.c_LETTERS_texts) pa3_nil)))))
    (pss3_cons (ps3_if (pt3_cmp op3_gt (pe3_op op3_sub (pv3 4) (pv3 2)) (pe3_gint rfl T.c_LONGEST) (nomark _)) (pss3_one (ps3_raise rfl tk (pmk_own PySem.F.excBase_ValueError T.x_BadText T.g_BadText T.k_BadText (raises_own T.s_BadText T.t_BadText) rfl))) pss3_nil)
    (pss3_one (ps3_expr (pe3_bm PySem.F.plainAttrs_list PySem.F.slot_list_append PySem.F.type_list_append mt3_append (pv3 1) (pa3_cons (pe3_tup (pa3_cons pe3_str (pa3_cons (pe3_slice (pv3 0) (po3_some (pv3 2)) (po3_some (pv3 4))) pa3_nil))) pa3_nil)))))) (pss3_one (ps3_if (pw3_pt (pw3_or (pt3_cmp op3_in (pv3 3) (pe3_gstr rfl T.c_FIGURES) rfl) (pw3_or1 (pt3_cmp (op3_eq hr.units) (pv3 3) pe3_str (nomark _))))) (pss3_cons (ps3_set (i := 4) sc_words_of.nd rfl (.inl rfl) (pe3_call G_number_end (hr.mono l_number_end) rfl T.g_number_end T.F_number_end.kp T.b_number_end tk (pa3_cons (pv3 0) (pa3_cons (pv3 2) pa3_nil))))
    (pss3_one (ps3_expr (pe3_bm PySem.F.plainAttrs_list PySem.F.slot_list_append PySem.F.type_list_append mt3_append (pv3 1) (pa3_cons (pe3_tup (pa3_cons pe3_str (pa3_cons (pe3_callTy cr3_int rfl T.z_int (by decide +kernel) (pa3_cons (pe3_slice (pv3 0) (po3_some (pv3 2)) (po3_some (pv3 4))) pa3_nil)) pa3_nil))) pa3_nil))))) (pss3_one (ps3_if (pt3_cmp op3_in (pv3 3) (pe3_gstr rfl T.c_SIGNS) rfl) (pss3_one (ps3_expr (pe3_bm PySem.F.plainAttrs_list PySem.F.slot_list_append PySem.F.type_list_append mt3_append (pv3 1) (pa3_cons (pe3_tup (pa3_cons pe3_str (pa3_cons (pv3 3) pa3_nil))) pa3_nil)))) (pss3_one (ps3_if (pt3_cmp (op3_ne hr.units) (pv3 3) pe3_str (nomark _)) (pss3_one (ps3_raise rfl tk (pmk_own PySem.F.excBase_ValueError T.x_BadText T.g_BadText T.k_BadText (raises_own T.s_BadText T.t_BadText) rfl))) pss3_nil)))))))))
    (pss3_one (ps3_set (i := 2) sc_words_of.nd rfl (.inl rfl) (pv3 4)))))))
    (pss3_cons (ps3_expr (pe3_bm PySem.F.plainAttrs_list PySem.F.slot_list_append PySem.F.type_list_append mt3_append (pv3 1) (pa3_cons (pe3_tup (pa3_cons pe3_str (pa3_cons pe3_str pa3_nil))) pa3_nil)))
    (pss3_one (ps3_ret (pv3 1))))))), sem _ _ _ _ hs⟩
theorem sc_TextReader_init : FnScope ["self", "text"] ["self", "text"] (defScope s_TextReader_init) := ⟨rfl, rfl, rfl, by decide +kernel, rfl, by decide +kernel, by decide +kernel⟩
theorem o_TextReader_init (T : Txt w K mg) {k_words_of : Nat} {sp_words_of : Sp3} (G_words_of : Ok w K mg base k_words_of d_words_of ["text"] sp_words_of) (l_words_of : k_words_of ≤ k) {sp : Sp3} (len : ∀ ds h Q E, sp ds h Q E → ds.length = 2) (sem : ∀ ds h Q E, sp ds h Q E → r_TextReader_init (He.ga K "TextReader") sp_words_of (endX E) (endsOf Q) (start3 ["self", "text"] ds) h) : Ok w K mg base (k + 1) d_TextReader_init ["self", "text"] sp :=
  ok3 T.F_TextReader_init sc_TextReader_init len fun cdv A outer s H E ds h Q E3 hr hs tk => ⟨_, by
    show PSs3 _ _ (defBody s_TextReader_init) (r_TextReader_init (He.ga K "TextReader") sp_words_of (endX E3))
    exact (pss3_cons (ps3_fld T.cl_TextReader T.n_TextReader_words (pv3 0) (pe3_call G_words_of (hr.mono l_words_of) rfl T.g_words_of T.F_words_of.kp T.b_words_of tk (pa3_cons (pv3 1) pa3_nil)))
    (pss3_cons (ps3_fld T.cl_TextReader T.n_TextReader_at (pv3 0) pe3_int)
    (pss3_one (ps3_fld T.cl_TextReader T.n_TextReader_deep (pv3 0) pe3_int)))), sem _ _ _ _ hs⟩
theorem sc_read_kind : FnScope ["text", "reader"] ["text"] (defScope s_read_kind) := ⟨rfl, rfl, rfl, by decide +kernel, rfl, by decide +kernel, by decide +kernel⟩
theorem o_read_kind (T : Txt w K mg) {k_made_kind : Nat} {sp_made_kind : Sp3} (G_made_kind : Ok w K mg base k_made_kind d_made_kind ["kind"] sp_made_kind) (l_made_kind : k_made_kind ≤ k) {k_TextReader_ended : Nat} {sp_TextReader_ended : Sp3} (G_TextReader_ended : Ok w K mg base k_TextReader_ended d_TextReader_ended ["self", "found"] sp_TextReader_ended) (l_TextReader_ended : k_TextReader_ended ≤ k) {k_TextReader_kind : Nat} {sp_TextReader_kind : Sp3} (G_TextReader_kind : Ok w K mg base k_TextReader_kind d_TextReader_kind ["self"] sp_TextReader_kind) (l_TextReader_kind : k_TextReader_kind ≤ k) {k_TextReader_init : Nat} {sp_TextReader_init : Sp3} (G_TextReader_init : Ok w K mg base k_TextReader_init d_TextReader_init ["self", "text"] sp_TextReader_init) (l_TextReader_init : k_TextReader_init + 1 ≤ k) {sp : Sp3} (len : ∀ ds h Q E, sp ds h Q E → ds.length = 1) (sem : ∀ ds h Q E, sp ds h Q E → r_read_kind (He.ga K "TextReader") sp_made_kind sp_TextReader_ended sp_TextReader_kind sp_TextReader_init (endX E) (endsOf Q) (start3 ["text", "reader"] ds) h) : Ok w K mg base (k + 1) d_read_kind ["text"] sp :=
  ok3 T.F_read_kind sc_read_kind len fun cdv A outer s H E ds h Q E3 hr hs tk => ⟨_, by
    show PSs3 _ _ (defBody s_read_kind) (r_read_kind (He.ga K "TextReader") sp_made_kind sp_TextReader_ended sp_TextReader_kind sp_TextReader_init (endX E3))
    exact (pss3_cons (ps3_set (i := 1) sc_read_kind.nd rfl (.inl rfl) (pe3_make T.mk_TextReader G_TextReader_init (hr.mono l_TextReader_init) rfl T.g_TextReader T.b_TextReader_init tk (pa3_cons (pv3 0) pa3_nil)))
    (pss3_one (ps3_ret (pe3_call G_made_kind (hr.mono l_made_kind) rfl T.g_made_kind T.F_made_kind.kp T.b_made_kind tk (pa3_cons (pe3_meth (pv3 1) T.cl_TextReader T.m_TextReader_ended G_TextReader_ended (hr.mono l_TextReader_ended) T.b_TextReader_ended tk (pa3_cons (pe3_meth0 (pv3 1) T.cl_TextReader T.m_TextReader_kind G_TextReader_kind (hr.mono l_TextReader_kind) T.b_TextReader_kind tk) pa3_nil)) pa3_nil))))), sem _ _ _ _ hs⟩
theorem sc__law_digit : FnScope ["row", "many", "digit"] ["row", "many"] (defScope s__law_digit) := ⟨rfl, rfl, rfl, by decide +kernel, rfl, by decide +kernel, by decide +kernel⟩
theorem o__law_digit (T : Txt w K mg) {sp : Sp3} (len : ∀ ds h Q E, sp ds h Q E → ds.length = 2) (sem : ∀ ds h Q E, sp ds h Q E → r__law_digit (endX E) (endsOf Q) (start3 ["row", "many", "digit"] ds) h) : Ok w K mg base (k + 1) d__law_digit ["row", "many"] sp :=
  ok3 T.F__law_digit sc__law_digit len fun cdv A outer s H E ds h Q E3 hr hs tk => ⟨_, by
    show PSs3 _ _ (defBody s__law_digit) (r__law_digit (endX E3))
    exact (pss3_cons (ps3_set (i := 2) sc__law_digit.nd rfl (.inl rfl) (pe3_op op3_mod (pe3_ix (pv3 0) pe3_int) (pv3 1)))
    (pss3_cons (ps3_asg (pe3_op op3_fdiv (pe3_ix (pv3 0) pe3_int) (pv3 1)) (pg3_sub (pv3 0) pe3_int))
    (pss3_one (ps3_ret (pv3 2))))), sem _ _ _ _ hs⟩
theorem sc__law_loose : FnScope ["words", "row", "word"] ["words", "row"] (defScope s__law_loose) := ⟨rfl, rfl, rfl, by decide +kernel, rfl, by decide +kernel, by decide +kernel⟩
theorem o__law_loose (T : Txt w K mg) {k__law_digit : Nat} {sp__law_digit : Sp3} (G__law_digit : Ok w K mg base k__law_digit d__law_digit ["row", "many"] sp__law_digit) (l__law_digit : k__law_digit ≤ k) {sp : Sp3} (len : ∀ ds h Q E, sp ds h Q E → ds.length = 2) (sem : ∀ ds h Q E, sp ds h Q E → r__law_loose sp__law_digit (endX E) (endsOf Q) (start3 ["words", "row", "word"] ds) h) : Ok w K mg base (k + 1) d__law_loose ["words", "row"] sp :=
  ok3 T.F__law_loose sc__law_loose len fun cdv A outer s H E ds h Q E3 hr hs tk => ⟨_, by
    show PSs3 _ _ (defBody s__law_loose) (r__law_loose sp__law_digit (endX E3))
    exact (pss3_one (ps3_ret (pe3_op op3_add (pe3_op op3_mul pe3_str (pe3_call G__law_digit (hr.mono l__law_digit) rfl T.g__law_digit T.F__law_digit.kp T.b__law_digit tk (pa3_cons (pv3 1) (pa3_cons pe3_int pa3_nil)))) (pe3_joinL pe3_str (pl3_lc (own := [("word", 2)]) rfl sc__law_loose.nd (pi3_seq (pv3 0)) (blkOk_by (own := [("word", 2)]) (N := ["words", "row", "word"]) (sc := defScope s__law_loose) (by decide +kernel)) (gl_name (by decide)) (fun _ _ _ _ _ => pg_name (i := 2) sc__law_loose.nd rfl (Or.inl rfl)) (fun _ _ _ _ _ => pts3_nil) (fun _ _ _ _ _ => (pe3_op op3_add (pv3 2) (pe3_op op3_mul pe3_str (pe3_call G__law_digit (hr.mono l__law_digit) rfl T.g__law_digit T.F__law_digit.kp T.b__law_digit tk3_none (pa3_cons (pv3 1) (pa3_cons pe3_int pa3_nil))))))))))), sem _ _ _ _ hs⟩
theorem sc__law_tight : FnScope ["words", "word"] ["words"] (defScope s__law_tight) := ⟨rfl, rfl, rfl, by decide +kernel, rfl, by decide +kernel, by decide +kernel⟩
theorem o__law_tight (T : Txt w K mg) {sp : Sp3} (len : ∀ ds h Q E, sp ds h Q E → ds.length = 1) (sem : ∀ ds h Q E, sp ds h Q E → r__law_tight (endX E) (endsOf Q) (start3 ["words", "word"] ds) h) : Ok w K mg base (k + 1) d__law_tight ["words"] sp :=
  ok3 T.F__law_tight sc__law_tight len fun cdv A outer s H E ds h Q E3 hr hs tk => ⟨_, by
    show PSs3 _ _ (defBody s__law_tight) (r__law_tight (endX E3))
    exact (pss3_one (ps3_ret (pe3_joinL pe3_str (pl3_lc (own := [("word", 1)]) rfl sc__law_tight.nd (pi3_seq (pv3 0)) (blkOk_by (own := [("word", 1)]) (N := ["words", "word"]) (sc := defScope s__law_tight) (by decide +kernel)) (gl_name (by decide)) (fun _ _ _ _ _ => pg_name (i := 1) sc__law_tight.nd rfl (Or.inl rfl)) (fun _ _ _ _ _ => pts3_nil) (fun _ _ _ _ _ => (pe3_op op3_add (pv3 1) (pe3_op op3_mul pe3_str (pe3_callTy cr3_int rfl T.z_int (by decide +kernel) (pa3_cons (pe3_inD (pv3 1) (pa3_cons pe3_str (pa3_cons pe3_str (pa3_cons pe3_str pa3_nil)))) pa3_nil))))))))), sem _ _ _ _ hs⟩
theorem sc__law_kind_words : FnScope ["kind", "word", "words", "name", "inner", "number"] ["kind"] (defScope s__law_kind_words) := ⟨rfl, rfl, rfl, by decide +kernel, rfl, by decide +kernel, by decide +kernel⟩
theorem o__law_kind_words (T : Txt w K mg) {k__law_kind_words : Nat} {sp__law_kind_words : Sp3} (G__law_kind_words : Ok w K mg base k__law_kind_words d__law_kind_words ["kind"] sp__law_kind_words) (l__law_kind_words : k__law_kind_words ≤ k) {sp : Sp3} (len : ∀ ds h Q E, sp ds h Q E → ds.length = 1) (sem : ∀ ds h Q E, sp ds h Q E → r__law_kind_words sp__law_kind_words (endX E) (endsOf Q) (start3 ["kind", "word", "words", "name", "inner", "number"] ds) h) : Ok w K mg base (k + 1) d__law_kind_words ["kind"] sp :=
  ok3 T.F__law_kind_words sc__law_kind_words len fun cdv A outer s H E ds h Q E3 hr hs tk => ⟨_, by
    show PSs3 _ _ (defBody s__law_kind_words) (r__law_kind_words sp__law_kind_words (endX E3))
    exact (pss3_cons (ps3_set (i := 1) sc__law_kind_words.nd rfl (.inl rfl) (pe3_ix (pv3 0) pe3_int))
    (pss3_cons (ps3_set (i := 2) sc__law_kind_words.nd rfl (.inl rfl) (pe3_lst (pa3_cons (pv3 1) (pa3_cons pe3_str pa3_nil))))
    (pss3_cons (ps3_if (pt3_cmp (op3_eq hr.units) (pv3 1) pe3_str (nomark _)) (pss3_one (ps3_for (passes3 rfl) rfl (pi3_seq (pe3_ix (pv3 0) pe3_int)) (pg3_tup rfl (pgs3_cons (i := 3) sc__law_kind_words.nd rfl (.inl rfl) (pgs3_cons (i := 4) sc__law_kind_words.nd rfl (.inl rfl) pgs3_nil))) (pss3_one (ps3_set (i := 2) sc__law_kind_words.nd rfl (.inl rfl) (pe3_op op3_add (pe3_op op3_add (pe3_op op3_add (pv3 2) (pe3_lst (pa3_cons (pv3 3) (pa3_cons pe3_str pa3_nil)))) (pe3_call G__law_kind_words (hr.mono l__law_kind_words) rfl T.g__law_kind_words T.F__law_kind_words.kp T.b__law_kind_words tk (pa3_cons (pv3 4) pa3_nil))) (pe3_lst (pa3_cons pe3_str pa3_nil))))))) (pss3_one (ps3_if (pt3_cmp (op3_eq hr.units) (pv3 1) pe3_str (nomark _)) (pss3_one (ps3_for (passes3 rfl) rfl (pi3_seq (pe3_ix (pv3 0) pe3_int)) (pg3_name (i := 3) sc__law_kind_words.nd rfl (.inl rfl)) (pss3_one (ps3_set (i := 2) sc__law_kind_words.nd rfl (.inl rfl) (pe3_op op3_add (pv3 2) (pe3_lst (pa3_cons (pv3 3) (pa3_cons pe3_str pa3_nil)))))))) (pss3_one (ps3_if (pt3_cmp (op3_eq hr.units) (pv3 1) pe3_str (nomark _)) (pss3_one (ps3_set (i := 2) sc__law_kind_words.nd rfl (.inl rfl) (pe3_op op3_add (pe3_op op3_add (pe3_op op3_add (pv3 2) (pe3_lst (pa3_cons (pe3_callTy cr3_str rfl T.z_str (by decide +kernel) (pa3_cons (pe3_ix (pv3 0) pe3_int) pa3_nil)) (pa3_cons pe3_str pa3_nil)))) (pe3_call G__law_kind_words (hr.mono l__law_kind_words) rfl T.g__law_kind_words T.F__law_kind_words.kp T.b__law_kind_words tk (pa3_cons (pe3_ix (pv3 0) pe3_int) pa3_nil))) (pe3_lst (pa3_cons pe3_str pa3_nil))))) (pss3_one (ps3_if (pt3_cmp (op3_eq hr.units) (pv3 1) pe3_str (nomark _)) (pss3_one (ps3_set (i := 2) sc__law_kind_words.nd rfl (.inl rfl) (pe3_op op3_add (pe3_op op3_add (pe3_op op3_add (pv3 2) (pe3_lst (pa3_cons (pe3_ix (pv3 0) pe3_int) (pa3_cons pe3_str (pa3_cons (pe3_callTy cr3_str rfl T.z_str (by decide +kernel) (pa3_cons (pe3_ix (pv3 0) pe3_int) pa3_nil)) (pa3_cons pe3_str pa3_nil)))))) (pe3_call G__law_kind_words (hr.mono l__law_kind_words) rfl T.g__law_kind_words T.F__law_kind_words.kp T.b__law_kind_words tk (pa3_cons (pe3_ix (pv3 0) pe3_int) pa3_nil))) (pe3_lst (pa3_cons pe3_str pa3_nil))))) (pss3_one (ps3_for (passes3 rfl) rfl (pi3_seq (pe3_slice (pv3 0) (po3_some pe3_int) po3_none)) (pg3_name (i := 5) sc__law_kind_words.nd rfl (.inl rfl)) (pss3_one (ps3_set (i := 2) sc__law_kind_words.nd rfl (.inl rfl) (pe3_op op3_add (pv3 2) (pe3_lst (pa3_cons (pe3_callTy cr3_str rfl T.z_str (by decide +kernel) (pa3_cons (pv3 5) pa3_nil)) (pa3_cons pe3_str pa3_nil)))))))))))))))
    (pss3_cons (ps3_if (pt3_cmp (op3_eq hr.units) (pe3_ix (pv3 2) (pe3_neg pe3_int)) pe3_str (nomark _)) (pss3_one (ps3_set (i := 2) sc__law_kind_words.nd rfl (.inl rfl) (pe3_slice (pv3 2) po3_none (po3_some (pe3_neg pe3_int))))) pss3_nil)
    (pss3_one (ps3_ret (pe3_op op3_add (pv3 2) (pe3_lst (pa3_cons pe3_str pa3_nil))))))))), sem _ _ _ _ hs⟩
theorem sc__law_names : FnScope ["row", "many", "base", "tail", "way", "words", "k"] ["row", "many"] (defScope s__law_names) := ⟨rfl, rfl, rfl, by decide +kernel, rfl, by decide +kernel, by decide +kernel⟩
theorem o__law_names (T : Txt w K mg) {k__law_digit : Nat} {sp__law_digit : Sp3} (G__law_digit : Ok w K mg base k__law_digit d__law_digit ["row", "many"] sp__law_digit) (l__law_digit : k__law_digit ≤ k) {sp : Sp3} (len : ∀ ds h Q E, sp ds h Q E → ds.length = 2) (sem : ∀ ds h Q E, sp ds h Q E → r__law_names sp__law_digit (endX E) (endsOf Q) (start3 ["row", "many", "base", "tail", "way", "words", "k"] ds) h) : Ok w K mg base (k + 1) d__law_names ["row", "many"] sp :=
  ok3 T.F__law_names sc__law_names len fun cdv A outer s H E ds h Q E3 hr hs tk => ⟨_, by
    show PSs3 _ _ (defBody s__law_names) (r__law_names sp__law_digit (endX E3))
    exact (pss3_cons (ps3_set (i := 2) sc__law_names.nd rfl (.inr rfl) (pe3_call G__law_digit (hr.mono l__law_digit) rfl T.g__law_digit T.F__law_digit.kp T.b__law_digit tk (pa3_cons (pv3 0) (pa3_cons pe3_int pa3_nil))))
    (pss3_cons (ps3_set (i := 3) sc__law_names.nd rfl (.inr rfl) (pe3_ixD (pa3_cons pe3_str (pa3_cons pe3_str (pa3_cons pe3_str (pa3_cons pe3_str pa3_nil)))) (pe3_call G__law_digit (hr.mono l__law_digit) rfl T.g__law_digit T.F__law_digit.kp T.b__law_digit tk (pa3_cons (pv3 0) (pa3_cons pe3_int pa3_nil)))))
    (pss3_cons (ps3_set (i := 4) sc__law_names.nd rfl (.inl rfl) (pe3_call G__law_digit (hr.mono l__law_digit) rfl T.g__law_digit T.F__law_digit.kp T.b__law_digit tk (pa3_cons (pv3 0) (pa3_cons pe3_int pa3_nil))))
    (pss3_cons (ps3_if (pt3_cmp (op3_eq hr.units) (pv3 4) pe3_int (nomark _)) (pss3_one (ps3_ret (pe3_new (pl3_lc (own := [("k", 6)]) rfl sc__law_names.nd (pi3_range1 rfl T.z_range (pa3_cons (pv3 1) pa3_nil)) (blkOk_by (own := [("k", 6)]) (N := ["row", "many", "base", "tail", "way", "words", "k"]) (sc := defScope s__law_names) (by decide +kernel)) (gl_name (by decide)) (fun _ _ _ _ _ => pg_name (i := 6) sc__law_names.nd rfl (Or.inl rfl)) (fun _ _ _ _ _ => pts3_nil) (fun _ _ _ _ _ => (pe3_slice pe3_str po3_none (po3_some (pe3_op op3_add (pv3 6) pe3_int)))))))) pss3_nil)
    (pss3_cons (ps3_if (pt3_cmp (op3_eq hr.units) (pv3 4) pe3_int (nomark _)) (pss3_cons (ps3_set (i := 5) sc__law_names.nd rfl (.inr rfl) (pe3_lst (pa3_cons pe3_str (pa3_cons pe3_str (pa3_cons pe3_str (pa3_cons pe3_str (pa3_cons pe3_str (pa3_cons pe3_str (pa3_cons pe3_str (pa3_cons pe3_str pa3_nil))))))))))
    (pss3_one (ps3_ret (pe3_callBL cl3_sorted rfl T.z_sorted (by decide +kernel) (pl3_lc (own := [("k", 6)]) rfl sc__law_names.nd (pi3_range1 rfl T.z_range (pa3_cons (pv3 1) pa3_nil)) (blkOk_by (own := [("k", 6)]) (N := ["row", "many", "base", "tail", "way", "words", "k"]) (sc := defScope s__law_names) (by decide +kernel)) (gl_name (by decide)) (fun _ _ _ _ _ => pg_name (i := 6) sc__law_names.nd rfl (Or.inl rfl)) (fun _ _ _ _ _ => pts3_nil) (fun _ _ _ _ _ => (pe3_ix (pv3 5) (pe3_op op3_mod (pe3_op op3_add (pv3 2) (pv3 6)) pe3_int)))))))) pss3_nil)
    (pss3_one (ps3_ret (pe3_callBL cl3_sorted rfl T.z_sorted (by decide +kernel) (pl3_lc (own := [("k", 6)]) rfl sc__law_names.nd (pi3_range1 rfl T.z_range (pa3_cons (pv3 1) pa3_nil)) (blkOk_by (own := [("k", 6)]) (N := ["row", "many", "base", "tail", "way", "words", "k"]) (sc := defScope s__law_names) (by decide +kernel)) (gl_name (by decide)) (fun _ _ _ _ _ => pg_name (i := 6) sc__law_names.nd rfl (Or.inl rfl)) (fun _ _ _ _ _ => pts3_nil) (fun _ _ _ _ _ => (pe3_op op3_add (pe3_ix pe3_str (pe3_op op3_mod (pe3_op op3_add (pv3 2) (pe3_op op3_mul pe3_int (pv3 6))) pe3_int)) (pv3 3)))))))))))), sem _ _ _ _ hs⟩
theorem sc__law_record_kind : FnScope ["row", "deep", "room", "many", "fields", "name"] ["row", "deep", "room"] (defScope s__law_record_kind) := ⟨rfl, rfl, rfl, by decide +kernel, rfl, by decide +kernel, by decide +kernel⟩
theorem o__law_record_kind (T : Txt w K mg) {k__law_names : Nat} {sp__law_names : Sp3} (G__law_names : Ok w K mg base k__law_names d__law_names ["row", "many"] sp__law_names) (l__law_names : k__law_names ≤ k) {k__law_kind : Nat} {sp__law_kind : Sp3} (G__law_kind : Ok w K mg base k__law_kind d__law_kind ["row", "deep", "room"] sp__law_kind) (l__law_kind : k__law_kind ≤ k) {k__law_digit : Nat} {sp__law_digit : Sp3} (G__law_digit : Ok w K mg base k__law_digit d__law_digit ["row", "many"] sp__law_digit) (l__law_digit : k__law_digit ≤ k) {sp : Sp3} (len : ∀ ds h Q E, sp ds h Q E → ds.length = 3) (sem : ∀ ds h Q E, sp ds h Q E → r__law_record_kind sp__law_names sp__law_kind sp__law_digit (endX E) (endsOf Q) (start3 ["row", "deep", "room", "many", "fields", "name"] ds) h) : Ok w K mg base (k + 1) d__law_record_kind ["row", "deep", "room"] sp :=
  ok3 T.F__law_record_kind sc__law_record_kind len fun cdv A outer s H E ds h Q E3 hr hs tk => ⟨_, by
    show PSs3 _ _ (defBody s__law_record_kind) (r__law_record_kind sp__law_names sp__law_kind sp__law_digit (endX E3))
    exact (pss3_cons (ps3_set (i := 3) sc__law_record_kind.nd rfl (.inl rfl) (pe3_call G__law_digit (hr.mono l__law_digit) rfl T.g__law_digit T.F__law_digit.kp T.b__law_digit tk (pa3_cons (pv3 0) (pa3_cons pe3_int pa3_nil))))
    (pss3_cons (ps3_set (i := 4) sc__law_record_kind.nd rfl (.inl rfl) (pe3_lst pa3_nil))
    (pss3_cons (ps3_for (passes3 rfl) rfl (pi3_seq (pe3_call G__law_names (hr.mono l__law_names) rfl T.g__law_names T.F__law_names.kp T.b__law_names tk (pa3_cons (pv3 0) (pa3_cons (pv3 3) pa3_nil)))) (pg3_name (i := 5) sc__law_record_kind.nd rfl (.inl rfl)) (pss3_one (ps3_expr (pe3_bm PySem.F.plainAttrs_list PySem.F.slot_list_append PySem.F.type_list_append mt3_append (pv3 4) (pa3_cons (pe3_tup (pa3_cons (pv3 5) (pa3_cons (pe3_call G__law_kind (hr.mono l__law_kind) rfl T.g__law_kind T.F__law_kind.kp T.b__law_kind tk (pa3_cons (pv3 0) (pa3_cons (pe3_op op3_sub (pv3 1) pe3_int) (pa3_cons (pv3 2) pa3_nil)))) pa3_nil))) pa3_nil)))))
    (pss3_one (ps3_ret (pe3_tup (pa3_cons pe3_str (pa3_cons (pe3_callTy cr3_tup rfl T.z_tuple (by decide +kernel) (pa3_cons (pv3 4) pa3_nil)) pa3_nil)))))))), sem _ _ _ _ hs⟩
theorem sc__law_number_kind : FnScope ["row", "low", "high"] ["row"] (defScope s__law_number_kind) := ⟨rfl, rfl, rfl, by decide +kernel, rfl, by decide +kernel, by decide +kernel⟩
theorem o__law_number_kind (T : Txt w K mg) {k__law_digit : Nat} {sp__law_digit : Sp3} (G__law_digit : Ok w K mg base k__law_digit d__law_digit ["row", "many"] sp__law_digit) (l__law_digit : k__law_digit ≤ k) {sp : Sp3} (len : ∀ ds h Q E, sp ds h Q E → ds.length = 1) (sem : ∀ ds h Q E, sp ds h Q E → r__law_number_kind sp__law_digit (endX E) (endsOf Q) (start3 ["row", "low", "high"] ds) h) : Ok w K mg base (k + 1) d__law_number_kind ["row"] sp :=
  ok3 T.F__law_number_kind sc__law_number_kind len fun cdv A outer s H E ds h Q E3 hr hs tk => ⟨_, by
    show PSs3 _ _ (defBody s__law_number_kind) (r__law_number_kind sp__law_digit (endX E3))
    exact (pss3_cons (ps3_set (i := 1) sc__law_number_kind.nd rfl (.inl rfl) (pe3_ixD (pa3_cons (pe3_op op3_sub (pe3_call G__law_digit (hr.mono l__law_digit) rfl T.g__law_digit T.F__law_digit.kp T.b__law_digit tk (pa3_cons (pv3 0) (pa3_cons pe3_int pa3_nil))) pe3_int) (pa3_cons (pe3_op op3_sub (pe3_call G__law_digit (hr.mono l__law_digit) rfl T.g__law_digit T.F__law_digit.kp T.b__law_digit tk (pa3_cons (pv3 0) (pa3_cons (pe3_op op3_add (pe3_op op3_mul pe3_int (pe3_op op3_pow pe3_int pe3_int)) pe3_int) pa3_nil))) (pe3_op op3_pow pe3_int pe3_int)) pa3_nil)) (pe3_callTy cr3_int rfl T.z_int (by decide +kernel) (pa3_cons (pe3_cmp (op3_eq hr.units) (pe3_call G__law_digit (hr.mono l__law_digit) rfl T.g__law_digit T.F__law_digit.kp T.b__law_digit tk (pa3_cons (pv3 0) (pa3_cons pe3_int pa3_nil))) pe3_int (nomark _)) pa3_nil))))
    (pss3_cons (ps3_set (i := 2) sc__law_number_kind.nd rfl (.inl rfl) (pe3_callB (cr3_min rfl) rfl T.z_min (by decide +kernel) (pa3_cons (pe3_op op3_pow pe3_int pe3_int) (pa3_cons (pe3_op op3_add (pv3 1) (pe3_ixD (pa3_cons (pe3_call G__law_digit (hr.mono l__law_digit) rfl T.g__law_digit T.F__law_digit.kp T.b__law_digit tk (pa3_cons (pv3 0) (pa3_cons pe3_int pa3_nil))) (pa3_cons (pe3_op op3_pow pe3_int pe3_int) (pa3_cons (pe3_call G__law_digit (hr.mono l__law_digit) rfl T.g__law_digit T.F__law_digit.kp T.b__law_digit tk (pa3_cons (pv3 0) (pa3_cons pe3_int pa3_nil))) pa3_nil))) (pe3_call G__law_digit (hr.mono l__law_digit) rfl T.g__law_digit T.F__law_digit.kp T.b__law_digit tk (pa3_cons (pv3 0) (pa3_cons pe3_int pa3_nil))))) pa3_nil))))
    (pss3_one (ps3_ret (pe3_tup (pa3_cons pe3_str (pa3_cons (pv3 1) (pa3_cons (pv3 2) pa3_nil)))))))), sem _ _ _ _ hs⟩
theorem sc__law_rows_kind : FnScope ["row", "deep", "room", "names", "key", "fields", "name", "inner"] ["row", "deep", "room"] (defScope s__law_rows_kind) := ⟨rfl, rfl, rfl, by decide +kernel, rfl, by decide +kernel, by decide +kernel⟩
theorem o__law_rows_kind (T : Txt w K mg) {k__law_digit : Nat} {sp__law_digit : Sp3} (G__law_digit : Ok w K mg base k__law_digit d__law_digit ["row", "many"] sp__law_digit) (l__law_digit : k__law_digit ≤ k) {k__law_kind : Nat} {sp__law_kind : Sp3} (G__law_kind : Ok w K mg base k__law_kind d__law_kind ["row", "deep", "room"] sp__law_kind) (l__law_kind : k__law_kind ≤ k) {k__law_number_kind : Nat} {sp__law_number_kind : Sp3} (G__law_number_kind : Ok w K mg base k__law_number_kind d__law_number_kind ["row"] sp__law_number_kind) (l__law_number_kind : k__law_number_kind ≤ k) {k__law_names : Nat} {sp__law_names : Sp3} (G__law_names : Ok w K mg base k__law_names d__law_names ["row", "many"] sp__law_names) (l__law_names : k__law_names ≤ k) {sp : Sp3} (len : ∀ ds h Q E, sp ds h Q E → ds.length = 3) (sem : ∀ ds h Q E, sp ds h Q E → r__law_rows_kind sp__law_digit sp__law_kind sp__law_number_kind sp__law_names (endX E) (endsOf Q) (start3 ["row", "deep", "room", "names", "key", "fields", "name", "inner"] ds) h) : Ok w K mg base (k + 1) d__law_rows_kind ["row", "deep", "room"] sp :=
  ok3 T.F__law_rows_kind sc__law_rows_kind len fun cdv A outer s H E ds h Q E3 hr hs tk => ⟨_, by
    show PSs3 _ _ (defBody s__law_rows_kind) (r__law_rows_kind sp__law_digit sp__law_kind sp__law_number_kind sp__law_names (endX E3))
    exact (pss3_cons (ps3_set (i := 3) sc__law_rows_kind.nd rfl (.inl rfl) (pe3_call G__law_names (hr.mono l__law_names) rfl T.g__law_names T.F__law_names.kp T.b__law_names tk (pa3_cons (pv3 0) (pa3_cons (pe3_op op3_add pe3_int (pe3_call G__law_digit (hr.mono l__law_digit) rfl T.g__law_digit T.F__law_digit.kp T.b__law_digit tk (pa3_cons (pv3 0) (pa3_cons pe3_int pa3_nil)))) pa3_nil))))
    (pss3_cons (ps3_set (i := 4) sc__law_rows_kind.nd rfl (.inl rfl) (pe3_ix (pv3 3) (pe3_call G__law_digit (hr.mono l__law_digit) rfl T.g__law_digit T.F__law_digit.kp T.b__law_digit tk (pa3_cons (pv3 0) (pa3_cons (pe3_callB cr3_len rfl T.z_len (by decide +kernel) (pa3_cons (pv3 3) pa3_nil)) pa3_nil)))))
    (pss3_cons (ps3_set (i := 5) sc__law_rows_kind.nd rfl (.inl rfl) (pe3_lst pa3_nil))
    (pss3_cons (ps3_for (passes3 rfl) rfl (pi3_seq (pv3 3)) (pg3_name (i := 6) sc__law_rows_kind.nd rfl (.inl rfl)) (pss3_cons (ps3_set (i := 7) sc__law_rows_kind.nd rfl (.inl rfl) (pe3_call G__law_number_kind (hr.mono l__law_number_kind) rfl T.g__law_number_kind T.F__law_number_kind.kp T.b__law_number_kind tk (pa3_cons (pv3 0) pa3_nil)))
    (pss3_cons (ps3_if (pt3_cmp (op3_eq hr.units) (pe3_call G__law_digit (hr.mono l__law_digit) rfl T.g__law_digit T.F__law_digit.kp T.b__law_digit tk (pa3_cons (pv3 0) (pa3_cons pe3_int pa3_nil))) pe3_int (nomark _)) (pss3_one (ps3_set (i := 7) sc__law_rows_kind.nd rfl (.inl rfl) (pe3_tup (pa3_cons pe3_str (pa3_cons (pe3_call G__law_digit (hr.mono l__law_digit) rfl T.g__law_digit T.F__law_digit.kp T.b__law_digit tk (pa3_cons (pv3 0) (pa3_cons pe3_int pa3_nil))) pa3_nil))))) pss3_nil)
    (pss3_cons (ps3_if (pt3_cmp (op3_ne hr.units) (pv3 6) (pv3 4) (nomark _)) (pss3_one (ps3_set (i := 7) sc__law_rows_kind.nd rfl (.inl rfl) (pe3_call G__law_kind (hr.mono l__law_kind) rfl T.g__law_kind T.F__law_kind.kp T.b__law_kind tk (pa3_cons (pv3 0) (pa3_cons (pe3_op op3_sub (pv3 1) pe3_int) (pa3_cons (pv3 2) pa3_nil)))))) pss3_nil)
    (pss3_one (ps3_expr (pe3_bm PySem.F.plainAttrs_list PySem.F.slot_list_append PySem.F.type_list_append mt3_append (pv3 5) (pa3_cons (pe3_tup (pa3_cons (pv3 6) (pa3_cons (pv3 7) pa3_nil))) pa3_nil))))))))
    (pss3_one (ps3_ret (pe3_tup (pa3_cons pe3_str (pa3_cons (pv3 4) (pa3_cons (pe3_tup (pa3_cons pe3_str (pa3_cons (pe3_callTy cr3_tup rfl T.z_tuple (by decide +kernel) (pa3_cons (pv3 5) pa3_nil)) pa3_nil))) (pa3_cons (pe3_call G__law_digit (hr.mono l__law_digit) rfl T.g__law_digit T.F__law_digit.kp T.b__law_digit tk (pa3_cons (pv3 0) (pa3_cons pe3_int pa3_nil))) pa3_nil))))))))))), sem _ _ _ _ hs⟩
theorem sc__law_leaf_kind : FnScope ["row", "way", "words"] ["row"] (defScope s__law_leaf_kind) := ⟨rfl, rfl, rfl, by decide +kernel, rfl, by decide +kernel, by decide +kernel⟩
theorem o__law_leaf_kind (T : Txt w K mg) {k__law_digit : Nat} {sp__law_digit : Sp3} (G__law_digit : Ok w K mg base k__law_digit d__law_digit ["row", "many"] sp__law_digit) (l__law_digit : k__law_digit ≤ k) {k__law_names : Nat} {sp__law_names : Sp3} (G__law_names : Ok w K mg base k__law_names d__law_names ["row", "many"] sp__law_names) (l__law_names : k__law_names ≤ k) {k__law_number_kind : Nat} {sp__law_number_kind : Sp3} (G__law_number_kind : Ok w K mg base k__law_number_kind d__law_number_kind ["row"] sp__law_number_kind) (l__law_number_kind : k__law_number_kind ≤ k) {sp : Sp3} (len : ∀ ds h Q E, sp ds h Q E → ds.length = 1) (sem : ∀ ds h Q E, sp ds h Q E → r__law_leaf_kind sp__law_digit sp__law_names sp__law_number_kind (endX E) (endsOf Q) (start3 ["row", "way", "words"] ds) h) : Ok w K mg base (k + 1) d__law_leaf_kind ["row"] sp :=
  ok3 T.F__law_leaf_kind sc__law_leaf_kind len fun cdv A outer s H E ds h Q E3 hr hs tk => ⟨_, by
    show PSs3 _ _ (defBody s__law_leaf_kind) (r__law_leaf_kind sp__law_digit sp__law_names sp__law_number_kind (endX E3))
    exact (pss3_cons (ps3_set (i := 1) sc__law_leaf_kind.nd rfl (.inl rfl) (pe3_call G__law_digit (hr.mono l__law_digit) rfl T.g__law_digit T.F__law_digit.kp T.b__law_digit tk (pa3_cons (pv3 0) (pa3_cons pe3_int pa3_nil))))
    (pss3_cons (ps3_if (pt3_cmp (op3_eq hr.units) (pv3 1) pe3_int (nomark _)) (pss3_one (ps3_ret (pe3_call G__law_number_kind (hr.mono l__law_number_kind) rfl T.g__law_number_kind T.F__law_number_kind.kp T.b__law_number_kind tk (pa3_cons (pv3 0) pa3_nil)))) pss3_nil)
    (pss3_cons (ps3_if (pt3_cmp (op3_eq hr.units) (pv3 1) pe3_int (nomark _)) (pss3_one (ps3_ret (pe3_tup (pa3_cons pe3_str (pa3_cons (pe3_ixD (pa3_cons (pe3_call G__law_digit (hr.mono l__law_digit) rfl T.g__law_digit T.F__law_digit.kp T.b__law_digit tk (pa3_cons (pv3 0) (pa3_cons pe3_int pa3_nil))) (pa3_cons (pe3_call G__law_digit (hr.mono l__law_digit) rfl T.g__law_digit T.F__law_digit.kp T.b__law_digit tk (pa3_cons (pv3 0) (pa3_cons pe3_int pa3_nil))) pa3_nil)) (pe3_call G__law_digit (hr.mono l__law_digit) rfl T.g__law_digit T.F__law_digit.kp T.b__law_digit tk (pa3_cons (pv3 0) (pa3_cons pe3_int pa3_nil)))) pa3_nil))))) pss3_nil)
    (pss3_cons (ps3_set (i := 2) sc__law_leaf_kind.nd rfl (.inl rfl) (pe3_call G__law_names (hr.mono l__law_names) rfl T.g__law_names T.F__law_names.kp T.b__law_names tk (pa3_cons (pv3 0) (pa3_cons (pe3_op op3_add pe3_int (pe3_call G__law_digit (hr.mono l__law_digit) rfl T.g__law_digit T.F__law_digit.kp T.b__law_digit tk (pa3_cons (pv3 0) (pa3_cons pe3_int pa3_nil)))) pa3_nil))))
    (pss3_cons (ps3_if (pt3_cmp (op3_eq hr.units) (pe3_call G__law_digit (hr.mono l__law_digit) rfl T.g__law_digit T.F__law_digit.kp T.b__law_digit tk (pa3_cons (pv3 0) (pa3_cons pe3_int pa3_nil))) pe3_int (nomark _)) (pss3_one (ps3_expr (pe3_bm0 PySem.F.plainAttrs_list PySem.F.slot_list_reverse PySem.F.type_list_reverse mt3_reverse (pv3 2)))) pss3_nil)
    (pss3_one (ps3_ret (pe3_tup (pa3_cons pe3_str (pa3_cons (pe3_callTy cr3_tup rfl T.z_tuple (by decide +kernel) (pa3_cons (pv3 2) pa3_nil)) pa3_nil)))))))))), sem _ _ _ _ hs⟩
theorem sc__law_kind : FnScope ["row", "deep", "room", "way"] ["row", "deep", "room"] (defScope s__law_kind) := ⟨rfl, rfl, rfl, by decide +kernel, rfl, by decide +kernel, by decide +kernel⟩
theorem o__law_kind (T : Txt w K mg) {k__law_record_kind : Nat} {sp__law_record_kind : Sp3} (G__law_record_kind : Ok w K mg base k__law_record_kind d__law_record_kind ["row", "deep", "room"] sp__law_record_kind) (l__law_record_kind : k__law_record_kind ≤ k) {k__law_rows_kind : Nat} {sp__law_rows_kind : Sp3} (G__law_rows_kind : Ok w K mg base k__law_rows_kind d__law_rows_kind ["row", "deep", "room"] sp__law_rows_kind) (l__law_rows_kind : k__law_rows_kind ≤ k) {k__law_digit : Nat} {sp__law_digit : Sp3} (G__law_digit : Ok w K mg base k__law_digit d__law_digit ["row", "many"] sp__law_digit) (l__law_digit : k__law_digit ≤ k) {k__law_kind : Nat} {sp__law_kind : Sp3} (G__law_kind : Ok w K mg base k__law_kind d__law_kind ["row", "deep", "room"] sp__law_kind) (l__law_kind : k__law_kind ≤ k) {k__law_leaf_kind : Nat} {sp__law_leaf_kind : Sp3} (G__law_leaf_kind : Ok w K mg base k__law_leaf_kind d__law_leaf_kind ["row"] sp__law_leaf_kind) (l__law_leaf_kind : k__law_leaf_kind ≤ k) {sp : Sp3} (len : ∀ ds h Q E, sp ds h Q E → ds.length = 3) (sem : ∀ ds h Q E, sp ds h Q E → r__law_kind sp__law_record_kind sp__law_rows_kind sp__law_digit sp__law_kind sp__law_leaf_kind (endX E) (endsOf Q) (start3 ["row", "deep", "room", "way"] ds) h) : Ok w K mg base (k + 1) d__law_kind ["row", "deep", "room"] sp :=
  ok3 T.F__law_kind sc__law_kind len fun cdv A outer s H E ds h Q E3 hr hs tk => ⟨_, by
    show PSs3 _ _ (defBody s__law_kind) (r__law_kind sp__law_record_kind sp__law_rows_kind sp__law_digit sp__law_kind sp__law_leaf_kind (endX E3))
    exact (pss3_cons (ps3_set (i := 3) sc__law_kind.nd rfl (.inl rfl) (pe3_call G__law_digit (hr.mono l__law_digit) rfl T.g__law_digit T.F__law_digit.kp T.b__law_digit tk (pa3_cons (pv3 0) (pa3_cons pe3_int pa3_nil))))
    (pss3_cons (ps3_asg (pe3_op op3_sub (pe3_ix (pv3 2) pe3_int) pe3_int) (pg3_sub (pv3 2) pe3_int))
    (pss3_cons (ps3_if (pw3_pt (pw3_or (pt3_cmp op3_lt (pv3 3) pe3_int (nomark _)) (pw3_or (pt3_cmp op3_lt (pv3 1) pe3_int (nomark _)) (pw3_or1 (pt3_cmp op3_lt (pe3_ix (pv3 2) pe3_int) pe3_int (nomark _)))))) (pss3_one (ps3_ret (pe3_call G__law_leaf_kind (hr.mono l__law_leaf_kind) rfl T.g__law_leaf_kind T.F__law_leaf_kind.kp T.b__law_leaf_kind tk (pa3_cons (pv3 0) pa3_nil)))) pss3_nil)
    (pss3_cons (ps3_if (pt3_cmp (op3_eq hr.units) (pv3 3) pe3_int (nomark _)) (pss3_one (ps3_ret (pe3_tup (pa3_cons pe3_str (pa3_cons (pe3_call G__law_kind (hr.mono l__law_kind) rfl T.g__law_kind T.F__law_kind.kp T.b__law_kind tk (pa3_cons (pv3 0) (pa3_cons (pe3_op op3_sub (pv3 1) pe3_int) (pa3_cons (pv3 2) pa3_nil)))) (pa3_cons (pe3_call G__law_digit (hr.mono l__law_digit) rfl T.g__law_digit T.F__law_digit.kp T.b__law_digit tk (pa3_cons (pv3 0) (pa3_cons pe3_int pa3_nil))) pa3_nil)))))) pss3_nil)
    (pss3_cons (ps3_if (pw3_pt (pw3_and (pt3_cmp (op3_eq hr.units) (pv3 3) pe3_int (nomark _)) (pw3_and1 (pt3_cmp op3_gt (pv3 1) pe3_int (nomark _))))) (pss3_one (ps3_ret (pe3_call G__law_rows_kind (hr.mono l__law_rows_kind) rfl T.g__law_rows_kind T.F__law_rows_kind.kp T.b__law_rows_kind tk (pa3_cons (pv3 0) (pa3_cons (pv3 1) (pa3_cons (pv3 2) pa3_nil)))))) pss3_nil)
    (pss3_one (ps3_ret (pe3_call G__law_record_kind (hr.mono l__law_record_kind) rfl T.g__law_record_kind T.F__law_record_kind.kp T.b__law_record_kind tk (pa3_cons (pv3 0) (pa3_cons (pv3 1) (pa3_cons (pv3 2) pa3_nil))))))))))), sem _ _ _ _ hs⟩
theorem sc__law_mixed : FnScope ["cell", "k", "stir"] ["cell", "k"] (defScope s__law_mixed) := ⟨rfl, rfl, rfl, by decide +kernel, rfl, by decide +kernel, by decide +kernel⟩
theorem o__law_mixed (T : Txt w K mg) {sp : Sp3} (len : ∀ ds h Q E, sp ds h Q E → ds.length = 2) (sem : ∀ ds h Q E, sp ds h Q E → r__law_mixed (endX E) (endsOf Q) (start3 ["cell", "k", "stir"] ds) h) : Ok w K mg base (k + 1) d__law_mixed ["cell", "k"] sp :=
  ok3 T.F__law_mixed sc__law_mixed len fun cdv A outer s H E ds h Q E3 hr hs tk => ⟨_, by
    show PSs3 _ _ (defBody s__law_mixed) (r__law_mixed (endX E3))
    exact (pss3_cons (ps3_set (i := 2) sc__law_mixed.nd rfl (.inl rfl) (pe3_op op3_mod (pe3_op op3_mul (pe3_op op3_add (pe3_op op3_add (pe3_op op3_mod (pv3 0) pe3_int) (pe3_op op3_mul pe3_int (pv3 1))) pe3_int) pe3_int) pe3_int))
    (pss3_one (ps3_ret (pe3_op op3_mod (pe3_op op3_mul (pe3_op op3_mod (pe3_op op3_mul (pv3 2) (pv3 2)) pe3_int) pe3_int) pe3_int)))), sem _ _ _ _ hs⟩
theorem sc__law_cell_at : FnScope ["script", "k"] ["script", "k"] (defScope s__law_cell_at) := ⟨rfl, rfl, rfl, by decide +kernel, rfl, by decide +kernel, by decide +kernel⟩
theorem o__law_cell_at (T : Txt w K mg) {sp : Sp3} (len : ∀ ds h Q E, sp ds h Q E → ds.length = 2) (sem : ∀ ds h Q E, sp ds h Q E → r__law_cell_at (endX E) (endsOf Q) (start3 ["script", "k"] ds) h) : Ok w K mg base (k + 1) d__law_cell_at ["script", "k"] sp :=
  ok3 T.F__law_cell_at sc__law_cell_at len fun cdv A outer s H E ds h Q E3 hr hs tk => ⟨_, by
    show PSs3 _ _ (defBody s__law_cell_at) (r__law_cell_at (endX E3))
    exact (pss3_cons (ps3_if (pt3_cmp op3_lt (pv3 1) (pe3_callB cr3_len rfl T.z_len (by decide +kernel) (pa3_cons (pv3 0) pa3_nil)) (nomark _)) (pss3_one (ps3_ret (pe3_ix (pv3 0) (pv3 1)))) pss3_nil)
    (pss3_one (ps3_ret pe3_int))), sem _ _ _ _ hs⟩
theorem sc__law_own : FnScope ["script", "k", "turn", "cell", "found", "j"] ["script", "k", "turn"] (defScope s__law_own) := ⟨rfl, rfl, rfl, by decide +kernel, rfl, by decide +kernel, by decide +kernel⟩
theorem o__law_own (T : Txt w K mg) {k__law_mixed : Nat} {sp__law_mixed : Sp3} (G__law_mixed : Ok w K mg base k__law_mixed d__law_mixed ["cell", "k"] sp__law_mixed) (l__law_mixed : k__law_mixed ≤ k) {k__law_cell_at : Nat} {sp__law_cell_at : Sp3} (G__law_cell_at : Ok w K mg base k__law_cell_at d__law_cell_at ["script", "k"] sp__law_cell_at) (l__law_cell_at : k__law_cell_at ≤ k) {sp : Sp3} (len : ∀ ds h Q E, sp ds h Q E → ds.length = 3) (sem : ∀ ds h Q E, sp ds h Q E → r__law_own sp__law_mixed sp__law_cell_at (endX E) (endsOf Q) (start3 ["script", "k", "turn", "cell", "found", "j"] ds) h) : Ok w K mg base (k + 1) d__law_own ["script", "k", "turn"] sp :=
  ok3 T.F__law_own sc__law_own len fun cdv A outer s H E ds h Q E3 hr hs tk => ⟨_, by
    show PSs3 _ _ (defBody s__law_own) (r__law_own sp__law_mixed sp__law_cell_at (endX E3))
    exact (pss3_cons (ps3_set (i := 3) sc__law_own.nd rfl (.inl rfl) (pe3_call G__law_cell_at (hr.mono l__law_cell_at) rfl T.g__law_cell_at T.F__law_cell_at.kp T.b__law_cell_at tk (pa3_cons (pv3 0) (pa3_cons (pv3 1) pa3_nil))))
    (pss3_cons (ps3_set (i := 4) sc__law_own.nd rfl (.inl rfl) pe3_int)
    (pss3_cons (ps3_for (passes3 rfl) rfl (pi3_range1 rfl T.z_range (pa3_cons pe3_int pa3_nil)) (pg3_name (i := 5) sc__law_own.nd rfl (.inl rfl)) (pss3_one (ps3_set (i := 4) sc__law_own.nd rfl (.inl rfl) (pe3_op op3_add (pe3_op op3_mul (pv3 4) pe3_int) (pe3_call G__law_mixed (hr.mono l__law_mixed) rfl T.g__law_mixed T.F__law_mixed.kp T.b__law_mixed tk (pa3_cons (pe3_op op3_add (pe3_op op3_add (pe3_op op3_mod (pe3_callB (cr3_sum rfl) rfl T.z_sum (by decide +kernel) (pa3_cons (pv3 0) pa3_nil)) (pe3_op op3_pow pe3_int pe3_int)) (pv3 3)) (pv3 1)) (pa3_cons (pe3_op op3_add (pe3_op op3_add (pe3_op op3_mul pe3_int (pv3 1)) (pe3_op op3_mul pe3_int (pv3 2))) (pv3 5)) pa3_nil)))))))
    (pss3_cons (ps3_if (pw3_pt (pw3_and (pt3_cmp op3_ge (pv3 3) (pe3_op op3_pow pe3_int pe3_int) (nomark _)) (pw3_and1 (pt3_cmp (op3_eq hr.units) (pv3 2) pe3_int (nomark _))))) (pss3_one (ps3_ret (pe3_lst (pa3_cons (pe3_op op3_add (pe3_op op3_mod (pv3 3) (pe3_op op3_pow pe3_int pe3_int)) (pe3_op op3_mul (pe3_op op3_fdiv (pv3 4) pe3_int) (pe3_op op3_pow pe3_int pe3_int))) pa3_nil)))) pss3_nil)
    (pss3_one (ps3_ret (pe3_lst (pa3_cons (pe3_op op3_fdiv (pv3 4) pe3_int) pa3_nil)))))))), sem _ _ _ _ hs⟩
theorem sc_law : FnScope ["script", "k", "turn", "row", "kind", "words", "text"] ["script"] (defScope s_law) := ⟨rfl, rfl, rfl, by decide +kernel, rfl, by decide +kernel, by decide +kernel⟩
theorem o_law (T : Txt w K mg) {k_kind_text : Nat} {sp_kind_text : Sp3} (G_kind_text : Ok w K mg base k_kind_text d_kind_text ["kind"] sp_kind_text) (l_kind_text : k_kind_text ≤ k) {k_read_kind : Nat} {sp_read_kind : Sp3} (G_read_kind : Ok w K mg base k_read_kind d_read_kind ["text"] sp_read_kind) (l_read_kind : k_read_kind ≤ k) {k__law_loose : Nat} {sp__law_loose : Sp3} (G__law_loose : Ok w K mg base k__law_loose d__law_loose ["words", "row"] sp__law_loose) (l__law_loose : k__law_loose ≤ k) {k__law_tight : Nat} {sp__law_tight : Sp3} (G__law_tight : Ok w K mg base k__law_tight d__law_tight ["words"] sp__law_tight) (l__law_tight : k__law_tight ≤ k) {k__law_kind_words : Nat} {sp__law_kind_words : Sp3} (G__law_kind_words : Ok w K mg base k__law_kind_words d__law_kind_words ["kind"] sp__law_kind_words) (l__law_kind_words : k__law_kind_words ≤ k) {k__law_kind : Nat} {sp__law_kind : Sp3} (G__law_kind : Ok w K mg base k__law_kind d__law_kind ["row", "deep", "room"] sp__law_kind) (l__law_kind : k__law_kind ≤ k) {k__law_own : Nat} {sp__law_own : Sp3} (G__law_own : Ok w K mg base k__law_own d__law_own ["script", "k", "turn"] sp__law_own) (l__law_own : k__law_own ≤ k) {sp : Sp3} (len : ∀ ds h Q E, sp ds h Q E → ds.length = 1) (sem : ∀ ds h Q E, sp ds h Q E → r_law sp_kind_text sp_read_kind sp__law_loose sp__law_tight sp__law_kind_words sp__law_kind sp__law_own (endX E) (endsOf Q) (start3 ["script", "k", "turn", "row", "kind", "words", "text"] ds) h) : Ok w K mg base (k + 1) d_law ["script"] sp :=
  ok3 T.F_law sc_law len fun cdv A outer s H E ds h Q E3 hr hs tk => ⟨_, by
    show PSs3 _ _ (defBody s_law) (r_law sp_kind_text sp_read_kind sp__law_loose sp__law_tight sp__law_kind_words sp__law_kind sp__law_own (endX E3))
    exact (pss3_cons (ps3_for (passes3 rfl) rfl (pi3_range1 rfl T.z_range (pa3_cons (pe3_callB (cr3_min rfl) rfl T.z_min (by decide +kernel) (pa3_cons pe3_int (pa3_cons (pe3_op op3_add pe3_int (pe3_callB cr3_len rfl T.z_len (by decide +kernel) (pa3_cons (pv3 0) pa3_nil))) pa3_nil))) pa3_nil)) (pg3_name (i := 1) sc_law.nd rfl (.inl rfl)) (pss3_one (ps3_for (passes3 rfl) rfl (pi3_range1 rfl T.z_range (pa3_cons pe3_int pa3_nil)) (pg3_name (i := 2) sc_law.nd rfl (.inl rfl)) (pss3_cons (ps3_set (i := 3) sc_law.nd rfl (.inl rfl) (pe3_call G__law_own (hr.mono l__law_own) rfl T.g__law_own T.F__law_own.kp T.b__law_own tk (pa3_cons (pv3 0) (pa3_cons (pv3 1) (pa3_cons (pv3 2) pa3_nil)))))
    (pss3_cons (ps3_set (i := 4) sc_law.nd rfl (.inl rfl) (pe3_call G__law_kind (hr.mono l__law_kind) rfl T.g__law_kind T.F__law_kind.kp T.b__law_kind tk (pa3_cons (pv3 3) (pa3_cons pe3_int (pa3_cons (pe3_lst (pa3_cons pe3_int pa3_nil)) pa3_nil)))))
    (pss3_cons (ps3_set (i := 5) sc_law.nd rfl (.inl rfl) (pe3_call G__law_kind_words (hr.mono l__law_kind_words) rfl T.g__law_kind_words T.F__law_kind_words.kp T.b__law_kind_words tk (pa3_cons (pv3 4) pa3_nil)))
    (pss3_cons (ps3_set (i := 6) sc_law.nd rfl (.inl rfl) (pe3_call G__law_tight (hr.mono l__law_tight) rfl T.g__law_tight T.F__law_tight.kp T.b__law_tight tk (pa3_cons (pv3 5) pa3_nil)))
    (pss3_one (ps3_if (pw3_pt (pw3_or (pt3_cmp (op3_ne hr.units) (pe3_call G_kind_text (hr.mono l_kind_text) rfl T.g_kind_text T.F_kind_text.kp T.b_kind_text tk (pa3_cons (pv3 4) pa3_nil)) (pv3 6) (nomark _)) (pw3_or (pt3_cmp (op3_ne hr.units) (pe3_call G_read_kind (hr.mono l_read_kind) rfl T.g_read_kind T.F_read_kind.kp T.b_read_kind tk (pa3_cons (pv3 6) pa3_nil)) (pv3 4) (nomark _)) (pw3_or1 (pt3_cmp (op3_ne hr.units) (pe3_call G_read_kind (hr.mono l_read_kind) rfl T.g_read_kind T.F_read_kind.kp T.b_read_kind tk (pa3_cons (pe3_call G__law_loose (hr.mono l__law_loose) rfl T.g__law_loose T.F__law_loose.kp T.b__law_loose tk (pa3_cons (pv3 5) (pa3_cons (pv3 3) pa3_nil))) pa3_nil)) (pv3 4) (nomark _)))))) (pss3_one (ps3_ret pe3_bl)) pss3_nil)))))))))
    (pss3_one (ps3_ret pe3_bl))), sem _ _ _ _ hs⟩
end
end O85

end F_D85

section F_Z85
/-! Z85: every def keeps its promise. -/
namespace O85
open PySem PySem.Spec PyProof.Rows L2 L3 Old
section
variable {w : World} {K : Fg} {mg : Str → Option Value} {base : Heap}
theorem z_in_brackets (T : Txt w K mg) : Ok w K mg base 1 d_in_brackets ["word", "texts"] spBrk :=
  o_in_brackets T (k := 0)  (fun ds h Q E s => let ⟨_, _, _, e, _⟩ := s; e ▸ rfl) (fun ds h Q E s => sem_in_brackets _ _ _ _ s)
theorem z_pairs_text (T : Txt w K mg) : Ok w K mg base 1 d_pairs_text ["pairs"] spPairs :=
  o_pairs_text T (k := 0)  (fun ds h Q E s => let ⟨_, _, e, _⟩ := s; e ▸ rfl) (fun ds h Q E s => sem_pairs_text _ _ _ _ s)
theorem ok_false {d : He.DefD} {ps : List Str} {sp : Sp3} (hn : ∀ ds h Q E, sp ds h Q E → False) (k : Nat) : Ok w K mg base k d ps sp := ⟨fun _ _ _ _ h => let ⟨_, _, _, _, _, _, h, _⟩ := h; (hn _ _ _ _ h).elim, fun _ _ _ _ _ _ _ _ _ _ _ _ _ h => let ⟨_, _, _, _, _, _, h, _⟩ := h; (hn _ _ _ _ h).elim⟩
theorem dep_pos (k : Kd) : 1 ≤ k.dep := by cases k <;> simp [Kd.dep]
theorem z_kt (T : Txt w K mg) : ∀ n : Nat, Ok w K mg base (n + 2) d_kind_text ["kind"] (spKT n)
  | 0 => ok_false (fun ds h Q E s => by obtain ⟨k, _, h1, _⟩ := s; have := dep_pos k; omega) _
  | n + 1 => o_kind_text T (k := n + 2) (z_in_brackets T) (by omega) (z_kt T n) (by omega) (z_pairs_text T) (by omega) (fun ds h Q E s => let ⟨_, e, _⟩ := s; e ▸ rfl) (fun ds h Q E s => sem_kind_text n _ _ _ _ s)
theorem z_is_whole (T : Txt w K mg) : Ok w K mg base 1 d_is_whole ["thing"] spWhole :=
  o_is_whole T (k := 0)  (fun ds h Q E s => let ⟨_, e, _⟩ := s; e ▸ rfl) (fun ds h Q E s => sem_is_whole s)
theorem z_is_count (T : Txt w K mg) : Ok w K mg base 2 d_is_count ["thing", "most"] spCount :=
  o_is_count T (k := 1) (z_is_whole T) (by omega) (fun ds h Q E s => let ⟨_, _, e, _⟩ := s; e ▸ rfl) (fun ds h Q E s => sem_is_count s)
theorem z_is_number_kind (T : Txt w K mg) : Ok w K mg base 2 d_is_number_kind ["kind"] spNumK :=
  o_is_number_kind T (k := 1) (z_is_whole T) (by omega) (fun ds h Q E s => let ⟨_, _, e, _⟩ := s; e ▸ rfl) (fun ds h Q E s => sem_is_number_kind s)
theorem z_is_name (T : Txt w K mg) : Ok w K mg base 1 d_is_name ["text"] spIsName :=
  o_is_name T (k := 0)  (fun ds h Q E s => let ⟨_, e, _⟩ := s; e ▸ rfl) (fun ds h Q E s => sem_is_name s)
theorem z_are_names (T : Txt w K mg) : Ok w K mg base 2 d_are_names ["things"] spAreNames :=
  o_are_names T (k := 1) (z_is_name T) (by omega) (fun ds h Q E s => let ⟨_, _, e, _⟩ := s; e ▸ rfl) (fun ds h Q E s => sem_are_names s)
theorem z_is_choice_kind (T : Txt w K mg) : Ok w K mg base 3 d_is_choice_kind ["kind"] spChoiceK :=
  o_is_choice_kind T (k := 2) (z_are_names T) (by omega) (fun ds h Q E s => let ⟨_, e, _⟩ := s; e ▸ rfl) (fun ds h Q E s => sem_is_choice_kind s)
theorem z_is_field (T : Txt w K mg) : Ok w K mg base 1 d_is_field ["thing"] spField :=
  o_is_field T (k := 0)  (fun ds h Q E s => let ⟨_, e, _⟩ := s; e ▸ rfl) (fun ds h Q E s => sem_is_field s)
theorem z_are_fields (T : Txt w K mg) : Ok w K mg base 3 d_are_fields ["things"] spFields :=
  o_are_fields T (k := 2) (z_are_names T) (by omega) (z_is_field T) (by omega) (fun ds h Q E s => let ⟨_, e, _⟩ := s; e ▸ rfl) (fun ds h Q E s => sem_are_fields s)
theorem z_field_kind (T : Txt w K mg) : Ok w K mg base 1 d_field_kind ["kind", "name"] spFieldKind :=
  o_field_kind T (k := 0)  (fun ds h Q E s => let ⟨_, _, e, _⟩ := s; e ▸ rfl) (fun ds h Q E s => sem_field_kind s)
theorem z_has_key (T : Txt w K mg) : Ok w K mg base 4 d_has_key ["kind", "key"] spHasKey :=
  o_has_key T (k := 3) (z_field_kind T) (by omega) (z_are_fields T) (by omega) (fun ds h Q E s => let ⟨_, _, e, _⟩ := s; e ▸ rfl) (fun ds h Q E s => sem_has_key s)
theorem z_kinds_within (T : Txt w K mg) : Ok w K mg base 5 d_kinds_within ["kind"] spWithin :=
  o_kinds_within T (k := 4) (z_is_number_kind T) (by omega) (z_is_choice_kind T) (by omega) (z_is_count T) (by omega) (z_are_fields T) (by omega) (z_has_key T) (by omega) (fun ds h Q E s => let ⟨_, e, _⟩ := s; e ▸ rfl) (fun ds h Q E s => sem_kinds_within s)
theorem z_left (T : Txt w K mg) : ∀ n : Nat, Ok w K mg base (n + 6) d_kinds_left ["kind", "deep", "left"] (spLeft n)
  | 0 => ok_false (fun ds h Q E s => by obtain ⟨k, _, _, _, _, h1, _⟩ := s; have := dep_pos k; omega) _
  | n + 1 => o_kinds_left T (k := n + 6) (z_left T n) (by omega) (z_kinds_within T) (by omega) (fun ds h Q E s => let ⟨_, _, _, e, _⟩ := s; e ▸ rfl) (fun ds h Q E s => sem_kinds_left n s)
theorem z_made_kind (T : Txt w K mg) : Ok w K mg base 12 d_made_kind ["kind"] spMade :=
  o_made_kind T (k := 11) (z_left T 5) (by omega) (fun ds h Q E s => let ⟨_, e, _⟩ := s; e ▸ rfl) (fun ds h Q E s => sem_made_kind s)
theorem z_TextReader_taken (T : Txt w K mg) : Ok w K mg base 1 d_TextReader_taken ["self", "sort"] (spTaken (He.ga K "TextReader")) :=
  o_TextReader_taken T (k := 0)  (fun ds h Q E s => let ⟨_, _, _, _, _, _, _, e, _⟩ := s; e ▸ rfl) (fun ds h Q E s => sem_taken s)
theorem z_TextReader_next_is (T : Txt w K mg) : Ok w K mg base 1 d_TextReader_next_is ["self", "sign"] (spNextIs (He.ga K "TextReader")) :=
  o_TextReader_next_is T (k := 0)  (fun ds h Q E s => let ⟨_, _, _, _, _, _, _, _, e, _⟩ := s; e ▸ rfl) (fun ds h Q E s => sem_next_is s)
theorem z_TextReader_due (T : Txt w K mg) : Ok w K mg base 2 d_TextReader_due ["self", "sign"] (spDue (He.ga K "TextReader")) :=
  o_TextReader_due T (k := 1) (z_TextReader_next_is T) (by omega) (fun ds h Q E s => let ⟨_, _, _, _, _, _, _, e, _⟩ := s; e ▸ rfl) (fun ds h Q E s => sem_due s)
theorem z_TextReader_opened (T : Txt w K mg) : Ok w K mg base 3 d_TextReader_opened ["self", "sign"] (spOpened (He.ga K "TextReader")) :=
  o_TextReader_opened T (k := 2) (z_TextReader_due T) (by omega) (fun ds h Q E s => let ⟨_, _, _, _, _, _, _, e, _⟩ := s; e ▸ rfl) (fun ds h Q E s => sem_opened s)
theorem z_TextReader_closed (T : Txt w K mg) : Ok w K mg base 3 d_TextReader_closed ["self", "sign"] (spClosed (He.ga K "TextReader")) :=
  o_TextReader_closed T (k := 2) (z_TextReader_due T) (by omega) (fun ds h Q E s => let ⟨_, _, _, _, _, _, _, e, _⟩ := s; e ▸ rfl) (fun ds h Q E s => sem_closed s)
theorem z_TextReader_ended (T : Txt w K mg) : Ok w K mg base 2 d_TextReader_ended ["self", "found"] (spEnded (He.ga K "TextReader")) :=
  o_TextReader_ended T (k := 1) (z_TextReader_taken T) (by omega) (fun ds h Q E s => let ⟨_, _, _, _, _, _, _, e, _⟩ := s; e ▸ rfl) (fun ds h Q E s => sem_ended s)
theorem z_TextReader_goes_on (T : Txt w K mg) : Ok w K mg base 2 d_TextReader_goes_on ["self", "many", "closing"] (spGoesOn (He.ga K "TextReader")) :=
  o_TextReader_goes_on T (k := 1) (z_TextReader_next_is T) (by omega) (fun ds h Q E s => let ⟨_, _, _, _, _, _, _, _, _, e, _⟩ := s; e ▸ rfl) (fun ds h Q E s => sem_goes_on s)
theorem z_TextReader_names (T : Txt w K mg) : Ok w K mg base 3 d_TextReader_names ["self", "closing"] (spNames (He.ga K "TextReader")) :=
  o_TextReader_names T (k := 2) (z_TextReader_goes_on T) (by omega) (z_TextReader_taken T) (by omega) (fun ds h Q E s => let ⟨_, _, _, _, _, _, _, _, e, _⟩ := s; e ▸ rfl) (fun ds h Q E s => sem_names s)
theorem z_kind (T : Txt w K mg) : ∀ n : Nat, Ok w K mg base (4 * n + 5) d_TextReader_kind ["self"] (spKind (He.ga K "TextReader") n)
  | 0 => ok_false (fun ds h Q E s => by obtain ⟨_, _, _, _, _, k, _, _, _, _, h1, _⟩ := s; have := dep_pos k; omega) _
  | n + 1 => by
    have zk := z_kind T n
    have zp : Ok w K mg base (4 * n + 6) d_TextReader_part ["self", "sort"] (spPart (He.ga K "TextReader") (okK n)) := o_TextReader_part T (k := 4 * n + 5) (z_TextReader_taken T) (by omega) (ok_false (sp := spNo) (fun _ _ _ _ s => s) 0) (by omega) (ok_false (sp := spNo) (fun _ _ _ _ s => s) 0) (by omega) zk (by omega) (fun ds h Q E s => let ⟨_, _, _, _, _, _, _, e, _⟩ := s; e ▸ rfl) (fun ds h Q E s => sem_part n s)
    have zps : Ok w K mg base (4 * n + 7) d_TextReader_parts ["self", "sorts"] (spParts (He.ga K "TextReader") (okK n)) := o_TextReader_parts T (k := 4 * n + 6) zp (by omega) (z_TextReader_due T) (by omega) (fun ds h Q E s => let ⟨_, _, _, _, _, _, _, e, _⟩ := s; e ▸ rfl) (fun ds h Q E s => sem_parts s)
    have zkp : Ok w K mg base (4 * n + 6) d_TextReader_kind_pairs ["self"] (spKindPairs (He.ga K "TextReader") n) := o_TextReader_kind_pairs T (k := 4 * n + 5) (z_TextReader_goes_on T) (by omega) zk (by omega) (z_TextReader_due T) (by omega) (z_TextReader_taken T) (by omega) (fun ds h Q E s => let ⟨_, _, _, _, _, _, _, e, _⟩ := s; e ▸ rfl) (fun ds h Q E s => sem_kind_pairs n s)
    have zkq : Ok w K mg base (4 * n + 8) d_TextReader_kind_parts ["self", "word"] (spKindParts (He.ga K "TextReader") n) := o_TextReader_kind_parts T (k := 4 * n + 7) zps (by omega) zkp (by omega) (z_TextReader_names T) (by omega) (fun ds h Q E s => let ⟨_, _, _, _, _, _, _, e, _⟩ := s; e ▸ rfl) (fun ds h Q E s => sem_kind_parts n s)
    exact o_TextReader_kind T (k := 4 * n + 8) (z_TextReader_closed T) (by omega) zkq (by omega) (z_TextReader_opened T) (by omega) (z_TextReader_taken T) (by omega) (fun ds h Q E s => let ⟨_, _, _, _, _, _, _, e, _⟩ := s; e ▸ rfl) (fun ds h Q E s => sem_kind n s)
theorem z_is_sign (T : Txt w K mg) : Ok w K mg base 1 d_is_sign ["sign"] spIsSign :=
  o_is_sign T (k := 0)  (fun ds h Q E s => let ⟨_, e, _⟩ := s; e ▸ rfl) (fun ds h Q E s => sem_is_sign s)
theorem z_run_end (T : Txt w K mg) : Ok w K mg base 1 d_run_end ["text", "at", "signs"] spRunEnd :=
  o_run_end T (k := 0)  (fun ds h Q E s => let ⟨_, _, _, _, _, e, _⟩ := s; e ▸ rfl) (fun ds h Q E s => sem_run_end s)
theorem z_quoted_end (T : Txt w K mg) : Ok w K mg base 2 d_quoted_end ["text", "at"] spQuoted :=
  o_quoted_end T (k := 1) (z_is_sign T) (by omega) (fun ds h Q E s => let ⟨_, _, _, _, e, _⟩ := s; e ▸ rfl) (fun ds h Q E s => sem_quoted_end s)
theorem z_number_end (T : Txt w K mg) : Ok w K mg base 2 d_number_end ["text", "at"] spNumEnd :=
  o_number_end T (k := 1) (z_run_end T) (by omega) (fun ds h Q E s => let ⟨_, _, _, _, e, _⟩ := s; e ▸ rfl) (fun ds h Q E s => sem_number_end s)
theorem z_words_of (T : Txt w K mg) : Ok w K mg base 3 d_words_of ["text"] spWordsOf :=
  o_words_of T (k := 2) (z_quoted_end T) (by omega) (z_run_end T) (by omega) (z_number_end T) (by omega) (fun ds h Q E s => let ⟨_, _, e, _⟩ := s; e ▸ rfl) (fun ds h Q E s => sem_words_of s)
theorem z_TextReader_init (T : Txt w K mg) : Ok w K mg base 4 d_TextReader_init ["self", "text"] (spInit (He.ga K "TextReader")) :=
  o_TextReader_init T (k := 3) (z_words_of T) (by omega) (fun ds h Q E s => let ⟨_, _, _, e, _⟩ := s; e ▸ rfl) (fun ds h Q E s => sem_init s)
theorem z_read_kind (T : Txt w K mg) : Ok w K mg base 26 d_read_kind ["text"] spReadKind :=
  o_read_kind T (k := 25) (z_made_kind T) (by omega) (z_TextReader_ended T) (by omega) (z_kind T 5) (by omega) (z_TextReader_init T) (by omega) (fun ds h Q E s => let ⟨_, _, e, _⟩ := s; e ▸ rfl) (fun ds h Q E s => sem_read_kind s)
theorem z__law_digit (T : Txt w K mg) : Ok w K mg base 1 d__law_digit ["row", "many"] spDigit :=
  o__law_digit T (k := 0)  (fun ds h Q E s => let ⟨_, _, _, e, _⟩ := s; e ▸ rfl) (fun ds h Q E s => sem_law_digit s)
theorem z__law_names (T : Txt w K mg) : Ok w K mg base 2 d__law_names ["row", "many"] spNamesL :=
  o__law_names T (k := 1) (z__law_digit T) (by omega) (fun ds h Q E s => let ⟨_, _, _, e, _⟩ := s; e ▸ rfl) (fun ds h Q E s => sem_law_names s)
theorem z__law_number_kind (T : Txt w K mg) : Ok w K mg base 2 d__law_number_kind ["row"] spNumL :=
  o__law_number_kind T (k := 1) (z__law_digit T) (by omega) (fun ds h Q E s => let ⟨_, _, e, _⟩ := s; e ▸ rfl) (fun ds h Q E s => sem_law_number_kind s)
theorem z__law_leaf_kind (T : Txt w K mg) : Ok w K mg base 3 d__law_leaf_kind ["row"] spLeafL :=
  o__law_leaf_kind T (k := 2) (z__law_digit T) (by omega) (z__law_names T) (by omega) (z__law_number_kind T) (by omega) (fun ds h Q E s => let ⟨_, _, e, _⟩ := s; e ▸ rfl) (fun ds h Q E s => sem_law_leaf_kind s)
theorem z_draw (T : Txt w K mg) : ∀ n : Nat, Ok w K mg base (2 * n + 4) d__law_kind ["row", "deep", "room"] (spKindL n)
  | 0 => ok_false (fun ds h Q E s => by obtain ⟨_, _, _, _, _, _, _, _, _, h1, h2, _⟩ := s; omega) _
  | n + 1 => by
    have zk := z_draw T n
    have zr : Ok w K mg base (2 * n + 5) d__law_record_kind ["row", "deep", "room"] (spRecL n) := o__law_record_kind T (k := 2 * n + 4) (z__law_names T) (by omega) zk (by omega) (z__law_digit T) (by omega) (fun ds h Q E s => let ⟨_, _, _, _, _, e, _⟩ := s; e ▸ rfl) (fun ds h Q E s => sem_law_record_kind n s)
    have zw : Ok w K mg base (2 * n + 5) d__law_rows_kind ["row", "deep", "room"] (spRowsL n) := o__law_rows_kind T (k := 2 * n + 4) (z__law_digit T) (by omega) zk (by omega) (z__law_number_kind T) (by omega) (z__law_names T) (by omega) (fun ds h Q E s => let ⟨_, _, _, _, _, e, _⟩ := s; e ▸ rfl) (fun ds h Q E s => sem_law_rows_kind n s)
    exact o__law_kind T (k := 2 * n + 5) zr (by omega) zw (by omega) (z__law_digit T) (by omega) zk (by omega) (z__law_leaf_kind T) (by omega) (fun ds h Q E s => let ⟨_, _, _, _, _, e, _⟩ := s; e ▸ rfl) (fun ds h Q E s => sem_law_kind n s)
theorem z__law_cell_at (T : Txt w K mg) : Ok w K mg base 1 d__law_cell_at ["script", "k"] spCell :=
  o__law_cell_at T (k := 0)  (fun ds h Q E s => let ⟨_, _, e, _⟩ := s; e ▸ rfl) (fun ds h Q E s => sem_law_cell_at s)
theorem z__law_mixed (T : Txt w K mg) : Ok w K mg base 1 d__law_mixed ["cell", "k"] spMixed :=
  o__law_mixed T (k := 0)  (fun ds h Q E s => let ⟨_, _, e, _⟩ := s; e ▸ rfl) (fun ds h Q E s => sem_law_mixed s)
theorem z__law_own (T : Txt w K mg) : Ok w K mg base 2 d__law_own ["script", "k", "turn"] spOwn :=
  o__law_own T (k := 1) (z__law_mixed T) (by omega) (z__law_cell_at T) (by omega) (fun ds h Q E s => let ⟨_, _, _, e, _⟩ := s; e ▸ rfl) (fun ds h Q E s => sem_law_own s)
theorem z_wds (T : Txt w K mg) : ∀ n : Nat, Ok w K mg base (n + 1) d__law_kind_words ["kind"] (spWds n)
  | 0 => ok_false (fun ds h Q E s => by obtain ⟨k, _, h1, _⟩ := s; have := dep_pos k; omega) _
  | n + 1 => o__law_kind_words T (k := n + 1) (z_wds T n) (by omega) (fun ds h Q E s => let ⟨_, e, _⟩ := s; e ▸ rfl) (fun ds h Q E s => sem_law_kind_words n s)
theorem z__law_tight (T : Txt w K mg) : Ok w K mg base 1 d__law_tight ["words"] spTight :=
  o__law_tight T (k := 0)  (fun ds h Q E s => let ⟨_, _, e, _⟩ := s; e ▸ rfl) (fun ds h Q E s => sem_law_tight s)
theorem z__law_loose (T : Txt w K mg) : Ok w K mg base 2 d__law_loose ["words", "row"] spLoose :=
  o__law_loose T (k := 1) (z__law_digit T) (by omega) (fun ds h Q E s => let ⟨_, _, _, _, e, _⟩ := s; e ▸ rfl) (fun ds h Q E s => sem_law_loose s)
theorem z_law (T : Txt w K mg) : Ok w K mg base 27 d_law ["script"] spLaw :=
  o_law T (k := 26) (z_kt T 5) (by omega) (z_read_kind T) (by omega) (z__law_loose T) (by omega) (z__law_tight T) (by omega) (z_wds T 5) (by omega) (z_draw T 5) (by omega) (z__law_own T) (by omega) (fun ds h Q E s => let ⟨_, e, _⟩ := s; e ▸ rfl) (fun ds h Q E s => sem_law s)
end
end O85

end F_Z85

section F_E85
/-! E85: the law holds. -/
namespace L3
open PySem PySem.Spec PyProof.Rows L2
/-- the end of a law whose promise may let exceptions by, one wish a world -/
theorem walk_w {l : PySem.W.OpenLaw} {n k : Nat} {q : Program} {lo : List Str} {XP : (Str → Option Value) → Heap → Prop}
    {YP : World → Heap → Prop} {d : DefRec} {CX : World → CXT} {x : Str} (hm : l.most = some n) (hs : n ≤ sizeLine)
    (hd : d.params.defaults = []) (hr : Room k callerA)
    (F : ∀ (w : World) (mg : Str → Option Value) (f : Addr) (hp : Heap), YP w hp → hp.Ns mainGlobals mg → mg d.name = some (.ref f) →
      ∃ (K : Fg) (fd : FuncData) (sp : Sp), K.In hp ∧ (∀ (s : Shared) (u : Value), BindsTo s fd ⟨[u], []⟩ [(x, u)])
        ∧ (∀ (H : Hp) (a : Addr) (ns : List Int), ns.length ≤ n → Only H → SqL K H a (ns.map V.int) → sp [.ref a] H (fun v _ => v = .bl true) fun _ _ _ => False)
        ∧ ∀ bs : Heap, K.In bs → bs.Ns mainGlobals mg → FnOk l.prog w K mg bs (CX w) k f fd [x] sp)
    (hX : ∀ (w : World) (H : Hp) (s : Shared) (e : Value) (s' : Shared), CX w [] H s (fun _ _ _ => False) e s' → False) :
    PySem.W.WalkO q lo XP YP l.row.toRowW d [] (fun f vs => PySem.call f vs) := by
  refine Att.attach_call hm hd fun w s0 s1 mg mb heFa o pm cd doc a vs ns G Y ho hd2 hcd hmg hobj hints hlen hg => ?_
  have X := F w mg heFa _ Y G.T.g hmg
  obtain ⟨K, fd, sp, KX, hb, hsp, hF⟩ := X
  have low := Nat.le_trans hlen hs
  refine law_call KX G.T.g G.T.b G.T.builtins G.T.nolimit hg hobj hints low hr hF hb ?_ ?_
  · intro H hO hS
    exact hsp H a ns hlen hO hS
  · intro H e s'
    exact hX w H s1 e s'
theorem rol_of {K : Fg} {H : Hp} {a : Addr} {ns : List Int} (hO : Only H) (s : SqL K H a (ns.map V.int)) : Reps K H [.ref a] [.rol (ns.map D.int)] := by
  have hin : ∀ ns : List Int, Reps K H (ns.map V.int) (ns.map D.int) := by
    intro ns
    induction ns with
    | nil => exact rs_nil
    | cons i r ih => exact rs_cons rv_int ih
  refine rs_cons (rv_rol ?_ (hin ns)) rs_nil
  rcases s with (h | ⟨o, h⟩) | h
  · rcases hO a with e | ⟨o, xs, e⟩
    · rw [h] at e
      cases e
    · rw [h] at e
      cases e
  · exact .inl ⟨o, h⟩
  · exact .inr h
end L3
namespace O85
open PySem PySem.Spec PyProof.Rows L2 L3 Old
theorem facts {P : Program} {w : World} {K : Fg} {h : Heap} {mg : Str → Option Value} {f : Addr} (X : K.In h) (G : h.Ns mainGlobals mg) (hf : mg ("law" : Str) = some (.ref f)) (c : He.SaysT heFa heFn heTabs w K) :
    ∃ fd : FuncData, (∀ (s : Shared) (v : Value), BindsTo s fd ⟨[v], []⟩ [("script", v)]) ∧ ∀ base : Heap, FnOk PR w K mg base (L2.CX PR w) 27 f fd ["script"] (sp2 K spLaw) := by
  have T : Txt w K mg := ⟨c, h, X, G⟩
  have e := hf.symm.trans T.g_law
  cases e
  have b := FunD.bindsA (ps := ["script"]) T.F_law fun _ _ _ _ _ _ us hl => match us, hl with | [_], _ => rfl
  exact ⟨fdOf K d_law, fun s v => b s [v] rfl, fun base => z_law T⟩
end O85
open PySem PySem.W PySem.Calls PyProof.Rows
theorem PySem.Challenge.cw_oldhands_k85_kinds_in_words_holds : PySem.Challenge.rw_oldhands_k85_kinds_in_words.Holds := by
  w_on; o_law
  refine HandSHeadRun.head_any (r := OpenLaw.row PySem.Challenge.rw_oldhands_k85_kinds_in_words) (q := view (OpenLaw.row PySem.Challenge.rw_oldhands_k85_kinds_in_words).prog [O85.heAt])
    (H := O85.heHk) (ob := O85.heOb) (M := 20000) (loose := O85.heLo) (d := HandSHeadRun.topDef (OpenLaw.row PySem.Challenge.rw_oldhands_k85_kinds_in_words).prog O85.heAt) (kwd := []) O85.heOb_eq
    (by kernel_rfl) (fun s => by kernel_rfl) O85.heRun (by kernel_rfl) (by kernel_rfl) (by kernel_rfl) (by rfl) (by first | assumption | decide +kernel)
    (by decide +kernel) ⟨rfl, rfl, rfl, rfl, rfl, by decide +kernel⟩ ?hw ?hc
  case hw => w_witness2
  case hc =>
    refine L3.walk_w (l := PySem.Challenge.rw_oldhands_k85_kinds_in_words) (n := 63) (k := 27) (x := "script") (CX := fun w => L2.CX O85.PR w) rfl (by decide) (by kernel_rfl) ⟨rfl, by decide, by decide⟩ ?F ?X
    case X =>
      rintro w H s e s' ⟨_, _, _, _, _, _, _, _, _, _, _, _, z⟩
      exact z
    intro w mg heFa h Y G hmg0
    obtain ⟨K, KX, c⟩ := Y
    have hmg : mg ("law" : PySem.Str) = some (.ref heFa) := by
      have e : (HandSHeadRun.topDef (OpenLaw.row PySem.Challenge.rw_oldhands_k85_kinds_in_words).prog O85.heAt).name = ("law" : PySem.Str) := by kernel_rfl
      rw [← e]
      exact hmg0
    obtain ⟨fd, hb, hF⟩ := O85.facts (P := O85.PR) KX G hmg c
    refine ⟨K, fd, L3.sp2 K O85.spLaw, KX, hb, fun H a ns hl hO hS => ?_, fun base _ _ => hF base⟩
    exact ⟨[.rol (ns.map L3.D.int)], fun _ => none, fun v _ => v = .bl true, fun _ _ => False, L3.rol_of hO hS, fun a o e => (nomatch e), ⟨ns, rfl, hl, rfl⟩, fun v H' d h' g r e => by subst e; exact L3.repV_bl r, fun _ _ _ _ z => z⟩

end F_E85
