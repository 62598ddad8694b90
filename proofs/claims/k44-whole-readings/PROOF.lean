import PyProof.Rows.All
import Wide.All
import OpenK.AllK
import Wide.FinOn
import KE.KStateDown
import HandS.ForExc
import HandS.Comp
import HandS.Iter
import HandS.Defaults
import HandS.Lambda
import HandS.Nested
import HandS.IsInst
import HandS.HeadEnd
import HandS.HeadHook4
import HandS.HeadWalk
import HandS.Head0
import HandS.Head1
import HandS.Head2
import HandS.Walk
import HandS.Text
import HandS.Flow
import HandS.StrMore
import HandS.Sort
import KE.KDictCopyH
import KE.KAssignIn
import KE.KeyNested
import KE.KDictDisplayH
import HandS.Dict
import HandS.TupLen
import HandS.SetKeys
import HandS.List
import HandS.Replace
import HandS.Strs
import HandS.SetFor
import HandS.TupSets
import HandS.TupLe
import HandS.Keys
import KE.KSortTupAny
import HandS.TupAny
import HandS.Deep
import PySem.Challenge.RW_widefills_k44_whole_readings_of_patterns
set_option Elab.async false
set_option linter.all false
set_option maxRecDepth 100000
section
set_option maxHeartbeats 0
namespace K44
open PySem PySem.Spec PyProof.Rows L2
/-! ### the text by places -/
def top (i : Nat) : Stmt := PySem.Challenge.pw_widefills_k44_whole_readings_of_patterns.main.body.getD i (.Pass ⟨0, 0, 0, 0⟩)
abbrev sMachine : Stmt := top 34
abbrev sInit : Stmt := inClass sMachine 0

abbrev s_is_integer : Stmt := top 14
abbrev s_is_count : Stmt := top 15
abbrev s_is_list : Stmt := top 16
abbrev s_want_at_most : Stmt := top 17
abbrev s_want_letters : Stmt := top 22
abbrev s_is_word_of : Stmt := top 23
abbrev s_want_word : Stmt := top 24
abbrev s_spots : Stmt := top 25
abbrev s_are_steps : Stmt := top 29
abbrev s_are_ends : Stmt := top 30
abbrev s_led_to : Stmt := top 31
abbrev s_parted : Stmt := top 32
abbrev s_least_form : Stmt := top 33
abbrev s_least : Stmt := top 35
abbrev s_want_machine : Stmt := top 36
abbrev s_led : Stmt := top 37
abbrev s_is_end : Stmt := top 38
abbrev s_is_let : Stmt := top 39
abbrev s_lets : Stmt := top 40
abbrev s_by_lots : Stmt := top 43
abbrev s_by_pairs : Stmt := top 44
abbrev s_joined_of : Stmt := top 45
abbrev s_behind_of : Stmt := top 46
abbrev s_rounds_of : Stmt := top 47
abbrev s_words_machine : Stmt := top 48
abbrev s_of_words : Stmt := top 49
abbrev s_is_name_number : Stmt := top 59
abbrev s_many_parts : Stmt := top 60
abbrev s_is_pattern_of : Stmt := top 61
abbrev s_want_pattern : Stmt := top 62
abbrev s_want_reached : Stmt := top 63
abbrev s_want_filling : Stmt := top 64
abbrev s_names_in : Stmt := top 65
abbrev s_machine_made : Stmt := top 66
abbrev s_made : Stmt := top 67
abbrev s_is_reading_shape : Stmt := top 69
abbrev s_words_read : Stmt := top 70
abbrev s_pieces_of : Stmt := top 71
abbrev s_is_of : Stmt := top 72
abbrev s_signs_right : Stmt := top 73
abbrev s_read_word : Stmt := top 74
abbrev s_is_reading : Stmt := top 75
abbrev s_law_pot : Stmt := top 77
abbrev s_law_draw : Stmt := top 78
abbrev s_law_pick : Stmt := top 79
abbrev s_law_word : Stmt := top 80
abbrev s_law_leaf : Stmt := top 81
abbrev s_law_pattern : Stmt := top 82
abbrev s_law_read : Stmt := top 83
abbrev s_law_is_small : Stmt := top 84
abbrev s_law_is_of : Stmt := top 85
abbrev s_law_reading : Stmt := top 86
abbrev s_law_bent : Stmt := top 87
abbrev s_law_right : Stmt := top 88
abbrev s_law : Stmt := top 89
/-! ### the defs as data -/
def d_is_integer : He.DefD := ⟨("is_integer", none), "is_integer", "is_integer", defArgs s_is_integer, defBody s_is_integer, defScope s_is_integer, [], []⟩
def d_is_count : He.DefD := ⟨("is_count", none), "is_count", "is_count", defArgs s_is_count, defBody s_is_count, defScope s_is_count, [], []⟩
def d_is_list : He.DefD := ⟨("is_list", none), "is_list", "is_list", defArgs s_is_list, defBody s_is_list, defScope s_is_list, [], []⟩
def d_want_at_most : He.DefD := ⟨("want_at_most", none), "want_at_most", "want_at_most", defArgs s_want_at_most, defBody s_want_at_most, defScope s_want_at_most, [], []⟩
def d_want_letters : He.DefD := ⟨("want_letters", none), "want_letters", "want_letters", defArgs s_want_letters, defBody s_want_letters, defScope s_want_letters, [], []⟩
def d_is_word_of : He.DefD := ⟨("is_word_of", none), "is_word_of", "is_word_of", defArgs s_is_word_of, defBody s_is_word_of, defScope s_is_word_of, [], []⟩
def d_want_word : He.DefD := ⟨("want_word", none), "want_word", "want_word", defArgs s_want_word, defBody s_want_word, defScope s_want_word, [], []⟩
def d_spots : He.DefD := ⟨("spots", none), "spots", "spots", defArgs s_spots, defBody s_spots, defScope s_spots, [], []⟩
def d_are_steps : He.DefD := ⟨("are_steps", none), "are_steps", "are_steps", defArgs s_are_steps, defBody s_are_steps, defScope s_are_steps, [], []⟩
def d_are_ends : He.DefD := ⟨("are_ends", none), "are_ends", "are_ends", defArgs s_are_ends, defBody s_are_ends, defScope s_are_ends, [], []⟩
def d_led_to : He.DefD := ⟨("led_to", none), "led_to", "led_to", defArgs s_led_to, defBody s_led_to, defScope s_led_to, [], []⟩
def d_parted : He.DefD := ⟨("parted", none), "parted", "parted", defArgs s_parted, defBody s_parted, defScope s_parted, [], []⟩
def d_least_form : He.DefD := ⟨("least_form", none), "least_form", "least_form", defArgs s_least_form, defBody s_least_form, defScope s_least_form, [], []⟩
def d_least : He.DefD := ⟨("least", none), "least", "least", defArgs s_least, defBody s_least, defScope s_least, [], []⟩
def d_want_machine : He.DefD := ⟨("want_machine", none), "want_machine", "want_machine", defArgs s_want_machine, defBody s_want_machine, defScope s_want_machine, [], []⟩
def d_led : He.DefD := ⟨("led", none), "led", "led", defArgs s_led, defBody s_led, defScope s_led, [], []⟩
def d_is_end : He.DefD := ⟨("is_end", none), "is_end", "is_end", defArgs s_is_end, defBody s_is_end, defScope s_is_end, [], []⟩
def d_is_let : He.DefD := ⟨("is_let", none), "is_let", "is_let", defArgs s_is_let, defBody s_is_let, defScope s_is_let, [], []⟩
def d_lets : He.DefD := ⟨("lets", none), "lets", "lets", defArgs s_lets, defBody s_lets, defScope s_lets, [], []⟩
def d_by_lots : He.DefD := ⟨("by_lots", none), "by_lots", "by_lots", defArgs s_by_lots, defBody s_by_lots, defScope s_by_lots, [], []⟩
def d_by_pairs : He.DefD := ⟨("by_pairs", none), "by_pairs", "by_pairs", defArgs s_by_pairs, defBody s_by_pairs, defScope s_by_pairs, [], []⟩
def d_joined_of : He.DefD := ⟨("joined_of", none), "joined_of", "joined_of", defArgs s_joined_of, defBody s_joined_of, defScope s_joined_of, [], []⟩
def d_behind_of : He.DefD := ⟨("behind_of", none), "behind_of", "behind_of", defArgs s_behind_of, defBody s_behind_of, defScope s_behind_of, [], []⟩
def d_rounds_of : He.DefD := ⟨("rounds_of", none), "rounds_of", "rounds_of", defArgs s_rounds_of, defBody s_rounds_of, defScope s_rounds_of, [], []⟩
def d_words_machine : He.DefD := ⟨("words_machine", none), "words_machine", "words_machine", defArgs s_words_machine, defBody s_words_machine, defScope s_words_machine, [], []⟩
def d_of_words : He.DefD := ⟨("of_words", none), "of_words", "of_words", defArgs s_of_words, defBody s_of_words, defScope s_of_words, [], []⟩
def d_is_name_number : He.DefD := ⟨("is_name_number", none), "is_name_number", "is_name_number", defArgs s_is_name_number, defBody s_is_name_number, defScope s_is_name_number, [], []⟩
def d_many_parts : He.DefD := ⟨("many_parts", none), "many_parts", "many_parts", defArgs s_many_parts, defBody s_many_parts, defScope s_many_parts, [], []⟩
def d_is_pattern_of : He.DefD := ⟨("is_pattern_of", none), "is_pattern_of", "is_pattern_of", defArgs s_is_pattern_of, defBody s_is_pattern_of, defScope s_is_pattern_of, [], []⟩
def d_want_pattern : He.DefD := ⟨("want_pattern", none), "want_pattern", "want_pattern", defArgs s_want_pattern, defBody s_want_pattern, defScope s_want_pattern, [], []⟩
def d_want_reached : He.DefD := ⟨("want_reached", none), "want_reached", "want_reached", defArgs s_want_reached, defBody s_want_reached, defScope s_want_reached, [], []⟩
def d_want_filling : He.DefD := ⟨("want_filling", none), "want_filling", "want_filling", defArgs s_want_filling, defBody s_want_filling, defScope s_want_filling, [], []⟩
def d_names_in : He.DefD := ⟨("names_in", none), "names_in", "names_in", defArgs s_names_in, defBody s_names_in, defScope s_names_in, [], []⟩
def d_machine_made : He.DefD := ⟨("machine_made", none), "machine_made", "machine_made", defArgs s_machine_made, defBody s_machine_made, defScope s_machine_made, [], []⟩
def d_made : He.DefD := ⟨("made", none), "made", "made", defArgs s_made, defBody s_made, defScope s_made, [], []⟩
def d_is_reading_shape : He.DefD := ⟨("is_reading_shape", none), "is_reading_shape", "is_reading_shape", defArgs s_is_reading_shape, defBody s_is_reading_shape, defScope s_is_reading_shape, [.int 9], []⟩
def d_words_read : He.DefD := ⟨("words_read", none), "words_read", "words_read", defArgs s_words_read, defBody s_words_read, defScope s_words_read, [], []⟩
def d_pieces_of : He.DefD := ⟨("pieces_of", none), "pieces_of", "pieces_of", defArgs s_pieces_of, defBody s_pieces_of, defScope s_pieces_of, [], []⟩
def d_is_of : He.DefD := ⟨("is_of", none), "is_of", "is_of", defArgs s_is_of, defBody s_is_of, defScope s_is_of, [], []⟩
def d_signs_right : He.DefD := ⟨("signs_right", none), "signs_right", "signs_right", defArgs s_signs_right, defBody s_signs_right, defScope s_signs_right, [], []⟩
def d_read_word : He.DefD := ⟨("read_word", none), "read_word", "read_word", defArgs s_read_word, defBody s_read_word, defScope s_read_word, [], []⟩
def d_is_reading : He.DefD := ⟨("is_reading", none), "is_reading", "is_reading", defArgs s_is_reading, defBody s_is_reading, defScope s_is_reading, [], []⟩
def d_law_pot : He.DefD := ⟨("_law_pot", none), "_law_pot", "_law_pot", defArgs s_law_pot, defBody s_law_pot, defScope s_law_pot, [], []⟩
def d_law_draw : He.DefD := ⟨("_law_draw", none), "_law_draw", "_law_draw", defArgs s_law_draw, defBody s_law_draw, defScope s_law_draw, [], []⟩
def d_law_pick : He.DefD := ⟨("_law_pick", none), "_law_pick", "_law_pick", defArgs s_law_pick, defBody s_law_pick, defScope s_law_pick, [], []⟩
def d_law_word : He.DefD := ⟨("_law_word", none), "_law_word", "_law_word", defArgs s_law_word, defBody s_law_word, defScope s_law_word, [], []⟩
def d_law_leaf : He.DefD := ⟨("_law_leaf", none), "_law_leaf", "_law_leaf", defArgs s_law_leaf, defBody s_law_leaf, defScope s_law_leaf, [], []⟩
def d_law_pattern : He.DefD := ⟨("_law_pattern", none), "_law_pattern", "_law_pattern", defArgs s_law_pattern, defBody s_law_pattern, defScope s_law_pattern, [], []⟩
def d_law_read : He.DefD := ⟨("_law_read", none), "_law_read", "_law_read", defArgs s_law_read, defBody s_law_read, defScope s_law_read, [], []⟩
def d_law_is_small : He.DefD := ⟨("_law_is_small", none), "_law_is_small", "_law_is_small", defArgs s_law_is_small, defBody s_law_is_small, defScope s_law_is_small, [], []⟩
def d_law_is_of : He.DefD := ⟨("_law_is_of", none), "_law_is_of", "_law_is_of", defArgs s_law_is_of, defBody s_law_is_of, defScope s_law_is_of, [], []⟩
def d_law_reading : He.DefD := ⟨("_law_reading", none), "_law_reading", "_law_reading", defArgs s_law_reading, defBody s_law_reading, defScope s_law_reading, [], []⟩
def d_law_bent : He.DefD := ⟨("_law_bent", none), "_law_bent", "_law_bent", defArgs s_law_bent, defBody s_law_bent, defScope s_law_bent, [], []⟩
def d_law_right : He.DefD := ⟨("_law_right", none), "_law_right", "_law_right", defArgs s_law_right, defBody s_law_right, defScope s_law_right, [], []⟩
def d_law : He.DefD := ⟨("law", none), "law", "law", defArgs s_law, defBody s_law, defScope s_law, [], []⟩
def d_init : He.DefD := ⟨("Machine", some "__init__"), "__init__", "Machine.__init__", defArgs sInit, defBody sInit, defScope sInit, [], []⟩
def fn : List He.DefD := [d_is_integer, d_is_count, d_is_list, d_want_at_most, d_want_letters, d_is_word_of, d_want_word, d_spots, d_are_steps, d_are_ends, d_led_to, d_parted, d_least_form, d_least, d_want_machine, d_led, d_is_end, d_is_let, d_lets, d_by_lots] ++ ([d_by_pairs, d_joined_of, d_behind_of, d_rounds_of, d_words_machine, d_of_words, d_is_name_number, d_many_parts, d_is_pattern_of, d_want_pattern, d_want_reached, d_want_filling, d_names_in, d_machine_made, d_made, d_is_reading_shape, d_words_read, d_pieces_of, d_is_of, d_signs_right] ++ [d_read_word, d_is_reading, d_law_pot, d_law_draw, d_law_pick, d_law_word, d_law_leaf, d_law_pattern, d_law_read, d_law_is_small, d_law_is_of, d_law_reading, d_law_bent, d_law_right, d_law, d_init])
def fa1 : List He.Fa := [.glo "is_integer", .glo "is_count", .glo "is_list", .glo "want_at_most", .glo "want_letters", .glo "is_word_of", .glo "want_word", .glo "spots", .glo "are_steps", .glo "are_ends", .glo "led_to", .glo "parted", .glo "least_form", .glo "least", .glo "want_machine", .glo "led", .glo "is_end", .glo "is_let", .glo "lets", .glo "by_lots", .glo "by_pairs", .glo "joined_of", .glo "behind_of", .glo "rounds_of", .glo "words_machine", .glo "of_words", .glo "is_name_number", .glo "many_parts", .glo "is_pattern_of", .glo "want_pattern"]
def fa2 : List He.Fa := [.glo "want_reached", .glo "want_filling", .glo "names_in", .glo "machine_made", .glo "made", .glo "is_reading_shape", .glo "words_read", .glo "pieces_of", .glo "is_of", .glo "signs_right", .glo "read_word", .glo "is_reading", .glo "_law_pot", .glo "_law_draw", .glo "_law_pick", .glo "_law_word", .glo "_law_leaf", .glo "_law_pattern", .glo "_law_read", .glo "_law_is_small", .glo "_law_is_of", .glo "_law_reading", .glo "_law_bent", .glo "_law_right", .glo "law", .glo "Machine"]
def fa3 : List He.Fa := [.int "MOST_LETTERS" 3, .int "MOST_SIGNS" 60, .int "MOST_GIVEN" 12, .int "MOST_STATES" 60, .int "MOST_WORDS" 20, .int "MOST_PARTS" 30, .int "MOST_DEEP" 9, .int "MOST_NAME" 2, .str "SIGNS" "abc", .str "WORD" "word", .str "NAME" "name", .str "BEHIND" "behind", .str "EITHER" "either", .str "ROUND" "round"]
def fa4 : List He.Fa := [.free "isinstance", .free "int", .free "bool", .free "list", .free "tuple", .free "len", .free "str", .free "all", .free "sorted", .free "set", .free "enumerate", .free "any", .free "range", .free "sum", .free "abs", .free "max", .free "divmod", .free "repr", .cls "Machine", .noat "Machine" "own_letters", .noat "Machine" "own_steps", .noat "Machine" "own_ends", .mkr "Machine"]
def fa : List He.Fa := fa1 ++ (fa2 ++ (fa3 ++ fa4))
def tf : List He.Defn := [("by_pairs", none), ("joined_of", none), ("behind_of", none), ("rounds_of", none), ("words_machine", none), ("_law_right", none)]
/-- isinstance of the class Machine -/
def exM (K : PySem.W.Frag) : Bool := decide (PySem.W.findIn K (.ref (He.ga K "Machine")) "__class__" = some (some (.builtin "object.__class__"))) &&
  (decide (PySem.W.specialIn K (.builtin "object.__class__") "__get__" = some (some (.builtin "getset_descriptor.__get__"))) &&
  (decide (PySem.W.takesIn K (.builtin "object.__class__") = some true) && decide (PySem.W.mroIn K (He.ga K "Machine") (.type "object") = some true)))
def loose0 : List Str := ["FillError", "LimitError", "InvalidFilling", "InvalidLetters", "InvalidMachine", "InvalidPattern", "InvalidWord", "InvalidEnds", "InvalidReading", "InvalidSteps", "InvalidWords", "TooMany", "SIGNS", "WORD", "NAME", "BEHIND"]
def loose1 : List Str := ["EITHER", "ROUND", "MOST_LETTERS", "MOST_SIGNS", "MOST_GIVEN", "MOST_STATES", "MOST_WORDS", "MOST_PARTS", "MOST_DEEP", "MOST_NAME", "Machine", "is_integer", "is_count", "is_list", "want_at_most", "want_letters"]
def loose2 : List Str := ["is_word_of", "want_word", "spots", "are_steps", "are_ends", "led_to", "parted", "least_form", "least", "want_machine", "led", "is_end", "is_let", "lets", "by_lots", "by_pairs"]
def loose3 : List Str := ["joined_of", "behind_of", "rounds_of", "words_machine", "of_words", "is_name_number", "many_parts", "is_pattern_of", "want_pattern", "want_reached", "want_filling", "names_in", "machine_made", "made", "is_reading_shape", "words_read"]
def loose4 : List Str := ["pieces_of", "is_of", "signs_right", "read_word", "is_reading", "_law_pot", "_law_draw", "_law_pick", "_law_word", "_law_leaf", "_law_pattern", "_law_read", "_law_is_small", "_law_is_of", "_law_reading", "_law_bent"]
def loose5 : List Str := ["_law_right"]
def looseN : List Str := loose0 ++ (loose1 ++ (loose2 ++ (loose3 ++ (loose4 ++ (loose5)))))
/-! ### what is known of the module behind its top -/
def fdOf (K : PySem.W.Frag) (f : Addr) : FuncData := match K.lookup f with
  | some ⟨_, _, .func fd, _⟩ => fd
  | _ => default
theorem fdOf_eq {K : PySem.W.Frag} {x qual : Str} {params : Arguments} {body : List Stmt} {scope : Scope} {dvs : List V} {kws : List (Str × V)} {f : Addr} {fd : FuncData} (F : FunD K x qual params body scope dvs kws f fd) : FunD K x qual params body scope dvs kws f (fdOf K f) := by
  obtain ⟨oc, od, dV, kV, doc, pm, an, cdv, ct, osl, rfl, lk, r⟩ := F.ex
  have e : fdOf K f = PySem.W.fnOf x qual params body scope dV kV doc pm an cdv ct := by
    unfold fdOf
    rw [lk]
  rw [e]
  exact F
/-- a def that stands under the module's name x -/
structure Glo (K : PySem.W.Frag) (mg : Str → Option Value) (x : Str) (st : Stmt) (dvs : List V) : Prop where
  F : FunD K x x (defArgs st) (defBody st) (defScope st) dvs [] (He.ga K x) (fdOf K (He.ga K x))
  g : mg x = some (.ref (He.ga K x))
structure Txt (K : PySem.W.Frag) (mg : Str → Option Value) : Prop where
  g_is_integer : Glo K mg "is_integer" s_is_integer []
  g_is_count : Glo K mg "is_count" s_is_count []
  g_is_list : Glo K mg "is_list" s_is_list []
  g_want_at_most : Glo K mg "want_at_most" s_want_at_most []
  g_want_letters : Glo K mg "want_letters" s_want_letters []
  g_is_word_of : Glo K mg "is_word_of" s_is_word_of []
  g_want_word : Glo K mg "want_word" s_want_word []
  g_spots : Glo K mg "spots" s_spots []
  g_are_steps : Glo K mg "are_steps" s_are_steps []
  g_are_ends : Glo K mg "are_ends" s_are_ends []
  g_led_to : Glo K mg "led_to" s_led_to []
  g_parted : Glo K mg "parted" s_parted []
  g_least_form : Glo K mg "least_form" s_least_form []
  g_least : Glo K mg "least" s_least []
  g_want_machine : Glo K mg "want_machine" s_want_machine []
  g_led : Glo K mg "led" s_led []
  g_is_end : Glo K mg "is_end" s_is_end []
  g_is_let : Glo K mg "is_let" s_is_let []
  g_lets : Glo K mg "lets" s_lets []
  g_by_lots : Glo K mg "by_lots" s_by_lots []
  g_by_pairs : Glo K mg "by_pairs" s_by_pairs []
  g_joined_of : Glo K mg "joined_of" s_joined_of []
  g_behind_of : Glo K mg "behind_of" s_behind_of []
  g_rounds_of : Glo K mg "rounds_of" s_rounds_of []
  g_words_machine : Glo K mg "words_machine" s_words_machine []
  g_of_words : Glo K mg "of_words" s_of_words []
  g_is_name_number : Glo K mg "is_name_number" s_is_name_number []
  g_many_parts : Glo K mg "many_parts" s_many_parts []
  g_is_pattern_of : Glo K mg "is_pattern_of" s_is_pattern_of []
  g_want_pattern : Glo K mg "want_pattern" s_want_pattern []
  g_want_reached : Glo K mg "want_reached" s_want_reached []
  g_want_filling : Glo K mg "want_filling" s_want_filling []
  g_names_in : Glo K mg "names_in" s_names_in []
  g_machine_made : Glo K mg "machine_made" s_machine_made []
  g_made : Glo K mg "made" s_made []
  g_is_reading_shape : Glo K mg "is_reading_shape" s_is_reading_shape [.int 9]
  g_words_read : Glo K mg "words_read" s_words_read []
  g_pieces_of : Glo K mg "pieces_of" s_pieces_of []
  g_is_of : Glo K mg "is_of" s_is_of []
  g_signs_right : Glo K mg "signs_right" s_signs_right []
  g_read_word : Glo K mg "read_word" s_read_word []
  g_is_reading : Glo K mg "is_reading" s_is_reading []
  g_law_pot : Glo K mg "_law_pot" s_law_pot []
  g_law_draw : Glo K mg "_law_draw" s_law_draw []
  g_law_pick : Glo K mg "_law_pick" s_law_pick []
  g_law_word : Glo K mg "_law_word" s_law_word []
  g_law_leaf : Glo K mg "_law_leaf" s_law_leaf []
  g_law_pattern : Glo K mg "_law_pattern" s_law_pattern []
  g_law_read : Glo K mg "_law_read" s_law_read []
  g_law_is_small : Glo K mg "_law_is_small" s_law_is_small []
  g_law_is_of : Glo K mg "_law_is_of" s_law_is_of []
  g_law_reading : Glo K mg "_law_reading" s_law_reading []
  g_law_bent : Glo K mg "_law_bent" s_law_bent []
  g_law_right : Glo K mg "_law_right" s_law_right []
  g_law : Glo K mg "law" s_law []
  gMachine : mg "Machine" = some (.ref (He.ga K "Machine"))
  Finit : FunD K "__init__" "Machine.__init__" (defArgs sInit) (defBody sInit) (defScope sInit) [] [] (He.ma K (He.ga K "Machine") "__init__") (fdOf K (He.ma K (He.ga K "Machine") "__init__"))
  iMOST_LETTERS : ∃ u, mg "MOST_LETTERS" = some u ∧ RelV (.int 3) u
  iMOST_SIGNS : ∃ u, mg "MOST_SIGNS" = some u ∧ RelV (.int 60) u
  iMOST_GIVEN : ∃ u, mg "MOST_GIVEN" = some u ∧ RelV (.int 12) u
  iMOST_STATES : ∃ u, mg "MOST_STATES" = some u ∧ RelV (.int 60) u
  iMOST_WORDS : ∃ u, mg "MOST_WORDS" = some u ∧ RelV (.int 20) u
  iMOST_PARTS : ∃ u, mg "MOST_PARTS" = some u ∧ RelV (.int 30) u
  iMOST_DEEP : ∃ u, mg "MOST_DEEP" = some u ∧ RelV (.int 9) u
  iMOST_NAME : ∃ u, mg "MOST_NAME" = some u ∧ RelV (.int 2) u
  tSIGNS : ∃ u, mg "SIGNS" = some u ∧ RelV (.str "abc") u
  tWORD : ∃ u, mg "WORD" = some u ∧ RelV (.str "word") u
  tNAME : ∃ u, mg "NAME" = some u ∧ RelV (.str "name") u
  tBEHIND : ∃ u, mg "BEHIND" = some u ∧ RelV (.str "behind") u
  tEITHER : ∃ u, mg "EITHER" = some u ∧ RelV (.str "either") u
  tROUND : ∃ u, mg "ROUND" = some u ∧ RelV (.str "round") u
  zisinstance : mg "isinstance" = none
  zint : mg "int" = none
  zbool : mg "bool" = none
  zlist : mg "list" = none
  ztuple : mg "tuple" = none
  zlen : mg "len" = none
  zstr : mg "str" = none
  zall : mg "all" = none
  zsorted : mg "sorted" = none
  zset : mg "set" = none
  zenumerate : mg "enumerate" = none
  zany : mg "any" = none
  zrange : mg "range" = none
  zsum : mg "sum" = none
  zabs : mg "abs" = none
  zmax : mg "max" = none
  zdivmod : mg "divmod" = none
  zrepr : mg "repr" = none
  cls : Cls K (He.ga K "Machine")
  na_own_letters : NoAttr K (He.ga K "Machine") "own_letters"
  na_own_steps : NoAttr K (He.ga K "Machine") "own_steps"
  na_own_ends : NoAttr K (He.ga K "Machine") "own_ends"
  mkr : Mk K (He.ga K "Machine") (He.ma K (He.ga K "Machine") "__init__")
  mcls : PySem.W.findIn K (.ref (He.ga K "Machine")) "__class__" = some (some (.builtin "object.__class__")) ∧ PySem.W.specialIn K (.builtin "object.__class__") "__get__" = some (some (.builtin "getset_descriptor.__get__")) ∧ PySem.W.takesIn K (.builtin "object.__class__") = some true ∧ PySem.W.mroIn K (He.ga K "Machine") (.type "object") = some true
theorem txt_of {K : PySem.W.Frag} {h : Heap} {w : World} {mg : Str → Option Value} (X : K.In h) (G : h.Ns mainGlobals mg) (c : He.SaysX fa fn [] tf exM w h K) : Txt K mg := by
  have D := c.t.d
  have q := c.more
  unfold exM at q
  simp only [Bool.and_eq_true, decide_eq_true_eq] at q
  have gl : ∀ (i : Nat) {x : Str}, fa[i]? = some (.glo x) → mg x = some (.ref (He.ga K x)) := fun i x e => He.glo_ok X G (D.fact i e)
  have fr : ∀ (i : Nat) {x : Str}, fa[i]? = some (.free x) → mg x = none := fun i x e => He.free_ok X G (D.fact i e)
  have it : ∀ (i : Nat) {x : Str} {v : Int}, fa[i]? = some (.int x v) → ∃ u, mg x = some u ∧ RelV (.int v) u := fun i x v e => let ⟨t, q⟩ := He.int_ok X G (D.fact i e); ⟨_, q, t, rfl⟩
  have sr : ∀ (i : Nat) {x : Str} {v : Str}, fa[i]? = some (.str x v) → ∃ u, mg x = some u ∧ RelV (.str v) u := fun i x v e => let ⟨t, q⟩ := He.str_ok X G (D.fact i e); ⟨_, q, t, rfl⟩
  have df : ∀ (i : Nat) {d : He.DefD}, fn[i]? = some d → FunD K d.name d.qual d.params d.body d.scope (d.dvs K) (d.kws K) (He.fAd K d.at_) (fdOf K (He.fAd K d.at_)) := fun i d e => let ⟨_, F⟩ := D.def_ i e; fdOf_eq F
  exact ⟨⟨df 0 (d := d_is_integer) rfl, gl 0 (x := "is_integer") rfl⟩,
    ⟨df 1 (d := d_is_count) rfl, gl 1 (x := "is_count") rfl⟩,
    ⟨df 2 (d := d_is_list) rfl, gl 2 (x := "is_list") rfl⟩,
    ⟨df 3 (d := d_want_at_most) rfl, gl 3 (x := "want_at_most") rfl⟩,
    ⟨df 4 (d := d_want_letters) rfl, gl 4 (x := "want_letters") rfl⟩,
    ⟨df 5 (d := d_is_word_of) rfl, gl 5 (x := "is_word_of") rfl⟩,
    ⟨df 6 (d := d_want_word) rfl, gl 6 (x := "want_word") rfl⟩,
    ⟨df 7 (d := d_spots) rfl, gl 7 (x := "spots") rfl⟩,
    ⟨df 8 (d := d_are_steps) rfl, gl 8 (x := "are_steps") rfl⟩,
    ⟨df 9 (d := d_are_ends) rfl, gl 9 (x := "are_ends") rfl⟩,
    ⟨df 10 (d := d_led_to) rfl, gl 10 (x := "led_to") rfl⟩,
    ⟨df 11 (d := d_parted) rfl, gl 11 (x := "parted") rfl⟩,
    ⟨df 12 (d := d_least_form) rfl, gl 12 (x := "least_form") rfl⟩,
    ⟨df 13 (d := d_least) rfl, gl 13 (x := "least") rfl⟩,
    ⟨df 14 (d := d_want_machine) rfl, gl 14 (x := "want_machine") rfl⟩,
    ⟨df 15 (d := d_led) rfl, gl 15 (x := "led") rfl⟩,
    ⟨df 16 (d := d_is_end) rfl, gl 16 (x := "is_end") rfl⟩,
    ⟨df 17 (d := d_is_let) rfl, gl 17 (x := "is_let") rfl⟩,
    ⟨df 18 (d := d_lets) rfl, gl 18 (x := "lets") rfl⟩,
    ⟨df 19 (d := d_by_lots) rfl, gl 19 (x := "by_lots") rfl⟩,
    ⟨df 20 (d := d_by_pairs) rfl, gl 20 (x := "by_pairs") rfl⟩,
    ⟨df 21 (d := d_joined_of) rfl, gl 21 (x := "joined_of") rfl⟩,
    ⟨df 22 (d := d_behind_of) rfl, gl 22 (x := "behind_of") rfl⟩,
    ⟨df 23 (d := d_rounds_of) rfl, gl 23 (x := "rounds_of") rfl⟩,
    ⟨df 24 (d := d_words_machine) rfl, gl 24 (x := "words_machine") rfl⟩,
    ⟨df 25 (d := d_of_words) rfl, gl 25 (x := "of_words") rfl⟩,
    ⟨df 26 (d := d_is_name_number) rfl, gl 26 (x := "is_name_number") rfl⟩,
    ⟨df 27 (d := d_many_parts) rfl, gl 27 (x := "many_parts") rfl⟩,
    ⟨df 28 (d := d_is_pattern_of) rfl, gl 28 (x := "is_pattern_of") rfl⟩,
    ⟨df 29 (d := d_want_pattern) rfl, gl 29 (x := "want_pattern") rfl⟩,
    ⟨df 30 (d := d_want_reached) rfl, gl 30 (x := "want_reached") rfl⟩,
    ⟨df 31 (d := d_want_filling) rfl, gl 31 (x := "want_filling") rfl⟩,
    ⟨df 32 (d := d_names_in) rfl, gl 32 (x := "names_in") rfl⟩,
    ⟨df 33 (d := d_machine_made) rfl, gl 33 (x := "machine_made") rfl⟩,
    ⟨df 34 (d := d_made) rfl, gl 34 (x := "made") rfl⟩,
    ⟨df 35 (d := d_is_reading_shape) rfl, gl 35 (x := "is_reading_shape") rfl⟩,
    ⟨df 36 (d := d_words_read) rfl, gl 36 (x := "words_read") rfl⟩,
    ⟨df 37 (d := d_pieces_of) rfl, gl 37 (x := "pieces_of") rfl⟩,
    ⟨df 38 (d := d_is_of) rfl, gl 38 (x := "is_of") rfl⟩,
    ⟨df 39 (d := d_signs_right) rfl, gl 39 (x := "signs_right") rfl⟩,
    ⟨df 40 (d := d_read_word) rfl, gl 40 (x := "read_word") rfl⟩,
    ⟨df 41 (d := d_is_reading) rfl, gl 41 (x := "is_reading") rfl⟩,
    ⟨df 42 (d := d_law_pot) rfl, gl 42 (x := "_law_pot") rfl⟩,
    ⟨df 43 (d := d_law_draw) rfl, gl 43 (x := "_law_draw") rfl⟩,
    ⟨df 44 (d := d_law_pick) rfl, gl 44 (x := "_law_pick") rfl⟩,
    ⟨df 45 (d := d_law_word) rfl, gl 45 (x := "_law_word") rfl⟩,
    ⟨df 46 (d := d_law_leaf) rfl, gl 46 (x := "_law_leaf") rfl⟩,
    ⟨df 47 (d := d_law_pattern) rfl, gl 47 (x := "_law_pattern") rfl⟩,
    ⟨df 48 (d := d_law_read) rfl, gl 48 (x := "_law_read") rfl⟩,
    ⟨df 49 (d := d_law_is_small) rfl, gl 49 (x := "_law_is_small") rfl⟩,
    ⟨df 50 (d := d_law_is_of) rfl, gl 50 (x := "_law_is_of") rfl⟩,
    ⟨df 51 (d := d_law_reading) rfl, gl 51 (x := "_law_reading") rfl⟩,
    ⟨df 52 (d := d_law_bent) rfl, gl 52 (x := "_law_bent") rfl⟩,
    ⟨df 53 (d := d_law_right) rfl, gl 53 (x := "_law_right") rfl⟩,
    ⟨df 54 (d := d_law) rfl, gl 54 (x := "law") rfl⟩,
    gl 55 (x := "Machine") rfl,
    df 55 (d := d_init) rfl,
    it 56 (x := "MOST_LETTERS") (v := 3) rfl,
    it 57 (x := "MOST_SIGNS") (v := 60) rfl,
    it 58 (x := "MOST_GIVEN") (v := 12) rfl,
    it 59 (x := "MOST_STATES") (v := 60) rfl,
    it 60 (x := "MOST_WORDS") (v := 20) rfl,
    it 61 (x := "MOST_PARTS") (v := 30) rfl,
    it 62 (x := "MOST_DEEP") (v := 9) rfl,
    it 63 (x := "MOST_NAME") (v := 2) rfl,
    sr 64 (x := "SIGNS") (v := "abc") rfl,
    sr 65 (x := "WORD") (v := "word") rfl,
    sr 66 (x := "NAME") (v := "name") rfl,
    sr 67 (x := "BEHIND") (v := "behind") rfl,
    sr 68 (x := "EITHER") (v := "either") rfl,
    sr 69 (x := "ROUND") (v := "round") rfl,
    fr 70 (x := "isinstance") rfl,
    fr 71 (x := "int") rfl,
    fr 72 (x := "bool") rfl,
    fr 73 (x := "list") rfl,
    fr 74 (x := "tuple") rfl,
    fr 75 (x := "len") rfl,
    fr 76 (x := "str") rfl,
    fr 77 (x := "all") rfl,
    fr 78 (x := "sorted") rfl,
    fr 79 (x := "set") rfl,
    fr 80 (x := "enumerate") rfl,
    fr 81 (x := "any") rfl,
    fr 82 (x := "range") rfl,
    fr 83 (x := "sum") rfl,
    fr 84 (x := "abs") rfl,
    fr 85 (x := "max") rfl,
    fr 86 (x := "divmod") rfl,
    fr 87 (x := "repr") rfl,
    He.cls_ok (D.fact 88 (f := .cls "Machine") rfl),
    He.noat_ok (D.fact 89 (f := .noat "Machine" "own_letters") rfl),
    He.noat_ok (D.fact 90 (f := .noat "Machine" "own_steps") rfl),
    He.noat_ok (D.fact 91 (f := .noat "Machine" "own_ends") rfl),
    He.mkr_ok (D.fact 92 (f := .mkr "Machine") rfl),
    q⟩
/-- a def's promise, as a caller takes it -/
structure Cal (P : Program) (w : World) (K : PySem.W.Frag) (mg : Str → Option Value) (base : Heap) (k : Nat) (x : Str) (ps : List Str) (sp : Sp) : Prop where
  fn : FnOk P w K mg base CX0 k (He.ga K x) (fdOf K (He.ga K x)) ps sp
  g : mg x = some (.ref (He.ga K x))
  kp : PySem.W.keepIn K (.ref (He.ga K x)) = true
  b : Binds K (fdOf K (He.ga K x)) ps []
section
variable {K : PySem.W.Frag} {mg : Str → Option Value}
theorem Txt.b_is_integer (T : Txt K mg) : Binds K (fdOf K (He.ga K "is_integer")) ["value"] [] := T.g_is_integer.F.bindsN fun _ _ _ _ _ _ us hl => match us, hl with | [_], _ => rfl
theorem Txt.b_is_count (T : Txt K mg) : Binds K (fdOf K (He.ga K "is_count")) ["value"] [] := T.g_is_count.F.bindsN fun _ _ _ _ _ _ us hl => match us, hl with | [_], _ => rfl
theorem Txt.b_is_list (T : Txt K mg) : Binds K (fdOf K (He.ga K "is_list")) ["value"] [] := T.g_is_list.F.bindsN fun _ _ _ _ _ _ us hl => match us, hl with | [_], _ => rfl
theorem Txt.b_want_at_most (T : Txt K mg) : Binds K (fdOf K (He.ga K "want_at_most")) ["what", "limit", "number"] [] := T.g_want_at_most.F.bindsN fun _ _ _ _ _ _ us hl => match us, hl with | [_, _, _], _ => rfl
theorem Txt.b_want_letters (T : Txt K mg) : Binds K (fdOf K (He.ga K "want_letters")) ["value"] [] := T.g_want_letters.F.bindsN fun _ _ _ _ _ _ us hl => match us, hl with | [_], _ => rfl
theorem Txt.b_is_word_of (T : Txt K mg) : Binds K (fdOf K (He.ga K "is_word_of")) ["letters", "value"] [] := T.g_is_word_of.F.bindsN fun _ _ _ _ _ _ us hl => match us, hl with | [_, _], _ => rfl
theorem Txt.b_want_word (T : Txt K mg) : Binds K (fdOf K (He.ga K "want_word")) ["letters", "value"] [] := T.g_want_word.F.bindsN fun _ _ _ _ _ _ us hl => match us, hl with | [_, _], _ => rfl
theorem Txt.b_spots (T : Txt K mg) : Binds K (fdOf K (He.ga K "spots")) ["word"] [] := T.g_spots.F.bindsN fun _ _ _ _ _ _ us hl => match us, hl with | [_], _ => rfl
theorem Txt.b_are_steps (T : Txt K mg) : Binds K (fdOf K (He.ga K "are_steps")) ["letters", "value"] [] := T.g_are_steps.F.bindsN fun _ _ _ _ _ _ us hl => match us, hl with | [_, _], _ => rfl
theorem Txt.b_are_ends (T : Txt K mg) : Binds K (fdOf K (He.ga K "are_ends")) ["states", "value"] [] := T.g_are_ends.F.bindsN fun _ _ _ _ _ _ us hl => match us, hl with | [_, _], _ => rfl
theorem Txt.b_led_to (T : Txt K mg) : Binds K (fdOf K (He.ga K "led_to")) ["steps"] [] := T.g_led_to.F.bindsN fun _ _ _ _ _ _ us hl => match us, hl with | [_], _ => rfl
theorem Txt.b_parted (T : Txt K mg) : Binds K (fdOf K (He.ga K "parted")) ["steps", "ends", "states"] [] := T.g_parted.F.bindsN fun _ _ _ _ _ _ us hl => match us, hl with | [_, _, _], _ => rfl
theorem Txt.b_least_form (T : Txt K mg) : Binds K (fdOf K (He.ga K "least_form")) ["steps", "ends"] [] := T.g_least_form.F.bindsN fun _ _ _ _ _ _ us hl => match us, hl with | [_, _], _ => rfl
theorem Txt.b_least (T : Txt K mg) : Binds K (fdOf K (He.ga K "least")) ["letters", "steps", "ends"] [] := T.g_least.F.bindsN fun _ _ _ _ _ _ us hl => match us, hl with | [_, _, _], _ => rfl
theorem Txt.b_want_machine (T : Txt K mg) : Binds K (fdOf K (He.ga K "want_machine")) ["value"] [] := T.g_want_machine.F.bindsN fun _ _ _ _ _ _ us hl => match us, hl with | [_], _ => rfl
theorem Txt.b_led (T : Txt K mg) : Binds K (fdOf K (He.ga K "led")) ["machine", "state", "word"] [] := T.g_led.F.bindsN fun _ _ _ _ _ _ us hl => match us, hl with | [_, _, _], _ => rfl
theorem Txt.b_is_end (T : Txt K mg) : Binds K (fdOf K (He.ga K "is_end")) ["machine", "state"] [] := T.g_is_end.F.bindsN fun _ _ _ _ _ _ us hl => match us, hl with | [_, _], _ => rfl
theorem Txt.b_is_let (T : Txt K mg) : Binds K (fdOf K (He.ga K "is_let")) ["machine", "word"] [] := T.g_is_let.F.bindsN fun _ _ _ _ _ _ us hl => match us, hl with | [_, _], _ => rfl
theorem Txt.b_lets (T : Txt K mg) : Binds K (fdOf K (He.ga K "lets")) ["machine", "word"] [] := T.g_lets.F.bindsN fun _ _ _ _ _ _ us hl => match us, hl with | [_, _], _ => rfl
theorem Txt.b_by_lots (T : Txt K mg) : Binds K (fdOf K (He.ga K "by_lots")) ["letters", "begin", "step", "is_let"] [] := T.g_by_lots.F.bindsN fun _ _ _ _ _ _ us hl => match us, hl with | [_, _, _, _], _ => rfl
theorem Txt.b_by_pairs (T : Txt K mg) : Binds K (fdOf K (He.ga K "by_pairs")) ["machine", "other", "is_let"] [] := T.g_by_pairs.F.bindsN fun _ _ _ _ _ _ us hl => match us, hl with | [_, _, _], _ => rfl
theorem Txt.b_joined_of (T : Txt K mg) : Binds K (fdOf K (He.ga K "joined_of")) ["machine", "other"] [] := T.g_joined_of.F.bindsN fun _ _ _ _ _ _ us hl => match us, hl with | [_, _], _ => rfl
theorem Txt.b_behind_of (T : Txt K mg) : Binds K (fdOf K (He.ga K "behind_of")) ["machine", "other"] [] := T.g_behind_of.F.bindsN fun _ _ _ _ _ _ us hl => match us, hl with | [_, _], _ => rfl
theorem Txt.b_rounds_of (T : Txt K mg) : Binds K (fdOf K (He.ga K "rounds_of")) ["machine"] [] := T.g_rounds_of.F.bindsN fun _ _ _ _ _ _ us hl => match us, hl with | [_], _ => rfl
theorem Txt.b_words_machine (T : Txt K mg) : Binds K (fdOf K (He.ga K "words_machine")) ["letters", "words"] [] := T.g_words_machine.F.bindsN fun _ _ _ _ _ _ us hl => match us, hl with | [_, _], _ => rfl
theorem Txt.b_of_words (T : Txt K mg) : Binds K (fdOf K (He.ga K "of_words")) ["letters", "words"] [] := T.g_of_words.F.bindsN fun _ _ _ _ _ _ us hl => match us, hl with | [_, _], _ => rfl
theorem Txt.b_is_name_number (T : Txt K mg) : Binds K (fdOf K (He.ga K "is_name_number")) ["value"] [] := T.g_is_name_number.F.bindsN fun _ _ _ _ _ _ us hl => match us, hl with | [_], _ => rfl
theorem Txt.b_many_parts (T : Txt K mg) : Binds K (fdOf K (He.ga K "many_parts")) ["letters", "value", "deep"] [] := T.g_many_parts.F.bindsN fun _ _ _ _ _ _ us hl => match us, hl with | [_, _, _], _ => rfl
theorem Txt.b_is_pattern_of (T : Txt K mg) : Binds K (fdOf K (He.ga K "is_pattern_of")) ["letters", "value"] [] := T.g_is_pattern_of.F.bindsN fun _ _ _ _ _ _ us hl => match us, hl with | [_, _], _ => rfl
theorem Txt.b_want_pattern (T : Txt K mg) : Binds K (fdOf K (He.ga K "want_pattern")) ["letters", "value"] [] := T.g_want_pattern.F.bindsN fun _ _ _ _ _ _ us hl => match us, hl with | [_, _], _ => rfl
theorem Txt.b_want_reached (T : Txt K mg) : Binds K (fdOf K (He.ga K "want_reached")) ["pattern", "many", "value"] [] := T.g_want_reached.F.bindsN fun _ _ _ _ _ _ us hl => match us, hl with | [_, _, _], _ => rfl
theorem Txt.b_want_filling (T : Txt K mg) : Binds K (fdOf K (He.ga K "want_filling")) ["letters", "value"] [] := T.g_want_filling.F.bindsN fun _ _ _ _ _ _ us hl => match us, hl with | [_, _], _ => rfl
theorem Txt.b_names_in (T : Txt K mg) : Binds K (fdOf K (He.ga K "names_in")) ["pattern"] [] := T.g_names_in.F.bindsN fun _ _ _ _ _ _ us hl => match us, hl with | [_], _ => rfl
theorem Txt.b_machine_made (T : Txt K mg) : Binds K (fdOf K (He.ga K "machine_made")) ["letters", "pattern", "filling"] [] := T.g_machine_made.F.bindsN fun _ _ _ _ _ _ us hl => match us, hl with | [_, _, _], _ => rfl
theorem Txt.b_made (T : Txt K mg) : Binds K (fdOf K (He.ga K "made")) ["letters", "pattern", "filling"] [] := T.g_made.F.bindsN fun _ _ _ _ _ _ us hl => match us, hl with | [_, _, _], _ => rfl
theorem Txt.b_words_read (T : Txt K mg) : Binds K (fdOf K (He.ga K "words_read")) ["reading"] [] := T.g_words_read.F.bindsN fun _ _ _ _ _ _ us hl => match us, hl with | [_], _ => rfl
theorem Txt.b_pieces_of (T : Txt K mg) : Binds K (fdOf K (He.ga K "pieces_of")) ["reading"] [] := T.g_pieces_of.F.bindsN fun _ _ _ _ _ _ us hl => match us, hl with | [_], _ => rfl
theorem Txt.b_is_of (T : Txt K mg) : Binds K (fdOf K (He.ga K "is_of")) ["pattern", "reading"] [] := T.g_is_of.F.bindsN fun _ _ _ _ _ _ us hl => match us, hl with | [_, _], _ => rfl
theorem Txt.b_signs_right (T : Txt K mg) : Binds K (fdOf K (He.ga K "signs_right")) ["letters", "word"] [] := T.g_signs_right.F.bindsN fun _ _ _ _ _ _ us hl => match us, hl with | [_, _], _ => rfl
theorem Txt.b_read_word (T : Txt K mg) : Binds K (fdOf K (He.ga K "read_word")) ["reading"] [] := T.g_read_word.F.bindsN fun _ _ _ _ _ _ us hl => match us, hl with | [_], _ => rfl
theorem Txt.b_is_reading (T : Txt K mg) : Binds K (fdOf K (He.ga K "is_reading")) ["letters", "pattern", "filling", "value"] [] := T.g_is_reading.F.bindsN fun _ _ _ _ _ _ us hl => match us, hl with | [_, _, _, _], _ => rfl
theorem Txt.b_law_pot (T : Txt K mg) : Binds K (fdOf K (He.ga K "_law_pot")) ["_law_script", "_law_k"] [] := T.g_law_pot.F.bindsN fun _ _ _ _ _ _ us hl => match us, hl with | [_, _], _ => rfl
theorem Txt.b_law_draw (T : Txt K mg) : Binds K (fdOf K (He.ga K "_law_draw")) ["_law_pot_here", "_law_size"] [] := T.g_law_draw.F.bindsN fun _ _ _ _ _ _ us hl => match us, hl with | [_, _], _ => rfl
theorem Txt.b_law_pick (T : Txt K mg) : Binds K (fdOf K (He.ga K "_law_pick")) ["_law_pot_here", "_law_some"] [] := T.g_law_pick.F.bindsN fun _ _ _ _ _ _ us hl => match us, hl with | [_, _], _ => rfl
theorem Txt.b_law_word (T : Txt K mg) : Binds K (fdOf K (He.ga K "_law_word")) ["_law_pot_here", "_law_letters", "_law_most"] [] := T.g_law_word.F.bindsN fun _ _ _ _ _ _ us hl => match us, hl with | [_, _, _], _ => rfl
theorem Txt.b_law_leaf (T : Txt K mg) : Binds K (fdOf K (He.ga K "_law_leaf")) ["_law_pot_here", "_law_letters", "_law_names"] [] := T.g_law_leaf.F.bindsN fun _ _ _ _ _ _ us hl => match us, hl with | [_, _, _], _ => rfl
theorem Txt.b_law_pattern (T : Txt K mg) : Binds K (fdOf K (He.ga K "_law_pattern")) ["_law_pot_here", "_law_letters", "_law_names", "_law_deep"] [] := T.g_law_pattern.F.bindsN fun _ _ _ _ _ _ us hl => match us, hl with | [_, _, _, _], _ => rfl
theorem Txt.b_law_read (T : Txt K mg) : Binds K (fdOf K (He.ga K "_law_read")) ["_law_reading_here"] [] := T.g_law_read.F.bindsN fun _ _ _ _ _ _ us hl => match us, hl with | [_], _ => rfl
theorem Txt.b_law_is_small (T : Txt K mg) : Binds K (fdOf K (He.ga K "_law_is_small")) ["_law_value", "_law_most"] [] := T.g_law_is_small.F.bindsN fun _ _ _ _ _ _ us hl => match us, hl with | [_, _], _ => rfl
theorem Txt.b_law_is_of (T : Txt K mg) : Binds K (fdOf K (He.ga K "_law_is_of")) ["_law_pattern_here", "_law_value", "_law_pieces"] [] := T.g_law_is_of.F.bindsN fun _ _ _ _ _ _ us hl => match us, hl with | [_, _, _], _ => rfl
theorem Txt.b_law_reading (T : Txt K mg) : Binds K (fdOf K (He.ga K "_law_reading")) ["_law_pot_here", "_law_pattern_here", "_law_filling"] [] := T.g_law_reading.F.bindsN fun _ _ _ _ _ _ us hl => match us, hl with | [_, _, _], _ => rfl
theorem Txt.b_law_bent (T : Txt K mg) : Binds K (fdOf K (He.ga K "_law_bent")) ["_law_pot_here", "_law_reading_here", "_law_odds"] [] := T.g_law_bent.F.bindsN fun _ _ _ _ _ _ us hl => match us, hl with | [_, _, _], _ => rfl
theorem Txt.b_law_right (T : Txt K mg) : Binds K (fdOf K (He.ga K "_law_right")) ["_law_pot_here"] [] := T.g_law_right.F.bindsN fun _ _ _ _ _ _ us hl => match us, hl with | [_], _ => rfl
theorem Txt.b_law (T : Txt K mg) : Binds K (fdOf K (He.ga K "law")) ["_law_script"] [] := T.g_law.F.bindsN fun _ _ _ _ _ _ us hl => match us, hl with | [_], _ => rfl
end
end K44
end
section
set_option maxHeartbeats 0
namespace K44
open PySem PySem.Spec PyProof.Rows L2
abbrev R : PySem.W.OpenRow := PySem.W.OpenLaw.row PySem.Challenge.rw_widefills_k44_whole_readings_of_patterns
abbrev hk : PySem.W.Hook := He.hookX 4 fa fn [] tf exM
def ob (s : PySem.W.SharedT) : He.AlX := He.obsX 4 fa fn [] tf exM (HandSHeadRun.getT s)
theorem ob_eq (s : PySem.W.SharedT) : ob s = hk.obs s.abs := He.obsX_eq (HandSHeadRun.getT_eq s)
theorem run (w : World) : HandSHeadRun.RunEq R (PySem.W.view R.prog [89]) hk ob 6000 looseN w := by
  intro os
  kernel_rfl
end K44
end
section
set_option maxHeartbeats 4000000
namespace K44
open PySem PySem.Spec PyProof.Rows L2
/-! ### what a def hands back -/
def Ret (H : Hp) (Q : VK) (r : V) : Prop := ∀ H', Same H H' → Q r H'
theorem Ret.go {H H' : Hp} {Q : VK} {r : V} (q : Ret H Q r) (e : Same H H') : Q r H' := q H' e
theorem Ret.here {H : Hp} {Q : VK} {r : V} (q : Ret H Q r) : Q r H := q H (Same.refl H)
theorem Ret.on {H H' : Hp} {Q : VK} {r : V} (q : Ret H Q r) (e : Same H H') : Ret H' Q r := fun H'' e' => q H'' (e.trans e')
theorem same_new {H : Hp} {p : Addr} (h : H p = none) (o : HO) : Same H (upd H p o) := fun b u q => by rw [upd_ne (ne_of_none q h)]; exact q
theorem Same.mut {H H' : Hp} {p : Addr} {o : HO} (e : Same H H') (h : H p = none) : Same H (upd H' p o) := fun a u ha => by
  rw [upd_ne (ne_of_none ha h)]
  exact e a u ha
theorem Same.new {H H' : Hp} {p : Addr} (e : Same H H') (h : H' p = none) (o : HO) : Same H (upd H' p o) := e.trans (same_new h o)
theorem Same.tup {K : PySem.W.Frag} {H H' : Hp} {a : Addr} {xs : List V} (e : Same H H') (h : SqT K H a xs) : SqT K H' a xs := by
  rcases h with (h | ⟨o, h⟩) | h
  · exact .inl (.inl (e _ _ h))
  · exact .inl (.inr ⟨o, e _ _ h⟩)
  · exact .inr h
theorem sl {K : PySem.W.Frag} {H : Hp} {a : Addr} {xs : List V} (h : H a = some (.lst xs)) : SqL K H a xs := .inl (.inl h)
theorem st {K : PySem.W.Frag} {H : Hp} {a : Addr} {xs : List V} (h : H a = some (.tup xs)) : SqT K H a xs := .inl (.inl h)
theorem szl {n : Nat} (h : n ≤ 1000000) : n ≤ sizeLine := Nat.le_trans h (by decide)
theorem szt {n : Nat} (h : n < 1000000) : n < sizeLine := Nat.lt_of_lt_of_le h (by decide)
theorem ifT {c : Bool} {A B : Prop} (h : c = true) (a : A) : if c = true then A else B := by rw [if_pos h]; exact a
theorem ifF {c : Bool} {A B : Prop} (h : c = false) (b : B) : if c = true then A else B := by rw [if_neg (by rw [h]; exact Bool.false_ne_true)]; exact b
theorem le0 : 0 ≤ sizeLine := by decide
theorem le1 : 1 ≤ sizeLine := by decide
theorem le2 : 2 ≤ sizeLine := by decide
theorem le3 : 3 ≤ sizeLine := by decide
theorem le4 : 4 ≤ sizeLine := by decide
theorem le5 : 5 ≤ sizeLine := by decide
/-- the heap but one place -/
def off (l : Addr) (H : Hp) : Hp := fun b => if b = l then none else H b
theorem off_none {l : Addr} {H : Hp} : off l H l = none := if_pos rfl
theorem off_ne {l b : Addr} {H : Hp} (h : b ≠ l) : off l H b = H b := if_neg h
theorem off_same {l : Addr} {H : Hp} : Same (off l H) H := fun b o e => by
  unfold off at e
  split at e
  · cases e
  · exact e
theorem same_off {l : Addr} {H0 H : Hp} (e : Same H0 H) (h : H0 l = none) : Same H0 (off l H) := fun b o q => by
  rw [off_ne (fun z => by rw [z, h] at q; cases q)]
  exact e b o q
/-! ### data at any depth -/
mutual
theorem dpOn_ {K : PySem.W.Frag} {H H' : Hp} (e : Same H H') : ∀ (d : PyData) (v : V), Dp K H v d → Dp K H' v d
  | .none, _, h => by cases h; exact .non
  | .bool _, _, h => by cases h; exact .bl _
  | .int _, _, h => by cases h; exact .int _
  | .str _, _, h => by cases h; exact .str _
  | .list ds, _, h => by
    cases h with
    | lst hs ha => exact .lst (e.seq hs) (dpsOn_ e ds _ ha)
  | .tuple ds, _, h => by
    cases h with
    | tup hs ha => exact .tup (Same.tup e hs) (dpsOn_ e ds _ ha)
  | .dict _, _, h => by cases h
theorem dpsOn_ {K : PySem.W.Frag} {H H' : Hp} (e : Same H H') : ∀ (ds : List PyData) (vs : List V), DpAll K H vs ds → DpAll K H' vs ds
  | [], _, h => by cases h; exact .nil
  | d :: ds, _, h => by
    cases h with
    | cons h1 h2 => exact .cons (dpOn_ e d _ h1) (dpsOn_ e ds _ h2)
end
theorem dpOn {K : PySem.W.Frag} {H H' : Hp} {v : V} {d : PyData} (h : Dp K H v d) (e : Same H H') : Dp K H' v d := dpOn_ e d v h
theorem dpsOn {K : PySem.W.Frag} {H H' : Hp} {v : List V} {d : List PyData} (h : DpAll K H v d) (e : Same H H') : DpAll K H' v d := dpsOn_ e d v h
theorem dpsLen {K : PySem.W.Frag} {H : Hp} : ∀ {ds : List PyData} {vs : List V}, DpAll K H vs ds → vs.length = ds.length
  | [], _, h => by cases h; rfl
  | _ :: ds, _, h => by
    cases h with
    | cons _ h2 => exact congrArg Nat.succ (dpsLen h2)
theorem dpsGet {K : PySem.W.Frag} {H : Hp} : ∀ {ds : List PyData} {vs : List V} {i : Nat} {d : PyData}, DpAll K H vs ds → ds[i]? = some d → ∃ v, vs[i]? = some v ∧ Dp K H v d
  | _ :: _, _, 0, _, h, e => by
    cases h with
    | cons h1 _ => cases e; exact ⟨_, rfl, h1⟩
  | _ :: ds, _, i + 1, d, h, e => by
    cases h with
    | cons _ h2 =>
      obtain ⟨v, e1, e2⟩ := dpsGet (i := i) (d := d) h2 (by simpa using e)
      exact ⟨v, by simpa using e1, e2⟩
  | [], _, _, _, _, e => by simp at e
theorem dpsGetV {K : PySem.W.Frag} {H : Hp} : ∀ {ds : List PyData} {vs : List V} {i : Nat} {v : V}, DpAll K H vs ds → vs[i]? = some v → ∃ d, ds[i]? = some d ∧ Dp K H v d
  | _ :: _, _, 0, _, h, e => by
    cases h with
    | cons h1 _ => cases e; exact ⟨_, rfl, h1⟩
  | _ :: ds, _, i + 1, v, h, e => by
    cases h with
    | cons _ h2 =>
      obtain ⟨d, e1, e2⟩ := dpsGetV (i := i) (v := v) h2 (by simpa using e)
      exact ⟨d, by simpa using e1, e2⟩
  | [], _, _, _, h, e => by cases h; simp at e
/-! ### kinds of values -/
inductive Knd where
  | non | bl | int | str | lst | tup
  deriving DecidableEq
def Knd.name : Knd → String
  | .non => "NoneType" | .bl => "bool" | .int => "int" | .str => "str" | .lst => "list" | .tup => "tuple"
def knd : PyData → Knd
  | .none => .non | .bool _ => .bl | .int _ => .int | .str _ => .str | .list _ => .lst | .tuple _ => .tup | .dict _ => .non
abbrev Ty (K : PySem.W.Frag) (H : Hp) (v : V) (k : Knd) : Prop := TyX K H v (.type k.name)
theorem ty_lst {K : PySem.W.Frag} {H : Hp} {a : Addr} {xs : List V} (h : SqL K H a xs) : Ty K H (.ref a) .lst := by
  rcases h with (h | ⟨o, h⟩) | ⟨o, _, _, h, c, _⟩
  · exact .base (.lst h)
  · exact .base (.frz h)
  · exact .kList h c
theorem ty_tup {K : PySem.W.Frag} {H : Hp} {a : Addr} {xs : List V} (h : SqT K H a xs) : Ty K H (.ref a) .tup := by
  rcases h with (h | ⟨o, h⟩) | ⟨o, _, _, h, c, _⟩
  · exact .base (.tup h)
  · exact .fTuple h
  · exact .kTuple h c
theorem ty_of {K : PySem.W.Frag} {H : Hp} {v : V} {d : PyData} (h : Dp K H v d) : Ty K H v (knd d) := by
  cases h with
  | non => exact .base .non
  | bl b => exact .base (.bl b)
  | int i => exact .base (.int i)
  | str x => exact .base (.str x)
  | lst hs _ => exact ty_lst hs
  | tup hs _ => exact ty_tup hs
theorem kit_int (k : Knd) : kitB k.name "int" = some (decide (k = .int) || decide (k = .bl)) := by cases k <;> decide +kernel
theorem kit_bool (k : Knd) : kitB k.name "bool" = some (decide (k = .bl)) := by cases k <;> decide +kernel
theorem kit_str (k : Knd) : kitB k.name "str" = some (decide (k = .str)) := by cases k <;> decide +kernel
theorem kit_tuple (k : Knd) : kitB k.name "tuple" = some (decide (k = .tup)) := by cases k <;> decide +kernel
theorem kit_list (k : Knd) : kitB k.name "list" = some (decide (k = .lst)) := by cases k <;> decide +kernel
section
variable {X : Cx} {e : Expr} {te : TE} {p p2 pos : Pos}
/-- isinstance(e, T), T one built-in class -/
def rIs (K : PySem.W.Frag) (S : String) (f : Knd → Bool) : List V → Hp → VK → Prop := fun xs H Q => ∃ x k, xs = [x, .ty S] ∧ Ty K H x k ∧ Q (.bl (f k)) H
theorem call_is {S : String} {f : Knd → Bool} (hf : ∀ k : Knd, kitB k.name S = some (f k)) : CallR X (.builtin "isinstance") (rIs X.K S f) := by
  intro pins s σ H xs us Q I r h
  obtain ⟨x, k, rfl, ty, q⟩ := h
  exact call_isi pins s σ H _ us Q I r ⟨x, .ty S, _, _, _, rfl, .ty S, ty, kit_ty (hf k), q⟩
def tIs (K : PySem.W.Frag) (te : TE) (S : String) (f : Knd → Bool) : TE := fun σ H Q => te σ H fun v H1 => rIs K S f [v, .ty S] H1 Q
theorem pe_is {T : Str} {S : String} {f : Knd → Bool} (zi : X.mg "isinstance" = none) (zT : X.mg T = none) (hv : bootBuiltins T = some (.type S)) (hf : ∀ k : Knd, kitB k.name S = some (f k)) (he : PE X e te) (hg : Gl X "isinstance" := by rfl) (hg2 : Gl X T := by rfl)
    (hn : T ≠ "__name__" := by decide) (hdb : (T == ("__debug__" : Str)) = false := by decide) (he2 : starEach [e, .Name T p2] X.env = (false, eval e X.env) :: starEach [.Name T p2] X.env := by rfl) (he3 : starEach [.Name T p2] X.env = [(false, eval (.Name T p2) X.env)] := by rfl)
    (hpl : (backTo pos (starEach [.Name T p2] X.env)).any (·.1) = false := by rfl) : PE X (.Call (.Name "isinstance" p) [e, .Name T p2] [] pos) (tIs X.K te S f) :=
  pe_callB (p := p) (pos := pos) (call_is hf) hg zi (by decide +kernel) (pa_cons (es := [.Name T p2]) he (pa_cons (pe_bltn (v := .ty S) hg2 zT hv rfl hn hdb) pa_nil he3) he2) (he := he2) (hpl := hpl)
/-- isinstance(e, (list, tuple)) -/
def rIs2 (K : PySem.W.Frag) : List V → Hp → VK → Prop := fun xs H Q => ∃ x tp k, xs = [x, .ref tp] ∧ H tp = some (.tup [.ty "list", .ty "tuple"]) ∧ Ty K H x k ∧ Q (.bl (decide (k = .lst) || decide (k = .tup))) H
theorem call_is2 : CallR X (.builtin "isinstance") (rIs2 X.K) := by
  intro pins s σ H xs us Q I r h
  obtain ⟨x, tp, k, rfl, ht, ty, q⟩ := h
  have e : PySem.W.kitAny X.K (.type k.name) [.type "list", .type "tuple"] = some (decide (k = .lst) || decide (k = .tup)) := by
    have h1 := kit_ty (K := X.K) (kit_list k)
    have h2 := kit_ty (K := X.K) (kit_tuple k)
    cases k <;> (unfold PySem.W.kitAny; rw [h1]; first | rfl | (show PySem.W.kitAny X.K _ [.type "tuple"] = _; unfold PySem.W.kitAny; rw [h2]; rfl))
  exact call_isiT pins s σ H _ us Q I r ⟨x, tp, _, _, _, _, rfl, ht, .cons (.ty "list") (.cons (.ty "tuple") .nil), ty, e, q⟩
end
/-! ### calls -/
section
variable {P : Program} {w : World} {K : PySem.W.Frag} {mg : Str → Option Value} {base : Heap}
/-- THE RULE for a def of the text -/
theorem Cal.of {x : Str} {st : Stmt} {dvs : List V} {N ps : List Str} {k : Nat} {sp : Sp} (G : Glo K mg x st dvs) (b : Binds K (fdOf K (He.ga K x)) ps []) (S : FnScope N ps (defScope st)) (len : ∀ vs H Q E, sp vs H Q E → vs.length = ps.length)
    (hbody : ∀ (cdv : Value) (A : Around) (outer : List Env) (s : Shared) (H : Hp) (vs : List V) (Q : VK) (E : XK), Room k (A.deeper (envOfC x (defScope st) s.heap.objs.size (He.ga K x) cdv)) → sp vs H Q E →
      ∃ t, PSs (cxOf CX0 P w K mg base N x (defScope st) (He.ga K x) cdv A outer s H E).nox (defBody st) t ∧ t { nx := fun _ H' => Q .non H', rt := Q } (start N vs) H) : Cal P w K mg base (k + 1) x ps sp :=
  ⟨G.F.ok S len fun cdv A outer s H vs Q E hr h => let ⟨t, h1, h2⟩ := hbody cdv A outer s H vs Q E hr h; ⟨t, h1.nox, h2⟩, G.g, G.F.kp, b⟩
theorem Cal.none_ {x : Str} {st : Stmt} {dvs : List V} {ps : List Str} {k : Nat} {sp : Sp} (G : Glo K mg x st dvs) (b : Binds K (fdOf K (He.ga K x)) ps []) (no : ∀ vs H Q E, ¬ sp vs H Q E) : Cal P w K mg base k x ps sp :=
  ⟨⟨fun vs H Q E h => absurd h (no vs H Q E), fun A outer s H args us vs Q E _ _ _ _ h => absurd h (no vs H Q E)⟩, G.g, G.F.kp, b⟩
theorem Cal.mono {x : Str} {ps : List Str} {j k : Nat} {sp : Sp} (C : Cal P w K mg base j x ps sp) (h : j ≤ k) : Cal P w K mg base k x ps sp := ⟨C.fn.mono h, C.g, C.kp, C.b⟩
theorem Cal.imp {x : Str} {ps : List Str} {k : Nat} {sp sp' : Sp} (C : Cal P w K mg base k x ps sp) (h : ∀ vs H Q E, sp' vs H Q E → sp vs H Q E) : Cal P w K mg base k x ps sp' := ⟨C.fn.imp h, C.g, C.kp, C.b⟩
end
section
variable {X : Cx} {x : Str} {ps : List Str} {j k : Nat} {sp : Sp} {e : Expr} {es : List Expr} {t : TA} {p pos : Pos}
def tPc (sp : Sp) (t : TA) : TE := fun σ H Q => t σ H fun vs H1 => sp vs H1 Q E0
theorem pc (C : Cal X.prog X.w X.K X.mg X.base j x ps sp) (hr : Room k X.A) (ha : PA X (e :: es) t) (hj : j ≤ k := by decide) (hg : Gl X x := by rfl)
    (hdb : (x == ("__debug__" : Str)) = false := by decide) (he : starEach (e :: es) X.env = (false, eval e X.env) :: starEach es X.env := by rfl) (hpl : (backTo pos (starEach es X.env)).any (·.1) = false := by rfl) :
    PE X (.Call (.Name x p) (e :: es) [] pos) (tPc sp t) := by
  have h := pe_call (p := p) (pos := pos) C.fn (hr.mono hj) hg C.g C.kp C.b .nil pass0 ha hdb he hpl
  refine ⟨fun pins s σ H Q I q => h.run pins s σ H Q I ?_⟩
  have e0 : (fun (vs : List V) (H1 : Hp) => sp (vs ++ []) H1 Q E0) = fun vs H1 => sp vs H1 Q E0 := by
    funext vs H1
    rw [List.append_nil]
  show t σ H (fun vs H1 => sp (vs ++ []) H1 Q E0)
  rw [e0]
  exact q
def iOr (w1 w2 : TI) : TI := fun σ H R => w1 σ H R ∨ w2 σ H R
def tOrE (w1 w2 : TE) : TE := fun σ H R => w1 σ H R ∨ w2 σ H R
theorem PI.or {tg e : Expr} {w1 w2 : TI} (h1 : PI X tg e w1) (h2 : PI X tg e w2) : PI X tg e (iOr w1 w2) :=
  ⟨fun pins s σ H R I h => h.elim (h1.run pins s σ H R I) (h2.run pins s σ H R I)⟩
theorem PE.or {e : Expr} {w1 w2 : TE} (h1 : PE X e w1) (h2 : PE X e w2) : PE X e (tOrE w1 w2) :=
  ⟨fun pins s σ H R I h => h.elim (h1.run pins s σ H R I) (h2.run pins s σ H R I)⟩
/-- a constant of the module -/
theorem pgl {x : Str} {v : V} {pos : Pos} (h : ∃ u, X.mg x = some u ∧ RelV v u) (hg : Gl X x := by rfl) (hd : (x == ("__debug__" : Str)) = false := by decide) : PE X (.Name x pos) (tC v) :=
  let ⟨_, h1, h2⟩ := h
  pe_glob hg h1 h2 hd
end
theorem tyo_on {K : PySem.W.Frag} {H H' : Hp} {v : V} {t : Value} (h : TyOf K H v t) (e : Same H H') : TyOf K H' v t := by
  cases h with
  | non => exact .non
  | bl x => exact .bl x
  | int i => exact .int i
  | str x => exact .str x
  | flt x => exact .flt x
  | lst h => exact .lst (e _ _ h)
  | frz h => exact .frz (e _ _ h)
  | tup h => exact .tup (e _ _ h)
  | dK h => exact .dK (e _ _ h)
  | dT h => exact .dT (e _ _ h)
  | ins h cl a b c d => exact .ins (e _ _ h) cl a b c d
theorem ty_on {K : PySem.W.Frag} {H H' : Hp} {v : V} {t : Value} (h : TyX K H v t) (e : Same H H') : TyX K H' v t := by
  cases h with
  | base b => exact .base (tyo_on b e)
  | byt b => exact .byt b
  | set h => exact .set (e _ _ h)
  | kList h c => exact .kList h c
  | kTuple h c => exact .kTuple h c
  | kDict h c => exact .kDict h c
  | fTuple h => exact .fTuple (e _ _ h)
  | fDict h => exact .fDict (e _ _ h)
/-! ### scopes by one look -/
def fscB (N ps : List Str) (sc : Scope) : Bool :=
  decide (sc.kind = .function) && !sc.isCoroutine && !sc.isGenerator && decide N.Nodup && decide (N.take ps.length = ps) && ps.all (fun x => decide (sc.names.lookup x = some .local) || decide (sc.names.lookup x = some .cell)) && sc.names.all (fun y => !decide (y.2 = .free))
theorem fsc {N ps : List Str} {sc : Scope} (h : fscB N ps sc = true) : FnScope N ps sc := by
  unfold fscB at h
  simp only [Bool.and_eq_true, Bool.not_eq_true', decide_eq_true_eq, List.all_eq_true, Bool.or_eq_true, decide_eq_false_iff_not] at h
  obtain ⟨⟨⟨⟨⟨⟨h1, h2⟩, h3⟩, h4⟩, h5⟩, h6⟩, h7⟩ := h
  exact ⟨h1, h2, h3, h4, h5, h6, h7⟩
/-! ### what stays though lists and tables change -/
def Imm (H H' : Hp) : Prop := ∀ b o, H b = some o → (∀ xs, o ≠ .lst xs) → (∀ ps, o ≠ .tbl ps) → H' b = some o
theorem Imm.of {H H' : Hp} (e : Same H H') : Imm H H' := fun b o h _ _ => e b o h
theorem Imm.refl (H : Hp) : Imm H H := fun _ _ h _ _ => h
theorem Imm.trans {H H1 H2 : Hp} (a : Imm H H1) (b : Imm H1 H2) : Imm H H2 := fun c o h n m => b c o (a c o h n m) n m
theorem Imm.lst {H : Hp} {p : Addr} {xs ys : List V} (h : H p = some (.lst xs)) : Imm H (upd H p (.lst ys)) := fun b o e n _ => by
  have hb : b ≠ p := fun z => by
    rw [z, h] at e
    exact n xs (Option.some.inj e).symm
  rw [upd_ne hb]; exact e
theorem Imm.tup {K : PySem.W.Frag} {H H' : Hp} {a : Addr} {xs : List V} (e : Imm H H') (h : SqT K H a xs) : SqT K H' a xs := by
  rcases h with (h | ⟨o, h⟩) | h
  · exact .inl (.inl (e _ _ h (fun _ z => by cases z) fun _ z => by cases z))
  · exact .inl (.inr ⟨o, e _ _ h (fun _ z => by cases z) fun _ z => by cases z⟩)
  · exact .inr h
/-! ### a comprehension that maps -/
theorem eq_map_range {α : Type} {ys : List α} {n : Nat} {f : Nat → α} (hl : ys.length = n) (h : ∀ (i : Nat) y, ys[i]? = some y → y = f i) : ys = (List.range n).map f := by
  refine List.ext_getElem? fun i => ?_
  by_cases hi : i < n
  · have h1 : ys[i]? = some (ys[i]'(by omega)) := List.getElem?_eq_getElem (by omega)
    rw [h1, h i _ h1, List.getElem?_map, List.getElem?_range hi]; rfl
  · rw [List.getElem?_eq_none (by omega), List.getElem?_eq_none (by simp; omega)]
theorem eq_map {α β : Type} {ys : List β} {xs : List α} {f : α → β} (hl : ys.length = xs.length) (h : ∀ (i : Nat) y x, ys[i]? = some y → xs[i]? = some x → y = f x) : ys = xs.map f := by
  refine List.ext_getElem? fun i => ?_
  by_cases hi : i < xs.length
  · have h1 : ys[i]? = some (ys[i]'(by omega)) := List.getElem?_eq_getElem (by omega)
    have h2 : xs[i]? = some xs[i] := List.getElem?_eq_getElem hi
    rw [h1, h i _ _ h1 h2, List.getElem?_map, h2]; rfl
  · rw [List.getElem?_eq_none (by omega), List.getElem?_eq_none (by simp; omega)]
section
variable {J : It} {n : Nat} {G : Hp → Prop} {Y : Nat → Hp → V → Hp → Prop}
theorem lcm (w : Walk J n G Y) (it : Nat → V → Prop) (hY : ∀ i H x H', Y i H x H' → H' = H ∧ it i x) {te : TE} {j : Nat} {vs : List Nat} {σ : L2.St} {H1 : Hp} {D : Addr} {Qd : Hp → Prop} (R : Nat → V → Hp → Prop) (mono : ∀ i y H H', Imm H H' → R i y H → R i y H') (hn : n ≤ 100000)
    (hD : H1 D = none) (hG : ∀ H, Same H1 H → G H) (hw : ∀ x, wipe ((wipe σ vs).set j (some x)) vs = wipe σ vs)
    (ht : ∀ i x H, i < n → it i x → Same H1 H → ∀ Q : VK, (∀ y H4, Same H H4 → R i y H4 → Q y H4) → te ((wipe σ vs).set j (some x)) H Q)
    (q : ∀ ys H', Same H1 H' → H' D = some (.lst ys) → ys.length = n → (∀ (i : Nat) y, ys[i]? = some y → R i y H') → Qd H') :
    ∃ W : Nat → Nat → Hp → Prop, (∃ m, W 0 m (upd H1 D (.lst []))) ∧ ∀ i m H, W i m H →
      (J.stop i H ∧ Qd H) ∨ (J.go i H ∧ ∃ Nx : Hp → Prop, (∀ H', Nx H' → ∃ m', m' < m ∧ W (i + 1) m' H') ∧ ∀ x H', J.yld i H x H' → gName j x (wipe σ vs) H' fun σ2 H2 => wipe σ2 vs = wipe σ vs ∧ tYes σ2 H2 fun b H3 =>
        if b = true then te σ2 H3 fun y H4 => ∃ acc, H4 D = some (.lst acc) ∧ acc.length < sizeLine ∧ Nx (upd H4 D (.lst (acc ++ [y]))) else Nx H3) := by
  refine lc_it w (fun i H => Same H1 H ∧ ∃ acc, H D = some (.lst acc) ∧ acc.length = i ∧ ∀ (k : Nat) y, acc[k]? = some y → R k y H) ⟨same_new hD _, [], upd_same, rfl, fun k y e => by simp at e⟩ (fun i H _ p => hG H p.1) (fun i x H H' hi p y => ?_) fun H p => ?_
  · obtain ⟨e, acc, hacc, hl, hR⟩ := p
    obtain ⟨rfl, hx⟩ := hY i H x H' y
    refine ⟨hw x, ?_⟩
    show te ((wipe σ vs).set j (some x)) H' _
    refine ht i x _ hi hx e _ fun z H4 e4 r4 => ⟨acc, e4 _ _ hacc, szt (by omega), Same.mut (e.trans e4) hD, acc ++ [z], upd_same, by simp [hl], fun k v hk => ?_⟩
    have up := Imm.lst (ys := acc ++ [z]) (e4 _ _ hacc)
    by_cases hk2 : k < acc.length
    · rw [List.getElem?_append_left hk2] at hk
      exact mono _ _ _ _ up (mono _ _ _ _ (Imm.of e4) (hR k v hk))
    · have hk3 : k = i := by
        have := (List.getElem?_eq_some_iff.mp hk).1
        simp at this; omega
      subst hk3
      rw [List.getElem?_append_right (by omega), show k - acc.length = 0 by omega] at hk
      cases hk
      exact mono _ _ _ _ up r4
  · obtain ⟨e, acc, hacc, hl, hR⟩ := p
    exact q acc H e hacc hl hR
/-- a value made of each item of data -/
theorem lcmD {α : Type} {K : PySem.W.Frag} (as : List α) (us : List V) (dd : α → PyData) (f : α → V) {te : TE} {j : Nat} {vs : List Nat} {σ : L2.St} {H1 : Hp} {D : Addr} {Qd : Hp → Prop} (w : Walk J us.length G (YAt us)) (hu : DpAll K H1 us (as.map dd)) (hn : as.length ≤ 1000)
    (hD : H1 D = none) (hG : ∀ H, Same H1 H → G H) (hw : ∀ x, wipe ((wipe σ vs).set j (some x)) vs = wipe σ vs)
    (ht : ∀ a x H, a ∈ as → Dp K H x (dd a) → Same H1 H → ∀ Q : VK, Ret H Q (f a) → te ((wipe σ vs).set j (some x)) H Q) (q : ∀ H', Same H1 H' → H' D = some (.lst (as.map f)) → Qd H') :
    ∃ W : Nat → Nat → Hp → Prop, (∃ m, W 0 m (upd H1 D (.lst []))) ∧ ∀ i m H, W i m H →
      (J.stop i H ∧ Qd H) ∨ (J.go i H ∧ ∃ Nx : Hp → Prop, (∀ H', Nx H' → ∃ m', m' < m ∧ W (i + 1) m' H') ∧ ∀ x H', J.yld i H x H' → gName j x (wipe σ vs) H' fun σ2 H2 => wipe σ2 vs = wipe σ vs ∧ tYes σ2 H2 fun b H3 =>
        if b = true then te σ2 H3 fun y H4 => ∃ acc, H4 D = some (.lst acc) ∧ acc.length < sizeLine ∧ Nx (upd H4 D (.lst (acc ++ [y]))) else Nx H3) := by
  have hl := dpsLen hu
  rw [List.length_map] at hl
  refine lcm w (fun i v => us[i]? = some v) (fun _ _ _ _ y => y) (fun i y _ => ∃ a, as[i]? = some a ∧ y = f a) (fun _ _ _ _ _ r => r) (by omega) hD hG hw ?_ ?_
  · intro i x H2 hi hxi e Q q
    obtain ⟨d, h1, h2⟩ := dpsGetV hu hxi
    rw [List.getElem?_map] at h1
    obtain ⟨r, g1, rfl⟩ := Option.map_eq_some_iff.mp h1
    exact ht r x H2 (List.mem_of_getElem? g1) (dpOn h2 e) e Q fun H' e' => q _ _ e' ⟨r, g1, rfl⟩
  · intro ys H' e hys hyl hR
    refine q H' e ?_
    rw [hys]
    congr 2
    refine eq_map (by omega) fun i y r h1 h2 => ?_
    obtain ⟨r', h3, h4⟩ := hR i y h1
    rw [h2] at h3
    cases h3
    exact h4
end
end K44
end
section
set_option maxHeartbeats 4000000
namespace K44
open PySem PySem.Spec PyProof.Rows L2
section
variable {P : Program} {w : World} {K : PySem.W.Frag} {mg : Str → Option Value} {base : Heap}
/-! ### is_integer, is_count, is_list -/
def sp_is_integer (K : PySem.W.Frag) : Sp := fun vs H Q _ => ∃ v k, vs = [v] ∧ Ty K H v k ∧ Ret H Q (.bl (decide (k = .int)))
theorem c_is_integer (T : Txt K mg) : Cal P w K mg base 1 "is_integer" ["value"] (sp_is_integer K) := by
  have S : FnScope ["value"] ["value"] (defScope s_is_integer) := ⟨rfl, rfl, rfl, by decide +kernel, rfl, by decide +kernel, by decide +kernel⟩
  refine Cal.of T.g_is_integer T.b_is_integer S (fun vs H Q E h => ?_) fun cdv A outer s H vs Q E hr h => ?_
  · obtain ⟨v, k, rfl, _⟩ := h; rfl
  obtain ⟨v, k, rfl, ty, q⟩ := h
  refine ⟨_, pss_one (ps_ret (pe_and (pe_is T.zisinstance T.zint (by decide +kernel) kit_int (pv 0)) (pe_one (pe_not (pe_is T.zisinstance T.zbool (by decide +kernel) kit_bool (pv 0)))))), ?_⟩
  refine ⟨v, rfl, v, k, rfl, ty, _, rfl, ite2 (fun c => ⟨v, rfl, v, k, rfl, ty, _, rfl, ?_⟩) fun c => ?_⟩
  · have e : (!decide (k = Knd.bl)) = decide (k = .int) := by cases k <;> simp at c ⊢
    rw [e]; exact q.here
  · have e : decide (k = .int) = false := by cases k <;> simp at c ⊢
    rw [e] at q; exact q.here
/-- what is_count says of a value -/
def cntV : V → Bool
  | .int i => decide (0 ≤ i)
  | _ => false
theorem int_of {H : Hp} {v : V} (h : Ty K H v .int) : ∃ i, v = .int i := by
  have key : ∀ t, TyX K H v t → t = .type "int" → ∃ i, v = .int i := by
    intro t h e
    cases h with
    | base b => cases b <;> first | exact ⟨_, rfl⟩ | (exfalso; revert e; decide) | cases e
    | _ => first | (exfalso; revert e; decide) | cases e
  exact key _ h rfl
theorem not_int {H : Hp} {i : Int} {k : Knd} (h : Ty K H (.int i) k) : k = .int := by
  have key : ∀ t v, TyX K H v t → v = .int i → t = .type "int" := by
    intro t v h e
    cases h with
    | base b => cases b <;> first | rfl | cases e
    | _ => cases e
  have e := key _ _ h rfl
  cases k <;> first | rfl | (revert e; decide)
def sp_is_count (K : PySem.W.Frag) : Sp := fun vs H Q _ => ∃ v k, vs = [v] ∧ Ty K H v k ∧ Ret H Q (.bl (cntV v))
theorem c_is_count (T : Txt K mg) : Cal P w K mg base 2 "is_count" ["value"] (sp_is_count K) := by
  have S : FnScope ["value"] ["value"] (defScope s_is_count) := ⟨rfl, rfl, rfl, by decide +kernel, rfl, by decide +kernel, by decide +kernel⟩
  refine Cal.of T.g_is_count T.b_is_count S (fun vs H Q E h => ?_) fun cdv A outer s H vs Q E hr h => ?_
  · obtain ⟨v, k, rfl, _⟩ := h; rfl
  obtain ⟨v, k, rfl, ty, q⟩ := h
  refine ⟨_, pss_one (ps_ret (pe_and (pc (c_is_integer T) hr (pa_cons (pv 0) pa_nil)) (pe_one (pe_cmpR op_ge (pv 0) pe_int (nomark _))))), ?_⟩
  refine ⟨v, rfl, v, k, rfl, ty, fun H1 e1 => ⟨_, rfl, ite2 (fun c => ?_) fun c => ?_⟩⟩
  · have ek : k = .int := of_decide_eq_true c
    subst ek
    obtain ⟨i, rfl⟩ := int_of ty
    exact ⟨_, rfl, _, _, rfl, rfl, q.go e1⟩
  · have e : cntV v = false := by
      cases v with
      | int i => exact absurd (decide_eq_true (not_int ty)) c
      | _ => rfl
    rw [e] at q; exact q.go e1
def sp_is_list (K : PySem.W.Frag) : Sp := fun vs H Q _ => ∃ v k, vs = [v] ∧ Ty K H v k ∧ Ret H Q (.bl (decide (k = .lst) || decide (k = .tup)))
end
end K44
end
section
set_option maxHeartbeats 4000000
/-! More rules: list(d.values()), three stores at once, attributes as targets. -/
namespace K44
open PySem PySem.Spec PyProof.Rows L2
def VwO (p a : Addr) : HO := .ext fun h => h.IsValuesView p a
section
variable {X : Cx}
/-- o.values() -/
def tDVw (td : TE) : TE := fun σ H Q => td σ H fun x H1 => ∃ a kvs, x = V.ref a ∧ H1 a = some (.dK kvs) ∧ ∀ p, H1 p = none → Q (.ref p) (upd H1 p (VwO p a))
theorem pe_dvw {o : Expr} {apos mpos : Pos} {td : TE} (hd : PE X o td) (hbase : attributeBase o "values" X.env (eval o X.env) = eval o X.env := by rfl) (hline : (apos.endLine == mpos.line) = true := by rfl) :
    PE X (.Call (.Attribute o "values" apos) [] [] mpos) (tDVw td) := by
  refine ⟨fun pins s σ H Q I h => ?_⟩
  refine wpAny_Call_method0_late hbase hline (thn (hd.run pins s σ H _ I h) fun v s1 ⟨x, H1, I1, r1, a, kvs, ex, ha, q⟩ => ?_)
  subst ex
  obtain rfl : v = Value.ref a := r1
  obtain ⟨_, hsys, vs, rel, dof⟩ := dk_of I1.hok ha
  obtain ⟨ep, dat⟩ := dof.dictAt
  obtain ⟨ob, es, ho, ex, hdat, hko, hpr, hnd⟩ := dat
  refine ⟨"dict", "dict.values", F.plainAttrs_dict, F.slot_dict_values, F.type_dict_values, ⟨ob, ho, ex.1⟩, fun b e => ?_, Calls.callWith_builtin rfl (PySem.evalArgs_none ?_)⟩
  · cases e
    exact ⟨ob, ho, ex.2.1⟩
  refine call_meetsIn F.slot_dict_values ⟨ob, ho, ex.1⟩ F.entry_dict_values (F.args_dict_values_1 _) (meets_dict_values (mixKind X.prog X.w) a hsys) ⟨⟨vs, dof⟩, ?_⟩
  have e := Heap.get?_push_size s1.heap (o := { cls := .type "dict_values", data := .fields #[.ref a] }) rfl
  refine ⟨.ref s1.heap.objs.size, _, I1.laid (t' := s1.toks) (o := VwO s1.heap.objs.size a) (fun b u e => Heap.get?_push_of_some _ e) (Nat.le_refl _) ?_, rfl, q _ (I1.hok.fresh (Nat.le_refl _))⟩
  exact ⟨⟨_, e, rfl, rfl⟩, ⟨_, e⟩, fun h1 h2 ⟨o, z, r⟩ st => ⟨o, st o z, r⟩⟩
/-- list(view) -/
def rListV : List V → Hp → VK → Prop := fun xs H Q => ∃ (p a : Addr) (kvs : List (Key × V)), xs = [.ref p] ∧ H p = some (VwO p a) ∧ H a = some (.dK kvs) ∧ ∀ l, H l = none → Q (.ref l) (upd H l (.lst (kvs.map (·.2))))
theorem call_listV (hc : X.calm = true) : CallR X (.type "list") rListV := by
  intro pins s σ H xs us Q I r h
  obtain ⟨p, a, kvs, rfl, hp, ha, q⟩ := h
  obtain ⟨u, rfl, ru⟩ := vals1 r
  cases ru
  obtain ⟨z, hsys, vs, rel, dof⟩ := dk_of I.hok ha
  have hv : s.heap.IsValuesView p a := (I.hok p _ hp).1
  obtain ⟨ep, dat⟩ := dof.dictAt
  obtain ⟨ob, es, ho, ex, hdat, hko, hpr, hnd⟩ := id dat
  have hl : kvs.length = vs.length := KV.length rel
  have pr : ∀ {l : List DictEntry} {m : List (Key × Value)} {kv : List (Key × V)}, Pairs (mixKind X.prog X.w) l m → KV kv m → Vals (kv.map (·.2)) (l.map (·.val)) := by
    intro l m kv hp hr
    induction hp generalizing kv with
    | nil => cases hr; exact .nil
    | cons h1 h2 t ih =>
      unfold KV at hr
      cases hr with
      | cons a b => exact .cons (by show RelV _ (DictEntry.val _); rw [h2]; exact a.2) (ih b)
  have vals := pr hpr rel
  have hes : es.size = kvs.length := by
    have := vals.length
    simp only [List.length_map, Array.length_toList] at this
    exact this.symm
  refine PySem.W.kdl_call (KdlSrc.rawValues (r := p) (d := a) (es := es) (ep := ep)) (I.ok.hd hc) ⟨hv, ob, ho, ex, hdat⟩ (by omega) fun h' tk acc c hk hl' hacc => ?_
  have ea : acc.toList = es.toList.map (·.val) := by
    refine List.ext_getElem? fun i => ?_
    rw [List.getElem?_map]
    by_cases hi : i < es.size
    · have h1 : acc.toList[i]? = some (acc[i]'(by rw [hacc.1]; exact hi)) := by rw [Array.getElem?_toList]; exact Array.getElem?_eq_getElem _
      obtain ⟨hj, e⟩ := hacc.2 i _ (Array.getElem?_eq_getElem (by rw [hacc.1]; exact hi))
      rw [h1, e, Array.getElem?_toList, Array.getElem?_eq_getElem hj]; rfl
    · rw [List.getElem?_eq_none (by rw [Array.length_toList, hacc.1]; omega), List.getElem?_eq_none (by rw [Array.length_toList]; omega)]; rfl
  refine ⟨.ref s.heap.objs.size, _, I.laid (t' := tk) (o := .lst (kvs.map (·.2))) hk (Nat.le_refl _) ⟨by rw [List.length_map]; exact z, acc.toList, c, by rw [ea]; exact vals, by simpa using hl'⟩, rfl, q _ (I.hok.fresh (Nat.le_refl _))⟩
/-- o.f, a target -/
def gFld (K : PySem.W.Frag) (ta : TE) (f : Str) : TG := fun v σ H Q => ta σ H fun x H2 => ∃ a C dx fs, x = .ref a ∧ H2 a = some (.ins C dx fs) ∧ Cls K C ∧ NoAttr K C f ∧ fs.length < 1000 ∧ Q σ (upd H2 a (.ins C dx (putF f v fs)))
theorem pg_fld {o : Expr} {f : Str} {pos : Pos} {ta : TE} (ha : PE X o ta) : PG X (.Attribute o f pos) (gFld X.K ta f) := by
  refine ⟨fun pins s σ H v u Q I r h => ?_⟩
  refine PySem.W.kas_attr (thn (ha.run pins s σ H _ I h) fun ov s2 ⟨x, H2, I2, rx, a, C, dx, fs, ex, ea, c, n, l, q2⟩ => ?_)
  subst ex
  obtain rfl : ov = Value.ref a := rx
  exact setattr_ok I2 ea c n l r fun s3 I3 => ⟨σ, _, I3, q2⟩
/-- a, b, c = x, y, z with plain local names: stored from the right -/
def tPar3 (i j k : Nat) (ta : TA) : TS := fun D σ H => ta σ H fun vs H1 => ∃ v w z, vs = [v, w, z] ∧ D.nx (((σ.set k (some z)).set j (some w)).set i (some v)) H1
theorem ps_par3 {i j k : Nat} {x y z : Str} {a b c : Expr} {ta : TA} {px py pz pt : Pos} {kt k2 pt2} {pos : Pos} (hc : X.calm = true) (hN : X.N.Nodup) (hi : X.N[i]? = some x) (hj : X.N[j]? = some y) (hk : X.N[k]? = some z)
    (hx : X.env.scope.names.lookup x = some .local) (hy : X.env.scope.names.lookup y = some .local) (hz : X.env.scope.names.lookup z = some .local) (ha : PA X [a, b, c] ta)
    (hw : swappedStores [.Tuple [.Name x px, .Name y py, .Name z pz] kt pt] (.Tuple [a, b, c] k2 pt2) X.env = pure (some [x, y, z]))
    (hs : swapsWithSole [.Tuple [.Name x px, .Name y py, .Name z pz] kt pt] (.Tuple [a, b, c] k2 pt2) pos.line X.env = pure false := by rfl) :
    PS X (.Assign [.Tuple [.Name x px, .Name y py, .Name z pz] kt pt] (.Tuple [a, b, c] k2 pt2) pos) (tPar3 i j k ta) := by
  refine ⟨fun pins s σ H D I h => ?_⟩
  rw [exec_Assign_arm]
  refine wpAny_bind (wpAny_standAt ?_)
  rw [hs]
  refine wpAny_bind (wpAny_pure ?_)
  rw [if_neg (by decide)]
  refine wpAny_bind (Tuple_ (thn (ha.run _ pins s σ H _ I h) fun us s1 ⟨vs, H1, I1, r1, q1⟩ => ?_))
  obtain ⟨v, w, t, e1, q1⟩ := q1
  subst e1
  obtain ⟨u1, u2, u3, rfl, rv, rw', rt⟩ : ∃ u1 u2 u3, us = [u1, u2, u3] ∧ RelV v u1 ∧ RelV w u2 ∧ RelV t u3 := by
    cases r1 with
    | cons p q =>
      cases q with
      | cons p' q' =>
        cases q' with
        | cons p2 q2 =>
          cases q2
          exact ⟨_, _, _, rfl, p, p', p2⟩
  refine wpAny_newObj_type ?_ (by show 3 ≤ sizeLine; decide)
  have I2 : Inv X pins σ H1 { s1 with heap := s1.heap.push { cls := .type "tuple", data := .seq [u1, u2, u3].toArray } } := I1.kept (t' := s1.toks) fun b o e => Heap.get?_push_of_some _ e
  rw [hw]
  refine wpAny_bind (wpAny_pure ?_)
  show wpAny (model X.prog X.w) X.A (do rule "assign.swapped-stores"; let items ← unpackItems (.ref s1.heap.objs.size) 3 none; assignInOrder [fun v => bindName X.env z v, fun v => bindName X.env y v, fun v => bindName X.env x v] items.reverse; pure Flow.next) _ _ _
  refine wpAny_bind (wpAny_rule (wpAny_bind (unpackItems_tuple (items := #[u1, u2, u3]) (I.ok.hd hc) (IsTup.new s1.heap _) fun h' hx' => ?_)))
  have I3 := I2.kept (h' := h') (t' := s1.toks) fun b o e => hx' b o (Nat.ne_of_lt (Heap.lt_size e)) e
  show wpAny _ _ (assignInOrder [fun v => bindName X.env z v, fun v => bindName X.env y v, fun v => bindName X.env x v] [u3, u2, u1] >>= fun _ => pure Flow.next) _ _ _
  refine wpAny_bind (assignInOrder_cons (wpAny_bindName (store_ok I3 hN hk (.inl hz) rt (fun s2 I4 => ?_) (.inr hz))))
  refine assignInOrder_cons (wpAny_bindName (store_ok I4 hN hj (.inl hy) rw' (fun s3 I5 => ?_) (.inr hy)))
  refine assignInOrder_cons (wpAny_bindName (store_ok I5 hN hi (.inl hx) rv (fun s4 I6 => assignInOrder_nil (wpAny_pure ?_)) (.inr hx)))
  exact ⟨_, H1, I6, q1⟩
end
end K44
end
section
set_option maxHeartbeats 4000000
/-! Functions made in a def: cells of their own beside the captured ones; handed on and called elsewhere. -/
namespace K44
open PySem PySem.Spec PyProof.Rows L2 LamX NdefX
theorem cellsFrom_app : ∀ (names : List (Str × NameKind)) (n : Nat) (acc : List (Str × Addr)), cellsFrom n names acc = cellsFrom n names [] ++ acc
  | [], _, _ => rfl
  | (x, kind) :: r, n, acc => by
    unfold cellsFrom
    split
    · rw [cellsFrom_app r (n + 1) ((x, n) :: acc), cellsFrom_app r (n + 1) [(x, n)], List.append_assoc]; rfl
    · exact cellsFrom_app r n acc
theorem cellsFrom_mem : ∀ {names : List (Str × NameKind)} {n : Nat} {x : Str} {c : Addr}, (x, c) ∈ cellsFrom n names [] → (x, NameKind.cell) ∈ names
  | [], _, _, _, h => by unfold cellsFrom at h; simp at h
  | (y, kind) :: r, n, x, c, h => by
    unfold cellsFrom at h
    split at h
    · rename_i hk
      rw [cellsFrom_app] at h
      rcases List.mem_append.mp h with h | h
      · exact List.mem_cons_of_mem _ (cellsFrom_mem h)
      · simp at h
        obtain ⟨rfl, _⟩ := h
        have : kind = .cell := by simpa using hk
        rw [this]; exact List.mem_cons_self
    · exact List.mem_cons_of_mem _ (cellsFrom_mem h)
section
variable {M : Model} {A : Around} {E : Value → Shared → Prop} {s₀ s : Shared} {m cm : Str → Option Value} {env : Env} {cs : List (Str × Addr)}
theorem stCF {n : Str} {c : Addr} {v : Value} {Q : Unit → Shared → Prop} (x : InCallC s₀ env.locals m cs cm s) (hk : env.scope.kind = .function) (hl : env.kindOf n = some .cell)
    (hc0 : cs.lookup n = some c) (hc : env.cells.lookup n = some c)
    (h : ∀ s', InCallC s₀ env.locals m cs (fun y => if y = n then some v else cm y) s' → Q () s') : wpAny M A (storeName env n v) Q E s := by
  have hLc := x.above n c (PySem.mem_of_lookup hc0)
  refine wpAny_storeName_cell hk hl hc (x.cell n c hc0) fun h' hc' hs' => h _ ⟨⟨?_, x.toInCall.ns.sameBut hs' (Nat.ne_of_lt hLc), fun b o e => ?_, x.toInCall.fresh⟩, fun k c' hk' => ?_, x.apart, x.above⟩
  · obtain ⟨h₁, tk, rfl⟩ := x.toInCall.same
    exact ⟨h', _, rfl⟩
  · exact hs'.extBut b o (Nat.ne_of_lt (Nat.lt_trans (Nat.lt_of_lt_of_le (Heap.lt_size e) x.toInCall.fresh) hLc)) (x.toInCall.keep b o e)
  · by_cases hkn : k = n
    · subst hkn
      rw [hc0] at hk'; cases hk'
      simpa using hc'
    · rw [if_neg hkn]
      exact (x.cell k c' hk').sameBut hs' fun e => hkn (name_of_addr x.apart (PySem.mem_of_lookup hk') (e ▸ PySem.mem_of_lookup hc0))
theorem stLF {n : Str} {v : Value} {Q : Unit → Shared → Prop} (x : InCallC s₀ env.locals m cs cm s) (hk : env.scope.kind = .function) (hl : env.kindOf n = some .local)
    (h : ∀ s', InCallC s₀ env.locals (fun y => if y = n then some v else m y) cs cm s' → Q () s') : wpAny M A (storeName env n v) Q E s := by
  refine wpAny_storeName_local hl x.toInCall.ns (fun h' hn' hs' => h _ ⟨⟨?_, hn', fun b o e => ?_, x.toInCall.fresh⟩, fun k c hc => ?_, x.apart, x.above⟩) (by rw [hk]; rfl)
  · obtain ⟨h₁, tk, rfl⟩ := x.toInCall.same
    exact ⟨h', _, rfl⟩
  · exact hs'.extBut b o (Nat.ne_of_lt (Nat.lt_of_lt_of_le (Heap.lt_size e) x.toInCall.fresh)) (x.toInCall.keep b o e)
  · exact (x.cell k c hc).sameBut hs' (Nat.ne_of_gt (x.above k c (PySem.mem_of_lookup hc)))
theorem bindF (f : Str × Value → PUnit → Sem (ForInStep PUnit)) (hf : ∀ n v u, f (n, v) u = (do storeName env n v; pure (.yield ⟨⟩))) (hk : env.scope.kind = .function) :
    ∀ (binds : List (Str × Value)) (m cm : Str → Option Value) (s : Shared) (Q : PUnit → Shared → Prop), InCallC s₀ env.locals m cs cm s →
      (∀ x ∈ binds, env.kindOf x.1 = some .local ∨ (env.kindOf x.1 = some .cell ∧ ∃ c, cs.lookup x.1 = some c ∧ env.cells.lookup x.1 = some c)) →
      (∀ s', InCallC s₀ env.locals (bindL env.kindOf binds m) cs (bindC env.kindOf binds cm) s' → Q ⟨⟩ s') → wpAny M A (forIn binds ⟨⟩ f) Q E s
  | [], m, cm, s, Q, x, _, h => by rw [List.forIn_nil]; exact wpAny_pure (h s x)
  | (n, v) :: r, m, cm, s, Q, x, hkind, h => by
    rw [List.forIn_cons, hf]
    have hr : ∀ y ∈ r, env.kindOf y.1 = some .local ∨ (env.kindOf y.1 = some .cell ∧ ∃ c, cs.lookup y.1 = some c ∧ env.cells.lookup y.1 = some c) := fun y hy => hkind y (List.mem_cons_of_mem _ hy)
    rcases hkind (n, v) List.mem_cons_self with hl | ⟨hl, c, hc0, hc⟩
    · refine wpAny_bind (wpAny_bind (stLF x hk hl fun s' x' => wpAny_pure (bindF f hf hk r _ _ s' Q x' hr fun s'' x'' => h s'' ?_)))
      unfold bindL bindC; rw [if_pos hl, if_pos hl]; exact x''
    · have hnl : ¬ env.kindOf n = some .local := by rw [hl]; decide
      refine wpAny_bind (wpAny_bind (stCF x hk hl hc0 hc fun s' x' => wpAny_pure (bindF f hf hk r _ _ s' Q x' hr fun s'' x'' => h s'' ?_)))
      unfold bindL bindC; rw [if_neg hnl, if_neg hnl]; exact x''
theorem lookup_app_some {α : Type} {l r : List (Str × α)} {x : Str} {c : α} (h : l.lookup x = some c) : (l ++ r).lookup x = some c := by
  rw [List.lookup_append, h]; rfl
theorem lookup_app_none {α : Type} {l r : List (Str × α)} {x : Str} (h : l.lookup x = none) : (l ++ r).lookup x = r.lookup x := by
  rw [List.lookup_append, h]; rfl
theorem newEnvF {scope : Scope} {globals : Addr} {cl : List (Str × Addr)} {binds : List (Str × Value)} {qual : Str} {func : Option Addr} {code : Value} {builtins : Addr} {Q : Env → Shared → Prop}
    (hk : scope.kind = .function)
    (hkind : ∀ x ∈ binds, scope.names.lookup x.1 = some .local ∨ scope.names.lookup x.1 = some .cell)
    (hQ : ∀ env, env = newEnv scope s.heap.objs.size globals (cellsFrom (s.heap.objs.size + 1) scope.names [] ++ cl) qual func code none builtins →
      ∀ s', InCallC s env.locals (bindL env.kindOf binds fun _ => none) (cellsFrom (s.heap.objs.size + 1) scope.names []) (bindC env.kindOf binds fun _ => none) s' → Q env s') :
    wpAny M A (newFunctionEnv scope globals cl binds qual func code none builtins) Q E s := by
  simp only [newFunctionEnv, Option.isSome_none, Bool.false_eq_true, if_false]
  refine wpAny_bind (wpAny_alloc ?_)
  refine wpAny_bind (wpAny_layCells _ (fun name kind cells => by cases hkc : kind == NameKind.cell <;> simp [hkc]) _ _ _ _ ?_)
  have ok := cellsFrom_ok scope.names (s.heap.push { cls := .type "frame", data := .dict #[] }) (s.heap.objs.size + 1) [] ⟨fun _ _ hm => (nomatch hm), List.Pairwise.nil⟩ (by rw [Heap.size_push]; exact Nat.le_refl _)
  rw [Heap.size_push] at ok
  rw [show ({ s with heap := s.heap.push { cls := .type "frame", data := .dict #[] } } : Shared).heap.objs.size = s.heap.objs.size + 1 from Heap.size_push .., cellsFrom_app]
  refine wpAny_bind (bindF (s₀ := s) (cs := cellsFrom (s.heap.objs.size + 1) scope.names []) (env := newEnv scope s.heap.objs.size globals (cellsFrom (s.heap.objs.size + 1) scope.names [] ++ cl) qual func code none builtins)
    _ (fun _ _ _ => rfl) hk binds (fun _ => none) (fun _ => none) _ _
    ⟨⟨⟨_, _, rfl⟩, (Heap.Ns.new s.heap (.type "frame")).keeps (pushCells_keeps _ _), fun b o e => pushCells_keeps _ _ b o (Heap.get?_push_of_some _ e), Nat.le_refl _⟩,
      fun n c hc => (ok.empty n c (PySem.mem_of_lookup hc)).1, ok.apart, fun n c hm => (ok.empty n c hm).2⟩
    (fun x hx => (hkind x hx).imp id fun e => ?_) fun s' x => wpAny_pure (hQ _ rfl s' x))
  obtain ⟨c, hc⟩ := cell_has (n := s.heap.objs.size + 1) e
  exact ⟨e, c, hc, lookup_app_some hc⟩
end
/-! ### names: parameters (plain or cells), captured ones, others -/
structure NScC (N ps fr : List Str) (sc : Scope) : Prop where
  kind : sc.kind = .function
  co : sc.isCoroutine = false
  gen : sc.isGenerator = false
  nd : N.Nodup
  pre : N.take (ps.length + fr.length) = ps ++ fr
  par : ∀ x ∈ ps, sc.names.lookup x = some .local ∨ sc.names.lookup x = some .cell
  free : ∀ y ∈ sc.names, y.2 = .free → y.1 ∈ fr
  frk : ∀ x ∈ fr, sc.names.lookup x = some .free
  one : ∀ y ∈ sc.names, y.2 = .cell → sc.names.lookup y.1 = some .cell
def nscCB (N ps fr : List Str) (sc : Scope) : Bool :=
  decide (sc.kind = .function) && !sc.isCoroutine && !sc.isGenerator && decide N.Nodup && decide (N.take (ps.length + fr.length) = ps ++ fr) && ps.all (fun x => decide (sc.names.lookup x = some .local) || decide (sc.names.lookup x = some .cell)) && sc.names.all (fun y => !decide (y.2 = .free) || decide (y.1 ∈ fr)) && fr.all (fun x => decide (sc.names.lookup x = some .free)) && sc.names.all (fun y => !decide (y.2 = .cell) || decide (sc.names.lookup y.1 = some .cell))
theorem nscC {N ps fr : List Str} {sc : Scope} (h : nscCB N ps fr sc = true) : NScC N ps fr sc := by
  unfold nscCB at h
  simp only [Bool.and_eq_true, Bool.not_eq_true', decide_eq_true_eq, List.all_eq_true, Bool.or_eq_true, decide_eq_false_iff_not] at h
  obtain ⟨⟨⟨⟨⟨⟨⟨⟨h1, h2⟩, h3⟩, h4⟩, h5⟩, h6⟩, h8⟩, h9⟩, h10⟩ := h
  exact ⟨h1, h2, h3, h4, h5, h6, fun y hy e => (h8 y hy).elim (fun z => absurd e z) id, h9, fun y hy e => (h10 y hy).elim (fun z => absurd e z) id⟩
abbrev envC (F : NF) (f L : Addr) : Env :=
  { scope := F.scope, locals := L, globals := mainGlobals, cells := cellsFrom (L + 1) F.scope.names [] ++ F.cl, qual := F.qual ++ ".<locals>.", func := some f, code := .ref F.c, frame := some L, builtins := builtinsNs }
def ncC (CX : CXT) (P : Program) (w : World) (K : PySem.W.Frag) (mg : Str → Option Value) (base : Heap) (N : List Str) (F : NF) (f : Addr) (A : Around) (outer : List Env) (s : Shared) (H : Hp) (E : XK) : Cx where
  prog := P
  w := w
  K := K
  mg := mg
  base := base
  A := A.deeper (envC F f s.heap.objs.size)
  N := N
  s_0 := s
  H_0 := H
  env := envC F f s.heap.objs.size
  outer := outer
  stack := envC F f s.heap.objs.size :: outer
  ex := []
  calm := true
  fn := fun _ => false
  pn := []
  xe := fun e s' => wpAny (model P w) (A.deeper (envC F f s.heap.objs.size)) (leaving (envC F f s.heap.objs.size) e) (fun _ s'' => CX outer H s E e s'') (fun e' s'' => CX outer H s E e' s'') s'
section
variable {CX : CXT} {P : Program} {w : World} {K : PySem.W.Frag} {mg : Str → Option Value} {base : Heap} {N ps fr : List Str} {F : NF} {f : Addr} {A : Around} {outer : List Env} {s : Shared} {H : Hp} {E : XK} {us : List Value} {vs : List V} {ws : List (Option V)} {k : Nat} {sp : List (Option V) → Sp}
theorem inv_startC {s1 : Shared} (S : NScC N ps fr F.scope) (hd : A.handled = none) (e0 : Env0 P w K mg base A outer s H) (hl : vs.length = ps.length) (r : Vals vs us) (C : CellsAt F.cl fr ws s.heap H)
    (x : InCallC s s.heap.objs.size (bindL (envC F f s.heap.objs.size).kindOf (ps.zip us) fun _ => none) (cellsFrom (s.heap.objs.size + 1) F.scope.names []) (bindC (envC F f s.heap.objs.size).kindOf (ps.zip us) fun _ => none) s1) :
    Inv (ncC CX P w K mg base N F f A outer s H E) [] (startF N vs ws) H s1 := by
  have hpl : ps.length + fr.length ≤ N.length := by
    have q := congrArg List.length S.pre
    rw [List.length_take, List.length_append] at q
    omega
  obtain ⟨h1, tk, rfl, kp⟩ := x.done
  have noA : ∀ b : Addr, b ∉ (ncC CX P w K mg base N F f A outer s H E).ex := fun b z => absurd (show b ∈ ([] : List Addr) from z) (by simp)
  have cellK : ∀ {c : Addr} {v : Option Value}, s.heap.IsCell c v → h1.IsCell c v := fun {c v} ⟨o, ho, hd⟩ => ⟨o, kp _ _ ho, hd⟩
  have both : ∀ {y : Str} {c : Addr}, (cellsFrom (s.heap.objs.size + 1) F.scope.names [] ++ F.cl).lookup y = some c → (cellsFrom (s.heap.objs.size + 1) F.scope.names []).lookup y = some c ∨ ((cellsFrom (s.heap.objs.size + 1) F.scope.names []).lookup y = none ∧ F.cl.lookup y = some c) := fun {y c} e => by
    cases q : (cellsFrom (s.heap.objs.size + 1) F.scope.names []).lookup y with
    | some d => rw [lookup_app_some q] at e; cases e; exact .inl rfl
    | none => rw [lookup_app_none q] at e; exact .inr ⟨rfl, e⟩
  have lo : ∀ {y : Str} {c : Addr}, F.cl.lookup y = some c → c < s.heap.objs.size := fun {y c} e => by
    obtain ⟨_, v, z⟩ := C.all y c e
    exact z.lt
  have hi : ∀ {y : Str} {c : Addr}, (cellsFrom (s.heap.objs.size + 1) F.scope.names []).lookup y = some c → s.heap.objs.size < c := fun {y c} e => x.above y c (PySem.mem_of_lookup e)
  refine ⟨⟨e0.mod, S.kind, rfl, rfl, Nat.le_refl _, fun y z c e1 e2 => ?_, fun y hy => ?_, fun y c z _ => ?_, fun _ => hd, Around.frames_deeper e0.frames, .inr ⟨rfl, rfl⟩, fun b z => absurd z (noA b), e0.bs, e0.bsz, fun b _ _ => noA b,
      fun b z => absurd z (noA b), e0.funs, e0.frf⟩,
    rfl, e0.bare, Un.kept kp, ⟨_, x.toInCall.ns, fun i y v e1 e2 e3 => ?_⟩, fun y c e => ?_, e0.hok.fresh (Nat.le_refl _), fun y c e => ?_, fun q hq => absurd (show q ∈ ([] : List (Addr × Obj)) ++ [] from hq) (by simp), e0.hok.kept kp, ?_⟩
  · rcases both e1 with a | ⟨_, a⟩ <;> rcases both e2 with b | ⟨_, b⟩
    · exact name_of_addr x.apart (PySem.mem_of_lookup a) (PySem.mem_of_lookup b)
    · exact absurd (Nat.lt_trans (lo b) (hi a)) (Nat.lt_irrefl _)
    · exact absurd (Nat.lt_trans (lo a) (hi b)) (Nat.lt_irrefl _)
    · exact C.inj y z c a b
  · have hy : F.scope.names.lookup y = some .cell ∨ F.scope.names.lookup y = some .free := hy
    rcases hy with hy | hy
    · obtain ⟨c, hc⟩ := cell_has (n := s.heap.objs.size + 1) hy
      exact ⟨c, lookup_app_some hc⟩
    · obtain ⟨i, hi⟩ := List.mem_iff_getElem?.mp (S.free _ (PySem.mem_of_lookup hy) rfl)
      obtain ⟨c, hc, _⟩ := C.has i y hi
      cases q : (cellsFrom (s.heap.objs.size + 1) F.scope.names []).lookup y with
      | some d => exact ⟨d, lookup_app_some q⟩
      | none => exact ⟨c, (lookup_app_none q).trans hc⟩
  · have z : false = true := z
    cases z
  · have e1 : N[i]? = some y := e1
    have clen := C.len
    unfold startF at e2
    by_cases h1 : i < ps.length
    · have hq : (ps ++ fr)[i]? = some y := by
        rw [← S.pre, List.getElem?_take_of_lt (by omega)]
        exact e1
      rw [List.getElem?_append_left h1] at hq
      rw [List.getElem?_append_left (by rw [List.length_map]; omega), List.getElem?_map] at e2
      have ha : vs[i]? = some v := by
        cases e : vs[i]? with
        | none => rw [e] at e2; cases e2
        | some a => rw [e] at e2; cases e2; rfl
      obtain ⟨u, hu, rv⟩ := r.get ha
      have ndP : ps.Nodup := by
        have q := S.nd.sublist (List.take_sublist (ps.length + fr.length) N)
        rw [S.pre] at q
        exact (List.nodup_append.mp q).1
      refine ⟨u, rv, ?_⟩
      rcases S.par y (List.mem_of_getElem? hq) with k | k
      · exact .inl ⟨k, bindL_get ndP hq hu k⟩
      · obtain ⟨c, e⟩ := cell_has (n := s.heap.objs.size + 1) k
        refine .inr ⟨.inl k, c, lookup_app_some e, ?_⟩
        have q := x.cell y c e
        rw [bindC_get ndP hq hu (by show F.scope.names.lookup y ≠ _; rw [k]; decide)] at q
        exact q
    · rw [List.getElem?_append_right (by rw [List.length_map]; omega), List.length_map] at e2
      by_cases h2 : i < ps.length + fr.length
      · have hq : (ps ++ fr)[i]? = some y := by
          rw [← S.pre, List.getElem?_take_of_lt (by omega)]
          exact e1
        rw [List.getElem?_append_right (by omega)] at hq
        rw [List.getElem?_append_left (by omega), hl] at e2
        obtain ⟨c, hc, hv⟩ := C.has (i - ps.length) y hq
        obtain ⟨u, ru, hu⟩ := hv v e2
        have k := S.frk y (List.mem_of_getElem? hq)
        have q : (cellsFrom (s.heap.objs.size + 1) F.scope.names []).lookup y = none := by
          cases q : (cellsFrom (s.heap.objs.size + 1) F.scope.names []).lookup y with
          | none => rfl
          | some d =>
            have z := S.one _ (cellsFrom_mem (PySem.mem_of_lookup q)) rfl
            rw [k] at z
            cases z
        exact ⟨u, ru, .inr ⟨.inr k, c, (lookup_app_none q).trans hc, cellK hu⟩⟩
      · rw [List.getElem?_append_right (by omega), List.getElem?_replicate] at e2
        split at e2 <;> cases e2
  · rcases both e with a | ⟨_, a⟩
    · exact ⟨_, x.cell y c a⟩
    · obtain ⟨v, z⟩ := (C.all y c a).2
      exact ⟨v, cellK z⟩
  · rcases both e with a | ⟨_, a⟩
    · exact e0.hok.fresh (Nat.le_of_lt (hi a))
    · exact (C.all y c a).1
  · have clen := C.len
    unfold startF
    show _ = N.length
    rw [List.length_append, List.length_append, List.length_map, List.length_replicate]
    omega
/-- a nested def by its body -/
theorem nokC (S : NScC N ps fr F.scope) (hb : ∀ (doc pm ctv : Value) (us : List Value), us.length = ps.length → bindArgs (F.fd doc pm ctv) ⟨us, []⟩ = pure (ps.zip us)) (len : ∀ ws vs H Q E, sp ws vs H Q E → vs.length = ps.length)
    (hbody : ∀ (A : Around) (outer : List Env) (s : Shared) (H : Hp) (vs : List V) (ws : List (Option V)) (Q : VK) (E : XK), Room k (A.deeper (envC F f s.heap.objs.size)) → CellsAt F.cl fr ws s.heap H → sp ws vs H Q E →
      ∃ t, PSs (ncC CX P w K mg base N F f A outer s H E) F.body t ∧ t { nx := fun _ H' => Q .non H', rt := Q } (startF N vs ws) H) :
    NOk P w K mg base CX (k + 1) f F ps fr sp := by
  refine ⟨len, fun A outer s H us vs ws Q E hr e0 hf hc C r hsp => ?_⟩
  have hl := len _ _ _ _ _ hsp
  have lim : s.heap.NoLimit := e0.mod.nolimit.keeps fun b o e => (e0.bs b o e).1
  obtain ⟨od, sl, doc, pm, ctv, ho⟩ := fnO_at e0.hok hf
  refine codeAny_call_function hr.depth ho rfl S.co S.gen rfl (codeO_at e0.hok hc) ?_
  rw [hb doc pm ctv us (by rw [← r.length]; exact hl)]
  refine wpAny_pure (newEnvF S.kind (fun ⟨n, _⟩ hy => S.par n (List.of_mem_zip hy).1) fun env he s1 x => ?_)
  subst he
  refine ⟨lim.keeps x.toInCall.keep, codeAny_func ?_⟩
  obtain ⟨t, ht, hq⟩ := hbody A outer s H vs ws Q E (hr.deeper _) C hsp
  have I : Inv (ncC CX P w K mg base N F f A outer s H E) [] (startF N vs ws) H s1 := inv_startC S hr.hd e0 hl r C x
  refine wpAny_mono (ht.run [] _ (startF N vs ws) H _ I hq) (fun fl s' hs => ?_) fun e s' hs => hs
  have fin : ∀ {σ' : L2.St} {H' : Hp} {v : V} {u : Value}, Inv (ncC CX P w K mg base N F f A outer s H E) [] σ' H' s' → L2.RelV v u → Q v H' → CE outer P w H s Q u s' :=
    fun {σ' H' v u} J rv q => ⟨v, H', J.os, J.bare, J.base, J.hok, rv, q⟩
  cases fl with
  | ret u =>
    obtain ⟨v, σ', H', J, rv, q⟩ := hs
    exact fin J rv q
  | next =>
    obtain ⟨σ', H', J, q⟩ := hs
    exact fin (v := V.non) (u := Value.none) J rfl q
  | brk =>
    obtain ⟨_, _, _, q⟩ := hs
    exact False.elim q
  | cont =>
    obtain ⟨_, _, _, q⟩ := hs
    exact False.elim q
end
end K44
end
section
set_option maxHeartbeats 4000000
/-! A call whose callee sees the running frame's cells as a part of its base; functions handed on as values; lambdas with parameters. -/
namespace K44
open PySem PySem.Spec PyProof.Rows L2 LamX NdefX
/-! ### a base with the untracked objects of now -/
theorem funFrames_base {h b b' : Heap} : ∀ {l : List Env}, h.FunFrames b l → (∀ a ∈ frs l, b'.get? a = none) → h.FunFrames b' l
  | [], _, _ => trivial
  | env :: r, ⟨h1, ⟨L, o, h2, h3, h4, h5⟩, h6⟩, n => by
    refine ⟨h1, ⟨L, o, h2, n L ?_, h4, h5⟩, funFrames_base h6 fun a ha => n a ?_⟩
    · show L ∈ List.filterMap (·.frame) (env :: r)
      rw [List.filterMap_cons, h2]; exact List.mem_cons_self
    · show a ∈ List.filterMap (·.frame) (env :: r)
      rw [List.filterMap_cons, h2]; exact List.mem_cons_of_mem _ ha
/-- base' has the frame's cells -/
structure CellsIn (X : Cx) (σ : L2.St) (base' : Heap) : Prop where
  ok : X.Ok
  old : ∀ b o, X.base.get? b = some o → base'.get? b = some o
  all : ∀ y c, X.env.cells.lookup y = some c → ∃ o v, base'.get? c = some o ∧ o.data = .cell v
  has : ∀ (j : Nat) (y : Str) (v : V), X.N[j]? = some y → σ[j]? = some (some v) → (X.env.scope.names.lookup y = some .cell ∨ X.env.scope.names.lookup y = some .free) → ∃ c o u, X.env.cells.lookup y = some c ∧ base'.get? c = some o ∧ o.data = .cell (some u) ∧ RelV v u
theorem rebase {X : Cx} {pins : List (Addr × Obj)} {σ : L2.St} {H : Hp} {s : Shared} (I : Inv X pins σ H s) (own : ∀ y c, X.env.cells.lookup y = some c → X.s_0.heap.objs.size ≤ c) :
    ∃ base', CellsIn X σ base' ∧ Env0 X.prog X.w X.K X.mg base' X.A X.stack s H := by
  have nfr : ∀ y c, X.env.cells.lookup y = some c → c ∉ frs X.stack := fun y c e z => by
    rcases List.mem_cons.mp (I.stkSub c z) with q | q
    · exact I.cne y c e q
    · obtain ⟨_, o, ho, _⟩ := I.ok.funs.mem q
      exact absurd (Nat.lt_of_lt_of_le (Heap.lt_size ho) (own y c e)) (Nat.lt_irrefl _)
  have hid : ∀ b o, s.heap.get? b = some o → H b = none → b ∉ frs X.stack → (PySem.W.hideAll s.heap (trk s.heap H ++ frs X.stack)).get? b = some o := fun b o e n nf => PySem.W.hideAll_get _ e fun hm => by
    rcases List.mem_append.mp hm with hm | hm
    · have q : (H b).isSome = true := (List.mem_filter.mp hm).2
      rw [n] at q; simp at q
    · exact nf hm
  have bfr : ∀ b o, X.base.get? b = some o → b ∉ frs X.stack := fun b o e z => by
    have q := (I.stack.mem z).1
    rw [q] at e; cases e
  have old : ∀ b o, X.base.get? b = some o → (PySem.W.hideAll s.heap (trk s.heap H ++ frs X.stack)).get? b = some o := fun b o e => hid b o (I.bs b o e).1 (I.bs b o e).2 (bfr b o e)
  refine ⟨PySem.W.hideAll s.heap (trk s.heap H ++ frs X.stack), ⟨I.ok, old, fun y c e => ?_, fun j y v e1 e2 k => ?_⟩, ⟨I.ok.frames, ?_, fun b o e => ?_, Nat.le_of_eq (PySem.W.hideAll_size _ _), ?_, I.stkFree, I.hok, I.bare⟩⟩
  · obtain ⟨v, o, ho, hd⟩ := I.cell y c e
    exact ⟨o, v, hid c o ho (I.freeC y c e) (nfr y c e), hd⟩
  · obtain ⟨m, hn, hl⟩ := I.loc
    obtain ⟨u, r, l⟩ := hl j y v e1 e2 (k.elim (fun z => .inr (.inl z)) fun z => .inr (.inr z))
    rcases l with ⟨z, _⟩ | ⟨_, c, hc, o, ho, hd⟩
    · have z' : X.env.scope.names.lookup y = some .local := z
      rcases k with k | k <;> rw [k] at z' <;> cases z'
    · exact ⟨c, o, u, hc, hid c o ho (I.freeC y c hc) (nfr y c hc), hd, r⟩
  · obtain ⟨mb, h1, h2⟩ := I.mod.blt
    exact ⟨I.mod.kin.keeps old, I.mod.glob.keeps old, ⟨mb, h1.keeps old, h2⟩, I.mod.nolimit.keeps old⟩
  · have e' := PySem.W.of_hideAll _ e
    refine ⟨e', ?_⟩
    cases q : H b with
    | none => rfl
    | some x =>
      have hm : b ∈ trk s.heap H ++ frs X.stack := List.mem_append_left _ (List.mem_filter.mpr ⟨List.mem_range.mpr (Heap.lt_size e'), by simp [q]⟩)
      have z := PySem.W.hideAll_none (h := s.heap) _ hm
      rw [z] at e; cases e
  · exact funFrames_base I.stack fun a ha => PySem.W.hideAll_none (h := s.heap) _ (List.mem_append_right _ ha)
section
variable {X : Cx} {x : Str} {ps : List Str} {j k : Nat} {sp : Heap → Sp} {e : Expr} {es : List Expr} {t : TA} {p pos : Pos}
/-- a call; what it wants may lean on the running frame's cells -/
def tReb (X : Cx) (sp : Heap → Sp) (t : TA) : TE := fun σ H Q => t σ H fun vs H1 => ∀ base', CellsIn X σ base' → sp base' vs H1 Q E0
theorem pc_reb (C : ∀ base', Cal X.prog X.w X.K X.mg base' j x ps (sp base')) (hfn : ∀ y, X.fn y = true) (hr : Room k X.A) (ha : PA X (e :: es) t) (hj : j ≤ k := by decide) (hg : Gl X x := by rfl)
    (hdb : (x == ("__debug__" : Str)) = false := by decide) (he : starEach (e :: es) X.env = (false, eval e X.env) :: starEach es X.env := by rfl) (hpl : (backTo pos (starEach es X.env)).any (·.1) = false := by rfl) :
    PE X (.Call (.Name x p) (e :: es) [] pos) (tReb X sp t) := by
  refine ⟨fun pins s σ H Q I h => ?_⟩
  have C0 := C X.base
  refine wpAny_Call_Name_kw (ld_glob I hg C0.g ?_ hdb)
  refine PySem.W.callWith_K (h₀ := X.base) I.ok.mod.kin C0.kp (thn (ha.run pos pins s σ H _ I h) fun us s1 ⟨vs, H1, I1, r, q⟩ => ⟨I1.kIn, ?_⟩) he hpl
  show wpAny _ _ (call (.ref (He.ga X.K x)) us) _ _ _
  obtain ⟨base', c, e0⟩ := rebase I1 fun y c e => I1.ok.cab y c (hfn y) e
  have q' := q base' c
  have hl : (us ++ []).length = ps.length := by rw [List.append_nil, ← r.length]; exact (C base').fn.len _ _ _ _ q'
  have rc := (C base').fn.run X.A X.stack s1 H1 ⟨us, []⟩ us vs Q E0 (hr.mono hj) e0 (by have := (C base').b s1 us I1.kIn hl; rw [List.append_nil] at this; exact this) r q'
  refine wpAny_call (codeAny_mono rc fun r s' hq => ?_)
  cases r with
  | error e => exact hq.elim
  | ok fl =>
    cases fl with
    | ret u => exact I1.after hq
    | next => exact False.elim hq
    | brk => exact False.elim hq
    | cont => exact False.elim hq
end
/-! ### a function as a value -/
structure FnAs (P : Program) (w : World) (K : PySem.W.Frag) (mg : Str → Option Value) (base : Heap) (k : Nat) (f : Addr) (G : Hp → Prop) (sp : Sp) : Prop where
  at_ : ∀ (s : Shared) (H : Hp), HOk P w H s.heap → G H → PySem.W.FnAt f s.heap
  run : ∀ (A : Around) (outer : List Env) (s : Shared) (H : Hp) (us : List Value) (vs : List V) (Q : VK), Room k A → Env0 P w K mg base A outer s H → G H → Vals vs us → sp vs H Q E0 →
    codeAny (model P w) A (.call (.ref f) ⟨us, []⟩) (CR CX0 outer P w H s Q E0) s
theorem FnAs.imp {P : Program} {w : World} {K : PySem.W.Frag} {mg : Str → Option Value} {base : Heap} {j k : Nat} {f : Addr} {G G' : Hp → Prop} {sp sp' : Sp} (o : FnAs P w K mg base j f G sp) (hj : j ≤ k) (hG : ∀ H, G' H → G H) (h : ∀ vs H Q, G' H → sp' vs H Q E0 → sp vs H Q E0) : FnAs P w K mg base k f G' sp' :=
  ⟨fun s H ok g => o.at_ s H ok (hG H g), fun A outer s H us vs Q hr e0 g r q => o.run A outer s H us vs Q (hr.mono hj) e0 (hG H g) r (h vs H Q g q)⟩
/-- the cells that a function captured stand in base' -/
structure BaseCells (base' : Heap) (cl : List (Str × Addr)) (fr : List Str) (ws : List (Option V)) : Prop where
  len : ws.length = fr.length
  all : ∀ y c, cl.lookup y = some c → ∃ o v, base'.get? c = some o ∧ o.data = .cell v
  inj : ∀ x y c, cl.lookup x = some c → cl.lookup y = some c → x = y
  has : ∀ (i : Nat) (y : Str), fr[i]? = some y → ∃ c, cl.lookup y = some c ∧ ∀ v, ws[i]? = some (some v) → ∃ o u, base'.get? c = some o ∧ o.data = .cell (some u) ∧ RelV v u
theorem BaseCells.at {base' : Heap} {cl : List (Str × Addr)} {fr : List Str} {ws : List (Option V)} {h : Heap} {H : Hp} (C : BaseCells base' cl fr ws) (bs : ∀ b o, base'.get? b = some o → h.get? b = some o ∧ H b = none) : CellsAt cl fr ws h H := by
  refine ⟨C.len, fun y c e => ?_, C.inj, fun i y e => ?_⟩
  · obtain ⟨o, v, h1, h2⟩ := C.all y c e
    exact ⟨(bs c o h1).2, v, o, (bs c o h1).1, h2⟩
  · obtain ⟨c, hc, hv⟩ := C.has i y e
    refine ⟨c, hc, fun v ev => ?_⟩
    obtain ⟨o, u, h1, h2, h3⟩ := hv v ev
    exact ⟨u, h3, o, (bs c o h1).1, h2⟩
theorem CellsIn.caps {X : Cx} {σ : L2.St} {base' : Heap} (C : CellsIn X σ base') {cl : List (Str × Addr)} {fr : List Str} {js : List Nat} (c : Caps X cl fr js): BaseCells base' cl fr (js.map (slotAt σ)) := by
  have hinj := C.ok.inj
  have hhas : ∀ x, (X.env.scope.names.lookup x = some .cell ∨ X.env.scope.names.lookup x = some .free) → ∃ c, X.env.cells.lookup x = some c := C.ok.has
  have hlen : js.length = fr.length := by
    have q := congrArg List.length c.at_
    rw [List.length_map, List.length_map] at q
    exact q
  refine ⟨by rw [List.length_map]; exact hlen, fun y a e => C.all y a (c.sub y a e), fun x y a e1 e2 => hinj x y a (c.sub x a e1) (c.sub y a e2), fun i y e => ?_⟩
  have e2 : (js.map fun j => X.N[j]?)[i]? = some (some y) := by
    rw [c.at_, List.getElem?_map, e] <;> rfl
  rw [List.getElem?_map] at e2
  cases ej : js[i]? with
  | none =>
    rw [ej] at e2
    cases e2
  | some j =>
    rw [ej] at e2
    have hj : X.N[j]? = some y := Option.some.inj (show some (X.N[j]?) = some (some y) from e2)
    have k := c.kin y (List.mem_of_getElem? e)
    obtain ⟨a, ha⟩ := hhas y k
    refine ⟨a, c.sup y (List.mem_of_getElem? e) a ha, fun v ev => ?_⟩
    rw [List.getElem?_map, ej] at ev
    have ev2 : σ[j]? = some (some v) := slotAt_some (Option.some.inj (show some (slotAt σ j) = some (some v) from ev))
    obtain ⟨a', o, u, h1, h2, h3, h4⟩ := C.has j y v hj ev2 k
    rw [ha] at h1
    cases h1
    exact ⟨o, u, h2, h3, h4⟩
theorem fnAs_nok {P : Program} {w : World} {K : PySem.W.Frag} {mg : Str → Option Value} {base : Heap} {k : Nat} {f : Addr} {F : NF} {ps fr : List Str} {sp : List (Option V) → Sp} {ws : List (Option V)} (Fn : NOk P w K mg base CX0 k f F ps fr sp) (C : BaseCells base F.cl fr ws) :
    FnAs P w K mg base k f (fun H => H f = some (FnO f F) ∧ H F.c = some (CodeO F.c F.qual)) (sp ws) :=
  ⟨fun s H ok g => by
    obtain ⟨od, sl, doc, pm, ctv, ho⟩ := fnO_at ok g.1
    exact ⟨_, od, _, sl, ho⟩, fun A outer s H us vs Q hr e0 g r q => Fn.run A outer s H us vs ws Q E0 hr e0 g.1 g.2 (C.at e0.bs) r q⟩
section
variable {X : Cx} {x : Str} {i j k : Nat} {f : Addr} {G : Hp → Prop} {sp : Sp} {e : Expr} {es : List Expr} {t : TA} {p pos : Pos}
def tFnAs (f : Addr) (G : Hp → Prop) (sp : Sp) (i : Nat) (t : TA) : TE := fun σ H Q => σ[i]? = some (some (.ref f)) ∧ G H ∧ t σ H fun vs H1 => G H1 ∧ sp vs H1 Q E0
theorem pe_fnAs (o : FnAs X.prog X.w X.K X.mg X.base j f G sp) (hr : Room k X.A) (ha : PA X (e :: es) t) (hN : X.N[i]? = some x) (hv : Vis X.env.scope x) (hj : j ≤ k := by decide)
    (hd : (x == ("__debug__" : Str)) = false := by decide) (hcd : (x == ("__classdict__" : Str)) = false := by decide)
    (he : starEach (e :: es) X.env = (false, eval e X.env) :: starEach es X.env := by rfl) (hpl : (backTo pos (starEach es X.env)).any (·.1) = false := by rfl) :
    PE X (.Call (.Name x p) (e :: es) [] pos) (tFnAs f G sp i t) := by
  refine ⟨fun pins s σ H Q I h => ?_⟩
  obtain ⟨hs, g, ht⟩ := h
  refine wpAny_Call_Name_kw (thn ((pe_var (pos := p) hN hv hd hcd).run pins s σ H (fun v H1 => v = .ref f ∧ H1 = H) I ⟨.ref f, hs, rfl, rfl⟩) fun u s1 ⟨v, H1, I1, r1, q1⟩ => ?_)
  obtain ⟨ev, eH⟩ := q1
  subst ev
  rw [eH] at I1
  obtain rfl : u = Value.ref f := r1
  refine PySem.W.callWith_F (first := []) (o.at_ _ _ I1.hok g) (thn (ha.run pos pins s1 σ H _ I1 ht) fun us s2 ⟨vs, H2, I2, r, g2, q⟩ => ⟨o.at_ _ _ I2.hok g2, ?_⟩) he hpl
  show wpAny _ _ (call (.ref f) us) _ _ _
  refine wpAny_call (codeAny_mono (o.run X.A X.stack s2 H2 us vs Q (hr.mono hj) I2.env0 g2 r q) fun r s' hq => ?_)
  cases r with
  | error e => exact hq.elim
  | ok fl =>
    cases fl with
    | ret u => exact I2.after hq
    | next => exact False.elim hq
    | brk => exact False.elim hq
    | cont => exact False.elim hq
end
end K44
end
section
set_option maxHeartbeats 4000000
/-! Lambdas with parameters, as values. -/
namespace K44
open PySem PySem.Spec PyProof.Rows L2 LamX NdefX
structure LF where
  qual : Str
  params : Arguments
  body : Expr
  scope : Scope
  cl : List (Str × Addr)
  c : Addr
def LmO (f : Addr) (F : LF) : HO := .ext fun h => ∃ (pm ctv : Value), h.get? f = some (PySem.W.kla_obj "<lambda>" F.qual F.params F.body F.scope F.cl pm F.c ctv)
section
variable {X : Cx} {pins : List (Addr × Obj)} {σ : L2.St} {H : Hp} {s : Shared}
theorem inv_lam {F : LF} {o : Obj} {t' : Nat} {pm ctv : Value} (I : Inv X pins σ H s) (ho : o = PySem.W.kla_obj "<lambda>" F.qual F.params F.body F.scope F.cl pm F.c ctv) :
    Inv X pins σ (upd H s.heap.objs.size (LmO s.heap.objs.size F)) { s with heap := s.heap.push o, toks := t' } := by
  subst ho
  refine I.laid (a := s.heap.objs.size) (fun b u e => Heap.get?_push_of_some _ e) (Nat.le_refl _) ?_
  have e := Heap.get?_push_size s.heap (o := PySem.W.kla_obj "<lambda>" F.qual F.params F.body F.scope F.cl pm F.c ctv) rfl
  exact ⟨⟨pm, ctv, e⟩, ⟨_, e⟩, fun h1 h2 ⟨p, t, z⟩ st => ⟨p, t, st _ z⟩⟩
theorem lamN_make {T : List NTab} {nm : Nat → Nat → Str} {c P : Addr} {params : Arguments} {body : Expr} {scope : Scope} {pos : Pos} {E : Value → Shared → Prop} {Q : Value → Shared → Prop} (I : Inv X pins σ H s) (TB : TabB X.base X.mg c P) (hcode : X.env.code = .ref c)
    (hm : (P, nm) ∈ T) (hn : nm pos.line pos.col = X.env.qual ++ "<lambda>") (hu : ∀ p ∈ T, p.1 = P → p.2 = nm) (hT : TabsN T H) (hdef : defaultsOf params X.env = ([], [])) (hfree : ∀ y ∈ scope.names, y.2 = .free → ∃ c, X.env.cells.lookup y.1 = some c)
    (h : ∀ (f c' : Addr) (H1 : Hp) (s' : Shared), Inv X pins σ H1 s' → ExtN H H1 → (∀ b, H1 b = Option.none → H b = Option.none) → TabsN T H1 → H f = none → H1 f = some (LmO f ⟨X.env.qual ++ "<lambda>", params, body, scope, cloFrom X.env.cells scope.names [], c'⟩) → H1 c' = some (CodeO c' (X.env.qual ++ "<lambda>")) → Q (.ref f) s') :
    wpAny (model X.prog X.w) X.A (eval (.Lambda params body scope pos) X.env) Q E s := by
  obtain ⟨ps, hP, ht, ha⟩ := (show TabN H P nm from hT _ hm)
  refine PySem.W.kla_eval hdef ?_
  have bP : s.heap.BuiltinsAt X.mg P := TB.bm.keeps I.bk
  have hP' : s.heap.get? P = some { cls := .none, data := .fields ps } := I.hok P _ hP
  cases hc : codeAmong pos ps.toList with
  | none =>
    refine PySem.W.kla_makeFunction (mg := X.mg) (c := c) (P := P) (ps := ps) (closure_ok hfree) I.ok.glob (I.mod.glob.keeps I.bk) hcode (TB.code.keeps I.bk) hP' ht hc TB.gP bP fun c' ctv h' tk hx hge hlt hrec htb => ?_
    obtain ⟨c2, oc, vs, t, e2, hoc, hd, hv⟩ := hrec
    cases e2
    have nC : H c' = none := I.hok.fresh hge
    have I1 := inv_table (t' := tk) (more := #[rawInt pos.line, rawInt pos.col, .ref c']) (h' := h') I hP (fun b o hb e => hx b o hb e) htb hge ⟨oc, vs, t, hoc, hd, hv⟩
    have hE : ExtN H (upd (upd H P (.tbl (ps ++ #[rawInt pos.line, rawInt pos.col, .ref c']))) c' (CodeO c' (X.env.qual ++ "<lambda>"))) := fun b o e n => by
      rw [upd_ne (ne_of_none e nC), upd_ne (fun z => n ps (Option.some.inj (e.symm.trans (by rw [z]; exact hP))))]
      exact e
    have eL : (ps ++ #[rawInt pos.line, rawInt pos.col, .ref c']).toList = ps.toList ++ [rawInt pos.line, rawInt pos.col, .ref c'] := by simp
    have T1 : TabsN T (upd (upd H P (.tbl (ps ++ #[rawInt pos.line, rawInt pos.col, .ref c']))) c' (CodeO c' (X.env.qual ++ "<lambda>"))) := fun p hp => by
      by_cases hb : p.1 = P
      · rw [hu p hp hb, hb]
        refine ⟨_, by rw [upd_ne (ne_of_none hP nC), upd_same], by rw [eL]; exact PySem.TriplesOk_snoc _ _ _ _ ht, fun p' cv hcv => ?_⟩
        rw [eL] at hcv
        rcases among_app2 _ ht hcv with z | ⟨z, z1, z2⟩
        · obtain ⟨c0, e1, e2⟩ := ha p' cv z
          exact ⟨c0, e1, hE _ _ e2 codeO_ne⟩
        · refine ⟨c', z, ?_⟩
          rw [← z1, ← z2, hn]
          exact upd_same
      · obtain ⟨ps', a1, a2, a3⟩ := hT p hp
        refine ⟨ps', by rw [upd_ne (ne_of_none a1 nC), upd_ne hb]; exact a1, a2, fun p' cv hcv => ?_⟩
        obtain ⟨c0, e1, e2⟩ := a3 p' cv hcv
        exact ⟨c0, e1, hE _ _ e2 codeO_ne⟩
    have nF := I1.hok.fresh (Nat.le_refl _)
    have I2 := inv_lam (F := ⟨X.env.qual ++ "<lambda>", params, body, scope, cloFrom X.env.cells scope.names [], c'⟩) (t' := tk) (pm := (X.mg "__name__").getD .none) (ctv := ctv) I1 rfl
    refine h h'.objs.size c' _ _ I2 (fun b o e n => ?_) (fun b e => upd_none (upd_none (upd_none e))) (T1.ext fun b o e => ?_) (I.hok.fresh (Nat.le_trans hge (Nat.le_of_lt hlt))) upd_same ?_
    · have e1 := hE b o e n
      exact (upd_ne (ne_of_none e1 nF)).trans e1
    · exact (upd_ne (ne_of_none e nF)).trans e
    · exact (upd_ne (Nat.ne_of_lt hlt)).trans upd_same
  | some cv =>
    obtain ⟨c', e, hco⟩ := ha pos cv hc
    subst e
    rw [hn] at hco
    refine PySem.W.kla_makeFunctionHit (mg := X.mg) (c := c) (P := P) (ps := ps) (closure_ok hfree) I.ok.glob (I.mod.glob.keeps I.bk) hcode (TB.code.keeps I.bk) hP' ht hc bP fun ctv h' tk hx hsz => ?_
    have I1 : Inv X pins σ H { s with heap := h', toks := tk } := I.kept hx
    have nF : H h'.objs.size = none := I1.hok.fresh (Nat.le_refl _)
    have I2 := inv_lam (F := ⟨X.env.qual ++ "<lambda>", params, body, scope, cloFrom X.env.cells scope.names [], c'⟩) (t' := tk) (pm := (X.mg "__name__").getD .none) (ctv := ctv) I1 rfl
    refine h h'.objs.size c' _ _ I2 (fun b o e n => ?_) (fun b e => upd_none e) (hT.ext fun b o e => ?_) nF upd_same ?_
    · exact (upd_ne (ne_of_none e nF)).trans e
    · exact (upd_ne (ne_of_none e nF)).trans e
    · exact (upd_ne (ne_of_none hco nF)).trans hco
end
/-- lambda ps: body -/
def tLamE (T : List NTab) (mk : Addr → LF) : TE := fun σ H Q => TabsN T H ∧ ∀ (f c' : Addr) (H1 : Hp), ExtN H H1 → TabsN T H1 → H f = none → H1 f = some (LmO f (mk c')) → H1 c' = some (CodeO c' (mk c').qual) → Q (.ref f) H1
theorem pe_lamE {X : Cx} {T : List NTab} {nm : Nat → Nat → Str} {c P : Addr} {params : Arguments} {body : Expr} {scope : Scope} {pos : Pos} (TB : TabB X.base X.mg c P) (hcode : X.env.code = .ref c) (hm : (P, nm) ∈ T) (hn : nm pos.line pos.col = X.env.qual ++ "<lambda>") (hu : ∀ p ∈ T, p.1 = P → p.2 = nm)
    (hdef : defaultsOf params X.env = ([], [])) (hfree : ∀ y ∈ scope.names, y.2 ≠ .free) : PE X (.Lambda params body scope pos) (tLamE T fun c' => ⟨X.env.qual ++ "<lambda>", params, body, scope, cloFrom X.env.cells scope.names [], c'⟩) :=
  ⟨fun pins s σ H Q I h => lamN_make I TB hcode hm hn hu h.1 hdef (fun y hy e => absurd e (hfree y hy)) fun f c' H1 s' I1 eN _ T1 f0 f1 c1 => ⟨.ref f, H1, I1, rfl, h.2 f c' H1 eN T1 f0 f1 c1⟩⟩
/-! ### its body -/
abbrev envL (F : LF) (f L : Addr) : Env :=
  { scope := F.scope, locals := L, globals := mainGlobals, cells := cellsFrom (L + 1) F.scope.names [] ++ F.cl, qual := F.qual ++ ".<locals>.", func := some f, code := .ref F.c, frame := some L, builtins := builtinsNs }
/-- a lambda as a def -/
abbrev LF.nf (F : LF) : NF := ⟨"<lambda>", F.qual, F.params, [], F.scope, F.cl, F.c⟩
theorem lam_as {P : Program} {w : World} {K : PySem.W.Frag} {mg : Str → Option Value} {base : Heap} {N ps : List Str} {F : LF} {f : Addr} {k : Nat} {sp : Sp} (S : NScC N ps [] F.scope) (hcl : F.cl = []) (hb : ∀ (pm ctv : Value) (us : List Value), us.length = ps.length → bindArgs (PySem.W.kla_fn "<lambda>" F.qual F.params F.body F.scope F.cl pm (.ref F.c) ctv) ⟨us, []⟩ = pure (ps.zip us)) (len : ∀ vs H Q, sp vs H Q E0 → vs.length = ps.length)
    (hbody : ∀ (A : Around) (outer : List Env) (s : Shared) (H : Hp) (vs : List V) (Q : VK), Room k (A.deeper (envC F.nf f s.heap.objs.size)) → sp vs H Q E0 →
      ∃ t, PE (ncC CX0 P w K mg base N F.nf f A outer s H E0) F.body t ∧ t (startF N vs []) H Q) :
    FnAs P w K mg base (k + 1) f (fun H => H f = some (LmO f F) ∧ H F.c = some (CodeO F.c F.qual)) sp := by
  have at_ : ∀ (s : Shared) (H : Hp), HOk P w H s.heap → H f = some (LmO f F) → ∃ (pm ctv : Value), s.heap.get? f = some (PySem.W.kla_obj "<lambda>" F.qual F.params F.body F.scope F.cl pm F.c ctv) := fun s H ok g => (ok f _ g).1
  refine ⟨fun s H ok g => ?_, fun A outer s H us vs Q hr e0 g r hsp => ?_⟩
  · obtain ⟨pm, ctv, ho⟩ := at_ s H ok g.1
    exact ⟨_, _, _, _, ho⟩
  obtain ⟨pm, ctv, ho⟩ := at_ s H e0.hok g.1
  have hl := len _ _ _ hsp
  have lim : s.heap.NoLimit := e0.mod.nolimit.keeps fun b o e => (e0.bs b o e).1
  refine PySem.W.kla_callFunE hr.depth ho rfl S.co S.gen rfl (codeO_at e0.hok g.2) ?_
  rw [hb pm ctv us (by rw [← r.length]; exact hl)]
  refine wpAny_pure (newEnvF S.kind (fun ⟨n, _⟩ hy => S.par n (List.of_mem_zip hy).1) fun env he s1 x => ?_)
  subst he
  refine ⟨lim.keeps x.toInCall.keep, ?_⟩
  obtain ⟨t, ht, hq⟩ := hbody A outer s H vs Q (hr.deeper _) hsp
  have C : CellsAt F.nf.cl [] [] s.heap H := by
    show CellsAt F.cl [] [] s.heap H
    rw [hcl]
    exact ⟨rfl, fun y c e => by simp at e, fun x y c e => by simp at e, fun i y e => by simp at e⟩
  have I : Inv (ncC CX0 P w K mg base N F.nf f A outer s H E0) [] (startF N vs []) H s1 := inv_startC S hr.hd e0 hl r C x
  refine PySem.W.kla_codeExpr (wpAny_mono (ht.run [] _ (startF N vs []) H _ I hq) (fun u s' hs => ?_) fun e s' hs => hs)
  obtain ⟨v, H', J, rv, q⟩ := hs
  exact ⟨v, H', J.os, J.bare, J.base, J.hok, rv, q⟩
end K44
end
section
set_option maxHeartbeats 4000000
/-! Machines as plain data. -/
namespace K44
abbrev MRows := List (List Nat)
def nx (st : MRows) (q c : Nat) : Nat := (st.getD q []).getD c 0
def runS (st : MRows) (q : Nat) (w : List Nat) : Nat := w.foldl (nx st) q
structure Mach where
  L : Nat
  st : MRows
  en : List Nat
def Mach.acc (m : Mach) (w : List Nat) : Bool := decide (runS m.st 0 w ∈ m.en)
structure WF (L : Nat) (st : MRows) (en : List Nat) : Prop where
  pos : 0 < st.length
  row : ∀ r ∈ st, r.length = L
  lt : ∀ r ∈ st, ∀ c ∈ r, c < st.length
  en : ∀ e ∈ en, e < st.length
/-- a word of so many letters -/
def Wd (L : Nat) (w : List Nat) : Prop := ∀ c ∈ w, c < L
theorem Wd.nil {L : Nat} : Wd L [] := fun _ h => by simp at h
theorem Wd.tail {L c : Nat} {w : List Nat} (h : Wd L (c :: w)) : Wd L w := fun d hd => h d (List.mem_cons_of_mem _ hd)
theorem Wd.head {L c : Nat} {w : List Nat} (h : Wd L (c :: w)) : c < L := h c List.mem_cons_self
theorem Wd.app {L : Nat} {u v : List Nat} (h : Wd L u) (k : Wd L v) : Wd L (u ++ v) := fun c hc => (List.mem_append.mp hc).elim (h c) (k c)
theorem Wd.left {L : Nat} {u v : List Nat} (h : Wd L (u ++ v)) : Wd L u := fun c hc => h c (List.mem_append_left _ hc)
theorem Wd.right {L : Nat} {u v : List Nat} (h : Wd L (u ++ v)) : Wd L v := fun c hc => h c (List.mem_append_right _ hc)
section
variable {L : Nat} {st : MRows} {en : List Nat}
theorem WF.get (h : WF L st en) {q c : Nat} (hq : q < st.length) (hc : c < L) : ∃ r, st[q]? = some r ∧ r[c]? = some (nx st q c) := by
  have h1 : st[q]? = some st[q] := List.getElem?_eq_getElem hq
  have h2 : st[q].length = L := h.row _ (List.getElem_mem hq)
  refine ⟨st[q], h1, ?_⟩
  have h3 : st[q][c]? = some (st[q][c]'(by omega)) := List.getElem?_eq_getElem (by omega)
  rw [h3]
  unfold nx
  simp [List.getD, h1, h3]
theorem WF.nx_lt (h : WF L st en) {q c : Nat} (hq : q < st.length) (hc : c < L) : nx st q c < st.length := by
  obtain ⟨r, h1, h2⟩ := h.get hq hc
  exact h.lt r (List.mem_of_getElem? h1) _ (List.mem_of_getElem? h2)
theorem WF.run_lt (h : WF L st en) : ∀ {w : List Nat} {q : Nat}, q < st.length → Wd L w → runS st q w < st.length
  | [], _, hq, _ => hq
  | c :: w, q, hq, hw => h.run_lt (w := w) (h.nx_lt hq hw.head) hw.tail
end
theorem runS_app {st : MRows} {q : Nat} {u v : List Nat} : runS st q (u ++ v) = runS st (runS st q u) v := List.foldl_append ..
end K44
end
section
set_option maxHeartbeats 4000000
/-! The least form, in plain Lean. -/
namespace K44
/-! ### lists without repetition -/
theorem nodup_len : ∀ {l m : List Nat}, l.Nodup → (∀ x ∈ l, x ∈ m) → l.length ≤ m.length
  | [], m, _, _ => Nat.zero_le _
  | x :: l, m, nd, h => by
    have h1 := List.nodup_cons.mp nd
    have hx : x ∈ m := h x List.mem_cons_self
    have := nodup_len (l := l) (m := m.erase x) h1.2 fun y hy => (List.mem_erase_of_ne (fun e : y = x => h1.1 (by rw [← e]; exact hy))).mpr (h y (List.mem_cons_of_mem _ hy))
    rw [List.length_erase_of_mem hx] at this
    have : 0 < m.length := List.length_pos_of_mem hx
    rw [List.length_cons]; omega
/-- a map from a list onto a list as long, without repetition: it tells the members apart -/
theorem onto_inj {α : Type} [DecidableEq α] {ks : List α} {vs : List Nat} (f : α → Nat) (nd : vs.Nodup) (hl : ks.length ≤ vs.length) (on : ∀ v ∈ vs, ∃ k ∈ ks, f k = v) : ∀ k ∈ ks, ∀ k' ∈ ks, f k = f k' → k = k' := by
  intro k hk k' hk' e
  refine Decidable.byContradiction fun ne => ?_
  have := nodup_len (l := vs) (m := (ks.erase k).map f) nd fun v hv => by
    obtain ⟨a, ha, hf⟩ := on v hv
    by_cases h : a = k
    · refine List.mem_map.mpr ⟨k', (List.mem_erase_of_ne (Ne.symm ne)).mpr hk', ?_⟩
      rw [← e, ← h]; exact hf
    · exact List.mem_map.mpr ⟨a, (List.mem_erase_of_ne h).mpr ha, hf⟩
  rw [List.length_map, List.length_erase_of_mem hk] at this
  have : 0 < ks.length := List.length_pos_of_mem hk
  omega
/-! ### a list that grows by what is new -/
def add1 (f : List Nat) (s : Nat) : List Nat := if s ∈ f then f else f ++ [s]
def addAll (f row : List Nat) : List Nat := row.foldl add1 f
theorem mem_add1 {f : List Nat} {s x : Nat} : x ∈ add1 f s ↔ x ∈ f ∨ x = s := by
  unfold add1
  split
  · rename_i h
    exact ⟨.inl, fun z => z.elim id fun e => e ▸ h⟩
  · rw [List.mem_append, List.mem_singleton]
theorem nodup_add1 {f : List Nat} {s : Nat} (h : f.Nodup) : (add1 f s).Nodup := by
  unfold add1
  split
  · exact h
  · rename_i hs
    refine List.nodup_append.mpr ⟨h, List.nodup_cons.mpr ⟨by simp, List.nodup_nil⟩, fun a ha b hb e => ?_⟩
    rw [List.mem_singleton] at hb
    exact hs (hb ▸ e ▸ ha)
theorem get_add1 {f : List Nat} {s i x : Nat} (h : f[i]? = some x) : (add1 f s)[i]? = some x := by
  unfold add1
  split
  · exact h
  · rw [List.getElem?_append_left (List.getElem?_eq_some_iff.mp h).1]; exact h
theorem addAll_snoc {f row : List Nat} {s : Nat} : addAll f (row ++ [s]) = add1 (addAll f row) s := by
  unfold addAll
  rw [List.foldl_append]; rfl
theorem mem_addAll : ∀ {row f : List Nat} {x : Nat}, x ∈ addAll f row ↔ x ∈ f ∨ x ∈ row
  | [], f, x => by simp [addAll]
  | s :: row, f, x => by
    have := mem_addAll (row := row) (f := add1 f s) (x := x)
    show x ∈ addAll (add1 f s) row ↔ _
    rw [this, mem_add1, List.mem_cons, or_assoc]
theorem nodup_addAll : ∀ {row f : List Nat}, f.Nodup → (addAll f row).Nodup
  | [], _, h => h
  | s :: row, f, h => nodup_addAll (row := row) (nodup_add1 h)
theorem get_addAll : ∀ {row f : List Nat} {i x : Nat}, f[i]? = some x → (addAll f row)[i]? = some x
  | [], _, _, _, h => h
  | s :: row, f, i, x, h => get_addAll (row := row) (get_add1 h)
/-! ### a walk by breadth -/
structure Bfs (suc : Nat → List Nat) (R : Nat → Prop) (z : Nat) (found : List Nat) (at_ : Nat) : Prop where
  nd : found.Nodup
  hd : found[0]? = some z
  rch : ∀ v ∈ found, R v
  cl : ∀ i v, i < at_ → found[i]? = some v → ∀ x ∈ suc v, x ∈ found
  le : at_ ≤ found.length
theorem Bfs.init {suc : Nat → List Nat} {R : Nat → Prop} {z : Nat} (h : R z) : Bfs suc R z [z] 0 :=
  ⟨List.nodup_cons.mpr ⟨by simp, List.nodup_nil⟩, rfl, fun v hv => by rw [List.mem_singleton] at hv; exact hv ▸ h, fun i v hi => absurd hi (Nat.not_lt_zero _), Nat.zero_le _⟩
theorem Bfs.step {suc : Nat → List Nat} {R : Nat → Prop} {z : Nat} {found : List Nat} {at_ v : Nat} (b : Bfs suc R z found at_) (hR : ∀ x ∈ suc v, R x) (hv : found[at_]? = some v) : Bfs suc R z (addAll found (suc v)) (at_ + 1) := by
  have hl : at_ < found.length := (List.getElem?_eq_some_iff.mp hv).1
  refine ⟨nodup_addAll b.nd, get_addAll b.hd, fun x hx => (mem_addAll.mp hx).elim (b.rch x) (hR x), fun i u hi hu x hx => ?_, ?_⟩
  · have hif : i < found.length := by omega
    have e : found[i]? = some found[i] := List.getElem?_eq_getElem hif
    have e2 := get_addAll (row := suc v) e
    rw [hu] at e2
    cases e2
    by_cases h : i = at_
    · subst h
      rw [hv] at e
      cases e
      exact mem_addAll.mpr (.inr hx)
    · exact mem_addAll.mpr (.inl (b.cl i _ (by omega) e x hx))
  · have e : found[at_]? = some found[at_] := List.getElem?_eq_getElem hl
    have := (List.getElem?_eq_some_iff.mp (get_addAll (row := suc v) e)).1
    omega
theorem Bfs.closed {suc : Nat → List Nat} {R : Nat → Prop} {z : Nat} {found : List Nat} {at_ : Nat} (b : Bfs suc R z found at_) (h : found.length ≤ at_) : ∀ v ∈ found, ∀ x ∈ suc v, x ∈ found := fun v hv x hx => by
  obtain ⟨i, hi⟩ := List.mem_iff_getElem?.mp hv
  exact b.cl i v (Nat.lt_of_lt_of_le (List.getElem?_eq_some_iff.mp hi).1 h) hi x hx
theorem snoc_ind {P : List Nat → Prop} (h0 : P []) (h1 : ∀ u c, P u → P (u ++ [c])) : ∀ l, P l := fun l => by
  have key : ∀ r : List Nat, P r.reverse := by
    intro r
    induction r with
    | nil => exact h0
    | cons c r ih => rw [List.reverse_cons]; exact h1 _ c ih
  have := key l.reverse
  rwa [List.reverse_reverse] at this
/-! ### what a machine made must be -/
structure MSpec (L : Nat) (lang : List Nat → Prop) (m : Mach) : Prop where
  eL : m.L = L
  wf : WF m.L m.st m.en
  acc : ∀ w, Wd L w → (m.acc w = true ↔ lang w)
  reach : ∀ q, q < m.st.length → ∃ w, Wd L w ∧ runS m.st 0 w = q
  part : ∀ q q', q < m.st.length → q' < m.st.length → q ≠ q' → ∃ w, Wd L w ∧ ¬ (runS m.st q w ∈ m.en ↔ runS m.st q' w ∈ m.en)
def rowAt (st : MRows) (q : Nat) : List Nat := st.getD q []
theorem WF.row_ {L : Nat} {st : MRows} {en : List Nat} (h : WF L st en) {q : Nat} (hq : q < st.length) : st[q]? = some (rowAt st q) ∧ (rowAt st q).length = L ∧ (∀ c, c < L → (rowAt st q)[c]? = some (nx st q c)) ∧ ∀ x ∈ rowAt st q, ∃ c, c < L ∧ x = nx st q c := by
  have h1 : st[q]? = some st[q] := List.getElem?_eq_getElem hq
  have h2 : rowAt st q = st[q] := by unfold rowAt; simp [List.getD, h1]
  have h3 : st[q].length = L := h.row _ (List.getElem_mem hq)
  have h4 : ∀ c, c < L → (rowAt st q)[c]? = some (nx st q c) := fun c hc => by
    obtain ⟨r, g1, g2⟩ := h.get hq hc
    rw [h1] at g1; cases g1
    rw [h2]; exact g2
  refine ⟨h2 ▸ h1, h2 ▸ h3, h4, fun x hx => ?_⟩
  obtain ⟨i, hi⟩ := List.mem_iff_getElem?.mp hx
  have hil : i < L := by have := (List.getElem?_eq_some_iff.mp hi).1; rw [h2, h3] at this; exact this
  refine ⟨i, hil, ?_⟩
  have := h4 i hil
  rw [hi] at this
  exact Option.some.inj this
/-- the states that are reached -/
structure Led (L : Nat) (st : MRows) (ns : List Nat) : Prop where
  nd : ns.Nodup
  hd : ns[0]? = some 0
  rch : ∀ q ∈ ns, ∃ w, Wd L w ∧ runS st 0 w = q
  cl : ∀ q ∈ ns, ∀ c, c < L → nx st q c ∈ ns
section
variable {L : Nat} {st : MRows} {en ns : List Nat}
theorem Led.lt (wf : WF L st en) (h : Led L st ns) : ∀ q ∈ ns, q < st.length := fun q hq => by
  obtain ⟨w, hw, e⟩ := h.rch q hq
  rw [← e]; exact wf.run_lt wf.pos hw
theorem Led.zero (h : Led L st ns) : 0 ∈ ns := List.mem_of_getElem? h.hd
theorem Led.run (h : Led L st ns) : ∀ {w : List Nat} {q : Nat}, q ∈ ns → Wd L w → runS st q w ∈ ns
  | [], _, hq, _ => hq
  | c :: w, q, hq, hw => h.run (w := w) (h.cl q hq c hw.head) hw.tail
theorem Led.len (wf : WF L st en) (h : Led L st ns) : ns.length ≤ st.length := by
  have := nodup_len (m := List.range st.length) h.nd fun q hq => List.mem_range.mpr (h.lt wf q hq)
  rwa [List.length_range] at this
/-- a parting of the states: classes g, many of them ahead, now now -/
structure Part (L : Nat) (st : MRows) (en ns : List Nat) (g : Nat → Nat) (many now : Nat) : Prop where
  vals : ∃ vs : List Nat, vs.Nodup ∧ vs.length = now ∧ ∀ v, v ∈ vs ↔ ∃ q ∈ ns, g q = v
  fin : ∀ q ∈ ns, ∀ q' ∈ ns, g q = g q' → (q ∈ en ↔ q' ∈ en)
  dist : ∀ q ∈ ns, ∀ q' ∈ ns, g q ≠ g q' → ∃ w, Wd L w ∧ ¬ (runS st q w ∈ en ↔ runS st q' w ∈ en)
  stab : many = now → ∀ q ∈ ns, ∀ q' ∈ ns, g q = g q' → ∀ c, c < L → g (nx st q c) = g (nx st q' c)
  le : many ≤ now
theorem Part.now_le {g : Nat → Nat} {many now : Nat} (p : Part L st en ns g many now) : now ≤ ns.length := by
  obtain ⟨vs, h1, h2, h3⟩ := p.vals
  have := nodup_len (m := ns.map g) h1 fun v hv => by
    obtain ⟨q, hq, e⟩ := (h3 v).mp hv
    exact List.mem_map.mpr ⟨q, hq, e⟩
  rw [List.length_map] at this
  omega
theorem Part.init {now : Nat} (hv : ∃ vs : List Nat, vs.Nodup ∧ vs.length = now ∧ ∀ v, v ∈ vs ↔ ∃ q ∈ ns, (if q ∈ en then 1 else 0) = v) (hn : 0 ∈ ns) : Part L st en ns (fun q => if q ∈ en then 1 else 0) 0 now := by
  have pos : 0 < now := by
    obtain ⟨vs, h1, h2, h3⟩ := hv
    rw [← h2]
    exact List.length_pos_of_mem ((h3 _).mpr ⟨0, hn, rfl⟩)
  have key : ∀ q q' : Nat, ((if q ∈ en then 1 else 0) : Nat) = (if q' ∈ en then 1 else 0) ↔ (q ∈ en ↔ q' ∈ en) := fun q q' => by
    by_cases a : q ∈ en <;> by_cases b : q' ∈ en <;> simp [a, b]
  refine ⟨hv, fun q _ q' _ e => (key q q').mp e, fun q _ q' _ e => ⟨[], Wd.nil, fun z => e ((key q q').mpr z)⟩, fun e => ?_, by omega⟩
  omega
def keyOf (st : MRows) (g : Nat → Nat) (q : Nat) : List Nat := g q :: (rowAt st q).map g
theorem keyOf_eq (wf : WF L st en) {g : Nat → Nat} {q q' : Nat} (hq : q < st.length) (hq' : q' < st.length) : keyOf st g q = keyOf st g q' ↔ g q = g q' ∧ ∀ c, c < L → g (nx st q c) = g (nx st q' c) := by
  obtain ⟨_, h2, h3, _⟩ := wf.row_ hq
  obtain ⟨_, k2, k3, _⟩ := wf.row_ hq'
  unfold keyOf
  rw [List.cons.injEq]
  refine and_congr Iff.rfl ⟨fun e c hc => ?_, fun e => ?_⟩
  · have e1 : ((rowAt st q).map g)[c]? = ((rowAt st q').map g)[c]? := by rw [e]
    rw [List.getElem?_map, List.getElem?_map, h3 c hc, k3 c hc] at e1
    exact Option.some.inj e1
  · refine List.ext_getElem? fun i => ?_
    rw [List.getElem?_map, List.getElem?_map]
    by_cases hi : i < L
    · rw [h3 i hi, k3 i hi]
      show some _ = some _
      rw [e i hi]
    · rw [List.getElem?_eq_none (by omega), List.getElem?_eq_none (by omega)]
/-- one turn: the new classes number the keys -/
theorem Part.turn (wf : WF L st en) (ld : Led L st ns) {g g' : Nat → Nat} {many now : Nat} (p : Part L st en ns g many now) {ks : List (List Nat)} (knd : ks.Nodup) (kin : ∀ k ∈ ks, ∃ q ∈ ns, keyOf st g q = k) (kg : ∀ q ∈ ns, ks[g' q]? = some (keyOf st g q)) :
    Part L st en ns g' now ks.length := by
  have lt := ld.lt wf
  have same : ∀ q ∈ ns, ∀ q' ∈ ns, (g' q = g' q' ↔ keyOf st g q = keyOf st g q') := fun q hq q' hq' => by
    have h1 := kg q hq
    have h2 := kg q' hq'
    refine ⟨fun e => ?_, fun e => ?_⟩
    · rw [e, h2] at h1; exact (Option.some.inj h1).symm
    · rw [← e] at h2
      obtain ⟨l1, e1⟩ := List.getElem?_eq_some_iff.mp h1
      obtain ⟨l2, e2⟩ := List.getElem?_eq_some_iff.mp h2
      exact (List.getElem_inj knd).mp (e1.trans e2.symm)
  obtain ⟨vs, v1, v2, v3⟩ := p.vals
  have on : ∀ v ∈ vs, ∃ k ∈ ks, k.headD 0 = v := fun v hv => by
    obtain ⟨q, hq, e⟩ := (v3 v).mp hv
    exact ⟨keyOf st g q, List.mem_of_getElem? (kg q hq), e⟩
  have le : now ≤ ks.length := by
    have := nodup_len (m := ks.map fun k => k.headD 0) v1 fun v hv => by
      obtain ⟨k, hk, e⟩ := on v hv
      exact List.mem_map.mpr ⟨k, hk, e⟩
    rw [List.length_map] at this
    omega
  refine ⟨⟨List.range ks.length, List.nodup_range, List.length_range, fun v => ?_⟩, fun q hq q' hq' e => ?_, fun q hq q' hq' ne => ?_, fun e q hq q' hq' e1 c hc => ?_, le⟩
  · rw [List.mem_range]
    refine ⟨fun hv => ?_, fun ⟨q, hq, e⟩ => ?_⟩
    · obtain ⟨q, hq, e⟩ := kin _ (List.getElem_mem hv)
      refine ⟨q, hq, ?_⟩
      have h1 := kg q hq
      obtain ⟨l1, e1⟩ := List.getElem?_eq_some_iff.mp h1
      exact (List.getElem_inj knd).mp (e1.trans e)
    · rw [← e]; exact (List.getElem?_eq_some_iff.mp (kg q hq)).1
  · exact p.fin q hq q' hq' ((keyOf_eq wf (lt q hq) (lt q' hq')).mp ((same q hq q' hq').mp e)).1
  · have nk : ¬ (g q = g q' ∧ ∀ c, c < L → g (nx st q c) = g (nx st q' c)) := fun z => ne ((same q hq q' hq').mpr ((keyOf_eq wf (lt q hq) (lt q' hq')).mpr z))
    by_cases h1 : g q = g q'
    · have : ∃ c, c < L ∧ g (nx st q c) ≠ g (nx st q' c) := Classical.byContradiction fun z => nk ⟨h1, fun c hc => Classical.byContradiction fun y => z ⟨c, hc, y⟩⟩
      obtain ⟨c, hc, hne⟩ := this
      obtain ⟨w, hw, hd⟩ := p.dist _ (ld.cl q hq c hc) _ (ld.cl q' hq' c hc) hne
      exact ⟨c :: w, fun d hd => (List.mem_cons.mp hd).elim (fun e => e ▸ hc) (hw d), hd⟩
    · exact p.dist q hq q' hq' h1
  · have inj := onto_inj (fun k : List Nat => k.headD 0) v1 (by omega) on
    have up : ∀ a ∈ ns, ∀ b ∈ ns, g a = g b → g' a = g' b := fun a ha b hb e0 => (same a ha b hb).mpr (inj _ (List.mem_of_getElem? (kg a ha)) _ (List.mem_of_getElem? (kg b hb)) e0)
    exact up _ (ld.cl q hq c hc) _ (ld.cl q' hq' c hc) (((keyOf_eq wf (lt q hq) (lt q' hq')).mp ((same q hq q' hq').mp e1)).2 c hc)
/-- the told form -/
theorem least_spec (wf : WF L st en) (ld : Led L st ns) {g : Nat → Nat} {now : Nat} (p : Part L st en ns g now now) {hd pl : Nat → Nat} (h1 : ∀ q ∈ ns, hd (g q) ∈ ns ∧ g (hd (g q)) = g q) {order : List Nat} {at_ : Nat}
    (b : Bfs (fun v => (rowAt st (hd v)).map g) (fun v => ∃ w, Wd L w ∧ g (runS st 0 w) = v) (g 0) order at_) (hat : order.length ≤ at_) (hpl : ∀ i v, order[i]? = some v → pl v = i) :
    MSpec L (fun w => runS st 0 w ∈ en) ⟨L, order.map fun v => (rowAt st (hd v)).map fun s => pl (g s), (List.range order.length).filter fun i => decide (hd (order.getD i 0) ∈ en)⟩ := by
  have lt := ld.lt wf
  have ofv : ∀ v ∈ order, ∃ q ∈ ns, g q = v := fun v hv => by
    obtain ⟨w, hw, e⟩ := b.rch v hv
    exact ⟨_, ld.run ld.zero hw, e⟩
  have hdv : ∀ v ∈ order, hd v ∈ ns ∧ g (hd v) = v := fun v hv => by
    obtain ⟨q, hq, rfl⟩ := ofv v hv
    exact h1 q hq
  have plv : ∀ v ∈ order, order[pl v]? = some v := fun v hv => by
    obtain ⟨i, hi⟩ := List.mem_iff_getElem?.mp hv
    rw [hpl i v hi]; exact hi
  have lts : ∀ v ∈ order, pl v < order.length := fun v hv => (List.getElem?_eq_some_iff.mp (plv v hv)).1
  have z0 : g 0 ∈ order := List.mem_of_getElem? b.hd
  have cls : ∀ q ∈ ns, g q ∈ order := by
    have all : ∀ w, Wd L w → g (runS st 0 w) ∈ order := by
      intro w
      refine snoc_ind (P := fun w => Wd L w → g (runS st 0 w) ∈ order) (fun _ => z0) (fun u c ih hw => ?_) w
      · rw [runS_app]
        have hu := ih hw.left
        have hc : c < L := hw.right c (List.mem_singleton.mpr rfl)
        have hq := ld.run ld.zero hw.left
        have m := b.closed hat _ hu (g (nx st (hd (g (runS st 0 u))) c)) (List.mem_map.mpr ⟨_, List.mem_of_getElem? ((wf.row_ (lt _ (h1 _ hq).1)).2.2.1 c hc), rfl⟩)
        rw [p.stab rfl _ (h1 _ hq).1 _ hq (h1 _ hq).2 c hc] at m
        exact m
    intro q hq
    obtain ⟨w, hw, e⟩ := ld.rch q hq
    rw [← e]; exact all w hw
  have len : (order.map fun v => (rowAt st (hd v)).map fun s => pl (g s)).length = order.length := List.length_map ..
  have rowv : ∀ q ∈ ns, (order.map fun v => (rowAt st (hd v)).map fun s => pl (g s))[pl (g q)]? = some ((rowAt st (hd (g q))).map fun s => pl (g s)) := fun q hq => by
    rw [List.getElem?_map, plv _ (cls q hq)]; rfl
  have stp : ∀ q ∈ ns, ∀ c, c < L → nx (order.map fun v => (rowAt st (hd v)).map fun s => pl (g s)) (pl (g q)) c = pl (g (nx st q c)) := fun q hq c hc => by
    have r := rowv q hq
    have e : ((rowAt st (hd (g q))).map fun s => pl (g s))[c]? = some (pl (g (nx st q c))) := by
      rw [List.getElem?_map, (wf.row_ (lt _ (h1 q hq).1)).2.2.1 c hc]
      show some (pl (g (nx st (hd (g q)) c))) = _
      rw [p.stab rfl _ (h1 q hq).1 _ hq (h1 q hq).2 c hc]
    unfold nx
    rw [List.getD_eq_getElem?_getD, List.getD_eq_getElem?_getD, r]
    show (((rowAt st (hd (g q))).map fun s => pl (g s))[c]?).getD 0 = _
    rw [e]; rfl
  have run : ∀ (w : List Nat) (q : Nat), q ∈ ns → Wd L w → runS (order.map fun v => (rowAt st (hd v)).map fun s => pl (g s)) (pl (g q)) w = pl (g (runS st q w)) := by
    intro w
    induction w with
    | nil => intro q _ _; rfl
    | cons c w ih =>
      intro q hq hw
      show runS _ (nx _ (pl (g q)) c) w = pl (g (runS st (nx st q c) w))
      rw [stp q hq c hw.head]
      exact ih _ (ld.cl q hq c hw.head) hw.tail
  have pl0 : pl (g 0) = 0 := hpl 0 _ b.hd
  have endq : ∀ q ∈ ns, (pl (g q) ∈ (List.range order.length).filter (fun i => decide (hd (order.getD i 0) ∈ en)) ↔ q ∈ en) := fun q hq => by
    rw [List.mem_filter, List.mem_range, decide_eq_true_iff]
    have e : order.getD (pl (g q)) 0 = g q := by rw [List.getD_eq_getElem?_getD, plv _ (cls q hq)]; rfl
    rw [e]
    exact ⟨fun z => (p.fin _ (h1 q hq).1 _ hq (h1 q hq).2).mp z.2, fun z => ⟨lts _ (cls q hq), (p.fin _ (h1 q hq).1 _ hq (h1 q hq).2).mpr z⟩⟩
  have ofi : ∀ i, i < order.length → ∃ q ∈ ns, pl (g q) = i := fun i hi => by
    have e : order[i]? = some order[i] := List.getElem?_eq_getElem hi
    obtain ⟨q, hq, eq⟩ := ofv _ (List.mem_of_getElem? e)
    exact ⟨q, hq, by rw [eq]; exact hpl i _ e⟩
  refine ⟨rfl, ⟨?_, fun r hr => ?_, fun r hr x hx => ?_, fun e he => ?_⟩, fun w hw => ?_, fun i hi => ?_, fun i j hi hj ne => ?_⟩
  · show 0 < List.length _
    rw [len]
    exact (List.getElem?_eq_some_iff.mp b.hd).1
  · obtain ⟨v, hv, rfl⟩ := List.mem_map.mp hr
    rw [List.length_map]
    exact (wf.row_ (lt _ (hdv v hv).1)).2.1
  · obtain ⟨v, hv, rfl⟩ := List.mem_map.mp hr
    obtain ⟨s, hs, rfl⟩ := List.mem_map.mp hx
    show _ < List.length _
    rw [len]
    obtain ⟨c, hc, rfl⟩ := (wf.row_ (lt _ (hdv v hv).1)).2.2.2 s hs
    exact lts _ (cls _ (ld.cl _ (hdv v hv).1 c hc))
  · show _ < List.length _
    rw [len]
    exact List.mem_range.mp (List.mem_filter.mp he).1
  · show decide (runS _ 0 w ∈ _) = true ↔ _
    rw [decide_eq_true_iff]
    have := run w 0 ld.zero hw
    rw [pl0] at this
    rw [this]
    exact endq _ (ld.run ld.zero hw)
  · have hi' : i < order.length := by have : i < List.length _ := hi; rwa [len] at this
    have e : order[i]? = some order[i] := List.getElem?_eq_getElem hi'
    obtain ⟨w, hw, ew⟩ := b.rch _ (List.mem_of_getElem? e)
    refine ⟨w, hw, ?_⟩
    have := run w 0 ld.zero hw
    rw [pl0, ew] at this
    rw [this]
    exact hpl i _ e
  · have hi' : i < order.length := by have : i < List.length _ := hi; rwa [len] at this
    have hj' : j < order.length := by have : j < List.length _ := hj; rwa [len] at this
    obtain ⟨q, hq, rfl⟩ := ofi i hi'
    obtain ⟨q', hq', rfl⟩ := ofi j hj'
    obtain ⟨w, hw, hd⟩ := p.dist q hq q' hq' fun e => ne (by rw [e])
    refine ⟨w, hw, fun z => hd ?_⟩
    have z : runS _ (pl (g q)) w ∈ _ ↔ runS _ (pl (g q')) w ∈ _ := z
    rw [run w q hq hw, run w q' hq' hw] at z
    exact (endq _ (ld.run hq hw)).symm.trans (z.trans (endq _ (ld.run hq' hw)))
end
end K44
end
section
set_option maxHeartbeats 4000000
/-! Few states, by codes of words. -/
namespace K44
theorem nodup_lenG {α : Type} [DecidableEq α] : ∀ {l m : List α}, l.Nodup → (∀ x ∈ l, x ∈ m) → l.length ≤ m.length
  | [], m, _, _ => Nat.zero_le _
  | x :: l, m, nd, h => by
    have h1 := List.nodup_cons.mp nd
    have hx : x ∈ m := h x List.mem_cons_self
    have := nodup_lenG (l := l) (m := m.erase x) h1.2 fun y hy => (List.mem_erase_of_ne (fun e : y = x => h1.1 (by rw [← e]; exact hy))).mpr (h y (List.mem_cons_of_mem _ hy))
    rw [List.length_erase_of_mem hx] at this
    have : 0 < m.length := List.length_pos_of_mem hx
    rw [List.length_cons]; omega
theorem nodup_mapOn {α β : Type} {f : α → β} : ∀ {l : List α}, l.Nodup → (∀ a ∈ l, ∀ b ∈ l, f a = f b → a = b) → (l.map f).Nodup
  | [], _, _ => List.nodup_nil
  | a :: l, nd, h => by
    have h1 := List.nodup_cons.mp nd
    rw [List.map_cons]
    refine List.nodup_cons.mpr ⟨fun z => ?_, nodup_mapOn h1.2 fun x hx y hy => h x (List.mem_cons_of_mem _ hx) y (List.mem_cons_of_mem _ hy)⟩
    obtain ⟨b, hb, e⟩ := List.mem_map.mp z
    exact h1.1 (h b (List.mem_cons_of_mem _ hb) a List.mem_cons_self e ▸ hb)
theorem MSpec.run {L : Nat} {lang : List Nat → Prop} {m : Mach} (h : MSpec L lang m) {u w : List Nat} (hu : Wd L u) (hw : Wd L w) : runS m.st (runS m.st 0 u) w ∈ m.en ↔ lang (u ++ w) := by
  rw [← h.acc _ (hu.app hw)]
  unfold Mach.acc
  rw [decide_eq_true_iff, runS_app]
theorem MSpec.few {L : Nat} {lang : List Nat → Prop} {m : Mach} (h : MSpec L lang m) {α : Type} [DecidableEq α] (code : List Nat → α) (cs : List α) (all : ∀ w, Wd L w → code w ∈ cs)
    (res : ∀ u v, Wd L u → Wd L v → code u = code v → ∀ w, Wd L w → (lang (u ++ w) ↔ lang (v ++ w))) : m.st.length ≤ cs.length := by
  have ex : ∀ q, ∃ w, q < m.st.length → Wd L w ∧ runS m.st 0 w = q := fun q => by
    by_cases hq : q < m.st.length
    · obtain ⟨w, h1, h2⟩ := h.reach q hq
      exact ⟨w, fun _ => ⟨h1, h2⟩⟩
    · exact ⟨[], fun z => absurd z hq⟩
  let f : Nat → List Nat := fun q => Classical.choose (ex q)
  have hf : ∀ q, q < m.st.length → Wd L (f q) ∧ runS m.st 0 (f q) = q := fun q => Classical.choose_spec (ex q)
  have nd : ((List.range m.st.length).map fun q => code (f q)).Nodup := nodup_mapOn List.nodup_range fun a ha b hb e => by
    have ha := List.mem_range.mp ha
    have hb := List.mem_range.mp hb
    refine Classical.byContradiction fun ne => ?_
    obtain ⟨w, hw, hd⟩ := h.part a b ha hb ne
    obtain ⟨a1, a2⟩ := hf a ha
    obtain ⟨b1, b2⟩ := hf b hb
    apply hd
    have h1 := h.run a1 hw
    have h2 := h.run b1 hw
    rw [a2] at h1
    rw [b2] at h2
    exact h1.trans ((res _ _ a1 b1 e w hw).trans h2.symm)
  have := nodup_lenG (m := cs) nd fun x hx => by
    obtain ⟨q, hq, rfl⟩ := List.mem_map.mp hx
    exact all _ (hf q (List.mem_range.mp hq)).1
  rwa [List.length_map, List.length_range] at this
theorem MSpec.congr {L : Nat} {lang lang' : List Nat → Prop} {m : Mach} (h : MSpec L lang m) (e : ∀ w, Wd L w → (lang w ↔ lang' w)) : MSpec L lang' m :=
  ⟨h.eL, h.wf, fun w hw => (h.acc w hw).trans (e w hw), h.reach, h.part⟩
end K44
end
section
set_option maxHeartbeats 4000000
/-! Lots explored: the raw machine, in plain Lean. -/
namespace K44
/-- a walk over states of any kind -/
structure Lots (α : Type) where
  L : Nat
  b : α
  f : α → Nat → α
  t : α → Bool
def Lots.run {α : Type} (l : Lots α) (a : α) (w : List Nat) : α := w.foldl l.f a
def Lots.lang {α : Type} (l : Lots α) (w : List Nat) : Prop := l.t (l.run l.b w) = true
/-- what is explored: all found, the rows of the first k, the ends among them -/
structure Expl {α : Type} (l : Lots α) (fs : List α) (rs : MRows) (es : List Nat) : Prop where
  nd : fs.Nodup
  hd : fs[0]? = some l.b
  len : rs.length ≤ fs.length
  row : ∀ (i : Nat) r, rs[i]? = some r → r.length = l.L ∧ ∀ (c j : Nat), r[c]? = some j → ∃ a, fs[i]? = some a ∧ fs[j]? = some (l.f a c)
  es : ∀ i, i ∈ es ↔ i < rs.length ∧ ∃ a, fs[i]? = some a ∧ l.t a = true
theorem Expl.spec {α : Type} {l : Lots α} {fs : List α} {rs : MRows} {es : List Nat} (h : Expl l fs rs es) (all : fs.length ≤ rs.length) :
    WF l.L rs es ∧ ∀ w, Wd l.L w → (runS rs 0 w ∈ es ↔ l.lang w) := by
  have el : rs.length = fs.length := Nat.le_antisymm h.len all
  have p0 : 0 < rs.length := by rw [el]; exact (List.getElem?_eq_some_iff.mp h.hd).1
  have wf : WF l.L rs es := by
    refine ⟨p0, fun r hr => ?_, fun r hr c hc => ?_, fun e he => ((h.es e).mp he).1⟩
    · obtain ⟨i, hi⟩ := List.mem_iff_getElem?.mp hr
      exact (h.row i r hi).1
    · obtain ⟨i, hi⟩ := List.mem_iff_getElem?.mp hr
      obtain ⟨j, hj⟩ := List.mem_iff_getElem?.mp hc
      obtain ⟨a, _, h2⟩ := (h.row i r hi).2 j c hj
      rw [el]
      exact (List.getElem?_eq_some_iff.mp h2).1
  refine ⟨wf, fun w hw => ?_⟩
  have run : ∀ (w : List Nat) (q : Nat) (a : α), fs[q]? = some a → Wd l.L w → fs[runS rs q w]? = some (l.run a w) := by
    intro w
    induction w with
    | nil => intro q a hq _; exact hq
    | cons c w ih =>
      intro q a hq hw
      have hql : q < rs.length := by rw [el]; exact (List.getElem?_eq_some_iff.mp hq).1
      obtain ⟨r, g1, g2⟩ := wf.get hql hw.head
      obtain ⟨a', h1, h2⟩ := (h.row q r g1).2 c _ g2
      rw [hq] at h1
      cases h1
      exact ih _ _ h2 hw.tail
  have e := run w 0 l.b h.hd hw
  rw [h.es]
  refine ⟨fun ⟨_, a, h1, h2⟩ => ?_, fun z => ⟨by rw [el]; exact (List.getElem?_eq_some_iff.mp e).1, _, e, z⟩⟩
  rw [e] at h1
  cases h1
  exact h2
end K44
end
section
set_option maxHeartbeats 4000000
/-! Words as lots of rows. -/
namespace K44
/-- the words of at most so many letters -/
def wl (L : Nat) : Nat → List (List Nat)
  | 0 => [[]]
  | n + 1 => [] :: (List.range L).flatMap fun c => (wl L n).map (c :: ·)
theorem mem_wl {L : Nat} : ∀ {n : Nat} {w : List Nat}, w ∈ wl L n ↔ w.length ≤ n ∧ Wd L w
  | 0, w => by
    show w ∈ [[]] ↔ _
    rw [List.mem_singleton]
    refine ⟨fun e => by rw [e]; exact ⟨Nat.le_refl _, Wd.nil⟩, fun ⟨h, _⟩ => List.length_eq_zero_iff.mp (by omega)⟩
  | n + 1, [] => ⟨fun _ => ⟨Nat.zero_le _, Wd.nil⟩, fun _ => List.mem_cons_self⟩
  | n + 1, c :: w => by
    show c :: w ∈ ([] :: _ : List (List Nat)) ↔ _
    rw [List.mem_cons, List.mem_flatMap]
    refine ⟨fun h => ?_, fun ⟨h1, h2⟩ => .inr ⟨c, List.mem_range.mpr h2.head, List.mem_map.mpr ⟨w, mem_wl.mpr ⟨by simpa using h1, h2.tail⟩, rfl⟩⟩⟩
    rcases h with h | ⟨d, hd, h⟩
    · cases h
    · obtain ⟨u, hu, e⟩ := List.mem_map.mp h
      cases e
      obtain ⟨h1, h2⟩ := mem_wl.mp hu
      exact ⟨by simpa using h1, fun x hx => (List.mem_cons.mp hx).elim (fun z => z ▸ List.mem_range.mp hd) (h2 x)⟩
theorem wl_len (L : Nat) : ∀ n, (wl L (n + 1)).length = 1 + L * (wl L n).length := fun n => by
  show ([] :: _ : List (List Nat)).length = _
  rw [List.length_cons, List.length_flatMap]
  have : ((List.range L).map fun c => ((wl L n).map (c :: ·)).length) = List.replicate L (wl L n).length := by
    refine List.eq_replicate_iff.mpr ⟨by simp, fun b hb => ?_⟩
    obtain ⟨c, _, rfl⟩ := List.mem_map.mp hb
    exact List.length_map ..
  rw [this, List.sum_replicate_nat]; omega
def wordsL (L : Nat) (rows : List (List Nat)) : Lots (List (List Nat)) where
  L := L
  b := rows
  f := fun rs c => (rs.filter fun r => decide (r.take 1 = [c])).map (·.drop 1)
  t := fun rs => decide ([] ∈ rs)
theorem mem_wordsRun {L : Nat} {b : List (List Nat)} : ∀ {w : List Nat} {rows : List (List Nat)} {u : List Nat}, u ∈ (wordsL L b).run rows w ↔ w ++ u ∈ rows
  | [], _, _ => Iff.rfl
  | c :: w, rows, u => by
    show u ∈ (wordsL L b).run ((wordsL L b).f rows c) w ↔ _
    rw [mem_wordsRun (w := w)]
    show w ++ u ∈ (rows.filter fun r => decide (r.take 1 = [c])).map (·.drop 1) ↔ _
    rw [List.mem_map]
    refine ⟨fun ⟨r, hr, e⟩ => ?_, fun h => ⟨c :: (w ++ u), List.mem_filter.mpr ⟨h, decide_eq_true rfl⟩, rfl⟩⟩
    obtain ⟨h1, h2⟩ := List.mem_filter.mp hr
    have h2 := of_decide_eq_true h2
    cases r with
    | nil => simp at h2
    | cons d r =>
      have : d = c := by simpa using h2
      subst this
      have e2 : r = w ++ u := e
      rw [e2] at h1
      exact h1
theorem wordsL_lang {L : Nat} {rows : List (List Nat)} {w : List Nat} : (wordsL L rows).lang w ↔ w ∈ rows := by
  show decide ([] ∈ (wordsL L rows).run rows w) = true ↔ _
  rw [decide_eq_true_iff, mem_wordsRun, List.append_nil]
theorem wordsRun_long {L : Nat} {rows : List (List Nat)} (h : ∀ r ∈ rows, r.length ≤ 2) {w : List Nat} (hw : 2 < w.length) : (wordsL L rows).run rows w = [] := by
  cases q : (wordsL L rows).run rows w with
  | nil => rfl
  | cons u us =>
    have : w ++ u ∈ rows := mem_wordsRun.mp (by rw [q]; exact List.mem_cons_self)
    have := h _ this
    rw [List.length_append] at this
    omega
/-- states that are reached -/
def Lots.U {α : Type} (l : Lots α) (a : α) : Prop := ∃ w, Wd l.L w ∧ l.run l.b w = a
theorem Lots.U.b {α : Type} (l : Lots α) : l.U l.b := ⟨[], Wd.nil, rfl⟩
theorem Lots.U.f {α : Type} {l : Lots α} {a : α} {c : Nat} (h : l.U a) (hc : c < l.L) : l.U (l.f a c) := by
  obtain ⟨w, hw, rfl⟩ := h
  refine ⟨w ++ [c], hw.app fun d hd => by rw [List.mem_singleton] at hd; exact hd ▸ hc, ?_⟩
  unfold Lots.run
  rw [List.foldl_append]; rfl
theorem words_card {L : Nat} {rows : List (List Nat)} (hL : L ≤ 3) (h : ∀ r ∈ rows, r.length ≤ 2) (fs : List (List (List Nat))) (nd : fs.Nodup) (hU : ∀ a ∈ fs, (wordsL L rows).U a) : fs.length ≤ 14 := by
  have := nodup_lenG (m := [] :: (wl L 2).map ((wordsL L rows).run rows)) nd fun a ha => by
    obtain ⟨w, hw, e⟩ := hU a ha
    by_cases hl : w.length ≤ 2
    · exact List.mem_cons_of_mem _ (List.mem_map.mpr ⟨w, mem_wl.mpr ⟨hl, hw⟩, e⟩)
    · have e2 : (wordsL L rows).run rows w = a := e
      rw [wordsRun_long h (by omega)] at e2
      rw [← e2]; exact List.mem_cons_self
  rw [List.length_cons, List.length_map, wl_len, wl_len] at this
  have e0 : (wl L 0).length = 1 := rfl
  rw [e0] at this
  have : L * (1 + L * 1) ≤ 3 * (1 + 3 * 1) := Nat.mul_le_mul hL (by omega)
  omega
/-- a language of words of at most n letters: few states -/
theorem short_few {L n : Nat} {lang : List Nat → Prop} {m : Mach} (h : MSpec L lang m) (sh : ∀ w, Wd L w → lang w → w.length ≤ n) : m.st.length ≤ (wl L n).length + 1 := by
  have := h.few (fun w => if w.length ≤ n then some w else none) (none :: (wl L n).map some) (fun w hw => by
    by_cases hl : w.length ≤ n
    · rw [if_pos hl]; exact List.mem_cons_of_mem _ (List.mem_map.mpr ⟨w, mem_wl.mpr ⟨hl, hw⟩, rfl⟩)
    · rw [if_neg hl]; exact List.mem_cons_self) fun u v hu hv e w hw => by
    by_cases hl : u.length ≤ n
    · rw [if_pos hl] at e
      by_cases hk : v.length ≤ n
      · rw [if_pos hk] at e; cases e; exact Iff.rfl
      · rw [if_neg hk] at e; cases e
    · rw [if_neg hl] at e
      by_cases hk : v.length ≤ n
      · rw [if_pos hk] at e; cases e
      · refine ⟨fun z => absurd (sh _ (hu.app hw) z) ?_, fun z => absurd (sh _ (hv.app hw) z) ?_⟩ <;> (rw [List.length_append]; omega)
  simpa using this
end K44
end
section
set_option maxHeartbeats 4000000
/-! Words made of blocks of at most two letters. -/
namespace K44
inductive Bl (E : Nat → List Nat → Nat → Prop) : Nat → List Nat → Nat → Prop
  | nil (k : Nat) : Bl E k [] k
  | step {k k1 k2 : Nat} {s w : List Nat} : E k s k1 → Bl E k1 w k2 → Bl E k (s ++ w) k2
section
variable {E : Nat → List Nat → Nat → Prop}
theorem Bl.app {k m n : Nat} {u v : List Nat} (h : Bl E k u m) (g : Bl E m v n) : Bl E k (u ++ v) n := by
  induction h with
  | nil k => exact g
  | step e _ ih => rw [List.append_assoc]; exact .step e (ih g)
theorem Bl.one {k m : Nat} {s : List Nat} (e : E k s m) : Bl E k s m := by
  have := Bl.step e (.nil m)
  rwa [List.append_nil] at this
theorem Bl.cases' {k m : Nat} {w : List Nat} (h : Bl E k w m) : (k = m ∧ w = []) ∨ ∃ s k1 v, w = s ++ v ∧ E k s k1 ∧ Bl E k1 v m := by
  cases h with
  | nil => exact .inl ⟨rfl, rfl⟩
  | step e g => exact .inr ⟨_, _, _, rfl, e, g⟩
theorem Bl.split (hE : ∀ k s k1, E k s k1 → s.length ≤ 2) {k n : Nat} {x : List Nat} (h : Bl E k x n) : ∀ w u, x = w ++ u →
    (∃ m, Bl E k w m ∧ Bl E m u n) ∨ ∃ w1 c d u1 m m1, w = w1 ++ [c] ∧ u = d :: u1 ∧ Bl E k w1 m ∧ E m [c, d] m1 ∧ Bl E m1 u1 n := by
  induction h with
  | nil k =>
    intro w u e
    obtain ⟨rfl, rfl⟩ := List.append_eq_nil_iff.mp e.symm
    exact .inl ⟨k, .nil k, .nil k⟩
  | @step k k1 k2 s x e g ih =>
    intro w u q
    rcases List.append_eq_append_iff.mp q with ⟨y, rfl, h2⟩ | ⟨y, rfl, rfl⟩
    · rcases ih y u h2 with ⟨m, h3, h4⟩ | ⟨w1, c, d, u1, m, m1, h1, h2, h3, h4, h5⟩
      · exact .inl ⟨m, .step e h3, h4⟩
      · exact .inr ⟨s ++ w1, c, d, u1, m, m1, by rw [h1, List.append_assoc], h2, .step e h3, h4, h5⟩
    · have hl := hE _ _ _ e
      match w, y, hl with
      | [], y, _ => exact .inl ⟨k, .nil k, .step e g⟩
      | w, [], _ => exact .inl ⟨k1, by rw [List.append_nil] at e; exact Bl.one e, g⟩
      | [c], [d], _ => exact .inr ⟨[], c, d, x, k, k1, rfl, rfl, .nil k, e, g⟩
      | c :: c2 :: w, d :: y, hl => simp at hl
      | [c], d :: d2 :: y, hl => simp at hl
def BLang (E : Nat → List Nat → Nat → Prop) (f : Nat) (w : List Nat) : Prop := Bl E 0 w f
/-- all lists of so many bools -/
def bls : Nat → List (List Bool)
  | 0 => [[]]
  | n + 1 => (bls n).map (true :: ·) ++ (bls n).map (false :: ·)
theorem mem_bls : ∀ {l : List Bool}, l ∈ bls l.length
  | [] => List.mem_cons_self
  | true :: l => List.mem_append_left _ (List.mem_map.mpr ⟨l, mem_bls, rfl⟩)
  | false :: l => List.mem_append_right _ (List.mem_map.mpr ⟨l, mem_bls, rfl⟩)
open Classical in
noncomputable def cA (E : Nat → List Nat → Nat → Prop) (A : List Nat) (w : List Nat) : List Bool := A.map fun k => decide (Bl E 0 w k)
open Classical in
noncomputable def cO (E : Nat → List Nat → Nat → Prop) (O : List Nat) (w : List Nat) : Option (Nat × List Bool) := match w.getLast? with
  | none => none
  | some c => if (cA E O w.dropLast).any id = true then some (c, cA E O w.dropLast) else none
noncomputable def cW (E : Nat → List Nat → Nat → Prop) (A O : List Nat) (n : Nat) (w : List Nat) : List Nat ⊕ (List Bool × Option (Nat × List Bool)) := if w.length < n then .inl w else .inr (cA E A w, cO E O w)
theorem cA_eq {A : List Nat} {v w : List Nat} (h : cA E A v = cA E A w) {k : Nat} (hk : k ∈ A) : Bl E 0 v k ↔ Bl E 0 w k := by
  have := List.map_inj_left.mp h k hk
  have e := decide_eq_decide.mp this
  exact e
theorem cO_of {O : List Nat} {w1 : List Nat} {c k : Nat} (hk : k ∈ O) (h : Bl E 0 w1 k) : cO E O (w1 ++ [c]) = some (c, cA E O w1) := by
  unfold cO
  rw [List.getLast?_concat, List.dropLast_concat]
  dsimp only
  rw [if_pos]
  rw [List.any_eq_true]
  exact ⟨true, List.mem_map.mpr ⟨k, hk, @decide_eq_true _ (Classical.propDecidable _) h⟩, rfl⟩
theorem cO_some {O : List Nat} {w : List Nat} {c : Nat} {b : List Bool} (h : cO E O w = some (c, b)) : ∃ w1, w = w1 ++ [c] ∧ b = cA E O w1 ∧ b.any id = true := by
  unfold cO at h
  cases q : w.getLast? with
  | none => rw [q] at h; cases h
  | some d =>
    rw [q] at h
    dsimp only at h
    split at h
    · rename_i hb
      cases h
      obtain ⟨y, rfl⟩ := List.getLast?_eq_some_iff.mp q
      rw [List.dropLast_concat] at hb ⊢
      exact ⟨y, rfl, rfl, hb⟩
    · cases h
theorem bl_half {A O : List Nat} {n f : Nat} (hE : ∀ k s k1, E k s k1 → s.length ≤ 2) (hA : ∀ w k, n ≤ w.length → Bl E 0 w k → k = f ∨ (∃ s k1, E k s k1) → k ∈ A) (hO : ∀ w k, n ≤ w.length + 1 → Bl E 0 w k → (∃ s k1, E k s k1) → k ∈ O)
    {v w u : List Nat} (e : cW E A O n v = cW E A O n w) (h : BLang E f (v ++ u)) : BLang E f (w ++ u) := by
  unfold cW at e
  split at e
  · split at e
    · cases e; exact h
    · cases e
  · rename_i hv
    split at e
    · cases e
    · injection e with e
      injection e with e1 e2
      rcases Bl.split hE h v u rfl with ⟨m, h1, h2⟩ | ⟨v1, c, d, u1, m, m1, rfl, rfl, h3, h4, h5⟩
      · have hm : m ∈ A := hA v m (by omega) h1 (by
          rcases h2.cases' with ⟨h3, _⟩ | ⟨s, k1, _, _, h3, _⟩
          · exact .inl h3
          · exact .inr ⟨s, k1, h3⟩)
        exact ((cA_eq e1 hm).mp h1).app h2
      · rw [List.length_append, List.length_singleton] at hv
        have hm : m ∈ O := hO v1 m (by omega) h3 ⟨_, _, h4⟩
        rw [cO_of hm h3] at e2
        obtain ⟨w1, rfl, e3, _⟩ := cO_some e2.symm
        have := (cA_eq e3 hm).mp h3
        rw [List.append_assoc]
        exact this.app (Bl.step (s := [c, d]) (w := u1) h4 h5)
theorem bl_few {A O : List Nat} {n f L : Nat} {m : Mach} {ws : List (List Nat)} (hE : ∀ k s k1, E k s k1 → s.length ≤ 2) (hA : ∀ w k, n ≤ w.length → Bl E 0 w k → k = f ∨ (∃ s k1, E k s k1) → k ∈ A) (hO : ∀ w k, n ≤ w.length + 1 → Bl E 0 w k → (∃ s k1, E k s k1) → k ∈ O)
    (hw : ∀ w, Wd L w → w.length < n → w ∈ ws) (h : MSpec L (BLang E f) m) : m.st.length ≤ ws.length + (bls A.length).length * (1 + L * ((bls O.length).filter (·.any id)).length) := by
  have := h.few (cW E A O n) (ws.map .inl ++ (bls A.length).flatMap fun a => (none :: (List.range L).flatMap fun c => ((bls O.length).filter (·.any id)).map fun b => some (c, b)).map fun o => .inr (a, o)) (fun w hwd => ?_) fun u v hu hv e x hx => ⟨bl_half hE hA hO e, bl_half hE hA hO e.symm⟩
  · rw [List.length_append, List.length_map, List.length_flatMap] at this
    have e : ((bls A.length).map fun a => ((none :: (List.range L).flatMap fun c => ((bls O.length).filter (·.any id)).map fun b => some (c, b)).map fun o => (Sum.inr (a, o) : List Nat ⊕ (List Bool × Option (Nat × List Bool)))).length) = List.replicate (bls A.length).length (1 + L * ((bls O.length).filter (·.any id)).length) := by
      refine List.eq_replicate_iff.mpr ⟨List.length_map .., fun b hb => ?_⟩
      obtain ⟨a, _, rfl⟩ := List.mem_map.mp hb
      rw [List.length_map, List.length_cons, List.length_flatMap]
      have : ((List.range L).map fun c => (((bls O.length).filter (·.any id)).map fun b => some (c, b)).length) = List.replicate L ((bls O.length).filter (·.any id)).length := by
        refine List.eq_replicate_iff.mpr ⟨by simp, fun b hb => ?_⟩
        obtain ⟨c, _, rfl⟩ := List.mem_map.mp hb
        exact List.length_map ..
      rw [this, List.sum_replicate_nat]; omega
    rw [e, List.sum_replicate_nat] at this
    exact this
  · unfold cW
    split
    · rename_i hl
      exact List.mem_append_left _ (List.mem_map.mpr ⟨w, hw w hwd hl, rfl⟩)
    · refine List.mem_append_right _ (List.mem_flatMap.mpr ⟨cA E A w, ?_, List.mem_map.mpr ⟨cO E O w, ?_, rfl⟩⟩)
      · have : (cA E A w).length = A.length := List.length_map ..
        rw [← this]; exact mem_bls
      · cases q : cO E O w with
        | none => exact List.mem_cons_self
        | some x =>
          obtain ⟨c, b⟩ := x
          obtain ⟨w1, rfl, rfl, hb⟩ := cO_some q
          refine List.mem_cons_of_mem _ (List.mem_flatMap.mpr ⟨c, List.mem_range.mpr (hwd.right c (List.mem_singleton.mpr rfl)), List.mem_map.mpr ⟨_, List.mem_filter.mpr ⟨?_, hb⟩, rfl⟩⟩)
          have : (cA E O w1).length = O.length := List.length_map ..
          rw [← this]; exact mem_bls
/-- lengths -/
theorem bl_len (hE : ∀ k s k1, E k s k1 → s.length ≤ 2) {top : Nat} (h : ∀ k s k1, E k s k1 → (k1 = k + 1 ∧ k < top) ∨ (k = top ∧ k1 = top)) {k m : Nat} {w : List Nat} (b : Bl E k w m) (hk : k ≤ top) : m ≤ top ∧ (m = top ∨ (k ≤ m ∧ w.length ≤ 2 * (m - k))) := by
  induction b with
  | nil k => exact ⟨hk, .inr ⟨Nat.le_refl _, Nat.zero_le _⟩⟩
  | @step k k1 k2 s w e g ih =>
    have hl := hE _ _ _ e
    rcases h _ _ _ e with ⟨rfl, h2⟩ | ⟨rfl, rfl⟩
    · obtain ⟨i1, i2⟩ := ih (by omega)
      refine ⟨i1, i2.imp id fun ⟨i3, i4⟩ => ⟨by omega, ?_⟩⟩
      rw [List.length_append]; omega
    · obtain ⟨i1, i2⟩ := ih (Nat.le_refl _)
      exact ⟨i1, .inl (i2.elim id fun i => Nat.le_antisymm i1 i.1)⟩
end
end K44
end
section
set_option maxHeartbeats 4000000
/-! Languages; few states. -/
namespace K44
def cat (A B : List Nat → Prop) : List Nat → Prop := fun w => ∃ u v, w = u ++ v ∧ A u ∧ B v
def eth (A B : List Nat → Prop) : List Nat → Prop := fun w => A w ∨ B w
inductive Star (A : List Nat → Prop) : List Nat → Prop
  | nil : Star A []
  | app {u v : List Nat} : A u → Star A v → Star A (u ++ v)
theorem Star.app2 {A : List Nat → Prop} {u v : List Nat} (h : Star A u) (g : Star A v) : Star A (u ++ v) := by
  induction h with
  | nil => exact g
  | app a _ ih => rw [List.append_assoc]; exact .app a ih
theorem Star.one {A : List Nat → Prop} {u : List Nat} (h : A u) : Star A u := by
  have := Star.app h .nil
  rwa [List.append_nil] at this
theorem Star.snoc {A : List Nat → Prop} {u v : List Nat} (h : Star A u) (g : A v) : Star A (u ++ v) := h.app2 (.one g)
theorem star_star {A : List Nat → Prop} {w : List Nat} : Star (Star A) w ↔ Star A w := by
  refine ⟨fun h => ?_, fun h => .one h⟩
  induction h with
  | nil => exact .nil
  | app a _ ih => exact a.app2 ih
theorem cat_congr {A A' B B' : List Nat → Prop} (h : ∀ w, A w ↔ A' w) (g : ∀ w, B w ↔ B' w) (w : List Nat) : cat A B w ↔ cat A' B' w := by
  unfold cat
  exact ⟨fun ⟨u, v, e, a, b⟩ => ⟨u, v, e, (h u).mp a, (g v).mp b⟩, fun ⟨u, v, e, a, b⟩ => ⟨u, v, e, (h u).mpr a, (g v).mpr b⟩⟩
theorem star_congr {A A' : List Nat → Prop} (h : ∀ w, A w ↔ A' w) (w : List Nat) : Star A w ↔ Star A' w := by
  have key : ∀ {A A' : List Nat → Prop}, (∀ w, A w ↔ A' w) → ∀ {w}, Star A w → Star A' w := by
    intro A A' h w g
    induction g with
    | nil => exact .nil
    | app a _ ih => exact .app ((h _).mp a) ih
  exact ⟨key h, key fun w => (h w).symm⟩
/-- edges told by a table -/
def Ed (tb : List (Nat × Nat × Nat)) (S : Nat → List Nat → Prop) : Nat → List Nat → Nat → Prop := fun k s k1 => ∃ i, (k, i, k1) ∈ tb ∧ S i s
def Short (S : List Nat → Prop) (n : Nat) : Prop := ∀ w, S w → w.length ≤ n
section
variable {S : Nat → List Nat → Prop} {tb : List (Nat × Nat × Nat)} {f : Nat}
theorem ed2 (h : ∀ i, Short (S i) 2) : ∀ k s k1, Ed tb S k s k1 → s.length ≤ 2 := fun k s k1 ⟨i, _, h1⟩ => h i s h1
theorem ed_mem {k k1 : Nat} {s : List Nat} (h : Ed tb S k s k1) : ∃ i, (k, i, k1) ∈ tb ∧ S i s := h
/-- the two letters' longest list of words -/
theorem wl2 : (wl 2 4).length = 31 ∧ (wl 2 3).length = 15 ∧ (wl 2 2).length = 7 := by decide +kernel
theorem wl_mono {L : Nat} (hL : L ≤ 2) {n : Nat} {w : List Nat} (h : Wd L w) (hn : w.length ≤ n) : w ∈ wl 2 n := mem_wl.mpr ⟨hn, fun c hc => Nat.lt_of_lt_of_le (h c hc) hL⟩
theorem mulL {L a b : Nat} (hL : L ≤ 2) : a * (1 + L * b) ≤ a * (1 + 2 * b) := Nat.mul_le_mul_left _ (Nat.add_le_add_left (Nat.mul_le_mul_right _ hL) _)
theorem few_ed {L n : Nat} {m : Mach} (A O : List Nat) (ws : List (List Nat)) (N : Nat) (hL : L ≤ 2) (hS : ∀ i, Short (S i) 2) (hA : ∀ w k, n ≤ w.length → Bl (Ed tb S) 0 w k → k = f ∨ (∃ s k1, Ed tb S k s k1) → k ∈ A) (hO : ∀ w k, n ≤ w.length + 1 → Bl (Ed tb S) 0 w k → (∃ s k1, Ed tb S k s k1) → k ∈ O)
    (hw : ∀ w, Wd L w → w.length < n → w ∈ ws) (hN : ws.length + (bls A.length).length * (1 + 2 * ((bls O.length).filter (·.any id)).length) ≤ N) {lang : List Nat → Prop} (h : MSpec L lang m) (e : ∀ w, BLang (Ed tb S) f w ↔ lang w) : m.st.length ≤ N :=
  Nat.le_trans (bl_few (ed2 hS) hA hO hw (h.congr fun w _ => (e w).symm)) (Nat.le_trans (Nat.add_le_add_left (mulL hL) _) hN)
/-- a chain of the tables' steps -/
theorem bl_cons (h : ∀ e ∈ tb, e.1 ≠ f) {w : List Nat} : Bl (Ed tb S) f w f ↔ w = [] := by
  refine ⟨fun g => ?_, fun e => e ▸ .nil f⟩
  rcases g.cases' with ⟨_, e⟩ | ⟨s, k1, v, _, ⟨i, hi, _⟩, _⟩
  · exact e
  · exact absurd rfl (h _ hi)
theorem bl_next {k i k1 : Nat} (hk : k ≠ f) (hm : (k, i, k1) ∈ tb) (h : ∀ e ∈ tb, e.1 = k → e.2 = (i, k1)) {w : List Nat} : Bl (Ed tb S) k w f ↔ cat (S i) (fun v => Bl (Ed tb S) k1 v f) w := by
  refine ⟨fun g => ?_, fun ⟨u, v, e, a, b⟩ => by rw [e]; exact .step ⟨i, hm, a⟩ b⟩
  rcases g.cases' with ⟨e, _⟩ | ⟨s, k2, v, rfl, ⟨j, hj, hs⟩, g⟩
  · exact absurd e hk
  · have := h _ hj rfl
    cases this
    exact ⟨s, v, rfl, hs, g⟩
theorem bl_loop {k i : Nat} (hm : (k, i, k) ∈ tb) (h : ∀ e ∈ tb, e.1 = k → e.2 = (i, k)) {w : List Nat} : Bl (Ed tb S) k w k ↔ Star (S i) w := by
  refine ⟨fun g => ?_, fun g => ?_⟩
  · have key : ∀ {a w b}, Bl (Ed tb S) a w b → a = k → Star (S i) w := by
      intro a w b g
      induction g with
      | nil => exact fun _ => .nil
      | step e _ ih =>
        rintro rfl
        obtain ⟨j, hj, hs⟩ := e
        have := h _ hj rfl
        cases this
        exact .app hs (ih rfl)
    exact key g rfl
  · induction g with
    | nil => exact .nil k
    | app a _ ih => exact .step ⟨i, hm, a⟩ ih
/-- a loop, then one step on -/
theorem bl_loop2 {k i j k1 : Nat} (hk : k ≠ f) (h1 : (k, i, k) ∈ tb) (h2 : (k, j, k1) ∈ tb) (h : ∀ e ∈ tb, e.1 = k → e.2 = (i, k) ∨ e.2 = (j, k1)) {w : List Nat} :
    Bl (Ed tb S) k w f ↔ cat (Star (S i)) (cat (S j) (fun v => Bl (Ed tb S) k1 v f)) w := by
  refine ⟨fun g => ?_, fun ⟨u, v, e, a, b⟩ => ?_⟩
  · have key : ∀ {a w b}, Bl (Ed tb S) a w b → a = k → b = f → cat (Star (S i)) (cat (S j) (fun v => Bl (Ed tb S) k1 v f)) w := by
      intro a w b g
      induction g with
      | nil => exact fun e1 e2 => absurd (e1.symm.trans e2) hk
      | @step a a1 b s v e g ih =>
        rintro rfl rfl
        obtain ⟨i2, hi, hs⟩ := e
        rcases h _ hi rfl with q | q
        · cases q
          obtain ⟨u, x, rfl, h3, h4⟩ := ih rfl rfl
          exact ⟨s ++ u, x, by rw [List.append_assoc], .app hs h3, h4⟩
        · cases q
          exact ⟨[], _, rfl, .nil, s, v, rfl, hs, g⟩
    exact key g rfl rfl
  · obtain ⟨x, y, rfl, h3, h4⟩ := b
    subst e
    have l : ∀ {u}, Star (S i) u → Bl (Ed tb S) k u k := fun {u} a => by
      induction a with
      | nil => exact .nil k
      | app a _ ih => exact .step (⟨i, h1, a⟩ : Ed tb S k _ k) ih
    exact (l a).app (.step ⟨j, h2, h3⟩ h4)
theorem cat_e {A : List Nat → Prop} {w : List Nat} : cat A (fun v => v = []) w ↔ A w :=
  ⟨fun ⟨u, v, e, a, b⟩ => by subst b; rw [List.append_nil] at e; rw [e]; exact a, fun h => ⟨w, [], (List.append_nil w).symm, h, rfl⟩⟩
theorem e_cat {A : List Nat → Prop} {w : List Nat} : cat (fun v => v = []) A w ↔ A w :=
  ⟨fun ⟨u, v, e, a, b⟩ => by subst a; rw [e]; exact b, fun h => ⟨[], w, rfl, rfl, h⟩⟩
theorem cat_assoc {A B C : List Nat → Prop} {w : List Nat} : cat A (cat B C) w ↔ cat (cat A B) C w :=
  ⟨fun ⟨u, v, e, a, x, y, e2, b, c⟩ => ⟨u ++ x, y, by rw [e, e2, List.append_assoc], ⟨u, x, rfl, a, b⟩, c⟩, fun ⟨u, v, e, ⟨x, y, e2, a, b⟩, c⟩ => ⟨x, y ++ v, by rw [e, e2, List.append_assoc], a, y, v, rfl, b, c⟩⟩
end
/-! ### the kinds -/
def sel (l : List (List Nat → Prop)) : Nat → List Nat → Prop := fun i => l.getD i fun w => w = []
theorem sel_short {l : List (List Nat → Prop)} (h : ∀ A ∈ l, Short A 2) (i : Nat) : Short (sel l i) 2 := by
  unfold sel
  rw [List.getD_eq_getElem?_getD]
  cases q : l[i]? with
  | none => intro w h; rw [show w = [] from h]; exact Nat.zero_le _
  | some A => exact h A (List.mem_of_getElem? q)
section
variable {A B C D : List Nat → Prop} {L : Nat} {m : Mach}
theorem mem2 {A B : List Nat → Prop} (a : Short A 2) (b : Short B 2) : ∀ X ∈ [A, B], Short X 2 := fun X h => by
  simp at h; rcases h with rfl | rfl <;> assumption
theorem mem3 {A B C : List Nat → Prop} (a : Short A 2) (b : Short B 2) (c : Short C 2) : ∀ X ∈ [A, B, C], Short X 2 := fun X h => by
  simp at h; rcases h with rfl | rfl | rfl <;> assumption
theorem mem4 {A B C D : List Nat → Prop} (a : Short A 2) (b : Short B 2) (c : Short C 2) (d : Short D 2) : ∀ X ∈ [A, B, C, D], Short X 2 := fun X h => by
  simp at h; rcases h with rfl | rfl | rfl | rfl <;> assumption
/-- at most so far -/
theorem ed_len {tb : List (Nat × Nat × Nat)} {S : Nat → List Nat → Prop} {top : Nat} (hS : ∀ i, Short (S i) 2) (h : ∀ e ∈ tb, (e.2.2 = e.1 + 1 ∧ e.1 < top) ∨ (e.1 = top ∧ e.2.2 = top)) {m : Nat} {w : List Nat} (b : Bl (Ed tb S) 0 w m) : m ≤ top ∧ (m = top ∨ w.length ≤ 2 * m) := by
  have := bl_len (ed2 hS) (top := top) (fun k s k1 ⟨i, hi, _⟩ => h _ hi) b (Nat.zero_le _)
  exact ⟨this.1, this.2.imp id fun x => x.2⟩
theorem few_ss (hL : L ≤ 2) (a : Short A 2) (b : Short B 2) (h : MSpec L (cat A B) m) : m.st.length ≤ 13 := by
  have hS := sel_short (mem2 a b)
  refine few_ed (tb := [(0, 0, 1), (1, 1, 2)]) (S := sel [A, B]) (f := 2) (n := 3) [2] [1] (wl 2 2) 13 hL hS (fun w k hw g _ => ?_) (fun w k hw g ⟨s, k1, i, hi, _⟩ => ?_) (fun w hw hl => wl_mono hL hw (by omega)) (by decide +kernel) h fun w => ?_
  · obtain ⟨h1, h2⟩ := ed_len (top := 2) hS (by decide) g
    have : k = 2 := by omega
    simp [this]
  · obtain ⟨h1, h2⟩ := ed_len (top := 2) hS (by decide) g
    have : k ≠ 2 := fun z => by subst z; simp at hi
    have : k = 1 := by omega
    simp [this]
  · refine (bl_next (by decide) (i := 0) (k1 := 1) (by decide) (by decide)).trans (cat_congr (fun _ => Iff.rfl) (fun v => ?_) w)
    refine (bl_next (by decide) (i := 1) (k1 := 2) (by decide) (by decide)).trans ((cat_congr (fun _ => Iff.rfl) (fun x => bl_cons (by decide)) v).trans cat_e)
theorem few_star (hL : L ≤ 2) (a : Short A 2) (h : MSpec L (Star A) m) : m.st.length ≤ 6 := by
  have hS := sel_short (mem2 a a)
  refine few_ed (tb := [(0, 0, 0)]) (S := sel [A, A]) (f := 0) (n := 0) [0] [0] [] 6 hL hS (fun w k hw g q => ?_) (fun w k hw g ⟨s, k1, i, hi, _⟩ => ?_) (fun w hw hl => absurd hl (Nat.not_lt_zero _)) (by decide +kernel) h fun w => bl_loop (tb := [(0, 0, 0)]) (S := sel [A, A]) (k := 0) (i := 0) (by decide) (by decide)
  · rcases q with rfl | ⟨s, k1, i, hi, _⟩
    · decide
    · simp at hi; simp [hi.1]
  · simp at hi; simp [hi.1]
theorem few_ss_star (hL : L ≤ 2) (a : Short A 2) (b : Short B 2) (h : MSpec L (Star (cat A B)) m) : m.st.length ≤ 60 := by
  have hS := sel_short (mem2 a b)
  refine few_ed (tb := [(0, 0, 1), (1, 1, 0)]) (S := sel [A, B]) (f := 0) (n := 0) [0, 1] [0, 1] [] 60 hL hS (fun w k hw g q => ?_) (fun w k hw g ⟨s, k1, i, hi, _⟩ => ?_) (fun w hw hl => absurd hl (Nat.not_lt_zero _)) (by decide +kernel) h fun w => ?_
  · rcases q with rfl | ⟨s, k1, i, hi, _⟩
    · decide
    · simp at hi; rcases hi with hi | hi <;> simp [hi.1]
  · simp at hi; rcases hi with hi | hi <;> simp [hi.1]
  · refine ⟨fun g => ?_, fun g => ?_⟩
    · have key : ∀ {a w b}, Bl (Ed [(0, 0, 1), (1, 1, 0)] (sel [A, B])) a w b → b = 0 → (a = 0 → Star (cat A B) w) ∧ (a = 1 → cat B (Star (cat A B)) w) := by
        intro a w b g
        induction g with
        | nil => rintro rfl; exact ⟨fun _ => .nil, fun z => by cases z⟩
        | step e g ih =>
          rintro rfl
          obtain ⟨i, hi, hs⟩ := e
          obtain ⟨i1, i2⟩ := ih rfl
          simp at hi
          rcases hi with ⟨rfl, rfl, rfl⟩ | ⟨rfl, rfl, rfl⟩
          · refine ⟨fun _ => ?_, fun z => by cases z⟩
            obtain ⟨x, y, rfl, h1, h2⟩ := i2 rfl
            rw [← List.append_assoc]
            exact .app ⟨_, x, rfl, hs, h1⟩ h2
          · exact ⟨fun z => (by cases z), fun _ => ⟨_, _, rfl, hs, i1 rfl⟩⟩
      exact (key g rfl).1 rfl
    · show Bl _ 0 w 0
      induction g with
      | nil => exact .nil 0
      | app a _ ih =>
        obtain ⟨u, v, rfl, h1, h2⟩ := a
        rw [List.append_assoc]
        exact .step (k1 := 1) ⟨0, by decide, h1⟩ (.step (k1 := 0) ⟨1, by decide, h2⟩ ih)
theorem few_ssss (hL : L ≤ 2) (a : Short A 2) (b : Short B 2) (c : Short C 2) (d : Short D 2) (h : MSpec L (cat (cat A B) (cat C D)) m) : m.st.length ≤ 60 := by
  have hS := sel_short (mem4 a b c d)
  refine few_ed (tb := [(0, 0, 1), (1, 1, 2), (2, 2, 3), (3, 3, 4)]) (S := sel [A, B, C, D]) (f := 4) (n := 5) [3, 4] [2, 3] (wl 2 4) 60 hL hS (fun w k hw g _ => ?_) (fun w k hw g ⟨s, k1, i, hi, _⟩ => ?_) (fun w hw hl => wl_mono hL hw (by omega)) (by decide +kernel) h fun w => ?_
  · obtain ⟨h1, h2⟩ := ed_len (top := 4) hS (by decide) g
    have : k = 3 ∨ k = 4 := by omega
    simp [this]
  · obtain ⟨h1, h2⟩ := ed_len (top := 4) hS (by decide) g
    have : k ≠ 4 := fun z => by subst z; simp at hi
    have : k = 2 ∨ k = 3 := by omega
    simp [this]
  · refine (bl_next (by decide) (i := 0) (k1 := 1) (by decide) (by decide)).trans (((cat_congr (fun _ => Iff.rfl) (fun v => ?_) w).trans cat_assoc))
    refine (bl_next (by decide) (i := 1) (k1 := 2) (by decide) (by decide)).trans (cat_congr (fun _ => Iff.rfl) (fun v => ?_) v)
    refine (bl_next (by decide) (i := 2) (k1 := 3) (by decide) (by decide)).trans (cat_congr (fun _ => Iff.rfl) (fun v => ?_) v)
    exact (bl_next (by decide) (i := 3) (k1 := 4) (by decide) (by decide)).trans ((cat_congr (fun _ => Iff.rfl) (fun x => bl_cons (by decide)) v).trans cat_e)
theorem few_ss_s (hL : L ≤ 2) (a : Short A 2) (b : Short B 2) (c : Short C 2) (h : MSpec L (cat (cat A B) (Star C)) m) : m.st.length ≤ 60 := by
  have hS := sel_short (mem3 a b c)
  refine few_ed (tb := [(0, 0, 1), (1, 1, 2), (2, 2, 2)]) (S := sel [A, B, C]) (f := 2) (n := 4) [2] [2] (wl 2 3) 60 hL hS (fun w k hw g _ => ?_) (fun w k hw g _ => ?_) (fun w hw hl => wl_mono hL hw (by omega)) (by decide +kernel) h fun w => ?_
  · obtain ⟨h1, h2⟩ := ed_len (top := 2) hS (by decide) g
    have : k = 2 := by omega
    simp [this]
  · obtain ⟨h1, h2⟩ := ed_len (top := 2) hS (by decide) g
    have : k = 2 := by omega
    simp [this]
  · refine (bl_next (by decide) (i := 0) (k1 := 1) (by decide) (by decide)).trans (((cat_congr (fun _ => Iff.rfl) (fun v => ?_) w).trans cat_assoc))
    refine (bl_next (by decide) (i := 1) (k1 := 2) (by decide) (by decide)).trans (cat_congr (fun _ => Iff.rfl) (fun v => ?_) v)
    exact bl_loop (k := 2) (i := 2) (by decide) (by decide)
theorem few_s_ss (hL : L ≤ 2) (a : Short A 2) (b : Short B 2) (c : Short C 2) (h : MSpec L (cat (Star A) (cat B C)) m) : m.st.length ≤ 60 := by
  have hS := sel_short (mem3 a b c)
  refine few_ed (tb := [(0, 0, 0), (0, 1, 1), (1, 2, 2)]) (S := sel [A, B, C]) (f := 2) (n := 0) [0, 1, 2] [0, 1] [] 60 hL hS (fun w k hw g q => ?_) (fun w k hw g ⟨s, k1, i, hi, _⟩ => ?_) (fun w hw hl => absurd hl (Nat.not_lt_zero _)) (by decide +kernel) h fun w => ?_
  · rcases q with rfl | ⟨s, k1, i, hi, _⟩
    · decide
    · simp at hi; rcases hi with hi | hi | hi <;> simp [hi.1]
  · simp at hi; rcases hi with hi | hi | hi <;> simp [hi.1]
  · refine (bl_loop2 (by decide) (i := 0) (j := 1) (k1 := 1) (by decide) (by decide) (by decide)).trans (cat_congr (fun _ => Iff.rfl) (fun v => cat_congr (fun _ => Iff.rfl) (fun v => ?_) v) w)
    exact (bl_next (by decide) (i := 2) (k1 := 2) (by decide) (by decide)).trans ((cat_congr (fun _ => Iff.rfl) (fun x => bl_cons (by decide)) v).trans cat_e)
theorem few_s_s (hL : L ≤ 2) (a : Short A 2) (b : Short B 2) (h : MSpec L (cat (Star A) (Star B)) m) : m.st.length ≤ 60 := by
  have hS := sel_short (mem2 a b)
  refine few_ed (tb := [(0, 0, 0), (0, 2, 1), (1, 1, 1)]) (S := sel [A, B]) (f := 1) (n := 0) [0, 1] [0, 1] [] 60 hL hS (fun w k hw g q => ?_) (fun w k hw g ⟨s, k1, i, hi, _⟩ => ?_) (fun w hw hl => absurd hl (Nat.not_lt_zero _)) (by decide +kernel) h fun w => ?_
  · rcases q with rfl | ⟨s, k1, i, hi, _⟩
    · decide
    · simp at hi; rcases hi with hi | hi | hi <;> simp [hi.1]
  · simp at hi; rcases hi with hi | hi | hi <;> simp [hi.1]
  · refine (bl_loop2 (by decide) (i := 0) (j := 2) (k1 := 1) (by decide) (by decide) (by decide)).trans (cat_congr (fun _ => Iff.rfl) (fun v => ?_) w)
    exact (cat_congr (A := sel [A, B] 2) (A' := fun v => v = []) (fun _ => Iff.rfl) (fun x => bl_loop (k := 1) (i := 1) (by decide) (by decide)) v).trans e_cat
end
end K44
end
section
set_option maxHeartbeats 4000000
/-! Dicts whose keys are tuples of any depth. -/
namespace K44
open PySem PySem.Spec PyProof.Rows L2
abbrev NKV := NestedKey × Addr × V
abbrev NR : List NKV → List (NestedKey × Addr × Value) → Prop := Paired fun p q => p.1 = q.1 ∧ p.2.1 = q.2.1 ∧ RelV p.2.2 q.2.2
def nAt (kvs : List NKV) (k : NestedKey) : Option V := (kvs.find? fun x => decide (x.1 = k)).map (·.2.2)
def nPut (kvs : List NKV) (k : NestedKey) (a : Addr) (v : V) : List NKV :=
  if (nAt kvs k).isSome then kvs.map (fun x => if x.1 = k then (x.1, x.2.1, v) else x) else kvs ++ [(k, a, v)]
theorem nAt_pos {p : NKV} {r : List NKV} {k : NestedKey} (e : p.1 = k) : nAt (p :: r) k = some p.2.2 := by simp [nAt, List.find?_cons, e]
theorem nAt_neg {p : NKV} {r : List NKV} {k : NestedKey} (e : ¬ p.1 = k) : nAt (p :: r) k = nAt r k := by simp [nAt, List.find?_cons, e]
theorem NR.val {kvs : List NKV} {xs : List (NestedKey × Addr × Value)} (r : NR kvs xs) (k : NestedKey) : RelO (nAt kvs k) ((atKey xs k).map (·.2)) := by
  induction r with
  | nil => exact True.intro
  | @cons p q ps qs h t ih =>
    obtain ⟨h1, _, h2⟩ := h
    by_cases e : p.1 = k
    · have e' : q.1 = k := h1.symm.trans e
      have b : atKey (q :: qs) k = some q.2 := by simp [atKey, List.find?_cons, e']
      rw [nAt_pos e, b]; exact h2
    · have e' : ¬ q.1 = k := fun z => e (h1.trans z)
      have b : atKey (q :: qs) k = atKey qs k := by simp [atKey, List.find?_cons, e']
      rw [nAt_neg e, b]; exact ih
theorem NR.repl {kvs : List NKV} {xs : List (NestedKey × Addr × Value)} (r : NR kvs xs) (k : NestedKey) {y : V} {u : Value} (ry : RelV y u) :
    NR (kvs.map fun x => if x.1 = k then (x.1, x.2.1, y) else x) (xs.map (putAt k u)) := by
  induction r with
  | nil => exact .nil
  | @cons p q ps qs h t ih =>
    rw [List.map_cons, List.map_cons]
    refine .cons ?_ ih
    obtain ⟨h1, h2, h3⟩ := h
    unfold putAt
    by_cases e : p.1 = k
    · rw [if_pos e, if_pos (h1.symm.trans e)]; exact ⟨h1, h2, ry⟩
    · rw [if_neg e, if_neg (fun z => e (h1.trans z))]; exact ⟨h1, h2, h3⟩
theorem NR.put {kvs : List NKV} {xs : List (NestedKey × Addr × Value)} (r : NR kvs xs) (k : NestedKey) (b : Addr) {y : V} {u : Value} (ry : RelV y u) : NR (nPut kvs k b y) (storedH xs k b u) := by
  have e : (nAt kvs k).isSome = (atKey xs k).isSome := by rw [(r.val k).isSome_eq, Option.isSome_map]
  unfold nPut storedH
  rw [e]
  by_cases q : (atKey xs k).isSome = true
  · rw [if_pos q, if_pos q]; exact r.repl k ry
  · rw [if_neg q, if_neg q]; exact Paired.snoc r ⟨rfl, rfl, ry⟩
theorem nPut_len (kvs : List NKV) (k : NestedKey) (a : Addr) (v : V) : (nPut kvs k a v).length ≤ kvs.length + 1 := by
  unfold nPut
  split
  · rw [List.length_map]; omega
  · rw [List.length_append]; simp
theorem nPut_new {kvs : List NKV} {k : NestedKey} {a : Addr} {v : V} (h : nAt kvs k = none) : nPut kvs k a v = kvs ++ [(k, a, v)] := by
  unfold nPut; rw [h]; rfl
/-- the object -/
def NdP (P : Program) (w : World) (a : Addr) (kvs : List NKV) (h : Heap) : Prop :=
  kvs.length ≤ sizeLine ∧ (a == sysModules) = false ∧ ∃ xs, NR kvs xs ∧ ∃ o es ep, h.get? a = some o ∧ o.ExactDict ∧ o.data = .dict es ep ∧ es.toList = xs.map (entryOfKey (nestedKind P w)) ∧ (xs.map (·.1)).Nodup
def NdO (P : Program) (w : World) (a : Addr) (kvs : List NKV) : HO := .ext (NdP P w a kvs)
/-- the value v is the key k -/
def NkAt (K : PySem.W.Frag) (H : Hp) (v : V) (k : NestedKey) : Prop := Dp K H v k.data ∧ k.depth ≤ 8
/-- a dict with nested keys: the object, its keys' tuples -/
def NdAt (P : Program) (w : World) (K : PySem.W.Frag) (H : Hp) (a : Addr) (kvs : List NKV) : Prop := H a = some (NdO P w a kvs) ∧ ∀ p ∈ kvs, NkAt K H (.ref p.2.1) p.1
theorem NkAt.on {K : PySem.W.Frag} {H H' : Hp} {v : V} {k : NestedKey} (h : NkAt K H v k) (e : Same H H') : NkAt K H' v k := ⟨dpOn h.1 e, h.2⟩
theorem NdAt.on {P : Program} {w : World} {K : PySem.W.Frag} {H H' : Hp} {a : Addr} {kvs : List NKV} (h : NdAt P w K H a kvs) (e : Same H H') : NdAt P w K H' a kvs := ⟨e _ _ h.1, fun p hp => (h.2 p hp).on e⟩
section
variable {X : Cx} {pins : List (Addr × Obj)} {σ : L2.St} {H : Hp} {s : Shared} {a : Addr} {kvs : List NKV} {k : NestedKey} {u : Value} {A : Around} {E : Value → Shared → Prop}
mutual
theorem nk_is (I : Inv X pins σ H s) : ∀ (k : NestedKey) (v : V) (u : Value), Dp X.K H v k.data → RelV v u → NestedIs s.heap k u
  | .none, _, _, h, r => by
    rw [NestedKey.data] at h; cases h; cases r; exact .none
  | .num i, _, _, h, r => by
    rw [NestedKey.data] at h; cases h; obtain ⟨t, rfl⟩ := r; exact .int i t
  | .text x, _, _, h, r => by
    rw [NestedKey.data] at h; cases h; obtain ⟨t, rfl⟩ := r; exact .text x t
  | .tup ks, _, _, h, r => by
    rw [NestedKey.data] at h
    cases h with
    | tup hs ha =>
      cases r
      obtain ⟨its, rv, ⟨o, h1, h2, n, h3⟩, _⟩ := I.tuple hs
      exact .tup h1 h2 h3 (by simpa using nks_is I ks _ its ha rv)
theorem nks_is (I : Inv X pins σ H s) : ∀ (ks : List NestedKey) (vs : List V) (us : List Value), DpAll X.K H vs (NestedKey.datas ks) → Vals vs us → NestedAll s.heap ks us
  | [], _, _, h, r => by
    rw [NestedKey.datas] at h; cases h; cases r; exact .nil
  | k :: ks, _, _, h, r => by
    rw [NestedKey.datas] at h
    cases h with
    | cons h1 h2 =>
      cases r with
      | cons r1 r2 => exact .cons (nk_is I k _ _ h1 r1) (nks_is I ks _ _ h2 r2)
end
theorem nk_key (I : Inv X pins σ H s) {b : Addr} (h : NkAt X.K H (.ref b) k) : (nestedKind X.prog X.w).is s.heap k b := ⟨nk_is I k _ _ h.1 rfl, h.2⟩
theorem nd_at (I : Inv X pins σ H s) (h : NdAt X.prog X.w X.K H a kvs) : kvs.length ≤ sizeLine ∧ (a == sysModules) = false ∧ ∃ xs, NR kvs xs ∧ s.heap.DictOfH (nestedKind X.prog X.w) a xs := by
  obtain ⟨⟨z, hd, xs, r, o, es, ep, h1, h2, h3, h4, h5⟩, _, _⟩ := I.hok a _ h.1
  refine ⟨z, hd, xs, r, o, es, ep, h1, h2, h3, h4, fun x hx => ?_, h5⟩
  have all : ∀ {l : List NKV} {m : List (NestedKey × Addr × Value)}, NR l m → (∀ p ∈ l, NkAt X.K H (.ref p.2.1) p.1) → ∀ x ∈ m, (nestedKind X.prog X.w).is s.heap x.1 x.2.1 := by
    intro l m q
    induction q with
    | nil => intro _ x hx; exact nomatch hx
    | @cons p q ps qs hq t ih =>
      intro hl x hx
      rcases List.mem_cons.mp hx with e | hx
      · subst e
        have z := hl p List.mem_cons_self
        rw [hq.1, hq.2.1] at z
        exact nk_key I z
      · exact ih (fun p hp => hl p (List.mem_cons_of_mem _ hp)) x hx
  exact all r h.2 x hx
theorem ndO_new {P : Program} {w : World} {H' : Hp} {h' : Heap} {xs : List (NestedKey × Addr × Value)} (z : kvs.length ≤ sizeLine) (hd : (a == sysModules) = false) (r : NR kvs xs) (dd : h'.DictOfH (nestedKind P w) a xs) : ObjOk P w H' h' a (NdO P w a kvs) := by
  obtain ⟨o, es, ep, h1, h2, h3, h4, _, h5⟩ := dd
  exact ⟨⟨z, hd, xs, r, o, es, ep, h1, h2, h3, h4, h5⟩, ⟨o, h1⟩, fun g1 g2 ⟨z1, z2, ys, r', o', es', ep', k1, k2, k3, k4, k5⟩ st => ⟨z1, z2, ys, r', o', es', ep', st _ k1, k2, k3, k4, k5⟩⟩
theorem nd_write {h' : Heap} {t' : Nat} {kvs' : List NKV} {xs : List (NestedKey × Addr × Value)} (I : Inv X pins σ H s) (h : H a = some (NdO X.prog X.w a kvs)) (hs : Heap.SameBut a s.heap h') (z : kvs'.length ≤ sizeLine) (hd : (a == sysModules) = false) (r : NR kvs' xs)
    (dd : h'.DictOfH (nestedKind X.prog X.w) a xs) : Inv X pins σ (upd H a (NdO X.prog X.w a kvs')) { s with heap := h', toks := t' } :=
  d_write I (by rw [h]; exact True.intro) hs (let ⟨o, _, _, h1, _⟩ := dd; ⟨o, h1⟩) (ndO_new z hd r dd)
theorem in1_room (hu : A.units + 64 < cLine) : (nestedKind X.prog X.w).room A.in1 := by
  show A.in1.units + 8 < cLine
  simp only [Around.in1_units]; omega
/-- d[y], there -/
theorem nd_getItem {b : Addr} {v : V} {Q : Value → Shared → Prop} (hu : A.units + 64 < cLine) (I : Inv X pins σ H s) (g : NdAt X.prog X.w X.K H a kvs) (hk : NkAt X.K H (.ref b) k) (hv : nAt kvs k = some v) (h : ∀ w' s', Inv X pins σ H s' → RelV v w' → Q w' s') :
    wpAny (model X.prog X.w) A (getItem (.ref a) (.ref b)) Q E s := by
  obtain ⟨z, hd, xs, r, dd⟩ := nd_at I g
  obtain ⟨w', hw, rw'⟩ := RelO.some_of (v := v) (o := (atKey xs k).map (·.2)) (by rw [← hv]; exact r.val k)
  obtain ⟨p, hp, hp2⟩ := Option.map_eq_some_iff.mp hw
  refine wpAny_getItem_heap (in1_room hu) (nk_key I hk) dd hp ?_
  rw [hp2]
  exact h w' _ (I.tok _) rw'
theorem nd_in {b : Addr} {Q : Value → Shared → Prop} (hu : A.units + 64 < cLine) (I : Inv X pins σ H s) (g : NdAt X.prog X.w X.K H a kvs) (hk : NkAt X.K H (.ref b) k) (h : ∀ s', Inv X pins σ H s' → Q (.bool (nAt kvs k).isSome) s') :
    wpAny (model X.prog X.w) A (compareOp .In (.ref b) (.ref a)) Q E s := by
  obtain ⟨z, hd, xs, r, dd⟩ := nd_at I g
  refine wpAny_in_heap (in1_room hu) (nk_key I hk) hd dd ?_
  have q := (r.val k).isSome_eq
  rw [Option.isSome_map] at q
  rw [← q]
  exact h _ (I.tok _)
theorem nd_notIn {b : Addr} {Q : Value → Shared → Prop} (hu : A.units + 64 < cLine) (I : Inv X pins σ H s) (g : NdAt X.prog X.w X.K H a kvs) (hk : NkAt X.K H (.ref b) k) (h : ∀ s', Inv X pins σ H s' → Q (.bool (!(nAt kvs k).isSome)) s') :
    wpAny (model X.prog X.w) A (compareOp .NotIn (.ref b) (.ref a)) Q E s := by
  obtain ⟨z, hd, xs, r, dd⟩ := nd_at I g
  refine wpAny_notIn_heap (in1_room hu) (nk_key I hk) hd dd ?_
  have q := (r.val k).isSome_eq
  rw [Option.isSome_map] at q
  rw [← q]
  exact h _ (I.tok _)
/-- d[y] = v -/
theorem nd_setItem {b : Addr} {v : V} {r : Value} {Q : Unit → Shared → Prop} (hu : A.units + 64 < cLine) (I : Inv X pins σ H s) (g : NdAt X.prog X.w X.K H a kvs) (hk : NkAt X.K H (.ref b) k) (hl : kvs.length < sizeLine) (rv : RelV v r)
    (h : ∀ s', Inv X pins σ (upd H a (NdO X.prog X.w a (nPut kvs k b v))) s' → Q () s') : wpAny (model X.prog X.w) A (setItem (.ref a) (.ref b) r) Q E s := by
  obtain ⟨z, hd, xs, rr, dd⟩ := nd_at I g
  have hz : xs.length ≤ sizeLine := by rw [← Paired.length rr]; exact z
  refine wpAny_setItem_heap (hsz := hz) (in1_room hu) (nk_key I hk) dd fun h' dd' hs => h _ (nd_write I g.1 hs ?_ hd (rr.put k b rv) dd')
  have := nPut_len kvs k b v
  omega
/-- d.setdefault(y, v) -/
theorem nd_setd {b : Addr} {v : V} {r : Value} {Q : Value → Shared → Prop} (hu : A.units + 64 < cLine) (I : Inv X pins σ H s) (g : NdAt X.prog X.w X.K H a kvs) (hk : NkAt X.K H (.ref b) k) (hl : kvs.length < sizeLine) (rv : RelV v r)
    (h1 : ∀ v0, nAt kvs k = some v0 → ∀ w' s', Inv X pins σ H s' → RelV v0 w' → Q w' s') (h2 : nAt kvs k = none → ∀ s', Inv X pins σ (upd H a (NdO X.prog X.w a (nPut kvs k b v))) s' → Q r s') :
    wpAny (model X.prog X.w) A (call (.builtin "dict.setdefault") [.ref a, .ref b, r]) Q E s := by
  obtain ⟨z, hd, xs, rr, dd⟩ := nd_at I g
  have hz : xs.length ≤ sizeLine := by rw [← Paired.length rr]; exact z
  have q := rr.val k
  refine call_setdefault_heap (hsz := hz) (in1_room hu) (nk_key I hk) hd dd (fun p hp => ?_) fun hn h' dd' hs => ?_
  · rw [hp] at q
    cases q0 : nAt kvs k with
    | none => rw [q0] at q; exact (show False from q).elim
    | some v0 => rw [q0] at q; exact h1 v0 q0 _ _ (I.tok _) q
  · rw [hn] at q
    cases q0 : nAt kvs k with
    | some v0 => rw [q0] at q; exact (show False from q).elim
    | none =>
      refine h2 q0 _ (nd_write I g.1 hs ?_ hd (rr.put k b rv) dd')
      have := nPut_len kvs k b v
      omega
theorem nd_type (I : Inv X pins σ H s) (g : NdAt X.prog X.w X.K H a kvs) : s.TypeIs (.ref a) "dict" := let ⟨_, _, _, _, dd⟩ := nd_at I g; dd.typeIs
end
/-! ### readings -/
section
variable {X : Cx} {o i e f value : Expr} {pos pos' apos cpos : Pos} {td ty tv tx : TE}
def tNGet (P : Program) (w : World) (K : PySem.W.Frag) (td ty : TE) : TE := fun σ H Q => td σ H fun x H1 => ty σ H1 fun y H2 => ∃ (a b : Addr) (kvs : List NKV) (k : NestedKey) (v : V), x = .ref a ∧ y = .ref b ∧ NdAt P w K H2 a kvs ∧ NkAt K H2 (.ref b) k ∧ nAt kvs k = some v ∧ Q v H2
theorem pe_nget (hu : X.A.units + 64 < cLine) (ho : PE X o td) (hi : PE X i ty) (hs : NoSl i) : PE X (.Subscript o i pos) (tNGet X.prog X.w X.K td ty) := by
  refine ⟨fun pins s σ H Q I h => ?_⟩
  refine subD_of PySem.F.slot_dict_getitem.lookup hs (thn (ho.run pins s σ H _ I h) fun u s1 ⟨x, H1, I1, rx, q1⟩ => thn (hi.run pins s1 σ H1 _ I1 q1) fun iv s2 ⟨y, H2, I2, ry, a, b, kvs, k, v, ex, ey, g, hk, hv, q2⟩ => ?_)
  subst ex
  subst ey
  obtain rfl : u = Value.ref a := rx
  obtain rfl : iv = Value.ref b := ry
  exact ⟨nd_type I2 g, nd_getItem hu I2 g hk hv fun w' s3 I3 rw' => ⟨v, H2, I3, rw', q2⟩⟩
def rNIn (P : Program) (w : World) (K : PySem.W.Frag) (neg : Bool) : R2 := fun y x H Q => ∃ (a b : Addr) (kvs : List NKV) (k : NestedKey), x = .ref a ∧ y = .ref b ∧ NdAt P w K H a kvs ∧ NkAt K H (.ref b) k ∧ Q (.bl (if neg then !(nAt kvs k).isSome else (nAt kvs k).isSome)) H
theorem op_nnotin (hu : X.A.units + 64 < cLine) : OpR X (compareOp .NotIn) (rNIn X.prog X.w X.K true) := by
  intro pins s σ H y x v u Q I ry rx h
  obtain ⟨a, b, kvs, k, rfl, rfl, g, hk, q⟩ := h
  cases ry
  cases rx
  exact nd_notIn hu I g hk fun s1 I1 => ⟨.bl (!(nAt kvs k).isSome), H, I1, rfl, q⟩
def sNPut (P : Program) (w : World) (K : PySem.W.Frag) (td ty tv : TE) : TS := fun D σ H => tv σ H fun v H1 => td σ H1 fun x H2 => ty σ H2 fun y H3 => ∃ (a b : Addr) (kvs : List NKV) (k : NestedKey), x = .ref a ∧ y = .ref b ∧ NdAt P w K H3 a kvs ∧ NkAt K H3 (.ref b) k ∧ kvs.length < sizeLine ∧
  D.nx σ (upd H3 a (NdO P w a (nPut kvs k b v)))
theorem ps_nput (hu : X.A.units + 64 < cLine) (ho : PE X o td) (hi : PE X i ty) (hv : PE X value tv) (hs : swapsWith value (some (.Subscript o i pos')) pos.line X.env = pure false) :
    PS X (.Assign [.Subscript o i pos'] value pos) (sNPut X.prog X.w X.K td ty tv) := by
  refine ⟨fun pins s σ H D I h => ?_⟩
  refine wpAny_Assign_Subscript (thn (hv.run pins s σ H _ I h) fun r s1 ⟨v, H1, I1, rv, q1⟩ => thn (ho.run pins s1 σ H1 _ I1 q1) fun u s2 ⟨x, H2, I2, rx, q2⟩ => thn (hi.run pins s2 σ H2 _ I2 q2) fun iv s3 ⟨y, H3, I3, ry, a, b, kvs, k, ex, ey, g, hk, hl, q3⟩ => ?_) hs
  subst ex
  subst ey
  obtain rfl : u = Value.ref a := rx
  obtain rfl : iv = Value.ref b := ry
  exact nd_setItem hu I3 g hk hl rv fun s4 I4 => ⟨σ, _, I4, q3⟩
def rLenN (P : Program) (w : World) (K : PySem.W.Frag) : List V → Hp → VK → Prop := fun xs H Q => ∃ (p : Addr) (kvs : List NKV), xs = [.ref p] ∧ NdAt P w K H p kvs ∧ Q (.int ((kvs.length : Nat) : Int)) H
theorem call_lenN : CallR X (.builtin "len") (rLenN X.prog X.w X.K) := by
  intro pins s σ H xs us Q I r h
  obtain ⟨p, kvs, rfl, hp, q⟩ := h
  obtain ⟨u, rfl, rx⟩ := vals1 r
  obtain rfl : u = .ref p := rx
  obtain ⟨z, hd, ys, rel, dd⟩ := nd_at I hp
  have hl : kvs.length = ys.length := Paired.length rel
  refine call_len_dictH hd dd (by rw [← hl]; rw [sizeLine_eq] at z; omega) ?_
  rw [← hl]
  exact ⟨.int ((kvs.length : Nat) : Int), H, I.tok _, ⟨_, rfl⟩, q⟩
/-- d.setdefault(y, z) -/
def tNSetd (P : Program) (w : World) (K : PySem.W.Frag) (td ty tx : TE) : TE := fun σ H Q => td σ H fun x H1 => ∃ (a : Addr), x = .ref a ∧ (∃ kvs, NdAt P w K H1 a kvs) ∧ ty σ H1 fun y H2 => tx σ H2 fun z H3 => ∃ (b : Addr) (kvs : List NKV) (k : NestedKey), y = .ref b ∧ NdAt P w K H3 a kvs ∧ NkAt K H3 (.ref b) k ∧ kvs.length < sizeLine ∧
  (∀ v, nAt kvs k = some v → Q v H3) ∧ (nAt kvs k = none → Q z (upd H3 a (NdO P w a (nPut kvs k b z))))
theorem pe_nsetd (hu : X.A.units + 64 < cLine) (ho : PE X o td) (he : PE X e ty) (hf : PE X f tx) (m : M2 X o "setdefault" apos e f cpos) : PE X (.Call (.Attribute o "setdefault" apos) [e, f] [] cpos) (tNSetd X.prog X.w X.K td ty tx) := by
  refine ⟨fun pins s σ H Q I h => ?_⟩
  refine wpAny_Call_method m.base m.few m.line PySem.F.plainAttrs_dict PySem.F.slot_dict_setdefault PySem.F.type_dict_setdefault (thn (ho.run pins s σ H _ I h) fun u s1 ⟨x, H1, I1, rx, a, ex, ⟨kv0, d⟩, q1⟩ => ?_)
  subst ex
  obtain rfl : u = Value.ref a := rx
  refine ⟨nd_type I1 d, fun b q => ?_, ?_⟩
  · cases q
    obtain ⟨_, _, xs, _, ob, _, _, h1, h2, _⟩ := nd_at I1 d
    exact ⟨ob, h1, h2.2.1⟩
  rw [m.trees]
  refine Calls.callWith_builtin rfl (Calls.evalArgs_plain (Calls.spliced_cons (thn (he.run pins s1 σ H1 _ I1 q1) fun iv s2 ⟨y, H2, I2, ry, q2⟩ =>
    Calls.spliced_cons (thn (hf.run pins s2 σ H2 _ I2 q2) fun fv s3 ⟨z, H3, I3, rz, b, kvs, k, ey, g, hk, hl, q3, q4⟩ => Calls.spliced_nil ?_))))
  subst ey
  obtain rfl : iv = Value.ref b := ry
  exact nd_setd hu I3 g hk hl rz (fun v hv w' s4 I4 rw' => ⟨v, _, I4, rw', q3 v hv⟩) fun hn s4 I4 => ⟨z, _, I4, rz, q4 hn⟩
/-- {} -/
def tNNew (P : Program) (w : World) : TE := fun _ H Q => ∀ p, H p = none → Q (.ref p) (upd H p (NdO P w p []))
theorem pe_nnew : PE X (.Dict [] [] pos) (tNNew X.prog X.w) := ⟨fun pins s σ H Q I h =>
  wpAny_Dict_empty ⟨.ref s.heap.objs.size, _, I.laid (a := s.heap.objs.size) (o := NdO X.prog X.w s.heap.objs.size []) (t' := s.toks) (fun _ _ q => Heap.get?_push_of_some _ q) (Nat.le_refl _)
    (ndO_new (Nat.zero_le _) (beq_eq_false_iff_ne.mpr (Ne.symm (Nat.ne_of_lt I.big))) .nil (Heap.DictOfH.new s.heap)), rfl, h _ (I.hok.fresh (Nat.le_refl _))⟩⟩
/-- {y: v}, y such a key -/
def tNDisp1 (P : Program) (w : World) (K : PySem.W.Frag) (ty tv : TE) : TE := fun σ H Q => ∀ p, H p = none → ty σ (upd H p (NdO P w p [])) fun y H1 => tv σ H1 fun v H2 => H2 p = some (NdO P w p []) ∧ ∃ (b : Addr) (k : NestedKey), y = .ref b ∧ NkAt K H2 (.ref b) k ∧ Q (.ref p) (upd H2 p (NdO P w p [(k, b, v)]))
theorem pe_ndisp1 (hu : X.A.units + 64 < cLine) (hk : PE X e ty) (hv : PE X f tv) : PE X (.Dict [some e] [f] pos) (tNDisp1 X.prog X.w X.K ty tv) := by
  refine ⟨fun pins s σ H Q I q => ?_⟩
  have hn := I.hok.fresh (Nat.le_refl s.heap.objs.size)
  have hsys : (s.heap.objs.size == sysModules) = false := beq_eq_false_iff_ne.mpr (Ne.symm (Nat.ne_of_lt I.big))
  have I1 := I.laid (a := s.heap.objs.size) (o := NdO X.prog X.w s.heap.objs.size []) (h' := s.heap.push { cls := .type "dict", data := .dict #[] }) (t' := s.toks) (fun _ _ q => Heap.get?_push_of_some _ q) (Nat.le_refl _) (ndO_new (Nat.zero_le _) hsys .nil (Heap.DictOfH.new s.heap))
  have q1 := q _ hn
  rw [arm_eval_Dict, zip_pairTrees [some e] [f] X.env pos rfl rfl, dictDisplay_pairs (pairTrees [some e] [f] X.env pos) (by simp [pairTrees]) (by simp [pairTrees])]
  refine wpAny_bind (wpAny_standAt (wpAny_bind (wpAny_subDictH (knd := nestedKind X.prog X.w) (show X.A.units + 8 < cLine by omega) (by simp [pairTrees]) (thn ((pps_cons hk hv pps_nil).run pins _ σ _ (fun ps H2 => ∃ (y v : V), ps = [(y, v)] ∧ H2 s.heap.objs.size = some (NdO X.prog X.w s.heap.objs.size []) ∧ ∃ (b : Addr) (k : NestedKey), y = .ref b ∧ NkAt X.K H2 (.ref b) k ∧ Q (.ref s.heap.objs.size) (upd H2 s.heap.objs.size (NdO X.prog X.w s.heap.objs.size [(k, b, v)]))) I1 ?_) fun ws s2 ⟨ps, H2, I2, rel, y, v, ep, e2, b, k, ey, hkk, q2⟩ => ?_))))
  · show ty σ _ _
    have e0 : (fun (x : V) (H1 : Hp) => tv σ H1 fun (y : V) (H2 : Hp) => ∃ (y' v : V), [(x, y)] = [(y', v)] ∧ H2 s.heap.objs.size = some (NdO X.prog X.w s.heap.objs.size []) ∧ ∃ (b : Addr) (k : NestedKey), y' = .ref b ∧ NkAt X.K H2 (.ref b) k ∧ Q (.ref s.heap.objs.size) (upd H2 s.heap.objs.size (NdO X.prog X.w s.heap.objs.size [(k, b, v)]))) =
        fun (x : V) (H1 : Hp) => tv σ H1 fun (v : V) (H2 : Hp) => H2 s.heap.objs.size = some (NdO X.prog X.w s.heap.objs.size []) ∧ ∃ (b : Addr) (k : NestedKey), x = .ref b ∧ NkAt X.K H2 (.ref b) k ∧ Q (.ref s.heap.objs.size) (upd H2 s.heap.objs.size (NdO X.prog X.w s.heap.objs.size [(k, b, v)])) := by
      funext x H1
      congr 1
      funext v H2
      refine propext ⟨fun ⟨y', v', e, r⟩ => ?_, fun r => ⟨x, v, rfl, r⟩⟩
      injection e with e _
      injection e with e1 e2
      subst e1
      subst e2
      exact r
    have e9 := e0.symm ▸ q1
    exact e9
  · subst ep
    subst ey
    cases rel with
    | @cons _ w0 _ _ r0 rt =>
      cases rt
      obtain ⟨r1, r2⟩ := r0
      obtain ⟨u1, u2⟩ := w0
      obtain rfl : u1 = Value.ref b := r1
      have g0 : NdAt X.prog X.w X.K H2 s.heap.objs.size [] := ⟨e2, fun p hp => nomatch hp⟩
      obtain ⟨_, _, xs, rr, dd⟩ := nd_at I2 g0
      cases rr
      refine ⟨[(k, b, u2)], ⟨rfl, rfl, nk_key I2 hkk, trivial⟩, dd, fun h' tk dd' hs => wpAny_pure ⟨.ref s.heap.objs.size, _, nd_write (kvs' := [(k, b, v)]) (xs := [(k, b, u2)]) (t' := tk) I2 e2 hs (by rw [sizeLine_eq]; simp) hsys (.cons ⟨rfl, rfl, r2⟩ .nil) ?_, rfl, q2⟩⟩
      have e3 : storedAllH [] [(k, b, u2)] = [(k, b, u2)] := by
        show storedH [] k b u2 = _
        exact storedH_new (by rfl) b u2
      rw [← e3]
      exact dd'
end
end K44
end
section
set_option maxHeartbeats 4000000
/-! Patterns and readings as plain data. -/
namespace K44
open PySem
def sgs (L : Nat) : List Nat := [97, 98, 99].take L
def idx (s : Str) : List Nat := s.cps.toList.map (· - 97)
inductive Pat where
  | word (s : Str) | name (n : Nat) | beh (p q : Pat) | eit (p q : Pat) | rnd (p : Pat)
def Pat.d : Pat → PyData
  | .word s => .tuple [.str "word", .str s]
  | .name n => .tuple [.str "name", .int n]
  | .beh p q => .tuple [.str "behind", p.d, q.d]
  | .eit p q => .tuple [.str "either", p.d, q.d]
  | .rnd p => .tuple [.str "round", p.d]
def Pat.dep : Pat → Nat
  | .word _ => 1
  | .name _ => 1
  | .beh p q => max p.dep q.dep + 1
  | .eit p q => max p.dep q.dep + 1
  | .rnd p => p.dep + 1
def Pat.parts : Pat → Nat
  | .word _ => 1
  | .name _ => 1
  | .beh p q => p.parts + q.parts + 1
  | .eit p q => p.parts + q.parts + 1
  | .rnd p => p.parts + 1
/-- words of so many letters, at most so many signs; names 0, 1 -/
def Pat.good (L : Nat) : Pat → Prop
  | .word s => s.length ≤ 2 ∧ ∀ c ∈ s.cps.toList, c ∈ sgs L
  | .name n => n < 2
  | .beh p q => p.good L ∧ q.good L
  | .eit p q => p.good L ∧ q.good L
  | .rnd p => p.good L
inductive Rd where
  | word (s : Str) | name (n : Nat) (s : Str) | beh (r s : Rd) | eit (b : Bool) (r : Rd) | rnd (t : Bool) (rs : List Rd)
def b01 (b : Bool) : Int := if b = true then 1 else 0
mutual
def Rd.d : Rd → PyData
  | .word s => .tuple [.str "word", .str s]
  | .name n s => .tuple [.str "name", .int n, .str s]
  | .beh r s => .tuple [.str "behind", r.d, s.d]
  | .eit b r => .tuple [.str "either", .int (b01 b), r.d]
  | .rnd true rs => .tuple [.str "round", .tuple (rdsD rs)]
  | .rnd false rs => .tuple [.str "round", .list (rdsD rs)]
def rdsD : List Rd → List PyData
  | [] => []
  | r :: rs => r.d :: rdsD rs
end
mutual
def Rd.dep : Rd → Nat
  | .word _ => 1
  | .name _ _ => 1
  | .beh r s => max r.dep s.dep + 1
  | .eit _ r => r.dep + 1
  | .rnd _ rs => rdsDep rs + 1
def rdsDep : List Rd → Nat
  | [] => 0
  | r :: rs => max r.dep (rdsDep rs)
end
mutual
/-- the text that it reads -/
def Rd.rd : Rd → Str
  | .word s => s
  | .name _ s => s
  | .beh r s => r.rd ++ s.rd
  | .eit _ r => r.rd
  | .rnd _ rs => rdsRd rs
def rdsRd : List Rd → Str
  | [] => Str.empty
  | r :: rs => r.rd ++ rdsRd rs
end
mutual
def Rd.pcs : Rd → List (Nat × Str)
  | .word _ => []
  | .name n s => [(n, s)]
  | .beh r s => r.pcs ++ s.pcs
  | .eit _ r => r.pcs
  | .rnd _ rs => rdsPcs rs
def rdsPcs : List Rd → List (Nat × Str)
  | [] => []
  | r :: rs => r.pcs ++ rdsPcs rs
end
mutual
/-- words over a, b, c of at most 60 signs, names to 2, at most 10 in rounds -/
def Rd.ok : Rd → Prop
  | .word s => s.length ≤ 60 ∧ ∀ c ∈ s.cps.toList, c ∈ sgs 3
  | .name n s => n ≤ 2 ∧ s.length ≤ 60 ∧ ∀ c ∈ s.cps.toList, c ∈ sgs 3
  | .beh r s => r.ok ∧ s.ok
  | .eit _ r => r.ok
  | .rnd _ rs => rs.length ≤ 10 ∧ rdsOk rs
def rdsOk : List Rd → Prop
  | [] => True
  | r :: rs => r.ok ∧ rdsOk rs
end
/-- is_of, of a reading -/
def isOf : Pat → Rd → Bool
  | .word s, .word z => decide (s = z)
  | .name n, .name m _ => decide (n = m)
  | .beh p q, .beh r s => isOf p r && isOf q s
  | .eit p q, .eit b r => if b = true then isOf q r else isOf p r
  | .rnd p, .rnd _ rs => (rs.map (isOf p)).all id
  | _, _ => false
/-! ### data that is small -/
mutual
def small : PyData → Bool
  | .str s => decide (s.length ≤ 60)
  | .list ds => decide (ds.length ≤ 10) && smalls ds
  | .tuple ds => decide (ds.length ≤ 10) && smalls ds
  | _ => true
def smalls : List PyData → Bool
  | [] => true
  | d :: ds => small d && smalls ds
end
theorem smalls_mem : ∀ {ds : List PyData} {d : PyData}, smalls ds = true → d ∈ ds → small d = true
  | [], _, _, h => by simp at h
  | e :: ds, d, h, hm => by
    rw [smalls, Bool.and_eq_true] at h
    rcases List.mem_cons.mp hm with rfl | hm
    · exact h.1
    · exact smalls_mem h.2 hm
/-- a word of L letters, as data -/
def wD (L : Nat) : PyData → Bool
  | .str s => decide (s.length ≤ 60) && s.cps.toList.all fun c => decide (c ∈ sgs L)
  | _ => false
def nmD : PyData → Bool
  | .int i => decide (0 ≤ i) && decide (i ≤ 2)
  | _ => false
def sdD : PyData → Bool
  | .int i => decide (0 ≤ i) && decide (i < 2)
  | _ => false
def itemsD : PyData → Option (List PyData)
  | .list xs => some xs
  | .tuple xs => some xs
  | _ => none
/-- is_reading_shape -/
def isShape : Nat → PyData → Bool
  | 0, _ => false
  | n + 1, .tuple [.str k, x] =>
    if k = "word" then wD 3 x
    else if k = "round" then (match itemsD x with
      | some xs => (xs.map (isShape n)).all id
      | none => false) else false
  | n + 1, .tuple [.str k, x, y] =>
    if k = "name" then nmD x && wD 3 y
    else if k = "behind" then isShape n x && isShape n y
    else if k = "either" then sdD x && isShape n y else false
  | _ + 1, _ => false
end K44
end
section
set_option maxHeartbeats 4000000
namespace K44
open PySem PySem.Spec PyProof.Rows L2
section
variable {P : Program} {w : World} {K : PySem.W.Frag} {mg : Str → Option Value} {base : Heap}
theorem c_is_list (T : Txt K mg) : Cal P w K mg base 1 "is_list" ["value"] (sp_is_list K) := by
  refine Cal.of (N := ["value"]) T.g_is_list T.b_is_list (fsc (by decide +kernel)) (fun vs H Q E h => ?_) fun cdv A outer s H vs Q E hr h => ?_
  · obtain ⟨v, k, rfl, _⟩ := h; rfl
  obtain ⟨v, k, rfl, ty, q⟩ := h
  refine ⟨_, pss_one (ps_ret (pe_callB call_is2 rfl T.zisinstance (by decide +kernel) (pa_cons (pv 0) (pa_cons (pe_tup (pa_cons (pe_bltn (v := .ty "list") rfl T.zlist (by decide +kernel) rfl) (pa_cons (pe_bltn (v := .ty "tuple") rfl T.ztuple (by decide +kernel) rfl) pa_nil))) pa_nil)))), ?_⟩
  refine ⟨v, rfl, by decide, fun tp ht => ⟨v, tp, k, rfl, upd_same, ?_, q.go (same_new ht _)⟩⟩
  exact ty_on ty (same_new ht _)
/-! ### want_at_most, want_letters -/
def sp_want_at_most : Sp := fun vs H Q _ => ∃ a l n, vs = [a, .int l, .int n] ∧ n ≤ l ∧ Ret H Q .non
theorem c_want_at_most (T : Txt K mg) : Cal P w K mg base 1 "want_at_most" ["what", "limit", "number"] sp_want_at_most := by
  refine Cal.of (N := ["what", "limit", "number"]) T.g_want_at_most T.b_want_at_most (fsc (by decide +kernel)) (fun vs H Q E h => ?_) fun cdv A outer s H vs Q E hr h => ?_
  · obtain ⟨a, l, n, rfl, _⟩ := h; rfl
  obtain ⟨a, l, n, rfl, hle, q⟩ := h
  refine ⟨_, pss_one (ps_if (pt_cmpR op_gt (pv 2) (pv 1) (nomark _)) pss_never pss_nil), ?_⟩
  refine ⟨_, rfl, _, rfl, _, _, rfl, rfl, _, rfl, ite2 (fun c => ?_) fun c => q.here⟩
  have := of_decide_eq_true c
  omega
def sp_want_letters : Sp := fun vs H Q _ => ∃ l : Int, vs = [.int l] ∧ 1 ≤ l ∧ l ≤ 3 ∧ Ret H Q .non
theorem c_want_letters (T : Txt K mg) : Cal P w K mg base 3 "want_letters" ["value"] sp_want_letters := by
  refine Cal.of (N := ["value"]) T.g_want_letters T.b_want_letters (fsc (by decide +kernel)) (fun vs H Q E h => ?_) fun cdv A outer s H vs Q E hr h => ?_
  · obtain ⟨l, rfl, _⟩ := h; rfl
  obtain ⟨l, rfl, h1, h3, q⟩ := h
  refine ⟨_, pss_one (ps_if (PW.pt (pw_or (pt_not (pt_val (pc (c_is_count T) hr (pa_cons (pv 0) pa_nil)))) (pw_or1 (pt_not (pt_chain op_le op_le pe_int (pv 0) (pgl T.iMOST_LETTERS)))))) pss_never pss_nil), ?_⟩
  refine ⟨_, rfl, .int l, .int, rfl, .base (.int l), fun H1 e1 => ⟨_, rfl, ?_⟩⟩
  have e : cntV (.int l) = true := decide_eq_true (by omega)
  rw [e]
  refine iteF ⟨_, rfl, _, _, rfl, rfl, _, rfl, ?_⟩
  refine ite2 (fun c => ?_) fun c => absurd (decide_eq_true h1) c
  refine ⟨_, _, rfl, rfl, _, rfl, ?_⟩
  rw [decide_eq_true (show l ≤ 3 from h3)]
  exact iteF (q.go e1)
/-! ### words -/
/-- a value that is a word of L letters -/
def wOK (L : Nat) : V → Bool
  | .str s => decide (s.length ≤ 60) && s.cps.toList.all fun c => decide (c ∈ sgs L)
  | _ => false
theorem cut_abc {L : Nat} (h : L ≤ 3) : (cutS "abc" none (some (L : Int))).cps.toList = sgs L := by
  have : ∀ L : Nat, L < 4 → (cutS "abc" none (some (L : Int))).cps.toList = sgs L := by decide +kernel
  exact this L (by omega)
theorem str_of {H : Hp} {v : V} (h : Ty K H v .str) : ∃ i, v = .str i := by
  have key : ∀ t, TyX K H v t → t = .type "str" → ∃ i, v = .str i := by
    intro t h e
    cases h with
    | base b => cases b <;> first | exact ⟨_, rfl⟩ | (exfalso; revert e; decide) | cases e
    | _ => first | (exfalso; revert e; decide) | cases e
  exact key _ h rfl
theorem not_str {H : Hp} {i : Str} {k : Knd} (h : Ty K H (.str i) k) : k = .str := by
  have key : ∀ t v, TyX K H v t → v = .str i → t = .type "str" := by
    intro t v h e
    cases h with
    | base b => cases b <;> first | rfl | cases e
    | _ => cases e
  have e := key _ _ h rfl
  cases k <;> first | rfl | (revert e; decide)
def sp_is_word_of (K : PySem.W.Frag) : Sp := fun vs H Q _ => ∃ (L : Nat) (v : V) (k : Knd), vs = [.int L, v] ∧ L ≤ 3 ∧ Ty K H v k ∧ (∀ s, v = .str s → s.length ≤ 100000) ∧ Ret H Q (.bl (wOK L v))
theorem c_is_word_of (T : Txt K mg) : Cal P w K mg base 1 "is_word_of" ["letters", "value"] (sp_is_word_of K) := by
  have S : FnScope ["letters", "value", "sign"] ["letters", "value"] (defScope s_is_word_of) := fsc (by decide +kernel)
  refine Cal.of T.g_is_word_of T.b_is_word_of S (fun vs H Q E h => ?_) fun cdv A outer s H vs Q E hr h => ?_
  · obtain ⟨l, v, k, rfl, _⟩ := h; rfl
  obtain ⟨L, v, k, rfl, hL, ty, hz, q⟩ := h
  refine ⟨_, pss_cons (ps_if (PW.pt (pw_or (pt_not (pt_val (pe_is T.zisinstance T.zstr (by decide +kernel) kit_str (pv 1)))) (pw_or1 (pt_cmpR op_gt (pe_callB call_len rfl T.zlen boot_len (pa_cons (pv 1) pa_nil)) (pgl T.iMOST_SIGNS) (nomark _))))) (pss_one (ps_ret pe_bl)) pss_nil)
    (pss_one (ps_ret (pe_callB (cr_all rfl) rfl T.zall (by decide +kernel) (pa_cons (pe_lc (own := [("sign", 2)]) (g := gName 2) (tt := tYes) rfl S.nd (pi_str (pv 1)) (blkOk_by (N := ["letters", "value", "sign"]) (sc := defScope s_is_word_of) (by decide +kernel))
      (fun _ _ _ _ _ => pg_name (i := 2) S.nd rfl (Or.inl rfl)) (fun _ _ _ _ _ => pts_nil) (fun _ _ _ _ _ => pe_cmpR op_in_sign (pv 2) (pe_slice sl_str (pgl T.tSIGNS) po_none (po_some (pv 0))) rfl)) pa_nil)))), ?_⟩
  refine ⟨v, rfl, v, k, rfl, ty, _, rfl, ?_⟩
  by_cases ek : k = .str
  · subst ek
    obtain ⟨z, rfl⟩ := str_of ty
    have hz' := hz z rfl
    refine iteF ⟨_, rfl, _, _, rfl, ⟨szl (by omega), rfl⟩, _, _, rfl, rfl, _, rfl, ite2 (fun c => ?_) fun c => ?_⟩
    · have := of_decide_eq_true c
      have e : wOK L (.str z) = false := by
        show (decide (z.length ≤ 60) && _) = false
        rw [decide_eq_false (by omega)]; rfl
      rw [e] at q
      exact q.here
    · have c' : ¬ (60 : Int) < z.length := fun h => c (decide_eq_true h)
      refine ⟨_, rfl, z, rfl, fun D hD => lcm walk_str (fun i v => ∃ c, z.cps[i]? = some c ∧ v = .str ⟨#[c]⟩) (fun _ _ _ _ y => y) (fun i y _ => ∃ c, z.cps[i]? = some c ∧ y = .bl (decide (c ∈ sgs L))) (fun _ _ _ _ _ r => r) hz' hD (fun _ _ => trivial) (fun _ => rfl) ?_ ?_⟩
      · rintro i x H1 hi ⟨c1, hc1, rfl⟩ e1 Q1 q1
        refine ⟨_, rfl, _, rfl, _, rfl, _, rfl, by decide, c1, _, rfl, rfl, ?_⟩
        exact q1 _ _ (Same.refl _) ⟨c1, hc1, by rw [cut_abc hL]⟩
      · intro ys H1 e1 hys hl hR
        have ey : ys = (z.cps.toList.map fun c => decide (c ∈ sgs L)).map V.bl := by
          rw [List.map_map]
          refine eq_map (by simpa using hl) fun i y c h1 h2 => ?_
          obtain ⟨c1, h3, h4⟩ := hR i y h1
          have : some c1 = some c := by rw [← h3, ← h2]; simp
          cases this
          exact h4
        refine ⟨D, _, rfl, sl (by rw [hys, ey]), ?_⟩
        have e2 : wOK L (.str z) = ((z.cps.toList.map fun c => decide (c ∈ sgs L)).all id) := by
          show (decide (z.length ≤ 60) && _) = _
          rw [decide_eq_true (by omega), Bool.true_and, List.all_map]; rfl
        rw [← e2]
        exact q.go e1
  · have e : wOK L v = false := by
      cases v with
      | str z => exact absurd (not_str ty) ek
      | _ => rfl
    rw [e] at q
    exact ifT (by show (!decide (k = Knd.str)) = true; rw [decide_eq_false ek]; rfl) (iteT q.here)
end
end K44
end
section
set_option maxHeartbeats 4000000
namespace K44
open PySem PySem.Spec PyProof.Rows L2
/-! ### data, opened -/
theorem mem_cps {z : Str} {i c : Nat} (h : z.cps[i]? = some c) : c ∈ z.cps.toList := List.mem_of_getElem? (i := i) (by rw [← h]; simp)
theorem dp_tup {K : PySem.W.Frag} {H : Hp} {v : V} {ds : List PyData} (h : Dp K H v (.tuple ds)) : ∃ a xs, v = .ref a ∧ SqT K H a xs ∧ DpAll K H xs ds := by
  cases h with | tup h1 h2 => exact ⟨_, _, rfl, h1, h2⟩
theorem dp_lst {K : PySem.W.Frag} {H : Hp} {v : V} {ds : List PyData} (h : Dp K H v (.list ds)) : ∃ a xs, v = .ref a ∧ SqL K H a xs ∧ DpAll K H xs ds := by
  cases h with | lst h1 h2 => exact ⟨_, _, rfl, h1, h2⟩
theorem dp_int {K : PySem.W.Frag} {H : Hp} {v : V} {i : Int} (h : Dp K H v (.int i)) : v = .int i := by cases h; rfl
theorem dp_str {K : PySem.W.Frag} {H : Hp} {v : V} {i : Str} (h : Dp K H v (.str i)) : v = .str i := by cases h; rfl
def nD (n : Nat) : PyData := .int n
def nsD (ns : List Nat) : PyData := .tuple (ns.map nD)
def rowsD (st : MRows) : PyData := .tuple (st.map nsD)
def nV (n : Nat) : V := .int n
theorem dps_ints {K : PySem.W.Frag} {H : Hp} : ∀ {ns : List Nat} {xs : List V}, DpAll K H xs (ns.map nD) → xs = ns.map nV
  | [], _, h => by cases h; rfl
  | n :: ns, _, h => by
    cases h with
    | cons h1 h2 => rw [dp_int h1, dps_ints h2]; rfl
theorem dps_of_ints {K : PySem.W.Frag} {H : Hp} : ∀ {ns : List Nat}, DpAll K H (ns.map nV) (ns.map nD)
  | [] => .nil
  | _ :: _ => .cons (.int _) dps_of_ints
theorem inV_nat {n : Nat} {ns : List Nat} : inV (.int n) (ns.map nV) = decide (n ∈ ns) := by
  unfold inV
  induction ns with
  | nil => rfl
  | cons m ms ih =>
    rw [List.map_cons, List.any_cons, ih]
    have e : eqV (nV m) (.int (n : Int)) = decide (n = m) := by
      show ((m : Int) == (n : Int)) = _
      by_cases h : n = m
      · subst h; simp
      · have : ¬ (m : Int) = n := by omega
        simp [h, this]
    rw [e]
    by_cases h1 : n = m <;> by_cases h2 : n ∈ ms <;> simp [h1, h2]
theorem flat_nats {ns : List Nat} : (ns.map nV).all flatV = true := by
  rw [List.all_map]; exact List.all_eq_true.mpr fun _ _ => rfl
/-! ### a machine -/
def MachAt (K : PySem.W.Frag) (H : Hp) (v : V) (m : Mach) : Prop :=
  ∃ a dx fs sv ev, v = .ref a ∧ H a = some (.ins (He.ga K "Machine") dx fs) ∧ fs.lookup ("own_letters" : Str) = some (V.int m.L) ∧ fs.lookup ("own_steps" : Str) = some sv ∧ fs.lookup ("own_ends" : Str) = some ev ∧ Dp K H sv (rowsD m.st) ∧ Dp K H ev (nsD m.en)
mutual
def noL : PyData → Bool
  | .list _ => false
  | .tuple ds => noLs ds
  | _ => true
def noLs : List PyData → Bool
  | [] => true
  | d :: ds => noL d && noLs ds
end
mutual
theorem dpImm {K : PySem.W.Frag} {H H' : Hp} (e : Imm H H') : ∀ (d : PyData) (v : V), noL d = true → Dp K H v d → Dp K H' v d
  | .none, _, _, h => by cases h; exact .non
  | .bool _, _, _, h => by cases h; exact .bl _
  | .int _, _, _, h => by cases h; exact .int _
  | .str _, _, _, h => by cases h; exact .str _
  | .list ds, _, n, h => by cases n
  | .tuple ds, _, n, h => by
    cases h with
    | tup hs ha => exact .tup (Imm.tup e hs) (dpsImm e ds _ n ha)
  | .dict _, _, _, h => by cases h
theorem dpsImm {K : PySem.W.Frag} {H H' : Hp} (e : Imm H H') : ∀ (ds : List PyData) (vs : List V), noLs ds = true → DpAll K H vs ds → DpAll K H' vs ds
  | [], _, _, h => by cases h; exact .nil
  | d :: ds, _, n, h => by
    rw [noLs, Bool.and_eq_true] at n
    cases h with
    | cons h1 h2 => exact .cons (dpImm e d _ n.1 h1) (dpsImm e ds _ n.2 h2)
end
theorem noL_ns (ns : List Nat) : noL (nsD ns) = true := by
  show noLs (ns.map nD) = true
  induction ns with
  | nil => rfl
  | cons n ns ih => exact ih
theorem noL_rows (st : MRows) : noL (rowsD st) = true := by
  show noLs (st.map nsD) = true
  induction st with
  | nil => rfl
  | cons r st ih => rw [List.map_cons, noLs, noL_ns, ih]; rfl
theorem MachAt.imm {K : PySem.W.Frag} {H H' : Hp} {v : V} {m : Mach} (h : MachAt K H v m) (e : Imm H H') : MachAt K H' v m := by
  obtain ⟨a, dx, fs, sv, ev, h0, h1, h2, h3, h4, h5, h6⟩ := h
  exact ⟨a, dx, fs, sv, ev, h0, e _ _ h1 (fun _ z => by cases z) (fun _ z => by cases z), h2, h3, h4, dpImm e _ _ (noL_rows _) h5, dpImm e _ _ (noL_ns _) h6⟩
theorem MachAt.on {K : PySem.W.Frag} {H H' : Hp} {v : V} {m : Mach} (h : MachAt K H v m) (e : Same H H') : MachAt K H' v m := h.imm (Imm.of e)
section
variable {P : Program} {w : World} {K : PySem.W.Frag} {mg : Str → Option Value} {base : Heap}
/-! ### spots, want_word, signs_right -/
/-- a new tuple of data -/
def RetT (K : PySem.W.Frag) (H : Hp) (Q : VK) (d : PyData) : Prop := ∀ v H', Same H H' → Dp K H' v d → Q v H'
def sp_spots (K : PySem.W.Frag) : Sp := fun vs H Q _ => ∃ s, vs = [.str s] ∧ s.length ≤ 100000 ∧ (∀ c ∈ s.cps.toList, c ∈ sgs 3) ∧ RetT K H Q (nsD (idx s))
theorem occ_abc {c : Nat} (h : c ∈ sgs 3) : ∃ rest, Builtin.Str.occurrences "abc" ⟨#[c]⟩ 0 ("abc" : Str).length 1 = (c - 97) :: rest := by
  have e : c = 97 ∨ c = 98 ∨ c = 99 := by
    unfold sgs at h; simp at h; exact h
  rcases e with rfl | rfl | rfl
  · exact ⟨[], by decide +kernel⟩
  · exact ⟨[], by decide +kernel⟩
  · exact ⟨[], by decide +kernel⟩
theorem c_spots (T : Txt K mg) : Cal P w K mg base 1 "spots" ["word"] (sp_spots K) := by
  have S : FnScope ["word", "sign"] ["word"] (defScope s_spots) := fsc (by decide +kernel)
  refine Cal.of T.g_spots T.b_spots S (fun vs H Q E h => ?_) fun cdv A outer s H vs Q E hr h => ?_
  · obtain ⟨l, rfl, _⟩ := h; rfl
  obtain ⟨z, rfl, hz, hc, q⟩ := h
  refine ⟨_, pss_one (ps_ret (pe_callTy call_tuple_of rfl T.ztuple (by decide +kernel) (pa_cons (pe_lc (own := [("sign", 1)]) (g := gName 1) (tt := tYes) rfl S.nd (pi_str (pv 0)) (blkOk_by (N := ["word", "sign"]) (sc := defScope s_spots) (by decide +kernel))
      (fun _ _ _ _ _ => pg_name (i := 1) S.nd rfl (Or.inl rfl)) (fun _ _ _ _ _ => pts_nil) (fun _ _ _ _ _ => pe_m1 PySem.F.slot_str_index PySem.F.type_str_index mt_sindex (pgl T.tSIGNS) (pv 1))) pa_nil))), ?_⟩
  refine ⟨_, rfl, z, rfl, fun D hD => lcm walk_str (fun i v => ∃ c, z.cps[i]? = some c ∧ v = .str ⟨#[c]⟩) (fun _ _ _ _ y => y) (fun i y _ => ∃ c, z.cps[i]? = some c ∧ y = .int ((c - 97 : Nat) : Int)) (fun _ _ _ _ _ r => r) hz hD (fun _ _ => trivial) (fun _ => rfl) ?_ ?_⟩
  · rintro i x H1 hi ⟨c1, hc1, rfl⟩ e1 Q1 q1
    have hm : c1 ∈ sgs 3 := hc c1 (mem_cps hc1)
    obtain ⟨rest, ho⟩ := occ_abc hm
    exact ⟨⟨_, rfl⟩, _, rfl, _, _, _, rest, rfl, rfl, ho, q1 _ _ (Same.refl _) ⟨c1, hc1, rfl⟩⟩
  · intro ys H1 e1 hys hl hR
    have ey : ys = (idx z).map nV := by
      unfold idx
      rw [List.map_map]
      refine eq_map (by simpa using hl) fun i y c h1 h2 => ?_
      obtain ⟨c1, h3, h4⟩ := hR i y h1
      have : some c1 = some c := by rw [← h3, ← h2]; simp
      cases this
      exact h4
    refine ⟨D, _, rfl, .inl ⟨sl hys, fun l hl => q _ _ (Same.new e1 hl _) (.tup (st upd_same) ?_)⟩⟩
    rw [ey]
    exact dps_of_ints
/-! ### machines asked -/
theorem ty_mach (T : Txt K mg) {H : Hp} {v : V} {m : Mach} (h : MachAt K H v m) : TyX K H v (.ref (He.ga K "Machine")) := by
  obtain ⟨a, dx, fs, sv, ev, rfl, h1, _⟩ := h
  exact .base (.ins h1 T.cls T.mcls.1 T.mcls.2.1 T.mcls.2.2.1 T.mcls.2.2.2)
theorem kit_self {C : Addr} : PySem.W.kitOne K (.ref C) (.ref C) = some true := by
  unfold PySem.W.kitOne
  rw [if_pos (by simp)]
/-- isinstance(x, Machine) of a machine -/
def rIsM (K : PySem.W.Frag) : List V → Hp → VK → Prop := fun xs H Q => ∃ x m, xs = [x, .ref (He.ga K "Machine")] ∧ MachAt K H x m ∧ Q (.bl true) H
theorem call_isM {X : Cx} {K : PySem.W.Frag} {mg : Str → Option Value} (T : Txt K mg) (hK : X.K = K := by rfl) : CallR X (.builtin "isinstance") (rIsM K) := by
  subst hK
  intro pins s σ H xs us Q I r h
  obtain ⟨x, m, rfl, hm, q⟩ := h
  exact call_isi pins s σ H _ us Q I r ⟨x, .ref _, _, _, _, rfl, .own _, ty_mach T hm, kit_self, q⟩
def sp_want_machine (K : PySem.W.Frag) : Sp := fun vs H Q _ => ∃ v m, vs = [v] ∧ MachAt K H v m ∧ Ret H Q v
theorem c_want_machine (T : Txt K mg) : Cal P w K mg base 1 "want_machine" ["value"] (sp_want_machine K) := by
  refine Cal.of (N := ["value"]) T.g_want_machine T.b_want_machine (fsc (by decide +kernel)) (fun vs H Q E h => ?_) fun cdv A outer s H vs Q E hr h => ?_
  · obtain ⟨l, m, rfl, _⟩ := h; rfl
  obtain ⟨v, m, rfl, hm, q⟩ := h
  refine ⟨_, pss_cons (ps_if (pt_not (pt_val (pe_callB (call_isM T) rfl T.zisinstance (by decide +kernel) (pa_cons (pv 0) (pa_cons (pe_glob (v := .ref _) rfl T.gMachine rfl) pa_nil))))) pss_never pss_nil) (pss_one (ps_ret (pv 0))), ?_⟩
  exact ⟨_, rfl, _, m, rfl, hm, _, rfl, iteF ⟨_, rfl, q.here⟩⟩
def sp_is_end (K : PySem.W.Frag) : Sp := fun vs H Q _ => ∃ (v : V) (m : Mach) (s : Nat), vs = [v, .int s] ∧ MachAt K H v m ∧ Ret H Q (.bl (decide (s ∈ m.en)))
theorem c_is_end (T : Txt K mg) : Cal P w K mg base 1 "is_end" ["machine", "state"] (sp_is_end K) := by
  refine Cal.of (N := ["machine", "state"]) T.g_is_end T.b_is_end (fsc (by decide +kernel)) (fun vs H Q E h => ?_) fun cdv A outer s H vs Q E hr h => ?_
  · obtain ⟨l, m, s, rfl, _⟩ := h; rfl
  obtain ⟨v, m, s, rfl, hm, q⟩ := h
  refine ⟨_, pss_one (ps_ret (pe_cmpR op_in_seq (pv 1) (pe_fld (pv 0) rfl) rfl)), ?_⟩
  obtain ⟨a, dx, fs, sv, ev, rfl, h1, h2, h3, h4, h5, h6⟩ := hm
  obtain ⟨b, xs, rfl, h7, h8⟩ := dp_tup h6
  refine ⟨_, rfl, _, rfl, a, _, dx, fs, _, rfl, h1, T.cls, T.na_own_ends, h4, b, xs, rfl, .inr h7, rfl, ?_, ?_⟩
  · rw [dps_ints h8]; exact flat_nats
  · rw [dps_ints h8, inV_nat]
    exact q.here
/-- the item of a tuple of ints -/
theorem at_nats {ns : List Nat} {i : Nat} {n : Nat} (h : ns[i]? = some n) : atI (ns.map nV) (i : Int) = some (.int n) := atI_nat (by rw [List.getElem?_map, h]; rfl)
theorem idx_wd {z : Str} {L : Nat} (hL : L ≤ 3) (h : ∀ c ∈ z.cps.toList, c ∈ sgs L) : Wd L (idx z) := by
  intro c hc
  unfold idx at hc
  obtain ⟨d, hd, rfl⟩ := List.mem_map.mp hc
  have := h d hd
  have key : ∀ L, L ≤ 3 → ∀ d ∈ sgs L, d - 97 < L := by decide +kernel
  exact key L hL d this
theorem sgs_sub {L c : Nat} (h : c ∈ sgs L) : c ∈ sgs 3 := List.mem_of_mem_take h
def sp_led (K : PySem.W.Frag) : Sp := fun vs H Q _ => ∃ (v : V) (m : Mach) (s : Nat) (z : Str), vs = [v, .int s, .str z] ∧ MachAt K H v m ∧ WF m.L m.st m.en ∧ m.L ≤ 3 ∧ s < m.st.length ∧ z.length ≤ 100000 ∧ (∀ c ∈ z.cps.toList, c ∈ sgs m.L) ∧ Ret H Q (.int (runS m.st s (idx z)))
theorem c_led (T : Txt K mg) : Cal P w K mg base 2 "led" ["machine", "state", "word"] (sp_led K) := by
  have S : FnScope ["machine", "state", "word", "here", "number"] ["machine", "state", "word"] (defScope s_led) := fsc (by decide +kernel)
  refine Cal.of T.g_led T.b_led S (fun vs H Q E h => ?_) fun cdv A outer s H vs Q E hr h => ?_
  · obtain ⟨l, m, s, z, rfl, _⟩ := h; rfl
  obtain ⟨v, m, s, z, rfl, hm, wf, hL, hs, hz, hc, q⟩ := h
  refine ⟨_, pss_cons (ps_set (i := 3) S.nd rfl (.inl rfl) (pv 1)) (pss_cons (ps_for PassesOwn.never rfl (pi_tup (pc (c_spots T) hr (pa_cons (pv 2) pa_nil))) (pg_name (i := 4) S.nd rfl (.inl rfl))
    (pss_one (ps_set (i := 3) S.nd rfl (.inl rfl) (pe_ix ix_tup (pe_ix ix_tup (pe_fld (pv 0) rfl) (pv 3) (fun _ _ => rfl)) (pv 4) (fun _ _ => rfl))))) (pss_one (ps_ret (pv 3)))), ?_⟩
  refine ⟨_, rfl, _, rfl, z, rfl, hz, fun c h => sgs_sub (hc c h), fun t H1 e1 ht => ?_⟩
  obtain ⟨p, xs, rfl, hp, hx⟩ := dp_tup ht
  have ex := dps_ints hx
  subst ex
  have hw := idx_wd hL hc
  refine ⟨p, rfl, ⟨_, hp⟩, for_it walk_tup (fun i σ' H' => Same H1 H' ∧ ∃ o, σ' = [some v, some (.int s), some (.str z), some (.int (runS m.st s ((idx z).take i))), o]) ⟨Same.refl _, _, rfl⟩ (fun i σ' H' _ h => Same.tup h.1 hp) ?_ ?_⟩
  · rintro i x σ' H' H'' hi ⟨e2, o, rfl⟩ ⟨rfl, hx⟩
    rw [List.getElem?_map] at hx
    obtain ⟨n, hn, rfl⟩ := Option.map_eq_some_iff.mp hx
    have hn2 : n < m.L := hw n (List.mem_of_getElem? hn)
    have hwi : Wd m.L ((idx z).take i) := fun c h => hw c (List.mem_of_mem_take h)
    obtain ⟨r, g1, g2⟩ := wf.get (wf.run_lt hs hwi) hn2
    obtain ⟨a, dx, fs, sv, ev, rfl, h1, h2, h3, h4, h5, h6⟩ := hm.on (e1.trans e2)
    obtain ⟨b, ys, rfl, h7, h8⟩ := dp_tup h5
    obtain ⟨rv, k1, k2⟩ := dpsGet h8 (by rw [List.getElem?_map, g1]; rfl : (m.st.map nsD)[_]? = some (nsD r))
    obtain ⟨c, zs, rfl, k3, k4⟩ := dp_tup k2
    have ez := dps_ints k4
    subst ez
    refine ⟨_, rfl, a, _, dx, fs, _, rfl, h1, T.cls, T.na_own_steps, h3, _, rfl, b, ys, _, _, rfl, rfl, h7, atI_nat k1, _, rfl, c, _, _, _, rfl, rfl, k3, at_nats g2, e2, some (.int n), ?_⟩
    have e3 : runS m.st s ((idx z).take (i + 1)) = nx m.st (runS m.st s ((idx z).take i)) n := by
      rw [List.take_add_one, hn, Option.toList_some, runS_app]; rfl
    rw [e3]; rfl
  · rintro σ' H' ⟨e2, o, rfl⟩
    refine ⟨_, rfl, ?_⟩
    rw [List.length_map, List.take_length]
    exact q.go (e1.trans e2)
end
end K44
end
section
set_option maxHeartbeats 4000000
namespace K44
open PySem PySem.Spec PyProof.Rows L2
section
variable {P : Program} {w : World} {K : PySem.W.Frag} {mg : Str → Option Value} {base : Heap}
def sp_is_let (K : PySem.W.Frag) : Sp := fun vs H Q _ => ∃ (v : V) (m : Mach) (z : Str), vs = [v, .str z] ∧ MachAt K H v m ∧ WF m.L m.st m.en ∧ m.L ≤ 3 ∧ z.length ≤ 100000 ∧ (∀ c ∈ z.cps.toList, c ∈ sgs m.L) ∧ Ret H Q (.bl (m.acc (idx z)))
theorem c_is_let (T : Txt K mg) : Cal P w K mg base 3 "is_let" ["machine", "word"] (sp_is_let K) := by
  refine Cal.of (N := ["machine", "word"]) T.g_is_let T.b_is_let (fsc (by decide +kernel)) (fun vs H Q E h => ?_) fun cdv A outer s H vs Q E hr h => ?_
  · obtain ⟨v, m, z, rfl, _⟩ := h; rfl
  obtain ⟨v, m, z, rfl, hm, wf, hL, hz, hc, q⟩ := h
  refine ⟨_, pss_one (ps_ret (pc (c_is_end T) hr (pa_cons (pv 0) (pa_cons (pc (c_led T) hr (pa_cons (pv 0) (pa_cons pe_int (pa_cons (pv 1) pa_nil)))) pa_nil)))), ?_⟩
  refine ⟨_, rfl, _, rfl, _, rfl, v, m, 0, z, rfl, hm, wf, hL, wf.pos, hz, hc, fun H1 e1 => ⟨v, m, _, rfl, hm.on e1, q.on e1⟩⟩
def sp_want_word (K : PySem.W.Frag) : Sp := fun vs H Q _ => ∃ (L : Nat) (z : Str), vs = [.int L, .str z] ∧ L ≤ 3 ∧ z.length ≤ 60 ∧ (∀ c ∈ z.cps.toList, c ∈ sgs L) ∧ Ret H Q (.str z)
theorem wOK_str {L : Nat} {z : Str} (h : z.length ≤ 60) (hc : ∀ c ∈ z.cps.toList, c ∈ sgs L) : wOK L (.str z) = true := by
  show (decide (z.length ≤ 60) && _) = true
  rw [decide_eq_true h, Bool.true_and, List.all_eq_true]
  exact fun c h => decide_eq_true (hc c h)
theorem wOK_inv {L : Nat} {z : Str} (h : wOK L (.str z) = true) : z.length ≤ 60 ∧ ∀ c ∈ z.cps.toList, c ∈ sgs L := by
  have h' : (decide (z.length ≤ 60) && z.cps.toList.all fun c => decide (c ∈ sgs L)) = true := h
  rw [Bool.and_eq_true, List.all_eq_true] at h'
  exact ⟨of_decide_eq_true h'.1, fun c hc => of_decide_eq_true (h'.2 c hc)⟩
theorem c_want_word (T : Txt K mg) : Cal P w K mg base 2 "want_word" ["letters", "value"] (sp_want_word K) := by
  refine Cal.of (N := ["letters", "value"]) T.g_want_word T.b_want_word (fsc (by decide +kernel)) (fun vs H Q E h => ?_) fun cdv A outer s H vs Q E hr h => ?_
  · obtain ⟨L, z, rfl, _⟩ := h; rfl
  obtain ⟨L, z, rfl, hL, hz, hc, q⟩ := h
  refine ⟨_, pss_cons (ps_if (pt_not (pt_val (pc (c_is_word_of T) hr (pa_cons (pv 0) (pa_cons (pv 1) pa_nil))))) pss_never pss_nil) (pss_one (ps_ret (pv 1))), ?_⟩
  refine ⟨_, rfl, _, rfl, L, _, .str, rfl, hL, .base (.str z), fun s e => by cases e; omega, fun H1 e1 => ⟨_, rfl, ?_⟩⟩
  rw [wOK_str hz hc]
  exact iteF ⟨_, rfl, q.go e1⟩
def sp_lets (K : PySem.W.Frag) : Sp := fun vs H Q _ => ∃ (v : V) (m : Mach) (z : Str), vs = [v, .str z] ∧ MachAt K H v m ∧ WF m.L m.st m.en ∧ m.L ≤ 3 ∧ z.length ≤ 60 ∧ (∀ c ∈ z.cps.toList, c ∈ sgs m.L) ∧ Ret H Q (.bl (m.acc (idx z)))
theorem c_lets (T : Txt K mg) : Cal P w K mg base 4 "lets" ["machine", "word"] (sp_lets K) := by
  refine Cal.of (N := ["machine", "word"]) T.g_lets T.b_lets (fsc (by decide +kernel)) (fun vs H Q E h => ?_) fun cdv A outer s H vs Q E hr h => ?_
  · obtain ⟨v, m, z, rfl, _⟩ := h; rfl
  obtain ⟨v, m, z, rfl, hm, wf, hL, hz, hc, q⟩ := h
  refine ⟨_, pss_cons (ps_expr (pc (c_want_machine T) hr (pa_cons (pv 0) pa_nil))) (pss_one (ps_ret (pc (c_is_let T) hr (pa_cons (pv 0) (pa_cons (pc (c_want_word T) hr (pa_cons (pe_fld (pv 0) rfl) (pa_cons (pv 1) pa_nil))) pa_nil))))), ?_⟩
  refine ⟨_, rfl, v, m, rfl, hm, fun H1 e1 => ?_⟩
  have hm1 := hm.on e1
  obtain ⟨a, dx, fs, sv, ev, rfl, h1, h2, h3, h4, h5, h6⟩ := id hm1
  exact ⟨_, rfl, _, rfl, a, _, dx, fs, _, rfl, h1, T.cls, T.na_own_letters, h2, _, rfl, m.L, z, rfl, hL, hz, hc, fun H2 e2 => ⟨_, m, z, rfl, hm1.on e2, wf, hL, by omega, hc, q.on (e1.trans e2)⟩⟩
def sp_signs_right (K : PySem.W.Frag) : Sp := fun vs H Q _ => ∃ (L : Nat) (z : Str), vs = [.int L, .str z] ∧ L ≤ 3 ∧ z.length ≤ 100000 ∧ Ret H Q (.bl (z.cps.toList.all fun c => decide (c ∈ sgs L)))
theorem c_signs_right (T : Txt K mg) : Cal P w K mg base 1 "signs_right" ["letters", "word"] (sp_signs_right K) := by
  have S : FnScope ["letters", "word", "sign"] ["letters", "word"] (defScope s_signs_right) := fsc (by decide +kernel)
  refine Cal.of T.g_signs_right T.b_signs_right S (fun vs H Q E h => ?_) fun cdv A outer s H vs Q E hr h => ?_
  · obtain ⟨l, z, rfl, _⟩ := h; rfl
  obtain ⟨L, z, rfl, hL, hz, q⟩ := h
  refine ⟨_, pss_one (ps_ret (pe_callB (cr_all rfl) rfl T.zall (by decide +kernel) (pa_cons (pe_lc (own := [("sign", 2)]) (g := gName 2) (tt := tYes) rfl S.nd (pi_str (pv 1)) (blkOk_by (N := ["letters", "word", "sign"]) (sc := defScope s_signs_right) (by decide +kernel))
      (fun _ _ _ _ _ => pg_name (i := 2) S.nd rfl (Or.inl rfl)) (fun _ _ _ _ _ => pts_nil) (fun _ _ _ _ _ => pe_cmpR op_in_sign (pv 2) (pe_slice sl_str (pgl T.tSIGNS) po_none (po_some (pv 0))) rfl)) pa_nil))), ?_⟩
  refine ⟨_, rfl, z, rfl, fun D hD => lcm walk_str (fun i v => ∃ c, z.cps[i]? = some c ∧ v = .str ⟨#[c]⟩) (fun _ _ _ _ y => y) (fun i y _ => ∃ c, z.cps[i]? = some c ∧ y = .bl (decide (c ∈ sgs L))) (fun _ _ _ _ _ r => r) hz hD (fun _ _ => trivial) (fun _ => rfl) ?_ ?_⟩
  · rintro i x H1 hi ⟨c1, hc1, rfl⟩ e1 Q1 q1
    refine ⟨_, rfl, _, rfl, _, rfl, _, rfl, by decide, c1, _, rfl, rfl, ?_⟩
    exact q1 _ _ (Same.refl _) ⟨c1, hc1, by rw [cut_abc hL]⟩
  · intro ys H1 e1 hys hl hR
    have ey : ys = (z.cps.toList.map fun c => decide (c ∈ sgs L)).map V.bl := by
      rw [List.map_map]
      refine eq_map (by simpa using hl) fun i y c h1 h2 => ?_
      obtain ⟨c1, h3, h4⟩ := hR i y h1
      have : some c1 = some c := by rw [← h3, ← h2]; simp
      cases this
      exact h4
    refine ⟨D, _, rfl, sl (by rw [hys, ey]), ?_⟩
    have e2 : (z.cps.toList.all fun c => decide (c ∈ sgs L)) = ((z.cps.toList.map fun c => decide (c ∈ sgs L)).all id) := by
      rw [List.all_map]; rfl
    rw [← e2]
    exact q.go e1
def nmV : V → Bool
  | .int i => decide (0 ≤ i) && decide (i ≤ 2)
  | _ => false
def sp_is_name_number (K : PySem.W.Frag) : Sp := fun vs H Q _ => ∃ v k, vs = [v] ∧ Ty K H v k ∧ Ret H Q (.bl (nmV v))
theorem c_is_name_number (T : Txt K mg) : Cal P w K mg base 3 "is_name_number" ["value"] (sp_is_name_number K) := by
  refine Cal.of (N := ["value"]) T.g_is_name_number T.b_is_name_number (fsc (by decide +kernel)) (fun vs H Q E h => ?_) fun cdv A outer s H vs Q E hr h => ?_
  · obtain ⟨v, k, rfl, _⟩ := h; rfl
  obtain ⟨v, k, rfl, ty, q⟩ := h
  refine ⟨_, pss_one (ps_ret (pe_and (pc (c_is_count T) hr (pa_cons (pv 0) pa_nil)) (pe_one (pe_cmpR op_le (pv 0) (pgl T.iMOST_NAME) (nomark _))))), ?_⟩
  refine ⟨v, rfl, v, k, rfl, ty, fun H1 e1 => ⟨_, rfl, ?_⟩⟩
  cases v with
  | int i =>
    by_cases hi : 0 ≤ i
    · refine ifT (decide_eq_true hi) ⟨_, rfl, _, _, rfl, rfl, ?_⟩
      have e : nmV (.int i) = decide (i ≤ 2) := by
        show (decide (0 ≤ i) && decide (i ≤ 2)) = _
        rw [decide_eq_true hi]; rfl
      rw [e] at q
      exact q.go e1
    · refine ifF (decide_eq_false hi) ?_
      have e : nmV (.int i) = false := by
        show (decide (0 ≤ i) && decide (i ≤ 2)) = _
        rw [decide_eq_false hi]; rfl
      rw [e] at q
      exact q.go e1
  | _ => exact ifF rfl (q.go e1)
end
end K44
end
section
set_option maxHeartbeats 4000000
namespace K44
open PySem PySem.Spec PyProof.Rows L2
theorem dsV {a b : Str} : decide (V.str a = V.str b) = decide (a = b) := by
  by_cases e : a = b
  · rw [e, decide_eq_true rfl, decide_eq_true rfl]
  · rw [decide_eq_false e, decide_eq_false fun q => e (V.str.inj q)]
theorem dnV {a b : Int} : decide (V.int a = V.int b) = decide (a = b) := by
  by_cases e : a = b
  · rw [e, decide_eq_true rfl, decide_eq_true rfl]
  · rw [decide_eq_false e, decide_eq_false fun q => e (V.int.inj q)]
/-- branches by a comparison of texts -/
theorem strT {a b : Str} {A B : Prop} (h : a = b) (x : A) : if decide (V.str a = V.str b) = true then A else B := ifT (by rw [dsV, decide_eq_true h]) x
theorem strF {a b : Str} {A B : Prop} (h : a ≠ b) (x : B) : if decide (V.str a = V.str b) = true then A else B := ifF (by rw [dsV, decide_eq_false h]) x
theorem nstrT {a b : Str} {A B : Prop} (h : a ≠ b) (x : A) : if (!decide (V.str a = V.str b)) = true then A else B := ifT (by rw [dsV, decide_eq_false h]; rfl) x
theorem nstrF {a b : Str} {A B : Prop} (h : a = b) (x : B) : if (!decide (V.str a = V.str b)) = true then A else B := ifF (by rw [dsV, decide_eq_true h]; rfl) x
theorem wOK_wD {K : PySem.W.Frag} {H : Hp} {L : Nat} {v : V} {d : PyData} (h : Dp K H v d) : wOK L v = wD L d := by cases h <;> rfl
theorem nmV_nmD {K : PySem.W.Frag} {H : Hp} {v : V} {d : PyData} (h : Dp K H v d) : nmV v = nmD d := by cases h <;> rfl
theorem small_str {K : PySem.W.Frag} {H : Hp} {v : V} {d : PyData} (h : Dp K H v d) (hs : small d = true) : ∀ s, v = .str s → s.length ≤ 100000 := by
  intro s e
  subst e
  cases h
  have : s.length ≤ 60 := of_decide_eq_true hs
  omega
theorem dps2 {K : PySem.W.Frag} {H : Hp} {xs : List V} {d0 d1 : PyData} (h : DpAll K H xs [d0, d1]) : ∃ v0 v1, xs = [v0, v1] ∧ Dp K H v0 d0 ∧ Dp K H v1 d1 := by
  cases h with | cons h0 h => cases h with | cons h1 h => cases h; exact ⟨_, _, rfl, h0, h1⟩
theorem dps3 {K : PySem.W.Frag} {H : Hp} {xs : List V} {d0 d1 d2 : PyData} (h : DpAll K H xs [d0, d1, d2]) : ∃ v0 v1 v2, xs = [v0, v1, v2] ∧ Dp K H v0 d0 ∧ Dp K H v1 d1 ∧ Dp K H v2 d2 := by
  cases h with | cons h0 h => cases h with | cons h1 h => cases h with | cons h2 h => cases h; exact ⟨_, _, _, rfl, h0, h1, h2⟩
theorem small_tup {ds : List PyData} (h : small (.tuple ds) = true) : ds.length ≤ 10 ∧ smalls ds = true := by
  rw [small, Bool.and_eq_true] at h
  exact ⟨of_decide_eq_true h.1, h.2⟩
theorem small_lst {ds : List PyData} (h : small (.list ds) = true) : ds.length ≤ 10 ∧ smalls ds = true := by
  rw [small, Bool.and_eq_true] at h
  exact ⟨of_decide_eq_true h.1, h.2⟩
section
variable {P : Program} {w : World} {K : PySem.W.Frag} {mg : Str → Option Value} {base : Heap}
theorem b_is_reading_shape (T : Txt K mg) : Binds K (fdOf K (He.ga K "is_reading_shape")) ["value", "deep"] [] ∧ ∃ ds, Vals [.int 9] ds ∧ Binds K (fdOf K (He.ga K "is_reading_shape")) ["value", "deep"] ds := by
  constructor
  · obtain ⟨ds, h1, h2⟩ := FunD.binds1 (ps := ["value", "deep"]) T.g_is_reading_shape.F 2 1 (by simp) rfl fun T kV doc pm an cdv ct us its hu hi => match us, hu, its, hi with
      | [_, _], _, [_], _ => ⟨_, rfl, rfl⟩
    cases h1
    exact h2
  · exact FunD.binds1 (ps := ["value", "deep"]) T.g_is_reading_shape.F 1 0 (by simp) rfl fun T kV doc pm an cdv ct us its hu hi => match us, hu, its, hi with
      | [_], _, [_], _ => ⟨_, rfl, rfl⟩
def sp_shape (K : PySem.W.Frag) (n : Nat) : Sp := fun vs H Q _ => ∃ (v : V) (d : PyData), vs = [v, .int n] ∧ Dp K H v d ∧ small d = true ∧ Ret H Q (.bl (isShape n d))
/-- all([is_reading_shape(one, deep - 1) for one in xs]): one comprehension -/
theorem all_shape {n : Nat} {ds : List PyData} {xs : List V} {H1 : Hp} {D : Addr} {J : It} {G : Hp → Prop} {σ : L2.St} {vs : List Nat} {j : Nat} {te : TE} {Qd : Hp → Prop} (w : Walk J xs.length G (YAt xs)) (hD : H1 D = none) (hG : ∀ H, Same H1 H → G H) (hw : ∀ x, wipe ((wipe σ vs).set j (some x)) vs = wipe σ vs)
    (hx : DpAll K H1 xs ds) (hs : smalls ds = true) (hn : ds.length ≤ 1000)
    (ht : ∀ x d H, Dp K H x d → small d = true → ∀ Q : VK, Ret H Q (.bl (isShape n d)) → te ((wipe σ vs).set j (some x)) H Q)
    (q : ∀ H', Same H1 H' → H' D = some (.lst ((ds.map (isShape n)).map V.bl)) → Qd H') :
    ∃ W : Nat → Nat → Hp → Prop, (∃ m, W 0 m (upd H1 D (.lst []))) ∧ ∀ i m H, W i m H →
      (J.stop i H ∧ Qd H) ∨ (J.go i H ∧ ∃ Nx : Hp → Prop, (∀ H', Nx H' → ∃ m', m' < m ∧ W (i + 1) m' H') ∧ ∀ x H', J.yld i H x H' → gName j x (wipe σ vs) H' fun σ2 H2 => wipe σ2 vs = wipe σ vs ∧ tYes σ2 H2 fun b H3 =>
        if b = true then te σ2 H3 fun y H4 => ∃ acc, H4 D = some (.lst acc) ∧ acc.length < sizeLine ∧ Nx (upd H4 D (.lst (acc ++ [y]))) else Nx H3) := by
  have hl := dpsLen hx
  refine lcm w (fun i v => xs[i]? = some v) (fun _ _ _ _ y => y) (fun i y _ => ∃ d, ds[i]? = some d ∧ y = .bl (isShape n d)) (fun _ _ _ _ _ r => r) (by omega) hD hG hw ?_ ?_
  · rintro i x H hi hxi e Q q
    obtain ⟨d, h1, h2⟩ := dpsGetV hx hxi
    exact ht x d H (dpOn h2 e) (smalls_mem hs (List.mem_of_getElem? h1)) Q fun H' e' => q _ _ e' ⟨d, h1, rfl⟩
  · intro ys H' e hys hyl hR
    have ey : ys = (ds.map (isShape n)).map V.bl := by
      rw [List.map_map]
      refine eq_map (by omega) fun i y d h1 h2 => ?_
      obtain ⟨d', h3, h4⟩ := hR i y h1
      rw [h2] at h3
      cases h3
      exact h4
    exact q H' e (by rw [hys, ey])
theorem c_shape (T : Txt K mg) : ∀ n : Nat, n ≤ 9 → Cal P w K mg base (n + 4) "is_reading_shape" ["value", "deep"] (sp_shape K n)
  | n, h9 => by
    have S : FnScope ["value", "deep", "one"] ["value", "deep"] (defScope s_is_reading_shape) := fsc (by decide +kernel)
    refine Cal.of T.g_is_reading_shape (b_is_reading_shape T).1 S (fun vs H Q E h => ?_) fun cdv A outer s H vs Q E hr h => ?_
    · obtain ⟨v, d, rfl, _⟩ := h; rfl
    obtain ⟨v, d, rfl, hd, hs, q⟩ := h
    cases n with
    | zero =>
      refine ⟨_, pss_cons (ps_if (PW.pt (pw_or (pt_cmpR op_eq (pv 1) pe_int (nomark _)) (pw_or (pt_not (pt_val (pe_is T.zisinstance T.ztuple (by decide +kernel) kit_tuple (pv 0)))) (pw_or (pt_cmpR op_notIn_seq (pe_callB call_len_seq rfl T.zlen boot_len (pa_cons (pv 0) pa_nil)) (pe_tup (pa_cons pe_int (pa_cons pe_int pa_nil))) rfl) (pw_or1 (pt_not (pt_val (pe_is T.zisinstance T.zstr (by decide +kernel) kit_str (pe_ix ix_tup (pv 0) pe_int (fun _ _ => rfl)))))))))) (pss_one (ps_ret pe_bl)) pss_nil) pss_never, ?_⟩
      exact ⟨_, rfl, rfl, _, rfl, iteT (iteT q.here)⟩
    | succ n =>
      refine ⟨_, pss_cons (ps_if (PW.pt (pw_or (pt_cmpR op_eq (pv 1) pe_int (nomark _)) (pw_or (pt_not (pt_val (pe_is T.zisinstance T.ztuple (by decide +kernel) kit_tuple (pv 0)))) (pw_or (pt_cmpR op_notIn_seq (pe_callB call_len_seq rfl T.zlen boot_len (pa_cons (pv 0) pa_nil)) (pe_tup (pa_cons pe_int (pa_cons pe_int pa_nil))) rfl) (pw_or1 (pt_not (pt_val (pe_is T.zisinstance T.zstr (by decide +kernel) kit_str (pe_ix ix_tup (pv 0) pe_int (fun _ _ => rfl)))))))))) (pss_one (ps_ret pe_bl)) pss_nil)
        (pss_cons (ps_if (pt_cmpR op_eq (pe_ix ix_tup (pv 0) pe_int (fun _ _ => rfl)) (pgl T.tWORD) (nomark _)) (pss_one (ps_ret (pe_and (pe_cmpR op_eq (pe_callB call_len_seq rfl T.zlen boot_len (pa_cons (pv 0) pa_nil)) pe_int (nomark _)) (pe_one (pc (c_is_word_of T) hr (pa_cons (pe_callB call_len_str rfl T.zlen boot_len (pa_cons (pgl T.tSIGNS) pa_nil)) (pa_cons (pe_ix ix_tup (pv 0) pe_int (fun _ _ => rfl)) pa_nil)) (by omega)))))) pss_nil)
        (pss_cons (ps_if (pt_cmpR op_eq (pe_ix ix_tup (pv 0) pe_int (fun _ _ => rfl)) (pgl T.tNAME) (nomark _)) (pss_one (ps_ret (pe_and (pe_cmpR op_eq (pe_callB call_len_seq rfl T.zlen boot_len (pa_cons (pv 0) pa_nil)) pe_int (nomark _)) (pe_and (pc (c_is_name_number T) hr (pa_cons (pe_ix ix_tup (pv 0) pe_int (fun _ _ => rfl)) pa_nil) (by omega)) (pe_one (pc (c_is_word_of T) hr (pa_cons (pe_callB call_len_str rfl T.zlen boot_len (pa_cons (pgl T.tSIGNS) pa_nil)) (pa_cons (pe_ix ix_tup (pv 0) pe_int (fun _ _ => rfl)) pa_nil)) (by omega))))))) pss_nil)
        (pss_cons (ps_if (pt_cmpR op_eq (pe_ix ix_tup (pv 0) pe_int (fun _ _ => rfl)) (pgl T.tBEHIND) (nomark _)) (pss_one (ps_ret (pe_and (pe_cmpR op_eq (pe_callB call_len_seq rfl T.zlen boot_len (pa_cons (pv 0) pa_nil)) pe_int (nomark _)) (pe_one (pe_callB (cr_all rfl) rfl T.zall (by decide +kernel) (pa_cons (pe_lc (own := [("one", 2)]) (g := gName 2) (tt := tYes) rfl S.nd (pi_tup (pe_slice sl_tup (pv 0) (po_some pe_int) po_none)) (blkOk_by (N := ["value", "deep", "one"]) (sc := defScope s_is_reading_shape) (by decide +kernel)) (fun _ _ _ _ _ => pg_name (i := 2) S.nd rfl (Or.inl rfl)) (fun _ _ _ _ _ => pts_nil) (fun _ _ _ _ _ => pc (c_shape T n (by omega)) hr (pa_cons (pv 2) (pa_cons (pe_op op_sub (pv 1) pe_int) pa_nil)) (by omega))) pa_nil)))))) pss_nil)
        (pss_cons (ps_if (pt_cmpR op_eq (pe_ix ix_tup (pv 0) pe_int (fun _ _ => rfl)) (pgl T.tEITHER) (nomark _)) (pss_one (ps_ret (pe_and (pe_cmpR op_eq (pe_callB call_len_seq rfl T.zlen boot_len (pa_cons (pv 0) pa_nil)) pe_int (nomark _)) (pe_and (pc (c_is_count T) hr (pa_cons (pe_ix ix_tup (pv 0) pe_int (fun _ _ => rfl)) pa_nil) (by omega)) (pe_and (pe_cmpR op_lt (pe_ix ix_tup (pv 0) pe_int (fun _ _ => rfl)) pe_int (nomark _)) (pe_one (pc (c_shape T n (by omega)) hr (pa_cons (pe_ix ix_tup (pv 0) pe_int (fun _ _ => rfl)) (pa_cons (pe_op op_sub (pv 1) pe_int) pa_nil)) (by omega)))))))) pss_nil)
        (pss_cons (ps_if (PW.pt (pw_or (pt_cmpR op_ne (pe_ix ix_tup (pv 0) pe_int (fun _ _ => rfl)) (pgl T.tROUND) (nomark _)) (pw_or (pt_cmpR op_ne (pe_callB call_len_seq rfl T.zlen boot_len (pa_cons (pv 0) pa_nil)) pe_int (nomark _)) (pw_or1 (pt_not (pt_val (pc (c_is_list T) hr (pa_cons (pe_ix ix_tup (pv 0) pe_int (fun _ _ => rfl)) pa_nil) (by omega)))))))) (pss_one (ps_ret pe_bl)) pss_nil)
        (pss_one (ps_ret (pe_callB (cr_all rfl) rfl T.zall (by decide +kernel) (pa_cons (pe_lc (own := [("one", 2)]) (g := gName 2) (tt := tYes) rfl S.nd (PI.or (pi_list (pe_ix ix_tup (pv 0) pe_int (fun _ _ => rfl))) (pi_tup (pe_ix ix_tup (pv 0) pe_int (fun _ _ => rfl)))) (blkOk_by (N := ["value", "deep", "one"]) (sc := defScope s_is_reading_shape) (by decide +kernel)) (fun _ _ _ _ _ => pg_name (i := 2) S.nd rfl (Or.inl rfl)) (fun _ _ _ _ _ => pts_nil) (fun _ _ _ _ _ => pc (c_shape T n (by omega)) hr (pa_cons (pv 2) (pa_cons (pe_op op_sub (pv 1) pe_int) pa_nil)) (by omega))) pa_nil))))))))), ?_⟩
      refine ⟨_, rfl, rfl, _, rfl, ifF (by rw [dnV]; exact decide_eq_false (by omega)) ?_⟩
      have sh2 : ∀ k x, isShape (n + 1) (.tuple [.str k, x]) = if k = "word" then wD 3 x else if k = "round" then (match itemsD x with
        | some xs => (xs.map (isShape n)).all id
        | none => false) else false := fun k x => rfl
      have sh3 : ∀ k x y, isShape (n + 1) (.tuple [.str k, x, y]) = if k = "name" then nmD x && wD 3 y else if k = "behind" then isShape n x && isShape n y else if k = "either" then sdD x && isShape n y else false := fun k x y => rfl
      by_cases ek : knd d = .tup
      case neg =>
        have e : isShape (n + 1) d = false := by cases d <;> first | rfl | exact absurd rfl ek
        rw [e] at q
        exact ⟨_, rfl, _, knd d, rfl, ty_of hd, _, rfl, ifT (by show (!decide (knd d = .tup)) = true; rw [decide_eq_false ek]; rfl) (iteT q.here)⟩
      obtain ⟨ds, rfl⟩ : ∃ ds, d = .tuple ds := by cases d <;> first | exact ⟨_, rfl⟩ | cases ek
      obtain ⟨a, xs, rfl, hT, hx⟩ := dp_tup hd
      have hl := dpsLen hx
      refine ⟨_, rfl, _, .tup, rfl, ty_tup hT, _, rfl, iteF ⟨_, rfl, a, xs, rfl, .inr hT, by decide, fun p hp => ?_⟩⟩
      have e1 := same_new hp (.tup [.int 2, .int 3])
      refine ⟨p, _, rfl, .inr (st upd_same), rfl, rfl, _, rfl, ?_⟩
      have hin : inV (.int (xs.length : Int)) [.int 2, .int 3] = (decide (ds.length = 2) || decide (ds.length = 3)) := by
        show ((((2 : Int) == xs.length)) || (((3 : Int) == xs.length) || false)) = _
        rw [hl, Bool.or_false]
        by_cases h2 : ds.length = 2
        · rw [h2]; rfl
        · by_cases h3 : ds.length = 3
          · rw [h3]; rfl
          · rw [decide_eq_false h2, decide_eq_false h3, beq_eq_false_iff_ne.mpr (by omega), beq_eq_false_iff_ne.mpr (by omega)]
      by_cases hlen : ds.length = 2 ∨ ds.length = 3
      case neg =>
        have e : isShape (n + 1) (.tuple ds) = false := by
          match ds, hlen with
          | [], _ => rfl
          | [_], _ => cases ‹PyData› <;> rfl
          | [_, _], h => exact absurd (.inl rfl) h
          | [_, _, _], h => exact absurd (.inr rfl) h
          | a :: _ :: _ :: _ :: _, _ => cases a <;> rfl
        rw [e] at q
        refine ifT ?_ (iteT (q.go e1))
        show (!inV _ _) = true
        rw [hin, decide_eq_false (fun z => hlen (.inl z)), decide_eq_false (fun z => hlen (.inr z))]; rfl
      refine ifF ?_ ?_
      · show (!inV _ _) = false
        rw [hin]
        rcases hlen with h | h <;> rw [h] <;> rfl
      have hT1 := Same.tup e1 hT
      have hx1 := dpsOn hx e1
      rcases hlen with h | h
      · -- two parts
        obtain ⟨d0, d1, rfl⟩ : ∃ d0 d1, ds = [d0, d1] := by
          match ds, h with
          | [d0, d1], _ => exact ⟨d0, d1, rfl⟩
        obtain ⟨v0, v1, rfl, h0, h1⟩ := dps2 hx1
        have hs1 : small d1 = true := smalls_mem (small_tup hs).2 (by simp)
        refine ⟨_, rfl, a, _, _, _, rfl, rfl, hT1, rfl, _, knd d0, rfl, ty_of h0, _, rfl, ?_⟩
        by_cases es : knd d0 = .str
        case neg =>
          have e : isShape (n + 1) (.tuple [d0, d1]) = false := by cases d0 <;> first | rfl | exact absurd rfl es
          rw [e] at q
          exact ifT (by show (!decide (knd d0 = .str)) = true; rw [decide_eq_false es]; rfl) (q.go e1)
        obtain ⟨k, rfl⟩ : ∃ k, d0 = .str k := by cases d0 <;> first | exact ⟨_, rfl⟩ | cases es
        obtain rfl := dp_str h0
        rw [sh2] at q
        refine iteF ⟨_, rfl, a, _, _, _, rfl, rfl, hT1, rfl, rfl, _, rfl, ?_⟩
        by_cases k1 : k = "word"
        · refine strT k1 ⟨_, rfl, a, _, rfl, .inr hT1, rfl, _, rfl, ifT (decide_eq_true rfl) ⟨_, rfl, by decide, _, rfl, a, _, _, _, rfl, rfl, hT1, rfl, 3, v1, knd d1, rfl, by decide, ty_of h1, small_str h1 hs1, ?_⟩⟩
          rw [if_pos k1] at q
          rw [wOK_wD h1]
          exact q.on e1
        rw [if_neg k1] at q
        refine strF k1 ⟨_, rfl, a, _, _, _, rfl, rfl, hT1, rfl, rfl, _, rfl, ?_⟩
        by_cases k2 : k = "name"
        · rw [if_neg (by rw [k2]; decide)] at q
          exact strT k2 ⟨_, rfl, a, _, rfl, .inr hT1, rfl, _, rfl, ifF (by rw [dnV]; rfl) (q.go e1)⟩
        refine strF k2 ⟨_, rfl, a, _, _, _, rfl, rfl, hT1, rfl, rfl, _, rfl, ?_⟩
        by_cases k3 : k = "behind"
        · rw [if_neg (by rw [k3]; decide)] at q
          exact strT k3 ⟨_, rfl, a, _, rfl, .inr hT1, rfl, _, rfl, ifF (by rw [dnV]; rfl) (q.go e1)⟩
        refine strF k3 ⟨_, rfl, a, _, _, _, rfl, rfl, hT1, rfl, rfl, _, rfl, ?_⟩
        by_cases k4 : k = "either"
        · rw [if_neg (by rw [k4]; decide)] at q
          exact strT k4 ⟨_, rfl, a, _, rfl, .inr hT1, rfl, _, rfl, ifF (by rw [dnV]; rfl) (q.go e1)⟩
        refine strF k4 ⟨_, rfl, a, _, _, _, rfl, rfl, hT1, rfl, rfl, _, rfl, ?_⟩
        by_cases k5 : k = "round"
        case neg =>
          rw [if_neg k5] at q
          exact nstrT k5 (iteT (q.go e1))
        rw [if_pos k5] at q
        refine nstrF k5 ⟨_, rfl, a, _, rfl, .inr hT1, rfl, _, rfl, ifF (by rw [dnV]; rfl) ⟨_, rfl, a, _, _, _, rfl, rfl, hT1, rfl, v1, knd d1, rfl, ty_of h1, fun H2 e2 => ⟨_, rfl, ?_⟩⟩⟩
        have hT2 := Same.tup e2 hT1
        have e3 := e1.trans e2
        have elt : ∀ (c0 : V) (x : V) (d : PyData) (H : Hp), Dp K H x d → small d = true → ∀ Q : VK, Ret H Q (.bl (isShape n d)) → sp_shape K n [x, .int (((n + 1 : Nat) : Int) - 1)] H Q E0 := fun c0 x d H hx hs Q q => ⟨x, d, by rw [show ((n + 1 : Nat) : Int) - 1 = n by omega], hx, hs, q⟩
        cases h1 with
        | lst hl1 hd1 =>
          have hsu := small_lst hs1
          refine iteF (.inl ⟨_, rfl, a, _, _, _, rfl, rfl, hT2, rfl, _, rfl, ⟨_, e2.seq hl1⟩, fun D hD => all_shape walk_list hD (fun H' e' => e'.seq (e2.seq hl1)) (fun _ => rfl) (dpsOn hd1 e2) hsu.2 (by have := hsu.1; omega) (fun x d H3 hx3 hs3 Q3 q3 => ⟨_, rfl, _, rfl, _, _, rfl, rfl, elt .non x d H3 hx3 hs3 Q3 q3⟩) fun H3 e4 hD3 => ⟨D, _, rfl, sl hD3, q.go (e3.trans e4)⟩⟩)
        | tup hl1 hd1 =>
          have hsu := small_tup hs1
          refine iteF (.inr ⟨_, rfl, a, _, _, _, rfl, rfl, hT2, rfl, _, rfl, ⟨_, Same.tup e2 hl1⟩, fun D hD => all_shape walk_tup hD (fun H' e' => Same.tup e' (Same.tup e2 hl1)) (fun _ => rfl) (dpsOn hd1 e2) hsu.2 (by have := hsu.1; omega) (fun x d H3 hx3 hs3 Q3 q3 => ⟨_, rfl, _, rfl, _, _, rfl, rfl, elt .non x d H3 hx3 hs3 Q3 q3⟩) fun H3 e4 hD3 => ⟨D, _, rfl, sl hD3, q.go (e3.trans e4)⟩⟩)
        | _ => exact iteT (q.go e3)
      · -- three parts
        obtain ⟨d0, d1, d2, rfl⟩ : ∃ d0 d1 d2, ds = [d0, d1, d2] := by
          match ds, h with
          | [d0, d1, d2], _ => exact ⟨d0, d1, d2, rfl⟩
        obtain ⟨v0, v1, v2, rfl, h0, h1, h2⟩ := dps3 hx1
        have hs1 : small d1 = true := smalls_mem (small_tup hs).2 (by simp)
        have hs2 : small d2 = true := smalls_mem (small_tup hs).2 (by simp)
        refine ⟨_, rfl, a, _, _, _, rfl, rfl, hT1, rfl, _, knd d0, rfl, ty_of h0, _, rfl, ?_⟩
        by_cases es : knd d0 = .str
        case neg =>
          have e : isShape (n + 1) (.tuple [d0, d1, d2]) = false := by cases d0 <;> first | rfl | exact absurd rfl es
          rw [e] at q
          exact ifT (by show (!decide (knd d0 = .str)) = true; rw [decide_eq_false es]; rfl) (q.go e1)
        obtain ⟨k, rfl⟩ : ∃ k, d0 = .str k := by cases d0 <;> first | exact ⟨_, rfl⟩ | cases es
        obtain rfl := dp_str h0
        rw [sh3] at q
        refine iteF ⟨_, rfl, a, _, _, _, rfl, rfl, hT1, rfl, rfl, _, rfl, ?_⟩
        by_cases k1 : k = "word"
        · rw [if_neg (by rw [k1]; decide), if_neg (by rw [k1]; decide), if_neg (by rw [k1]; decide)] at q
          exact strT k1 ⟨_, rfl, a, _, rfl, .inr hT1, rfl, _, rfl, ifF (by rw [dnV]; rfl) (q.go e1)⟩
        refine strF k1 ⟨_, rfl, a, _, _, _, rfl, rfl, hT1, rfl, rfl, _, rfl, ?_⟩
        by_cases k2 : k = "name"
        · rw [if_pos k2] at q
          refine strT k2 ⟨_, rfl, a, _, rfl, .inr hT1, rfl, _, rfl, ifT (decide_eq_true rfl) ⟨_, rfl, a, _, _, _, rfl, rfl, hT1, rfl, v1, knd d1, rfl, ty_of h1, fun H2 e2 => ⟨_, rfl, ?_⟩⟩⟩
          rw [nmV_nmD h1]
          cases hn : nmD d1 with
          | false =>
            rw [hn] at q
            exact iteF (q.go (e1.trans e2))
          | true =>
            rw [hn, Bool.true_and] at q
            refine iteT ⟨_, rfl, by decide, _, rfl, a, _, _, _, rfl, rfl, Same.tup e2 hT1, rfl, 3, v2, knd d2, rfl, by decide, ty_of (dpOn h2 e2), small_str h2 hs2, ?_⟩
            rw [wOK_wD h2]
            exact q.on (e1.trans e2)
        rw [if_neg k2] at q
        refine strF k2 ⟨_, rfl, a, _, _, _, rfl, rfl, hT1, rfl, rfl, _, rfl, ?_⟩
        have elt : ∀ (c0 : V) (x : V) (d : PyData) (H : Hp), Dp K H x d → small d = true → ∀ Q : VK, Ret H Q (.bl (isShape n d)) → sp_shape K n [x, .int (((n + 1 : Nat) : Int) - 1)] H Q E0 := fun c0 x d H hx hs Q q => ⟨x, d, by rw [show ((n + 1 : Nat) : Int) - 1 = n by omega], hx, hs, q⟩
        by_cases k3 : k = "behind"
        · rw [if_pos k3] at q
          refine strT k3 ⟨_, rfl, a, _, rfl, .inr hT1, rfl, _, rfl, ifT (decide_eq_true rfl) ⟨_, rfl, _, rfl, a, _, rfl, hT1, (by show ¬ (HT.sIx 3 0 (some 1) = 0 ∧ HT.sIx 3 3 none = 3); decide), fun t ht => ?_⟩⟩
          have e2 := same_new ht (.tup (cutV [V.str k, v1, v2] (some 1) none))
          have hc : cutV [V.str k, v1, v2] (some 1) none = [v1, v2] := rfl
          rw [hc] at e2 ⊢
          refine ⟨t, rfl, ⟨_, st upd_same⟩, fun D hD => all_shape (ds := [d1, d2]) walk_tup hD (fun H' e' => Same.tup e' (st upd_same)) (fun _ => rfl) (.cons (dpOn h1 e2) (.cons (dpOn h2 e2) .nil)) (by rw [smalls, smalls, hs1, hs2]; rfl) (by simp) (fun x d H3 hx3 hs3 Q3 q3 => ⟨_, rfl, _, rfl, _, _, rfl, rfl, elt .non x d H3 hx3 hs3 Q3 q3⟩) fun H3 e4 hD3 => ⟨D, _, rfl, sl hD3, ?_⟩⟩
          have eb : ([d1, d2].map (isShape n)).all id = (isShape n d1 && isShape n d2) := by
            show (isShape n d1 && (isShape n d2 && true)) = _
            rw [Bool.and_true]
          rw [eb]
          exact q.go ((e1.trans e2).trans e4)
        rw [if_neg k3] at q
        refine strF k3 ⟨_, rfl, a, _, _, _, rfl, rfl, hT1, rfl, rfl, _, rfl, ?_⟩
        by_cases k4 : k = "either"
        · rw [if_pos k4] at q
          refine strT k4 ⟨_, rfl, a, _, rfl, .inr hT1, rfl, _, rfl, ifT (decide_eq_true rfl) ⟨_, rfl, a, _, _, _, rfl, rfl, hT1, rfl, v1, knd d1, rfl, ty_of h1, fun H2 e2 => ⟨_, rfl, ?_⟩⟩⟩
          have hT2 := Same.tup e2 hT1
          have bad : sdD d1 = false → (sdD d1 && isShape n d2) = false := fun h => by rw [h]; rfl
          cases h1 with
          | int i =>
            by_cases hi : 0 ≤ i
            · refine ifT (decide_eq_true hi) ⟨_, rfl, a, _, _, _, rfl, rfl, hT2, rfl, _, _, rfl, rfl, _, rfl, ?_⟩
              by_cases hi2 : i < 2
              · refine ifT (decide_eq_true hi2) ⟨_, rfl, a, _, _, _, rfl, rfl, hT2, rfl, _, rfl, _, _, rfl, rfl, elt .non _ _ _ (dpOn h2 e2) hs2 _ ?_⟩
                have e4 : (sdD (.int i) && isShape n d2) = isShape n d2 := by
                  show ((decide (0 ≤ i) && decide (i < 2)) && _) = _
                  rw [decide_eq_true hi, decide_eq_true hi2]; rfl
                rw [e4] at q
                exact q.on (e1.trans e2)
              · rw [bad (by show (decide (0 ≤ i) && decide (i < 2)) = false; rw [decide_eq_false hi2, Bool.and_false])] at q
                exact ifF (decide_eq_false hi2) (q.go (e1.trans e2))
            · rw [bad (by show (decide (0 ≤ i) && decide (i < 2)) = false; rw [decide_eq_false hi]; rfl)] at q
              exact ifF (decide_eq_false hi) (q.go (e1.trans e2))
          | _ =>
            rw [bad rfl] at q
            exact iteF (q.go (e1.trans e2))
        rw [if_neg k4] at q
        refine strF k4 ⟨_, rfl, a, _, _, _, rfl, rfl, hT1, rfl, rfl, _, rfl, ?_⟩
        by_cases k5 : k = "round"
        case neg => exact nstrT k5 (iteT (q.go e1))
        exact nstrF k5 ⟨_, rfl, a, _, rfl, .inr hT1, rfl, _, rfl, ifT (by rw [dnV]; rfl) (iteT (q.go e1))⟩
end
end K44
end
section
set_option maxHeartbeats 4000000
namespace K44
open PySem PySem.Spec PyProof.Rows L2
/-! ### facts of readings -/
theorem sL (a b : Str) : (a ++ b).length = a.length + b.length := by
  show (a.cps ++ b.cps).size = _
  rw [Array.size_append]; rfl
theorem seL : Str.empty.length = 0 := rfl
mutual
theorem rd_len : ∀ (r : Rd) (n : Nat), r.ok → r.dep ≤ n → r.rd.length ≤ 6 * 10 ^ n
  | .word s, n, h, hn => by
    have h1 : s.length ≤ 60 := h.1
    have h2 : 1 ≤ n := hn
    have : 10 ^ 1 ≤ 10 ^ n := Nat.pow_le_pow_right (by decide) h2
    show s.length ≤ _; omega
  | .name k s, n, h, hn => by
    have h1 : s.length ≤ 60 := h.2.1
    have h2 : 1 ≤ n := hn
    have : 10 ^ 1 ≤ 10 ^ n := Nat.pow_le_pow_right (by decide) h2
    show s.length ≤ _; omega
  | .beh r s, n, h, hn => by
    have h2 : max r.dep s.dep + 1 ≤ n := hn
    obtain ⟨m, rfl⟩ : ∃ m, n = m + 1 := ⟨n - 1, by omega⟩
    have a := rd_len r m h.1 (by omega)
    have b := rd_len s m h.2 (by omega)
    show (r.rd ++ s.rd).length ≤ _
    rw [sL, Nat.pow_succ]; omega
  | .eit c r, n, h, hn => by
    have h2 : r.dep + 1 ≤ n := hn
    obtain ⟨m, rfl⟩ : ∃ m, n = m + 1 := ⟨n - 1, by omega⟩
    have a := rd_len r m h (by omega)
    show r.rd.length ≤ _
    rw [Nat.pow_succ]; omega
  | .rnd t rs, n, h, hn => by
    have h2 : rdsDep rs + 1 ≤ n := hn
    obtain ⟨m, rfl⟩ : ∃ m, n = m + 1 := ⟨n - 1, by omega⟩
    have a := rds_len rs m h.2 (by omega)
    have h3 : rs.length ≤ 10 := h.1
    show (rdsRd rs).length ≤ _
    have : rs.length * (6 * 10 ^ m) ≤ 10 * (6 * 10 ^ m) := Nat.mul_le_mul_right _ h3
    rw [Nat.pow_succ]; omega
theorem rds_len : ∀ (rs : List Rd) (n : Nat), rdsOk rs → rdsDep rs ≤ n → (rdsRd rs).length ≤ rs.length * (6 * 10 ^ n)
  | [], n, _, _ => by show Str.empty.length ≤ _; rw [seL]; exact Nat.zero_le _
  | r :: rs, n, h, hn => by
    have h2 : max r.dep (rdsDep rs) ≤ n := hn
    have a := rd_len r n h.1 (by omega)
    have b := rds_len rs n h.2 (by omega)
    show (r.rd ++ rdsRd rs).length ≤ _
    rw [sL, List.length_cons, Nat.succ_mul]; omega
end
theorem rdsD_map : ∀ rs : List Rd, rdsD rs = rs.map Rd.d
  | [] => rfl
  | r :: rs => by rw [rdsD, rdsD_map rs]; rfl
theorem rdsOk_mem : ∀ {rs : List Rd} {r : Rd}, rdsOk rs → r ∈ rs → r.ok
  | [], _, _, h => by simp at h
  | s :: rs, r, h, hm => by
    rcases List.mem_cons.mp hm with rfl | hm
    · exact h.1
    · exact rdsOk_mem h.2 hm
theorem rdsDep_mem : ∀ {rs : List Rd} {r : Rd}, r ∈ rs → r.dep ≤ rdsDep rs
  | [], _, h => by simp at h
  | s :: rs, r, hm => by
    rw [rdsDep]
    rcases List.mem_cons.mp hm with rfl | hm
    · omega
    · have := rdsDep_mem hm; omega
theorem s_ext {a b : Str} (h : a.cps.toList = b.cps.toList) : a = b := by
  obtain ⟨a⟩ := a; obtain ⟨b⟩ := b
  congr
  exact Array.toList_inj.mp h
theorem s_app (a b : Str) : (a ++ b).cps.toList = a.cps.toList ++ b.cps.toList := by
  show (a.cps ++ b.cps).toList = _
  rw [Array.toList_append]
theorem joinL_nil : ∀ l : List (List Nat), TL.joinL [] l = l.flatten
  | [] => rfl
  | [p] => by show p = _; simp
  | p :: q :: r => by
    show p ++ ([] ++ TL.joinL [] (q :: r)) = _
    rw [joinL_nil (q :: r)]; simp
theorem rds_join : ∀ rs : List Rd, Txt.join Str.empty (rs.map Rd.rd) = rdsRd rs := by
  intro rs
  refine s_ext ?_
  have e1 : (Txt.join Str.empty (rs.map Rd.rd)).cps.toList = TL.joinL [] ((rs.map Rd.rd).map fun z => z.cps.toList) := (congrArg TL.tl (TL.join_eq Str.empty (rs.map Rd.rd))).trans (TL.tl_join Str.empty (rs.map Rd.rd))
  rw [e1, joinL_nil]
  clear e1
  induction rs with
  | nil => rfl
  | cons r rs ih =>
    show (r.rd.cps.toList ++ _) = (r.rd ++ rdsRd rs).cps.toList
    rw [s_app, ← ih]
theorem rds_sum : ∀ (rs : List Rd), ((rs.map Rd.rd).map (·.length)).sum = (rdsRd rs).length
  | [] => rfl
  | r :: rs => by
    show r.rd.length + _ = (r.rd ++ rdsRd rs).length
    rw [sL, ← rds_sum rs]; rfl
section
variable {P : Program} {w : World} {K : PySem.W.Frag} {mg : Str → Option Value} {base : Heap}
/-- words_read, of readings at most n deep -/
def sp_words_read (K : PySem.W.Frag) (n : Nat) : Sp := fun vs H Q _ => ∃ (v : V) (r : Rd), vs = [v] ∧ Dp K H v r.d ∧ r.ok ∧ r.dep ≤ n ∧ Ret H Q (.str r.rd)
theorem dep_pos (r : Rd) : 1 ≤ r.dep := by cases r <;> (rw [Rd.dep]; omega)
theorem c_words_read (T : Txt K mg) : ∀ n : Nat, n ≤ 5 → Cal P w K mg base n "words_read" ["reading"] (sp_words_read K n)
  | 0, _ => Cal.none_ T.g_words_read T.b_words_read fun vs H Q E ⟨v, r, _, _, _, h, _⟩ => by have := dep_pos r; omega
  | n + 1, h5 => by
    have S : FnScope ["reading", "one"] ["reading"] (defScope s_words_read) := fsc (by decide +kernel)
    refine Cal.of T.g_words_read T.b_words_read S (fun vs H Q E h => ?_) fun cdv A outer s H vs Q E hr h => ?_
    · obtain ⟨v, r, rfl, _⟩ := h; rfl
    obtain ⟨v, r, rfl, hd, ho, hn, q⟩ := h
    have C := c_words_read T n (by omega)
    refine ⟨_, pss_cons (ps_if (pt_cmpR op_eq (pe_ix ix_tup (pv 0) pe_int (fun _ _ => rfl)) (pgl T.tBEHIND) (nomark _)) (pss_one (ps_ret (pe_op op_add_str (pc C hr (pa_cons (pe_ix ix_tup (pv 0) pe_int (fun _ _ => rfl)) pa_nil) (Nat.le_refl _)) (pc C hr (pa_cons (pe_ix ix_tup (pv 0) pe_int (fun _ _ => rfl)) pa_nil) (Nat.le_refl _))))) pss_nil)
      (pss_cons (ps_if (pt_cmpR op_eq (pe_ix ix_tup (pv 0) pe_int (fun _ _ => rfl)) (pgl T.tROUND) (nomark _)) (pss_one (ps_ret (pe_join pe_str (pe_lc (own := [("one", 1)]) (g := gName 1) (tt := tYes) rfl S.nd (PI.or (pi_list (pe_ix ix_tup (pv 0) pe_int (fun _ _ => rfl))) (pi_tup (pe_ix ix_tup (pv 0) pe_int (fun _ _ => rfl)))) (blkOk_by (N := ["reading", "one"]) (sc := defScope s_words_read) (by decide +kernel)) (fun _ _ _ _ _ => pg_name (i := 1) S.nd rfl (Or.inl rfl)) (fun _ _ _ _ _ => pts_nil)
        (fun _ _ _ _ _ => pc C hr (pa_cons (pv 1) pa_nil) (Nat.le_refl _)))))) pss_nil)
      (pss_one (ps_ret (pe_ifExp (pt_cmpR op_eq (pe_ix ix_tup (pv 0) pe_int (fun _ _ => rfl)) (pgl T.tEITHER) (nomark _)) (pc C hr (pa_cons (pe_ix ix_tup (pv 0) pe_int (fun _ _ => rfl)) pa_nil) (Nat.le_refl _)) (pe_ix ix_tup (pv 0) (pe_un un_neg pe_int) (fun _ _ => rfl)))))), ?_⟩
    have hp : 10 ^ n ≤ 10 ^ 4 := Nat.pow_le_pow_right (by decide) (by omega)
    cases r with
    | word z =>
      obtain ⟨a, xs, rfl, hT, hx⟩ := dp_tup hd
      obtain ⟨v0, v1, rfl, h0, h1⟩ := dps2 hx
      obtain rfl := dp_str h0
      obtain rfl := dp_str h1
      exact ⟨_, rfl, a, _, _, _, rfl, rfl, hT, rfl, rfl, _, rfl, strF (by decide) ⟨_, rfl, a, _, _, _, rfl, rfl, hT, rfl, rfl, _, rfl, strF (by decide) ⟨_, rfl, a, _, _, _, rfl, rfl, hT, rfl, rfl, _, rfl, strF (by decide) ⟨_, rfl, _, rfl, a, _, _, _, rfl, rfl, hT, rfl, q.here⟩⟩⟩⟩
    | name k z =>
      obtain ⟨a, xs, rfl, hT, hx⟩ := dp_tup hd
      obtain ⟨v0, v1, v2, rfl, h0, h1, h2⟩ := dps3 hx
      obtain rfl := dp_str h0
      obtain rfl := dp_str h2
      exact ⟨_, rfl, a, _, _, _, rfl, rfl, hT, rfl, rfl, _, rfl, strF (by decide) ⟨_, rfl, a, _, _, _, rfl, rfl, hT, rfl, rfl, _, rfl, strF (by decide) ⟨_, rfl, a, _, _, _, rfl, rfl, hT, rfl, rfl, _, rfl, strF (by decide) ⟨_, rfl, _, rfl, a, _, _, _, rfl, rfl, hT, rfl, q.here⟩⟩⟩⟩
    | beh r1 r2 =>
      obtain ⟨a, xs, rfl, hT, hx⟩ := dp_tup hd
      obtain ⟨v0, v1, v2, rfl, h0, h1, h2⟩ := dps3 hx
      obtain rfl := dp_str h0
      have hn' : max r1.dep r2.dep + 1 ≤ n + 1 := hn
      have l1 := rd_len r1 n ho.1 (by omega)
      have l2 := rd_len r2 n ho.2 (by omega)
      refine ⟨_, rfl, a, _, _, _, rfl, rfl, hT, rfl, rfl, _, rfl, strT rfl ⟨_, rfl, a, _, _, _, rfl, rfl, hT, rfl, v1, r1, rfl, h1, ho.1, by omega, fun H1 e1 => ⟨_, rfl, a, _, _, _, rfl, rfl, Same.tup e1 hT, rfl, v2, r2, rfl, dpOn h2 e1, ho.2, by omega, fun H2 e2 => ⟨_, _, rfl, rfl, szl (by omega), q.go (e1.trans e2)⟩⟩⟩⟩
    | eit b r1 =>
      obtain ⟨a, xs, rfl, hT, hx⟩ := dp_tup hd
      obtain ⟨v0, v1, v2, rfl, h0, h1, h2⟩ := dps3 hx
      obtain rfl := dp_str h0
      have hn' : r1.dep + 1 ≤ n + 1 := hn
      exact ⟨_, rfl, a, _, _, _, rfl, rfl, hT, rfl, rfl, _, rfl, strF (by decide) ⟨_, rfl, a, _, _, _, rfl, rfl, hT, rfl, rfl, _, rfl, strF (by decide) ⟨_, rfl, a, _, _, _, rfl, rfl, hT, rfl, rfl, _, rfl, strT rfl ⟨_, rfl, a, _, _, _, rfl, rfl, hT, rfl, v2, r1, rfl, h2, ho, by omega, q⟩⟩⟩⟩
    | rnd t rs =>
      have hn' : rdsDep rs + 1 ≤ n + 1 := hn
      have l1 := rds_len rs n ho.2 (by omega)
      have h10 : rs.length ≤ 10 := ho.1
      have l2 : rs.length * (6 * 10 ^ n) ≤ 10 * (6 * 10 ^ 4) := Nat.mul_le_mul h10 (by omega)
      cases t with
      | false =>
        obtain ⟨a, xs, rfl, hT, hx⟩ := dp_tup hd
        obtain ⟨v0, v1, rfl, h0, h1⟩ := dps2 hx
        obtain rfl := dp_str h0
        obtain ⟨b, us, rfl, hL, hu⟩ := dp_lst h1
        rw [rdsD_map] at hu
        refine ⟨_, rfl, a, _, _, _, rfl, rfl, hT, rfl, rfl, _, rfl, strF (by decide) ⟨_, rfl, a, _, _, _, rfl, rfl, hT, rfl, rfl, _, rfl, strT rfl ⟨⟨_, rfl⟩, .inl ⟨_, rfl, a, _, _, _, rfl, rfl, hT, rfl, _, rfl, ⟨_, hL⟩, fun D hD => lcmD rs us Rd.d (fun r => V.str r.rd) walk_list hu (by omega) hD (fun H' e => e.seq hL) (fun _ => rfl) (fun r x H2 hm g1 _ Q2 g4 => ⟨_, rfl, x, r, rfl, g1, rdsOk_mem ho.2 hm, (by have := rdsDep_mem hm; omega), g4⟩) fun H2 e2 hD2 => ⟨Str.empty, D, rs.map Rd.rd, rfl, rfl, .inl (sl (by rw [hD2, List.map_map]; rfl)), by rw [rds_sum, seL]; omega, by rw [rds_join]; exact q.go e2⟩⟩⟩⟩⟩
      | true =>
        obtain ⟨a, xs, rfl, hT, hx⟩ := dp_tup hd
        obtain ⟨v0, v1, rfl, h0, h1⟩ := dps2 hx
        obtain rfl := dp_str h0
        obtain ⟨b, us, rfl, hL, hu⟩ := dp_tup h1
        rw [rdsD_map] at hu
        refine ⟨_, rfl, a, _, _, _, rfl, rfl, hT, rfl, rfl, _, rfl, strF (by decide) ⟨_, rfl, a, _, _, _, rfl, rfl, hT, rfl, rfl, _, rfl, strT rfl ⟨⟨_, rfl⟩, .inr ⟨_, rfl, a, _, _, _, rfl, rfl, hT, rfl, _, rfl, ⟨_, hL⟩, fun D hD => lcmD rs us Rd.d (fun r => V.str r.rd) walk_tup hu (by omega) hD (fun H' e => Same.tup e hL) (fun _ => rfl) (fun r x H2 hm g1 _ Q2 g4 => ⟨_, rfl, x, r, rfl, g1, rdsOk_mem ho.2 hm, (by have := rdsDep_mem hm; omega), g4⟩) fun H2 e2 hD2 => ⟨Str.empty, D, rs.map Rd.rd, rfl, rfl, .inl (sl (by rw [hD2, List.map_map]; rfl)), by rw [rds_sum, seL]; omega, by rw [rds_join]; exact q.go e2⟩⟩⟩⟩⟩
end
end K44
end
section
set_option maxHeartbeats 4000000
namespace K44
open PySem PySem.Spec PyProof.Rows L2
def pcD (p : Nat × Str) : PyData := .tuple [.int p.1, .str p.2]
theorem noL_pcs : ∀ l : List (Nat × Str), noLs (l.map pcD) = true
  | [] => rfl
  | p :: l => by
    show (noL (pcD p) && noLs (l.map pcD)) = true
    rw [noL_pcs l]; rfl
mutual
theorem pcs_len : ∀ (r : Rd) (n : Nat), r.ok → r.dep ≤ n → r.pcs.length ≤ 10 ^ n
  | .word s, n, h, hn => Nat.zero_le _
  | .name k s, n, h, hn => Nat.pow_le_pow_right (by decide : 0 < 10) (Nat.zero_le n)
  | .beh r s, n, h, hn => by
    have h2 : max r.dep s.dep + 1 ≤ n := hn
    obtain ⟨m, rfl⟩ : ∃ m, n = m + 1 := ⟨n - 1, by omega⟩
    have a := pcs_len r m h.1 (by omega)
    have b := pcs_len s m h.2 (by omega)
    show (r.pcs ++ s.pcs).length ≤ _
    rw [List.length_append, Nat.pow_succ]; omega
  | .eit c r, n, h, hn => by
    have h2 : r.dep + 1 ≤ n := hn
    obtain ⟨m, rfl⟩ : ∃ m, n = m + 1 := ⟨n - 1, by omega⟩
    have a := pcs_len r m h (by omega)
    show r.pcs.length ≤ _
    rw [Nat.pow_succ]; omega
  | .rnd t rs, n, h, hn => by
    have h2 : rdsDep rs + 1 ≤ n := hn
    obtain ⟨m, rfl⟩ : ∃ m, n = m + 1 := ⟨n - 1, by omega⟩
    have a := rpcs_len rs m h.2 (by omega)
    have h3 : rs.length ≤ 10 := h.1
    show (rdsPcs rs).length ≤ _
    have : rs.length * 10 ^ m ≤ 10 * 10 ^ m := Nat.mul_le_mul_right _ h3
    rw [Nat.pow_succ]; omega
theorem rpcs_len : ∀ (rs : List Rd) (n : Nat), rdsOk rs → rdsDep rs ≤ n → (rdsPcs rs).length ≤ rs.length * 10 ^ n
  | [], n, _, _ => Nat.zero_le _
  | r :: rs, n, h, hn => by
    have h2 : max r.dep (rdsDep rs) ≤ n := hn
    have a := pcs_len r n h.1 (by omega)
    have b := rpcs_len rs n h.2 (by omega)
    show (r.pcs ++ rdsPcs rs).length ≤ _
    rw [List.length_append, List.length_cons, Nat.succ_mul]; omega
end
theorem rdsPcs_app : ∀ a b : List Rd, rdsPcs (a ++ b) = rdsPcs a ++ rdsPcs b
  | [], _ => rfl
  | r :: a, b => by
    show r.pcs ++ rdsPcs (a ++ b) = (r.pcs ++ rdsPcs a) ++ rdsPcs b
    rw [rdsPcs_app a b, List.append_assoc]
theorem rdsPcs_one (r : Rd) : rdsPcs [r] = r.pcs := by
  show r.pcs ++ [] = _
  simp
theorem dpsApp {K : PySem.W.Frag} {H : Hp} : ∀ {a b : List PyData} {u v : List V}, DpAll K H u a → DpAll K H v b → DpAll K H (u ++ v) (a ++ b)
  | [], _, _, _, h, k => by cases h; exact k
  | _ :: _, _, _, _, h, k => by
    cases h with | cons h1 h2 => exact .cons h1 (dpsApp h2 k)
section
variable {P : Program} {w : World} {K : PySem.W.Frag} {mg : Str → Option Value} {base : Heap}
/-- a list of data -/
def RetL (K : PySem.W.Frag) (H : Hp) (Q : VK) (ds : List PyData) : Prop := ∀ p H' vs, Same H H' → H' p = some (.lst vs) → DpAll K H' vs ds → Q (.ref p) H'
theorem RetL.on {H H' : Hp} {Q : VK} {ds : List PyData} (q : RetL K H Q ds) (e : Same H H') : RetL K H' Q ds := fun p H'' vs e' => q p H'' vs (e.trans e')
def sp_pieces_of (K : PySem.W.Frag) (n : Nat) : Sp := fun vs H Q _ => ∃ (v : V) (r : Rd), vs = [v] ∧ Dp K H v r.d ∧ r.ok ∧ r.dep ≤ n ∧ RetL K H Q (r.pcs.map pcD)
theorem take_ok : ∀ {rs : List Rd}, rdsOk rs → ∀ i, rdsOk (rs.take i)
  | [], _, i => by rw [List.take_nil]; exact True.intro
  | r :: rs, h, 0 => True.intro
  | r :: rs, h, i + 1 => ⟨h.1, take_ok h.2 i⟩
theorem take_dep : ∀ (rs : List Rd) (i : Nat), rdsDep (rs.take i) ≤ rdsDep rs
  | [], i => by rw [List.take_nil]; exact Nat.le_refl _
  | r :: rs, 0 => Nat.zero_le _
  | r :: rs, i + 1 => by
    have := take_dep rs i
    show max r.dep (rdsDep (rs.take i)) ≤ max r.dep (rdsDep rs)
    omega
theorem pcs_loop {n : Nat} {v : V} {l : Addr} {B H1 : Hp} {D : Ends} {us : List V} {rs : List Rd} {J : It} {G : Hp → Prop} {o : Option V} (w : Walk J us.length G (YAt us)) (hl : B l = none) (e : Same B H1) (h1 : H1 l = some (.lst [])) (hG : ∀ H', Same B H' → G H') (hu : DpAll K B us (rs.map Rd.d))
    (ho : rdsOk rs) (hn : rdsDep rs ≤ n) (h10 : rs.length ≤ 10) (h4 : n ≤ 4) (q : ∀ H' o zs, Same B H' → H' l = some (.lst zs) → DpAll K H' zs ((rdsPcs rs).map pcD) → D.nx [some v, some (.ref l), o] H') :
    ∃ W : Nat → Nat → L2.St → Hp → Prop, (∃ m, W 0 m [some v, some (.ref l), o] H1) ∧ ∀ i m σ H, W i m σ H →
      (J.stop i H ∧ D.nx σ H) ∨ (J.go i H ∧ ∃ N : L2.St → Hp → Prop, (∀ σ' H', N σ' H' → ∃ m', m' < m ∧ W (i + 1) m' σ' H') ∧ ∀ x H', J.yld i H x H' → gName 2 x σ H' fun σ2 H2 => tDrop (tBM K "list" rExtend (tVar 1) (tCons (tPc (sp_pieces_of K n) (tCons (tVar 2) tNil)) tNil)) { D with nx := N, ct := N, bk := D.nx } σ2 H2) := by
  have hlen := dpsLen hu
  rw [List.length_map] at hlen
  have hp : 10 ^ n ≤ 10 ^ 4 := Nat.pow_le_pow_right (by decide) h4
  refine for_it w (fun i σ' H' => Same B H' ∧ ∃ o zs, σ' = [some v, some (.ref l), o] ∧ H' l = some (.lst zs) ∧ DpAll K H' zs ((rdsPcs (rs.take i)).map pcD)) ⟨e, o, [], rfl, h1, .nil⟩ (fun i σ' H' _ h => hG H' h.1) ?_ ?_
  · rintro i x σ' H' H'' hi ⟨e2, o2, zs, rfl, hz, hzd⟩ ⟨rfl, hx⟩
    obtain ⟨d, g1, g2⟩ := dpsGetV hu hx
    rw [List.getElem?_map] at g1
    obtain ⟨r, g3, rfl⟩ := Option.map_eq_some_iff.mp g1
    have hm := List.mem_of_getElem? g3
    have hrd := rdsDep_mem hm
    refine ⟨_, rfl, .inl ⟨rfl, _, sl hz⟩, _, rfl, x, r, rfl, dpOn g2 e2, rdsOk_mem ho hm, by omega, fun p H3 vs e3 hp3 hv3 => ?_⟩
    have hz3 := e3 _ _ hz
    have c1 := dpsLen hzd
    have c2 := dpsLen hv3
    rw [List.length_map] at c1 c2
    have c3 := rpcs_len (rs.take i) n (take_ok ho i) (Nat.le_trans (take_dep rs i) hn)
    have c4 := pcs_len r n (rdsOk_mem ho hm) (by omega)
    have c5 : (rs.take i).length * 10 ^ n ≤ 10 * 10 ^ n := Nat.mul_le_mul_right _ (by rw [List.length_take]; omega)
    refine ⟨l, p, zs, vs, rfl, rfl, hz3, hp3, szl (by omega), Same.mut (e2.trans e3) hl, some x, zs ++ vs, rfl, upd_same, ?_⟩
    have im := Imm.lst (ys := zs ++ vs) hz3
    rw [List.take_add_one, g3, Option.toList_some, rdsPcs_app, rdsPcs_one, List.map_append]
    exact dpsApp (dpsImm im _ _ (noL_pcs _) (dpsOn hzd e3)) (dpsImm im _ _ (noL_pcs _) hv3)
  · rintro σ' H' ⟨e2, o2, zs, rfl, hz, hzd⟩
    rw [hlen, List.take_length] at hzd
    exact q H' o2 zs e2 hz hzd
theorem c_pieces_of (T : Txt K mg) : ∀ n : Nat, n ≤ 5 → Cal P w K mg base n "pieces_of" ["reading"] (sp_pieces_of K n)
  | 0, _ => Cal.none_ T.g_pieces_of T.b_pieces_of fun vs H Q E ⟨v, r, _, _, _, h, _⟩ => by have := dep_pos r; omega
  | n + 1, h5 => by
    have S : FnScope ["reading", "found", "one"] ["reading"] (defScope s_pieces_of) := fsc (by decide +kernel)
    refine Cal.of T.g_pieces_of T.b_pieces_of S (fun vs H Q E h => ?_) fun cdv A outer s H vs Q E hr h => ?_
    · obtain ⟨v, r, rfl, _⟩ := h; rfl
    obtain ⟨v, r, rfl, hd, ho, hn, q⟩ := h
    have C := c_pieces_of T n (by omega)
    refine ⟨_, pss_cons (ps_if (pt_cmpR op_eq (pe_ix ix_tup (pv 0) pe_int (fun _ _ => rfl)) (pgl T.tNAME) (nomark _)) (pss_one (ps_ret (pe_lst (pa_cons (pe_tup (pa_cons (pe_ix ix_tup (pv 0) pe_int (fun _ _ => rfl)) (pa_cons (pe_ix ix_tup (pv 0) pe_int (fun _ _ => rfl)) pa_nil))) pa_nil)))) pss_nil)
      (pss_cons (ps_set (i := 1) S.nd rfl (.inl rfl) (pe_lst pa_nil))
      (pss_cons (ps_if (pt_cmpR op_eq (pe_ix ix_tup (pv 0) pe_int (fun _ _ => rfl)) (pgl T.tROUND) (nomark _))
        (pss_one (ps_for PassesOwn.never rfl (PI.or (pi_list (pe_ix ix_tup (pv 0) pe_int (fun _ _ => rfl))) (pi_tup (pe_ix ix_tup (pv 0) pe_int (fun _ _ => rfl)))) (pg_name (i := 2) S.nd rfl (.inl rfl)) (pss_one (ps_expr (pe_bm PySem.F.plainAttrs_list PySem.F.slot_list_extend PySem.F.type_list_extend mt_extend (pv 1) (pa_cons (pc C hr (pa_cons (pv 2) pa_nil) (Nat.le_refl _)) pa_nil))))))
        (pss_one (ps_if (pt_cmpR op_ne (pe_ix ix_tup (pv 0) pe_int (fun _ _ => rfl)) (pgl T.tWORD) (nomark _))
          (pss_one (ps_for PassesOwn.never rfl (pi_tup (pe_slice sl_tup (pv 0) (po_some (pe_ifExp (pt_cmpR op_eq (pe_ix ix_tup (pv 0) pe_int (fun _ _ => rfl)) (pgl T.tEITHER) (nomark _)) pe_int pe_int)) po_none)) (pg_name (i := 2) S.nd rfl (.inl rfl)) (pss_one (ps_expr (pe_bm PySem.F.plainAttrs_list PySem.F.slot_list_extend PySem.F.type_list_extend mt_extend (pv 1) (pa_cons (pc C hr (pa_cons (pv 2) pa_nil) (Nat.le_refl _)) pa_nil))))))
          pss_nil)))
      (pss_one (ps_ret (pv 1))))), ?_⟩
    cases r with
    | word z =>
      obtain ⟨a, xs, rfl, hT, hx⟩ := dp_tup hd
      obtain ⟨v0, v1, rfl, h0, h1⟩ := dps2 hx
      obtain rfl := dp_str h0
      refine ⟨_, rfl, a, _, _, _, rfl, rfl, hT, rfl, rfl, _, rfl, strF (by decide) ⟨by decide, fun l hl => ?_⟩⟩
      have e1 := same_new hl (.lst [])
      have hT1 := Same.tup e1 hT
      exact ⟨_, rfl, a, _, _, _, rfl, rfl, hT1, rfl, rfl, _, rfl, strF (by decide) ⟨_, rfl, a, _, _, _, rfl, rfl, hT1, rfl, rfl, _, rfl, nstrF rfl ⟨_, rfl, q l _ [] e1 upd_same .nil⟩⟩⟩
    | name k z =>
      obtain ⟨a, xs, rfl, hT, hx⟩ := dp_tup hd
      obtain ⟨v0, v1, v2, rfl, h0, h1, h2⟩ := dps3 hx
      obtain rfl := dp_str h0
      obtain rfl := dp_int h1
      obtain rfl := dp_str h2
      refine ⟨_, rfl, a, _, _, _, rfl, rfl, hT, rfl, rfl, _, rfl, strT rfl ⟨_, rfl, a, _, _, _, rfl, rfl, hT, rfl, _, rfl, a, _, _, _, rfl, rfl, hT, rfl, le2, fun t ht => ⟨le1, fun l hl => ?_⟩⟩⟩
      have e1 := same_new ht (.tup [.int (k : Int), .str z])
      have e2 := same_new hl (.lst [.ref t])
      exact q l _ [.ref t] (e1.trans e2) upd_same (.cons (.tup (st (e2 _ _ upd_same)) (.cons (.int _) (.cons (.str _) .nil))) .nil)
    | beh r1 r2 =>
      obtain ⟨a, xs, rfl, hT, hx⟩ := dp_tup hd
      obtain ⟨v0, v1, v2, rfl, h0, h1, h2⟩ := dps3 hx
      obtain rfl := dp_str h0
      have hn' : max r1.dep r2.dep + 1 ≤ n + 1 := hn
      refine ⟨_, rfl, a, _, _, _, rfl, rfl, hT, rfl, rfl, _, rfl, strF (by decide) ⟨by decide, fun l hl => ?_⟩⟩
      have e1 := same_new hl (.lst [])
      have hT1 := Same.tup e1 hT
      refine ⟨_, rfl, a, _, _, _, rfl, rfl, hT1, rfl, rfl, _, rfl, strF (by decide) ⟨_, rfl, a, _, _, _, rfl, rfl, hT1, rfl, rfl, _, rfl, nstrT (by decide) ⟨_, rfl, _, rfl, a, _, _, _, rfl, rfl, hT1, rfl, rfl, _, rfl, strF (by decide) ⟨1, rfl, a, _, rfl, hT1, (by show ¬ (HT.sIx 3 0 (some 1) = 0 ∧ HT.sIx 3 3 none = 3); decide), fun t ht => ?_⟩⟩⟩⟩
      have hc : cutV [V.str "behind", v1, v2] (some 1) none = [v1, v2] := rfl
      rw [hc]
      have e2 := same_new ht (.tup [v1, v2])
      have eB : Same H (off l (upd (upd H l (.lst [])) t (.tup [v1, v2]))) := same_off (e1.trans e2) hl
      have htl : t ≠ l := fun z => by rw [z, upd_same] at ht; cases ht
      have hTt : SqT K (off l (upd (upd H l (.lst [])) t (.tup [v1, v2]))) t [v1, v2] := st (by rw [off_ne htl]; exact upd_same)
      refine ⟨t, rfl, ⟨_, st upd_same⟩, pcs_loop (rs := [r1, r2]) (n := n) walk_tup off_none off_same (e2 _ _ upd_same) (fun H' e' => Same.tup e' hTt) (.cons (dpOn h1 eB) (.cons (dpOn h2 eB) .nil)) ⟨ho.1, ho.2, True.intro⟩ (by show max r1.dep (max r2.dep 0) ≤ n; omega) (by simp) (by omega) fun H' o zs e' hz hzd => ?_⟩
      have ee : rdsPcs [r1, r2] = (Rd.beh r1 r2).pcs := by
        show r1.pcs ++ (r2.pcs ++ []) = r1.pcs ++ r2.pcs
        rw [List.append_nil]
      rw [ee] at hzd
      exact ⟨_, rfl, q l _ zs (eB.trans e') hz hzd⟩
    | eit b r1 =>
      obtain ⟨a, xs, rfl, hT, hx⟩ := dp_tup hd
      obtain ⟨v0, v1, v2, rfl, h0, h1, h2⟩ := dps3 hx
      obtain rfl := dp_str h0
      have hn' : r1.dep + 1 ≤ n + 1 := hn
      refine ⟨_, rfl, a, _, _, _, rfl, rfl, hT, rfl, rfl, _, rfl, strF (by decide) ⟨le0, fun l hl => ?_⟩⟩
      have e1 := same_new hl (.lst [])
      have hT1 := Same.tup e1 hT
      refine ⟨_, rfl, a, _, _, _, rfl, rfl, hT1, rfl, rfl, _, rfl, strF (by decide) ⟨_, rfl, a, _, _, _, rfl, rfl, hT1, rfl, rfl, _, rfl, nstrT (by decide) ⟨_, rfl, _, rfl, a, _, _, _, rfl, rfl, hT1, rfl, rfl, _, rfl, strT rfl ⟨2, rfl, a, _, rfl, hT1, (by show ¬ (HT.sIx 3 0 (some 2) = 0 ∧ HT.sIx 3 3 none = 3); decide), fun t ht => ?_⟩⟩⟩⟩
      have hc : cutV [V.str "either", v1, v2] (some 2) none = [v2] := rfl
      rw [hc]
      have e2 := same_new ht (.tup [v2])
      have eB : Same H (off l (upd (upd H l (.lst [])) t (.tup [v2]))) := same_off (e1.trans e2) hl
      have htl : t ≠ l := fun z => by rw [z, upd_same] at ht; cases ht
      have hTt : SqT K (off l (upd (upd H l (.lst [])) t (.tup [v2]))) t [v2] := st (by rw [off_ne htl]; exact upd_same)
      refine ⟨t, rfl, ⟨_, st upd_same⟩, pcs_loop (rs := [r1]) (n := n) walk_tup off_none off_same (e2 _ _ upd_same) (fun H' e' => Same.tup e' hTt) (.cons (dpOn h2 eB) .nil) ⟨ho, True.intro⟩ (by show max r1.dep 0 ≤ n; omega) (by simp) (by omega) fun H' o zs e' hz hzd => ?_⟩
      rw [rdsPcs_one] at hzd
      exact ⟨_, rfl, q l _ zs (eB.trans e') hz hzd⟩
    | rnd t rs =>
      have hn' : rdsDep rs + 1 ≤ n + 1 := hn
      cases t with
      | false =>
        obtain ⟨a, xs, rfl, hT, hx⟩ := dp_tup hd
        obtain ⟨v0, v1, rfl, h0, h1⟩ := dps2 hx
        obtain rfl := dp_str h0
        obtain ⟨b, us, rfl, hL, hu⟩ := dp_lst h1
        rw [rdsD_map] at hu
        refine ⟨_, rfl, a, _, _, _, rfl, rfl, hT, rfl, rfl, _, rfl, strF (by decide) ⟨le0, fun l hl => ?_⟩⟩
        have e1 := same_new hl (.lst [])
        have hT1 := Same.tup e1 hT
        exact ⟨_, rfl, a, _, _, _, rfl, rfl, hT1, rfl, rfl, _, rfl, strT rfl (.inl ⟨_, rfl, a, _, _, _, rfl, rfl, hT1, rfl, b, rfl, ⟨_, e1.seq hL⟩, pcs_loop (rs := rs) (n := n) walk_list hl e1 upd_same (fun H' e' => e'.seq hL) hu ho.2 (by omega) ho.1 (by omega) fun H' o zs e' hz hzd => ⟨_, rfl, q l _ zs e' hz hzd⟩⟩)⟩
      | true =>
        obtain ⟨a, xs, rfl, hT, hx⟩ := dp_tup hd
        obtain ⟨v0, v1, rfl, h0, h1⟩ := dps2 hx
        obtain rfl := dp_str h0
        obtain ⟨b, us, rfl, hL, hu⟩ := dp_tup h1
        rw [rdsD_map] at hu
        refine ⟨_, rfl, a, _, _, _, rfl, rfl, hT, rfl, rfl, _, rfl, strF (by decide) ⟨le0, fun l hl => ?_⟩⟩
        have e1 := same_new hl (.lst [])
        have hT1 := Same.tup e1 hT
        exact ⟨_, rfl, a, _, _, _, rfl, rfl, hT1, rfl, rfl, _, rfl, strT rfl (.inr ⟨_, rfl, a, _, _, _, rfl, rfl, hT1, rfl, b, rfl, ⟨_, Same.tup e1 hL⟩, pcs_loop (rs := rs) (n := n) walk_tup hl e1 upd_same (fun H' e' => Same.tup e' hL) hu ho.2 (by omega) ho.1 (by omega) fun H' o zs e' hz hzd => ⟨_, rfl, q l _ zs e' hz hzd⟩⟩)⟩
end
end K44
end
section
set_option maxHeartbeats 4000000
namespace K44
open PySem PySem.Spec PyProof.Rows L2
/-! ### rules that tell K -/
section
variable {X : Cx} {K : PySem.W.Frag}
theorem ix_tupK (h : X.K = K := by rfl) : IxR X (rIxT K) := h ▸ ix_tup
theorem ix_listK (h : X.K = K := by rfl) : IxR X (rIxL K) := h ▸ ix_list
end
def Pat.kind : Pat → Str
  | .word _ => "word" | .name _ => "name" | .beh _ _ => "behind" | .eit _ _ => "either" | .rnd _ => "round"
def Rd.kind : Rd → Str
  | .word _ => "word" | .name _ _ => "name" | .beh _ _ => "behind" | .eit _ _ => "either" | .rnd _ _ => "round"
theorem pat_top {K : PySem.W.Frag} {H : Hp} {v : V} {p : Pat} (h : Dp K H v p.d) : ∃ a xs, v = .ref a ∧ SqT K H a xs ∧ atI xs 0 = some (.str p.kind) := by
  cases p with
  | word z => obtain ⟨a, xs, rfl, hT, hx⟩ := dp_tup h; obtain ⟨v0, v1, rfl, h0, h1⟩ := dps2 hx; obtain rfl := dp_str h0; exact ⟨a, _, rfl, hT, rfl⟩
  | name n => obtain ⟨a, xs, rfl, hT, hx⟩ := dp_tup h; obtain ⟨v0, v1, rfl, h0, h1⟩ := dps2 hx; obtain rfl := dp_str h0; exact ⟨a, _, rfl, hT, rfl⟩
  | beh p q => obtain ⟨a, xs, rfl, hT, hx⟩ := dp_tup h; obtain ⟨v0, v1, v2, rfl, h0, h1, h2⟩ := dps3 hx; obtain rfl := dp_str h0; exact ⟨a, _, rfl, hT, rfl⟩
  | eit p q => obtain ⟨a, xs, rfl, hT, hx⟩ := dp_tup h; obtain ⟨v0, v1, v2, rfl, h0, h1, h2⟩ := dps3 hx; obtain rfl := dp_str h0; exact ⟨a, _, rfl, hT, rfl⟩
  | rnd p => obtain ⟨a, xs, rfl, hT, hx⟩ := dp_tup h; obtain ⟨v0, v1, rfl, h0, h1⟩ := dps2 hx; obtain rfl := dp_str h0; exact ⟨a, _, rfl, hT, rfl⟩
theorem rd_top {K : PySem.W.Frag} {H : Hp} {v : V} {p : Rd} (h : Dp K H v p.d) : ∃ a xs, v = .ref a ∧ SqT K H a xs ∧ atI xs 0 = some (.str p.kind) := by
  cases p with
  | word z => obtain ⟨a, xs, rfl, hT, hx⟩ := dp_tup h; obtain ⟨v0, v1, rfl, h0, h1⟩ := dps2 hx; obtain rfl := dp_str h0; exact ⟨a, _, rfl, hT, rfl⟩
  | name n z => obtain ⟨a, xs, rfl, hT, hx⟩ := dp_tup h; obtain ⟨v0, v1, v2, rfl, h0, h1, h2⟩ := dps3 hx; obtain rfl := dp_str h0; exact ⟨a, _, rfl, hT, rfl⟩
  | beh p q => obtain ⟨a, xs, rfl, hT, hx⟩ := dp_tup h; obtain ⟨v0, v1, v2, rfl, h0, h1, h2⟩ := dps3 hx; obtain rfl := dp_str h0; exact ⟨a, _, rfl, hT, rfl⟩
  | eit p q => obtain ⟨a, xs, rfl, hT, hx⟩ := dp_tup h; obtain ⟨v0, v1, v2, rfl, h0, h1, h2⟩ := dps3 hx; obtain rfl := dp_str h0; exact ⟨a, _, rfl, hT, rfl⟩
  | rnd t p => cases t <;> (obtain ⟨a, xs, rfl, hT, hx⟩ := dp_tup h; obtain ⟨v0, v1, rfl, h0, h1⟩ := dps2 hx; obtain rfl := dp_str h0; exact ⟨a, _, rfl, hT, rfl⟩)
theorem isOf_kind {p : Pat} {r : Rd} (h : p.kind ≠ r.kind) : isOf p r = false := by
  cases p <;> cases r <;> first | rfl | exact absurd rfl h
section
variable {P : Program} {w : World} {K : PySem.W.Frag} {mg : Str → Option Value} {base : Heap}
def sp_is_of (K : PySem.W.Frag) (n : Nat) : Sp := fun vs H Q _ => ∃ (v u : V) (p : Pat) (r : Rd), vs = [v, u] ∧ Dp K H v p.d ∧ Dp K H u r.d ∧ r.ok ∧ p.dep ≤ n ∧ Ret H Q (.bl (isOf p r))
theorem pdep_pos (p : Pat) : 1 ≤ p.dep := by cases p <;> (rw [Pat.dep]; omega)
theorem c_is_of (T : Txt K mg) : ∀ n : Nat, n ≤ 5 → Cal P w K mg base n "is_of" ["pattern", "reading"] (sp_is_of K n)
  | 0, _ => Cal.none_ T.g_is_of T.b_is_of fun vs H Q E ⟨v, u, p, r, _, _, _, _, h, _⟩ => by have := pdep_pos p; omega
  | n + 1, h5 => by
    have S : FnScope ["pattern", "reading", "one"] ["pattern", "reading"] (defScope s_is_of) := fsc (by decide +kernel)
    refine Cal.of T.g_is_of T.b_is_of S (fun vs H Q E h => ?_) fun cdv A outer s H vs Q E hr h => ?_
    · obtain ⟨v, u, p, r, rfl, _⟩ := h; rfl
    obtain ⟨v, u, p, r, rfl, hp, hd, ho, hn, q⟩ := h
    have C := c_is_of T n (by omega)
    refine ⟨_, pss_cons (ps_if (pt_cmpR op_ne (pe_ix ix_tup (pv 0) pe_int (fun _ _ => rfl)) (pe_ix ix_tup (pv 1) pe_int (fun _ _ => rfl)) (nomark _)) (pss_one (ps_ret pe_bl)) pss_nil)
      (pss_cons (ps_if (pt_cmpR op_in_seq (pe_ix ix_tup (pv 0) pe_int (fun _ _ => rfl)) (pe_tup (pa_cons (pgl T.tWORD) (pa_cons (pgl T.tNAME) pa_nil))) rfl) (pss_one (ps_ret (pe_cmpR op_eq (pe_ix ix_tup (pv 0) pe_int (fun _ _ => rfl)) (pe_ix ix_tup (pv 1) pe_int (fun _ _ => rfl)) (nomark _)))) pss_nil)
      (pss_cons (ps_if (pt_cmpR op_eq (pe_ix ix_tup (pv 0) pe_int (fun _ _ => rfl)) (pgl T.tBEHIND) (nomark _)) (pss_one (ps_ret (pe_and (pc C hr (pa_cons (pe_ix ix_tup (pv 0) pe_int (fun _ _ => rfl)) (pa_cons (pe_ix ix_tup (pv 1) pe_int (fun _ _ => rfl)) pa_nil)) (Nat.le_refl _)) (pe_one (pc C hr (pa_cons (pe_ix ix_tup (pv 0) pe_int (fun _ _ => rfl)) (pa_cons (pe_ix ix_tup (pv 1) pe_int (fun _ _ => rfl)) pa_nil)) (Nat.le_refl _)))))) pss_nil)
      (pss_cons (ps_if (pt_cmpR op_eq (pe_ix ix_tup (pv 0) pe_int (fun _ _ => rfl)) (pgl T.tEITHER) (nomark _)) (pss_one (ps_ret (pc C hr (pa_cons (pe_ix ix_tup (pv 0) (pe_op op_add pe_int (pe_ix ix_tup (pv 1) pe_int (fun _ _ => rfl))) (fun _ _ => rfl)) (pa_cons (pe_ix ix_tup (pv 1) pe_int (fun _ _ => rfl)) pa_nil)) (Nat.le_refl _)))) pss_nil)
      (pss_one (ps_ret (pe_callB (cr_all rfl) rfl T.zall (by decide +kernel) (pa_cons (pe_lc (own := [("one", 2)]) (g := gName 2) (tt := tYes) rfl S.nd (PI.or (pi_list (pe_ix ix_tup (pv 1) pe_int (fun _ _ => rfl))) (pi_tup (pe_ix ix_tup (pv 1) pe_int (fun _ _ => rfl)))) (blkOk_by (N := ["pattern", "reading", "one"]) (sc := defScope s_is_of) (by decide +kernel)) (fun _ _ _ _ _ => pg_name (i := 2) S.nd rfl (Or.inl rfl)) (fun _ _ _ _ _ => pts_nil) (fun _ _ _ _ _ => pc C hr (pa_cons (pe_ix (ix_tupK (K := K)) (pv 0) pe_int (fun _ _ => rfl)) (pa_cons (pv 2) pa_nil)) (Nat.le_refl _))) pa_nil))))))), ?_⟩
    obtain ⟨a, xs, rfl, hT, hk⟩ := pat_top hp
    obtain ⟨b, ys, rfl, hS, hl⟩ := rd_top hd
    refine ⟨_, rfl, a, _, _, _, rfl, rfl, hT, hk, _, rfl, b, _, _, _, rfl, rfl, hS, hl, rfl, _, rfl, ?_⟩
    by_cases ek : p.kind = r.kind
    case neg =>
      rw [isOf_kind ek] at q
      exact nstrT ek q.here
    refine nstrF ek ⟨_, rfl, a, _, _, _, rfl, rfl, hT, hk, le2, fun t ht => ?_⟩
    have e1 := same_new ht (.tup [.str "word", .str "name"])
    refine ⟨t, _, rfl, .inr (st upd_same), rfl, rfl, _, rfl, ?_⟩
    have hT1 := Same.tup e1 hT
    have hS1 := Same.tup e1 hS
    cases p with
    | word z =>
      obtain ⟨z', rfl⟩ : ∃ z', r = .word z' := by cases r <;> first | exact ⟨_, rfl⟩ | (simp only [Pat.kind, Rd.kind] at ek; exact absurd ek (by decide))
      obtain ⟨a', xs', e, hT', hx⟩ := dp_tup hp
      cases e
      obtain ⟨v0, v1, rfl, h0, h1⟩ := dps2 hx
      obtain ⟨b', ys', e, hS', hy⟩ := dp_tup hd
      cases e
      obtain ⟨u0, u1, rfl, g0, g1⟩ := dps2 hy
      obtain rfl := dp_str h1
      obtain rfl := dp_str g1
      refine ifT (by simp only [Pat.kind]; decide +kernel) ⟨_, rfl, a, _, _, _, rfl, rfl, Same.tup e1 hT', rfl, _, rfl, b, _, _, _, rfl, rfl, Same.tup e1 hS', rfl, rfl, ?_⟩
      rw [dsV]
      exact q.go e1
    | name k =>
      obtain ⟨k', z', rfl⟩ : ∃ k' z', r = .name k' z' := by cases r <;> first | exact ⟨_, _, rfl⟩ | (simp only [Pat.kind, Rd.kind] at ek; exact absurd ek (by decide))
      obtain ⟨a', xs', e, hT', hx⟩ := dp_tup hp
      cases e
      obtain ⟨v0, v1, rfl, h0, h1⟩ := dps2 hx
      obtain ⟨b', ys', e, hS', hy⟩ := dp_tup hd
      cases e
      obtain ⟨u0, u1, u2, rfl, g0, g1, g2⟩ := dps3 hy
      obtain rfl := dp_int h1
      obtain rfl := dp_int g1
      refine ifT (by simp only [Pat.kind]; decide +kernel) ⟨_, rfl, a, _, _, _, rfl, rfl, Same.tup e1 hT', rfl, _, rfl, b, _, _, _, rfl, rfl, Same.tup e1 hS', rfl, rfl, ?_⟩
      have e5 : isOf (.name k) (.name k' z') = decide ((k : Int) = k') := by
        show decide (k = k') = _
        by_cases h : k = k'
        · rw [h, decide_eq_true rfl, decide_eq_true rfl]
        · rw [decide_eq_false h, decide_eq_false (by omega)]
      rw [dnV, ← e5]
      exact q.go e1
    | beh p1 p2 =>
      obtain ⟨r1, r2, rfl⟩ : ∃ r1 r2, r = .beh r1 r2 := by cases r <;> first | exact ⟨_, _, rfl⟩ | (simp only [Pat.kind, Rd.kind] at ek; exact absurd ek (by decide))
      obtain ⟨a', xs', e, hT', hx⟩ := dp_tup hp
      cases e
      obtain ⟨v0, v1, v2, rfl, h0, h1, h2⟩ := dps3 hx
      obtain ⟨b', ys', e, hS', hy⟩ := dp_tup hd
      cases e
      obtain ⟨u0, u1, u2, rfl, g0, g1, g2⟩ := dps3 hy
      have hn' : max p1.dep p2.dep + 1 ≤ n + 1 := hn
      refine ifF (by simp only [Pat.kind]; decide +kernel) ⟨_, rfl, a, _, _, _, rfl, rfl, hT1, hk, rfl, _, rfl, strT rfl ⟨_, rfl, a, _, _, _, rfl, rfl, Same.tup e1 hT', rfl, _, rfl, b, _, _, _, rfl, rfl, Same.tup e1 hS', rfl, v1, u1, p1, r1, rfl, dpOn h1 e1, dpOn g1 e1, ho.1, by omega, fun H2 e2 => ⟨_, rfl, ?_⟩⟩⟩
      have e3 := e1.trans e2
      cases hi : isOf p1 r1 with
      | true =>
        refine iteT ⟨_, rfl, a, _, _, _, rfl, rfl, Same.tup e3 hT', rfl, _, rfl, b, _, _, _, rfl, rfl, Same.tup e3 hS', rfl, v2, u2, p2, r2, rfl, dpOn h2 e3, dpOn g2 e3, ho.2, by omega, ?_⟩
        have e5 : isOf (.beh p1 p2) (.beh r1 r2) = isOf p2 r2 := by
          show (isOf p1 r1 && isOf p2 r2) = _
          rw [hi]; rfl
        rw [e5] at q
        exact q.on e3
      | false =>
        have e5 : isOf (.beh p1 p2) (.beh r1 r2) = false := by
          show (isOf p1 r1 && isOf p2 r2) = _
          rw [hi]; rfl
        rw [e5] at q
        exact iteF (q.go e3)
    | eit p1 p2 =>
      obtain ⟨c, r1, rfl⟩ : ∃ c r1, r = .eit c r1 := by cases r <;> first | exact ⟨_, _, rfl⟩ | (simp only [Pat.kind, Rd.kind] at ek; exact absurd ek (by decide))
      obtain ⟨a', xs', e, hT', hx⟩ := dp_tup hp
      cases e
      obtain ⟨v0, v1, v2, rfl, h0, h1, h2⟩ := dps3 hx
      obtain ⟨b', ys', e, hS', hy⟩ := dp_tup hd
      cases e
      obtain ⟨u0, u1, u2, rfl, g0, g1, g2⟩ := dps3 hy
      obtain rfl := dp_int g1
      have hn' : max p1.dep p2.dep + 1 ≤ n + 1 := hn
      refine ifF (by simp only [Pat.kind]; decide +kernel) ⟨_, rfl, a, _, _, _, rfl, rfl, hT1, hk, rfl, _, rfl, strF (by simp only [Pat.kind]; decide) ⟨_, rfl, a, _, _, _, rfl, rfl, hT1, hk, rfl, _, rfl, strT rfl ?_⟩⟩
      cases c with
      | true => exact ⟨_, rfl, _, rfl, b, _, _, _, rfl, rfl, Same.tup e1 hS', rfl, _, _, rfl, rfl, a, _, _, v2, rfl, rfl, Same.tup e1 hT', rfl, _, rfl, b, _, _, _, rfl, rfl, Same.tup e1 hS', rfl, v2, u2, p2, r1, rfl, dpOn h2 e1, dpOn g2 e1, ho, by omega, q.on e1⟩
      | false => exact ⟨_, rfl, _, rfl, b, _, _, _, rfl, rfl, Same.tup e1 hS', rfl, _, _, rfl, rfl, a, _, _, v1, rfl, rfl, Same.tup e1 hT', rfl, _, rfl, b, _, _, _, rfl, rfl, Same.tup e1 hS', rfl, v1, u2, p1, r1, rfl, dpOn h1 e1, dpOn g2 e1, ho, by omega, q.on e1⟩
    | rnd p1 =>
      obtain ⟨t', rs, rfl⟩ : ∃ t' rs, r = .rnd t' rs := by cases r <;> first | exact ⟨_, _, rfl⟩ | (simp only [Pat.kind, Rd.kind] at ek; exact absurd ek (by decide))
      obtain ⟨a', xs', e, hT', hx⟩ := dp_tup hp
      cases e
      obtain ⟨v0, v1, rfl, h0, h1⟩ := dps2 hx
      have hn' : p1.dep + 1 ≤ n + 1 := hn
      have h10 : rs.length ≤ 10 := ho.1
      have fin : ∀ (D : Addr) (H2 : Hp), Same (upd H t (.tup [.str "word", .str "name"])) H2 → H2 D = some (.lst (rs.map fun r => V.bl (isOf p1 r))) → rAll K [.ref D] H2 Q := fun D H2 e2 hD => ⟨D, rs.map (isOf p1), rfl, sl (by rw [hD, List.map_map]; rfl), q.go (e1.trans e2)⟩
      refine ifF (by simp only [Pat.kind]; decide +kernel) ⟨_, rfl, a, _, _, _, rfl, rfl, hT1, hk, rfl, _, rfl, strF (by simp only [Pat.kind]; decide) ⟨_, rfl, a, _, _, _, rfl, rfl, hT1, hk, rfl, _, rfl, strF (by simp only [Pat.kind]; decide) ?_⟩⟩
      cases t' with
      | false =>
        obtain ⟨b', ys', e, hS', hy⟩ := dp_tup hd
        cases e
        obtain ⟨u0, u1, rfl, g0, g1⟩ := dps2 hy
        obtain ⟨c, us, rfl, hL, hu⟩ := dp_lst g1
        rw [rdsD_map] at hu
        refine .inl ⟨_, rfl, b, _, _, _, rfl, rfl, Same.tup e1 hS', rfl, c, rfl, ⟨_, e1.seq hL⟩, fun D hD => lcmD rs us Rd.d (fun r => V.bl (isOf p1 r)) walk_list (dpsOn hu e1) (by omega) hD (fun H' e' => e'.seq (e1.seq hL)) (fun _ => rfl) (fun r x H2 hm hx2 e2 Q2 q2 => ?_) fun H2 e2 hD2 => fin D H2 e2 hD2⟩
        exact ⟨_, rfl, a, _, _, _, rfl, rfl, Same.tup e2 (Same.tup e1 hT'), rfl, _, rfl, v1, x, p1, r, rfl, dpOn h1 (e1.trans e2), hx2, rdsOk_mem ho.2 hm, by omega, q2⟩
      | true =>
        obtain ⟨b', ys', e, hS', hy⟩ := dp_tup hd
        cases e
        obtain ⟨u0, u1, rfl, g0, g1⟩ := dps2 hy
        obtain ⟨c, us, rfl, hL, hu⟩ := dp_tup g1
        rw [rdsD_map] at hu
        refine .inr ⟨_, rfl, b, _, _, _, rfl, rfl, Same.tup e1 hS', rfl, c, rfl, ⟨_, Same.tup e1 hL⟩, fun D hD => lcmD rs us Rd.d (fun r => V.bl (isOf p1 r)) walk_tup (dpsOn hu e1) (by omega) hD (fun H' e' => Same.tup e' (Same.tup e1 hL)) (fun _ => rfl) (fun r x H2 hm hx2 e2 Q2 q2 => ?_) fun H2 e2 hD2 => fin D H2 e2 hD2⟩
        exact ⟨_, rfl, a, _, _, _, rfl, rfl, Same.tup e2 (Same.tup e1 hT'), rfl, _, rfl, v1, x, p1, r, rfl, dpOn h1 (e1.trans e2), hx2, rdsOk_mem ho.2 hm, by omega, q2⟩
end
end K44
end
section
set_option maxHeartbeats 4000000
/-! The languages of patterns. -/
namespace K44
open PySem
section
variable {S : Nat → List Nat → Prop} {tb : List (Nat × Nat × Nat)} {f : Nat}
theorem bl_rank (r ln : Nat → Nat) (top : Nat → Bool) (hS : ∀ i, Short (S i) (ln i)) (h : ∀ e ∈ tb, top e.2.2 = true ∨ (top e.1 = false ∧ r e.1 + ln e.2.1 ≤ r e.2.2)) {k m : Nat} {w : List Nat} (b : Bl (Ed tb S) k w m) : (top k = true → top m = true) ∧ (top m = true ∨ r k + w.length ≤ r m) := by
  induction b with
  | nil k => exact ⟨id, .inr (Nat.le_refl _)⟩
  | @step k k1 k2 s w e g ih =>
    obtain ⟨i, hi, hs⟩ := e
    have hl := hS i s hs
    rcases h _ hi with h1 | ⟨h1, h2⟩
    · exact ⟨fun _ => ih.1 h1, .inl (ih.1 h1)⟩
    · refine ⟨fun z => ?_, ih.2.imp id fun h3 => ?_⟩
      · rw [show top k = false from h1] at z; cases z
      · have h2 : r k + ln i ≤ r k1 := h2
        rw [List.length_append]; omega
theorem bl_two {k i j k1 k2 : Nat} (hk : k ≠ f) (h1 : (k, i, k1) ∈ tb) (h2 : (k, j, k2) ∈ tb) (h : ∀ e ∈ tb, e.1 = k → e.2 = (i, k1) ∨ e.2 = (j, k2)) {w : List Nat} :
    Bl (Ed tb S) k w f ↔ cat (S i) (fun v => Bl (Ed tb S) k1 v f) w ∨ cat (S j) (fun v => Bl (Ed tb S) k2 v f) w := by
  refine ⟨fun g => ?_, fun g => g.elim (fun ⟨u, v, e, a, b⟩ => by rw [e]; exact .step ⟨i, h1, a⟩ b) fun ⟨u, v, e, a, b⟩ => by rw [e]; exact .step ⟨j, h2, a⟩ b⟩
  rcases g.cases' with ⟨e, _⟩ | ⟨s, k3, v, rfl, ⟨l, hl, hs⟩, g⟩
  · exact absurd e hk
  · rcases h _ hl rfl with q | q <;> cases q
    · exact .inl ⟨s, v, rfl, hs, g⟩
    · exact .inr ⟨s, v, rfl, hs, g⟩
end
section
variable {A B C D : List Nat → Prop} {L : Nat} {m : Mach}
theorem wl4 {L : Nat} (hL : L ≤ 2) : (wl L 4).length ≤ 31 := by
  have : L = 0 ∨ L = 1 ∨ L = 2 := by omega
  rcases this with rfl | rfl | rfl <;> decide +kernel
theorem cat_short {A B : List Nat → Prop} {a b : Nat} (h : Short A a) (g : Short B b) : Short (cat A B) (a + b) := fun w ⟨u, v, e, x, y⟩ => by
  have := h u x
  have := g v y
  rw [e, List.length_append]; omega
theorem few_eth_short (hL : L ≤ 2) (a : Short A 4) (b : Short B 4) (h : MSpec L (eth A B) m) : m.st.length ≤ 60 := by
  have := short_few (n := 4) h fun w _ hw => hw.elim (a w) (b w)
  have := wl4 hL
  omega
def ln3 (i : Nat) : Nat := if i < 3 then 2 else 0
theorem sel_ln3 {l : List (List Nat → Prop)} (hl : l.length ≤ 3) (h : ∀ A ∈ l, Short A 2) (i : Nat) : Short (sel l i) (ln3 i) := by
  unfold ln3
  split
  · exact sel_short h i
  · unfold sel
    rw [List.getD_eq_getElem?_getD, List.getElem?_eq_none (by omega)]
    intro w h
    rw [show w = [] from h]; exact Nat.zero_le _
theorem few_eth_ss (hL : L ≤ 2) (a : Short A 2) (b : Short B 2) (c : Short C 2) (h : MSpec L (eth (cat A B) (Star C)) m) : m.st.length ≤ 60 := by
  have hS := sel_short (mem3 a b c)
  have rk : ∀ {k : Nat} {w : List Nat}, Bl (Ed [(0, 3, 1), (1, 0, 2), (2, 1, 3), (0, 3, 4), (4, 2, 4), (4, 3, 3)] (sel [A, B, C])) 0 w k → decide (k = 3 ∨ k = 4) = true ∨ 0 + w.length ≤ if k = 2 then 2 else 0 := fun g =>
    (bl_rank (fun k => if k = 2 then 2 else 0) ln3 (fun k => decide (k = 3 ∨ k = 4)) (sel_ln3 (l := [A, B, C]) (Nat.le_refl 3) (mem3 a b c)) (by decide) g).2
  have rk2 : ∀ {k : Nat} {w : List Nat}, Bl (Ed [(0, 3, 1), (1, 0, 2), (2, 1, 3), (0, 3, 4), (4, 2, 4), (4, 3, 3)] (sel [A, B, C])) 0 w k → 3 ≤ w.length → k = 3 ∨ k = 4 := fun {k w} g hw => by
    rcases rk g with h | h
    · exact of_decide_eq_true h
    · split at h <;> omega
  refine few_ed (tb := [(0, 3, 1), (1, 0, 2), (2, 1, 3), (0, 3, 4), (4, 2, 4), (4, 3, 3)]) (S := sel [A, B, C]) (f := 3) (n := 5) [3, 4] [4] (wl 2 4) 60 hL hS (fun w k hw g _ => ?_) (fun w k hw g ⟨s, k1, i, hi, _⟩ => ?_) (fun w hw hl => wl_mono hL hw (by omega)) (by decide +kernel) h fun w => ?_
  · rcases rk2 g (by omega) with rfl | rfl <;> decide
  · rcases rk2 g (by omega) with rfl | rfl
    · simp at hi
    · decide
  · refine (bl_two (by decide) (i := 3) (j := 3) (k1 := 1) (k2 := 4) (by decide) (by decide) (by decide)).trans (or_congr ?_ ?_)
    · refine (cat_congr (A := sel [A, B, C] 3) (A' := fun v => v = []) (fun _ => Iff.rfl) (fun v => ?_) w).trans e_cat
      refine (bl_next (by decide) (i := 0) (k1 := 2) (by decide) (by decide)).trans (cat_congr (fun _ => Iff.rfl) (fun v => ?_) v)
      exact (bl_next (by decide) (i := 1) (k1 := 3) (by decide) (by decide)).trans ((cat_congr (fun _ => Iff.rfl) (fun x => bl_cons (by decide)) v).trans cat_e)
    · refine (cat_congr (A := sel [A, B, C] 3) (A' := fun v => v = []) (fun _ => Iff.rfl) (fun v => ?_) w).trans e_cat
      refine (bl_loop2 (by decide) (i := 2) (j := 3) (k1 := 3) (by decide) (by decide) (by decide)).trans ((cat_congr (fun _ => Iff.rfl) (fun x => ?_) v).trans cat_e)
      exact (cat_congr (A := sel [A, B, C] 3) (A' := fun v => v = []) (fun _ => Iff.rfl) (fun y => bl_cons (by decide)) x).trans e_cat
theorem few_eth_st (hL : L ≤ 2) (a : Short A 2) (b : Short B 2) (h : MSpec L (eth (Star A) (Star B)) m) : m.st.length ≤ 60 := by
  have hS := sel_short (mem2 a b)
  have rk2 : ∀ {k : Nat} {w : List Nat}, Bl (Ed [(0, 3, 1), (1, 0, 1), (1, 3, 3), (0, 3, 2), (2, 1, 2), (2, 3, 3)] (sel [A, B])) 0 w k → 1 ≤ w.length → k = 1 ∨ k = 2 ∨ k = 3 := fun {k w} g hw => by
    rcases (bl_rank (fun _ => 0) ln3 (fun k => decide (k = 1 ∨ k = 2 ∨ k = 3)) (sel_ln3 (l := [A, B]) (show 2 ≤ 3 by decide) (mem2 a b)) (by decide) g).2 with h | h
    · exact of_decide_eq_true h
    · omega
  refine few_ed (tb := [(0, 3, 1), (1, 0, 1), (1, 3, 3), (0, 3, 2), (2, 1, 2), (2, 3, 3)]) (S := sel [A, B]) (f := 3) (n := 2) [1, 2, 3] [1, 2] (wl 2 1) 60 hL hS (fun w k hw g _ => ?_) (fun w k hw g ⟨s, k1, i, hi, _⟩ => ?_) (fun w hw hl => wl_mono hL hw (by omega)) (by decide +kernel) h fun w => ?_
  · rcases rk2 g (by omega) with rfl | rfl | rfl <;> decide
  · rcases rk2 g (by omega) with rfl | rfl | rfl
    · decide
    · decide
    · simp at hi
  · refine (bl_two (by decide) (i := 3) (j := 3) (k1 := 1) (k2 := 2) (by decide) (by decide) (by decide)).trans (or_congr ?_ ?_)
    · refine (cat_congr (A := sel [A, B] 3) (A' := fun v => v = []) (fun _ => Iff.rfl) (fun v => ?_) w).trans e_cat
      refine (bl_loop2 (by decide) (i := 0) (j := 3) (k1 := 3) (by decide) (by decide) (by decide)).trans ((cat_congr (fun _ => Iff.rfl) (fun x => ?_) v).trans cat_e)
      exact (cat_congr (A := sel [A, B] 3) (A' := fun v => v = []) (fun _ => Iff.rfl) (fun y => bl_cons (by decide)) x).trans e_cat
    · refine (cat_congr (A := sel [A, B] 3) (A' := fun v => v = []) (fun _ => Iff.rfl) (fun v => ?_) w).trans e_cat
      refine (bl_loop2 (by decide) (i := 1) (j := 3) (k1 := 3) (by decide) (by decide) (by decide)).trans ((cat_congr (fun _ => Iff.rfl) (fun x => ?_) v).trans cat_e)
      exact (cat_congr (A := sel [A, B] 3) (A' := fun v => v = []) (fun _ => Iff.rfl) (fun y => bl_cons (by decide)) x).trans e_cat
end
/-- the words that a pattern reads -/
def plang (fl : List (List Str)) : Pat → List Nat → Prop
  | .word z => fun w => w = idx z
  | .name n => fun w => w ∈ (fl.getD n []).map idx
  | .beh p q => cat (plang fl p) (plang fl q)
  | .eit p q => eth (plang fl p) (plang fl q)
  | .rnd p => Star (plang fl p)
/-- two kinds of language -/
def Kind (A : List Nat → Prop) : Prop := (∃ S T, Short S 2 ∧ Short T 2 ∧ ∀ w, A w ↔ cat S T w) ∨ ∃ S, Short S 2 ∧ ∀ w, A w ↔ Star S w
section
variable {fl : List (List Str)} {L : Nat}
theorem idx_len (z : Str) : (idx z).length = z.length := by
  unfold idx
  rw [List.length_map]; rfl
theorem pdep1 {p : Pat} (h : p.dep ≤ 1) : (∃ z, p = .word z) ∨ ∃ n, p = .name n := by
  cases p with
  | word z => exact .inl ⟨z, rfl⟩
  | name n => exact .inr ⟨n, rfl⟩
  | beh p q =>
    rw [Pat.dep] at h
    have : 1 ≤ p.dep := by cases p <;> (rw [Pat.dep]; omega)
    omega
  | eit p q =>
    rw [Pat.dep] at h
    have : 1 ≤ p.dep := by cases p <;> (rw [Pat.dep]; omega)
    omega
  | rnd p =>
    rw [Pat.dep] at h
    have : 1 ≤ p.dep := by cases p <;> (rw [Pat.dep]; omega)
    omega
theorem plang_short (hfl : ∀ zs ∈ fl, ∀ z ∈ zs, z.length ≤ 2) {p : Pat} (g : p.good L) (h : p.dep ≤ 1) : Short (plang fl p) 2 := by
  rcases pdep1 h with ⟨z, rfl⟩ | ⟨n, rfl⟩
  · intro w hw
    rw [show w = idx z from hw, idx_len]
    exact g.1
  · intro w hw
    obtain ⟨z, hz, rfl⟩ := List.mem_map.mp (show w ∈ (fl.getD n []).map idx from hw)
    rw [idx_len]
    rw [List.getD_eq_getElem?_getD] at hz
    cases q : fl[n]? with
    | none => rw [q] at hz; simp at hz
    | some zs => rw [q] at hz; exact hfl zs (List.mem_of_getElem? q) z hz
theorem nil_short (n : Nat) : Short (fun w => w = []) n := fun w h => by rw [h]; exact Nat.zero_le _
theorem Kind.short {A : List Nat → Prop} (h : Short A 2) : Kind A := .inl ⟨A, fun w => w = [], h, nil_short 2, fun w => cat_e.symm⟩
theorem plang_kind (hfl : ∀ zs ∈ fl, ∀ z ∈ zs, z.length ≤ 2) {p : Pat} (g : p.good L) (h : p.dep ≤ 2) : Kind (plang fl p) := by
  cases p with
  | word z => exact .short (plang_short hfl (p := .word z) g (by rw [Pat.dep]; exact Nat.le_refl _))
  | name n => exact .short (plang_short hfl (p := .name n) g (by rw [Pat.dep]; exact Nat.le_refl _))
  | beh p q =>
    rw [Pat.dep] at h
    exact .inl ⟨_, _, plang_short hfl g.1 (by omega), plang_short hfl g.2 (by omega), fun w => Iff.rfl⟩
  | eit p q =>
    rw [Pat.dep] at h
    have a := plang_short hfl g.1 (show p.dep ≤ 1 by omega)
    have b := plang_short hfl g.2 (show q.dep ≤ 1 by omega)
    exact .short fun w hw => hw.elim (a w) (b w)
  | rnd p =>
    rw [Pat.dep] at h
    exact .inr ⟨_, plang_short hfl (p := p) g (by omega), fun w => Iff.rfl⟩
theorem kind_few {A : List Nat → Prop} {m : Mach} (hL : L ≤ 2) (k : Kind A) (h : MSpec L A m) : m.st.length ≤ 13 := by
  rcases k with ⟨S, T, a, b, e⟩ | ⟨S, a, e⟩
  · exact few_ss hL a b (h.congr fun w _ => e w)
  · exact Nat.le_trans (few_star hL a (h.congr fun w _ => e w)) (by decide)
theorem eth_congr {A A' B B' : List Nat → Prop} (h : ∀ w, A w ↔ A' w) (g : ∀ w, B w ↔ B' w) (w : List Nat) : eth A B w ↔ eth A' B' w := or_congr (h w) (g w)
theorem eth_comm {A B : List Nat → Prop} (w : List Nat) : eth A B w ↔ eth B A w := or_comm
theorem plang_few (hL : L ≤ 2) (hfl : ∀ zs ∈ fl, ∀ z ∈ zs, z.length ≤ 2) {p : Pat} (g : p.good L) (h : p.dep ≤ 3) {m : Mach} (sp : MSpec L (plang fl p) m) : m.st.length ≤ 60 := by
  cases p with
  | word z => exact Nat.le_trans (kind_few hL (plang_kind hfl (p := .word z) g (by rw [Pat.dep]; decide)) sp) (by decide)
  | name n => exact Nat.le_trans (kind_few hL (plang_kind hfl (p := .name n) g (by rw [Pat.dep]; decide)) sp) (by decide)
  | beh p q =>
    rw [Pat.dep] at h
    rcases plang_kind hfl g.1 (show p.dep ≤ 2 by omega) with ⟨S, T, a, b, e⟩ | ⟨S, a, e⟩
    · rcases plang_kind hfl g.2 (show q.dep ≤ 2 by omega) with ⟨S2, T2, a2, b2, e2⟩ | ⟨S2, a2, e2⟩
      · exact few_ssss hL a b a2 b2 (sp.congr fun w _ => cat_congr e e2 w)
      · exact few_ss_s hL a b a2 (sp.congr fun w _ => cat_congr e e2 w)
    · rcases plang_kind hfl g.2 (show q.dep ≤ 2 by omega) with ⟨S2, T2, a2, b2, e2⟩ | ⟨S2, a2, e2⟩
      · exact few_s_ss hL a a2 b2 (sp.congr fun w _ => cat_congr e e2 w)
      · exact few_s_s hL a a2 (sp.congr fun w _ => cat_congr e e2 w)
  | eit p q =>
    rw [Pat.dep] at h
    rcases plang_kind hfl g.1 (show p.dep ≤ 2 by omega) with ⟨S, T, a, b, e⟩ | ⟨S, a, e⟩
    · rcases plang_kind hfl g.2 (show q.dep ≤ 2 by omega) with ⟨S2, T2, a2, b2, e2⟩ | ⟨S2, a2, e2⟩
      · exact few_eth_short hL (cat_short a b) (cat_short a2 b2) (sp.congr fun w _ => eth_congr e e2 w)
      · exact few_eth_ss hL a b a2 (sp.congr fun w _ => eth_congr e e2 w)
    · rcases plang_kind hfl g.2 (show q.dep ≤ 2 by omega) with ⟨S2, T2, a2, b2, e2⟩ | ⟨S2, a2, e2⟩
      · exact few_eth_ss hL a2 b2 a (sp.congr fun w _ => (eth_congr e e2 w).trans (eth_comm w))
      · exact few_eth_st hL a a2 (sp.congr fun w _ => eth_congr e e2 w)
  | rnd p =>
    rw [Pat.dep] at h
    rcases plang_kind hfl (p := p) g (show p.dep ≤ 2 by omega) with ⟨S, T, a, b, e⟩ | ⟨S, a, e⟩
    · exact few_ss_star hL a b (sp.congr fun w _ => star_congr e w)
    · exact Nat.le_trans (few_star hL a (sp.congr fun w _ => (star_congr e w).trans star_star)) (by decide)
end
end K44
end
section
set_option maxHeartbeats 4000000
/-! Pairs, chains and rounds of machines as lots. -/
namespace K44
/-! ### sorted sets of small numbers -/
def srt (n : Nat) (lot : List Nat) : List Nat := (List.range n).filter fun q => decide (q ∈ lot)
theorem mem_srt {n q : Nat} {lot : List Nat} : q ∈ srt n lot ↔ q < n ∧ q ∈ lot := by
  unfold srt
  rw [List.mem_filter, List.mem_range, decide_eq_true_iff]
theorem srt_len {n : Nat} {lot : List Nat} : (srt n lot).length ≤ n := by
  have := List.length_filter_le (fun q => decide (q ∈ lot)) (List.range n)
  rw [List.length_range] at this
  exact this
theorem lt_pairs {α : Type} {r : α → α → Prop} (irr : ∀ a, ¬ r a a) (tr : ∀ a b c, r a b → r b c → r a c) : ∀ {l m : List α}, l.Pairwise r → m.Pairwise r → (∀ a, a ∈ l ↔ a ∈ m) → l = m
  | [], [], _, _, _ => rfl
  | [], b :: m, _, _, h => by have := (h b).mpr List.mem_cons_self; simp at this
  | a :: l, [], _, _, h => by have := (h a).mp List.mem_cons_self; simp at this
  | a :: l, b :: m, p, q, h => by
    obtain ⟨p1, p2⟩ := List.pairwise_cons.mp p
    obtain ⟨q1, q2⟩ := List.pairwise_cons.mp q
    have e : a = b := by
      rcases List.mem_cons.mp ((h a).mp List.mem_cons_self) with e | h1
      · exact e
      · rcases List.mem_cons.mp ((h b).mpr List.mem_cons_self) with e | h2
        · exact e.symm
        · exact absurd (tr _ _ _ (p1 b h2) (q1 a h1)) (irr a)
    subst e
    refine congrArg _ (lt_pairs irr tr p2 q2 fun x => ⟨fun hx => ?_, fun hx => ?_⟩)
    · rcases List.mem_cons.mp ((h x).mp (List.mem_cons_of_mem _ hx)) with rfl | hx2
      · exact absurd (p1 x hx) (irr x)
      · exact hx2
    · rcases List.mem_cons.mp ((h x).mpr (List.mem_cons_of_mem _ hx)) with rfl | hx2
      · exact absurd (q1 x hx) (irr x)
      · exact hx2
theorem range_pw (n : Nat) : (List.range n).Pairwise (· < ·) := List.pairwise_lt_range
theorem srt_pw (n : Nat) (lot : List Nat) : (srt n lot).Pairwise (· < ·) := List.Pairwise.filter _ (range_pw n)
/-- the sorted list of a set of ints -/
theorem srt_ints {n : Nat} {lot : List Nat} {ns : List Int} (hl : ∀ q ∈ lot, q < n) (pw : ns.Pairwise (· < ·)) (h : ∀ k : Int, k ∈ ns ↔ ∃ q ∈ lot, k = (q : Int)) : ns = (srt n lot).map fun q : Nat => (q : Int) := by
  refine lt_pairs (r := (· < · : Int → Int → Prop)) (fun a => Int.lt_irrefl a) (fun a b c => Int.lt_trans) pw (List.pairwise_map.mpr ((srt_pw n lot).imp fun h => Int.ofNat_lt.mpr h)) fun k => ?_
  rw [h k, List.mem_map]
  exact ⟨fun ⟨q, hq, e⟩ => ⟨q, mem_srt.mpr ⟨hl q hq, hq⟩, e.symm⟩, fun ⟨q, hq, e⟩ => ⟨q, (mem_srt.mp hq).2, e.symm⟩⟩
theorem bls_len : ∀ n, (bls n).length = 2 ^ n
  | 0 => rfl
  | n + 1 => by
    show ((bls n).map (true :: ·) ++ (bls n).map (false :: ·)).length = _
    rw [List.length_append, List.length_map, List.length_map, bls_len n, Nat.pow_succ]; omega
def bitsOf (n : Nat) (lot : List Nat) : List Bool := (List.range n).map fun q => decide (q ∈ lot)
theorem bits_mem {n : Nat} {lot : List Nat} : bitsOf n lot ∈ bls n := by
  have : (bitsOf n lot).length = n := by unfold bitsOf; rw [List.length_map, List.length_range]
  have h := mem_bls (l := bitsOf n lot)
  rwa [this] at h
theorem bits_inj {n : Nat} {a b : List Nat} (h : bitsOf n a = bitsOf n b) : srt n a = srt n b := by
  unfold srt
  refine List.filter_congr fun q hq => ?_
  exact List.map_inj_left.mp h q hq
theorem prod_card {β : Type} [DecidableEq β] {xs : List β} {n : Nat} {g : β → Prop} (hg : ∀ b, g b → b ∈ xs) (fs : List (β × List Nat)) (nd : fs.Nodup) (h : ∀ a ∈ fs, g a.1 ∧ ∃ l, a.2 = srt n l) : fs.length ≤ xs.length * 2 ^ n := by
  have := nodup_lenG (m := xs.flatMap fun x => (bls n).map fun b => (x, b)) (nodup_mapOn (f := fun a : β × List Nat => (a.1, bitsOf n a.2)) nd fun a ha b hb e => by
    have e1 : a.1 = b.1 := (Prod.mk.inj e).1
    have e2 : bitsOf n a.2 = bitsOf n b.2 := (Prod.mk.inj e).2
    obtain ⟨_, la, h2⟩ := h a ha
    obtain ⟨_, lb, h3⟩ := h b hb
    have id_srt : ∀ l, srt n (srt n l) = srt n l := fun l => lt_pairs (r := (· < · : Nat → Nat → Prop)) (fun a => Nat.lt_irrefl a) (fun a b c => Nat.lt_trans) (srt_pw _ _) (srt_pw _ _) fun q => by rw [mem_srt, mem_srt]; exact ⟨fun h => h.2, fun h => ⟨h.1, h⟩⟩
    have e3 := bits_inj e2
    rw [h2, h3, id_srt, id_srt] at e3
    exact Prod.ext e1 (by rw [h2, h3, e3])) fun x hx => by
    obtain ⟨a, ha, rfl⟩ := List.mem_map.mp hx
    exact List.mem_flatMap.mpr ⟨a.1, hg _ (h a ha).1, List.mem_map.mpr ⟨_, bits_mem, rfl⟩⟩
  rw [List.length_map, List.length_flatMap] at this
  have e : (xs.map fun x => ((bls n).map fun b => (x, b)).length) = List.replicate xs.length (2 ^ n) := List.eq_replicate_iff.mpr ⟨List.length_map .., fun b hb => by
    obtain ⟨x, _, rfl⟩ := List.mem_map.mp hb
    rw [List.length_map, bls_len]⟩
  rw [e, List.sum_replicate_nat] at this
  exact this
/-! ### pairs -/
def pairL (L : Nat) (m1 m2 : Mach) : Lots (Nat × Nat) where
  L := L
  b := (0, 0)
  f := fun a c => (nx m1.st a.1 c, nx m2.st a.2 c)
  t := fun a => decide (a.1 ∈ m1.en) || decide (a.2 ∈ m2.en)
theorem pair_run {L : Nat} {m1 m2 : Mach} : ∀ {w : List Nat} {a : Nat × Nat}, (pairL L m1 m2).run a w = (runS m1.st a.1 w, runS m2.st a.2 w)
  | [], _ => rfl
  | c :: w, a => by
    show (pairL L m1 m2).run ((pairL L m1 m2).f a c) w = _
    rw [pair_run (w := w)]; rfl
section
variable {L : Nat} {m1 m2 m : Mach} {A B : List Nat → Prop}
theorem MSpec.end_ {m : Mach} {A : List Nat → Prop} (h : MSpec L A m) {w : List Nat} (hw : Wd L w) : runS m.st 0 w ∈ m.en ↔ A w := by
  rw [← h.acc w hw]
  unfold Mach.acc
  rw [decide_eq_true_iff]
theorem pair_lang (h1 : MSpec L A m1) (h2 : MSpec L B m2) {w : List Nat} (hw : Wd L w) : (pairL L m1 m2).lang w ↔ eth A B w := by
  unfold Lots.lang
  rw [pair_run]
  show (decide (runS m1.st 0 w ∈ m1.en) || decide (runS m2.st 0 w ∈ m2.en)) = true ↔ _
  rw [Bool.or_eq_true, decide_eq_true_iff, decide_eq_true_iff, h1.end_ hw, h2.end_ hw]; rfl
/-! ### one behind the other -/
def begL (m1 m2 : Mach) (s : Nat) (lot : List Nat) : Nat × List Nat := (s, srt m2.st.length (if s ∈ m1.en then lot ++ [0] else lot))
def behL (L : Nat) (m1 m2 : Mach) : Lots (Nat × List Nat) where
  L := L
  b := begL m1 m2 0 []
  f := fun a c => begL m1 m2 (nx m1.st a.1 c) (a.2.map fun q => nx m2.st q c)
  t := fun a => a.2.any fun q => decide (q ∈ m2.en)
theorem run_snoc {α : Type} (l : Lots α) (a : α) (w : List Nat) (c : Nat) : l.run a (w ++ [c]) = l.f (l.run a w) c := by
  unfold Lots.run
  rw [List.foldl_append]; rfl
theorem beh_run (h1 : MSpec L A m1) (h2 : MSpec L B m2) (w : List Nat) : Wd L w → ((behL L m1 m2).run (behL L m1 m2).b w).1 = runS m1.st 0 w ∧ ∀ q, q ∈ ((behL L m1 m2).run (behL L m1 m2).b w).2 ↔ ∃ u v, w = u ++ v ∧ A u ∧ runS m2.st 0 v = q := by
  have beg : ∀ (s : Nat) (lot : List Nat) (q : Nat), q ∈ (begL m1 m2 s lot).2 ↔ q < m2.st.length ∧ (q ∈ lot ∨ (s ∈ m1.en ∧ q = 0)) := fun s lot q => by
    unfold begL
    dsimp only
    rw [mem_srt]
    refine and_congr_right fun _ => ?_
    by_cases hs : s ∈ m1.en
    · rw [if_pos hs, List.mem_append, List.mem_singleton]; simp [hs]
    · rw [if_neg hs]; simp [hs]
  have lt2 : ∀ v, Wd L v → runS m2.st 0 v < m2.st.length := fun v hv => h2.wf.run_lt h2.wf.pos (by rw [h2.eL]; exact hv)
  refine snoc_ind (P := fun w => Wd L w → ((behL L m1 m2).run (behL L m1 m2).b w).1 = runS m1.st 0 w ∧ ∀ q, q ∈ ((behL L m1 m2).run (behL L m1 m2).b w).2 ↔ ∃ u v, w = u ++ v ∧ A u ∧ runS m2.st 0 v = q) (fun _ => ⟨rfl, fun q => ?_⟩) (fun w c ih hw => ?_) w
  · show q ∈ (begL m1 m2 0 []).2 ↔ _
    rw [beg]
    refine ⟨fun ⟨_, h⟩ => ?_, fun ⟨u, v, e, ha, hv⟩ => ?_⟩
    · rcases h with h | ⟨h, rfl⟩
      · simp at h
      · exact ⟨[], [], rfl, (h1.end_ Wd.nil).mp h, rfl⟩
    · obtain ⟨rfl, rfl⟩ := List.append_eq_nil_iff.mp e.symm
      subst hv
      exact ⟨lt2 [] Wd.nil, .inr ⟨(h1.end_ Wd.nil).mpr ha, rfl⟩⟩
  · obtain ⟨i1, i2⟩ := ih hw.left
    have hc : c < L := hw.right c (List.mem_singleton.mpr rfl)
    rw [run_snoc]
    have e1 : nx m1.st ((behL L m1 m2).run (behL L m1 m2).b w).1 c = runS m1.st 0 (w ++ [c]) := by rw [i1, runS_app]; rfl
    refine ⟨e1, fun q => ?_⟩
    show q ∈ (begL m1 m2 (nx m1.st ((behL L m1 m2).run (behL L m1 m2).b w).1 c) (((behL L m1 m2).run (behL L m1 m2).b w).2.map fun q => nx m2.st q c)).2 ↔ _
    rw [beg, e1, h1.end_ hw, List.mem_map]
    refine ⟨fun ⟨_, h⟩ => ?_, fun ⟨u, v, e, ha, hv⟩ => ?_⟩
    · rcases h with ⟨p, hp, rfl⟩ | ⟨h, rfl⟩
      · obtain ⟨u, v, e, ha, hv⟩ := (i2 p).mp hp
        exact ⟨u, v ++ [c], by rw [e, List.append_assoc], ha, by rw [runS_app, hv]; rfl⟩
      · exact ⟨w ++ [c], [], (List.append_nil _).symm, h, rfl⟩
    · have hwv : Wd L v := by rw [e] at hw; exact hw.right
      refine ⟨by rw [← hv]; exact lt2 v hwv, ?_⟩
      rcases List.eq_nil_or_concat v with rfl | ⟨x, d, rfl⟩
      · rw [List.append_nil] at e
        subst e
        exact .inr ⟨ha, hv.symm⟩
      · rw [List.concat_eq_append] at e hv
        rw [← List.append_assoc] at e
        obtain ⟨e3, e4⟩ := List.append_inj' e rfl
        cases e4
        exact .inl ⟨runS m2.st 0 x, (i2 _).mpr ⟨u, x, e3, ha, rfl⟩, by rw [← hv, runS_app]; rfl⟩
theorem beh_lang (h1 : MSpec L A m1) (h2 : MSpec L B m2) {w : List Nat} (hw : Wd L w) : (behL L m1 m2).lang w ↔ cat A B w := by
  unfold Lots.lang
  show (((behL L m1 m2).run (behL L m1 m2).b w).2.any fun q => decide (q ∈ m2.en)) = true ↔ _
  rw [List.any_eq_true]
  refine ⟨fun ⟨q, hq, hd⟩ => ?_, fun ⟨u, v, e, ha, hb⟩ => ?_⟩
  · obtain ⟨u, v, e, ha, rfl⟩ := ((beh_run h1 h2 w hw).2 q).mp hq
    exact ⟨u, v, e, ha, (h2.end_ (by rw [e] at hw; exact hw.right)).mp (of_decide_eq_true hd)⟩
  · exact ⟨runS m2.st 0 v, ((beh_run h1 h2 w hw).2 _).mpr ⟨u, v, e, ha, rfl⟩, decide_eq_true ((h2.end_ (by rw [e] at hw; exact hw.right)).mpr hb)⟩
/-! ### rounds -/
def clL (m : Mach) (lot : List Nat) : List Nat := srt m.st.length (if (lot.any fun q => decide (q ∈ m.en)) = true then lot ++ [0] else lot)
def rndL (L : Nat) (m : Mach) : Lots (Bool × List Nat) where
  L := L
  b := (false, [])
  f := fun a c => (true, clL m ((if a.1 = true then a.2 else [0]).map fun q => nx m.st q c))
  t := fun a => !a.1 || a.2.any fun q => decide (q ∈ m.en)
theorem mem_cl {lot : List Nat} {q : Nat} : q ∈ clL m lot ↔ q < m.st.length ∧ (q ∈ lot ∨ (q = 0 ∧ ∃ p ∈ lot, p ∈ m.en)) := by
  unfold clL
  rw [mem_srt]
  refine and_congr_right fun _ => ?_
  by_cases hs : (lot.any fun q => decide (q ∈ m.en)) = true
  · rw [if_pos hs, List.mem_append, List.mem_singleton]
    have : ∃ p ∈ lot, p ∈ m.en := by
      obtain ⟨p, h1, h2⟩ := List.any_eq_true.mp hs
      exact ⟨p, h1, of_decide_eq_true h2⟩
    simp [this]
  · rw [if_neg hs]
    have : ¬ ∃ p ∈ lot, p ∈ m.en := fun ⟨p, h1, h2⟩ => hs (List.any_eq_true.mpr ⟨p, h1, decide_eq_true h2⟩)
    simp [this]
theorem star_last {A : List Nat → Prop} {w : List Nat} (h : Star A w) : w = [] ∨ ∃ u v c, w = u ++ (v ++ [c]) ∧ Star A u ∧ A (v ++ [c]) := by
  induction h with
  | nil => exact .inl rfl
  | @app u v a s ih =>
    rcases ih with rfl | ⟨x, y, c, rfl, h1, h2⟩
    · rcases List.eq_nil_or_concat u with rfl | ⟨y, c, rfl⟩
      · exact .inl rfl
      · rw [List.concat_eq_append] at a ⊢
        exact .inr ⟨[], y, c, by rw [List.append_nil]; rfl, .nil, a⟩
    · exact .inr ⟨u ++ x, y, c, by simp, .app a h1, h2⟩
def lotR (a : Bool × List Nat) : List Nat := if a.1 = true then a.2 else [0]
theorem rnd_run (h : MSpec L A m) (w : List Nat) : Wd L w → (((rndL L m).run (rndL L m).b w).1 = false ↔ w = []) ∧ ∀ q, q ∈ lotR ((rndL L m).run (rndL L m).b w) ↔ ∃ u v, w = u ++ v ∧ Star A u ∧ runS m.st 0 v = q := by
  have lt2 : ∀ v, Wd L v → runS m.st 0 v < m.st.length := fun v hv => h.wf.run_lt h.wf.pos (by rw [h.eL]; exact hv)
  refine snoc_ind (P := fun w => Wd L w → (((rndL L m).run (rndL L m).b w).1 = false ↔ w = []) ∧ ∀ q, q ∈ lotR ((rndL L m).run (rndL L m).b w) ↔ ∃ u v, w = u ++ v ∧ Star A u ∧ runS m.st 0 v = q) (fun _ => ⟨⟨fun _ => rfl, fun _ => rfl⟩, fun q => ?_⟩) (fun w c ih hw => ?_) w
  · show q ∈ [0] ↔ _
    rw [List.mem_singleton]
    refine ⟨fun e => ⟨[], [], rfl, .nil, e.symm⟩, fun ⟨u, v, e, _, hv⟩ => ?_⟩
    obtain ⟨rfl, rfl⟩ := List.append_eq_nil_iff.mp e.symm
    exact hv.symm
  · obtain ⟨_, i2⟩ := ih hw.left
    rw [run_snoc]
    refine ⟨⟨fun z => (by cases z), fun z => by simp at z⟩, fun q => ?_⟩
    show q ∈ clL m ((lotR ((rndL L m).run (rndL L m).b w)).map fun q => nx m.st q c) ↔ _
    have key : ∀ p, p ∈ ((lotR ((rndL L m).run (rndL L m).b w)).map fun q => nx m.st q c) ↔ ∃ u v, w = u ++ v ∧ Star A u ∧ runS m.st 0 (v ++ [c]) = p := fun p => by
      rw [List.mem_map]
      refine ⟨fun ⟨x, hx, e⟩ => ?_, fun ⟨u, v, e, ha, hv⟩ => ⟨runS m.st 0 v, (i2 _).mpr ⟨u, v, e, ha, rfl⟩, by rw [← hv, runS_app]; rfl⟩⟩
      obtain ⟨u, v, e2, ha, hv⟩ := (i2 x).mp hx
      exact ⟨u, v, e2, ha, by rw [← e, ← hv, runS_app]; rfl⟩
    rw [mem_cl]
    refine ⟨fun ⟨_, h3⟩ => ?_, fun ⟨u, v, e, ha, hv⟩ => ?_⟩
    · rcases h3 with h3 | ⟨rfl, p, hp, he⟩
      · obtain ⟨u, v, e, ha, hv⟩ := (key q).mp h3
        exact ⟨u, v ++ [c], by rw [e, List.append_assoc], ha, hv⟩
      · obtain ⟨u, v, e, ha, rfl⟩ := (key p).mp hp
        have hv : Wd L (v ++ [c]) := by rw [e, List.append_assoc] at hw; exact hw.right
        exact ⟨w ++ [c], [], (List.append_nil _).symm, by rw [e, List.append_assoc]; exact ha.snoc ((h.end_ hv).mp he), rfl⟩
    · have hwv : Wd L v := by rw [e] at hw; exact hw.right
      refine ⟨by rw [← hv]; exact lt2 v hwv, ?_⟩
      rcases List.eq_nil_or_concat v with rfl | ⟨x, d, rfl⟩
      · rw [List.append_nil] at e
        subst e
        refine .inr ⟨hv.symm, ?_⟩
        rcases star_last ha with e | ⟨x, y, d, e, h1, h2⟩
        · simp at e
        · rw [← List.append_assoc] at e
          obtain ⟨e3, e4⟩ := List.append_inj' e rfl
          cases e4
          exact ⟨_, (key _).mpr ⟨x, y, e3, h1, rfl⟩, (h.end_ (by rw [e3, List.append_assoc] at hw; exact hw.right)).mpr h2⟩
      · rw [List.concat_eq_append] at e hv
        rw [← List.append_assoc] at e
        obtain ⟨e3, e4⟩ := List.append_inj' e rfl
        cases e4
        exact .inl ((key q).mpr ⟨u, x, e3, ha, hv⟩)
theorem rnd_lang (h : MSpec L A m) {w : List Nat} (hw : Wd L w) : (rndL L m).lang w ↔ Star A w := by
  obtain ⟨r1, r2⟩ := rnd_run h w hw
  unfold Lots.lang
  show (!((rndL L m).run (rndL L m).b w).1 || ((rndL L m).run (rndL L m).b w).2.any fun q => decide (q ∈ m.en)) = true ↔ _
  cases q : ((rndL L m).run (rndL L m).b w).1 with
  | false =>
    have := r1.mp q
    subst this
    exact ⟨fun _ => .nil, fun _ => rfl⟩
  | true =>
    have hn : w ≠ [] := fun z => by rw [r1.mpr z] at q; cases q
    have e : lotR ((rndL L m).run (rndL L m).b w) = ((rndL L m).run (rndL L m).b w).2 := if_pos q
    rw [← e, Bool.not_true, Bool.false_or, List.any_eq_true]
    refine ⟨fun ⟨p, hp, hd⟩ => ?_, fun hs => ?_⟩
    · obtain ⟨u, v, e, ha, rfl⟩ := (r2 p).mp hp
      rw [e]
      exact ha.snoc ((h.end_ (by rw [e] at hw; exact hw.right)).mp (of_decide_eq_true hd))
    · rcases star_last hs with e | ⟨u, v, c, e, ha, hb⟩
      · exact absurd e hn
      · exact ⟨_, (r2 _).mpr ⟨u, v ++ [c], e, ha, rfl⟩, decide_eq_true ((h.end_ (by rw [e] at hw; exact hw.right)).mpr hb)⟩
end
end K44
end
section
set_option maxHeartbeats 4000000
namespace K44
open PySem
theorem b01_inj : ∀ a b : Bool, b01 a = b01 b → a = b := by decide
mutual
theorem rdD_inj : ∀ (r s : Rd), r.d = s.d → r = s
  | .word a, s, h => by
    cases s with
    | word b => simp [Rd.d] at h; rw [h]
    | name m b => simp [Rd.d] at h
    | beh u v => simp [Rd.d] at h
    | eit b u => simp [Rd.d] at h
    | rnd t us => cases t <;> (rw [Rd.d, Rd.d] at h; revert h; simp; try decide)
  | .name n a, s, h => by
    cases s with
    | word b => simp [Rd.d] at h
    | name m b => simp [Rd.d] at h; rw [show n = m by have := h.1; omega, h.2]
    | beh u v => simp [Rd.d] at h; exact absurd h.1 (by decide)
    | eit b u => simp [Rd.d] at h; exact absurd h.1 (by decide)
    | rnd t us => cases t <;> simp [Rd.d] at h
  | .beh r1 r2, s, h => by
    cases s with
    | word b => simp [Rd.d] at h
    | name m b => simp [Rd.d] at h; exact absurd h.1 (by decide)
    | beh u v =>
      simp [Rd.d] at h
      rw [rdD_inj r1 u h.1, rdD_inj r2 v h.2]
    | eit b u => simp [Rd.d] at h; exact absurd h.1 (by decide)
    | rnd t us => cases t <;> simp [Rd.d] at h
  | .eit b r1, s, h => by
    cases s with
    | word b => simp [Rd.d] at h
    | name m b => simp [Rd.d] at h; exact absurd h.1 (by decide)
    | beh u v => simp [Rd.d] at h; exact absurd h.1 (by decide)
    | eit c u =>
      simp [Rd.d] at h
      rw [rdD_inj r1 u h.2, b01_inj b c h.1]
    | rnd t us => cases t <;> simp [Rd.d] at h
  | .rnd t rs, s, h => by
    cases s with
    | word b => cases t <;> simp [Rd.d] at h
    | name m b => cases t <;> simp [Rd.d] at h
    | beh u v => cases t <;> simp [Rd.d] at h
    | eit b u => cases t <;> simp [Rd.d] at h
    | rnd t2 us =>
      cases t <;> cases t2
      · simp [Rd.d] at h; rw [rdsD_inj rs us h]
      · simp [Rd.d] at h
      · simp [Rd.d] at h
      · simp [Rd.d] at h; rw [rdsD_inj rs us h]
theorem rdsD_inj : ∀ (rs ss : List Rd), rdsD rs = rdsD ss → rs = ss
  | [], [], _ => rfl
  | [], _ :: _, h => by simp [rdsD] at h
  | _ :: _, [], h => by simp [rdsD] at h
  | r :: rs, s :: ss, h => by
    simp [rdsD] at h
    rw [rdD_inj r s h.1, rdsD_inj rs ss h.2]
end
end K44
end
section
set_option maxHeartbeats 4000000
/-! Readings: shapes, texts, pieces. -/
namespace K44
open PySem
theorem str_app (a b : Str) : (a ++ b).cps.toList = a.cps.toList ++ b.cps.toList := by
  show (a.cps ++ b.cps).toList = _
  rw [Array.toList_append]
theorem wD_str {L : Nat} {z : Str} (h : z.length ≤ 60) (hc : ∀ c ∈ z.cps.toList, c ∈ sgs L) : wD L (.str z) = true := by
  show (decide (z.length ≤ 60) && _) = true
  rw [decide_eq_true h, Bool.true_and, List.all_eq_true]
  exact fun c h => decide_eq_true (hc c h)
theorem wD_inv {L : Nat} {d : PyData} (h : wD L d = true) : ∃ z, d = .str z ∧ z.length ≤ 60 ∧ ∀ c ∈ z.cps.toList, c ∈ sgs L := by
  cases d with
  | str z =>
    have h' : (decide (z.length ≤ 60) && z.cps.toList.all fun c => decide (c ∈ sgs L)) = true := h
    rw [Bool.and_eq_true, List.all_eq_true] at h'
    exact ⟨z, rfl, of_decide_eq_true h'.1, fun c hc => of_decide_eq_true (h'.2 c hc)⟩
  | _ => cases h
theorem nmD_inv {d : PyData} (h : nmD d = true) : ∃ n : Nat, d = .int n ∧ n ≤ 2 := by
  cases d with
  | int i =>
    have h' : (decide (0 ≤ i) && decide (i ≤ 2)) = true := h
    rw [Bool.and_eq_true] at h'
    have a := of_decide_eq_true h'.1
    have b := of_decide_eq_true h'.2
    exact ⟨i.toNat, by rw [Int.toNat_of_nonneg a], by omega⟩
  | _ => cases h
theorem sdD_inv {d : PyData} (h : sdD d = true) : ∃ b : Bool, d = .int (b01 b) := by
  cases d with
  | int i =>
    have h' : (decide (0 ≤ i) && decide (i < 2)) = true := h
    rw [Bool.and_eq_true] at h'
    have a := of_decide_eq_true h'.1
    have b := of_decide_eq_true h'.2
    by_cases hi : i = 0
    · exact ⟨false, by rw [hi]; rfl⟩
    · exact ⟨true, by rw [show i = 1 by omega]; rfl⟩
  | _ => cases h
theorem rdsD_eq : ∀ rs : List Rd, rdsD rs = rs.map Rd.d
  | [] => rfl
  | r :: rs => by rw [rdsD, rdsD_eq rs]; rfl
theorem isShape2 (n : Nat) (k : Str) (x : PyData) : isShape (n + 1) (.tuple [.str k, x]) = if k = "word" then wD 3 x else if k = "round" then (match itemsD x with
        | some xs => (xs.map (isShape n)).all id
        | none => false) else false := rfl
theorem isShape3 (n : Nat) (k : Str) (x y : PyData) : isShape (n + 1) (.tuple [.str k, x, y]) = if k = "name" then nmD x && wD 3 y else if k = "behind" then isShape n x && isShape n y else if k = "either" then sdD x && isShape n y else false := rfl
/-- what is judged a shape is a reading -/
theorem shape_rd : ∀ (n : Nat) (d : PyData), isShape n d = true → small d = true → ∃ r : Rd, d = r.d ∧ r.ok ∧ r.dep ≤ n
  | 0, _, h, _ => by cases h
  | n + 1, d, h, hs => by
    have lists : ∀ xs : List PyData, (xs.map (isShape n)).all id = true → smalls xs = true → ∃ rs : List Rd, xs = rdsD rs ∧ rdsOk rs ∧ rdsDep rs ≤ n := by
      intro xs
      induction xs with
      | nil => exact fun _ _ => ⟨[], rfl, True.intro, Nat.zero_le _⟩
      | cons x xs ih =>
        intro h1 h2
        rw [List.map_cons, List.all_cons, Bool.and_eq_true] at h1
        rw [smalls, Bool.and_eq_true] at h2
        obtain ⟨r, rfl, hr1, hr2⟩ := shape_rd n x h1.1 h2.1
        obtain ⟨rs, rfl, hr3, hr4⟩ := ih h1.2 h2.2
        exact ⟨r :: rs, rfl, ⟨hr1, hr3⟩, by rw [rdsDep]; omega⟩
    match d, h, hs with
    | .tuple [.str k, x], h, hs =>
      rw [isShape2] at h
      rw [small, Bool.and_eq_true] at hs
      have hx : small x = true := smalls_mem hs.2 (by simp)
      by_cases k1 : k = "word"
      · rw [if_pos k1] at h
        obtain ⟨z, rfl, h1, h2⟩ := wD_inv h
        exact ⟨.word z, by rw [k1]; rfl, ⟨h1, h2⟩, by rw [Rd.dep]; omega⟩
      · rw [if_neg k1] at h
        by_cases k2 : k = "round"
        · rw [if_pos k2] at h
          cases x with
          | list xs =>
            rw [small, Bool.and_eq_true] at hx
            obtain ⟨rs, rfl, h1, h2⟩ := lists xs h hx.2
            have h3 : (rdsD rs).length ≤ 10 := of_decide_eq_true hx.1
            rw [rdsD_eq, List.length_map] at h3
            exact ⟨.rnd false rs, by rw [k2]; rfl, ⟨h3, h1⟩, by rw [Rd.dep]; omega⟩
          | tuple xs =>
            rw [small, Bool.and_eq_true] at hx
            obtain ⟨rs, rfl, h1, h2⟩ := lists xs h hx.2
            have h3 : (rdsD rs).length ≤ 10 := of_decide_eq_true hx.1
            rw [rdsD_eq, List.length_map] at h3
            exact ⟨.rnd true rs, by rw [k2]; rfl, ⟨h3, h1⟩, by rw [Rd.dep]; omega⟩
          | _ => cases h
        · rw [if_neg k2] at h
          cases h
    | .tuple [.str k, x, y], h, hs =>
      rw [isShape3] at h
      rw [small, Bool.and_eq_true] at hs
      have hx : small x = true := smalls_mem hs.2 (by simp)
      have hy : small y = true := smalls_mem hs.2 (by simp)
      by_cases k1 : k = "name"
      · rw [if_pos k1, Bool.and_eq_true] at h
        obtain ⟨m, rfl, h0⟩ := nmD_inv h.1
        obtain ⟨z, rfl, h1, h2⟩ := wD_inv h.2
        exact ⟨.name m z, by rw [k1]; rfl, ⟨h0, h1, h2⟩, by rw [Rd.dep]; omega⟩
      rw [if_neg k1] at h
      by_cases k2 : k = "behind"
      · rw [if_pos k2, Bool.and_eq_true] at h
        obtain ⟨r, rfl, h1, h2⟩ := shape_rd n x h.1 hx
        obtain ⟨s, rfl, h3, h4⟩ := shape_rd n y h.2 hy
        exact ⟨.beh r s, by rw [k2]; rfl, ⟨h1, h3⟩, by rw [Rd.dep]; omega⟩
      rw [if_neg k2] at h
      by_cases k3 : k = "either"
      · rw [if_pos k3, Bool.and_eq_true] at h
        obtain ⟨b, rfl⟩ := sdD_inv h.1
        obtain ⟨s, rfl, h3, h4⟩ := shape_rd n y h.2 hy
        exact ⟨.eit b s, by rw [k3]; rfl, h3, by rw [Rd.dep]; omega⟩
      rw [if_neg k3] at h
      cases h
    | .tuple [], h, _ => cases h
    | .tuple [x], h, _ => cases x <;> cases h
    | .tuple (x :: _ :: _ :: _ :: _), h, _ => cases x <;> cases h
    | .tuple [.none, _], h, _ => cases h
    | .tuple [.bool _, _], h, _ => cases h
    | .tuple [.int _, _], h, _ => cases h
    | .tuple [.list _, _], h, _ => cases h
    | .tuple [.tuple _, _], h, _ => cases h
    | .tuple [.dict _, _], h, _ => cases h
    | .tuple [.none, _, _], h, _ => cases h
    | .tuple [.bool _, _, _], h, _ => cases h
    | .tuple [.int _, _, _], h, _ => cases h
    | .tuple [.list _, _, _], h, _ => cases h
    | .tuple [.tuple _, _, _], h, _ => cases h
    | .tuple [.dict _, _, _], h, _ => cases h
    | .none, h, _ => cases h
    | .bool _, h, _ => cases h
    | .int _, h, _ => cases h
    | .str _, h, _ => cases h
    | .list _, h, _ => cases h
    | .dict _, h, _ => cases h
mutual
theorem rd_shape : ∀ (r : Rd) (n : Nat), r.ok → r.dep ≤ n → isShape n r.d = true
  | .word z, n, h, hn => by
    have h2 : 1 ≤ n := hn
    obtain ⟨m, rfl⟩ : ∃ m, n = m + 1 := ⟨n - 1, by omega⟩
    show isShape (m + 1) (.tuple [.str "word", .str z]) = true
    rw [isShape2, if_pos rfl]
    exact wD_str h.1 h.2
  | .name k z, n, h, hn => by
    have h2 : 1 ≤ n := hn
    obtain ⟨m, rfl⟩ : ∃ m, n = m + 1 := ⟨n - 1, by omega⟩
    show isShape (m + 1) (.tuple [.str "name", .int k, .str z]) = true
    rw [isShape3, if_pos rfl, wD_str h.2.1 h.2.2, Bool.and_true]
    show (decide ((0 : Int) ≤ k) && decide ((k : Int) ≤ 2)) = true
    have := h.1
    rw [decide_eq_true (by omega), decide_eq_true (by omega)]; rfl
  | .beh r s, n, h, hn => by
    have h2 : max r.dep s.dep + 1 ≤ n := hn
    obtain ⟨m, rfl⟩ : ∃ m, n = m + 1 := ⟨n - 1, by omega⟩
    show isShape (m + 1) (.tuple [.str "behind", r.d, s.d]) = true
    rw [isShape3, if_neg (by decide), if_pos rfl, rd_shape r m h.1 (by omega), rd_shape s m h.2 (by omega)]; rfl
  | .eit b r, n, h, hn => by
    have h2 : r.dep + 1 ≤ n := hn
    obtain ⟨m, rfl⟩ : ∃ m, n = m + 1 := ⟨n - 1, by omega⟩
    show isShape (m + 1) (.tuple [.str "either", .int (b01 b), r.d]) = true
    rw [isShape3, if_neg (by decide), if_neg (by decide), if_pos rfl, rd_shape r m h (by omega), Bool.and_true]
    cases b <;> decide
  | .rnd true rs, n, h, hn => by
    have h2 : rdsDep rs + 1 ≤ n := hn
    obtain ⟨m, rfl⟩ : ∃ m, n = m + 1 := ⟨n - 1, by omega⟩
    show isShape (m + 1) (.tuple [.str "round", .tuple (rdsD rs)]) = true
    rw [isShape2, if_neg (by decide), if_pos rfl]
    exact rds_shape rs m h.2 (by omega)
  | .rnd false rs, n, h, hn => by
    have h2 : rdsDep rs + 1 ≤ n := hn
    obtain ⟨m, rfl⟩ : ∃ m, n = m + 1 := ⟨n - 1, by omega⟩
    show isShape (m + 1) (.tuple [.str "round", .list (rdsD rs)]) = true
    rw [isShape2, if_neg (by decide), if_pos rfl]
    exact rds_shape rs m h.2 (by omega)
theorem rds_shape : ∀ (rs : List Rd) (n : Nat), rdsOk rs → rdsDep rs ≤ n → ((rdsD rs).map (isShape n)).all id = true
  | [], _, _, _ => rfl
  | r :: rs, n, h, hn => by
    have h2 : max r.dep (rdsDep rs) ≤ n := hn
    show (isShape n r.d && ((rdsD rs).map (isShape n)).all id) = true
    rw [rd_shape r n h.1 (by omega), rds_shape rs n h.2 (by omega)]; rfl
end
mutual
theorem rd_small : ∀ (r : Rd), r.ok → small r.d = true
  | .word z, h => by
    show (true && (true && (decide (z.length ≤ 60) && true))) = true
    rw [decide_eq_true h.1]; rfl
  | .name k z, h => by
    show (true && (true && (true && (decide (z.length ≤ 60) && true)))) = true
    rw [decide_eq_true h.2.1]; rfl
  | .beh r s, h => by
    show (true && (true && (small r.d && (small s.d && true)))) = true
    rw [rd_small r h.1, rd_small s h.2]; rfl
  | .eit b r, h => by
    show (true && (true && (true && (small r.d && true)))) = true
    rw [rd_small r h]; rfl
  | .rnd true rs, h => by
    show (true && (true && ((decide ((rdsD rs).length ≤ 10) && smalls (rdsD rs)) && true))) = true
    rw [rds_small rs h.2, rdsD_eq, List.length_map, decide_eq_true h.1]; rfl
  | .rnd false rs, h => by
    show (true && (true && ((decide ((rdsD rs).length ≤ 10) && smalls (rdsD rs)) && true))) = true
    rw [rds_small rs h.2, rdsD_eq, List.length_map, decide_eq_true h.1]; rfl
theorem rds_small : ∀ (rs : List Rd), rdsOk rs → smalls (rdsD rs) = true
  | [], _ => rfl
  | r :: rs, h => by
    show (small r.d && smalls (rdsD rs)) = true
    rw [rd_small r h.1, rds_small rs h.2]; rfl
end
theorem all_map_id {α : Type} {l : List α} {f : α → Bool} (h : (l.map f).all id = true) : ∀ a ∈ l, f a = true := by
  intro a ha
  rw [List.all_map] at h
  exact List.all_eq_true.mp h a ha
mutual
theorem isOf_dep : ∀ (p : Pat) (r : Rd), isOf p r = true → r.dep ≤ p.dep
  | .word _, .word _, _ => Nat.le_refl _
  | .name _, .name _ _, _ => Nat.le_refl _
  | .beh p q, .beh r s, h => by
    have h' : (isOf p r && isOf q s) = true := h
    rw [Bool.and_eq_true] at h'
    have a := isOf_dep p r h'.1
    have b := isOf_dep q s h'.2
    show max r.dep s.dep + 1 ≤ max p.dep q.dep + 1
    omega
  | .eit p q, .eit true r, h => by
    have a := isOf_dep q r h
    show r.dep + 1 ≤ max p.dep q.dep + 1
    omega
  | .eit p q, .eit false r, h => by
    have a := isOf_dep p r h
    show r.dep + 1 ≤ max p.dep q.dep + 1
    omega
  | .rnd p, .rnd t rs, h => by
    have a := isOf_deps p rs h
    show rdsDep rs + 1 ≤ p.dep + 1
    omega
theorem isOf_deps : ∀ (p : Pat) (rs : List Rd), (rs.map (isOf p)).all id = true → rdsDep rs ≤ p.dep
  | _, [], _ => Nat.zero_le _
  | p, r :: rs, h => by
    rw [List.map_cons, List.all_cons, Bool.and_eq_true] at h
    have a := isOf_dep p r h.1
    have b := isOf_deps p rs h.2
    show max r.dep (rdsDep rs) ≤ p.dep
    omega
end
mutual
/-- the pieces' names are the pattern's -/
theorem isOf_names : ∀ (p : Pat) (r : Rd) (L : Nat), isOf p r = true → p.good L → ∀ x ∈ r.pcs, x.1 < 2
  | .word _, .word _, _, _, _, x, hx => by cases hx
  | .name n, .name m _, _, h, g, x, hx => by
    have e : n = m := of_decide_eq_true h
    have g' : n < 2 := g
    rw [List.mem_singleton.mp hx]
    show m < 2
    omega
  | .beh p q, .beh r s, L, h, g, x, hx => by
    have h' : (isOf p r && isOf q s) = true := h
    rw [Bool.and_eq_true] at h'
    rcases List.mem_append.mp hx with hx | hx
    · exact isOf_names p r L h'.1 g.1 x hx
    · exact isOf_names q s L h'.2 g.2 x hx
  | .eit p q, .eit true r, L, h, g, x, hx => isOf_names q r L h g.2 x hx
  | .eit p q, .eit false r, L, h, g, x, hx => isOf_names p r L h g.1 x hx
  | .rnd p, .rnd t rs, L, h, g, x, hx => isOf_namess p rs L h g x hx
theorem isOf_namess : ∀ (p : Pat) (rs : List Rd) (L : Nat), (rs.map (isOf p)).all id = true → p.good L → ∀ x ∈ rdsPcs rs, x.1 < 2
  | _, [], _, _, _, x, hx => by cases hx
  | p, r :: rs, L, h, g, x, hx => by
    rw [List.map_cons, List.all_cons, Bool.and_eq_true] at h
    rcases List.mem_append.mp hx with hx | hx
    · exact isOf_names p r L h.1 g x hx
    · exact isOf_namess p rs L h.2 g x hx
end
mutual
/-- the signs of a piece are signs of the text that is read -/
theorem pcs_signs : ∀ (r : Rd) (x : Nat × Str), x ∈ r.pcs → ∀ c ∈ x.2.cps.toList, c ∈ r.rd.cps.toList
  | .word _, x, hx => by cases hx
  | .name m z, x, hx => by
    rw [List.mem_singleton.mp hx]
    exact fun c h => h
  | .beh r s, x, hx => fun c hc => by
    show c ∈ (r.rd ++ s.rd).cps.toList
    rw [str_app]
    rcases List.mem_append.mp hx with hx | hx
    · exact List.mem_append_left _ (pcs_signs r x hx c hc)
    · exact List.mem_append_right _ (pcs_signs s x hx c hc)
  | .eit _ r, x, hx => pcs_signs r x hx
  | .rnd _ rs, x, hx => rpcs_signs rs x hx
theorem rpcs_signs : ∀ (rs : List Rd) (x : Nat × Str), x ∈ rdsPcs rs → ∀ c ∈ x.2.cps.toList, c ∈ (rdsRd rs).cps.toList
  | [], x, hx => by cases hx
  | r :: rs, x, hx => fun c hc => by
    show c ∈ (r.rd ++ rdsRd rs).cps.toList
    rw [str_app]
    rcases List.mem_append.mp hx with hx | hx
    · exact List.mem_append_left _ (pcs_signs r x hx c hc)
    · exact List.mem_append_right _ (rpcs_signs rs x hx c hc)
end
mutual
theorem pcs_ok : ∀ (r : Rd), r.ok → ∀ x ∈ r.pcs, x.2.length ≤ 60 ∧ ∀ c ∈ x.2.cps.toList, c ∈ sgs 3
  | .word _, _, x, hx => by cases hx
  | .name m z, h, x, hx => by rw [List.mem_singleton.mp hx]; exact h.2
  | .beh r s, h, x, hx => (List.mem_append.mp hx).elim (pcs_ok r h.1 x) (pcs_ok s h.2 x)
  | .eit _ r, h, x, hx => pcs_ok r h x hx
  | .rnd _ rs, h, x, hx => rpcs_ok rs h.2 x hx
theorem rpcs_ok : ∀ (rs : List Rd), rdsOk rs → ∀ x ∈ rdsPcs rs, x.2.length ≤ 60 ∧ ∀ c ∈ x.2.cps.toList, c ∈ sgs 3
  | [], _, x, hx => by cases hx
  | r :: rs, h, x, hx => (List.mem_append.mp hx).elim (pcs_ok r h.1 x) (rpcs_ok rs h.2 x)
end
end K44
end
section
set_option maxHeartbeats 4000000
/-! Sets of ints made of a list or a tuple, sorted. -/
namespace K44
open PySem PySem.Spec PyProof.Rows L2
theorem nodup_lenI : ∀ {l m : List Int}, l.Nodup → (∀ x ∈ l, x ∈ m) → l.length ≤ m.length
  | [], m, _, _ => Nat.zero_le _
  | x :: l, m, nd, h => by
    have h1 := List.nodup_cons.mp nd
    have hx : x ∈ m := h x List.mem_cons_self
    have := nodup_lenI (l := l) (m := m.erase x) h1.2 fun y hy => (List.mem_erase_of_ne (fun e : y = x => h1.1 (by rw [← e]; exact hy))).mpr (h y (List.mem_cons_of_mem _ hy))
    rw [List.length_erase_of_mem hx] at this
    have : 0 < m.length := List.length_pos_of_mem hx
    rw [List.length_cons]; omega
theorem setR_le {w : World} {h : Heap} {a : Addr} {S : Int → Bool} {n : Nat} {D : List Int} (R : SetR w h a S n) (hD : ∀ k, S k = true → k ∈ D) : n ≤ D.length := by
  obtain ⟨o, es, ep, t, h1, h2, h3, h4, h5, h6, h7, h8, h9, _⟩ := R
  have := nodup_lenI h5 fun x hx => hD x ((h6 x).mpr hx)
  rw [List.length_map, Array.length_toList] at this
  omega
/-- the loop that fills a set from an iterator of ints, the members told by a list D of few -/
theorem fill_ints {P : Program} {w : World} {A : Around} {I : Addr} {fp wr : List Addr} {G : Array GenState → Array GenState → Prop} {n : Nat} {Pv : Nat → Value → Prop} {St : Nat → Shared → Prop} {R : Result → Shared → Prop}
    (W : WalksS P w A.in1 I fp wr G n Pv St) (S : Addr) (hSf : S ∉ fp) (ns D : List Int) (hn : n = ns.length) (hD : ∀ x ∈ ns, x ∈ D) (hb : D.length + 1 < scanBound) (hval : ∀ i v, Pv i v → ∃ k t, ns[i]? = some k ∧ v = .int k t) (k : Nat) :
    ∀ (i : Nat) (s : Shared), n = i + k → St i s → (∃ c, SetR w s.heap S (fun j => decide (j ∈ ns.take i)) c) →
      (∀ s' c, Moved (S :: wr) G s s' → SetR w s'.heap S (fun j => decide (j ∈ ns)) c → R (.ok (.ret .none)) s') →
      codeAny (model P w) A (.builtin "set.update.loop" ⟨[.ref S, .ref I], []⟩) R s := by
  have hSw : S ∉ wr := fun h => hSf (W.sub _ h)
  have more : ∀ b ∈ wr, b ∈ S :: wr := fun b hb => List.mem_cons_of_mem _ hb
  induction k with
  | zero =>
    intro i s hi hst ⟨c, hS⟩ hR
    obtain rfl : n = i := by omega
    refine codeAny_builtin F.entry_set_update_loop ?_
    rw [Around.under_plainId F.plain_set_update_loop _]
    show wpAny _ A.in1 (pyNext (.ref I) >>= _) _ _ s
    refine wpAny_bind (W.done s _ _ hst fun s' hm => ?_)
    show wpAny _ A.in1 (ret Value.none) _ _ s'
    rw [List.take_of_length_le (by omega)] at hS
    exact wpAny_pure (hR s' c (hm.mono more) (hS.at fun o e => hm.heap S o hSw e))
  | succ k ih =>
    intro i s hi hst ⟨c, hS⟩ hR
    refine codeAny_builtin F.entry_set_update_loop ?_
    rw [Around.under_plainId F.plain_set_update_loop _]
    show wpAny _ A.in1 (pyNext (.ref I) >>= _) _ _ s
    refine wpAny_bind (W.item i s _ _ (by omega) hst fun v s' hP hst' hm => ?_)
    obtain ⟨z, t, hz, rfl⟩ := hval i v hP
    have hS' : SetR w s'.heap S (fun j => decide (j ∈ ns.take i)) c := hS.at fun o e => hm.heap S o hSw e
    have hc : c ≤ D.length := setR_le hS' fun k hk => hD k (List.mem_of_mem_take (of_decide_eq_true hk))
    show wpAny _ A.in1 (holding [Value.int z t] (setAdd S (.int z t)) >>= _) _ _ s'
    refine wpAny_bind (wpAny_holding ?_)
    unfold setAdd
    refine wpAny_holding (wpAny_bind ((intKind P w).pyHash (k := z) (intKind_is _ _ _ _) ?_))
    refine setR_add_hashed (s := { s' with toks := s'.toks + 1 }) hS' (by omega) fun h' hsb hS2 => ?_
    have hS3 := hS2.congr (S' := fun j => decide (j ∈ ns.take (i + 1))) fun j => by
      rw [List.take_add_one, hz]
      simp [List.mem_append]
    refine wpAny_pure ⟨plainId_quiet F.plain_set_update_loop _, ih (i + 1) _ (by omega) (W.frame _ s' _ _ hst' (Nat.le_succ _) fun b hb o e => ?_) ⟨_, hS3⟩ fun s'' c2 hm'' hS'' => ?_⟩
    · rw [hsb.2 b (fun h : b = S => hSf (by rw [← h]; exact hb))]; exact e
    · refine hR s'' c2 (Moved.trans W.gtrans ((hm.mono more).then_heap (Nat.le_succ _) fun b o hb e => ?_) hm'') hS''
      rw [hsb.2 b (fun h : b = S => hb (by rw [h]; exact List.mem_cons_self))]; exact e
/-- the new set's object ahead of its filling -/
abbrev set0 (w : World) : Obj := { cls := .type "set", dict := none, data := .set #[] 0 (.fresh 0 0 (!w.params.followText "set-order")) }
section
variable {P : Program} {w : World} {A : Around} {E : Value → Shared → Prop} {s : Shared}
/-- set(xs) of a list of ints: as the library's rule of tuples, the list's iterator in the tuple's place -/
theorem set_of_list {l : Addr} {its : Array Value} (ns D : List Int) {Q : Value → Shared → Prop} (hh : A.handled = none) (hl : s.heap.IsList l its) (hit : IntsAre its.toList ns) (hD : ∀ x ∈ ns, x ∈ D) (hb : D.length + 1 < scanBound)
    (h : ∀ (h' : Heap) (tk c : Nat), SetR w h' s.heap.objs.size (fun j => decide (j ∈ ns)) c → c ≤ D.length → (∀ b o, s.heap.get? b = some o → h'.get? b = some o) → Q (.ref s.heap.objs.size) { s with heap := h', toks := tk }) :
    wpAny (model P w) A (call (.type "set") [.ref l]) Q E s := by
  have hsz : its.size = ns.length := by
    have q := IntsAre.length hit
    simpa using q
  obtain ⟨c0, tl, hmro⟩ := F.called_set.mro
  have f1 := F.called_set.made
  have f2 := F.called_set.sub
  refine wpAny_call (codeAny_of_tree ?_)
  show wpAny _ _ (callAny (.type "set") _) _ _ _
  refine wpAny_pure ⟨Code.quiet_builtin _ (by decide +kernel), codeAny_builtin F.entry_type_call ?_⟩
  rw [Around.under_plain (weight_type_call_type "set" [.ref l] []) rfl]
  have f3 := F.called_set.notType
  have f4 := F.called_set.canCreate
  have f5 := F.typeCall_set_1 (.ref l)
  repeat (any_goals (first | assumption | wp_step))
  refine codeAny_mono (code_set_led1 (.ref l) (E := E) (Q₁ := fun ob s1 => ob = .ref s.heap.objs.size ∧ s1 = { s with heap := s.heap.push (set0 w) }) ⟨rfl, rfl⟩) fun r s1 hr => ?_
  cases r with
  | error e => exact hr
  | ok fl =>
    cases fl with
    | ret ob =>
      obtain ⟨rfl, rfl⟩ := hr
      have hS : (s.heap.push (set0 w)).get? s.heap.objs.size = some (set0 w) := Heap.get?_push_size _ rfl
      have hT : Shared.TypeIs { s with heap := s.heap.push (set0 w) } (.ref s.heap.objs.size) "set" := ⟨_, hS, rfl⟩
      have f6 := F.called_set.init.lookup
      have f7 := F.called_set.init.bind (.ref s.heap.objs.size)
      repeat (any_goals (first | assumption | wp_step))
      refine codeAny_mono (codeAny_call_builtin (R := wants (fun r s2 => r = .none ∧ ∃ h' tk c, s2 = { s with heap := h', toks := tk } ∧ SetR w h' s.heap.objs.size (fun j => decide (j ∈ ns)) c ∧ c ≤ D.length ∧
          (∀ b o, s.heap.get? b = some o → h'.get? b = some o)) E) F.called_set.init.plain F.entry_set_init (check_set_init_1 hT ?_)) fun r2 s2 hr2 => ?_
      · obtain ⟨⟨oc, od, odt, osl⟩, ho, hc, n, hd⟩ := hl
        simp only at hc hd
        subst hc; subst hd
        have ho2 : (s.heap.push (set0 w)).get? l = some { cls := .type "list", dict := od, data := .seq its n, slots := osl } := Heap.get?_push_of_some _ ho
        have f8 := F.sub_list_set
        have f9 := F.sub_list_frozenset
        have f10 : (Value.type "list" == Value.type "dict") = false := by decide
        have hl1 : (s.heap.push (set0 w)).IsList l its := ⟨_, ho2, rfl, n, rfl⟩
        unfold Builtin.«set.__init__» noKeywords Builtin.Frozenset.updateFrom
        generalize hPI : pyIter = PI
        wp_walk
        subst hPI
        refine wpAny_pyIter_list hl1 ?_
        refine wpAny_bind (wpAny_runValue ?_)
        have hlS : l < s.heap.objs.size := Heap.lt_size ho
        have h3 : A.in1.in1.in1.handled = none := by simp [hh]
        have hI : l ≠ (s.heap.push (set0 w)).objs.size := by
          rw [Heap.size_push]; exact Nat.ne_of_lt (Nat.lt_succ_of_lt hlS)
        have hSf : s.heap.objs.size ∉ [(s.heap.push (set0 w)).objs.size, l] := by
          rw [Heap.size_push]
          intro z
          rcases List.mem_cons.mp z with z | z
          · exact Nat.ne_of_lt (Nat.lt_succ_self _) z
          · exact Nat.ne_of_gt hlS (List.mem_singleton.mp z)
        have hval : ∀ (i : Nat) (v : Value), its[i]? = some v → ∃ k t, ns[i]? = some k ∧ v = .int k t := fun i v hv => by
          have hi : i < ns.length := by rw [← hsz]; exact (Array.getElem?_eq_some_iff.mp hv).1
          obtain ⟨t, e⟩ := IntsAre.int_at hit i v (by rw [Array.getElem?_toList]; exact hv)
          refine ⟨ns[i], t, List.getElem?_eq_getElem hi, ?_⟩
          rw [e, List.getD_eq_getElem?_getD, List.getElem?_eq_getElem hi]; rfl
        refine fill_ints ((Walks.list h3 _ l hI its).toS) s.heap.objs.size hSf ns D hsz hD hb hval its.size 0 _ (by omega) ⟨⟨_, Heap.get?_push_size _ rfl, rfl, rfl⟩, (hl1.push _)⟩ ?_ ?_
        · exact ⟨0, setR_new_at (Heap.get?_push_of_some _ hS)⟩
        · intro s' c' hm hS'
          have hc' : c' ≤ D.length := setR_le hS' fun k hk => hD k (of_decide_eq_true hk)
          obtain ⟨h', g2, d', tk', os'⟩ := s'
          have eg : g2 = s.gens := hm.gens
          have ed : d' = s.drawn := hm.drawn
          have eo : os' = s.os := hm.os
          subst eg; subst ed; subst eo
          show wpAny _ _ _ _ _ _
          refine wpAny_pure ?_
          show wpAny _ _ (ret Value.none) _ _ _
          refine wpAny_pure ⟨rfl, h', tk', c', rfl, hS', hc', fun b o e => ?_⟩
          have hb0 : b < s.heap.objs.size := Heap.lt_size e
          refine hm.heap b o (fun z => ?_) (Heap.get?_push_of_some _ (Heap.get?_push_of_some _ e))
          rcases List.mem_cons.mp z with z | z
          · exact Nat.ne_of_lt hb0 z
          · have z2 := List.mem_singleton.mp z
            rw [Heap.size_push] at z2
            exact Nat.ne_of_lt (Nat.lt_succ_of_lt hb0) z2
      · cases r2 with
        | error e => exact hr2
        | ok fl2 =>
          cases fl2 with
          | ret r =>
            obtain ⟨rfl, h', tk, c', rfl, hS', hc', hk'⟩ := hr2
            repeat (any_goals (first | assumption | wp_step))
            exact h _ _ _ hS' hc' hk'
          | _ => exact hr2.elim
    | _ => exact hr.elim
end
section
variable {X : Cx}
/-- set(xs), a list or a tuple of ints -/
def rSetI (K : PySem.W.Frag) (w : World) : List V → Hp → VK → Prop := fun xs H Q => ∃ (l : Addr) (ns D : List Int), xs = [.ref l] ∧ (∀ x ∈ ns, x ∈ D) ∧ ((SqL K H l (ns.map V.int) ∧ D.length < 4000) ∨ (SqT K H l (ns.map V.int) ∧ ns.length < 4000)) ∧
  ∀ p c, H p = none → c ≤ D.length → Q (.ref p) (upd H p (SetO w p (fun j => decide (j ∈ ns)) c))
theorem call_setI (hc : X.calm = true) : CallR X (.type "set") (rSetI X.K X.w) := by
  intro pins s σ H xs us Q I r h
  obtain ⟨l, ns, D, rfl, hD, hq, q⟩ := h
  obtain ⟨u, rfl, ru⟩ := vals1 r
  cases ru
  have fin : ∀ (h' : Heap) (tk c : Nat), SetR X.w h' s.heap.objs.size (fun j => decide (j ∈ ns)) c → (∀ b o, s.heap.get? b = some o → h'.get? b = some o) → EP X pins σ Q (.ref s.heap.objs.size) { s with heap := h', toks := tk } := fun h' tk c hS hk =>
    ⟨.ref _, _, I.laid (t' := tk) hk (Nat.le_refl _) (setO_new hS), rfl, q _ c (I.hok.fresh (Nat.le_refl _)) (setR_le hS fun k hk => hD k (of_decide_eq_true hk))⟩
  rcases hq with ⟨hq, hDl⟩ | ⟨hq, hn⟩
  · obtain ⟨its, rv, pl, hz⟩ := I.list hq
    exact set_of_list ns D (I.ok.hd hc) pl.isList (by simpa using intsAre_of rv) hD (by unfold scanBound; omega) fun h' tk c hS _ hk => fin h' tk c hS hk
  · obtain ⟨its, rv, ht, hz⟩ := I.tuple hq
    obtain ⟨o, h1, h2, n, h3⟩ := ht
    exact call_set_tupI ns (I.ok.hd hc) ⟨o, h1, h2, n, h3⟩ (by simpa using intsAre_of rv) (by unfold scanBound; omega) fun h' tk c hS _ hk => fin h' tk c hS hk
end
end K44
end
section
set_option maxHeartbeats 4000000
namespace K44
open PySem PySem.Spec PyProof.Rows L2
theorem pat_len {K : PySem.W.Frag} {H : Hp} {v : V} {p : Pat} (h : Dp K H v p.d) : ∃ a xs, v = .ref a ∧ SqT K H a xs ∧ atI xs 0 = some (.str p.kind) ∧ (xs.length = 2 ∨ xs.length = 3) := by
  cases p with
  | word z => obtain ⟨a, xs, rfl, hT, hx⟩ := dp_tup h; obtain ⟨v0, v1, rfl, h0, h1⟩ := dps2 hx; obtain rfl := dp_str h0; exact ⟨a, _, rfl, hT, rfl, .inl rfl⟩
  | name n => obtain ⟨a, xs, rfl, hT, hx⟩ := dp_tup h; obtain ⟨v0, v1, rfl, h0, h1⟩ := dps2 hx; obtain rfl := dp_str h0; exact ⟨a, _, rfl, hT, rfl, .inl rfl⟩
  | beh p q => obtain ⟨a, xs, rfl, hT, hx⟩ := dp_tup h; obtain ⟨v0, v1, v2, rfl, h0, h1, h2⟩ := dps3 hx; obtain rfl := dp_str h0; exact ⟨a, _, rfl, hT, rfl, .inr rfl⟩
  | eit p q => obtain ⟨a, xs, rfl, hT, hx⟩ := dp_tup h; obtain ⟨v0, v1, v2, rfl, h0, h1, h2⟩ := dps3 hx; obtain rfl := dp_str h0; exact ⟨a, _, rfl, hT, rfl, .inr rfl⟩
  | rnd p => obtain ⟨a, xs, rfl, hT, hx⟩ := dp_tup h; obtain ⟨v0, v1, rfl, h0, h1⟩ := dps2 hx; obtain rfl := dp_str h0; exact ⟨a, _, rfl, hT, rfl, .inl rfl⟩
theorem in23 {xs : List V} (h : xs.length = 2 ∨ xs.length = 3) : inV (.int (xs.length : Int)) [.int 2, .int 3] = true := by
  rcases h with h | h <;> rw [h] <;> rfl
section
variable {P : Program} {w : World} {K : PySem.W.Frag} {mg : Str → Option Value} {base : Heap}
def sp_many_parts (K : PySem.W.Frag) (n : Nat) : Sp := fun vs H Q _ => ∃ (L : Nat) (v : V) (p : Pat), vs = [.int L, v, .int n] ∧ L ≤ 3 ∧ Dp K H v p.d ∧ p.good L ∧ p.dep ≤ n ∧ Ret H Q (.int p.parts)
theorem c_many_parts (T : Txt K mg) : ∀ n : Nat, n ≤ 9 → Cal P w K mg base (n + 4) "many_parts" ["letters", "value", "deep"] (sp_many_parts K n)
  | 0, _ => Cal.none_ T.g_many_parts T.b_many_parts fun vs H Q E ⟨L, v, p, _, _, _, _, h, _⟩ => by have := pdep_pos p; omega
  | n + 1, h9 => by
    have S : FnScope ["letters", "value", "deep", "wrong", "is_right", "part"] ["letters", "value", "deep"] (defScope s_many_parts) := fsc (by decide +kernel)
    refine Cal.of T.g_many_parts T.b_many_parts S (fun vs H Q E h => ?_) fun cdv A outer s H vs Q E hr h => ?_
    · obtain ⟨L, v, p, rfl, _⟩ := h; rfl
    obtain ⟨L, v, p, rfl, hL, hp, hg, hn, q⟩ := h
    have C := c_many_parts T n (by omega)
    refine ⟨_, pss_cons (ps_set (i := 3) S.nd rfl (.inl rfl) (pe_op op_add (pgl T.iMOST_PARTS) pe_int)) (pss_cons (ps_if (PW.pt (pw_or (pt_cmpR op_eq (pv 2) pe_int (nomark _)) (pw_or (pt_not (pt_val (pe_is T.zisinstance T.ztuple (by decide +kernel) kit_tuple (pv 1)))) (pw_or (pt_cmpR op_notIn_seq (pe_callB call_len_seq rfl T.zlen boot_len (pa_cons (pv 1) pa_nil)) (pe_tup (pa_cons pe_int (pa_cons pe_int pa_nil))) rfl) (pw_or1 (pt_not (pt_val (pe_is T.zisinstance T.zstr (by decide +kernel) kit_str (pe_ix ix_tup (pv 1) pe_int (fun _ _ => rfl)))))))))) (pss_one (ps_ret (pv 3))) pss_nil)
      (pss_cons (ps_if (PW.pt (pw_and (pt_cmpR op_in_seq (pe_ix ix_tup (pv 1) pe_int (fun _ _ => rfl)) (pe_tup (pa_cons (pgl T.tWORD) (pa_cons (pgl T.tNAME) pa_nil))) rfl) (pw_and1 (pt_cmpR op_eq (pe_callB call_len_seq rfl T.zlen boot_len (pa_cons (pv 1) pa_nil)) pe_int (nomark _)))))
        (pss_cons (ps_set (i := 4) S.nd rfl (.inl rfl) (pe_ifExp (pt_cmpR op_eq (pe_ix ix_tup (pv 1) pe_int (fun _ _ => rfl)) (pgl T.tWORD) (nomark _)) (pc (c_is_word_of T) hr (pa_cons (pv 0) (pa_cons (pe_ix ix_tup (pv 1) pe_int (fun _ _ => rfl)) pa_nil)) (by omega)) (pc (c_is_name_number T) hr (pa_cons (pe_ix ix_tup (pv 1) pe_int (fun _ _ => rfl)) pa_nil) (by omega)))) (pss_one (ps_ret (pe_ifExp (pt_val (pv 4)) pe_int (pv 3))))) pss_nil)
      (pss_cons (ps_if (PW.pt (pw_or (pt_cmpR op_notIn_seq (pe_ix ix_tup (pv 1) pe_int (fun _ _ => rfl)) (pe_tup (pa_cons (pgl T.tBEHIND) (pa_cons (pgl T.tEITHER) (pa_cons (pgl T.tROUND) pa_nil)))) rfl) (pw_or1 (pt_cmpR op_ne (pe_callB call_len_seq rfl T.zlen boot_len (pa_cons (pv 1) pa_nil)) (pe_ifExp (pt_cmpR op_eq (pe_ix ix_tup (pv 1) pe_int (fun _ _ => rfl)) (pgl T.tROUND) (nomark _)) pe_int pe_int) (nomark _))))) (pss_one (ps_ret (pv 3))) pss_nil)
      (pss_one (ps_ret (pe_op op_add pe_int (pe_callB (cr_sum rfl) rfl T.zsum (by decide +kernel) (pa_cons (pe_lc (own := [("part", 5)]) (g := gName 5) (tt := tYes) rfl S.nd (pi_tup (pe_slice sl_tup (pv 1) (po_some pe_int) po_none)) (blkOk_by (N := ["letters", "value", "deep", "wrong", "is_right", "part"]) (sc := defScope s_many_parts) (by decide +kernel)) (fun _ _ _ _ _ => pg_name (i := 5) S.nd rfl (Or.inl rfl)) (fun _ _ _ _ _ => pts_nil)
        (fun _ _ _ _ _ => pc C hr (pa_cons (pv 0) (pa_cons (pv 5) (pa_cons (pe_op op_sub (pv 2) pe_int) pa_nil))) (by omega))) pa_nil)))))))), ?_⟩
    obtain ⟨a, xs, rfl, hT, hk, hl⟩ := pat_len hp
    refine ⟨_, _, rfl, rfl, _, rfl, rfl, _, rfl, ifF (by rw [dnV]; exact decide_eq_false (by omega)) ⟨_, rfl, _, .tup, rfl, ty_tup hT, _, rfl, iteF ⟨_, rfl, a, xs, rfl, .inr hT, le2, fun t ht => ?_⟩⟩⟩
    have e1 := same_new ht (.tup [.int 2, .int 3])
    have hT1 := Same.tup e1 hT
    refine ⟨t, _, rfl, .inr (st upd_same), rfl, rfl, _, rfl, ifF (by show (!inV _ _) = false; rw [in23 hl]; rfl) ⟨_, rfl, a, _, _, _, rfl, rfl, hT1, hk, _, .str, rfl, .base (.str _), _, rfl, iteF ⟨_, rfl, a, _, _, _, rfl, rfl, hT1, hk, le2, fun t2 ht2 => ?_⟩⟩⟩
    have e2 := same_new ht2 (.tup [.str "word", .str "name"])
    have hT2 := Same.tup e2 hT1
    have e12 := e1.trans e2
    refine ⟨t2, _, rfl, .inr (st upd_same), rfl, rfl, _, rfl, ?_⟩
    cases p with
    | word z =>
      obtain ⟨a', xs', e, hT', hx⟩ := dp_tup hp
      cases e
      obtain ⟨v0, v1, rfl, h0, h1⟩ := dps2 hx
      obtain rfl := dp_str h0
      obtain rfl := dp_str h1
      have hT3 := Same.tup e12 hT'
      refine ifT (by simp only [Pat.kind]; decide +kernel) ⟨_, rfl, a, _, rfl, .inr hT3, rfl, _, rfl, ifT (decide_eq_true rfl) ⟨_, rfl, a, _, _, _, rfl, rfl, hT3, rfl, rfl, _, rfl, strT rfl ⟨_, rfl, _, rfl, a, _, _, _, rfl, rfl, hT3, rfl, L, .str z, .str, rfl, hL, .base (.str z), fun s e => by cases e; have := hg.1; omega, fun H3 e3 => ⟨_, rfl, _, rfl, ?_⟩⟩⟩⟩
      refine ifT (wOK_str (by have := hg.1; omega) hg.2) (q.go (e12.trans e3))
    | name k =>
      obtain ⟨a', xs', e, hT', hx⟩ := dp_tup hp
      cases e
      obtain ⟨v0, v1, rfl, h0, h1⟩ := dps2 hx
      obtain rfl := dp_str h0
      obtain rfl := dp_int h1
      have hT3 := Same.tup e12 hT'
      refine ifT (by simp only [Pat.kind]; decide +kernel) ⟨_, rfl, a, _, rfl, .inr hT3, rfl, _, rfl, ifT (decide_eq_true rfl) ⟨_, rfl, a, _, _, _, rfl, rfl, hT3, rfl, rfl, _, rfl, strF (by decide) ⟨_, rfl, a, _, _, _, rfl, rfl, hT3, rfl, .int k, .int, rfl, .base (.int _), fun H3 e3 => ⟨_, rfl, _, rfl, ?_⟩⟩⟩⟩
      have hk2 : k < 2 := hg
      exact ifT (by show (decide ((0 : Int) ≤ k) && decide ((k : Int) ≤ 2)) = true; rw [decide_eq_true (by omega), decide_eq_true (by omega)]; rfl) (q.go (e12.trans e3))
    | beh p1 p2 =>
      obtain ⟨a', xs', e, hT', hx⟩ := dp_tup hp
      cases e
      obtain ⟨v0, v1, v2, rfl, h0, h1, h2⟩ := dps3 hx
      obtain rfl := dp_str h0
      have hn' : max p1.dep p2.dep + 1 ≤ n + 1 := hn
      have hT3 := Same.tup e12 hT'
      refine ifF (by simp only [Pat.kind]; decide +kernel) (iteF ⟨_, rfl, a, _, _, _, rfl, rfl, hT3, rfl, le3, fun t3 ht3 => ?_⟩)
      have e3 := same_new ht3 (.tup [.str "behind", .str "either", .str "round"])
      have hT4 := Same.tup e3 hT3
      refine ⟨t3, _, rfl, .inr (st upd_same), rfl, rfl, _, rfl, ifF (by decide +kernel) ⟨_, rfl, a, _, rfl, .inr hT4, _, rfl, a, _, _, _, rfl, rfl, hT4, rfl, rfl, _, rfl, strF (by decide) ⟨rfl, _, rfl, ifF (by show (!decide (V.int ((3 : Nat) : Int) = V.int 3)) = false; rw [dnV]; rfl) ⟨_, rfl, _, rfl, a, _, rfl, hT4, (by show ¬ (HT.sIx 3 0 (some 1) = 0 ∧ HT.sIx 3 3 none = 3); decide), fun t4 ht4 => ?_⟩⟩⟩⟩
      have hc : cutV [V.str "behind", v1, v2] (some 1) none = [v1, v2] := rfl
      rw [hc]
      have e4 := same_new ht4 (.tup [v1, v2])
      have e5 := (e12.trans e3).trans e4
      refine ⟨t4, rfl, ⟨_, st upd_same⟩, fun D hD => lcmD [p1, p2] [v1, v2] Pat.d (fun p => V.int p.parts) walk_tup (.cons (dpOn h1 e5) (.cons (dpOn h2 e5) .nil)) (by simp) hD (fun H' e' => Same.tup e' (st upd_same)) (fun _ => rfl) (fun p x H5 hm hx5 _ Q5 q5 => ?_) fun H5 e6 hD5 => ⟨D, [(p1.parts : Int), p2.parts], rfl, sl hD5, _, _, rfl, rfl, ?_⟩⟩
      · refine ⟨_, rfl, _, rfl, _, rfl, _, _, rfl, rfl, L, x, p, by dsimp only; rw [show ((n + 1 : Nat) : Int) - 1 = n by omega], hL, hx5, ?_, ?_, q5⟩
        · rcases List.mem_cons.mp hm with rfl | hm
          · exact hg.1
          · rw [List.mem_singleton.mp hm]; exact hg.2
        · rcases List.mem_cons.mp hm with rfl | hm
          · omega
          · rw [List.mem_singleton.mp hm]; omega
      · have e7 : (1 : Int) + [(p1.parts : Int), p2.parts].sum = ((Pat.beh p1 p2).parts : Nat) := by
          show _ = ((p1.parts + p2.parts + 1 : Nat) : Int)
          simp; omega
        dsimp only; rw [e7]
        exact q.go (e5.trans e6)
    | eit p1 p2 =>
      obtain ⟨a', xs', e, hT', hx⟩ := dp_tup hp
      cases e
      obtain ⟨v0, v1, v2, rfl, h0, h1, h2⟩ := dps3 hx
      obtain rfl := dp_str h0
      have hn' : max p1.dep p2.dep + 1 ≤ n + 1 := hn
      have hT3 := Same.tup e12 hT'
      refine ifF (by simp only [Pat.kind]; decide +kernel) (iteF ⟨_, rfl, a, _, _, _, rfl, rfl, hT3, rfl, le3, fun t3 ht3 => ?_⟩)
      have e3 := same_new ht3 (.tup [.str "behind", .str "either", .str "round"])
      have hT4 := Same.tup e3 hT3
      refine ⟨t3, _, rfl, .inr (st upd_same), rfl, rfl, _, rfl, ifF (by decide +kernel) ⟨_, rfl, a, _, rfl, .inr hT4, _, rfl, a, _, _, _, rfl, rfl, hT4, rfl, rfl, _, rfl, strF (by decide) ⟨rfl, _, rfl, ifF (by show (!decide (V.int ((3 : Nat) : Int) = V.int 3)) = false; rw [dnV]; rfl) ⟨_, rfl, _, rfl, a, _, rfl, hT4, (by show ¬ (HT.sIx 3 0 (some 1) = 0 ∧ HT.sIx 3 3 none = 3); decide), fun t4 ht4 => ?_⟩⟩⟩⟩
      have hc : cutV [V.str "either", v1, v2] (some 1) none = [v1, v2] := rfl
      rw [hc]
      have e4 := same_new ht4 (.tup [v1, v2])
      have e5 := (e12.trans e3).trans e4
      refine ⟨t4, rfl, ⟨_, st upd_same⟩, fun D hD => lcmD [p1, p2] [v1, v2] Pat.d (fun p => V.int p.parts) walk_tup (.cons (dpOn h1 e5) (.cons (dpOn h2 e5) .nil)) (by simp) hD (fun H' e' => Same.tup e' (st upd_same)) (fun _ => rfl) (fun p x H5 hm hx5 _ Q5 q5 => ?_) fun H5 e6 hD5 => ⟨D, [(p1.parts : Int), p2.parts], rfl, sl hD5, _, _, rfl, rfl, ?_⟩⟩
      · refine ⟨_, rfl, _, rfl, _, rfl, _, _, rfl, rfl, L, x, p, by dsimp only; rw [show ((n + 1 : Nat) : Int) - 1 = n by omega], hL, hx5, ?_, ?_, q5⟩
        · rcases List.mem_cons.mp hm with rfl | hm
          · exact hg.1
          · rw [List.mem_singleton.mp hm]; exact hg.2
        · rcases List.mem_cons.mp hm with rfl | hm
          · omega
          · rw [List.mem_singleton.mp hm]; omega
      · have e7 : (1 : Int) + [(p1.parts : Int), p2.parts].sum = ((Pat.eit p1 p2).parts : Nat) := by
          show _ = ((p1.parts + p2.parts + 1 : Nat) : Int)
          simp; omega
        dsimp only; rw [e7]
        exact q.go (e5.trans e6)
    | rnd p1 =>
      obtain ⟨a', xs', e, hT', hx⟩ := dp_tup hp
      cases e
      obtain ⟨v0, v1, rfl, h0, h1⟩ := dps2 hx
      obtain rfl := dp_str h0
      have hn' : p1.dep + 1 ≤ n + 1 := hn
      have hT3 := Same.tup e12 hT'
      refine ifF (by simp only [Pat.kind]; decide +kernel) (iteF ⟨_, rfl, a, _, _, _, rfl, rfl, hT3, rfl, le3, fun t3 ht3 => ?_⟩)
      have e3 := same_new ht3 (.tup [.str "behind", .str "either", .str "round"])
      have hT4 := Same.tup e3 hT3
      refine ⟨t3, _, rfl, .inr (st upd_same), rfl, rfl, _, rfl, ifF (by decide +kernel) ⟨_, rfl, a, _, rfl, .inr hT4, _, rfl, a, _, _, _, rfl, rfl, hT4, rfl, rfl, _, rfl, strT rfl ⟨rfl, _, rfl, ifF (by show (!decide (V.int ((2 : Nat) : Int) = V.int 2)) = false; rw [dnV]; rfl) ⟨_, rfl, _, rfl, a, _, rfl, hT4, (by show ¬ (HT.sIx 2 0 (some 1) = 0 ∧ HT.sIx 2 2 none = 2); decide), fun t4 ht4 => ?_⟩⟩⟩⟩
      have hc : cutV [V.str "round", v1] (some 1) none = [v1] := rfl
      rw [hc]
      have e4 := same_new ht4 (.tup [v1])
      have e5 := (e12.trans e3).trans e4
      refine ⟨t4, rfl, ⟨_, st upd_same⟩, fun D hD => lcmD [p1] [v1] Pat.d (fun p => V.int p.parts) walk_tup (.cons (dpOn h1 e5) .nil) (by simp) hD (fun H' e' => Same.tup e' (st upd_same)) (fun _ => rfl) (fun p x H5 hm hx5 _ Q5 q5 => ?_) fun H5 e6 hD5 => ⟨D, [(p1.parts : Int)], rfl, sl hD5, _, _, rfl, rfl, ?_⟩⟩
      · rw [List.mem_singleton.mp hm] at hx5 q5
        exact ⟨_, rfl, _, rfl, _, rfl, _, _, rfl, rfl, L, x, p1, by dsimp only; rw [show ((n + 1 : Nat) : Int) - 1 = n by omega], hL, hx5, hg, by omega, q5⟩
      · have e7 : (1 : Int) + [(p1.parts : Int)].sum = ((Pat.rnd p1).parts : Nat) := by
          show _ = ((p1.parts + 1 : Nat) : Int)
          simp; omega
        dsimp only; rw [e7]
        exact q.go (e5.trans e6)
end
end K44
end
section
set_option maxHeartbeats 4000000
namespace K44
open PySem PySem.Spec PyProof.Rows L2
section
variable {P : Program} {w : World} {K : PySem.W.Frag} {mg : Str → Option Value} {base : Heap}
def sp_is_pattern_of (K : PySem.W.Frag) : Sp := fun vs H Q _ => ∃ (L : Nat) (v : V) (p : Pat), vs = [.int L, v] ∧ L ≤ 3 ∧ Dp K H v p.d ∧ p.good L ∧ p.dep ≤ 9 ∧ p.parts ≤ 30 ∧ Ret H Q (.bl true)
theorem c_is_pattern_of (T : Txt K mg) : Cal P w K mg base 14 "is_pattern_of" ["letters", "value"] (sp_is_pattern_of K) := by
  refine Cal.of (N := ["letters", "value"]) T.g_is_pattern_of T.b_is_pattern_of (fsc (by decide +kernel)) (fun vs H Q E h => ?_) fun cdv A outer s H vs Q E hr h => ?_
  · obtain ⟨L, v, p, rfl, _⟩ := h; rfl
  obtain ⟨L, v, p, rfl, hL, hp, hg, hn, h30, q⟩ := h
  refine ⟨_, pss_one (ps_ret (pe_cmpR op_le (pc (c_many_parts T 9 (Nat.le_refl _)) hr (pa_cons (pv 0) (pa_cons (pv 1) (pa_cons (pgl T.iMOST_DEEP) pa_nil)))) (pgl T.iMOST_PARTS) (nomark _))), ?_⟩
  refine ⟨_, rfl, _, rfl, L, v, p, rfl, hL, hp, hg, hn, fun H1 e1 => ⟨_, _, rfl, rfl, ?_⟩⟩
  dsimp only
  rw [decide_eq_true (by omega : (p.parts : Int) ≤ 30)]
  exact q.go e1
def sp_want_pattern (K : PySem.W.Frag) : Sp := fun vs H Q _ => ∃ (L : Nat) (v : V) (p : Pat), vs = [.int L, v] ∧ L ≤ 3 ∧ Dp K H v p.d ∧ p.good L ∧ p.dep ≤ 9 ∧ p.parts ≤ 30 ∧ Ret H Q .non
theorem c_want_pattern (T : Txt K mg) : Cal P w K mg base 15 "want_pattern" ["letters", "value"] (sp_want_pattern K) := by
  refine Cal.of (N := ["letters", "value"]) T.g_want_pattern T.b_want_pattern (fsc (by decide +kernel)) (fun vs H Q E h => ?_) fun cdv A outer s H vs Q E hr h => ?_
  · obtain ⟨L, v, p, rfl, _⟩ := h; rfl
  obtain ⟨L, v, p, rfl, hL, hp, hg, hn, h30, q⟩ := h
  refine ⟨_, pss_one (ps_if (pt_not (pt_val (pc (c_is_pattern_of T) hr (pa_cons (pv 0) (pa_cons (pv 1) pa_nil))))) pss_never pss_nil), ?_⟩
  exact ⟨_, rfl, _, rfl, L, v, p, rfl, hL, hp, hg, hn, h30, fun H1 e1 => ⟨_, rfl, iteF (q.go e1)⟩⟩
/-! ### names_in, want_reached -/
/-- a new list of names below 2, two at most -/
def RetN (H : Hp) (Q : VK) : Prop := ∀ p H' (ns : List Int), Same H H' → H' p = some (.lst (ns.map V.int)) → (∀ n ∈ ns, 0 ≤ n ∧ n < 2) → ns.length ≤ 2 → Q (.ref p) H'
theorem RetN.on {H H' : Hp} {Q : VK} (q : RetN H Q) (e : Same H H') : RetN H' Q := fun p H'' ns e' => q p H'' ns (e.trans e')
theorem asc_le : ∀ {ns : List Int}, ns.Pairwise (· < ·) → (∀ n ∈ ns, 0 ≤ n ∧ n < 2) → ns.length ≤ 2
  | [], _, _ => Nat.zero_le _
  | [_], _, _ => by simp
  | [_, _], _, _ => by simp
  | a :: b :: c :: r, h, hb => by
    have h1 := List.pairwise_cons.mp h
    have h2 := List.pairwise_cons.mp h1.2
    have := h1.1 b (by simp)
    have := h2.1 c (by simp)
    have := hb a (by simp)
    have := hb c (by simp)
    omega
def sp_names_in (K : PySem.W.Frag) (n : Nat) : Sp := fun vs H Q _ => ∃ (v : V) (p : Pat) (L : Nat), vs = [v] ∧ Dp K H v p.d ∧ p.good L ∧ p.dep ≤ n ∧ RetN H Q
theorem names_loop {n L : Nat} {v : V} {l : Addr} {B H1 : Hp} {D : Ends} {us : List V} {ps : List Pat} {J : It} {G : Hp → Prop} {o : Option V} (w : Walk J us.length G (YAt us)) (hl : B l = none) (e : Same B H1) (h1 : H1 l = some (.lst [])) (hG : ∀ H', Same B H' → G H') (hu : DpAll K B us (ps.map Pat.d))
    (ho : ∀ p ∈ ps, p.good L ∧ p.dep ≤ n) (h10 : ps.length ≤ 10) (q : ∀ H' o (zs : List Int), Same B H' → H' l = some (.lst (zs.map V.int)) → (∀ n ∈ zs, 0 ≤ n ∧ n < 2) → zs.length ≤ 20 → D.nx [some v, some (.ref l), o] H') :
    ∃ W : Nat → Nat → L2.St → Hp → Prop, (∃ m, W 0 m [some v, some (.ref l), o] H1) ∧ ∀ i m σ H, W i m σ H →
      (J.stop i H ∧ D.nx σ H) ∨ (J.go i H ∧ ∃ N : L2.St → Hp → Prop, (∀ σ' H', N σ' H' → ∃ m', m' < m ∧ W (i + 1) m' σ' H') ∧ ∀ x H', J.yld i H x H' → gName 2 x σ H' fun σ2 H2 => tDrop (tBM K "list" rExtend (tVar 1) (tCons (tPc (sp_names_in K n) (tCons (tVar 2) tNil)) tNil)) { D with nx := N, ct := N, bk := D.nx } σ2 H2) := by
  have hlen := dpsLen hu
  rw [List.length_map] at hlen
  refine for_it w (fun i σ' H' => Same B H' ∧ ∃ o, ∃ zs : List Int, σ' = [some v, some (.ref l), o] ∧ H' l = some (.lst (zs.map V.int)) ∧ (∀ n ∈ zs, 0 ≤ n ∧ n < 2) ∧ zs.length ≤ 2 * i) ⟨e, o, [], rfl, h1, by simp, by simp⟩ (fun i σ' H' _ h => hG H' h.1) ?_ ?_
  · rintro i x σ' H' H'' hi ⟨e2, o2, zs, rfl, hz, hzd, hzl⟩ ⟨rfl, hx⟩
    obtain ⟨d, g1, g2⟩ := dpsGetV hu hx
    rw [List.getElem?_map] at g1
    obtain ⟨r, g3, rfl⟩ := Option.map_eq_some_iff.mp g1
    have hm := ho r (List.mem_of_getElem? g3)
    refine ⟨_, rfl, .inl ⟨rfl, _, sl hz⟩, _, rfl, x, r, L, rfl, dpOn g2 e2, hm.1, hm.2, fun p H3 ns e3 hp3 hb hl3 => ?_⟩
    have hz3 := e3 _ _ hz
    refine ⟨l, p, _, _, rfl, rfl, hz3, hp3, szl (by rw [List.length_map, List.length_map]; omega), Same.mut (e2.trans e3) hl, some x, zs ++ ns, rfl, by rw [upd_same, List.map_append], ?_, by rw [List.length_append]; omega⟩
    intro n hn
    exact (List.mem_append.mp hn).elim (hzd n) (hb n)
  · rintro σ' H' ⟨e2, o2, zs, rfl, hz, hzd, hzl⟩
    exact q H' o2 zs e2 hz hzd (by omega)
theorem c_names_in (T : Txt K mg) : ∀ n : Nat, n ≤ 9 → Cal P w K mg base n "names_in" ["pattern"] (sp_names_in K n)
  | 0, _ => Cal.none_ T.g_names_in T.b_names_in fun vs H Q E ⟨v, p, L, _, _, _, h, _⟩ => by have := pdep_pos p; omega
  | n + 1, h9 => by
    have S : FnScope ["pattern", "found", "part"] ["pattern"] (defScope s_names_in) := fsc (by decide +kernel)
    refine Cal.of T.g_names_in T.b_names_in S (fun vs H Q E h => ?_) fun cdv A outer s H vs Q E hr h => ?_
    · obtain ⟨v, p, L, rfl, _⟩ := h; rfl
    obtain ⟨v, p, L, rfl, hp, hg, hn, q⟩ := h
    have C := c_names_in T n (by omega)
    refine ⟨_, pss_cons (ps_if (pt_cmpR op_eq (pe_ix ix_tup (pv 0) pe_int (fun _ _ => rfl)) (pgl T.tNAME) (nomark _)) (pss_one (ps_ret (pe_lst (pa_cons (pe_ix ix_tup (pv 0) pe_int (fun _ _ => rfl)) pa_nil)))) pss_nil)
      (pss_cons (ps_set (i := 1) S.nd rfl (.inl rfl) (pe_lst pa_nil))
      (pss_cons (ps_if (pt_cmpR op_ne (pe_ix ix_tup (pv 0) pe_int (fun _ _ => rfl)) (pgl T.tWORD) (nomark _))
          (pss_one (ps_for PassesOwn.never rfl (pi_tup (pe_slice sl_tup (pv 0) (po_some pe_int) po_none)) (pg_name (i := 2) S.nd rfl (.inl rfl)) (pss_one (ps_expr (pe_bm PySem.F.plainAttrs_list PySem.F.slot_list_extend PySem.F.type_list_extend mt_extend (pv 1) (pa_cons (pc C hr (pa_cons (pv 2) pa_nil) (Nat.le_refl _)) pa_nil))))))
          pss_nil)
      (pss_one (ps_ret (pe_callB (cr_sortedSet rfl) rfl T.zsorted (by decide +kernel) (pa_cons (pe_callTy (call_setI rfl) rfl T.zset (by decide +kernel) (pa_cons (pv 1) pa_nil)) pa_nil)))))), ?_⟩
    have fin : ∀ (l : Addr) (o : Option V) (H' : Hp) (zs : List Int), Same H H' → H' l = some (.lst (zs.map V.int)) → (∀ n ∈ zs, 0 ≤ n ∧ n < 2) → zs.length ≤ 20 →
        tRet (tCB (rSortedSet w) (tCons (tCB (rSetI K w) (tCons (tVar 1) tNil)) tNil)) { nx := fun _ H' => Q .non H', rt := Q } [some v, some (.ref l), o] H' := by
      intro l o H' zs e hz hb hlz
      refine ⟨_, rfl, l, zs, zs, rfl, fun _ h => h, .inl ⟨sl hz, by omega⟩, fun p c hp hc => ⟨p, _, c, rfl, upd_same, by omega, fun ns t hpw hmem hlen ht => ?_⟩⟩
      have hb2 : ∀ n ∈ ns, 0 ≤ n ∧ n < 2 := fun n hn => hb n (of_decide_eq_true ((hmem n).mp hn))
      exact q t _ ns ((e.trans (same_new hp _)).trans (same_new ht _)) upd_same hb2 (asc_le hpw hb2)
    cases p with
    | word z =>
      obtain ⟨a, xs, rfl, hT, hx⟩ := dp_tup hp
      obtain ⟨v0, v1, rfl, h0, h1⟩ := dps2 hx
      obtain rfl := dp_str h0
      refine ⟨_, rfl, a, _, _, _, rfl, rfl, hT, rfl, rfl, _, rfl, strF (by decide) ⟨le0, fun l hl => ?_⟩⟩
      have e1 := same_new hl (.lst [])
      exact ⟨_, rfl, a, _, _, _, rfl, rfl, Same.tup e1 hT, rfl, rfl, _, rfl, nstrF rfl (fin l _ _ [] e1 upd_same (by simp) (by simp))⟩
    | name k =>
      obtain ⟨a, xs, rfl, hT, hx⟩ := dp_tup hp
      obtain ⟨v0, v1, rfl, h0, h1⟩ := dps2 hx
      obtain rfl := dp_str h0
      obtain rfl := dp_int h1
      have hk : k < 2 := hg
      exact ⟨_, rfl, a, _, _, _, rfl, rfl, hT, rfl, rfl, _, rfl, strT rfl ⟨_, rfl, a, _, _, _, rfl, rfl, hT, rfl, le1, fun l hl => q l _ [(k : Int)] (same_new hl _) upd_same (fun n hn => by rw [List.mem_singleton.mp hn]; omega) (by simp)⟩⟩
    | beh p1 p2 =>
      obtain ⟨a, xs, rfl, hT, hx⟩ := dp_tup hp
      obtain ⟨v0, v1, v2, rfl, h0, h1, h2⟩ := dps3 hx
      obtain rfl := dp_str h0
      have hn' : max p1.dep p2.dep + 1 ≤ n + 1 := hn
      refine ⟨_, rfl, a, _, _, _, rfl, rfl, hT, rfl, rfl, _, rfl, strF (by decide) ⟨le0, fun l hl => ?_⟩⟩
      have e1 := same_new hl (.lst [])
      have hT1 := Same.tup e1 hT
      refine ⟨_, rfl, a, _, _, _, rfl, rfl, hT1, rfl, rfl, _, rfl, nstrT (by decide) ⟨_, rfl, _, rfl, a, _, rfl, hT1, (by show ¬ (HT.sIx 3 0 (some 1) = 0 ∧ HT.sIx 3 3 none = 3); decide), fun t ht => ?_⟩⟩
      have hc : cutV [V.str "behind", v1, v2] (some 1) none = [v1, v2] := rfl
      rw [hc]
      have e2 := same_new ht (.tup [v1, v2])
      have eB : Same H (off l (upd (upd H l (.lst [])) t (.tup [v1, v2]))) := same_off (e1.trans e2) hl
      have htl : t ≠ l := fun z => by rw [z, upd_same] at ht; cases ht
      have hTt : SqT K (off l (upd (upd H l (.lst [])) t (.tup [v1, v2]))) t [v1, v2] := st (by rw [off_ne htl]; exact upd_same)
      refine ⟨t, rfl, ⟨_, st upd_same⟩, names_loop (ps := [p1, p2]) (n := n) (L := L) walk_tup off_none off_same (e2 _ _ upd_same) (fun H' e' => Same.tup e' hTt) (.cons (dpOn h1 eB) (.cons (dpOn h2 eB) .nil)) (fun p hm => ?_) (by simp) fun H' o zs e' hz hb hlz => fin l o H' zs (eB.trans e') hz hb hlz⟩
      rcases List.mem_cons.mp hm with rfl | hm
      · exact ⟨hg.1, by omega⟩
      · rw [List.mem_singleton.mp hm]; exact ⟨hg.2, by omega⟩
    | eit p1 p2 =>
      obtain ⟨a, xs, rfl, hT, hx⟩ := dp_tup hp
      obtain ⟨v0, v1, v2, rfl, h0, h1, h2⟩ := dps3 hx
      obtain rfl := dp_str h0
      have hn' : max p1.dep p2.dep + 1 ≤ n + 1 := hn
      refine ⟨_, rfl, a, _, _, _, rfl, rfl, hT, rfl, rfl, _, rfl, strF (by decide) ⟨le0, fun l hl => ?_⟩⟩
      have e1 := same_new hl (.lst [])
      have hT1 := Same.tup e1 hT
      refine ⟨_, rfl, a, _, _, _, rfl, rfl, hT1, rfl, rfl, _, rfl, nstrT (by decide) ⟨_, rfl, _, rfl, a, _, rfl, hT1, (by show ¬ (HT.sIx 3 0 (some 1) = 0 ∧ HT.sIx 3 3 none = 3); decide), fun t ht => ?_⟩⟩
      have hc : cutV [V.str "either", v1, v2] (some 1) none = [v1, v2] := rfl
      rw [hc]
      have e2 := same_new ht (.tup [v1, v2])
      have eB : Same H (off l (upd (upd H l (.lst [])) t (.tup [v1, v2]))) := same_off (e1.trans e2) hl
      have htl : t ≠ l := fun z => by rw [z, upd_same] at ht; cases ht
      have hTt : SqT K (off l (upd (upd H l (.lst [])) t (.tup [v1, v2]))) t [v1, v2] := st (by rw [off_ne htl]; exact upd_same)
      refine ⟨t, rfl, ⟨_, st upd_same⟩, names_loop (ps := [p1, p2]) (n := n) (L := L) walk_tup off_none off_same (e2 _ _ upd_same) (fun H' e' => Same.tup e' hTt) (.cons (dpOn h1 eB) (.cons (dpOn h2 eB) .nil)) (fun p hm => ?_) (by simp) fun H' o zs e' hz hb hlz => fin l o H' zs (eB.trans e') hz hb hlz⟩
      rcases List.mem_cons.mp hm with rfl | hm
      · exact ⟨hg.1, by omega⟩
      · rw [List.mem_singleton.mp hm]; exact ⟨hg.2, by omega⟩
    | rnd p1 =>
      obtain ⟨a, xs, rfl, hT, hx⟩ := dp_tup hp
      obtain ⟨v0, v1, rfl, h0, h1⟩ := dps2 hx
      obtain rfl := dp_str h0
      have hn' : p1.dep + 1 ≤ n + 1 := hn
      refine ⟨_, rfl, a, _, _, _, rfl, rfl, hT, rfl, rfl, _, rfl, strF (by decide) ⟨le0, fun l hl => ?_⟩⟩
      have e1 := same_new hl (.lst [])
      have hT1 := Same.tup e1 hT
      refine ⟨_, rfl, a, _, _, _, rfl, rfl, hT1, rfl, rfl, _, rfl, nstrT (by decide) ⟨_, rfl, _, rfl, a, _, rfl, hT1, (by show ¬ (HT.sIx 2 0 (some 1) = 0 ∧ HT.sIx 2 2 none = 2); decide), fun t ht => ?_⟩⟩
      have hc : cutV [V.str "round", v1] (some 1) none = [v1] := rfl
      rw [hc]
      have e2 := same_new ht (.tup [v1])
      have eB : Same H (off l (upd (upd H l (.lst [])) t (.tup [v1]))) := same_off (e1.trans e2) hl
      have htl : t ≠ l := fun z => by rw [z, upd_same] at ht; cases ht
      have hTt : SqT K (off l (upd (upd H l (.lst [])) t (.tup [v1]))) t [v1] := st (by rw [off_ne htl]; exact upd_same)
      refine ⟨t, rfl, ⟨_, st upd_same⟩, names_loop (ps := [p1]) (n := n) (L := L) walk_tup off_none off_same (e2 _ _ upd_same) (fun H' e' => Same.tup e' hTt) (.cons (dpOn h1 eB) .nil) (fun p hm => ?_) (by simp) fun H' o zs e' hz hb hlz => fin l o H' zs (eB.trans e') hz hb hlz⟩
      rw [List.mem_singleton.mp hm]; exact ⟨hg, by omega⟩
end
end K44
end
section
set_option maxHeartbeats 4000000
namespace K44
open PySem PySem.Spec PyProof.Rows L2
def lsD (r : List Nat) : PyData := .list (r.map nD)
def stepsD (st : MRows) : PyData := .list (st.map lsD)
theorem dp_steps {K : PySem.W.Frag} {H : Hp} {v : V} {st : MRows} (h : Dp K H v (stepsD st)) : ∃ a xs, v = .ref a ∧ SqL K H a xs ∧ xs.length = st.length ∧ ∀ (i : Nat) r, st[i]? = some r → ∃ b, xs[i]? = some (.ref b) ∧ SqL K H b (r.map nV) := by
  obtain ⟨a, xs, rfl, hL, hx⟩ := dp_lst h
  refine ⟨a, xs, rfl, hL, by rw [dpsLen hx, List.length_map], fun i r hi => ?_⟩
  obtain ⟨v, h1, h2⟩ := dpsGet hx (by rw [List.getElem?_map, hi]; rfl : (st.map lsD)[i]? = some (lsD r))
  obtain ⟨b, ys, rfl, hM, hy⟩ := dp_lst h2
  rw [dps_ints hy] at hM
  exact ⟨b, h1, hM⟩
abbrev Rq (L : Nat) (st : MRows) : Nat → Prop := fun q => ∃ w, Wd L w ∧ runS st 0 w = q
section
variable {P : Program} {w : World} {K : PySem.W.Frag} {mg : Str → Option Value} {base : Heap}
theorem rq_step {L : Nat} {st : MRows} {en : List Nat} (wf : WF L st en) {v : Nat} (h : Rq L st v) : ∀ x ∈ rowAt st v, Rq L st x := fun x hx => by
  obtain ⟨w, hw, rfl⟩ := h
  obtain ⟨c, hc, rfl⟩ := (wf.row_ (wf.run_lt wf.pos hw)).2.2.2 x hx
  exact ⟨w ++ [c], hw.app fun d hd => by rw [List.mem_singleton] at hd; exact hd ▸ hc, by rw [runS_app]; rfl⟩
def sp_led_to (K : PySem.W.Frag) : Sp := fun vs H Q _ => ∃ (L : Nat) (st : MRows) (en : List Nat) (v : V), vs = [v] ∧ Dp K H v (stepsD st) ∧ WF L st en ∧ L ≤ 3 ∧ st.length ≤ 300000 ∧ ∀ p H' ns, Same H H' → H' p = some (.lst (ns.map nV)) → Led L st ns → Q (.ref p) H'
theorem c_led_to (T : Txt K mg) : Cal P w K mg base 1 "led_to" ["steps"] (sp_led_to K) := by
  have S : FnScope ["steps", "found", "at", "state"] ["steps"] (defScope s_led_to) := fsc (by decide +kernel)
  refine Cal.of T.g_led_to T.b_led_to S (fun vs H Q E h => ?_) fun cdv A outer s H vs Q E hr h => ?_
  · obtain ⟨L, st, en, v, rfl, _⟩ := h; rfl
  obtain ⟨L, st, en, v, rfl, hd, wf, hL, hz, q⟩ := h
  refine ⟨_, pss_cons (ps_par (i := 1) (j := 2) (by rfl) S.nd rfl rfl (by decide) rfl rfl (pa_cons (pe_lst (pa_cons pe_int pa_nil)) (pa_cons pe_int pa_nil)) (by rfl))
    (pss_cons (ps_while PassesOwn.never (pt_cmpR op_lt (pv 2) (pe_callB call_len_seq rfl T.zlen boot_len (pa_cons (pv 1) pa_nil)) (nomark _))
      (pss_cons (ps_for PassesOwn.never rfl (pi_list (pe_ix ix_list (pv 0) (pe_ix ix_list (pv 1) (pv 2) (fun _ _ => rfl)) (fun _ _ => rfl))) (pg_name (i := 3) S.nd rfl (.inl rfl))
        (pss_one (ps_if (pt_cmpR op_notIn_seq (pv 3) (pv 1) rfl) (pss_one (ps_expr (pe_bm PySem.F.plainAttrs_list PySem.F.slot_list_append PySem.F.type_list_append mt_append (pv 1) (pa_cons (pv 3) pa_nil)))) pss_nil)))
      (pss_one (ps_set (i := 2) S.nd rfl (.inl rfl) (pe_op op_add (pv 2) pe_int)))))
    (pss_one (ps_ret (pv 1)))), ?_⟩
  obtain ⟨a, xs, rfl, hS, hSl, hrow⟩ := dp_steps hd
  refine ⟨le1, fun l hl => ⟨_, _, rfl, ?_⟩⟩
  refine ⟨fun m σ' H' => ∃ (found : List Nat) (k : Nat) (o : Option V), σ' = [some (.ref a), some (.ref l), some (.int k), o] ∧ Same H H' ∧ H' l = some (.lst (found.map nV)) ∧ Bfs (rowAt st) (Rq L st) 0 found k ∧ m + k = st.length + 1,
    ⟨st.length + 1, [0], 0, none, rfl, same_new hl _, upd_same, Bfs.init ⟨[], Wd.nil, rfl⟩, by omega⟩, ?_⟩
  rintro m σ' H' ⟨found, k, o, rfl, e1, hf, bf, hm⟩
  have hlt : ∀ q ∈ found, q < st.length := fun q hq => by
    obtain ⟨w, hw, rfl⟩ := bf.rch q hq
    exact wf.run_lt wf.pos hw
  have hfl : found.length ≤ st.length := by
    have := nodup_len (m := List.range st.length) bf.nd fun q hq => List.mem_range.mpr (hlt q hq)
    rwa [List.length_range] at this
  refine ⟨_, rfl, _, rfl, l, _, rfl, .inl (sl hf), _, _, rfl, rfl, _, rfl, ?_⟩
  rw [List.length_map]
  by_cases hk : k < found.length
  case neg =>
    refine ifF (by rw [decide_eq_false_iff_not]; omega) ?_
    refine ⟨_, rfl, q l H' found e1 hf ⟨bf.nd, bf.hd, bf.rch, fun x hx c hc => ?_⟩⟩
    exact bf.closed (by omega) x hx _ (List.mem_of_getElem? ((wf.row_ (hlt x hx)).2.2.1 c hc))
  have hv : found[k]? = some found[k] := List.getElem?_eq_getElem hk
  have hvl := hlt _ (List.getElem_mem hk)
  obtain ⟨b, hb1, hb2⟩ := hrow _ _ (wf.row_ hvl).1
  refine ifT (decide_eq_true (by omega)) ⟨fun σ2 H2 => ∃ (found : List Nat) (k' : Nat) (o : Option V), σ2 = [some (.ref a), some (.ref l), some (.int k'), o] ∧ Same H H2 ∧ H2 l = some (.lst (found.map nV)) ∧ Bfs (rowAt st) (Rq L st) 0 found k' ∧ k' = k + 1, ?_, ?_⟩
  · rintro σ2 H2 ⟨f2, k2, o2, h1, h2, h3, h4, rfl⟩
    exact ⟨m - 1, by omega, f2, k + 1, o2, h1, h2, h3, h4, by omega⟩
  refine ⟨_, rfl, _, rfl, _, rfl, l, _, _, _, rfl, rfl, sl hf, atI_nat (by rw [List.getElem?_map, hv]; rfl), a, _, _, _, rfl, rfl, e1.seq hS, atI_nat hb1, ?_⟩
  refine ⟨b, rfl, ⟨_, e1.seq hb2⟩, for_it walk_list (fun i σ2 H2 => ∃ o2, σ2 = [some (.ref a), some (.ref l), some (.int k), o2] ∧ Same H H2 ∧ H2 l = some (.lst ((addAll found ((rowAt st found[k]).take i)).map nV))) ⟨o, rfl, e1, hf⟩ (fun i σ2 H2 _ ⟨o2, _, h2, _⟩ => h2.seq hb2) ?_ ?_⟩
  · rintro i x σ2 H2 H3 hi ⟨o2, rfl, e2, hl2⟩ ⟨rfl, hx⟩
    rw [List.getElem?_map] at hx
    obtain ⟨n, hn, rfl⟩ := Option.map_eq_some_iff.mp hx
    have e3 : (rowAt st found[k]).take (i + 1) = (rowAt st found[k]).take i ++ [n] := by rw [List.take_add_one, hn]; rfl
    refine ⟨_, rfl, _, rfl, l, _, rfl, .inl (sl hl2), rfl, flat_nats, _, rfl, ?_⟩
    have hin : inV (nV n) ((addAll found ((rowAt st found[k]).take i)).map nV) = decide (n ∈ addAll found ((rowAt st found[k]).take i)) := inV_nat
    show if (!inV (nV n) _) = true then _ else _
    rw [hin]
    by_cases hm2 : n ∈ addAll found ((rowAt st found[k]).take i)
    · refine ifF (by rw [decide_eq_true hm2]; rfl) ⟨_, rfl, e2, ?_⟩
      rw [e3, addAll_snoc]
      unfold add1
      rw [if_pos hm2]
      exact hl2
    · refine ifT (by rw [decide_eq_false hm2]; rfl) ⟨_, rfl, .inl ⟨rfl, _, sl hl2⟩, _, rfl, l, _, _, rfl, rfl, hl2, ?_, _, rfl, Same.mut e2 hl, ?_⟩
      · have := nodup_len (m := List.range st.length) (nodup_addAll (row := (rowAt st found[k]).take i) bf.nd) fun q hq => List.mem_range.mpr ?_
        · rw [List.length_range] at this
          rw [List.length_map]
          exact szt (by omega)
        · rcases mem_addAll.mp hq with h | h
          · exact hlt q h
          · obtain ⟨c, hc, rfl⟩ := (wf.row_ hvl).2.2.2 q (List.mem_of_mem_take h)
            exact wf.nx_lt hvl hc
      · rw [upd_same, e3, addAll_snoc]
        unfold add1
        rw [if_neg hm2, List.map_append]
        rfl
  · rintro σ2 H2 ⟨o2, rfl, e2, hl2⟩
    rw [List.length_map, List.take_length] at hl2
    refine ⟨_, rfl, _, _, rfl, rfl, addAll found (rowAt st found[k]), k + 1, o2, rfl, e2, hl2, bf.step (rq_step wf (bf.rch _ (List.getElem_mem hk))) hv, rfl⟩
end
end K44
end
section
set_option maxHeartbeats 4000000
namespace K44
open PySem PySem.Spec PyProof.Rows L2
/-! ### what leans on tuples alone -/
def TupK (H H' : Hp) : Prop := ∀ b xs, (H b = some (.tup xs) → H' b = some (.tup xs)) ∧ ∀ o, H b = some (.frz o (.tup xs)) → H' b = some (.frz o (.tup xs))
theorem TupK.of {H H' : Hp} (e : Same H H') : TupK H H' := fun b xs => ⟨e b _, fun o => e b _⟩
theorem TupK.trans {H H1 H2 : Hp} (a : TupK H H1) (b : TupK H1 H2) : TupK H H2 := fun c xs => ⟨fun h => (b c xs).1 ((a c xs).1 h), fun o h => (b c xs).2 o ((a c xs).2 o h)⟩
theorem TupK.put {H : Hp} {p : Addr} {u o : HO} (h : H p = some u) (h1 : ∀ xs, u ≠ .tup xs) (h2 : ∀ x y, u ≠ .frz x y) : TupK H (upd H p o) := fun b xs => by
  by_cases e : b = p
  · subst e
    exact ⟨fun z => absurd (Option.some.inj (h.symm.trans z)) (h1 xs), fun x z => absurd (Option.some.inj (h.symm.trans z)) (h2 x _)⟩
  · rw [upd_ne e]; exact ⟨id, fun _ => id⟩
theorem TupK.tup {K : PySem.W.Frag} {H H' : Hp} {a : Addr} {xs : List V} (e : TupK H H') (h : SqT K H a xs) : SqT K H' a xs := by
  rcases h with (h | ⟨o, h⟩) | h
  · exact .inl (.inl ((e a xs).1 h))
  · exact .inl (.inr ⟨o, (e a xs).2 o h⟩)
  · exact .inr h
mutual
theorem dpTup {K : PySem.W.Frag} {H H' : Hp} (e : TupK H H') : ∀ (d : PyData) (v : V), noL d = true → Dp K H v d → Dp K H' v d
  | .none, _, _, h => by cases h; exact .non
  | .bool _, _, _, h => by cases h; exact .bl _
  | .int _, _, _, h => by cases h; exact .int _
  | .str _, _, _, h => by cases h; exact .str _
  | .list ds, _, n, h => by cases n
  | .tuple ds, _, n, h => by
    cases h with
    | tup hs ha => exact .tup (TupK.tup e hs) (dpsTup e ds _ n ha)
  | .dict _, _, _, h => by cases h
theorem dpsTup {K : PySem.W.Frag} {H H' : Hp} (e : TupK H H') : ∀ (ds : List PyData) (vs : List V), noLs ds = true → DpAll K H vs ds → DpAll K H' vs ds
  | [], _, _, h => by cases h; exact .nil
  | d :: ds, _, n, h => by
    rw [noLs, Bool.and_eq_true] at n
    cases h with
    | cons h1 h2 => exact .cons (dpTup e d _ n.1 h1) (dpsTup e ds _ n.2 h2)
end
mutual
theorem nk_noL : ∀ k : NestedKey, noL k.data = true
  | .none => by rw [NestedKey.data]; rfl
  | .num _ => by rw [NestedKey.data]; rfl
  | .text _ => by rw [NestedKey.data]; rfl
  | .tup ks => by rw [NestedKey.data]; exact nks_noL ks
theorem nks_noL : ∀ ks : List NestedKey, noLs (NestedKey.datas ks) = true
  | [] => by rw [NestedKey.datas]; rfl
  | k :: ks => by rw [NestedKey.datas, noLs, nk_noL k, nks_noL ks]; rfl
end
theorem NkAt.tk {K : PySem.W.Frag} {H H' : Hp} {v : V} {k : NestedKey} (h : NkAt K H v k) (e : TupK H H') : NkAt K H' v k := ⟨dpTup e _ _ (nk_noL k) h.1, h.2⟩
theorem nAt_snoc {kvs : List NKV} {k k' : NestedKey} {b : Addr} {v : V} (h : nAt kvs k = none) : nAt (kvs ++ [(k, b, v)]) k' = if k' = k then some v else nAt kvs k' := by
  induction kvs with
  | nil =>
    by_cases e : k' = k
    · rw [if_pos e]; exact nAt_pos (p := (k, b, v)) e.symm
    · rw [if_neg e]; exact nAt_neg (p := (k, b, v)) fun z => e z.symm
  | cons p r ih =>
    rw [List.cons_append]
    have hk : ¬ p.1 = k := fun z => by rw [nAt_pos z] at h; cases h
    rw [nAt_neg hk] at h
    by_cases e : p.1 = k'
    · rw [nAt_pos e, nAt_pos e, if_neg fun z => hk (e.trans z)]
    · rw [nAt_neg e, nAt_neg e, ih h]
/-- a tuple of numbers, as a key -/
def kN (ns : List Nat) : NestedKey := .tup (ns.map fun n : Nat => NestedKey.num (n : Int))
theorem kN_data (ns : List Nat) : (kN ns).data = nsD ns := by
  have key : ∀ l : List Nat, NestedKey.datas (l.map fun n : Nat => NestedKey.num (n : Int)) = l.map nD := by
    intro l
    induction l with
    | nil => rw [List.map_nil, NestedKey.datas]; rfl
    | cons n l ih => rw [List.map_cons, NestedKey.datas, ih, NestedKey.data]; rfl
  unfold kN nsD
  rw [NestedKey.data, key]
theorem kN_depth (ns : List Nat) : (kN ns).depth ≤ 8 := by
  have key : ∀ l : List Nat, NestedKey.depthAll (l.map fun n : Nat => NestedKey.num (n : Int)) = 0 := by
    intro l
    induction l with
    | nil => rw [List.map_nil, NestedKey.depthAll]
    | cons n l ih => rw [List.map_cons, NestedKey.depthAll, ih, NestedKey.depth]; rfl
  unfold kN
  rw [NestedKey.depth, key]; omega
theorem kN_inj {a b : List Nat} (h : kN a = kN b) : a = b := by
  unfold kN at h
  injection h with h
  have key : ∀ a b : List Nat, (a.map fun n : Nat => NestedKey.num (n : Int)) = b.map (fun n : Nat => NestedKey.num (n : Int)) → a = b := by
    intro a
    induction a with
    | nil => intro b h; cases b with
      | nil => rfl
      | cons _ _ => simp at h
    | cons x a ih => intro b h; cases b with
      | nil => simp at h
      | cons y b =>
        rw [List.map_cons, List.map_cons, List.cons.injEq] at h
        obtain ⟨h1, h2⟩ := h
        injection h1 with h1
        rw [ih b h2, Int.ofNat.inj h1]
  exact key a b h
def kI (q : Nat) : Key := .inl (q : Int)
theorem kI_inj {a b : Nat} (h : kI a = kI b) : a = b := by
  unfold kI at h
  injection h with h
  exact Int.ofNat.inj h
theorem len_of {kvs : List (Key × V)} {k : Key} {v : V} {n : Nat} (h : kvs.length ≤ n) : (putK kvs k v).length ≤ n + 1 := by
  have := length_putK kvs k v
  omega
theorem valV_mapI {f : Nat → V} {n : Nat} : ∀ {l : List Nat}, valV (l.map fun q => (kI q, f q)) (kI n) = if n ∈ l then some (f n) else none
  | [] => rfl
  | q :: l => by
    rw [List.map_cons]
    by_cases e : q = n
    · subst e
      rw [if_pos List.mem_cons_self]
      exact valV_pos (p := (kI q, f q)) rfl
    · rw [valV_neg (p := (kI q, f q)) fun z => e (kI_inj z), valV_mapI (l := l)]
      by_cases h : n ∈ l
      · rw [if_pos h, if_pos (List.mem_cons_of_mem _ h)]
      · rw [if_neg h, if_neg fun z => (List.mem_cons.mp z).elim (fun z => e z.symm) h]
theorem same_none {H H' : Hp} {p : Addr} (e : Same H H') (h : H' p = none) : H p = none := by
  cases q : H p with
  | none => rfl
  | some o => rw [e _ _ q] at h; cases h
/-- the keys seen so far, numbered; the states behind, by their key's number -/
structure KeysI (st : MRows) (g : Nat → Nat) (ns : List Nat) (i : Nat) (kv : List NKV) (akv : List (Key × V)) (ks : List (List Nat)) : Prop where
  len : kv.length = ks.length
  nd : ks.Nodup
  at_ : ∀ j k, ks[j]? = some k → nAt kv (kN k) = some (nV j)
  out : ∀ k, k ∉ ks → nAt kv (kN k) = none
  inn : ∀ k ∈ ks, ∃ q ∈ ns, keyOf st g q = k
  aft : ∀ q ∈ ns.take i, ∃ j, valV akv (kI q) = some (nV j) ∧ ks[j]? = some (keyOf st g q)
  alen : akv.length ≤ i
  klen : ks.length ≤ i
theorem KeysI.old {st : MRows} {g : Nat → Nat} {ns : List Nat} {i n j : Nat} {kv : List NKV} {akv : List (Key × V)} {ks : List (List Nat)} (h : KeysI st g ns i kv akv ks) (nd : ns.Nodup) (hn : ns[i]? = some n) (hj : ks[j]? = some (keyOf st g n)) : KeysI st g ns (i + 1) kv (putK akv (kI n) (nV j)) ks := by
  refine ⟨h.len, h.nd, h.at_, h.out, h.inn, fun q hq => ?_, len_of h.alen, by have := h.klen; omega⟩
  rw [List.take_add_one, hn] at hq
  rw [valV_put]
  by_cases e : q = n
  · exact ⟨j, if_pos (by rw [e]), by rw [e]; exact hj⟩
  · have hq' : q ∈ ns.take i := (List.mem_append.mp hq).elim id fun z => absurd (by simpa using z) e
    obtain ⟨j', h1, h2⟩ := h.aft q hq'
    exact ⟨j', by rw [if_neg fun z => e (kI_inj z)]; exact h1, h2⟩
theorem KeysI.new {st : MRows} {g : Nat → Nat} {ns : List Nat} {i n : Nat} {b : Addr} {kv : List NKV} {akv : List (Key × V)} {ks : List (List Nat)} (h : KeysI st g ns i kv akv ks) (hn : ns[i]? = some n) (hk : keyOf st g n ∉ ks) : KeysI st g ns (i + 1) (kv ++ [(kN (keyOf st g n), b, nV ks.length)]) (putK akv (kI n) (nV ks.length)) (ks ++ [keyOf st g n]) := by
  have h0 := h.out _ hk
  refine ⟨by rw [List.length_append, List.length_append, h.len]; rfl, List.nodup_append.mpr ⟨h.nd, List.nodup_cons.mpr ⟨by simp, List.nodup_nil⟩, fun a ha b hb e => ?_⟩, fun j k hj => ?_, fun k hk2 => ?_, fun k hk2 => ?_, fun q hq => ?_, len_of h.alen, ?_⟩
  · rw [List.mem_singleton] at hb
    exact hk (hb ▸ e ▸ ha)
  · rw [nAt_snoc h0]
    by_cases hjl : j < ks.length
    · rw [List.getElem?_append_left hjl] at hj
      rw [if_neg fun z => hk (by rw [← kN_inj z]; exact List.mem_of_getElem? hj)]
      exact h.at_ j k hj
    · have hj2 : j = ks.length := by
        have := (List.getElem?_eq_some_iff.mp hj).1
        simp at this; omega
      subst hj2
      rw [List.getElem?_append_right (Nat.le_refl _), Nat.sub_self] at hj
      cases hj
      rw [if_pos rfl]
  · rw [nAt_snoc h0, if_neg fun z => hk2 (by rw [kN_inj z]; exact List.mem_append_right _ List.mem_cons_self)]
    exact h.out k fun z => hk2 (List.mem_append_left _ z)
  · rcases List.mem_append.mp hk2 with z | z
    · exact h.inn k z
    · rw [List.mem_singleton] at z
      exact ⟨n, List.mem_of_getElem? hn, z.symm⟩
  · rw [List.take_add_one, hn] at hq
    rw [valV_put]
    by_cases e : q = n
    · exact ⟨ks.length, if_pos (by rw [e]), by rw [e, List.getElem?_append_right (Nat.le_refl _), Nat.sub_self]; rfl⟩
    · have hq' : q ∈ ns.take i := (List.mem_append.mp hq).elim id fun z => absurd (by simpa using z) e
      obtain ⟨j', h1, h2⟩ := h.aft q hq'
      refine ⟨j', by rw [if_neg fun z => e (kI_inj z)]; exact h1, ?_⟩
      rw [List.getElem?_append_left (List.getElem?_eq_some_iff.mp h2).1]
      exact h2
  · rw [List.length_append]
    have := h.klen
    show ks.length + 1 ≤ i + 1
    omega
section
variable {P : Program} {w : World} {K : PySem.W.Frag} {mg : Str → Option Value} {base : Heap}
def sp_parted (K : PySem.W.Frag) : Sp := fun vs H Q _ => ∃ (L : Nat) (st : MRows) (en ns : List Nat) (v : V) (e l : Addr) (kept : List (Key × V)), vs = [v, .ref e, .ref l] ∧ Dp K H v (stepsD st) ∧ WF L st en ∧ 1 ≤ L ∧ L ≤ 3 ∧ st.length ≤ 300000 ∧ Led L st ns ∧
  H e = some (.dK kept) ∧ (∀ q : Nat, (valV kept (kI q)).isSome = decide (q ∈ en)) ∧ H l = some (.lst (ns.map nV)) ∧
  ∀ p H' (g : Nat → Nat) (now : Nat) (kvs : List (Key × V)), Same H H' → H' p = some (.dK kvs) → (∀ q ∈ ns, valV kvs (kI q) = some (nV (g q))) → Part L st en ns g now now → Q (.ref p) H'
theorem c_parted (T : Txt K mg) : Cal P w K mg base 1 "parted" ["steps", "ends", "states"] (sp_parted K) := by
  have S : FnScope ["steps", "ends", "states", "group", "many", "state", "now", "keys", "after", "key", "one"] ["steps", "ends", "states"] (defScope s_parted) := fsc (by decide +kernel)
  refine Cal.of T.g_parted T.b_parted S (fun vs H Q E h => ?_) fun cdv A outer s H vs Q E hr h => ?_
  · obtain ⟨L, st, en, ns, v, e, l, kept, rfl, _⟩ := h; rfl
  have hu1 := hr.units
  have hu2 := Nat.lt_of_le_of_lt (Nat.add_le_add_left (show 1 ≤ 64 by decide) _) hu1
  obtain ⟨L, st, en, ns, v, e, l, kept, rfl, hd, wf, hL1, hL, hz, ld, he, hkept, hl, q⟩ := h
  refine ⟨_, pss_cons (ps_asg (pe_tup (pa_cons pe_dnewK (pa_cons pe_int pa_nil))) (pg_tup (by rfl) (pgs_cons (pg_name (i := 3) S.nd rfl (.inr rfl)) (pgs_cons (pg_name (i := 4) S.nd rfl (.inl rfl)) pgs_nil))))
    (pss_cons (ps_for PassesOwn.never rfl (pi_list (pv 2)) (pg_name (i := 5) S.nd rfl (.inl rfl)) (pss_one (ps_dput hu2 (pv 3) (pv 5) (pe_callTy call_int1 rfl T.zint (by decide +kernel) (pa_cons (pe_cmp (pc_din hu2 (pv 5) (pv 1)) rfl) pa_nil)) rfl)))
    (pss_cons (ps_set (i := 6) S.nd rfl (.inl rfl) (pe_callB call_len_seq rfl T.zlen boot_len (pa_cons (pe_callB (cr_sortedSet rfl) rfl T.zsorted (by decide +kernel) (pa_cons (pe_callTy (call_setI rfl) rfl T.zset (by decide +kernel) (pa_cons (pe_callTy (call_listV rfl) rfl T.zlist (by decide +kernel) (pa_cons (pe_dvw (pv 3)) pa_nil)) pa_nil)) pa_nil)) pa_nil)))
    (pss_cons (ps_while PassesOwn.never (pt_cmpR op_ne (pv 6) (pv 4) (nomark _))
      (pss_cons (ps_par3 (i := 4) (j := 7) (k := 8) (by rfl) S.nd rfl rfl rfl rfl rfl rfl (pa_cons (pv 6) (pa_cons pe_nnew (pa_cons pe_dnewK pa_nil))) (by rfl))
      (pss_cons (ps_for PassesOwn.never rfl (pi_list (pv 2)) (pg_name (i := 5) S.nd rfl (.inl rfl))
        (pss_cons (ps_set (i := 9) S.nd rfl (.inl rfl) (pe_op op_catT (pe_tup (pa_cons (pe_dget hu2 (pv 3) (pv 5) (fun _ _ => rfl)) pa_nil))
          (pe_callTy call_tuple_of rfl T.ztuple (by decide +kernel) (pa_cons (pe_lc (own := [("one", 10)]) (g := gName 10) (tt := tYes) rfl S.nd (pi_list (pe_ix ix_list (pv 0) (pv 5) (fun _ _ => rfl))) (blkOk_by (N := ["steps", "ends", "states", "group", "many", "state", "now", "keys", "after", "key", "one"]) (sc := defScope s_parted) (by decide +kernel))
            (fun _ _ _ _ _ => pg_name (i := 10) S.nd rfl (Or.inl rfl)) (fun _ _ _ _ _ => pts_nil) (fun _ _ _ _ _ => pe_dget hu2 (pv 3) (pv 10) (fun _ _ => rfl))) pa_nil))))
        (pss_one (ps_dput hu2 (pv 8) (pv 5) (pe_nsetd hu1 (pv 7) (pv 9) (pe_callB call_lenN rfl T.zlen boot_len (pa_cons (pv 7) pa_nil)) ⟨rfl, rfl, rfl, rfl⟩) rfl))))
      (pss_one (ps_asg (pe_tup (pa_cons (pv 8) (pa_cons (pe_callB call_lenN rfl T.zlen boot_len (pa_cons (pv 7) pa_nil)) pa_nil))) (pg_tup (by rfl) (pgs_cons (pg_name (i := 3) S.nd rfl (.inr rfl)) (pgs_cons (pg_name (i := 6) S.nd rfl (.inl rfl)) pgs_nil))))))))
    (pss_one (ps_ret (pv 3)))))), ?_⟩
  have hlt := ld.lt wf
  have hnl : ns.length ≤ st.length := ld.len wf
  obtain ⟨a, xs, rfl, hS, hSl, hrow⟩ := dp_steps hd
  have hl' : ∀ {H' : Hp}, Same H H' → H' l = some (.lst (ns.map nV)) := fun e => e _ _ hl
  let f0 : Nat → Nat := fun q => if q ∈ en then 1 else 0
  refine fun gp hgp => ⟨le2, fun t ht => ⟨t, _, rfl, K44.st upd_same, rfl, _, _, rfl, _, _, rfl, rfl, ?_⟩⟩
  have e1 : Same H (upd (upd H gp (.dK [])) t (.tup [.ref gp, .int 0])) := (same_new hgp _).trans (same_new ht _)
  have hgt : gp ≠ t := fun z => by rw [← z, upd_same] at ht; cases ht
  refine ⟨_, rfl, l, rfl, ⟨_, sl (hl' e1)⟩, for_it walk_list (fun i σ' H' => ∃ o, σ' = [some (.ref a), some (.ref e), some (.ref l), some (.ref gp), some (.int 0), o, none, none, none, none, none] ∧ Same H H' ∧ H' gp = some (.dK ((ns.take i).map fun q => (kI q, nV (f0 q)))))
    ⟨none, rfl, e1, by rw [upd_ne hgt, upd_same]; rfl⟩ (fun i σ' H' _ ⟨_, _, h2, _⟩ => sl (hl' h2)) ?_ ?_⟩
  · rintro i x σ' H' H'' hi ⟨o, rfl, e2, hg⟩ ⟨rfl, hx⟩
    rw [List.getElem?_map] at hx
    obtain ⟨n, hn, rfl⟩ := Option.map_eq_some_iff.mp hx
    have hni : n ∉ ns.take i := fun z => by
      obtain ⟨j, hj⟩ := List.mem_iff_getElem?.mp z
      have hj1 := (List.getElem?_eq_some_iff.mp hj).1
      rw [List.length_take] at hj1
      rw [List.getElem?_take_of_lt (by omega)] at hj
      obtain ⟨l1, q1⟩ := List.getElem?_eq_some_iff.mp hj
      obtain ⟨l2, q2⟩ := List.getElem?_eq_some_iff.mp hn
      have := (List.getElem_inj ld.nd).mp (q1.trans q2.symm)
      omega
    have hnone : valV ((ns.take i).map fun q => (kI q, nV (f0 q))) (kI n) = none := by rw [valV_mapI, if_neg hni]
    refine ⟨_, rfl, _, rfl, e, _, rfl, DGet.k (k := kI n) (e2 _ _ he), .inr ⟨_, rfl, ⟨_, rfl, _, rfl, gp, _, rfl, DPut.k (k := kI n) hg ?_, some (nV n), rfl, Same.mut e2 hgp, ?_⟩⟩⟩
    · rw [List.length_map, List.length_take]
      exact szt (by omega)
    · rw [upd_same, putK_new _ hnone, List.take_add_one, hn, hkept n]
      have ef : (if decide (n ∈ en) = true then (1 : Int) else 0) = ((f0 n : Nat) : Int) := by
        show _ = (((if n ∈ en then 1 else 0 : Nat)) : Int)
        by_cases h : n ∈ en <;> simp [h]
      rw [ef, Option.toList_some, List.map_append]
      rfl
  rintro σ' H' ⟨o, rfl, e2, hg⟩
  rw [List.length_map, List.take_length] at hg
  refine ⟨_, rfl, gp, _, rfl, hg, fun vw hvw => ⟨vw, gp, _, rfl, upd_same, by rw [upd_ne (ne_of_none hg hvw)]; exact hg, fun ll hll => ⟨ll, ns.map fun q => ((f0 q : Nat) : Int), [0, 1], rfl, fun x hx => ?_, .inl ⟨sl (by rw [upd_same, List.map_map, List.map_map]; rfl), by decide⟩, fun ss c hss hc => ⟨ss, _, c, rfl, upd_same, by simp at hc; omega, fun sd t2 pw mem hlen2 ht2 => ⟨t2, _, rfl, .inl (sl upd_same), ?_⟩⟩⟩⟩⟩
  · obtain ⟨q, _, rfl⟩ := List.mem_map.mp hx
    show (((if q ∈ en then 1 else 0 : Nat)) : Int) ∈ _
    by_cases h : q ∈ en <;> simp [h]
  have e3 : Same H' (upd (upd (upd (upd H' vw (VwO vw gp)) ll (.lst (((ns.map fun q => (kI q, nV (f0 q))).map (·.2))))) ss (SetO w ss (fun j => decide (j ∈ ns.map fun q => ((f0 q : Nat) : Int))) c)) t2 (.lst (sd.map V.int))) :=
    (((same_new hvw _).trans (same_new hll _)).trans (same_new hss _)).trans (same_new ht2 _)
  have p0 : Part L st en ns f0 0 sd.length := by
    refine Part.init ⟨sd.map Int.toNat, ?_, List.length_map .., fun v => ?_⟩ ld.zero
    · have hpos : ∀ x ∈ sd, 0 ≤ x := fun x hx => by
        obtain ⟨q, _, rfl⟩ := List.mem_map.mp (of_decide_eq_true ((mem x).mp hx))
        omega
      clear mem ht2 e3 hlen2
      induction sd with
      | nil => exact List.nodup_nil
      | cons x sd ih =>
        rw [List.map_cons]
        obtain ⟨p1, p2⟩ := List.pairwise_cons.mp pw
        refine List.nodup_cons.mpr ⟨fun z => ?_, ih p2 fun y hy => hpos y (List.mem_cons_of_mem _ hy)⟩
        obtain ⟨y, hy, ey⟩ := List.mem_map.mp z
        have h1 := p1 y hy
        have h2 := hpos x List.mem_cons_self
        have h3 := hpos y (List.mem_cons_of_mem _ hy)
        omega
    · refine ⟨fun hv => ?_, fun ⟨q, hq, hv⟩ => ?_⟩
      · obtain ⟨x, hx, rfl⟩ := List.mem_map.mp hv
        obtain ⟨q, hq, rfl⟩ := List.mem_map.mp (of_decide_eq_true ((mem x).mp hx))
        exact ⟨q, hq, rfl⟩
      · refine List.mem_map.mpr ⟨((f0 q : Nat) : Int), (mem _).mpr (decide_eq_true (List.mem_map.mpr ⟨q, hq, rfl⟩)), ?_⟩
        rw [← hv]; rfl
  rw [List.length_map]
  refine ⟨fun m σ' H' => ∃ (gp : Addr) (kvs : List (Key × V)) (g : Nat → Nat) (many now : Nat) (o5 o7 o8 o9 o10 : Option V), σ' = [some (.ref a), some (.ref e), some (.ref l), some (.ref gp), some (nV many), o5, some (nV now), o7, o8, o9, o10] ∧ Same H H' ∧ H gp = none ∧ H' gp = some (.dK kvs) ∧
      (∀ q ∈ ns, valV kvs (kI q) = some (nV (g q))) ∧ Part L st en ns g many now ∧ m = if many = now then 0 else ns.length + 1 - now,
    ⟨_, gp, _, f0, 0, sd.length, o, none, none, none, none, rfl, e2.trans e3, hgp, e3 _ _ hg, fun q hq => by rw [valV_mapI, if_pos hq], p0, rfl⟩, ?_⟩
  rintro m σ' H4 ⟨gp, kvs, g, many, now, o5, o7, o8, o9, o10, rfl, e4, hgp0, hg4, hv, pt, hm⟩
  refine ⟨_, rfl, _, rfl, rfl, _, rfl, ?_⟩
  by_cases hmn : now = many
  case pos =>
    subst hmn
    refine ifF (by rw [decide_eq_true rfl]; rfl) ⟨_, rfl, q gp H4 g _ kvs e4 hg4 hv pt⟩
  have hne : ¬ nV now = nV many := fun z => by
    injection z with z
    exact hmn (Int.ofNat.inj z)
  have hnl2 := pt.now_le
  rw [if_neg fun z => hmn z.symm] at hm
  refine ifT (by rw [decide_eq_false hne]; rfl) ⟨fun σ2 H2 => ∃ m', m' < m ∧ ∃ (gp : Addr) (kvs : List (Key × V)) (g : Nat → Nat) (many now : Nat) (o5 o7 o8 o9 o10 : Option V), σ2 = [some (.ref a), some (.ref e), some (.ref l), some (.ref gp), some (nV many), o5, some (nV now), o7, o8, o9, o10] ∧ Same H H2 ∧ H gp = none ∧ H2 gp = some (.dK kvs) ∧
      (∀ q ∈ ns, valV kvs (kI q) = some (nV (g q))) ∧ Part L st en ns g many now ∧ m' = if many = now then 0 else ns.length + 1 - now, fun σ2 H2 h => h, ?_⟩
  refine ⟨_, rfl, fun n hn d hdn => ⟨_, _, _, rfl, ?_⟩⟩
  have hn0 := same_none e4 hn
  have hgn : gp ≠ n := ne_of_none hg4 hn
  have hdn2 : n ≠ d := fun z => by rw [← z, upd_same] at hdn; cases hdn
  have hdH4 : H4 d = none := by rw [upd_ne (Ne.symm hdn2)] at hdn; exact hdn
  have hgd : gp ≠ d := ne_of_none hg4 hdH4
  have hd0 := same_none e4 hdH4
  have e5 : Same H (upd (upd H4 n (NdO P w n [])) d (.dK [])) := Same.mut (Same.mut e4 hn0) hd0
  refine ⟨_, rfl, l, rfl, ⟨_, sl (hl' e5)⟩, for_it walk_list (fun i σ' H' => ∃ (o5 o9 o10 : Option V) (kv : List NKV) (akv : List (Key × V)) (ks : List (List Nat)), σ' = [some (.ref a), some (.ref e), some (.ref l), some (.ref gp), some (nV now), o5, some (nV now), some (.ref n), some (.ref d), o9, o10] ∧ Same H H' ∧ H' gp = some (.dK kvs) ∧
      NdAt P w K H' n kv ∧ H' d = some (.dK akv) ∧ KeysI st g ns i kv akv ks)
    ⟨o5, o9, o10, [], [], [], rfl, e5, by rw [upd_ne hgd, upd_ne hgn]; exact hg4, ⟨by rw [upd_ne hdn2, upd_same]; rfl, fun p hp => nomatch hp⟩, upd_same, ⟨rfl, List.nodup_nil, fun j k h => by simp at h, fun k _ => rfl, fun k h => by simp at h, fun q h => by simp at h, Nat.le_refl _, Nat.le_refl _⟩⟩ (fun i σ' H' _ ⟨_, _, _, _, _, _, _, h2, _⟩ => sl (hl' h2)) ?_ ?_⟩
  · rintro i x σ' H5 H5' hi ⟨o5, o9, o10, kv, akv, ks, rfl, e6, hg6, hn6, hd6, ki⟩ ⟨rfl, hx⟩
    rw [List.getElem?_map] at hx
    obtain ⟨n0, hn0i, rfl⟩ := Option.map_eq_some_iff.mp hx
    have hn0m := List.mem_of_getElem? hn0i
    have hn0l := hlt n0 hn0m
    obtain ⟨r1, r2, r3, r4⟩ := wf.row_ hn0l
    obtain ⟨b, hb1, hb2⟩ := hrow _ _ r1
    refine ⟨_, rfl, _, rfl, gp, nV (g n0), rfl, by rw [← hv n0 hn0m]; exact DGet.k (k := kI n0) hg6, le1, fun t1 ht1 => ?_⟩
    have e7 := e6.trans (same_new ht1 (.tup [nV (g n0)]))
    have hg7 := (same_new ht1 (.tup [nV (g n0)])) _ _ hg6
    refine ⟨_, rfl, _, rfl, a, _, _, _, rfl, rfl, e7.seq hS, atI_nat hb1, b, rfl, ⟨_, e7.seq hb2⟩, fun D hD => lcm walk_list (fun i v => ((rowAt st n0).map nV)[i]? = some v) (fun _ _ _ _ y => y) (fun i y _ => ∃ s, (rowAt st n0)[i]? = some s ∧ y = nV (g s)) (fun _ _ _ _ _ r => r) (by rw [List.length_map, r2]; omega) hD (fun H' e' => e'.seq (e7.seq hb2)) (fun _ => rfl) ?_ ?_⟩
    · intro j y H8 hj hy e8 Q8 q8
      rw [List.getElem?_map] at hy
      obtain ⟨s0, hs0, rfl⟩ := Option.map_eq_some_iff.mp hy
      obtain ⟨c, hc, rfl⟩ := r4 s0 (List.mem_of_getElem? hs0)
      exact ⟨_, rfl, _, rfl, gp, nV (g (nx st n0 c)), rfl, by rw [← hv _ (ld.cl n0 hn0m c hc)]; exact DGet.k (k := kI _) (e8 _ _ hg7), q8 _ _ (Same.refl _) ⟨_, hs0, rfl⟩⟩
    intro ys H8 e8 hys hyl hR
    have ey : ys = ((rowAt st n0).map g).map nV := by
      rw [List.map_map]
      refine eq_map (by rw [hyl, List.length_map]) fun j y s0 h1 h2 => ?_
      obtain ⟨s1, h3, h4⟩ := hR j y h1
      rw [h2] at h3
      cases h3
      exact h4
    subst ey
    refine ⟨D, _, rfl, .inl ⟨sl hys, fun t2 ht2 => ?_⟩⟩
    have e9 := e8.trans (same_new ht2 (.tup (((rowAt st n0).map g).map nV)))
    have hne3 : ((rowAt st n0).map g).map nV ≠ [] := fun z => by
      have := congrArg List.length z
      rw [List.length_map, List.length_map, r2] at this
      simp at this; omega
    refine ⟨t1, t2, _, _, rfl, rfl, Same.tup e9 (K44.st upd_same), K44.st upd_same, by simp, by rw [List.length_map, List.length_map, r2]; show 1 + L ≤ _; exact szl (by omega), fun z => absurd z hne3, fun _ t3 ht3 => ?_⟩
    have e10 := (e7.trans e9).trans (same_new ht3 (.tup ([nV (g n0)] ++ ((rowAt st n0).map g).map nV)))
    have e11 : Same H5' _ := (same_new ht1 (.tup [nV (g n0)])).trans (e9.trans (same_new ht3 (.tup ([nV (g n0)] ++ ((rowAt st n0).map g).map nV))))
    have hk3 : NkAt K (upd (upd H8 t2 (.tup (((rowAt st n0).map g).map nV))) t3 (.tup ([nV (g n0)] ++ ((rowAt st n0).map g).map nV))) (.ref t3) (kN (keyOf st g n0)) := by
      refine ⟨?_, kN_depth _⟩
      rw [kN_data]
      refine .tup (K44.st upd_same) ?_
      exact dps_of_ints (ns := keyOf st g n0)
    have hn7 := hn6.on e11
    have hkl : kv.length ≤ i := by rw [ki.len]; exact ki.klen
    have hil : i < ns.length := by rwa [List.length_map] at hi
    refine ⟨_, rfl, n, rfl, ⟨kv, hn7⟩, _, rfl, _, rfl, n, kv, rfl, hn7, t3, kv, kN (keyOf st g n0), rfl, hn7, hk3, szt (by omega), fun v hv2 => ?_, fun hno => ?_⟩
    · have hmem : keyOf st g n0 ∈ ks := Classical.byContradiction fun z => by rw [ki.out _ z] at hv2; cases hv2
      obtain ⟨j, hj⟩ := List.mem_iff_getElem?.mp hmem
      rw [ki.at_ j _ hj] at hv2
      cases hv2
      refine ⟨_, rfl, _, rfl, d, _, rfl, DPut.k (k := kI n0) (e11 _ _ hd6) (szt (by have := ki.alen; omega)), _, _, _, kv, _, ks, rfl, Same.mut e10 hd0, ?_, ?_, upd_same, ki.old ld.nd hn0i hj⟩
      · rw [upd_ne hgd]; exact e11 _ _ hg6
      · refine ⟨by rw [upd_ne hdn2]; exact hn7.1, fun p hp => ?_⟩
        exact (hn7.2 p hp).tk (TupK.put (e11 _ _ hd6) (fun _ z => nomatch z) fun _ _ z => nomatch z)
    · have hmem : keyOf st g n0 ∉ ks := fun z => by
        obtain ⟨j, hj⟩ := List.mem_iff_getElem?.mp z
        rw [ki.at_ j _ hj] at hno
        cases hno
      rw [nPut_new hno]
      have hd7 := e11 _ _ hd6
      refine ⟨_, rfl, _, rfl, d, _, rfl, DPut.k (k := kI n0) (by rw [upd_ne (Ne.symm hdn2)]; exact hd7) (szt (by have := ki.alen; omega)), _, _, _, kv ++ [(kN (keyOf st g n0), t3, V.int (kv.length : Int))], putK akv (kI n0) (V.int (kv.length : Int)), ks ++ [keyOf st g n0], rfl, Same.mut (Same.mut e10 hn0) hd0, ?_, ?_, upd_same, ?_⟩
      · rw [upd_ne hgd, upd_ne hgn]; exact e11 _ _ hg6
      · refine ⟨by rw [upd_ne hdn2, upd_same]; rfl, fun p hp => ?_⟩
        have tk : TupK (upd (upd H8 t2 (.tup (((rowAt st n0).map g).map nV))) t3 (.tup ([nV (g n0)] ++ ((rowAt st n0).map g).map nV))) _ := (TupK.put (o := NdO P w n (kv ++ [(kN (keyOf st g n0), t3, V.int (kv.length : Int))])) hn7.1 (fun _ z => by unfold NdO at z; cases z) fun _ _ z => by unfold NdO at z; cases z).trans (TupK.put (p := d) (u := .dK akv) (o := .dK (putK akv (kI n0) (V.int (kv.length : Int)))) (by rw [upd_ne (Ne.symm hdn2)]; exact hd7) (fun _ z => nomatch z) fun _ _ z => nomatch z)
        rcases List.mem_append.mp hp with hp | hp
        · exact (hn7.2 p hp).tk tk
        · rw [List.mem_singleton] at hp
          rw [hp]
          exact hk3.tk tk
      · have := ki.new (b := t3) hn0i hmem
        rw [← ki.len] at this
        exact this
  · rintro σ' H5 ⟨o5, o9, o10, kv, akv, ks, rfl, e6, hg6, hn6, hd6, ki⟩
    rw [List.length_map] at ki
    have hal : ∀ q ∈ ns, ∃ j, valV akv (kI q) = some (nV j) ∧ ks[j]? = some (keyOf st g q) := fun q hq => ki.aft q (by rw [List.take_length]; exact hq)
    refine ⟨_, rfl, _, rfl, n, kv, rfl, hn6, le2, fun t ht => ⟨t, _, rfl, K44.st upd_same, rfl, _, _, rfl, _, _, rfl, rfl, ?_⟩⟩
    have e7 := same_new ht (.tup [.ref d, .int ((kv.length : Nat) : Int)])
    let g' : Nat → Nat := fun q => match valV akv (kI q) with
      | some (.int j) => j.toNat
      | _ => 0
    have hg' : ∀ q ∈ ns, valV akv (kI q) = some (nV (g' q)) ∧ ks[g' q]? = some (keyOf st g q) := fun q hq => by
      obtain ⟨j, h1, h2⟩ := hal q hq
      have e : g' q = j := by
        show (match valV akv (kI q) with | some (.int j) => j.toNat | _ => 0) = j
        rw [h1]; rfl
      rw [e]; exact ⟨h1, h2⟩
    have pt' := pt.turn wf ld ki.nd ki.inn fun q hq => (hg' q hq).2
    refine ⟨if now = ks.length then 0 else ns.length + 1 - ks.length, ?_, d, akv, g', now, ks.length, o5, some (.ref n), some (.ref d), o9, o10, by rw [ki.len]; rfl, e6.trans e7, hd0, e7 _ _ hd6, fun q hq => (hg' q hq).1, pt', rfl⟩
    have := pt'.le
    split <;> omega
end
end K44
end
section
set_option maxHeartbeats 4000000
/-! The tables of code objects of the defs that make functions. -/
namespace K44
open PySem PySem.Spec PyProof.Rows L2 LamX NdefX
def nmAll (l c : Nat) : Str :=
  if l = 199 then "by_pairs.<locals>.step" else if l = 202 then "by_pairs.<locals>.is_end_of" else if l = 206 then "joined_of.<locals>.<lambda>" else if l = 209 then "behind_of.<locals>.begun" else
  if l = 212 then "behind_of.<locals>.step" else if l = 216 then "behind_of.<locals>.is_let" else if l = 221 then "rounds_of.<locals>.closed" else if l = 225 then "rounds_of.<locals>.step" else
  if l = 229 then "rounds_of.<locals>.is_let" else if l = 235 then "words_machine.<locals>.step" else if l = 237 then "words_machine.<locals>.<lambda>" else "_law_right.<locals>._law_is_piece"
def TL (K : PySem.W.Frag) : List NTab := tf.map fun p => ((He.cT K p).2, nmAll)
abbrev Tb (K : PySem.W.Frag) (H : Hp) : Prop := TabsN (TL K) H
def TabH (K : PySem.W.Frag) (mg : Str → Option Value) (base : Heap) : Prop := ∀ p ∈ tf, TabB base mg (He.cT K p).1 (He.cT K p).2
theorem tl_nm {K : PySem.W.Frag} {P : Addr} : ∀ p ∈ TL K, p.1 = P → p.2 = nmAll := fun p hp _ => by
  obtain ⟨q, _, rfl⟩ := List.mem_map.mp hp
  rfl
theorem tl_mem {K : PySem.W.Frag} {p : He.Defn} (h : p ∈ tf) : ((He.cT K p).2, nmAll) ∈ TL K := List.mem_map.mpr ⟨p, h, rfl⟩
theorem ExtN.of_same {H H' : Hp} (e : Same H H') : ExtN H H' := fun b o h _ => e b o h
/-! ### what stays though tables grow -/
theorem extN_tup {K : PySem.W.Frag} {H H' : Hp} {a : Addr} {xs : List V} (e : ExtN H H') (h : SqT K H a xs) : SqT K H' a xs := by
  rcases h with (h | ⟨o, h⟩) | h
  · exact .inl (.inl (e _ _ h fun _ z => by cases z))
  · exact .inl (.inr ⟨o, e _ _ h fun _ z => by cases z⟩)
  · exact .inr h
theorem extN_lst {K : PySem.W.Frag} {H H' : Hp} {a : Addr} {xs : List V} (e : ExtN H H') (h : SqL K H a xs) : SqL K H' a xs := by
  rcases h with (h | ⟨o, h⟩) | h
  · exact .inl (.inl (e _ _ h fun _ z => by cases z))
  · exact .inl (.inr ⟨o, e _ _ h fun _ z => by cases z⟩)
  · exact .inr h
mutual
theorem dpN_ {K : PySem.W.Frag} {H H' : Hp} (e : ExtN H H') : ∀ (d : PyData) (v : V), Dp K H v d → Dp K H' v d
  | .none, _, h => by cases h; exact .non
  | .bool _, _, h => by cases h; exact .bl _
  | .int _, _, h => by cases h; exact .int _
  | .str _, _, h => by cases h; exact .str _
  | .list ds, _, h => by
    cases h with
    | lst hs ha => exact .lst (extN_lst e hs) (dpsN_ e ds _ ha)
  | .tuple ds, _, h => by
    cases h with
    | tup hs ha => exact .tup (extN_tup e hs) (dpsN_ e ds _ ha)
  | .dict _, _, h => by cases h
theorem dpsN_ {K : PySem.W.Frag} {H H' : Hp} (e : ExtN H H') : ∀ (ds : List PyData) (vs : List V), DpAll K H vs ds → DpAll K H' vs ds
  | [], _, h => by cases h; exact .nil
  | d :: ds, _, h => by
    cases h with
    | cons h1 h2 => exact .cons (dpN_ e d _ h1) (dpsN_ e ds _ h2)
end
theorem dpN {K : PySem.W.Frag} {H H' : Hp} {v : V} {d : PyData} (h : Dp K H v d) (e : ExtN H H') : Dp K H' v d := dpN_ e d v h
theorem dpsN {K : PySem.W.Frag} {H H' : Hp} {v : List V} {d : List PyData} (h : DpAll K H v d) (e : ExtN H H') : DpAll K H' v d := dpsN_ e d v h
theorem ExtN.imm {H H' : Hp} (e : ExtN H H') : Imm H H' := fun b o h _ n => e b o h n
theorem MachAt.onN {K : PySem.W.Frag} {H H' : Hp} {v : V} {m : Mach} (h : MachAt K H v m) (e : ExtN H H') : MachAt K H' v m := h.imm (ExtN.imm e)
section
variable {P : Program} {w : World} {K : PySem.W.Frag} {mg : Str → Option Value} {base : Heap}
/-- a def of the text that makes functions: its code object is told -/
theorem Cal.ofT {x : Str} {st : Stmt} {dvs : List V} {N ps : List Str} {k : Nat} {sp : Sp} (G : Glo K mg x st dvs) (b : Binds K (fdOf K (He.ga K x)) ps []) (S : FnScope N ps (defScope st)) (len : ∀ vs H Q E, sp vs H Q E → vs.length = ps.length)
    (hbody : ∀ (A : Around) (outer : List Env) (s : Shared) (H : Hp) (vs : List V) (Q : VK) (E : XK), Room k (A.deeper (envOfC x (defScope st) s.heap.objs.size (He.ga K x) (.ref (He.codeOf K (x, none))))) → sp vs H Q E →
      ∃ t, PSs (cxOf CX0 P w K mg base N x (defScope st) (He.ga K x) (.ref (He.codeOf K (x, none))) A outer s H E).nox (defBody st) t ∧ t { nx := fun _ H' => Q .non H', rt := Q } (start N vs) H) :
    Cal P w K mg base (k + 1) x ps sp := by
  obtain ⟨oc, od, dV, kV, doc, pm, an, cdv, ct, osl, e, lk, hcd, _, _⟩ := G.F.ex
  obtain ⟨c, rfl⟩ := He.codeIn_ref hcd
  have hc : He.codeOf K (x, none) = c := He.codeOf_eq (p := (x, none)) lk (by rw [e])
  refine ⟨?_, G.g, G.F.kp, b⟩
  rw [e] at lk ⊢
  refine fn_of lk hcd S len fun A outer s H vs Q E hr h => ?_
  rw [← hc] at hr ⊢
  obtain ⟨t, h1, h2⟩ := hbody A outer s H vs Q E hr h
  exact ⟨t, h1.nox, h2⟩
end
end K44
end
section
set_option maxHeartbeats 4000000
/-! A set of short tuples of small ints, sorted, whatever their lengths. -/
namespace K44
open PySem PySem.Spec PyProof.Rows L2
def Sm (ns : List Int) : Prop := ns.length ≤ 2 ∧ ∀ x ∈ ns, 0 ≤ x ∧ x ≤ 2
/-- a rank that tells the tuples' order -/
def rk : List Int → Int
  | [] => 0
  | [a] => 1 + 4 * a
  | a :: b :: _ => 2 + 4 * a + b
def lexB (z : Bool) : List Int → List Int → Bool
  | a :: as, b :: bs => if a = b then lexB z as bs else decide (a < b)
  | _, _ => z
theorem lexB_rk {ns ms : List Int} (h : Sm ns) (k : Sm ms) : lexB (decide (ns.length < ms.length)) ns ms = decide (rk ns < rk ms) := by
  obtain ⟨h1, h2⟩ := h
  obtain ⟨k1, k2⟩ := k
  match ns, ms, h1, h2, k1, k2 with
  | [], [], _, _, _, _ => rfl
  | [], [c], _, _, _, k2 =>
    have := k2 c (by simp)
    show decide _ = decide _
    congr 1
    simp [rk]; omega
  | [], [c, d], _, _, _, k2 =>
    have := k2 c (by simp)
    have := k2 d (by simp)
    show decide _ = decide _
    congr 1
    simp [rk]; omega
  | [a], [], _, h2, _, _ =>
    have := h2 a (by simp)
    show decide _ = decide _
    congr 1
    simp [rk]; omega
  | [a, b], [], _, h2, _, _ =>
    have := h2 a (by simp)
    have := h2 b (by simp)
    show decide _ = decide _
    congr 1
    simp [rk]; omega
  | [a], [c], _, h2, _, k2 =>
    have := h2 a (by simp)
    have := k2 c (by simp)
    show (if a = c then decide _ else decide (a < c)) = decide _
    by_cases e : a = c
    · rw [if_pos e]; congr 1; simp [rk] <;> omega
    · rw [if_neg e]; congr 1; simp [rk] <;> omega
  | [a], [c, d], _, h2, _, k2 =>
    have := h2 a (by simp)
    have := k2 c (by simp)
    have := k2 d (by simp)
    show (if a = c then decide _ else decide (a < c)) = decide _
    by_cases e : a = c
    · rw [if_pos e]; congr 1; simp [rk] <;> omega
    · rw [if_neg e]; congr 1; simp [rk] <;> omega
  | [a, b], [c], _, h2, _, k2 =>
    have := h2 a (by simp)
    have := h2 b (by simp)
    have := k2 c (by simp)
    show (if a = c then decide _ else decide (a < c)) = decide _
    by_cases e : a = c
    · rw [if_pos e]; congr 1; simp [rk] <;> omega
    · rw [if_neg e]; congr 1; simp [rk] <;> omega
  | [a, b], [c, d], _, h2, _, k2 =>
    have := h2 a (by simp)
    have := h2 b (by simp)
    have := k2 c (by simp)
    have := k2 d (by simp)
    show (if a = c then (if b = d then decide _ else decide (b < d)) else decide (a < c)) = decide _
    by_cases e : a = c
    · rw [if_pos e]
      by_cases f : b = d
      · rw [if_pos f]; congr 1; simp [rk]; omega
      · rw [if_neg f]; congr 1; simp [rk]; omega
    · rw [if_neg e]; congr 1; simp [rk]; omega
section
variable {P : Program} {w : World} {A : Around} {E : Value → Shared → Prop} {s : Shared}
theorem kat_lexB {fin : Bool} : ∀ {xs ys : List Value} {ns ms : List Int}, IntsAre xs ns → IntsAre ys ms → ∀ (i : Nat) {Q : Bool → Shared → Prop}, Q (lexB fin ns ms) s → PySem.W.KatLex P w A true fin Q (xs.zip ys) i s
  | _, _, _, _, .nil, _, _, _, h => by rw [List.zip_nil_left]; exact h
  | _, _, _, _, .cons n t hi, .nil, _, _, h => h
  | _, _, _, _, .cons n t hi, .cons m u hj, i, Q, h => by
    show wpAny (model P w) A (eqBool (.int n t) (.int m u)) (fun e s' => if e = true then PySem.W.KatLex P w A true fin Q _ (i + 1) s' else wpAny (model P w) A (oneLt' (true && i == 0) (.int n t) (.int m u)) Q (fun _ _ => False) s') (fun _ _ => False) s
    refine wpAny_eqBool_int ?_
    by_cases e : n = m
    · rw [if_pos (by simp [e])]
      refine kat_lexB hi hj (i + 1) ?_
      have h2 : Q (if n = m then lexB fin _ _ else decide (n < m)) s := h
      rw [if_pos e] at h2
      exact h2
    · rw [if_neg (by simp [e])]
      have h2 : Q (if n = m then lexB fin _ _ else decide (n < m)) s := h
      rw [if_neg e] at h2
      exact oneLt_any_int h2
theorem lexAt_B {z : Bool} : ∀ (ns ms : List Int) (e r : Nat → Bool), (∀ j (h1 : j < ns.length) (h2 : j < ms.length), e j = decide (ns[j] = ms[j]) ∧ r j = decide (ns[j] < ms[j])) → Ob.lexAt e r z 0 (min ns.length ms.length) = lexB z ns ms
  | [], ms, e, r, _ => by rw [List.length_nil, Nat.zero_min]; rfl
  | _ :: _, [], e, r, _ => by rw [List.length_nil, Nat.min_zero]; rfl
  | n :: ns, m :: ms, e, r, h => by
    have h0 := h 0 (by simp) (by simp)
    have ih := lexAt_B (z := z) ns ms (fun j => e (j + 1)) (fun j => r (j + 1)) fun j h1 h2 => by
      have := h (j + 1) (by simpa using h1) (by simpa using h2)
      simpa using this
    have sh : ∀ (k i : Nat), Ob.lexAt e r z (i + 1) k = Ob.lexAt (fun j => e (j + 1)) (fun j => r (j + 1)) z i k := by
      intro k
      induction k with
      | zero => intro i; rfl
      | succ k ih => intro i; rw [Ob.lexAt_succ, Ob.lexAt_succ, ih]
    have em : min (n :: ns).length (m :: ms).length = min ns.length ms.length + 1 := by simp only [List.length_cons]; omega
    rw [em, Ob.lexAt_succ, h0.1, h0.2, sh, ih]
    show (if decide (n = m) = true then lexB z ns ms else decide (n < m)) = (if n = m then lexB z ns ms else decide (n < m))
    by_cases q : n = m <;> simp [q]
theorem tups_facts {xs ys : Array Value} {ns ms : List Int} (ix : IntsAre xs.toList ns) (iy : IntsAre ys.toList ms) (A : Around) (s : Shared) :
    (∀ j (h1 : j < xs.size) (h2 : j < ys.size), SeqAt.EqAt A s xs[j] ys[j] (decide (ns.getD j 0 = ms.getD j 0))) ∧ (∀ j (h1 : j < xs.size) (h2 : j < ys.size), decide (ns.getD j 0 = ms.getD j 0) = false → Ob.RcOp .Lt A s xs[j] ys[j] (decide (ns.getD j 0 < ms.getD j 0))) ∧
    Ob.lexAt (fun j => decide (ns.getD j 0 = ms.getD j 0)) (fun j => decide (ns.getD j 0 < ms.getD j 0)) (decide (xs.size < ys.size)) 0 (min xs.size ys.size) = lexB (decide (ns.length < ms.length)) ns ms := by
  have lx := ix.length
  have ly := iy.length
  rw [Array.length_toList] at lx ly
  have vx : ∀ j (h : j < xs.size) (h2 : j < ns.length), ∃ t, xs[j] = .int ns[j] t := fun j h h2 => by
    obtain ⟨t, e⟩ := IntsAre.int_at ix j xs[j] (by rw [Array.getElem?_toList]; exact Array.getElem?_eq_getElem h)
    rw [List.getD_eq_getElem?_getD, List.getElem?_eq_getElem h2] at e
    exact ⟨t, e⟩
  have vy : ∀ j (h : j < ys.size) (h2 : j < ms.length), ∃ t, ys[j] = .int ms[j] t := fun j h h2 => by
    obtain ⟨t, e⟩ := IntsAre.int_at iy j ys[j] (by rw [Array.getElem?_toList]; exact Array.getElem?_eq_getElem h)
    rw [List.getD_eq_getElem?_getD, List.getElem?_eq_getElem h2] at e
    exact ⟨t, e⟩
  refine ⟨fun j h1 h2 => ?_, fun j h1 h2 _ => ?_, ?_⟩
  · obtain ⟨t, e⟩ := vx j h1 (by omega)
    obtain ⟨u, f⟩ := vy j h2 (by omega)
    rw [e, f]
    have := SeqAt.EqAt.int_int (A := A) (s := s) (ns[j]'(by omega)) t (ms[j]'(by omega)) u
    refine SeqAt.EqAt.cast this ?_
    have g1 : ns.getD j 0 = ns[j]'(by omega) := by simp [List.getD_eq_getElem?_getD, show j < ns.length by omega]
    have g2 : ms.getD j 0 = ms[j]'(by omega) := by simp [List.getD_eq_getElem?_getD, show j < ms.length by omega]
    rw [g1, g2]
    by_cases q : ns[j]'(by omega) = ms[j]'(by omega)
    · rw [decide_eq_true q]; exact beq_iff_eq.mpr q
    · rw [decide_eq_false q]; exact beq_eq_false_iff_ne.mpr q
  · obtain ⟨t, e⟩ := vx j h1 (by omega)
    obtain ⟨u, f⟩ := vy j h2 (by omega)
    rw [e, f]
    have := Ob.RcOp.lt_int (A := A) (s := s) (ns[j]'(by omega)) (ms[j]'(by omega)) t u
    simpa [List.getD_eq_getElem?_getD, show j < ns.length by omega, show j < ms.length by omega] using this
  · rw [lx, ly]
    exact lexAt_B ns ms _ _ fun j h1 h2 => by simp [List.getD_eq_getElem?_getD, h1, h2]
theorem lt_tups {a b : Addr} {xs ys : Array Value} {ns ms : List Int} (hx : IsTup s.heap a xs) (hy : IsTup s.heap b ys) (ix : IntsAre xs.toList ns) (iy : IntsAre ys.toList ms) (hu : A.units < cLine) : Ob.RcOp .Lt A s (.ref a) (.ref b) (lexB (decide (ns.length < ms.length)) ns ms) := by
  obtain ⟨f1, f2, f3⟩ := tups_facts ix iy A.in1 s
  rw [← f3]
  exact Ob.RcOp.tuples_lt hx hy hu f1 f2
/-- the three ways of a sort's question -/
theorem cmp_tup (hu : A.units < cLine) {v u : Value} {ns ms : List Int} (x : TS.TupInts s.heap v ns) (y : TS.TupInts s.heap u ms) (hn : Sm ns) (hm : Sm ms) {Q : Bool → Shared → Prop} (h : Q (decide (rk ns < rk ms)) s) :
    wpAny (model P w) A (keyLt' (tuples' true) v u) Q E s ∧ wpAny (model P w) A (keyLt' general' v u) Q E s ∧ wpAny (model P w) A (keyLt' oneType' v u) Q E s := by
  rw [← lexB_rk hn hm] at h
  obtain ⟨a, xs, rfl, hx, ix⟩ := x
  obtain ⟨b, ys, rfl, hy, iy⟩ := y
  have lt := lt_tups hx hy ix iy hu
  have lx := ix.length
  have ly := iy.length
  rw [Array.length_toList] at lx ly
  refine ⟨?_, ?_, ?_⟩
  · obtain ⟨o, ho, hc, n, hd⟩ := hx
    obtain ⟨o', ho', hc', n', hd'⟩ := hy
    refine PySem.W.kat_lt ho hd ho' hd' ?_
    rw [lx, ly]
    exact kat_lexB ix iy 0 h
  · show wpAny _ _ (oneLt' false (.ref a) (.ref b)) _ _ _
    rw [oneLt'_eq]
    simp only [Bool.false_eq_true, if_false]
    exact wpAny_bind (lt P w _ _ (wpAny_truthy_bool h))
  · show wpAny _ _ (oneLt' true (.ref a) (.ref b)) _ _ _
    rw [oneLt'_eq]
    simp only [if_true]
    refine wpAny_bind (wpAny_cRoomFor_or (.inr hu) ?_)
    obtain ⟨f1, f2, f3⟩ := tups_facts ix iy A.in1 s
    rw [← f3] at h
    obtain ⟨⟨cls, dd, data, sl⟩, ho, hc, n, hd⟩ := hx
    obtain ⟨⟨cls2, dd2, data2, sl2⟩, ho2, hc2, n2, hd2⟩ := hy
    simp only at hc hd hc2 hd2
    subst hc hd hc2 hd2
    refine wpAny_bind (wpAny_callSpecialIfBound?_slot ⟨_, ho, rfl⟩ F.slot_tuple_lt (call_meets F.slot_tuple_lt ⟨_, ho, rfl⟩ F.entry_tuple_lt (F.args_tuple_lt_2 _ _) (Ob.tuple_ltAt a b xs ys n n2 dd dd2 sl sl2 _ _) ⟨ho, ho2, f1, f2, ?_⟩))
    exact wpAny_truthy_bool h
/-- the firsts of tuples, an empty one among them -/
theorem firsts_sm (h : Heap) : ∀ (vs : List Value), (∀ v ∈ vs, ∃ ns, TS.TupInts h v ns) → ∃ os : List (Option Value), os.length = vs.length ∧ (∀ v ∈ os.filterMap id, ∃ n t, v = Value.int n t) ∧
    ∀ (s : Shared) (A : Around) (E : Value → Shared → Prop) (Q : List (Option Value) → Shared → Prop), s.heap = h → Q os s → wpAny (model P w) A (vs.mapM firstOfTuple') Q E s
  | [], _ => ⟨[], rfl, fun v e => by simp at e, fun s A E Q _ hq => by rw [List.mapM_nil]; exact wpAny_pure hq⟩
  | v :: vs, hv => by
    obtain ⟨os, h1, h2, h3⟩ := firsts_sm h vs fun u hu => hv u (List.mem_cons_of_mem _ hu)
    obtain ⟨ns, t⟩ := hv v List.mem_cons_self
    have tt := t
    obtain ⟨a, xs, rfl, ⟨o, ho, hc, n, hd⟩, ix⟩ := t
    have lx := ix.length
    rw [Array.length_toList] at lx
    refine ⟨xs[0]? :: os, by simp [h1], fun u hu => ?_, fun s A E Q es hq => ?_⟩
    · cases e0 : xs[0]? with
      | none =>
        rw [e0] at hu
        exact h2 u (by simpa using hu)
      | some z =>
        rw [e0] at hu
        have hu2 : u = z ∨ u ∈ os.filterMap id := by simpa using hu
        rcases hu2 with rfl | hu2
        · obtain ⟨t, e⟩ := IntsAre.int_at ix 0 u (by rw [Array.getElem?_toList]; exact e0)
          exact ⟨_, t, e⟩
        · exact h2 u hu2
    · subst es
      rw [List.mapM_cons]
      refine wpAny_bind ?_
      rw [PySem.W.kas_first_eq]
      refine wpAny_bind (PySem.W.Looks.here (show PySem.W.Looks (model P w) s.heap (typeOf (.ref a)) o.cls from (PySem.W.Looks.ld ho).andThen .now) ?_)
      rw [hc, if_neg (by first | decide | simp)]
      refine wpAny_bind (listItems_at ho hd (wpAny_pure ?_))
      exact wpAny_bind (h3 s A E _ rfl (wpAny_pure hq))
theorem kind_sm (hu : A.units < cLine) {vs : List Value} (x : ∀ v ∈ vs, ∃ ns, TS.TupInts s.heap v ns ∧ Sm ns) (h2 : 2 ≤ vs.length) (Q : SortKind → Shared → Prop)
    (h : ∀ κ, TS.Cmp P w A s κ (pairsOf vs) (fun v => rk (TS.intsOf s.heap v)) → Q κ s) : wpAny (model P w) A (keyKind' vs.toArray) Q E s := by
  obtain ⟨os, l1, l2, l3⟩ := firsts_sm (P := P) (w := w) s.heap vs fun v hv => let ⟨ns, t, _⟩ := x v hv; ⟨ns, t⟩
  have cmp : ∀ κ, (κ = tuples' true ∨ κ = general' ∨ κ = oneType') → TS.Cmp P w A s κ (pairsOf vs) (fun v => rk (TS.intsOf s.heap v)) := fun κ hκ p q hp hq Q' E' hQ => by
    rw [pairsOf_toList] at hp hq
    obtain ⟨ns, tp, bp⟩ := x _ (mem_zip_self hp).2
    obtain ⟨ms, tq, bq⟩ := x _ (mem_zip_self hq).2
    have hQ' : Q' (decide (rk ns < rk ms)) s := by
      have hQ : Q' (decide (rk (TS.intsOf s.heap p.1) < rk (TS.intsOf s.heap q.1))) s := hQ
      rw [tp.ints, tq.ints] at hQ
      exact hQ
    obtain ⟨c1, c2, c3⟩ := cmp_tup (P := P) (w := w) (A := A) (E := E') hu tp tq bp bq hQ'
    rcases hκ with rfl | rfl | rfl
    · exact c1
    · exact c2
    · exact c3
  rw [kat_kind_eq, List.mapM_toArray, map_eq_pure_bind]
  refine wpAny_bind (wpAny_bind (l3 s A E _ rfl (wpAny_pure ?_)))
  by_cases hall : (os.toArray.all fun x => x.isSome) = true
  · rw [if_pos hall]
    refine wpAny_bind (wpAny_rule ?_)
    have hfm : (os.toArray.filterMap id) = (os.filterMap id).toArray := by simp
    have hall2 : ∀ o ∈ os, o.isSome = true := by simpa using hall
    have hlen : (os.filterMap id).length = os.length := by
      clear hfm l1 l2 l3 hall
      induction os with
      | nil => rfl
      | cons o os ih =>
        have ho := hall2 o List.mem_cons_self
        cases o with
        | none => cases ho
        | some z =>
          have := ih fun o ho => hall2 o (List.mem_cons_of_mem _ ho)
          simp at this ⊢
          exact this
    rw [hfm, oneTypeOnly'_eq, List.mapM_toArray, map_eq_pure_bind]
    refine wpAny_bind (wpAny_bind (wpAny_bind (PySem.W.kas_mapM (r := Value.type "int") _ (fun v hv Q' hq => ?_) (wpAny_pure ?_))))
    · obtain ⟨n, t, rfl⟩ := l2 v hv
      exact (PySem.W.Looks.of_pure (M := model P w) (h := s.heap) rfl).here hq
    · have hpos : 0 < (os.filterMap id).length := by omega
      obtain ⟨z, zs, ez⟩ : ∃ z zs, os.filterMap id = z :: zs := by
        cases q : os.filterMap id with
        | nil => rw [q] at hpos; simp at hpos
        | cons z zs => exact ⟨z, zs, rfl⟩
      rw [ez]
      have ha : ((List.map (fun _ => Value.type "int") (z :: zs)).toArray.all fun x => x == Value.type "int") = true := by
        simp only [List.all_toArray, List.all_map, List.all_eq_true]
        intro _ _
        rfl
      have h0 : (List.map (fun _ => Value.type "int") (z :: zs)).toArray[0]? = some (Value.type "int") := by simp
      rw [h0]
      simp only [ha, if_true]
      exact wpAny_pure (wpAny_pure (h _ (cmp _ (.inl rfl))))
  · rw [if_neg hall]
    by_cases hf : ((os.toArray[0]?).bind id).isSome = true
    · rw [if_pos hf]
      exact wpAny_pure (h _ (cmp _ (.inr (.inl rfl))))
    · rw [if_neg hf, oneTypeOnly'_eq, List.mapM_toArray, map_eq_pure_bind]
      refine wpAny_bind (wpAny_bind (wpAny_bind (PySem.W.kas_mapM (r := Value.type "tuple") _ (fun v hv Q' hq => ?_) (wpAny_pure ?_))))
      · obtain ⟨ns, ⟨a, xs, rfl, ⟨o, ho, hc, _⟩, _⟩, _⟩ := x v hv
        have lk : PySem.W.Looks (model P w) s.heap (typeOf (.ref a)) o.cls := (PySem.W.Looks.ld ho).andThen .now
        rw [hc] at lk
        exact lk.here hq
      · obtain ⟨z, zs, ez⟩ : ∃ z zs, vs = z :: zs := by
          cases q : vs with
          | nil => rw [q] at h2; simp at h2
          | cons z zs => exact ⟨z, zs, rfl⟩
        rw [ez]
        have ha : ((List.map (fun _ => Value.type "tuple") (z :: zs)).toArray.all fun x => x == Value.type "tuple") = true := by
          simp only [List.all_toArray, List.all_map, List.all_eq_true]
          intro _ _
          rfl
        have h0 : (List.map (fun _ => Value.type "tuple") (z :: zs)).toArray[0]? = some (Value.type "tuple") := by simp
        rw [h0]
        simp only [ha, if_true]
        exact wpAny_pure (wpAny_pure (h _ (cmp _ (.inr (.inr rfl)))))
theorem sort_sm {a : Addr} {vs : List Value} {n : Nat} {Q : Value → Shared → Prop} (hu : A.units + 1 < cLine) (ho : s.heap.get? a = some (seqObj "list" vs.toArray n)) (h64 : vs.length < 64) (x : ∀ v ∈ vs, ∃ ns, TS.TupInts s.heap v ns ∧ Sm ns)
    (h : ∀ out : Array Value, out.toList.Perm vs → Q .none { s with heap := sortedHeap s.heap a vs out }) : wpAny (model P w) A (call (.builtin "list.sort") [.ref a]) Q E s := by
  refine wpAny_call_entry slot_list_sort ⟨_, ho, rfl⟩ entry_list_sort ?_ (args_list_sort _)
  have keep : ∀ b o, s.heap.get? b = some o → o.cls = .type "tuple" → (TS.midHeap s.heap a vs).get? b = some o := fun b o e hc => by
    refine TS.midHeap_old ?_ e
    rintro rfl
    rw [ho] at e
    have e' : seqObj "list" vs.toArray n = o := Option.some.inj e
    rw [← e'] at hc
    have c' : Value.type "list" = Value.type "tuple" := hc
    injection c' with c''
    exact absurd c'' (by decide)
  have x' : ∀ v ∈ vs, ∃ ns, TS.TupInts (TS.midHeap s.heap a vs) v ns ∧ Sm ns := fun v hv => let ⟨ns, t, b⟩ := x v hv; ⟨ns, t.keeps keep, b⟩
  refine SK.plain_sort (r := fun v => rk (TS.intsOf (TS.midHeap s.heap a vs) v)) ho h64 (fun h2 Q hQ => ?_) fun ps out h1 h2 h3 => ⟨_, rfl, ?_⟩
  · exact kind_sm (s := { s with heap := TS.midHeap s.heap a vs }) (by simpa using hu) x' h2 Q hQ
  · obtain ⟨p, _⟩ := TS.out_rank (r := fun v => rk (TS.intsOf (TS.midHeap s.heap a vs) v)) h1 h2 h3
    exact h out p
end
end K44
namespace K44
open PySem PySem.Spec PyProof.Rows L2
section
variable {P : Program} {w : World} {A : Around} {E : Value → Shared → Prop} {s : Shared}
theorem sorted_setM {a : Addr} {L : List (Addr × List Int)} {es : Array (Int × Value)} {ep : Nat} {t : SetTable} {Q : Value → Shared → Prop} (R : SetTR P w s.heap a L es ep t) (hh : A.handled = none) (hu : A.units + 64 < cLine) (hB : ∀ p ∈ L, Sm p.2)
    (hQ : ∀ s' p (out : Array Value) (c : Nat) (L' : List (Addr × List Int)), (∀ b o, s.heap.get? b = some o → s'.heap.get? b = some o) → s'.gens = s.gens → s'.os = s.os → s.heap.objs.size ≤ p →
      s'.heap.get? p = some (seqObj "list" out c) → out.toList = L'.map (fun q => Value.ref q.1) → L'.Perm L → Q (.ref p) s') :
    wpAny (model P w) A (call (.builtin "sorted") [.ref a]) Q E s := by
  obtain ⟨o, ho, hex, hd⟩ := R.ob
  have hsz := R.size
  have hfew := R.few
  refine Calls.call_function_entry kind_sorted plain_sorted entry_sorted (args_sorted1 _) ?_
  unfold Builtin.«sorted»
  refine wpAny_bind (m := checkCount "sorted" 1 1 _) (wpAny_pure ?_)
  refine wpAny_bind (collect_set (A := A.in1) hh ⟨o, ho, hex.1, hd⟩ R.fits (by unfold scanBound; omega) R.tab.ris R.led fun s1 vs k1 hz g1 o1 pm => ?_)
  have hes : es.toList.map (·.2) = L.map fun q => Value.ref q.1 := by
    rw [R.rows]
    unfold rowsOf
    rw [List.map_map] <;> rfl
  rw [hes] at pm
  have ord : ∀ us : List Value, (∀ v ∈ us, ∃ q ∈ L, v = Value.ref q.1) → ∃ L1 : List (Addr × List Int), us = L1.map (fun q => Value.ref q.1) ∧ ∀ q ∈ L1, q ∈ L := by
    intro us hus
    induction us with
    | nil => exact ⟨[], rfl, fun q hq => nomatch hq⟩
    | cons u us ih =>
      obtain ⟨q, hq, e⟩ := hus u List.mem_cons_self
      obtain ⟨L1, e1, hs⟩ := ih fun v hv => hus v (List.mem_cons_of_mem _ hv)
      exact ⟨q :: L1, by rw [List.map_cons, e, e1], fun r hr => (List.mem_cons.mp hr).elim (fun z => z ▸ hq) (hs r)⟩
  have one : ∀ q ∈ L, ∀ r ∈ L, q.1 = r.1 → q = r := fun q hq r hr e => by
    have a1 := R.tup q hq
    have a2 := R.tup r hr
    rw [e] at a1
    exact Prod.ext e (a1.inj a2)
  have perm_of : ∀ L1 : List (Addr × List Int), (∀ q ∈ L1, q ∈ L) → (L1.map (fun q => Value.ref q.1)).Perm (L.map fun q => Value.ref q.1) → L1.Perm L := by
    intro L1 hs pm1
    have nL : L.Nodup := nodup_of_map R.nd
    have nref : (L.map fun q => Value.ref q.1).Nodup := List.pairwise_map.mpr (List.Pairwise.imp_of_mem (fun {q r} hq hr hne e => by
      injection e with e
      exact hne (one q hq r hr e)) nL)
    have n1 : L1.Nodup := nodup_of_map (pm1.nodup_iff.mpr nref)
    refine (List.perm_ext_iff_of_nodup n1 nL).mpr fun q => ⟨hs q, fun hq => ?_⟩
    obtain ⟨r, hr, e⟩ := List.mem_map.mp (pm1.mem_iff.mpr (List.mem_map.mpr ⟨q, hq, rfl⟩))
    injection e with e
    rw [← one r (hs r hr) q hq e]
    exact hr
  have hvl : vs.length < 64 := by rw [pm.length_eq, List.length_map]; exact hfew
  refine wpAny_bind (wpAny_newList ?_ (by rw [sizeLine_eq]; omega))
  have hoL : (s1.heap.push (seqObj "list" vs.toArray 0)).get? s1.heap.objs.size = some (seqObj "list" vs.toArray 0) := Heap.get?_push_size _ rfl
  have x : ∀ v ∈ vs, ∃ ns, TS.TupInts (s1.heap.push (seqObj "list" vs.toArray 0)) v ns ∧ Sm ns := fun v hv => by
    obtain ⟨q, hq, e⟩ := List.mem_map.mp (pm.mem_iff.mp hv)
    rw [← e]
    exact ⟨q.2, tupInts_of (P := P) (w := w) (isT_keep (R.tup q hq) fun b u e => Heap.get?_push_of_some _ (k1 b u e)), hB q hq⟩
  refine wpAny_bind (wpAny_holding (sort_sm (s := { s1 with heap := s1.heap.push (seqObj "list" vs.toArray 0) }) (by simp only [Around.in1_units]; omega) hoL hvl x fun out a1 => ?_))
  obtain ⟨c, hc⟩ := sortedHeap_at (vs := vs) (out := out) hoL
  obtain ⟨L', e', hs'⟩ := ord out.toList fun v hv => by
    obtain ⟨q, hq, e⟩ := List.mem_map.mp (pm.mem_iff.mp (a1.mem_iff.mp hv))
    exact ⟨q, hq, e.symm⟩
  have pL : L'.Perm L := perm_of L' hs' (by rw [← e']; exact a1.trans pm)
  refine wpAny_pure ⟨_, rfl, hQ _ s1.heap.objs.size out c L' (fun b u e => ?_) g1 o1 hz hc e' pL⟩
  have q := k1 b u e
  have hlt := Heap.lt_size q
  show (sortedHeap (s1.heap.push (seqObj "list" vs.toArray 0)) s1.heap.objs.size vs out).get? b = some u
  rw [sortedHeap_old (Nat.ne_of_lt hlt) (by rw [size_push']; exact Nat.lt_succ_of_lt hlt)]
  exact Heap.get?_push_of_some _ q
end
/-- sorted(set of short tuples) -/
def rSortedM (K : PySem.W.Frag) (P : Program) (w : World) : List V → Hp → VK → Prop := fun vs H Q => ∃ (a : Addr) (L : List (Addr × List Int)), vs = [V.ref a] ∧ H a = some (SetTO P w a L) ∧ (∀ p ∈ L, SqT K H p.1 (p.2.map V.int)) ∧ (∀ p ∈ L, Sm p.2) ∧
  ∀ (L' : List (Addr × List Int)) (p : Addr), L'.Perm L → L'.length < 64 → H p = none → Q (.ref p) (upd H p (.lst (L'.map fun q => V.ref q.1)))
theorem cr_sortedM {X : Cx} (hc : X.calm = true) (hu : X.A.units + 64 < cLine) : CallR X (.builtin "sorted") (rSortedM X.K X.prog X.w) := by
  intro pins s σ H vs us Q I r h
  obtain ⟨a, L, rfl, ha, hk, hB, q⟩ := h
  have R0 : SetT0 X.prog X.w s.heap a L := (I.hok a _ ha).1
  obtain ⟨es, ep, t, R⟩ := R0.full fun p hp => I.isT (hk p hp)
  rw [Vals.ref1 r]
  refine sorted_setM R (I.ok.hd hc) hu hB fun s' p out c L' k g o hp hg hout pm => ?_
  have hfew : L'.length < 64 := by rw [pm.length_eq]; exact R.few
  have hlen : (L'.map fun q => V.ref q.1).length ≤ sizeLine := by rw [List.length_map, sizeLine_eq]; omega
  have hn : H p = none := I.hok.fresh hp
  have hv : Vals (L'.map fun q => V.ref q.1) out.toList := by rw [hout]; exact vals_of_refs L'
  have J : Inv X pins σ (upd H p (.lst (L'.map fun q => V.ref q.1))) { s with heap := s'.heap, gens := s'.gens, drawn := s'.drawn, toks := s'.toks } :=
    I.call (ch := []) (Un.laid k hp hn) (I.hok.laid k hp ⟨hlen, out.toList, c, hv, hg⟩) (by rw [g]; exact I.bare) (fun _ z => nomatch z)
  have e : s' = { s with heap := s'.heap, gens := s'.gens, drawn := s'.drawn, toks := s'.toks } := by
    cases s'
    cases s
    cases o
    rfl
  rw [e]
  exact ⟨.ref p, _, J, rfl, q L' p pm hfew hn⟩
end K44
end
section
set_option maxHeartbeats 4000000
/-! Rules that tell K, for a comprehension's parts. -/
namespace K44
open PySem PySem.Spec PyProof.Rows L2
section
variable {X : Cx} {K : PySem.W.Frag}
theorem pi_listK {tg e : Expr} {te : TE} (he : PE X e te) (h : X.K = K := by rfl) : PI X tg e (iList K te) := h ▸ pi_list he
theorem pi_tupK {tg e : Expr} {te : TE} (he : PE X e te) (h : X.K = K := by rfl) : PI X tg e (iTup K te) := h ▸ pi_tup he
theorem pg_tupK {es : List Expr} {k : Nat} {pos : Pos} {t : TGs} {n : Nat} (hc : X.calm = true) (hp : PGs X es t) (h : X.K = K := by rfl)
    (hn : (assignEach es X.env).length = n := by rfl) (hst : (assignEach es X.env).findIdx? (·.1) = none := by rfl) : PG X (.Tuple es k pos) (gTup K n t) := h ▸ pg_tup hc hp hn hst
def rTupOf (K : PySem.W.Frag) : List V → Hp → VK → Prop := fun xs H Q => ∃ p ys, xs = [.ref p] ∧ ((SqL K H p ys ∧ ∀ l, H l = none → Q (.ref l) (upd H l (.tup ys))) ∨ (SqT K H p ys ∧ Q (.ref p) H))
theorem call_tuple_ofK (h : X.K = K := by rfl) : CallR X (.type "tuple") (rTupOf K) := h ▸ call_tuple_of
theorem op_eqDK (hu : X.A.units + 64 < cLine) (h : X.K = K := by rfl) : OpR X (compareOp .Eq) (rEqD K) := h ▸ op_eqD hu
theorem sl_tupAK (h : X.K = K := by rfl) : SlR X (rSlA K) := h ▸ sl_tupA
/-- x in t, t a tuple of data -/
def rInDT (K : PySem.W.Frag) : R2 := fun x y H Q => ∃ d ds, Dp K H x d ∧ Dp K H y (.tuple ds) ∧ SeqAt.shaped d = true ∧ SeqAt.shaped (.tuple ds) = true ∧ Q (.bl (ds.any fun z => PyData.eqv z d)) H
theorem op_inDT (hu : X.A.units + 65 < cLine) : OpR X (compareOp .In) (rInDT X.K) := by
  intro pins s σ H x y v u Q I rx ry h
  obtain ⟨d, ds, hd, he, sd, se, q⟩ := h
  obtain ⟨as, r1⟩ := Dp.reads I d x v hd rx
  obtain ⟨bs, r2⟩ := Dp.reads I (.tuple ds) y u he ry
  exact SeqAt.in_tuple_reads r2 r1 (SeqAt.canLay_of_shaped se) (SeqAt.canLay_of_shaped sd) (room_in_shaped sd hu) ⟨.bl _, H, I, rfl, q⟩
def rLenSeq (K : PySem.W.Frag) : List V → Hp → VK → Prop := fun xs H Q => ∃ p ys, xs = [.ref p] ∧ (SqL K H p ys ∨ SqT K H p ys) ∧ Q (.int ys.length) H
theorem call_lenK (h : X.K = K := by rfl) : CallR X (.builtin "len") (rLenSeq K) := h ▸ call_len_seq
end
/-- a block's scope as it runs in a def of the scope outer -/
def relS (scope outer : Scope) : Scope := PySem.relabel scope { scope := outer, locals := 0, globals := 0, cells := [], qual := "", func := none, code := .none, frame := none, builtins := 0 }
/-- a list comprehension's scope -/
def lcS : Expr → Scope
  | .ListComp _ _ sc _ => sc
  | _ => default
def lcE : Expr → Expr
  | .ListComp e _ _ _ => e
  | e => e
def arg0 : Expr → Expr
  | .Call _ (e :: _) _ _ => e
  | e => e
def asgV : Stmt → Expr
  | .Assign _ e _ => e
  | .Return (some e) _ => e
  | .Expr e _ => e
  | _ => .Name "?" ⟨0, 0, 0, 0⟩
end K44
end
section
set_option maxHeartbeats 4000000
namespace K44
open PySem PySem.Spec PyProof.Rows L2
abbrev sgLF : List Str := ["steps", "ends", "states", "kept", "end", "group", "heads", "state", "order", "at", "place", "spot", "one", "told"]
def scTold : Scope := relS (lcS (arg0 (asgV ((defBody s_least_form).getD 9 (.Pass ⟨0, 0, 0, 0⟩))))) (defScope s_least_form)
theorem find_snoc {α : Type} {p : α → Bool} {l : List α} {a : α} : (l ++ [a]).find? p = (l.find? p).or (if p a = true then some a else none) := by
  rw [List.find?_append]
  congr 1
  by_cases ha : p a = true
  · rw [List.find?_cons_of_pos ha, if_pos ha]
  · rw [List.find?_cons_of_neg ha, if_neg ha]; rfl
theorem dps_of {K : PySem.W.Frag} {H : Hp} : ∀ {ds : List PyData} {ys : List V}, ys.length = ds.length → (∀ (i : Nat) y d, ys[i]? = some y → ds[i]? = some d → Dp K H y d) → DpAll K H ys ds
  | [], [], _, _ => .nil
  | [], _ :: _, h, _ => by simp at h
  | _ :: _, [], h, _ => by simp at h
  | d :: ds, y :: ys, h, f => .cons (f 0 y d rfl rfl) (dps_of (by simpa using h) fun i y' d' h1 h2 => f (i + 1) y' d' (by simpa using h1) (by simpa using h2))
section
variable {P : Program} {w : World} {K : PySem.W.Frag} {mg : Str → Option Value} {base : Heap}
def mD (m : Mach) : PyData := .tuple [rowsD m.st, nsD m.en]
def sp_least_form (K : PySem.W.Frag) : Sp := fun vs H Q _ => ∃ (L : Nat) (st : MRows) (en : List Nat) (v u : V), vs = [v, u] ∧ Dp K H v (stepsD st) ∧ Dp K H u (lsD en) ∧ WF L st en ∧ 1 ≤ L ∧ L ≤ 3 ∧ st.length ≤ 300000 ∧ en.length ≤ 300000 ∧
  (∀ m, MSpec L (fun w => runS st 0 w ∈ en) m → m.st.length ≤ 1000) ∧ ∀ v' H' m, Same H H' → Dp K H' v' (mD m) → MSpec L (fun w => runS st 0 w ∈ en) m → Q v' H'
set_option maxHeartbeats 8000000 in
theorem c_least_form (T : Txt K mg) : Cal P w K mg base 2 "least_form" ["steps", "ends"] (sp_least_form K) := by
  have S : FnScope sgLF ["steps", "ends"] (defScope s_least_form) := fsc (by decide +kernel)
  refine Cal.of T.g_least_form T.b_least_form S (fun vs H Q E h => ?_) fun cdv A outer s H vs Q E hr h => ?_
  · obtain ⟨L, st, en, v, u, rfl, _⟩ := h; rfl
  have hu1 := hr.units
  have hu2 := Nat.lt_of_le_of_lt (Nat.add_le_add_left (show 1 ≤ 64 by decide) _) hu1
  obtain ⟨L, st, en, v, u, rfl, hd, hen, wf, hL1, hL, hz, hze, few, q⟩ := h
  refine ⟨_, pss_cons (ps_asg (pe_tup (pa_cons (pc (c_led_to T) hr (pa_cons (pv 0) pa_nil)) (pa_cons pe_dnewK pa_nil))) (pg_tup (by rfl) (pgs_cons (pg_name (i := 2) S.nd rfl (.inl rfl)) (pgs_cons (pg_name (i := 3) S.nd rfl (.inr rfl)) pgs_nil))))
    (pss_cons (ps_for PassesOwn.never rfl (pi_list (pv 1)) (pg_name (i := 4) S.nd rfl (.inl rfl)) (pss_one (ps_dput hu2 (pv 3) (pv 4) pe_bl rfl)))
    (pss_cons (ps_set (i := 5) S.nd rfl (.inr rfl) (pc (c_parted T) hr (pa_cons (pv 0) (pa_cons (pv 3) (pa_cons (pv 2) pa_nil)))))
    (pss_cons (ps_set (i := 6) S.nd rfl (.inr rfl) pe_dnewK)
    (pss_cons (ps_for PassesOwn.never rfl (pi_list (pv 2)) (pg_name (i := 7) S.nd rfl (.inl rfl)) (pss_one (ps_expr (pe_dsetd (pv 6) (pe_dget hu2 (pv 5) (pv 7) (fun _ _ => rfl)) (pv 7) ⟨rfl, rfl, rfl, rfl⟩))))
    (pss_cons (ps_par (i := 8) (j := 9) (by rfl) S.nd rfl rfl (by decide) rfl rfl (pa_cons (pe_lst (pa_cons (pe_dget hu2 (pv 5) pe_int (fun _ _ => rfl)) pa_nil)) (pa_cons pe_int pa_nil)) (by rfl))
    (pss_cons (ps_while PassesOwn.never (pt_cmpR op_lt (pv 9) (pe_callB call_len_seq rfl T.zlen boot_len (pa_cons (pv 8) pa_nil)) (nomark _))
      (pss_cons (ps_for PassesOwn.never rfl (pi_list (pe_ix ix_list (pv 0) (pe_dget hu2 (pv 6) (pe_ix ix_list (pv 8) (pv 9) (fun _ _ => rfl)) (fun _ _ => rfl)) (fun _ _ => rfl))) (pg_name (i := 7) S.nd rfl (.inl rfl))
        (pss_one (ps_if (pt_cmpR op_notIn_seq (pe_dget hu2 (pv 5) (pv 7) (fun _ _ => rfl)) (pv 8) rfl) (pss_one (ps_expr (pe_bm PySem.F.plainAttrs_list PySem.F.slot_list_append PySem.F.type_list_append mt_append (pv 8) (pa_cons (pe_dget hu2 (pv 5) (pv 7) (fun _ _ => rfl)) pa_nil)))) pss_nil)))
      (pss_one (ps_set (i := 9) S.nd rfl (.inl rfl) (pe_op op_add (pv 9) pe_int)))))
    (pss_cons (ps_set (i := 10) S.nd rfl (.inr rfl) pe_dnewK)
    (pss_cons (ps_for PassesOwn.never rfl (pi_enum rfl T.zenumerate (pa_cons (pv 8) pa_nil)) (pg_tup (by rfl) (pgs_cons (pg_name (i := 11) S.nd rfl (.inl rfl)) (pgs_cons (pg_name (i := 12) S.nd rfl (.inl rfl)) pgs_nil))) (pss_one (ps_dput hu2 (pv 10) (pv 12) (pv 11) rfl)))
    (pss_cons (ps_set (i := 13) S.nd rfl (.inl rfl) (pe_callTy call_tuple_of rfl T.ztuple (by decide +kernel) (pa_cons (pe_lc (own := [("one", 12)]) (g := gName 12) (tt := tYes) rfl S.nd (pi_list (pv 8)) (blkOk_by (N := sgLF) (sc := defScope s_least_form) (by decide +kernel))
        (fun _ _ _ _ _ => pg_name (i := 12) S.nd rfl (Or.inl rfl)) (fun _ _ _ _ _ => pts_nil)
        (fun _ _ _ _ _ => pe_callTy (call_tuple_ofK (K := K)) rfl T.ztuple (by decide +kernel) (pa_cons (pe_lc (own := [("state", 7)]) (g := gName 7) (tt := tYes) rfl S.nd (pi_listK (K := K) (pe_ix (ix_listK (K := K)) (pv 0) (pe_dget hu2 (pv 6) (pv 12) (fun _ _ => rfl)) (fun _ _ => rfl))) (blkOk_by (N := sgLF) (sc := scTold) (by decide +kernel))
          (fun _ _ _ _ _ => pg_name (i := 7) S.nd rfl (Or.inl rfl)) (fun _ _ _ _ _ => pts_nil) (fun _ _ _ _ _ => pe_dget hu2 (pv 10) (pe_dget hu2 (pv 5) (pv 7) (fun _ _ => rfl)) (fun _ _ => rfl))) pa_nil))) pa_nil)))
    (pss_one (ps_ret (pe_tup (pa_cons (pv 13) (pa_cons (pe_callTy call_tuple_of rfl T.ztuple (by decide +kernel) (pa_cons (pe_lc (own := [("spot", 11), ("one", 12)]) (g := gTup K 2 (gCons (gName 11) (gCons (gName 12) gNil))) rfl S.nd (pi_enum rfl T.zenumerate (pa_cons (pv 8) pa_nil)) (blkOk_by (N := sgLF) (sc := defScope s_least_form) (by decide +kernel))
        (fun _ _ _ _ _ => pg_tupK (by rfl) (pgs_cons (pg_name (i := 11) S.nd rfl (.inl rfl)) (pgs_cons (pg_name (i := 12) S.nd rfl (.inl rfl)) pgs_nil))) (fun _ _ _ _ _ => pts_one (pt_cmp (pc_din hu2 (pe_dget hu2 (pv 6) (pv 12) (fun _ _ => rfl)) (pv 3)) rfl)) (fun _ _ _ _ _ => pv 11)) pa_nil)) pa_nil)))))))))))))), ?_⟩
  obtain ⟨a, xs, rfl, hS, hSl, hrow⟩ := dp_steps hd
  obtain ⟨b, ys, rfl, hbL, hy⟩ := dp_lst hen
  have ey := dps_ints hy
  subst ey
  refine ⟨_, rfl, L, st, en, _, rfl, hd, wf, hL, hz, fun l H1 ns e1 hl ld kp hkp => ⟨le2, fun t ht => ⟨t, _, rfl, K44.st upd_same, rfl, _, _, rfl, _, _, rfl, rfl, ?_⟩⟩⟩
  have hlt := ld.lt wf
  have hnl : ns.length ≤ st.length := ld.len wf
  have e2 : Same H1 (upd (upd H1 kp (.dK [])) t (.tup [.ref l, .ref kp])) := (same_new hkp _).trans (same_new ht _)
  have hkt : kp ≠ t := fun z => by rw [← z, upd_same] at ht; cases ht
  refine ⟨_, rfl, b, rfl, ⟨_, (e1.trans e2).seq hbL⟩, for_it walk_list (fun i σ' H' => ∃ (o : Option V) (kvs : List (Key × V)), σ' = [some (.ref a), some (.ref b), some (.ref l), some (.ref kp), o, none, none, none, none, none, none, none, none, none] ∧ Same H1 H' ∧ H' kp = some (.dK kvs) ∧ (∀ q : Nat, (valV kvs (kI q)).isSome = decide (q ∈ en.take i)) ∧ kvs.length ≤ i)
    ⟨none, [], rfl, e2, by rw [upd_ne hkt, upd_same], fun q => by simp [valV], Nat.le_refl _⟩ (fun i σ' H' _ ⟨_, _, _, h2, _⟩ => (e1.trans h2).seq hbL) ?_ ?_⟩
  · rintro i x σ' H' H'' hi ⟨o, kvs, rfl, e3, hk, hv, hkl⟩ ⟨rfl, hx⟩
    rw [List.getElem?_map] at hx
    obtain ⟨n, hn, rfl⟩ := Option.map_eq_some_iff.mp hx
    rw [List.length_map] at hi
    refine ⟨_, rfl, _, rfl, kp, _, rfl, DPut.k (k := kI n) hk (szt (by omega)), some (nV n), _, rfl, Same.mut e3 hkp, upd_same, fun q => ?_, len_of hkl⟩
    rw [valV_put, List.take_add_one, hn]
    by_cases e : q = n
    · rw [if_pos (by rw [e])]; simp [e]
    · rw [if_neg fun z => e (kI_inj z), hv q]
      simp [e]
  rintro σ' H2 ⟨o4, kvs, rfl, e3, hk, hv, hkl⟩
  rw [List.length_map, List.take_length] at hv
  have e13 := e1.trans e3
  refine ⟨_, rfl, _, rfl, _, rfl, L, st, en, ns, .ref a, kp, l, kvs, rfl, dpOn hd e13, wf, hL1, hL, hz, ld, hk, hv, e3 _ _ hl, fun gp H3 g now gkv e4 hg hgv pt => ?_⟩
  refine fun hp hhp => ?_
  have hl3 : ∀ {H' : Hp}, Same H3 H' → H' l = some (.lst (ns.map nV)) := fun e => e _ _ (e4 _ _ (e3 _ _ hl))
  have hk3 : ∀ {H' : Hp}, Same H3 H' → H' kp = some (.dK kvs) := fun e => e _ _ (e4 _ _ hk)
  have hkv3 := hv
  have e5 := same_new hhp (.dK [])
  refine ⟨_, rfl, l, rfl, ⟨_, sl (hl3 e5)⟩, for_it walk_list (fun i σ' H' => ∃ (o : Option V) (hkv : List (Key × V)), σ' = [some (.ref a), some (.ref b), some (.ref l), some (.ref kp), o4, some (.ref gp), some (.ref hp), o, none, none, none, none, none, none] ∧ Same H3 H' ∧ H' hp = some (.dK hkv) ∧ (∀ v : Nat, valV hkv (kI v) = ((ns.take i).find? fun q => decide (g q = v)).map nV) ∧ hkv.length ≤ i)
    ⟨none, [], rfl, e5, upd_same, fun v => rfl, Nat.le_refl _⟩ (fun i σ' H' _ ⟨_, _, _, h2, _⟩ => sl (hl3 h2)) ?_ ?_⟩
  · rintro i x σ' H' H'' hi ⟨o, hkv, rfl, e6, hh, hhv, hhl⟩ ⟨rfl, hx⟩
    rw [List.getElem?_map] at hx
    obtain ⟨n, hn, rfl⟩ := Option.map_eq_some_iff.mp hx
    have hnm := List.mem_of_getElem? hn
    rw [List.length_map] at hi
    have fs : ∀ v : Nat, ((ns.take (i + 1)).find? fun q => decide (g q = v)) = ((ns.take i).find? fun q => decide (g q = v)).or (if decide (g n = v) = true then some n else none) := fun v => by
      rw [List.take_add_one, hn, Option.toList_some]; exact find_snoc (p := fun q => decide (g q = v))
    refine ⟨_, rfl, hp, rfl, .inl ⟨_, .inl hh⟩, _, rfl, _, rfl, gp, nV (g n), rfl, by rw [← hgv n hnm]; exact DGet.k (k := kI n) (e6 _ _ hg), _, rfl, hkv, kI (g n), hh, rfl, szt (by omega), fun v0 hv0 => ⟨some (nV n), hkv, rfl, e6, hh, fun v => ?_, by omega⟩, fun hno => ⟨some (nV n), _, rfl, Same.mut e6 hhp, upd_same, fun v => ?_, len_of hhl⟩⟩
    · rw [fs v, hhv v]
      cases hf : (ns.take i).find? (fun q => decide (g q = v)) with
      | some q0 => rfl
      | none =>
        by_cases e : g n = v
        · rw [hhv, e, hf] at hv0; cases hv0
        · simp [e]
    · rw [valV_put, fs v]
      rw [hhv] at hno
      by_cases e : v = g n
      · subst e
        rw [if_pos rfl, Option.map_eq_none_iff.mp hno]
        simp
      · rw [if_neg fun z => e (kI_inj z), hhv v]
        cases hf : (ns.take i).find? (fun q => decide (g q = v)) with
        | some q0 => rfl
        | none =>
          have e2 : ¬ g n = v := fun z => e z.symm
          rw [decide_eq_false e2]; rfl
  rintro σ' H4 ⟨o7, hkv, rfl, e6, hh, hhv, hhl⟩
  rw [List.length_map, List.take_length] at hhv
  let hdf : Nat → Nat := fun v => (ns.find? fun q => decide (g q = v)).getD 0
  have hdv : ∀ v : Nat, (∃ q ∈ ns, g q = v) → valV hkv (kI v) = some (nV (hdf v)) ∧ hdf v ∈ ns ∧ g (hdf v) = v := fun v ⟨q, hq, e⟩ => by
    cases hf : ns.find? (fun q => decide (g q = v)) with
    | none => exact absurd (decide_eq_true e) (List.find?_eq_none.mp hf q hq)
    | some q0 =>
      have e0 : hdf v = q0 := by show (ns.find? fun q => decide (g q = v)).getD 0 = q0; rw [hf]; rfl
      rw [e0]
      exact ⟨by rw [hhv, hf]; rfl, List.mem_of_find?_eq_some hf, of_decide_eq_true (List.find?_some (p := fun q => decide (g q = v)) hf)⟩
  have hg4 := e6 _ _ hg
  have hdp : ∀ {H' : Hp}, Same H3 H' → Same H H' := fun e => (e13.trans e4).trans e
  let suc : Nat → List Nat := fun v => (rowAt st (hdf v)).map g
  let R : Nat → Prop := fun v => ∃ w, Wd L w ∧ g (runS st 0 w) = v
  have ofR : ∀ v, R v → ∃ q ∈ ns, g q = v := fun v ⟨w, hw, e⟩ => ⟨_, ld.run ld.zero hw, e⟩
  have Rsuc : ∀ v, R v → ∀ x ∈ suc v, R x := fun v hv x hx => by
    obtain ⟨_, h2, h3⟩ := hdv v (ofR v hv)
    obtain ⟨s0, hs0, rfl⟩ := List.mem_map.mp hx
    obtain ⟨c, hc, rfl⟩ := (wf.row_ (hlt _ h2)).2.2.2 s0 hs0
    obtain ⟨w, hw, e⟩ := ld.rch _ h2
    exact ⟨w ++ [c], hw.app fun d hd => by rw [List.mem_singleton] at hd; exact hd ▸ hc, by rw [runS_app, e]; rfl⟩
  refine ⟨_, rfl, gp, nV (g 0), rfl, by rw [← hgv 0 ld.zero]; exact DGet.k (k := kI 0) hg4, le1, fun ol hol => ⟨_, _, rfl, ?_⟩⟩
  have e7 : Same H3 (upd H4 ol (.lst [nV (g 0)])) := e6.trans (same_new hol _)
  have hol3 := same_none e6 hol
  have hho : hp ≠ ol := ne_of_none hh hol
  refine ⟨fun m σ' H' => ∃ (found : List Nat) (k : Nat) (o : Option V), σ' = [some (.ref a), some (.ref b), some (.ref l), some (.ref kp), o4, some (.ref gp), some (.ref hp), o, some (.ref ol), some (nV k), none, none, none, none] ∧ Same H3 H' ∧ H' hp = some (.dK hkv) ∧ H' ol = some (.lst (found.map nV)) ∧ Bfs suc R (g 0) found k ∧ m + k = st.length + 1,
    ⟨st.length + 1, [g 0], 0, o7, rfl, e7, by rw [upd_ne hho]; exact hh, upd_same, Bfs.init ⟨[], Wd.nil, rfl⟩, by omega⟩, ?_⟩
  rintro m σ' H' ⟨found, k, o, rfl, e8, hh8, hf, bf, hm⟩
  have hfl : found.length ≤ st.length := by
    have := nodup_len (m := ns.map g) bf.nd fun v hv => by
      obtain ⟨q0, hq0, e⟩ := ofR v (bf.rch v hv)
      exact List.mem_map.mpr ⟨q0, hq0, e⟩
    rw [List.length_map] at this
    omega
  refine ⟨_, rfl, _, rfl, ol, _, rfl, .inl (sl hf), _, _, rfl, rfl, _, rfl, ?_⟩
  rw [List.length_map]
  by_cases hk9 : k < found.length
  case pos =>
    have hv9 : found[k]? = some found[k] := List.getElem?_eq_getElem hk9
    obtain ⟨h91, h92, h93⟩ := hdv _ (ofR _ (bf.rch _ (List.getElem_mem hk9)))
    obtain ⟨r1, r2, r3, r4⟩ := wf.row_ (hlt _ h92)
    obtain ⟨b1, hb1, hb2⟩ := hrow _ _ r1
    have eh8 := hdp e8
    refine ifT (decide_eq_true (by omega)) ⟨fun σ2 H2 => ∃ m', m' < m ∧ ∃ (found : List Nat) (k : Nat) (o : Option V), σ2 = [some (.ref a), some (.ref b), some (.ref l), some (.ref kp), o4, some (.ref gp), some (.ref hp), o, some (.ref ol), some (nV k), none, none, none, none] ∧ Same H3 H2 ∧ H2 hp = some (.dK hkv) ∧ H2 ol = some (.lst (found.map nV)) ∧ Bfs suc R (g 0) found k ∧ m' + k = st.length + 1, fun σ2 H2 h => h, ?_⟩
    refine ⟨_, rfl, _, rfl, _, rfl, _, rfl, ol, _, _, _, rfl, rfl, sl hf, atI_nat (by rw [List.getElem?_map, hv9]; rfl), hp, nV (hdf found[k]), rfl, by rw [← h91]; exact DGet.k (k := kI _) hh8, a, _, _, _, rfl, rfl, eh8.seq hS, atI_nat hb1, ?_⟩
    refine ⟨b1, rfl, ⟨_, eh8.seq hb2⟩, for_it walk_list (fun i σ2 H2 => ∃ o2, σ2 = [some (.ref a), some (.ref b), some (.ref l), some (.ref kp), o4, some (.ref gp), some (.ref hp), o2, some (.ref ol), some (nV k), none, none, none, none] ∧ Same H3 H2 ∧ H2 hp = some (.dK hkv) ∧ H2 ol = some (.lst ((addAll found ((suc found[k]).take i)).map nV)))
      ⟨o, rfl, e8, hh8, hf⟩ (fun i σ2 H2 _ ⟨o2, _, h2, _⟩ => (hdp h2).seq hb2) ?_ ?_⟩
    · rintro i x σ2 H2 H2' hi ⟨o2, rfl, e9, hh9, hl9⟩ ⟨rfl, hx⟩
      rw [List.getElem?_map] at hx
      obtain ⟨n, hn, rfl⟩ := Option.map_eq_some_iff.mp hx
      obtain ⟨c, hc, hnc⟩ := r4 n (List.mem_of_getElem? hn)
      have hnm : n ∈ ns := by rw [hnc]; exact ld.cl _ h92 c hc
      have e3' : (suc found[k]).take (i + 1) = (suc found[k]).take i ++ [g n] := by
        rw [List.take_add_one]
        show _ ++ (((rowAt st (hdf found[k])).map g)[i]?).toList = _
        rw [List.getElem?_map, hn]; rfl
      have hgn : DGet H2' gp (nV n) (some (nV (g n))) := by rw [← hgv n hnm]; exact DGet.k (k := kI n) (e9 _ _ hg)
      refine ⟨_, rfl, _, rfl, gp, nV (g n), rfl, hgn, _, rfl, ol, _, rfl, .inl (sl hl9), rfl, flat_nats, _, rfl, ?_⟩
      have hin : inV (nV (g n)) ((addAll found ((suc found[k]).take i)).map nV) = decide (g n ∈ addAll found ((suc found[k]).take i)) := inV_nat
      show if (!inV (nV (g n)) _) = true then _ else _
      rw [hin]
      by_cases hm2 : g n ∈ addAll found ((suc found[k]).take i)
      · refine ifF (by rw [decide_eq_true hm2]; rfl) ⟨_, rfl, e9, hh9, ?_⟩
        rw [e3', addAll_snoc]
        unfold add1
        rw [if_pos hm2]
        exact hl9
      · refine ifT (by rw [decide_eq_false hm2]; rfl) ⟨_, rfl, .inl ⟨rfl, _, sl hl9⟩, _, rfl, _, rfl, gp, nV (g n), rfl, hgn, ol, _, _, rfl, rfl, hl9, ?_, _, rfl, Same.mut e9 hol3, by rw [upd_ne hho]; exact hh9, ?_⟩
        · have := nodup_len (m := ns.map g) (nodup_addAll (row := (suc found[k]).take i) bf.nd) fun v hv => by
            rcases mem_addAll.mp hv with h | h
            · obtain ⟨q0, hq0, e⟩ := ofR v (bf.rch v h)
              exact List.mem_map.mpr ⟨q0, hq0, e⟩
            · obtain ⟨q0, hq0, e⟩ := ofR v (Rsuc _ (bf.rch _ (List.getElem_mem hk9)) v (List.mem_of_mem_take h))
              exact List.mem_map.mpr ⟨q0, hq0, e⟩
          rw [List.length_map] at this
          rw [List.length_map]
          exact szt (by omega)
        · rw [upd_same, e3', addAll_snoc]
          unfold add1
          rw [if_neg hm2, List.map_append]
          rfl
    · rintro σ2 H2 ⟨o2, rfl, e9, hh9, hl9⟩
      have el : ((rowAt st (hdf found[k])).map nV).length = (suc found[k]).length := by
        show _ = ((rowAt st (hdf found[k])).map g).length
        rw [List.length_map, List.length_map]
      rw [el, List.take_length] at hl9
      exact ⟨_, rfl, _, _, rfl, rfl, m - 1, by omega, addAll found (suc found[k]), k + 1, o2, rfl, e9, hh9, hl9, bf.step (Rsuc _ (bf.rch _ (List.getElem_mem hk9))) hv9, by omega⟩
  refine ifF (by rw [decide_eq_false_iff_not]; omega) ?_
  have at_le : found.length ≤ k := by omega
  -- the places
  refine fun pp hpp => ?_
  have e10 : Same H3 (upd H' pp (.dK [])) := e8.trans (same_new hpp _)
  have hpp3 := same_none e8 hpp
  have hpo : ol ≠ pp := ne_of_none hf hpp
  have hph : hp ≠ pp := ne_of_none hh8 hpp
  refine ⟨_, rfl, ol, _, rfl, sl (by rw [upd_ne hpo]; exact hf), for_it walk_enum (fun i σ2 H2 => ∃ (o1 o2 : Option V) (pkv : List (Key × V)), σ2 = [some (.ref a), some (.ref b), some (.ref l), some (.ref kp), o4, some (.ref gp), some (.ref hp), o, some (.ref ol), some (nV k), some (.ref pp), o1, o2, none] ∧ Same H3 H2 ∧ H2 hp = some (.dK hkv) ∧ H2 ol = some (.lst (found.map nV)) ∧ H2 pp = some (.dK pkv) ∧
      (∀ j v, j < i → found[j]? = some v → valV pkv (kI v) = some (nV j)) ∧ pkv.length ≤ i)
    ⟨none, none, [], rfl, e10, by rw [upd_ne hph]; exact hh8, by rw [upd_ne hpo]; exact hf, upd_same, fun j v h => absurd h (Nat.not_lt_zero _), Nat.le_refl _⟩ (fun i σ2 H2 _ ⟨_, _, _, _, _, _, h4, _⟩ => sl h4) ?_ ?_⟩
  · rintro i x σ2 H2 H2' hi ⟨o1, o2, pkv, rfl, e11, hh11, hf11, hp11, hpv, hpl⟩ ⟨T, x1, y1, rfl, hT, rfl, hx1, hy1⟩
    cases hx1
    have hy1 : (found.map nV)[i]? = some y1 := hy1
    rw [List.getElem?_map] at hy1
    obtain ⟨n, hn, rfl⟩ := Option.map_eq_some_iff.mp hy1
    have e12 := same_new hT (.tup [.int (i : Nat), nV n])
    refine ⟨T, _, rfl, K44.st upd_same, rfl, _, _, rfl, _, _, rfl, rfl, _, rfl, _, rfl, _, rfl, pp, _, rfl, DPut.k (k := kI n) (e12 _ _ hp11) (szt (by rw [List.length_map] at hi; omega)), _, _, _, rfl, Same.mut (e11.trans e12) hpp3, by rw [upd_ne hph]; exact e12 _ _ hh11, by rw [upd_ne hpo]; exact e12 _ _ hf11, upd_same, fun j v hj hjv => ?_, len_of hpl⟩
    rw [valV_put]
    by_cases e : v = n
    · subst e
      obtain ⟨l1, q1⟩ := List.getElem?_eq_some_iff.mp hjv
      obtain ⟨l2, q2⟩ := List.getElem?_eq_some_iff.mp hn
      have := (List.getElem_inj bf.nd).mp (q1.trans q2.symm)
      rw [if_pos rfl, this]; rfl
    · have : j ≠ i := fun z => by rw [z, hn] at hjv; exact e (Option.some.inj hjv).symm
      rw [if_neg fun z => e (kI_inj z)]
      exact hpv j v (by omega) hjv
  rintro σ2 H2 ⟨o1, o2, pkv, rfl, e11, hh11, hf11, hp11, hpv, hpl⟩
  rw [List.length_map] at hpv
  have hpv' : ∀ j v, found[j]? = some v → valV pkv (kI v) = some (nV j) := fun j v h => hpv j v (List.getElem?_eq_some_iff.mp h).1 h
  let pl : Nat → Nat := fun v => match valV pkv (kI v) with
    | some (.int j) => j.toNat
    | _ => 0
  have hpl' : ∀ j v, found[j]? = some v → pl v = j := fun j v h => by
    show (match valV pkv (kI v) with | some (.int j) => j.toNat | _ => 0) = j
    rw [hpv' j v h]; rfl
  have spec := least_spec wf ld pt (hd := hdf) (pl := pl) (fun q0 hq0 => let h := hdv _ ⟨q0, hq0, rfl⟩; ⟨h.2.1, h.2.2⟩) bf at_le hpl'
  have hfew : found.length ≤ 1000 := by
    have := few _ spec
    rwa [List.length_map] at this
  have plv : ∀ v ∈ found, valV pkv (kI v) = some (nV (pl v)) := fun v hv => by
    obtain ⟨j, hj⟩ := List.mem_iff_getElem?.mp hv
    rw [hpl' j v hj]; exact hpv' j v hj
  have inf : ∀ v, R v → v ∈ found := fun v ⟨w, hw, e⟩ => by
    subst e
    have all : ∀ w, Wd L w → g (runS st 0 w) ∈ found := by
      intro w
      refine snoc_ind (P := fun w => Wd L w → g (runS st 0 w) ∈ found) (fun _ => List.mem_of_getElem? bf.hd) (fun u c ih hw => ?_) w
      rw [runS_app]
      have hu := ih hw.left
      have hc : c < L := hw.right c (List.mem_singleton.mpr rfl)
      have hq := ld.run ld.zero hw.left
      obtain ⟨_, k2, k3⟩ := hdv _ ⟨_, hq, rfl⟩
      have m := bf.closed at_le _ hu (g (nx st (hdf (g (runS st 0 u))) c)) (List.mem_map.mpr ⟨_, List.mem_of_getElem? ((wf.row_ (hlt _ k2)).2.2.1 c hc), rfl⟩)
      rw [pt.stab rfl _ k2 _ hq k3 c hc] at m
      exact m
    exact all w hw
  -- the told rows
  refine ⟨_, rfl, ol, rfl, ⟨_, sl hf11⟩, fun D hD => lcm walk_list (fun i v => (found.map nV)[i]? = some v) (fun _ _ _ _ y => y) (fun i y Hy => ∃ v, found[i]? = some v ∧ Dp K Hy y (nsD ((rowAt st (hdf v)).map fun s => pl (g s)))) (fun i y Ha Hb im ⟨v, h1, h2⟩ => ⟨v, h1, dpImm im _ _ (noL_ns _) h2⟩) (by rw [List.length_map]; omega) hD (fun H' e' => sl (e' _ _ hf11)) (fun _ => rfl) ?_ ?_⟩
  · intro i x H5 hi hx e12 Q5 q5
    rw [List.getElem?_map] at hx
    obtain ⟨v, hv, rfl⟩ := Option.map_eq_some_iff.mp hx
    have hvm := List.mem_of_getElem? hv
    obtain ⟨k1, k2, k3⟩ := hdv v (ofR v (bf.rch v hvm))
    obtain ⟨r1, r2, r3, r4⟩ := wf.row_ (hlt _ k2)
    obtain ⟨b1, hb1, hb2⟩ := hrow _ _ r1
    have e13 := hdp (e11.trans e12)
    refine ⟨_, rfl, _, rfl, _, rfl, hp, nV (hdf v), rfl, by rw [← k1]; exact DGet.k (k := kI v) (e12 _ _ hh11), a, _, _, _, rfl, rfl, e13.seq hS, atI_nat hb1, b1, rfl, ⟨_, e13.seq hb2⟩, fun D2 hD2 => lcm walk_list (fun i z => ((rowAt st (hdf v)).map nV)[i]? = some z) (fun _ _ _ _ y => y) (fun i y _ => ∃ s, (rowAt st (hdf v))[i]? = some s ∧ y = nV (pl (g s))) (fun _ _ _ _ _ r => r) (by rw [List.length_map, r2]; omega) hD2 (fun H' e' => e'.seq (e13.seq hb2)) (fun _ => rfl) ?_ ?_⟩
    · intro j y H8 hj hy e14 Q8 q8
      rw [List.getElem?_map] at hy
      obtain ⟨s0, hs0, rfl⟩ := Option.map_eq_some_iff.mp hy
      obtain ⟨c, hc, rfl⟩ := r4 s0 (List.mem_of_getElem? hs0)
      have hnm := ld.cl _ k2 c hc
      have e15 := e11.trans (e12.trans e14)
      have hin : g (nx st (hdf v) c) ∈ found := inf _ (let ⟨w, hw, e⟩ := ld.rch _ hnm; ⟨w, hw, by rw [e]⟩)
      exact ⟨_, rfl, _, rfl, _, rfl, gp, _, rfl, by rw [← hgv _ hnm]; exact DGet.k (k := kI _) (e15 _ _ hg), pp, _, rfl, by rw [← plv _ hin]; exact DGet.k (k := kI _) ((e12.trans e14) _ _ hp11), q8 _ _ (Same.refl _) ⟨_, hs0, rfl⟩⟩
    · intro zs H8 e14 hzs hzl hR
      have ez : zs = ((rowAt st (hdf v)).map fun s => pl (g s)).map nV := by
        rw [List.map_map]
        refine eq_map (by rw [hzl, List.length_map]) fun j y s0 h1 h2 => ?_
        obtain ⟨s1, h3, h4⟩ := hR j y h1
        rw [h2] at h3
        cases h3
        exact h4
      subst ez
      refine ⟨D2, _, rfl, .inl ⟨sl hzs, fun t2 ht2 => q5 _ _ (Same.new e14 ht2 _) ⟨v, hv, .tup (K44.st upd_same) dps_of_ints⟩⟩⟩
  · intro zs H5 e12 hzs hzl hR
    rw [List.length_map] at hzl
    refine ⟨D, _, rfl, .inl ⟨sl hzs, fun t2 ht2 => ?_⟩⟩
    have e13 := same_new ht2 (.tup zs)
    have hrows : Dp K (upd H5 t2 (.tup zs)) (.ref t2) (rowsD (found.map fun v => (rowAt st (hdf v)).map fun s => pl (g s))) := by
      refine .tup (K44.st upd_same) (dps_of (by rw [List.length_map, List.length_map, hzl]) fun i y d h1 h2 => ?_)
      obtain ⟨v, h3, h4⟩ := hR i y h1
      rw [List.getElem?_map, List.getElem?_map, h3] at h2
      cases h2
      exact dpOn h4 e13
    have e14 := (e11.trans e12).trans e13
    have hf14 := (e12.trans e13) _ _ hf11
    have hh14 := (e12.trans e13) _ _ hh11
    refine ⟨_, rfl, _, rfl, ol, _, rfl, sl hf14, fun D2 hD2 => lc_it walk_enum (fun i H' => ∃ acc : List Nat, Same (upd H5 t2 (.tup zs)) H' ∧ H' D2 = some (.lst (acc.map nV)) ∧ acc = (List.range i).filter fun j => decide (hdf (found.getD j 0) ∈ en)) ⟨[], same_new hD2 _, upd_same, rfl⟩ (fun i H' _ ⟨_, h, _⟩ => sl (h _ _ hf14)) ?_ ?_⟩
    · rintro i x H6 H6' hi ⟨acc, e15, hacc, hae⟩ ⟨T, x1, y1, rfl, hT, rfl, hx1, hy1⟩
      cases hx1
      have hy1 : (found.map nV)[i]? = some y1 := hy1
      rw [List.getElem?_map] at hy1
      obtain ⟨n, hn, rfl⟩ := Option.map_eq_some_iff.mp hy1
      have e16 := same_new hT (.tup [.int (i : Nat), nV n])
      have e17 := e15.trans e16
      obtain ⟨k1, k2, k3⟩ := hdv n (ofR n (bf.rch n (List.mem_of_getElem? hn)))
      have en1 : (List.range (i + 1)).filter (fun j => decide (hdf (found.getD j 0) ∈ en)) = (List.range i).filter (fun j => decide (hdf (found.getD j 0) ∈ en)) ++ (if hdf n ∈ en then [i] else []) := by
        rw [List.range_succ, List.filter_append]
        have eg : found.getD i 0 = n := by rw [List.getD_eq_getElem?_getD, hn]; rfl
        have ep : decide (hdf (found.getD i 0) ∈ en) = decide (hdf n ∈ en) := by rw [eg]
        congr 1
        by_cases h : hdf n ∈ en
        · rw [if_pos h, List.filter_cons_of_pos (by rw [ep]; exact decide_eq_true h)]; rfl
        · rw [if_neg h, List.filter_cons_of_neg (by rw [ep, decide_eq_false h]; exact Bool.false_ne_true)]; rfl
      refine ⟨T, _, rfl, K44.st upd_same, rfl, _, _, rfl, _, _, rfl, rfl, rfl, _, rfl, _, rfl, hp, nV (hdf n), rfl, by rw [← k1]; exact DGet.k (k := kI n) (e17 _ _ hh14), _, rfl, kp, _, rfl, DGet.k (k := kI (hdf n)) (hk3 (e14.trans e17)), _, rfl, ?_⟩
      rw [hkv3 (hdf n)]
      by_cases hmem : hdf n ∈ en
      · refine ifT (decide_eq_true hmem) ⟨_, rfl, _, e16 _ _ hacc, ?_, acc ++ [i], Same.mut e17 hD2, ?_, ?_⟩
        · rw [List.length_map, hae]
          have := List.length_filter_le (fun j => decide (hdf (found.getD j 0) ∈ en)) (List.range i)
          rw [List.length_range] at this
          rw [List.length_map] at hi
          exact szt (by omega)
        · rw [upd_same, List.map_append]; rfl
        · rw [en1, if_pos hmem, hae]
      · exact ifF (decide_eq_false hmem) ⟨acc, e17, e16 _ _ hacc, by rw [en1, if_neg hmem, List.append_nil, hae]⟩
    · rintro H6 ⟨acc, e15, hacc, hae⟩
      refine ⟨D2, _, rfl, .inl ⟨sl hacc, fun t3 ht3 => ⟨le2, fun t4 ht4 => ?_⟩⟩⟩
      have e16 := (same_new ht3 (.tup (acc.map nV)))
      have e18 := same_new ht4 (.tup [.ref t2, .ref t3])
      refine q _ _ _ (hdp (((e14.trans e15).trans e16).trans e18)) (.tup (K44.st upd_same) (.cons (dpOn hrows ((e15.trans e16).trans e18)) (.cons (.tup (K44.st (e18 _ _ upd_same)) ?_) .nil))) spec
      rw [List.length_map] at hae
      rw [hae]
      exact dps_of_ints
end
end K44
end
section
set_option maxHeartbeats 4000000
namespace K44
open PySem PySem.Spec PyProof.Rows L2
section
variable {P : Program} {w : World} {K : PySem.W.Frag} {mg : Str → Option Value} {base : Heap}
/-- [[0] * L] -/
def zeroSt (L : Nat) : MRows := [List.replicate L 0]
def sp_are_steps (K : PySem.W.Frag) : Sp := fun vs H Q _ => ∃ (L : Nat) (v : V), vs = [.int L, v] ∧ L ≤ 3 ∧ Dp K H v (stepsD (zeroSt L)) ∧ Ret H Q (.bl true)
theorem c_are_steps (T : Txt K mg) : Cal P w K mg base 3 "are_steps" ["letters", "value"] (sp_are_steps K) := by
  have S : FnScope ["letters", "value", "row", "state"] ["letters", "value"] (defScope s_are_steps) := fsc (by decide +kernel)
  refine Cal.of T.g_are_steps T.b_are_steps S (fun vs H Q E h => ?_) fun cdv A outer s H vs Q E hr h => ?_
  · obtain ⟨L, v, rfl, _⟩ := h; rfl
  obtain ⟨L, v, rfl, hL, hd, q⟩ := h
  refine ⟨_, pss_cons (ps_if (PW.pt (pw_or (pt_not (pt_val (pc (c_is_list T) hr (pa_cons (pv 1) pa_nil)))) (pw_or1 (pt_not (pt_chain op_le op_le pe_int (pe_callB call_len_seq rfl T.zlen boot_len (pa_cons (pv 1) pa_nil)) (pgl T.iMOST_GIVEN)))))) (pss_one (ps_ret pe_bl)) pss_nil)
    (pss_cons (ps_for PassesOwn.never rfl (pi_list (pv 1)) (pg_name (i := 2) S.nd rfl (.inl rfl))
      (pss_cons (ps_if (PW.pt (pw_or (pt_not (pt_val (pc (c_is_list T) hr (pa_cons (pv 2) pa_nil)))) (pw_or1 (pt_cmpR op_ne (pe_callB call_len_seq rfl T.zlen boot_len (pa_cons (pv 2) pa_nil)) (pv 0) (nomark _))))) (pss_one (ps_ret pe_bl)) pss_nil)
      (pss_one (ps_if (pt_not (pt_val (pe_callB (cr_all rfl) rfl T.zall (by decide +kernel) (pa_cons (pe_lc (own := [("state", 3)]) (g := gName 3) (tt := tYes) rfl S.nd (pi_list (pv 2)) (blkOk_by (N := ["letters", "value", "row", "state"]) (sc := defScope s_are_steps) (by decide +kernel))
          (fun _ _ _ _ _ => pg_name (i := 3) S.nd rfl (Or.inl rfl)) (fun _ _ _ _ _ => pts_nil) (fun _ _ _ _ _ => pe_and (pc (c_is_count T) hr (pa_cons (pv 3) pa_nil)) (pe_one (pe_cmpR op_lt (pv 3) (pe_callB (call_lenK (K := K)) rfl T.zlen boot_len (pa_cons (pv 1) pa_nil)) (nomark _))))) pa_nil)))) (pss_one (ps_ret pe_bl)) pss_nil))))
    (pss_one (ps_ret pe_bl))), ?_⟩
  obtain ⟨a, xs, rfl, hS, hSl, hrow⟩ := dp_steps hd
  obtain ⟨b, hb1, hb2⟩ := hrow 0 _ rfl
  have hxl : xs.length = 1 := hSl
  have exs : xs = [.ref b] := by
    match xs, hxl, hb1 with
    | [x], _, h => simp at h; rw [h]
  subst exs
  refine ⟨_, rfl, _, .lst, rfl, ty_lst hS, fun H1 e1 => ⟨_, rfl, iteF ?_⟩⟩
  have hS1 := e1.seq hS
  refine ⟨_, rfl, a, _, rfl, .inl hS1, _, _, rfl, rfl, _, rfl, iteT ⟨_, _, rfl, rfl, _, rfl, iteF ?_⟩⟩
  refine ⟨_, rfl, a, rfl, ⟨_, hS1⟩, for_it walk_list (fun i σ' H' => ∃ o, σ' = [some (.int L), some (.ref a), o, none] ∧ Same H H') ⟨none, rfl, e1⟩ (fun i σ' H' _ ⟨_, _, h2⟩ => h2.seq hS) ?_ ?_⟩
  · rintro i x σ' H' H'' hi ⟨o, rfl, e2⟩ ⟨rfl, hx⟩
    have hi0 : i = 0 := by simp at hi; exact hi
    subst hi0
    cases hx
    have hbL := e2.seq hb2
    refine ⟨_, rfl, _, .lst, rfl, ty_lst hbL, fun H2 e3 => ⟨_, rfl, iteF ?_⟩⟩
    refine ⟨_, rfl, b, _, rfl, .inl (e3.seq hbL), _, rfl, rfl, _, rfl, ?_⟩
    have el : ((List.replicate L 0).map nV).length = L := by simp
    refine ifF (by rw [el, dnV, decide_eq_true rfl]; rfl) ?_
    have e4 := e2.trans e3
    refine ⟨_, rfl, b, rfl, ⟨_, e3.seq hbL⟩, fun D hD => lcm walk_list (fun i v => ((List.replicate L 0).map nV)[i]? = some v) (fun _ _ _ _ y => y) (fun i y _ => y = .bl true) (fun _ _ _ _ _ r => r) (by rw [el]; omega) hD (fun H' e' => e'.seq (e3.seq hbL)) (fun _ => rfl) ?_ ?_⟩
    · intro j y H5 hj hy e5 Q5 q5
      rw [List.getElem?_map] at hy
      obtain ⟨n, hn, rfl⟩ := Option.map_eq_some_iff.mp hy
      have hn0 : n = 0 := (List.mem_replicate.mp (List.mem_of_getElem? hn)).2
      subst hn0
      refine ⟨_, rfl, _, .int, rfl, .base (.int _), fun H6 e6 => ⟨_, rfl, iteT ⟨_, rfl, _, rfl, a, _, rfl, .inl (((e4.trans e5).trans e6).seq hS), _, _, rfl, rfl, q5 _ _ e6 rfl⟩⟩⟩
    · intro ys H5 e5 hys hyl hR
      have ey : ys = (List.replicate L true).map V.bl := by
        rw [List.map_replicate]
        refine List.eq_replicate_iff.mpr ⟨by rw [hyl, el], fun y hy => ?_⟩
        obtain ⟨j, hj⟩ := List.mem_iff_getElem?.mp hy
        exact hR j y hj
      have ea : (List.replicate L true).all id = true := List.all_eq_true.mpr fun x hx => (List.mem_replicate.mp hx).2
      refine ⟨D, List.replicate L true, rfl, sl (by rw [hys, ey]), _, rfl, ?_⟩
      rw [ea]
      exact iteF ⟨_, rfl, e4.trans e5⟩
  rintro σ' H' ⟨o, rfl, e2⟩
  exact q.go e2
def sp_are_ends (K : PySem.W.Frag) : Sp := fun vs H Q _ => ∃ (n : Nat) (a : Addr), vs = [.int n, .ref a] ∧ SqL K H a [] ∧ Ret H Q (.bl true)
theorem c_are_ends (T : Txt K mg) : Cal P w K mg base 3 "are_ends" ["states", "value"] (sp_are_ends K) := by
  have S : FnScope ["states", "value", "state"] ["states", "value"] (defScope s_are_ends) := fsc (by decide +kernel)
  refine Cal.of T.g_are_ends T.b_are_ends S (fun vs H Q E h => ?_) fun cdv A outer s H vs Q E hr h => ?_
  · obtain ⟨n, a, rfl, _⟩ := h; rfl
  obtain ⟨n, a, rfl, hS, q⟩ := h
  refine ⟨_, pss_cons (ps_if (PW.pt (pw_or (pt_not (pt_val (pc (c_is_list T) hr (pa_cons (pv 1) pa_nil)))) (pw_or1 (pt_not (pt_val (pe_callB (cr_all rfl) rfl T.zall (by decide +kernel) (pa_cons (pe_lc (own := [("state", 2)]) (g := gName 2) (tt := tYes) rfl S.nd (pi_list (pv 1)) (blkOk_by (N := ["states", "value", "state"]) (sc := defScope s_are_ends) (by decide +kernel))
          (fun _ _ _ _ _ => pg_name (i := 2) S.nd rfl (Or.inl rfl)) (fun _ _ _ _ _ => pts_nil) (fun _ _ _ _ _ => pe_and (pc (c_is_count T) hr (pa_cons (pv 2) pa_nil)) (pe_one (pe_cmpR op_lt (pv 2) (pv 0) (nomark _))))) pa_nil))))))) (pss_one (ps_ret pe_bl)) pss_nil)
    (pss_one (ps_ret (pe_cmpR op_eq (pe_callB call_len_seq rfl T.zlen boot_len (pa_cons (pe_callB (cr_sortedSet rfl) rfl T.zsorted (by decide +kernel) (pa_cons (pe_callTy (call_setI rfl) rfl T.zset (by decide +kernel) (pa_cons (pv 1) pa_nil)) pa_nil)) pa_nil)) (pe_callB call_len_seq rfl T.zlen boot_len (pa_cons (pv 1) pa_nil)) (nomark _)))), ?_⟩
  refine ⟨_, rfl, _, .lst, rfl, ty_lst hS, fun H1 e1 => ⟨_, rfl, iteF ?_⟩⟩
  have hS1 := e1.seq hS
  refine ⟨_, rfl, a, rfl, ⟨_, hS1⟩, fun D hD => lcm walk_list (fun i v => ([] : List V)[i]? = some v) (fun _ _ _ _ y => y) (fun i y _ => y = .bl true) (fun _ _ _ _ _ r => r) (by simp) hD (fun H' e' => e'.seq hS1) (fun _ => rfl) ?_ ?_⟩
  · intro j y H5 hj hy e5 Q5 q5
    simp at hj
  · intro ys H5 e5 hys hyl hR
    have ey : ys = [] := List.length_eq_zero_iff.mp hyl
    subst ey
    refine ⟨D, [], rfl, sl hys, _, rfl, iteF ?_⟩
    have hS5 := e5.seq hS1
    refine ⟨_, rfl, a, [], [], rfl, fun x h => h, .inl ⟨hS5, by decide⟩, fun ss c hss hc => ⟨ss, _, c, rfl, upd_same, by simp at hc; omega, fun sd t2 pw mem hlen ht2 => ⟨t2, _, rfl, .inl (sl upd_same), _, rfl, a, _, rfl, .inl (((same_new hss _).trans (same_new ht2 _)).seq hS5), rfl, ?_⟩⟩⟩
    have e0 : sd = [] := by
      cases sd with
      | nil => rfl
      | cons x sd => exact absurd ((mem x).mp List.mem_cons_self) (by simp)
    subst e0
    exact q.go (((e1.trans e5).trans (same_new hss _)).trans (same_new ht2 _))
end
end K44
end
section
set_option maxHeartbeats 4000000
namespace K44
open PySem PySem.Spec PyProof.Rows L2
theorem zero_wf (L : Nat) : WF L (zeroSt L) [] :=
  ⟨by simp [zeroSt], fun r hr => by simp [zeroSt] at hr; rw [hr]; simp, fun r hr c hc => by
    simp [zeroSt] at hr
    subst hr
    rw [(List.mem_replicate.mp hc).2]; simp [zeroSt], fun e h => by simp at h⟩
/-! ### what leans on lists and tuples -/
def LTK (H H' : Hp) : Prop := ∀ b xs, (H b = some (.lst xs) → H' b = some (.lst xs)) ∧ (H b = some (.tup xs) → H' b = some (.tup xs)) ∧ ∀ o u, H b = some (.frz o u) → H' b = some (.frz o u)
theorem LTK.ins {H : Hp} {x C dx : Addr} {fs : List (Str × V)} {o : HO} (h : H x = some (.ins C dx fs)) : LTK H (upd H x o) := fun b xs => by
  by_cases e : b = x
  · subst e
    rw [h]
    exact ⟨fun z => (nomatch z), fun z => (nomatch z), fun _ _ z => (nomatch z)⟩
  · rw [upd_ne e]; exact ⟨id, id, fun _ _ => id⟩
theorem LTK.seq {K : PySem.W.Frag} {H H' : Hp} {a : Addr} {xs : List V} (e : LTK H H') (h : SqL K H a xs) : SqL K H' a xs := by
  rcases h with (h | ⟨o, h⟩) | h
  · exact .inl (.inl ((e a xs).1 h))
  · exact .inl (.inr ⟨o, (e a xs).2.2 o _ h⟩)
  · exact .inr h
theorem LTK.tup {K : PySem.W.Frag} {H H' : Hp} {a : Addr} {xs : List V} (e : LTK H H') (h : SqT K H a xs) : SqT K H' a xs := by
  rcases h with (h | ⟨o, h⟩) | h
  · exact .inl (.inl ((e a xs).2.1 h))
  · exact .inl (.inr ⟨o, (e a xs).2.2 o _ h⟩)
  · exact .inr h
mutual
theorem dpLT {K : PySem.W.Frag} {H H' : Hp} (e : LTK H H') : ∀ (d : PyData) (v : V), Dp K H v d → Dp K H' v d
  | .none, _, h => by cases h; exact .non
  | .bool _, _, h => by cases h; exact .bl _
  | .int _, _, h => by cases h; exact .int _
  | .str _, _, h => by cases h; exact .str _
  | .list ds, _, h => by
    cases h with
    | lst hs ha => exact .lst (e.seq hs) (dpsLT e ds _ ha)
  | .tuple ds, _, h => by
    cases h with
    | tup hs ha => exact .tup (e.tup hs) (dpsLT e ds _ ha)
  | .dict _, _, h => by cases h
theorem dpsLT {K : PySem.W.Frag} {H H' : Hp} (e : LTK H H') : ∀ (ds : List PyData) (vs : List V), DpAll K H vs ds → DpAll K H' vs ds
  | [], _, h => by cases h; exact .nil
  | d :: ds, _, h => by
    cases h with
    | cons h1 h2 => exact .cons (dpLT e d _ h1) (dpsLT e ds _ h2)
end
section
variable {P : Program} {w : World} {K : PySem.W.Frag} {mg : Str → Option Value} {base : Heap}
/-- all but the place x stay -/
def SameX (x : Addr) (H H' : Hp) : Prop := ∀ b o, b ≠ x → H b = some o → H' b = some o
def sp_init (K : PySem.W.Frag) : Sp := fun vs H Q _ => ∃ (x dx a : Addr) (L : Nat) (v : V), vs = [.ref x, .int L, v, .ref a] ∧ H x = some (.ins (He.ga K "Machine") dx []) ∧ 1 ≤ L ∧ L ≤ 3 ∧ Dp K H v (stepsD (zeroSt L)) ∧ SqL K H a [] ∧ a ≠ x ∧
  ∀ H' fs, SameX x H H' → H' x = some (.ins (He.ga K "Machine") dx fs) → fs.length ≤ 3 → fs.lookup ("own_letters" : Str) = some (.int L) → Q .non H'
theorem c_init (T : Txt K mg) : FnOk P w K mg base CX0 4 (He.ma K (He.ga K "Machine") "__init__") (fdOf K (He.ma K (He.ga K "Machine") "__init__")) ["self", "letters", "steps", "ends"] (sp_init K) := by
  have S : FnScope ["self", "letters", "steps", "ends"] ["self", "letters", "steps", "ends"] (defScope sInit) := fsc (by decide +kernel)
  refine T.Finit.ok S (fun vs H Q E h => ?_) fun cdv A outer s H vs Q E hr h => ?_
  · obtain ⟨x, dx, a, L, v, rfl, _⟩ := h; rfl
  obtain ⟨x, dx, a, L, v, rfl, hx, hL1, hL, hd, ha, hax, q⟩ := h
  refine ⟨_, PSs.nox (pss_cons (ps_expr (pc (c_want_letters T) hr (pa_cons (pv 1) pa_nil)))
    (pss_cons (ps_if (pt_not (pt_val (pc (c_are_steps T) hr (pa_cons (pv 1) (pa_cons (pv 2) pa_nil))))) pss_never pss_nil)
    (pss_cons (ps_if (pt_not (pt_val (pc (c_are_ends T) hr (pa_cons (pe_callB call_len_seq rfl T.zlen boot_len (pa_cons (pv 2) pa_nil)) (pa_cons (pv 3) pa_nil))))) pss_never pss_nil)
    (pss_cons (ps_fld (pv 0) (pv 1) rfl)
    (pss_one (ps_asg (pc (c_least_form T) hr (pa_cons (pv 2) (pa_cons (pv 3) pa_nil))) (pg_tup (by rfl) (pgs_cons (pg_fld (pv 0)) (pgs_cons (pg_fld (pv 0)) pgs_nil))))))))), ?_⟩
  obtain ⟨b, xs, rfl, hS, hSl, hrow⟩ := dp_steps hd
  refine ⟨_, rfl, L, rfl, by omega, by omega, fun H1 e1 => ⟨_, rfl, _, rfl, L, _, rfl, hL, dpOn hd e1, fun H2 e2 => ⟨_, rfl, iteF ?_⟩⟩⟩
  have e12 := e1.trans e2
  refine ⟨_, rfl, b, _, rfl, .inl (e12.seq hS), _, rfl, xs.length, a, rfl, e12.seq ha, fun H3 e3 => ⟨_, rfl, iteF ?_⟩⟩
  have e13 := e12.trans e3
  have hx3 := e13 _ _ hx
  refine ⟨_, rfl, _, rfl, x, _, dx, [], rfl, hx3, T.cls, T.na_own_letters, by simp, ?_⟩
  have putx : ∀ {H' : Hp} {o : HO}, SameX x H H' → SameX x H (upd H' x o) := fun h b o hb e => by rw [upd_ne hb]; exact h b o hb e
  have sx3 : SameX x H (upd H3 x (.ins (He.ga K "Machine") dx (putF "own_letters" (.int L) []))) := putx fun b o _ e => e13 b o e
  have lt3 : LTK H3 (upd H3 x (.ins (He.ga K "Machine") dx (putF "own_letters" (.int L) []))) := LTK.ins hx3
  have few : ∀ m, MSpec L (fun w => runS (zeroSt L) 0 w ∈ ([] : List Nat)) m → m.st.length ≤ 1000 := fun m hm => by
    have := hm.few (fun _ => 0) [0] (fun _ _ => List.mem_cons_self) (fun _ _ _ _ _ _ _ => by simp)
    simp at this; omega
  refine ⟨_, rfl, _, rfl, L, zeroSt L, [], _, _, rfl, dpLT lt3 _ _ (dpOn hd e13), .lst (lt3.seq (e13.seq ha)) .nil, zero_wf L, hL1, hL, by simp [zeroSt], by simp, few, fun v' H4 m e4 hm sp => ?_⟩
  obtain ⟨t, ts, rfl, ht, hts⟩ := dp_tup hm
  obtain ⟨v0, v1, rfl, h0, h1⟩ := dps2 hts
  have hx4 := e4 _ _ (upd_same (H := H3) (a := x) (o := .ins (He.ga K "Machine") dx (putF "own_letters" (.int L) [])))
  have sx4 : SameX x H H4 := fun b o hb e => e4 _ _ (sx3 b o hb e)
  refine ⟨t, _, rfl, ht, rfl, _, _, rfl, ⟨_, rfl, x, _, dx, _, rfl, hx4, T.cls, T.na_own_steps, by simp [putF], ?_⟩⟩
  have hl3 : ((putF ("own_steps" : Str) v0 (putF "own_letters" (.int L) []))).length < 1000 := by
    show [_, _].length < 1000
    simp
  refine ⟨_, _, rfl, ⟨_, rfl, x, _, dx, _, rfl, upd_same, T.cls, T.na_own_ends, hl3, ⟨rfl, ?_⟩⟩⟩
  rw [upd_upd]
  exact q _ _ (putx sx4) upd_same (by show [_, _, _].length ≤ 3; simp) rfl
def sp_least (K : PySem.W.Frag) : Sp := fun vs H Q _ => ∃ (L : Nat) (st : MRows) (en : List Nat) (v u : V), vs = [.int L, v, u] ∧ Dp K H v (stepsD st) ∧ Dp K H u (lsD en) ∧ WF L st en ∧ 1 ≤ L ∧ L ≤ 3 ∧ st.length ≤ 300000 ∧ en.length ≤ 300000 ∧
  (∀ m, MSpec L (fun w => runS st 0 w ∈ en) m → m.st.length ≤ 60) ∧ ∀ v' H' m, Same H H' → MachAt K H' v' m → MSpec L (fun w => runS st 0 w ∈ en) m → Q v' H'
theorem Txt.b_init (T : Txt K mg) : Binds K (fdOf K (He.ma K (He.ga K "Machine") "__init__")) ["self", "letters", "steps", "ends"] [] := T.Finit.bindsN fun _ _ _ _ _ _ us hl => match us, hl with | [_, _, _, _], _ => rfl
theorem c_least (T : Txt K mg) : Cal P w K mg base 6 "least" ["letters", "steps", "ends"] (sp_least K) := by
  have S : FnScope ["letters", "steps", "ends", "told", "last", "found"] ["letters", "steps", "ends"] (defScope s_least) := fsc (by decide +kernel)
  refine Cal.of T.g_least T.b_least S (fun vs H Q E h => ?_) fun cdv A outer s H vs Q E hr h => ?_
  · obtain ⟨L, st, en, v, u, rfl, _⟩ := h; rfl
  obtain ⟨L, st, en, v, u, rfl, hd, hen, wf, hL1, hL, hz, hze, few, q⟩ := h
  refine ⟨_, pss_cons (ps_asg (pc (c_least_form T) hr (pa_cons (pv 1) (pa_cons (pv 2) pa_nil))) (pg_tup (by rfl) (pgs_cons (pg_name (i := 3) S.nd rfl (.inl rfl)) (pgs_cons (pg_name (i := 4) S.nd rfl (.inl rfl)) pgs_nil))))
    (pss_cons (ps_expr (pc (c_want_at_most T) hr (pa_cons pe_str (pa_cons (pgl T.iMOST_STATES) (pa_cons (pe_callB call_len_seq rfl T.zlen boot_len (pa_cons (pv 3) pa_nil)) pa_nil)))))
    (pss_cons (ps_set (i := 5) S.nd rfl (.inl rfl) (pe_make T.mkr (c_init T) hr rfl T.gMachine T.b_init .nil pass0 (pa_cons (pv 0) (pa_cons (pe_lst (pa_cons (pe_op op_rep (pe_lst (pa_cons pe_int pa_nil)) (pv 0)) pa_nil)) (pa_cons (pe_lst pa_nil) pa_nil)))))
    (pss_cons (ps_asg (pe_tup (pa_cons (pv 3) (pa_cons (pv 4) pa_nil))) (pg_tup (by rfl) (pgs_cons (pg_fld (pv 5)) (pgs_cons (pg_fld (pv 5)) pgs_nil))))
    (pss_one (ps_ret (pv 5)))))), ?_⟩
  refine ⟨_, rfl, _, rfl, L, st, en, _, _, rfl, hd, hen, wf, hL1, hL, hz, hze, fun m hm => Nat.le_trans (few m hm) (by decide), fun v' H1 m e1 hm sp => ?_⟩
  obtain ⟨t, ts, rfl, ht, hts⟩ := dp_tup hm
  obtain ⟨v0, v1, rfl, h0, h1⟩ := dps2 hts
  obtain ⟨a0, xs0, rfl, hT0, hx0⟩ := dp_tup h0
  have hl0 : xs0.length = m.st.length := by rw [dpsLen hx0, List.length_map]
  refine ⟨t, _, rfl, ht, rfl, _, _, rfl, _, _, rfl, rfl, ?_⟩
  refine ⟨_, rfl, a0, _, rfl, .inr hT0, _, _, _, rfl, ?_, fun H2 e2 => ?_⟩
  · have := few m sp
    omega
  refine ⟨_, rfl, le1, fun l1 hl1 => ⟨_, rfl, l1, _, _, rfl, rfl, upd_same, by omega, by omega, ?_, fun l2 hl2 => ⟨le1, fun l3 hl3 => ⟨le0, fun l4 hl4 => fun x dx hx hdx hne => ?_⟩⟩⟩⟩
  · show 1 * _ ≤ _
    exact szl (by omega)
  have e3 := same_new hl1 (.lst [.int 0])
  have e4 := same_new hl2 (.lst (List.replicate (L : Int).toNat [V.int 0]).flatten)
  have e5 := same_new hl3 (.lst [.ref l2])
  have e6 := same_new hl4 (.lst [])
  have h42 : l2 ≠ l3 := fun z => by rw [← z, upd_same] at hl3; cases hl3
  have er : (List.replicate (L : Int).toNat [V.int 0]).flatten = (List.replicate L 0).map nV := by
    rw [Int.toNat_natCast, List.map_replicate]
    have : ∀ n, (List.replicate n [V.int 0]).flatten = List.replicate n (nV 0) := by
      intro n
      induction n with
      | zero => rfl
      | succ n ih => rw [List.replicate_succ, List.replicate_succ, List.flatten_cons, ih]; rfl
    exact this L
  have hnew : ∀ (o : HO) (b : Addr) (Hz : Hp), Hz x = none → Hz dx = none → Same Hz (upd (upd Hz dx (.own x)) x o) := fun o b Hz h1 h2 => by
    refine (same_new h2 _).trans (same_new ?_ _)
    rw [upd_ne (Ne.symm hne)]; exact h1
  have e7 := hnew (.ins (He.ga K "Machine") dx []) x _ hx hdx
  have h3 : (upd (upd (upd (upd (upd (upd H2 l1 (.lst [.int 0])) l2 (.lst (List.replicate (L : Int).toNat [V.int 0]).flatten)) l3 (.lst [.ref l2])) l4 (.lst [])) dx (.own x)) x (.ins (He.ga K "Machine") dx [])) l3 = some (.lst [.ref l2]) := (e6.trans e7) _ _ upd_same
  have h2 : (upd (upd (upd (upd (upd (upd H2 l1 (.lst [.int 0])) l2 (.lst (List.replicate (L : Int).toNat [V.int 0]).flatten)) l3 (.lst [.ref l2])) l4 (.lst [])) dx (.own x)) x (.ins (He.ga K "Machine") dx [])) l2 = some (.lst ((List.replicate L 0).map nV)) := ((e5.trans e6).trans e7) _ _ (by rw [upd_same, er])
  have h4 : (upd (upd (upd (upd (upd (upd H2 l1 (.lst [.int 0])) l2 (.lst (List.replicate (L : Int).toNat [V.int 0]).flatten)) l3 (.lst [.ref l2])) l4 (.lst [])) dx (.own x)) x (.ins (He.ga K "Machine") dx [])) l4 = some (.lst []) := e7 _ _ upd_same
  have hx4 : l4 ≠ x := ne_of_none upd_same hx
  refine ⟨x, dx, l4, L, .ref l3, rfl, upd_same, hL1, hL, .lst (sl h3) (.cons (.lst (sl h2) dps_of_ints) .nil), sl h4, hx4, fun H5 fs sx hx5 hfl hown => ⟨rfl, ?_⟩⟩
  have e8 : Same H2 H5 := fun b o hb => by
    have hbx : b ≠ x := fun z => by
      have : (upd (upd (upd (upd H2 l1 (.lst [.int 0])) l2 (.lst (List.replicate (L : Int).toNat [V.int 0]).flatten)) l3 (.lst [.ref l2])) l4 (.lst [])) b = some o := (((e3.trans e4).trans e5).trans e6) _ _ hb
      rw [z, hx] at this
      cases this
    exact sx _ _ hbx (((((e3.trans e4).trans e5).trans e6).trans e7) _ _ hb)
  have hx1 : H1 x = none := same_none (((((e2.trans e3).trans e4).trans e5).trans e6)) hx
  have e9 : Same H1 H5 := e2.trans e8
  refine ⟨_, rfl, _, rfl, le2, fun t2 ht2 => ⟨t2, _, rfl, K44.st upd_same, rfl, ?_⟩⟩
  have e10 := same_new ht2 (.tup [.ref a0, v1])
  have hx6 := e10 _ _ hx5
  have hlen1 : ∀ (f : Str) (v : V) (n : Nat), fs.length ≤ n → (putF f v fs).length ≤ n + 1 := by
    intro f v
    clear hown hx6 hx5 hfl e10 sx
    induction fs with
    | nil => intro n _; show 1 ≤ n + 1; omega
    | cons p r ih =>
      intro n hn
      unfold putF
      split
      · simp at hn ⊢; omega
      · simp at hn ⊢
        have := ih (n - 1) (by omega)
        omega
  refine ⟨_, _, rfl, ⟨_, rfl, x, _, dx, fs, rfl, hx6, T.cls, T.na_own_steps, by omega, ?_⟩⟩
  refine ⟨_, _, rfl, ⟨_, rfl, x, _, dx, _, rfl, upd_same, T.cls, T.na_own_ends, by have := hlen1 "own_steps" (.ref a0) 3 hfl; omega, ⟨rfl, ?_⟩⟩⟩
  rw [upd_upd]
  have e11 : Same H1 (upd (upd H5 t2 (.tup [.ref a0, v1])) x (.ins (He.ga K "Machine") dx (putF "own_ends" v1 (putF "own_steps" (.ref a0) fs)))) := Same.mut (e9.trans e10) hx1
  refine ⟨_, rfl, q _ _ m (e1.trans e11) ⟨x, dx, _, .ref a0, v1, rfl, upd_same, ?_, ?_, ?_, dpOn (.tup hT0 hx0) e11, dpOn h1 e11⟩ sp⟩
  · rw [lookup_putF, if_neg (by decide), lookup_putF, if_neg (by decide), hown, sp.eL]
  · rw [lookup_putF, if_neg (by decide), lookup_putF, if_pos rfl]
  · rw [lookup_putF, if_pos rfl]
end
end K44
end
section
set_option maxHeartbeats 4000000
namespace K44
open PySem PySem.Spec PyProof.Rows L2
/-! ### the heap but some places -/
def hid (A : List Addr) (H : Hp) : Hp := fun b => if b ∈ A then none else H b
theorem hid_upd {A : List Addr} {H : Hp} {a : Addr} {o : HO} (h : a ∈ A) : hid A (upd H a o) = hid A H := by
  funext b
  unfold hid
  by_cases hb : b ∈ A
  · rw [if_pos hb, if_pos hb]
  · rw [if_neg hb, if_neg hb, upd_ne fun z : b = a => hb (by rw [z]; exact h)]
theorem hid_le {A : List Addr} {H : Hp} : Same (hid A H) H := fun b o h => by
  unfold hid at h
  split at h
  · cases h
  · exact h
theorem hid_same {A : List Addr} {H H' : Hp} (e : Same H H') : Same (hid A H) (hid A H') := fun b o h => by
  unfold hid at h ⊢
  split at h
  · cases h
  · rename_i hb
    rw [if_neg hb]; exact e b o h
theorem hid_new {A : List Addr} {H : Hp} {r : Addr} {o : HO} (h : H r = none) : Same (hid A H) (hid (r :: A) (upd H r o)) := fun b u q => by
  unfold hid at q ⊢
  split at q
  · cases q
  · rename_i hb
    have hbr : b ≠ r := ne_of_none q h
    rw [if_neg fun z => (List.mem_cons.mp z).elim hbr hb, upd_ne hbr]; exact q
theorem hid_less {A : List Addr} {H : Hp} {r : Addr} : Same (hid (r :: A) H) (hid A H) := fun b u q => by
  unfold hid at q ⊢
  split at q
  · cases q
  · rename_i hb
    rw [if_neg fun z => hb (List.mem_cons_of_mem _ z)]; exact q
theorem same_hid {A : List Addr} {H H' : Hp} (e : Same H H') (h : ∀ a ∈ A, H a = none) : Same H (hid A H') := fun b o q => by
  unfold hid
  rw [if_neg fun z => by rw [h b z] at q; cases q]
  exact e b o q
/-- a statement; what is wanted behind it told once -/
def tCut (t : TS) : TS := fun D σ H => ∃ Post : L2.St → Hp → Prop, t { D with nx := Post } σ H ∧ ∀ σ' H', Post σ' H' → D.nx σ' H'
theorem ps_cut {X : Cx} {st : Stmt} {t : TS} (h : PS X st t) : PS X st (tCut t) := ⟨fun pins s σ H D I ⟨Post, q, k⟩ => thn (h.run pins s σ H _ I q) fun fl s' hs => by
  cases fl with
  | next =>
    obtain ⟨σ', H', J, p⟩ := hs
    exact ⟨σ', H', J, k σ' H' p⟩
  | brk => exact hs
  | cont => exact hs
  | ret u => exact hs⟩
/-! ### lots whose states are keys -/
structure LotsK {α : Type} (l : Lots α) (key : α → NestedKey) (U : α → Prop) (n : Nat) : Prop where
  inj : ∀ a b, key a = key b → a = b
  dep : ∀ a, (key a).depth ≤ 8
  tup : ∀ a, ∃ ks, key a = .tup ks
  b : U l.b
  f : ∀ a c, U a → c < l.L → U (l.f a c)
  card : ∀ fs : List α, fs.Nodup → (∀ a ∈ fs, U a) → fs.length ≤ n
  n : n ≤ 200000
  L1 : 1 ≤ l.L
  L3 : l.L ≤ 3
def spStep {α : Type} (K : PySem.W.Frag) (l : Lots α) (key : α → NestedKey) (U : α → Prop) : Sp := fun vs H Q _ => ∃ (v : V) (a : α) (c : Nat), vs = [v, .int c] ∧ U a ∧ c < l.L ∧ Dp K H v (key a).data ∧ RetT K H Q (key (l.f a c)).data
def spLet {α : Type} (K : PySem.W.Frag) (l : Lots α) (key : α → NestedKey) (U : α → Prop) : Sp := fun vs H Q _ => ∃ (v : V) (a : α), vs = [v] ∧ U a ∧ Dp K H v (key a).data ∧ Ret H Q (.bl (l.t a))
structure PlaceI {α : Type} (key : α → NestedKey) (fs : List α) (kv : List NKV) : Prop where
  len : kv.length = fs.length
  at_ : ∀ (i : Nat) a, fs[i]? = some a → nAt kv (key a) = some (nV i)
  out : ∀ a, a ∉ fs → nAt kv (key a) = none
theorem PlaceI.new {α : Type} {key : α → NestedKey} {fs : List α} {kv : List NKV} (inj : ∀ a b, key a = key b → a = b) (h : PlaceI key fs kv) {a : α} (ha : a ∉ fs) (b : Addr) : PlaceI key (fs ++ [a]) (kv ++ [(key a, b, nV fs.length)]) := by
  have h0 := h.out a ha
  refine ⟨by rw [List.length_append, List.length_append, h.len]; rfl, fun i x hx => ?_, fun x hx => ?_⟩
  · rw [nAt_snoc h0]
    by_cases hi : i < fs.length
    · rw [List.getElem?_append_left hi] at hx
      rw [if_neg fun z => ha (by rw [← inj _ _ z]; exact List.mem_of_getElem? hx)]
      exact h.at_ i x hx
    · have : i = fs.length := by
        have := (List.getElem?_eq_some_iff.mp hx).1
        simp at this; omega
      subst this
      rw [List.getElem?_append_right (Nat.le_refl _), Nat.sub_self] at hx
      cases hx
      rw [if_pos rfl]
  · rw [nAt_snoc h0, if_neg fun z => hx (by rw [inj _ _ z]; exact List.mem_append_right _ List.mem_cons_self)]
    exact h.out x fun z => hx (List.mem_append_left _ z)
def RowI {α : Type} (l : Lots α) (fs : List α) (a : α) (r : List Nat) : Prop := ∀ (c j : Nat), r[c]? = some j → fs[j]? = some (l.f a c)
theorem RowI.app {α : Type} {l : Lots α} {fs gs : List α} {a : α} {r : List Nat} (h : RowI l fs a r) : RowI l (fs ++ gs) a r := fun c j hj => by
  have := h c j hj
  rw [List.getElem?_append_left (List.getElem?_eq_some_iff.mp this).1]; exact this
theorem Expl.app {α : Type} {l : Lots α} {fs gs : List α} {rs : MRows} {es : List Nat} (h : Expl l fs rs es) (nd : (fs ++ gs).Nodup) : Expl l (fs ++ gs) rs es := by
  have up : ∀ (i : Nat) a, fs[i]? = some a → (fs ++ gs)[i]? = some a := fun i a e => by rw [List.getElem?_append_left (List.getElem?_eq_some_iff.mp e).1]; exact e
  refine ⟨nd, up 0 _ h.hd, by rw [List.length_append]; have := h.len; omega, fun i r hr => ⟨(h.row i r hr).1, fun c j hj => ?_⟩, fun i => ?_⟩
  · obtain ⟨a, h1, h2⟩ := (h.row i r hr).2 c j hj
    exact ⟨a, up i a h1, up j _ h2⟩
  · rw [h.es]
    refine and_congr_right fun hi => ?_
    have hi2 : i < fs.length := Nat.lt_of_lt_of_le hi h.len
    rw [List.getElem?_append_left hi2]
section
variable {P : Program} {w : World} {K : PySem.W.Frag} {mg : Str → Option Value} {base : Heap}
def sp_by_lots (P : Program) (w : World) (K : PySem.W.Frag) (mg : Str → Option Value) (base : Heap) : Sp := fun vs H Q _ => ∃ (α : Type) (_ : DecidableEq α) (l : Lots α) (key : α → NestedKey) (U : α → Prop) (n : Nat) (v : V) (f1 f2 : Addr) (G1 G2 : Hp → Prop),
  vs = [.int l.L, v, .ref f1, .ref f2] ∧ LotsK l key U n ∧ Dp K H v (key l.b).data ∧ FnAs P w K mg base 6 f1 G1 (spStep K l key U) ∧ FnAs P w K mg base 6 f2 G2 (spLet K l key U) ∧ (∀ H H', Same H H' → G1 H → G1 H') ∧ (∀ H H', Same H H' → G2 H → G2 H') ∧ G1 H ∧ G2 H ∧
  (∀ m, MSpec l.L l.lang m → m.st.length ≤ 60) ∧ ∀ v' H' m, Same H H' → MachAt K H' v' m → MSpec l.L l.lang m → Q v' H'
theorem dps_app {H : Hp} : ∀ {ds es : List PyData} {xs ys : List V}, DpAll K H xs ds → DpAll K H ys es → DpAll K H (xs ++ ys) (ds ++ es)
  | [], _, _, _, h, k => by cases h; exact k
  | _ :: _, _, _, _, h, k => by
    cases h with
    | cons h1 h2 => exact .cons h1 (dps_app h2 k)
theorem hid_tk {A : List Addr} {H : Hp} (h : ∀ a ∈ A, (∃ xs, H a = some (.lst xs)) ∨ ∃ φ, H a = some (.ext φ)) : TupK H (hid A H) := fun b xs => by
  have key : ∀ o, H b = some o → (∀ xs, o ≠ .lst xs) → (∀ φ, o ≠ .ext φ) → hid A H b = some o := fun o e n1 n2 => by
    unfold hid
    rw [if_neg fun z => ?_]
    · exact e
    · rcases h b z with ⟨ys, e2⟩ | ⟨φ, e2⟩
      · exact n1 ys (Option.some.inj (e.symm.trans e2))
      · exact n2 φ (Option.some.inj (e.symm.trans e2))
  exact ⟨fun e => key (.tup xs) e (fun _ z => by cases z) (fun _ z => by cases z), fun o e => key (.frz o (.tup xs)) e (fun _ z => by cases z) (fun _ z => by cases z)⟩
/-- what the lists found and steps and the dict place hold -/
structure LotsH {α : Type} (P : Program) (w : World) (K : PySem.W.Frag) (key : α → NestedKey) (fl pl sl' : Addr) (A : List Addr) (H : Hp) (fs : List α) (xs ps : List V) (rs : MRows) (kv : List NKV) : Prop where
  f : H fl = some (.lst xs)
  fd : DpAll K (hid A H) xs (fs.map fun a => (key a).data)
  p : H pl = some (NdO P w pl kv)
  pk : ∀ p ∈ kv, NkAt K (hid A H) (.ref p.2.1) p.1
  pi : PlaceI key fs kv
  s : H sl' = some (.lst ps)
  sd : DpAll K (hid A H) ps (rs.map lsD)
section
variable {α : Type} {key : α → NestedKey} {fl pl sl' : Addr} {A : List Addr} {H H' : Hp} {fs : List α} {xs ps : List V} {rs : MRows} {kv : List NKV}
theorem LotsH.same (h : LotsH P w K key fl pl sl' A H fs xs ps rs kv) (e : Same H H') : LotsH P w K key fl pl sl' A H' fs xs ps rs kv :=
  ⟨e _ _ h.f, dpsOn h.fd (hid_same e), e _ _ h.p, fun p hp => (h.pk p hp).on (hid_same e), h.pi, e _ _ h.s, dpsOn h.sd (hid_same e)⟩
theorem LotsH.put (h : LotsH P w K key fl pl sl' A H fs xs ps rs kv) {a : Addr} {o : HO} (ha : a ∈ A) (h1 : fl ≠ a) (h2 : pl ≠ a) (h3 : sl' ≠ a) : LotsH P w K key fl pl sl' A (upd H a o) fs xs ps rs kv :=
  ⟨by rw [upd_ne h1]; exact h.f, by rw [hid_upd ha]; exact h.fd, by rw [upd_ne h2]; exact h.p, by rw [hid_upd ha]; exact h.pk, h.pi, by rw [upd_ne h3]; exact h.s, by rw [hid_upd ha]; exact h.sd⟩
theorem LotsH.new (h : LotsH P w K key fl pl sl' A H fs xs ps rs kv) {r : Addr} {o : HO} (hr : H r = none) : LotsH P w K key fl pl sl' (r :: A) (upd H r o) fs xs ps rs kv :=
  have e := same_new hr o
  have e2 := hid_new (A := A) (o := o) hr
  ⟨e _ _ h.f, dpsOn h.fd e2, e _ _ h.p, fun p hp => (h.pk p hp).on e2, h.pi, e _ _ h.s, dpsOn h.sd e2⟩
theorem LotsH.less {r : Addr} (h : LotsH P w K key fl pl sl' (r :: A) H fs xs ps rs kv) : LotsH P w K key fl pl sl' A H fs xs ps rs kv :=
  ⟨h.f, dpsOn h.fd hid_less, h.p, fun p hp => (h.pk p hp).on hid_less, h.pi, h.s, dpsOn h.sd hid_less⟩
theorem LotsH.nd (h : LotsH P w K key fl pl sl' A H fs xs ps rs kv) : NdAt P w K H pl kv := ⟨h.p, fun p hp => (h.pk p hp).on hid_le⟩
theorem LotsH.xl (h : LotsH P w K key fl pl sl' A H fs xs ps rs kv) : xs.length = fs.length := by rw [dpsLen h.fd, List.length_map]
theorem LotsH.pl_ (h : LotsH P w K key fl pl sl' A H fs xs ps rs kv) : ps.length = rs.length := by rw [dpsLen h.sd, List.length_map]
end
def LotsW {α : Type} (P : Program) (w : World) (K : PySem.W.Frag) (l : Lots α) (key : α → NestedKey) (U : α → Prop) (n : Nat) (vb f1 f2 fl pl sl' el : Addr) (H : Hp) : Nat → L2.St → Hp → Prop := fun m σ' H' =>
  ∃ (fs : List α) (xs ps : List V) (rs : MRows) (es : List Nat) (kv : List NKV) (o9 o10 o11 o12 : Option V), σ' = [some (.int l.L), some (.ref vb), some (.ref f1), some (.ref f2), some (.ref fl), some (.ref pl), some (.ref sl'), some (.ref el), some (nV rs.length), o9, o10, o11, o12] ∧ Same H H' ∧
    LotsH P w K key fl pl sl' [fl, pl, sl', el] H' fs xs ps rs kv ∧ H' el = some (.lst (es.map nV)) ∧ Expl l fs rs es ∧ (∀ a ∈ fs, U a) ∧ es.length ≤ rs.length ∧ m + rs.length = n + 1
abbrev sgBL : List Str := ["letters", "begin", "step", "is_let", "found", "place", "steps", "ends", "at", "here", "row", "letter", "following"]
set_option maxHeartbeats 8000000 in
theorem c_by_lots (T : Txt K mg) : Cal P w K mg base 7 "by_lots" ["letters", "begin", "step", "is_let"] (sp_by_lots P w K mg base) := by
  have S : FnScope sgBL ["letters", "begin", "step", "is_let"] (defScope s_by_lots) := fsc (by decide +kernel)
  refine Cal.of T.g_by_lots T.b_by_lots S (fun vs H Q E h => ?_) fun cdv A outer s H vs Q E hr h => ?_
  · obtain ⟨α, _, l, key, U, n, v, f1, f2, G1, G2, rfl, _⟩ := h; rfl
  have hu := hr.units
  obtain ⟨α, dec, l, key, U, n, v, f1, f2, G1, G2, rfl, lk, hb, C1, C2, st1, st2, g1, g2, few, q⟩ := h
  refine ⟨_, pss_cons (ps_asg (pe_tup (pa_cons (pe_lst (pa_cons (pv 1) pa_nil)) (pa_cons (pe_ndisp1 hu (pv 1) pe_int) (pa_cons (pe_lst pa_nil) (pa_cons (pe_lst pa_nil) (pa_cons pe_int pa_nil)))))) (pg_tup (by rfl) (pgs_cons (pg_name (i := 4) S.nd rfl (.inl rfl)) (pgs_cons (pg_name (i := 5) S.nd rfl (.inl rfl)) (pgs_cons (pg_name (i := 6) S.nd rfl (.inl rfl)) (pgs_cons (pg_name (i := 7) S.nd rfl (.inl rfl)) (pgs_cons (pg_name (i := 8) S.nd rfl (.inl rfl)) pgs_nil)))))))
    (pss_cons (ps_while PassesOwn.never (pt_cmpR op_lt (pv 8) (pe_callB call_len_seq rfl T.zlen boot_len (pa_cons (pv 4) pa_nil)) (nomark _))
      (pss_cons (ps_par (i := 9) (j := 10) (by rfl) S.nd rfl rfl (by decide) rfl rfl (pa_cons (pe_ix ix_list (pv 4) (pv 8) (fun _ _ => rfl)) (pa_cons (pe_lst pa_nil) pa_nil)) (by rfl))
      (pss_cons (ps_cut (ps_if (pt_val (pe_fnAs (i := 3) C2 hr (pa_cons (pv 9) pa_nil) rfl (.inl rfl))) (pss_one (ps_expr (pe_bm PySem.F.plainAttrs_list PySem.F.slot_list_append PySem.F.type_list_append mt_append (pv 7) (pa_cons (pv 8) pa_nil)))) pss_nil))
      (pss_cons (ps_for PassesOwn.never rfl (pi_range1 rfl T.zrange (pa_cons (pv 0) pa_nil)) (pg_name (i := 11) S.nd rfl (.inl rfl))
        (pss_cons (ps_set (i := 12) S.nd rfl (.inl rfl) (pe_fnAs (i := 2) C1 hr (pa_cons (pv 9) (pa_cons (pv 11) pa_nil)) rfl (.inl rfl)))
        (pss_cons (ps_cut (ps_if (pt_cmpR (op_nnotin hu) (pv 12) (pv 5) rfl)
            (pss_cons (ps_nput hu (pv 5) (pv 12) (pe_callB call_len_seq rfl T.zlen boot_len (pa_cons (pv 4) pa_nil)) rfl) (pss_one (ps_expr (pe_bm PySem.F.plainAttrs_list PySem.F.slot_list_append PySem.F.type_list_append mt_append (pv 4) (pa_cons (pv 12) pa_nil))))) pss_nil))
        (pss_one (ps_expr (pe_bm PySem.F.plainAttrs_list PySem.F.slot_list_append PySem.F.type_list_append mt_append (pv 10) (pa_cons (pe_nget hu (pv 5) (pv 12) (fun _ _ => rfl)) pa_nil)))))))
      (pss_cons (ps_expr (pe_bm PySem.F.plainAttrs_list PySem.F.slot_list_append PySem.F.type_list_append mt_append (pv 6) (pa_cons (pv 10) pa_nil)))
      (pss_one (ps_set (i := 8) S.nd rfl (.inl rfl) (pe_op op_add (pv 8) pe_int))))))))
    (pss_one (ps_ret (pc (c_least T) hr (pa_cons (pv 0) (pa_cons (pv 6) (pa_cons (pv 7) pa_nil))))))), ?_⟩
  have nref : ∀ {H' : Hp} {x : V} {a : α}, Dp K H' x (key a).data → ∃ p, x = .ref p := fun {H' x a} h => by
    obtain ⟨ks, e⟩ := lk.tup a
    rw [e, NestedKey.data] at h
    obtain ⟨p, _, rfl, _⟩ := dp_tup h
    exact ⟨p, rfl⟩
  obtain ⟨vb, rfl⟩ := nref hb
  refine ⟨_, rfl, le1, fun fl hfl => fun pl hpl => ⟨_, rfl, upd_same, vb, key l.b, rfl, ⟨dpOn hb (Same.mut (same_new hfl _) (same_none (same_new hfl _) hpl)), lk.dep _⟩, le0, fun sl' hsl => ⟨le0, fun el hel => ⟨le5, fun t ht => ⟨t, _, rfl, K44.st upd_same, rfl, _, _, rfl, _, _, rfl, _, _, rfl, _, _, rfl, _, _, rfl, rfl, ?_⟩⟩⟩⟩⟩
  have h12 : fl ≠ pl := ne_of_none upd_same hpl
  have h13 : fl ≠ sl' := ne_of_none (H := upd (upd (upd H fl (.lst [.ref vb])) pl _) pl _) (by rw [upd_ne h12, upd_ne h12, upd_same]) hsl
  have h23 : pl ≠ sl' := ne_of_none upd_same hsl
  have h14 : fl ≠ el := ne_of_none (H := upd (upd (upd (upd H fl (.lst [.ref vb])) pl _) pl _) sl' _) (by rw [upd_ne h13, upd_ne h12, upd_ne h12, upd_same]) hel
  have h24 : pl ≠ el := ne_of_none (by rw [upd_ne h23, upd_same]) hel
  have h34 : sl' ≠ el := ne_of_none upd_same hel
  have h1t : fl ≠ t := ne_of_none (H := upd (upd (upd (upd (upd H fl (.lst [.ref vb])) pl _) pl _) sl' _) el _) (by rw [upd_ne h14, upd_ne h13, upd_ne h12, upd_ne h12, upd_same]) ht
  have h2t : pl ≠ t := ne_of_none (H := upd (upd (upd (upd (upd H fl (.lst [.ref vb])) pl _) pl _) sl' _) el _) (by rw [upd_ne h24, upd_ne h23, upd_same]) ht
  have h3t : sl' ≠ t := ne_of_none (H := upd (upd (upd (upd (upd H fl (.lst [.ref vb])) pl _) pl _) sl' _) el _) (by rw [upd_ne h34, upd_same]) ht
  have h4t : el ≠ t := ne_of_none upd_same ht
  have n2 : H pl = none := same_none (same_new hfl _) hpl
  have s3 : Same H (upd (upd (upd H fl (.lst [.ref vb])) pl (NdO P w pl [])) pl (NdO P w pl [(key l.b, vb, .int 0)])) := Same.mut (Same.mut (same_new hfl _) n2) n2
  have n3 : H sl' = none := same_none s3 hsl
  have s4 := Same.mut (o := .lst []) s3 n3
  have n4 : H el = none := same_none s4 hel
  have s5 := Same.mut (o := .lst []) s4 n4
  have s6 := s5.trans (same_new ht (.tup [.ref fl, .ref pl, .ref sl', .ref el, .int 0]))
  have hnA : ∀ a ∈ [fl, pl, sl', el], H a = none := fun a ha => by
    simp at ha
    rcases ha with rfl | rfl | rfl | rfl <;> assumption
  refine ⟨LotsW P w K l key U n vb f1 f2 fl pl sl' el H,
    ⟨n + 1, [l.b], [.ref vb], [], [], [], [(key l.b, vb, nV 0)], none, none, none, none, rfl, s6, ⟨?_, .cons (dpOn hb (same_hid s6 hnA)) .nil, ?_, fun p hp => ?_, ⟨rfl, fun i a e => ?_, fun a ha => ?_⟩, ?_, .nil⟩, ?_, ⟨List.nodup_cons.mpr ⟨by simp, List.nodup_nil⟩, rfl, Nat.zero_le _, fun i r h => by simp at h, fun i => by simp⟩, fun a ha => ?_, Nat.le_refl _, by simp⟩, ?_⟩
  · rw [upd_ne h1t, upd_ne h14, upd_ne h13, upd_ne h12, upd_ne h12, upd_same]
  · rw [upd_ne h2t, upd_ne h24, upd_ne h23, upd_same]; rfl
  · rw [List.mem_singleton] at hp
    rw [hp]
    exact ⟨dpOn hb (same_hid s6 hnA), lk.dep _⟩
  · match i, e with
    | 0, e => cases e; exact nAt_pos (p := (key l.b, vb, nV 0)) rfl
    | i + 1, e => simp at e
  · exact nAt_neg (p := (key l.b, vb, nV 0)) (fun z => ha (by rw [lk.inj _ _ z]; exact List.mem_cons_self))
  · rw [upd_ne h3t, upd_ne h34, upd_same]
  · rw [upd_ne h4t, upd_same]; rfl
  · rw [List.mem_singleton] at ha; rw [ha]; exact lk.b
  rintro m σ' H' ⟨fs, xs, ps, rs, es, kv, o9, o10, o11, o12, rfl, e0, lh, he, ex, hU, hel2, hm⟩
  have hxl := lh.xl
  have hfn : fs.length ≤ n := lk.card fs ex.nd hU
  have hln := lk.n
  refine ⟨_, rfl, _, rfl, fl, _, rfl, .inl (sl lh.f), _, _, rfl, rfl, _, rfl, ?_⟩
  rw [hxl]
  by_cases hk : rs.length < fs.length
  case neg =>
    refine ifF (by rw [decide_eq_false_iff_not]; omega) ?_
    obtain ⟨wf, acc⟩ := ex.spec (by omega)
    exact ⟨_, rfl, _, rfl, _, rfl, l.L, rs, es, .ref sl', .ref el, rfl, .lst (sl lh.s) (dpsOn lh.sd hid_le), .lst (sl he) dps_of_ints, wf, lk.L1, lk.L3, by have := ex.len; omega, by have := ex.len; omega, fun m hm => few m (hm.congr acc), fun v' H2 m e hm sp => q v' H2 m (e0.trans e) hm (sp.congr acc)⟩
  refine ifT (decide_eq_true (by omega)) ⟨fun σ2 H2 => ∃ m', m' < m ∧ LotsW P w K l key U n vb f1 f2 fl pl sl' el H m' σ2 H2, fun σ2 H2 h => h, ?_⟩
  have hfs : fs[rs.length]? = some fs[rs.length] := List.getElem?_eq_getElem hk
  generalize fs[rs.length] = a0 at hfs
  have hUa := hU a0 (List.mem_of_getElem? hfs)
  obtain ⟨x0, hx0, hd0⟩ := dpsGet lh.fd (by rw [List.getElem?_map, hfs]; rfl : (fs.map fun a => (key a).data)[rs.length]? = some (key a0).data)
  obtain ⟨p0, rfl⟩ := nref hd0
  have hd0' := dpOn hd0 hid_le
  refine ⟨_, rfl, _, rfl, fl, _, _, _, rfl, rfl, sl lh.f, atI_nat hx0, le0, fun rl hrl => ⟨_, _, rfl, ?_⟩⟩
  have e1 := same_new hrl (.lst [])
  have hr1 : fl ≠ rl := ne_of_none lh.f hrl
  have hr2 : pl ≠ rl := ne_of_none lh.p hrl
  have hr3 : sl' ≠ rl := ne_of_none lh.s hrl
  have hr4 : el ≠ rl := ne_of_none he hrl
  have nrl := same_none e0 hrl
  have lh1 := lh.new (o := .lst []) hrl
  -- the ends
  let es' : List Nat := if l.t a0 = true then es ++ [rs.length] else es
  refine ⟨fun σ2 H2 => σ2 = [some (.int l.L), some (.ref vb), some (.ref f1), some (.ref f2), some (.ref fl), some (.ref pl), some (.ref sl'), some (.ref el), some (nV rs.length), some (.ref p0), some (.ref rl), o11, o12] ∧ Same H H2 ∧ LotsH P w K key fl pl sl' [rl, fl, pl, sl', el] H2 fs xs ps rs kv ∧ H2 el = some (.lst (es'.map nV)) ∧ H2 rl = some (.lst []) ∧ Dp K H2 (.ref p0) (key a0).data, ?_, ?_⟩
  · refine ⟨rfl, st2 _ _ (e0.trans e1) g2, _, rfl, st2 _ _ (e0.trans e1) g2, .ref p0, a0, rfl, hUa, dpOn hd0' e1, fun H2 e2 => ⟨_, rfl, ?_⟩⟩
    have lh2 := lh1.same e2
    have he2 := (e1.trans e2) _ _ he
    have hrl2 := e2 _ _ (upd_same (H := H') (a := rl) (o := .lst []))
    have e02 := (e0.trans e1).trans e2
    have hd2 := dpOn hd0' (e1.trans e2)
    by_cases ht : l.t a0 = true
    · rw [ht]
      refine iteT ⟨_, rfl, .inl ⟨rfl, _, sl he2⟩, _, rfl, el, _, _, rfl, rfl, he2, by rw [List.length_map]; exact szt (by omega), rfl, Same.mut e02 n4, lh2.put (by simp) h14 h24 h34, ?_, by rw [upd_ne (Ne.symm hr4)]; exact hrl2, dpTup (TupK.put he2 (fun _ z => nomatch z) fun _ _ z => nomatch z) _ _ (nk_noL _) hd2⟩
      have : es' = es ++ [rs.length] := if_pos ht
      rw [this, upd_same, List.map_append]; rfl
    · have ht2 : l.t a0 = false := by simpa using ht
      rw [ht2]
      have : es' = es := if_neg ht
      exact iteF ⟨rfl, e02, lh2, by rw [this]; exact he2, hrl2, hd2⟩
  rintro σ2 H2 ⟨rfl, e2, lh2, he2, hrl2, hd2⟩
  have hu2 : Same H' H2 → True := fun _ => trivial
  refine ⟨_, rfl, (l.L : Int), rfl, by have := lk.L3; omega, by have := lk.L3; omega, ?_⟩
  rw [Int.toNat_natCast]
  refine for_it walk_range (fun c σ3 H3 => ∃ (fs : List α) (xs : List V) (kv : List NKV) (r : List Nat) (o11 o12 : Option V), σ3 = [some (.int l.L), some (.ref vb), some (.ref f1), some (.ref f2), some (.ref fl), some (.ref pl), some (.ref sl'), some (.ref el), some (nV rs.length), some (.ref p0), some (.ref rl), o11, o12] ∧ Same H H3 ∧
      LotsH P w K key fl pl sl' [rl, fl, pl, sl', el] H3 fs xs ps rs kv ∧ H3 el = some (.lst (es'.map nV)) ∧ H3 rl = some (.lst (r.map nV)) ∧ r.length = c ∧ RowI l fs a0 r ∧ Expl l fs rs es ∧ (∀ a ∈ fs, U a) ∧ fs[rs.length]? = some a0 ∧ Dp K H3 (.ref p0) (key a0).data)
    ⟨fs, xs, kv, [], o11, o12, rfl, e2, lh2, he2, hrl2, rfl, fun c j h => by simp at h, ex, hU, hfs, hd2⟩ (fun _ _ _ _ _ => trivial) ?_ ?_
  · rintro c x σ3 H3 H3' hc ⟨fs, xs, kv, r, o11, o12, rfl, e3, lh3, he3, hrl3, hrc, hri, ex3, hU3, hfs3, hd3⟩ ⟨rfl, rfl⟩
    have hfn3 : fs.length ≤ n := lk.card fs ex3.nd hU3
    refine ⟨rfl, st1 _ _ e3 g1, _, rfl, _, rfl, st1 _ _ e3 g1, .ref p0, a0, c, by dsimp only; rw [Int.zero_add], hUa, hc, hd3, fun v' H4 e4 hd4 => ?_⟩
    obtain ⟨p1, rfl⟩ := nref hd4
    have lh4 := lh3.same e4
    have hUb := lk.f a0 c hUa hc
    have nk4 : NkAt K H4 (.ref p1) (key (l.f a0 c)) := ⟨hd4, lk.dep _⟩
    have tk4 : TupK H4 (hid [rl, fl, pl, sl', el] H4) := hid_tk fun a ha => by
      simp at ha
      rcases ha with rfl | rfl | rfl | rfl | rfl
      · exact .inl ⟨_, e4 _ _ hrl3⟩
      · exact .inl ⟨_, lh4.f⟩
      · exact .inr ⟨_, lh4.p⟩
      · exact .inl ⟨_, lh4.s⟩
      · exact .inl ⟨_, e4 _ _ he3⟩
    have e04 := e3.trans e4
    refine ⟨fun σ5 H5 => ∃ (fs : List α) (xs : List V) (kv : List NKV) (j : Nat), σ5 = [some (.int l.L), some (.ref vb), some (.ref f1), some (.ref f2), some (.ref fl), some (.ref pl), some (.ref sl'), some (.ref el), some (nV rs.length), some (.ref p0), some (.ref rl), some (.int (0 + (c : Int))), some (.ref p1)] ∧ Same H H5 ∧
      LotsH P w K key fl pl sl' [rl, fl, pl, sl', el] H5 fs xs ps rs kv ∧ H5 el = some (.lst (es'.map nV)) ∧ H5 rl = some (.lst (r.map nV)) ∧ RowI l fs a0 r ∧ Expl l fs rs es ∧ (∀ a ∈ fs, U a) ∧ fs[rs.length]? = some a0 ∧ Dp K H5 (.ref p0) (key a0).data ∧ fs[j]? = some (l.f a0 c) ∧ NkAt K H5 (.ref p1) (key (l.f a0 c)), ?_, ?_⟩
    · refine ⟨_, rfl, _, rfl, pl, p1, kv, key (l.f a0 c), rfl, rfl, lh4.nd, nk4, _, rfl, ?_⟩
      by_cases hb2 : l.f a0 c ∈ fs
      · obtain ⟨j, hj⟩ := List.mem_iff_getElem?.mp hb2
        refine ifF (by rw [lh4.pi.at_ j _ hj]; rfl) ⟨fs, xs, kv, j, rfl, e04, lh4, e4 _ _ he3, e4 _ _ hrl3, hri, ex3, hU3, hfs3, dpOn hd3 e4, hj, nk4⟩
      · have hno := lh4.pi.out _ hb2
        have hxl4 := lh4.xl
        have hkl := lh4.pi.len
        have hfn5 : fs.length + 1 ≤ n := by
          have := lk.card (fs ++ [l.f a0 c]) (List.nodup_append.mpr ⟨ex3.nd, List.nodup_cons.mpr ⟨by simp, List.nodup_nil⟩, fun a ha b hb e => by rw [List.mem_singleton] at hb; exact hb2 (by rw [← hb, ← e]; exact ha)⟩) fun a ha => (List.mem_append.mp ha).elim (hU3 a) fun z => by rw [List.mem_singleton] at z; rw [z]; exact hUb
          rw [List.length_append] at this
          exact this
        have nd5 : (fs ++ [l.f a0 c]).Nodup := List.nodup_append.mpr ⟨ex3.nd, List.nodup_cons.mpr ⟨by simp, List.nodup_nil⟩, fun a ha b hb e => by rw [List.mem_singleton] at hb; exact hb2 (by rw [← hb, ← e]; exact ha)⟩
        refine ifT (by rw [hno]; rfl) ⟨_, rfl, fl, xs, rfl, .inl (sl lh4.f), _, rfl, _, rfl, pl, p1, kv, key (l.f a0 c), rfl, rfl, lh4.nd, nk4, szt (by omega), ?_⟩
        rw [nPut_new hno]
        have tkp : TupK H4 (upd H4 pl (NdO P w pl (kv ++ [(key (l.f a0 c), p1, V.int (xs.length : Int))]))) := TupK.put lh4.p (fun _ z => by unfold NdO at z; cases z) fun _ _ z => by unfold NdO at z; cases z
        refine ⟨_, rfl, .inl ⟨rfl, _, sl (by rw [upd_ne h12]; exact lh4.f)⟩, _, rfl, fl, xs, .ref p1, rfl, rfl, by rw [upd_ne h12]; exact lh4.f, szt (by omega), fs ++ [l.f a0 c], xs ++ [.ref p1], kv ++ [(key (l.f a0 c), p1, V.int (xs.length : Int))], fs.length, rfl, Same.mut (Same.mut e04 n2) (hnA fl (by simp)), ⟨upd_same, ?_, ?_, ?_, ?_, ?_, ?_⟩, ?_, ?_, hri.app, ex3.app nd5, fun a ha => (List.mem_append.mp ha).elim (hU3 a) fun z => by rw [List.mem_singleton] at z; rw [z]; exact hUb, by rw [List.getElem?_append_left (List.getElem?_eq_some_iff.mp hfs3).1]; exact hfs3, ?_, by rw [List.getElem?_append_right (Nat.le_refl _), Nat.sub_self]; rfl, ?_⟩
        · rw [hid_upd (by simp), hid_upd (by simp), List.map_append]
          exact dps_app lh4.fd (.cons (dpTup tk4 _ _ (nk_noL _) hd4) .nil)
        · rw [upd_ne (Ne.symm h12), upd_same]; rfl
        · rw [hid_upd (by simp), hid_upd (by simp)]
          intro p hp
          rcases List.mem_append.mp hp with hp | hp
          · exact lh4.pk p hp
          · rw [List.mem_singleton] at hp
            rw [hp]
            exact nk4.tk tk4
        · have := lh4.pi.new lk.inj hb2 p1
          rw [hxl4]
          exact this
        · rw [upd_ne (Ne.symm h13), upd_ne (Ne.symm h23)]; exact lh4.s
        · rw [hid_upd (by simp), hid_upd (by simp)]; exact lh4.sd
        · rw [upd_ne (Ne.symm h14), upd_ne (Ne.symm h24)]; exact e4 _ _ he3
        · rw [upd_ne (Ne.symm hr1), upd_ne (Ne.symm hr2)]; exact e4 _ _ hrl3
        · exact dpTup (tkp.trans (TupK.put (p := fl) (u := .lst xs) (by rw [upd_ne h12]; exact lh4.f) (fun _ z => nomatch z) fun _ _ z => nomatch z)) _ _ (nk_noL _) (dpOn hd3 e4)
        · exact nk4.tk (tkp.trans (TupK.put (p := fl) (u := .lst xs) (by rw [upd_ne h12]; exact lh4.f) (fun _ z => nomatch z) fun _ _ z => nomatch z))
    rintro σ5 H5 ⟨fs, xs, kv, j, rfl, e5, lh5, he5, hrl5, hri5, ex5, hU5, hfs5, hd5, hj5, nk5⟩
    refine ⟨_, rfl, .inl ⟨rfl, _, sl hrl5⟩, ⟨_, rfl, _, rfl, pl, p1, kv, key (l.f a0 c), nV j, rfl, rfl, lh5.nd, nk5, lh5.pi.at_ j _ hj5, rl, _, _, rfl, rfl, hrl5, by rw [List.length_map, hrc]; exact szt (by have := lk.L3; omega), fs, xs, kv, r ++ [j], _, _, rfl, Same.mut e5 nrl, lh5.put (by simp) hr1 hr2 hr3, by rw [upd_ne hr4]; exact he5, by rw [upd_same, List.map_append]; rfl, by rw [List.length_append, hrc]; rfl, fun c' j' hj' => ?_, ex5, hU5, hfs5, dpTup (TupK.put hrl5 (fun _ z => nomatch z) fun _ _ z => nomatch z) _ _ (nk_noL _) hd5⟩⟩
    by_cases hcc : c' < r.length
    · rw [List.getElem?_append_left hcc] at hj'
      exact hri5 c' j' hj'
    · have : c' = r.length := by
        have := (List.getElem?_eq_some_iff.mp hj').1
        simp at this; omega
      subst this
      rw [List.getElem?_append_right (Nat.le_refl _), Nat.sub_self] at hj'
      cases hj'
      rw [hrc]; exact hj5
  rintro σ3 H3 ⟨fs, xs, kv, r, o11, o12, rfl, e3, lh3, he3, hrl3, hrc, hri, ex3, hU3, hfs3, hd3⟩
  have hkl3 : rs.length < fs.length := (List.getElem?_eq_some_iff.mp hfs3).1
  have hfn3 : fs.length ≤ n := lk.card fs ex3.nd hU3
  have lh6 := lh3.less
  refine ⟨_, rfl, .inl ⟨rfl, _, sl lh3.s⟩, _, rfl, sl', ps, .ref rl, rfl, rfl, lh3.s, by rw [lh3.pl_]; exact szt (by omega), _, rfl, _, _, rfl, rfl, m - 1, by omega, fs, xs, ps ++ [.ref rl], rs ++ [r], es', kv, some (.ref p0), some (.ref rl), o11, o12, by rw [List.length_append]; rfl, Same.mut e3 n3, ⟨?_, ?_, ?_, ?_, lh3.pi, upd_same, ?_⟩, ?_, ⟨ex3.nd, ex3.hd, by rw [List.length_append]; exact hkl3, fun i r' hi => ?_, fun i => ?_⟩, hU3, ?_, by rw [List.length_append]; show m - 1 + (rs.length + 1) = n + 1; omega⟩
  · rw [upd_ne h13]; exact lh3.f
  · rw [hid_upd (by simp)]; exact lh6.fd
  · rw [upd_ne h23]; exact lh3.p
  · rw [hid_upd (by simp)]; exact lh6.pk
  · rw [hid_upd (by simp), List.map_append]
    refine dps_app lh6.sd (.cons (.lst (sl ?_) dps_of_ints) .nil)
    unfold hid
    rw [if_neg fun z => ?_]
    · exact hrl3
    · simp at z
      rcases z with z | z | z | z
      · exact hr1 z.symm
      · exact hr2 z.symm
      · exact hr3 z.symm
      · exact hr4 z.symm
  · rw [upd_ne (Ne.symm h34)]; exact he3
  · by_cases hi2 : i < rs.length
    · rw [List.getElem?_append_left hi2] at hi
      exact ex3.row i r' hi
    · have : i = rs.length := by
        have := (List.getElem?_eq_some_iff.mp hi).1
        simp at this; omega
      subst this
      rw [List.getElem?_append_right (Nat.le_refl _), Nat.sub_self] at hi
      cases hi
      exact ⟨hrc, fun c j hj => ⟨a0, hfs3, hri c j hj⟩⟩
  · rw [List.length_append]
    show i ∈ (if l.t a0 = true then es ++ [rs.length] else es) ↔ i < rs.length + 1 ∧ _
    by_cases hi2 : i = rs.length
    · subst hi2
      have hne : rs.length ∉ es := fun z => absurd ((ex3.es _).mp z).1 (Nat.lt_irrefl _)
      by_cases ht : l.t a0 = true
      · rw [if_pos ht]
        exact ⟨fun _ => ⟨Nat.lt_succ_self _, a0, hfs3, ht⟩, fun _ => List.mem_append_right _ List.mem_cons_self⟩
      · rw [if_neg ht]
        exact ⟨fun z => absurd z hne, fun ⟨_, a, h1, h2⟩ => by rw [hfs3] at h1; cases h1; exact absurd h2 ht⟩
    · have e9 : i ∈ (if l.t a0 = true then es ++ [rs.length] else es) ↔ i ∈ es := by
        by_cases ht : l.t a0 = true
        · rw [if_pos ht, List.mem_append, List.mem_singleton]
          exact ⟨fun z => z.elim id fun z => absurd z hi2, .inl⟩
        · rw [if_neg ht]
      rw [e9, ex3.es]
      exact and_congr_left fun _ => by omega
  · rw [List.length_append]
    show (if l.t a0 = true then es ++ [rs.length] else es).length ≤ rs.length + 1
    split
    · rw [List.length_append]; show es.length + 1 ≤ _; omega
    · omega
end
end K44
end
section
set_option maxHeartbeats 4000000
namespace K44
open PySem PySem.Spec PyProof.Rows L2 LamX NdefX
/-! ### data of numbers compared -/
theorem eqv_all : ∀ (a b : List Nat), PyData.eqvAll (a.map nD) (b.map nD) = decide (a = b)
  | [], [] => rfl
  | [], _ :: _ => rfl
  | _ :: _, [] => rfl
  | x :: a, y :: b => by
    show (((x : Int) == (y : Int)) && PyData.eqvAll (a.map nD) (b.map nD)) = _
    rw [eqv_all a b]
    by_cases h : x = y
    · subst h
      by_cases k : a = b <;> simp [k]
    · have : ¬ (x : Int) = (y : Int) := by omega
      simp [h, this]
theorem eqv_ns (a b : List Nat) : PyData.eqv (nsD a) (nsD b) = decide (a = b) := eqv_all a b
theorem lay_ns : ∀ (a : List Nat), PyData.canLayAll0 (a.map nD) = true
  | [] => rfl
  | _ :: a => lay_ns a
theorem dep_ns : ∀ (a : List Nat), PyData.depthAll (a.map nD) ≤ 0
  | [] => Nat.le_refl _
  | x :: a => Nat.max_le.mpr ⟨Nat.le_refl _, dep_ns a⟩
theorem shaped_ns (a : List Nat) : SeqAt.shaped (nsD a) = true := by
  unfold SeqAt.shaped
  rw [Bool.and_eq_true, decide_eq_true_iff]
  refine ⟨lay_ns a, ?_⟩
  have := dep_ns a
  show PyData.depthAll (a.map nD) + 1 ≤ 64
  omega
theorem lay_rows : ∀ (a : List (List Nat)), PyData.canLayAll0 (a.map nsD) = true
  | [] => rfl
  | x :: a => by
    show (PyData.canLayAll0 (x.map nD) && PyData.canLayAll0 (a.map nsD)) = true
    rw [lay_ns, lay_rows a]; rfl
theorem dep_rows : ∀ (a : List (List Nat)), PyData.depthAll (a.map nsD) ≤ 1
  | [] => Nat.zero_le _
  | x :: a => by
    have := dep_ns x
    refine Nat.max_le.mpr ⟨?_, dep_rows a⟩
    show PyData.depthAll (x.map nD) + 1 ≤ 1
    omega
theorem shaped_rows (a : List (List Nat)) : SeqAt.shaped (rowsD a) = true := by
  unfold SeqAt.shaped
  rw [Bool.and_eq_true, decide_eq_true_iff]
  refine ⟨lay_rows a, ?_⟩
  have := dep_rows a
  show PyData.depthAll (a.map nsD) + 1 ≤ 64
  omega
theorem any_rows (a : List (List Nat)) (r : List Nat) : (a.map nsD).any (fun z => PyData.eqv z (nsD r)) = decide (r ∈ a) := by
  rw [List.any_map]
  induction a with
  | nil => rfl
  | cons x a ih =>
    rw [List.any_cons, ih]
    show (PyData.eqv (nsD x) (nsD r) || _) = _
    rw [eqv_ns]
    by_cases h : x = r
    · rw [decide_eq_true h, Bool.true_or]; exact (decide_eq_true (h ▸ List.mem_cons_self)).symm
    · rw [decide_eq_false h, Bool.false_or]
      by_cases k : r ∈ a
      · rw [decide_eq_true k, decide_eq_true (List.mem_cons_of_mem _ k)]
      · rw [decide_eq_false k, decide_eq_false fun z => (List.mem_cons.mp z).elim (fun z => h z.symm) k]
/-- rows, as a key -/
def wK (rows : List (List Nat)) : NestedKey := .tup (rows.map kN)
theorem wK_data (rows : List (List Nat)) : (wK rows).data = rowsD rows := by
  have key : ∀ l : List (List Nat), NestedKey.datas (l.map kN) = l.map nsD := by
    intro l
    induction l with
    | nil => rw [List.map_nil, NestedKey.datas]; rfl
    | cons n l ih => rw [List.map_cons, NestedKey.datas, ih, kN_data]; rfl
  unfold wK rowsD
  rw [NestedKey.data, key]
theorem wK_depth (rows : List (List Nat)) : (wK rows).depth ≤ 8 := by
  have k1 : ∀ n : List Nat, (kN n).depth ≤ 1 := by
    intro n
    have key : ∀ l : List Nat, NestedKey.depthAll (l.map fun n : Nat => NestedKey.num (n : Int)) = 0 := by
      intro l
      induction l with
      | nil => rw [List.map_nil, NestedKey.depthAll]
      | cons n l ih => rw [List.map_cons, NestedKey.depthAll, ih, NestedKey.depth]; rfl
    unfold kN
    rw [NestedKey.depth, key]; omega
  have key : ∀ l : List (List Nat), NestedKey.depthAll (l.map kN) ≤ 1 := by
    intro l
    induction l with
    | nil => rw [List.map_nil, NestedKey.depthAll]; omega
    | cons n l ih =>
      rw [List.map_cons, NestedKey.depthAll]
      have := k1 n
      omega
  unfold wK
  rw [NestedKey.depth]
  have := key rows
  omega
theorem mapInj {α β : Type} {f : α → β} (h : ∀ a b, f a = f b → a = b) : ∀ {l m : List α}, l.map f = m.map f → l = m
  | [], [], _ => rfl
  | [], _ :: _, e => by simp at e
  | _ :: _, [], e => by simp at e
  | a :: l, b :: m, e => by
    rw [List.map_cons, List.map_cons, List.cons.injEq] at e
    rw [h _ _ e.1, mapInj h e.2]
theorem wK_inj {a b : List (List Nat)} (h : wK a = wK b) : a = b := by
  unfold wK at h
  injection h with h
  exact mapInj (fun _ _ => kN_inj) h
def wU (L : Nat) (rows : List (List Nat)) (a : List (List Nat)) : Prop := (wordsL L rows).U a ∧ a.length ≤ rows.length ∧ ∀ r ∈ a, r.length ≤ 2
theorem wordsK {L : Nat} {rows : List (List Nat)} (hL1 : 1 ≤ L) (hL : L ≤ 3) (h : ∀ r ∈ rows, r.length ≤ 2) : LotsK (wordsL L rows) wK (wU L rows) 14 where
  inj := fun _ _ => wK_inj
  dep := wK_depth
  tup := fun _ => ⟨_, rfl⟩
  b := ⟨Lots.U.b _, Nat.le_refl _, h⟩
  f := fun a c ⟨h1, h2, h3⟩ hc => by
    refine ⟨h1.f hc, ?_, fun r hr => ?_⟩
    · show ((a.filter fun r => decide (r.take 1 = [c])).map (·.drop 1)).length ≤ _
      rw [List.length_map]
      exact Nat.le_trans (List.length_filter_le _ _) h2
    · obtain ⟨q, hq, rfl⟩ := List.mem_map.mp (show r ∈ (a.filter fun r => decide (r.take 1 = [c])).map (·.drop 1) from hr)
      have := h3 q (List.mem_filter.mp hq).1
      rw [List.length_drop]; omega
  card := fun fs nd hU => words_card hL h fs nd fun a ha => (hU a ha).1
  n := by decide
  L1 := hL1
  L3 := hL
theorem words_few {L : Nat} {rows : List (List Nat)} (hL : L ≤ 3) (h : ∀ r ∈ rows, r.length ≤ 2) {m : Mach} (sp : MSpec L (wordsL L rows).lang m) : m.st.length ≤ 14 := by
  have := short_few (n := 2) sp fun w _ hw => h w (wordsL_lang.mp hw)
  have e1 : (wl L 2).length = 1 + L * (wl L 1).length := wl_len L 1
  have e0 : (wl L 1).length = 1 + L * (wl L 0).length := wl_len L 0
  have e : (wl L 0).length = 1 := rfl
  rw [e] at e0
  rw [e0] at e1
  have : L * (1 + L * 1) ≤ 3 * (1 + 3 * 1) := Nat.mul_le_mul hL (by omega)
  omega
section
variable {P : Program} {w : World} {K : PySem.W.Frag} {mg : Str → Option Value} {base : Heap}
def s_wstep : Stmt := (defBody s_words_machine).getD 1 (.Pass ⟨0, 0, 0, 0⟩)
def e_wlam : Expr := match asgV ((defBody s_words_machine).getD 2 (.Pass ⟨0, 0, 0, 0⟩)) with
  | .Call _ [_, _, _, e] _ _ => e
  | e => e
def lmP : Expr → Arguments
  | .Lambda ps _ _ _ => ps
  | _ => default
def lmB : Expr → Expr
  | .Lambda _ b _ _ => b
  | e => e
def lmS : Expr → Scope
  | .Lambda _ _ sc _ => sc
  | _ => default
abbrev wstepF (c : Addr) : NF := NF.of s_wstep "step" "words_machine.<locals>.step" [] c
abbrev wlamF (c : Addr) : K44.LF := ⟨"words_machine.<locals>.<lambda>", lmP e_wlam, lmB e_wlam, lmS e_wlam, [], c⟩
def wcut (rows : List (List Nat)) (c : Nat) : List (List Nat) := (rows.filter fun r : List Nat => decide (r.take 1 = [c])).map (·.drop 1)
theorem wcut_succ {rows : List (List Nat)} {c i : Nat} {r : List Nat} (h : rows[i]? = some r) : wcut (rows.take (i + 1)) c = wcut (rows.take i) c ++ (if r.take 1 = [c] then [r.drop 1] else []) := by
  unfold wcut
  rw [List.take_add_one, h, Option.toList_some, List.filter_append, List.map_append]
  congr 1
  by_cases k : r.take 1 = [c]
  · rw [if_pos k, List.filter_cons, if_pos (decide_eq_true k)]; rfl
  · rw [if_neg k, List.filter_cons, if_neg (by rw [decide_eq_false k]; exact Bool.false_ne_true)]; rfl
theorem wcut_len {rows : List (List Nat)} {c : Nat} : (wcut rows c).length ≤ rows.length := by
  unfold wcut
  rw [List.length_map]
  exact List.length_filter_le _ _
theorem sl_take1 {H : Hp} {Q : VK} {p : Addr} {r : List Nat} (h : SqT K H p (r.map nV)) (q : RetT K H Q (nsD (r.take 1))) : rSlA K (.ref p) none (some 1) H Q := by
  have e : cutV (r.map nV) none (some 1) = (r.take 1).map nV := by
    cases r with
    | nil => rfl
    | cons x r =>
      show ((x :: r).map nV).take (min (1 : Int).toNat ((x :: r).map nV).length - 0) = _
      rw [List.map_take]
      congr 1
  refine ⟨p, _, rfl, h, fun z => q _ _ (Same.refl _) (.tup h ?_), fun _ t ht => q _ _ (same_new ht _) (.tup (K44.st upd_same) (by rw [e]; exact dps_of_ints))⟩
  have h1 : ∀ n : Nat, (if (1 : Int) < 0 then ((1 : Int) + (n : Int)).toNat else min (1 : Int).toNat n) = min 1 n := fun n => if_neg (by omega)
  have z2 : min 1 (r.map nV).length = (r.map nV).length := (h1 _).symm.trans z.2
  rw [List.length_map] at z2
  rw [List.take_of_length_le (by omega)]
  exact dps_of_ints
theorem sl_drop1 {H : Hp} {Q : VK} {p : Addr} {r : List Nat} (h : SqT K H p (r.map nV)) (q : RetT K H Q (nsD (r.drop 1))) : rSlA K (.ref p) (some 1) none H Q := by
  have h1 : ∀ n : Nat, (if (1 : Int) < 0 then ((1 : Int) + (n : Int)).toNat else min (1 : Int).toNat n) = min 1 n := fun n => if_neg (by omega)
  have e : cutV (r.map nV) (some 1) none = (r.drop 1).map nV := by
    cases r with
    | nil => rfl
    | cons x r =>
      show (((x :: r).map nV).drop (if (1 : Int) < 0 then ((1 : Int) + (((x :: r).map nV).length : Int)).toNat else min (1 : Int).toNat ((x :: r).map nV).length)).take _ = _
      rw [h1, List.map_drop, show min 1 ((x :: r).map nV).length = 1 by rw [List.length_map, List.length_cons]; omega]
      refine List.take_of_length_le ?_
      rw [List.length_drop]
      show _ ≤ ((x :: r).map nV).length - (if (1 : Int) < 0 then ((1 : Int) + (((x :: r).map nV).length : Int)).toNat else min (1 : Int).toNat ((x :: r).map nV).length)
      rw [h1]
      rw [List.length_map, List.length_cons]; omega
  refine ⟨p, _, rfl, h, fun z => q _ _ (Same.refl _) (.tup h ?_), fun _ t ht => q _ _ (same_new ht _) (.tup (K44.st upd_same) (by rw [e]; exact dps_of_ints))⟩
  have z1 : min 1 (r.map nV).length = 0 := (h1 _).symm.trans z.1
  rw [List.length_map] at z1
  have : r = [] := List.eq_nil_of_length_eq_zero (by omega)
  subst this
  exact .nil
/-- row[1:] of the rows that begin so -/
def sp_wstep (K : PySem.W.Frag) : List (Option V) → Sp := fun _ vs H Q _ => ∃ (rows : List (List Nat)) (v : V) (c : Nat), vs = [v, .int c] ∧ rows.length < 64 ∧ (∀ r ∈ rows, r.length ≤ 2) ∧ Dp K H v (rowsD rows) ∧ RetT K H Q (rowsD (wcut rows c))
theorem n_wstep (T : Txt K mg) (f c' : Addr) : NOk P w K mg base CX0 1 f (wstepF c') ["standing", "letter"] [] (sp_wstep K) := by
  have S : NScC ["standing", "letter", "row"] ["standing", "letter"] [] (C8.fnScope s_wstep) := nscC (by decide +kernel)
  refine nokC S (fun doc pm ctv us hl => ?_) (fun ws vs H Q E h => ?_) fun A outer s H vs ws Q E hr C h => ?_
  · match us, hl with
    | [a, b], _ => rfl
  · obtain ⟨rows, v, c, rfl, _⟩ := h; rfl
  have hu := hr.units
  obtain ⟨rows, v, c, rfl, hn, hl2, hd, q⟩ := h
  have ew : ws = [] := List.eq_nil_of_length_eq_zero (by rw [C.len]; rfl)
  subst ew
  refine ⟨_, pss_one (ps_ret (pe_callTy call_tuple_of rfl T.ztuple (by decide +kernel) (pa_cons (pe_lc (own := [("row", 2)]) (g := gName 2) (tt := _) rfl S.nd (pi_tup (pv 0)) (blkOk_by (N := ["standing", "letter", "row"]) (sc := C8.fnScope s_wstep) (by decide +kernel))
      (fun _ _ _ _ _ => pg_name (i := 2) S.nd rfl (Or.inl rfl)) (fun _ _ _ _ _ => pts_one (pt_cmpR (op_eqDK (K := K) hu) (pe_slice (sl_tupAK (K := K)) (pv 2) po_none (po_some pe_int)) (pe_tup (pa_cons (pv 1) pa_nil)) rfl)) (fun _ _ _ _ _ => pe_slice (sl_tupAK (K := K)) (pv 2) (po_some pe_int) po_none)) pa_nil))), ?_⟩
  obtain ⟨a, xs, rfl, hT, hxs⟩ := dp_tup hd
  have hxl : xs.length = rows.length := by rw [dpsLen hxs, List.length_map]
  have nl : ∀ l : List (List Nat), noLs (l.map nsD) = true := fun l => noL_rows l
  refine ⟨_, rfl, a, rfl, ⟨_, hT⟩, fun D hD => lc_it walk_tup (fun i H' => ∃ acc : List V, Same H H' ∧ H' D = some (.lst acc) ∧ DpAll K H' acc ((wcut (rows.take i) c).map nsD)) ⟨[], same_new hD _, upd_same, .nil⟩ (fun i H' _ ⟨_, h, _⟩ => Same.tup h hT) ?_ ?_⟩
  · rintro i x H1 H1' hi ⟨acc, e1, hacc, hda⟩ ⟨rfl, hx⟩
    obtain ⟨d, h1, h2⟩ := dpsGetV hxs hx
    rw [List.getElem?_map] at h1
    obtain ⟨r, hr1, rfl⟩ := Option.map_eq_some_iff.mp h1
    obtain ⟨p, zs, rfl, hp, hz⟩ := dp_tup (dpOn h2 e1)
    have ez := dps_ints hz
    subst ez
    have hal : acc.length ≤ i := by
      have := dpsLen hda
      rw [List.length_map] at this
      have h3 := wcut_len (rows := rows.take i) (c := c)
      have := List.length_take_le i rows
      omega
    refine ⟨rfl, _, rfl, _, rfl, sl_take1 hp fun v1 H2 e2 hv1 => ⟨_, rfl, le1, fun t ht => ⟨nsD (r.take 1), nsD [c], dpOn hv1 (same_new ht _), .tup (K44.st upd_same) (.cons (.int _) .nil), shaped_ns _, shaped_ns _, ?_⟩⟩⟩
    rw [eqv_ns]
    have e3 := e2.trans (same_new ht (.tup [.int (c : Int)]))
    have ea := e3 _ _ hacc
    by_cases k : r.take 1 = [c]
    · refine ⟨_, rfl, ifT (decide_eq_true k) ⟨_, rfl, _, rfl, ?_⟩⟩
      unfold tNoPart
      refine sl_drop1 (Same.tup e3 hp) fun v2 H4 e4 hv2 => ⟨acc, e4 _ _ ea, szt (by rw [hxl] at hi; omega), acc ++ [v2], Same.mut ((e1.trans e3).trans e4) hD, upd_same, ?_⟩
      have im := Imm.lst (ys := acc ++ [v2]) (e4 _ _ ea)
      rw [wcut_succ hr1, if_pos k, List.map_append]
      exact dps_app (dpsImm im _ _ (nl _) (dpsOn hda (e3.trans e4))) (.cons (dpImm im _ _ (noL_ns _) hv2) .nil)
    · refine ⟨_, rfl, ifF (decide_eq_false k) ⟨acc, e1.trans e3, ea, ?_⟩⟩
      rw [wcut_succ hr1, if_neg k, List.append_nil]
      exact dpsOn hda e3
  · rintro H1 ⟨acc, e1, hacc, hda⟩
    rw [hxl, List.take_length] at hda
    exact ⟨D, acc, rfl, .inl ⟨sl hacc, fun t ht => q _ _ (Same.new e1 ht _) (.tup (K44.st upd_same) (dpsOn hda (same_new ht _)))⟩⟩
end
end K44
end
section
set_option maxHeartbeats 4000000
namespace K44
open PySem PySem.Spec PyProof.Rows L2 LamX NdefX
theorem refs_of {K : PySem.W.Frag} {H : Hp} : ∀ {as : List (List Nat)} {ys : List V}, DpAll K H ys (as.map nsD) → ∃ ks : List (Addr × List Int), ys = ks.map (fun k => V.ref k.1) ∧ ks.map (·.2) = as.map (fun a => a.map fun n : Nat => (n : Int)) ∧ ∀ k ∈ ks, SqT K H k.1 (k.2.map V.int)
  | [], _, h => by cases h; exact ⟨[], rfl, rfl, fun k hk => by simp at hk⟩
  | a :: as, _, h => by
    cases h with
    | cons h1 h2 =>
      obtain ⟨p, zs, rfl, hp, hz⟩ := dp_tup h1
      have ez := dps_ints hz
      subst ez
      obtain ⟨ks, rfl, e, hk⟩ := refs_of h2
      refine ⟨(p, a.map fun n : Nat => (n : Int)) :: ks, rfl, by rw [List.map_cons, e]; rfl, fun k hk2 => ?_⟩
      rcases List.mem_cons.mp hk2 with rfl | hk2
      · show SqT K H p ((a.map fun n : Nat => (n : Int)).map V.int)
        rw [List.map_map]; exact hp
      · exact hk k hk2
theorem toN_map (a : List Nat) : (a.map fun n : Nat => (n : Int)).map Int.toNat = a := by
  rw [List.map_map]
  have : (Int.toNat ∘ fun n : Nat => (n : Int)) = id := by funext n; simp
  rw [this, List.map_id]
theorem refs_rows {K : PySem.W.Frag} {H : Hp} : ∀ {ks : List (Addr × List Int)}, (∀ k ∈ ks, SqT K H k.1 (k.2.map V.int) ∧ ∃ a : List Nat, k.2 = a.map fun n : Nat => (n : Int)) → DpAll K H (ks.map fun k => V.ref k.1) ((ks.map fun k => k.2.map Int.toNat).map nsD)
  | [], _ => .nil
  | k :: ks, h => by
    obtain ⟨h1, a, e⟩ := h k List.mem_cons_self
    refine .cons (.tup h1 ?_) (refs_rows fun k hk => h k (List.mem_cons_of_mem _ hk))
    show DpAll K H (k.2.map V.int) ((k.2.map Int.toNat).map nD)
    rw [e, toN_map, List.map_map]
    exact dps_of_ints
section
variable {P : Program} {w : World} {K : PySem.W.Frag} {mg : Str → Option Value} {base : Heap}
/-- a new machine; tables may grow -/
def RetM (K : PySem.W.Frag) (H : Hp) (Q : VK) (L : Nat) (lang : List Nat → Prop) : Prop := ∀ v H' m, ExtN H H' → Tb K H' → MachAt K H' v m → MSpec L lang m → Q v H'
def sp_words_machine (K : PySem.W.Frag) : Sp := fun vs H Q _ => ∃ (L : Nat) (v : V) (zs : List Str), vs = [.int L, v] ∧ Dp K H v (.list (zs.map PyData.str)) ∧ zs.length < 64 ∧ (∀ z ∈ zs, z.length ≤ 2 ∧ ∀ c ∈ z.cps.toList, c ∈ sgs L) ∧ 1 ≤ L ∧ L ≤ 3 ∧ Tb K H ∧
  RetM K H Q L fun u => u ∈ zs.map idx
abbrev sgWM : List Str := ["letters", "words", "rows", "step", "word"]
theorem n_wlam (f c' : Addr) : ∀ {L : Nat} {rows : List (List Nat)}, FnAs P w K mg base 6 f (fun H => H f = some (LmO f (wlamF c')) ∧ H c' = some (CodeO c' "words_machine.<locals>.<lambda>")) (spLet K (wordsL L rows) wK (wU L rows)) := by
  intro L rows
  have S : NScC ["standing"] ["standing"] [] (lmS e_wlam) := nscC (by decide +kernel)
  refine (lam_as (k := 0) (F := wlamF c') (N := ["standing"]) (ps := ["standing"]) (sp := spLet K (wordsL L rows) wK (wU L rows)) S rfl (fun pm ctv us hl => ?_) (fun vs H Q h => ?_) fun A outer s H vs Q hr h => ?_).imp (by decide) (fun H h => h) fun vs H Q _ h => h
  · match us, hl with
    | [a], _ => rfl
  · obtain ⟨v, a, rfl, _⟩ := h; rfl
  have hu : (A.deeper (envC (wlamF c').nf f s.heap.objs.size)).units + 65 < cLine := by have := hr.un; omega
  obtain ⟨v, a, rfl, hU, hd, q⟩ := h
  rw [wK_data] at hd
  refine ⟨_, pe_cmpR (op_inDT hu) (pe_tup pa_nil) (pv 0) rfl, ?_⟩
  refine ⟨le0, fun t ht => ⟨_, rfl, nsD [], _, .tup (K44.st upd_same) .nil, dpOn hd (same_new ht _), shaped_ns _, shaped_rows _, ?_⟩⟩
  rw [any_rows]
  exact q.go (same_new ht _)
theorem c_words_machine (T : Txt K mg) (TH : TabH K mg base) : Cal P w K mg base 8 "words_machine" ["letters", "words"] (sp_words_machine K) := by
  have S : FnScope sgWM ["letters", "words"] (defScope s_words_machine) := fsc (by decide +kernel)
  refine Cal.ofT T.g_words_machine T.b_words_machine S (fun vs H Q E h => ?_) fun A outer s H vs Q E hr h => ?_
  · obtain ⟨L, v, zs, rfl, _⟩ := h; rfl
  have hu := hr.units
  obtain ⟨L, v, zs, rfl, hd, hn, hz, hL1, hL, htb, q⟩ := h
  refine ⟨_, pss_cons (ps_set (i := 2) S.nd rfl (.inl rfl) (pe_callTy call_tuple_of rfl T.ztuple (by decide +kernel) (pa_cons (pe_callB (cr_sortedM rfl hu) rfl T.zsorted (by decide +kernel) (pa_cons (pe_callTy (cr_setOfT rfl hu) rfl T.zset (by decide +kernel) (pa_cons (pe_lc (own := [("word", 4)]) (g := gName 4) (tt := tYes) rfl S.nd (pi_list (pv 1)) (blkOk_by (N := sgWM) (sc := defScope s_words_machine) (by decide +kernel))
        (fun _ _ _ _ _ => pg_name (i := 4) S.nd rfl (Or.inl rfl)) (fun _ _ _ _ _ => pts_nil) (fun _ _ _ _ _ => pc (c_spots T) hr (pa_cons (pv 4) pa_nil))) pa_nil)) pa_nil)) pa_nil)))
    (pss_cons (ps_ndefS (st := s_wstep) (T := TL K) (nm := nmAll) (c := He.codeOf K ("words_machine", none)) (i := 3) rfl (TH _ (by decide +kernel)) rfl (tl_mem (by decide +kernel)) (by rfl) tl_nm (ndef_free (sc := defScope s_words_machine) (nsc := C8.fnScope s_wstep) (fr := []) (by decide +kernel)) rfl rfl rfl S.nd rfl (.inl rfl) (.inl rfl))
    (pss_one (ps_ret (pc_reb (fun base' => c_by_lots T) (fun _ => rfl) hr (pa_cons (pv 0) (pa_cons (pv 2) (pa_cons (pv 3) (pa_cons (pe_lamE (T := TL K) (nm := nmAll) (c := He.codeOf K ("words_machine", none)) (TH ("words_machine", none) (by decide +kernel)) rfl (tl_mem (by decide +kernel)) (by rfl) tl_nm rfl (by decide +kernel)) pa_nil)))))))), ?_⟩
  obtain ⟨b, ys, rfl, hbL, hy⟩ := dp_lst hd
  have hyl : ys.length = zs.length := by rw [dpsLen hy, List.length_map]
  refine ⟨_, rfl, b, rfl, ⟨_, hbL⟩, fun D hD => lcm walk_list (fun i v => ys[i]? = some v) (fun _ _ _ _ y => y) (fun i y Hy => ∃ z, zs[i]? = some z ∧ Dp K Hy y (nsD (idx z))) (fun i y Ha Hb im ⟨z, h1, h2⟩ => ⟨z, h1, dpImm im _ _ (noL_ns _) h2⟩) (by omega) hD (fun H' e' => e'.seq hbL) (fun _ => rfl) ?_ ?_⟩
  · intro i x H1 hi hx e1 Q1 q1
    obtain ⟨d, h1, h2⟩ := dpsGetV hy hx
    rw [List.getElem?_map] at h1
    obtain ⟨z, hz1, rfl⟩ := Option.map_eq_some_iff.mp h1
    have := dp_str h2
    subst this
    obtain ⟨hz2, hz3⟩ := hz z (List.mem_of_getElem? hz1)
    exact ⟨_, rfl, z, rfl, by omega, fun c hc => sgs_sub (hz3 c hc), fun v1 H2 e2 hv1 => q1 _ _ e2 ⟨z, hz1, hv1⟩⟩
  intro us H1 e1 hus hul hR
  have hda : DpAll K H1 us ((zs.map idx).map nsD) := dps_of (by rw [List.length_map, List.length_map]; omega) fun i y d h1 h2 => by
    obtain ⟨z, h3, h4⟩ := hR i y h1
    rw [List.getElem?_map, List.getElem?_map, h3] at h2
    cases h2
    exact h4
  obtain ⟨ks, rfl, ek, hks⟩ := refs_of hda
  have hkl : ks.length = zs.length := by
    have := congrArg List.length ek
    simpa using this
  refine ⟨D, ks, rfl, sl hus, hks, by omega, fun a L0 ha hL0 hL0' => ?_⟩
  have e2 := same_new ha (SetTO P w a L0)
  have nat_of : ∀ p ∈ ks, ∃ z ∈ zs, p.2 = (idx z).map fun n : Nat => (n : Int) := fun p hp => by
    have : p.2 ∈ ks.map (·.2) := List.mem_map.mpr ⟨p, hp, rfl⟩
    rw [ek, List.map_map] at this
    obtain ⟨z, hz, e⟩ := List.mem_map.mp this
    exact ⟨z, hz, e.symm⟩
  refine ⟨a, L0, rfl, upd_same, fun p hp => Same.tup e2 (hks p (hL0 p hp)), fun p hp => ?_, fun L1 l pm h64 hl => ?_⟩
  · obtain ⟨z, hz1, e⟩ := nat_of p (hL0 p hp)
    obtain ⟨hz2, hz3⟩ := hz z hz1
    refine ⟨by rw [e, List.length_map]; unfold idx; rw [List.length_map]; exact hz2, fun x hx => ?_⟩
    rw [e] at hx
    obtain ⟨n, hn, rfl⟩ := List.mem_map.mp hx
    have := idx_wd hL hz3 n hn
    omega
  have e3 := same_new hl (.lst (L1.map fun q => V.ref q.1))
  refine ⟨l, _, rfl, .inl ⟨sl upd_same, fun t ht => ?_⟩⟩
  have e4 := same_new ht (.tup (L1.map fun q => V.ref q.1))
  have e14 := (e2.trans e3).trans e4
  have eH : Same H (upd (upd (upd H1 a (SetTO P w a L0)) l (.lst (L1.map fun q => V.ref q.1))) t (.tup (L1.map fun q => V.ref q.1))) := ((Same.new e1 ha _).trans e3).trans e4
  generalize hrw : (L1.map fun k => k.2.map Int.toNat) = rows
  have hrd : Dp K (upd (upd (upd H1 a (SetTO P w a L0)) l (.lst (L1.map fun q => V.ref q.1))) t (.tup (L1.map fun q => V.ref q.1))) (.ref t) (rowsD rows) := by
    refine .tup (K44.st upd_same) ?_
    rw [← hrw]
    refine refs_rows fun k hk => ?_
    have hk2 := hL0 k (pm.mem_iff.mp hk)
    obtain ⟨z, _, e⟩ := nat_of k hk2
    exact ⟨Same.tup e14 (hks k hk2), idx z, e⟩
  have hmem : ∀ r, r ∈ rows ↔ r ∈ zs.map idx := fun r => by
    rw [← hrw]
    refine ⟨fun h => ?_, fun h => ?_⟩
    · obtain ⟨k, hk, rfl⟩ := List.mem_map.mp h
      obtain ⟨z, hz1, e⟩ := nat_of k (hL0 k (pm.mem_iff.mp hk))
      rw [e, toN_map]
      exact List.mem_map.mpr ⟨z, hz1, rfl⟩
    · have : (r.map fun n : Nat => (n : Int)) ∈ ks.map (·.2) := by rw [ek]; exact List.mem_map.mpr ⟨r, h, rfl⟩
      obtain ⟨k, hk, e⟩ := List.mem_map.mp this
      obtain ⟨k2, hk2, e2⟩ := List.mem_map.mp (hL0' k hk)
      refine List.mem_map.mpr ⟨k2, pm.mem_iff.mpr hk2, ?_⟩
      show k2.2.map Int.toNat = r
      rw [show k2.2 = k.2 from e2, show k.2 = r.map fun n : Nat => (n : Int) from e, toN_map]
  have hrl : rows.length < 64 := by rw [← hrw, List.length_map]; exact h64
  have hr2 : ∀ r ∈ rows, r.length ≤ 2 := fun r hr => by
    obtain ⟨z, hz1, rfl⟩ := List.mem_map.mp ((hmem r).mp hr)
    unfold idx
    rw [List.length_map]
    exact (hz z hz1).1
  refine ⟨TabsN.ext htb eH, fun f c' H5 eN htb5 hf hfo hco => ?_⟩
  refine ⟨_, rfl, _, rfl, _, rfl, htb5, fun g cg H6 eN6 htb6 hg hgo hgc => fun base' C => ?_⟩
  have BC : BaseCells base' [] [] [] := ⟨rfl, fun y c e => by simp at e, fun x y c e => by simp at e, fun i y e => by simp at e⟩
  have F1 := fnAs_nok (n_wstep (P := P) (w := w) (base := base') T f c') BC
  have F2 := n_wlam (P := P) (w := w) (K := K) (mg := mg) (base := base') g cg (L := L) (rows := rows)
  have eN2 := ((ExtN.of_same eH).trans eN).trans eN6
  refine ⟨List (List Nat), inferInstance, wordsL L rows, wK, wU L rows, 14, .ref t, f, g, _, _, rfl, wordsK hL1 hL hr2, ?_, F1.imp (by decide) (fun H h => h) ?_, F2, fun Ha Hb e h => ⟨e _ _ h.1, e _ _ h.2⟩, fun Ha Hb e h => ⟨e _ _ h.1, e _ _ h.2⟩, ⟨eN6 _ _ hfo fnO_ne, eN6 _ _ hco codeO_ne⟩, ⟨hgo, hgc⟩, fun m hm => Nat.le_trans (words_few hL hr2 hm) (by decide), fun v' H' m e hm sp => q v' H' m (eN2.trans (ExtN.of_same e)) (TabsN.ext htb6 e) hm (sp.congr fun u _ => wordsL_lang.trans (hmem u))⟩
  · show Dp K H6 (.ref t) (wK rows).data
    rw [wK_data]
    exact dpN (dpN hrd eN) eN6
  · rintro vs Hq Qq _ ⟨v, x, c, rfl, ⟨_, hU2, hU3⟩, hc, hdx, qq⟩
    rw [wK_data] at hdx
    rw [wK_data] at qq
    exact ⟨x, v, c, rfl, by omega, hU3, hdx, qq⟩
end
end K44
end
section
set_option maxHeartbeats 4000000
namespace K44
open PySem PySem.Spec PyProof.Rows L2 LamX NdefX
section
variable {P : Program} {w : World} {K : PySem.W.Frag} {mg : Str → Option Value} {base : Heap}
/-! ### joined_of -/
def pass0 : Stmt := .Pass ⟨0, 0, 0, 0⟩
def s_pstep : Stmt := (defBody s_by_pairs).getD 0 pass0
def s_pend : Stmt := (defBody s_by_pairs).getD 1 pass0
abbrev pstepF (cl : List (Str × Addr)) (c : Addr) : NF := NF.of s_pstep "step" "by_pairs.<locals>.step" cl c
abbrev pendF (cl : List (Str × Addr)) (c : Addr) : NF := NF.of s_pend "is_end_of" "by_pairs.<locals>.is_end_of" cl c
/-- a machine with its language -/
structure MOk (K : PySem.W.Frag) (H : Hp) (L : Nat) (v : V) (m : Mach) (A : List Nat → Prop) : Prop where
  at_ : MachAt K H v m
  sp : MSpec L A m
theorem MOk.on {H H' : Hp} {L : Nat} {v : V} {m : Mach} {A : List Nat → Prop} (h : MOk K H L v m A) (e : Same H H') : MOk K H' L v m A := ⟨h.at_.on e, h.sp⟩
theorem MOk.onN {H H' : Hp} {L : Nat} {v : V} {m : Mach} {A : List Nat → Prop} (h : MOk K H L v m A) (e : ExtN H H') : MOk K H' L v m A := ⟨h.at_.onN e, h.sp⟩
theorem MOk.wf {H : Hp} {L : Nat} {v : V} {m : Mach} {A : List Nat → Prop} (h : MOk K H L v m A) : WF L m.st m.en := by
  have := h.sp.wf
  rw [h.sp.eL] at this
  exact this
/-- own_steps[s][c] -/
def StepAt (K : PySem.W.Frag) (H : Hp) (v : V) (m : Mach) (s c : Nat) : Prop := ∃ (a : Addr) (dx : Addr) (fs : List (Str × V)) (b : Addr) (ys : List V) (p : Addr) (r : List Nat), v = .ref a ∧ H a = some (.ins (He.ga K "Machine") dx fs) ∧ fs.lookup ("own_steps" : Str) = some (.ref b) ∧ SqT K H b ys ∧ atI ys (s : Int) = some (.ref p) ∧ SqT K H p (r.map nV) ∧ atI (r.map nV) (c : Int) = some (nV (nx m.st s c))
theorem MOk.step {H : Hp} {L : Nat} {v : V} {m : Mach} {A : List Nat → Prop} (h : MOk K H L v m A) {s c : Nat} (hs : s < m.st.length) (hc : c < L) : StepAt K H v m s c := by
  obtain ⟨r, g1, g2⟩ := h.wf.get hs hc
  obtain ⟨a, dx, fs, sv, ev, rfl, h1, h2, h3, h4, h5, h6⟩ := h.at_
  obtain ⟨b, ys, rfl, h7, h8⟩ := dp_tup h5
  obtain ⟨rv, k1, k2⟩ := dpsGet h8 (by rw [List.getElem?_map, g1]; rfl : (m.st.map nsD)[_]? = some (nsD r))
  obtain ⟨p, zs, rfl, k3, k4⟩ := dp_tup k2
  have ez := dps_ints k4
  subst ez
  exact ⟨a, dx, fs, b, ys, p, r, rfl, h1, h3, h7, atI_nat k1, k3, at_nats g2⟩
theorem nsD2 {H : Hp} {v : V} {s t : Nat} (h : Dp K H v (nsD [s, t])) : ∃ p, v = .ref p ∧ SqT K H p [.int (s : Int), .int (t : Int)] := by
  obtain ⟨p, zs, rfl, hp, hz⟩ := dp_tup h
  have ez := dps_ints hz
  subst ez
  exact ⟨p, rfl, hp⟩
def sp_pstep (K : PySem.W.Frag) : List (Option V) → Sp := fun ws vs H Q _ => ∃ (L : Nat) (v1 v2 v : V) (m1 m2 : Mach) (A B : List Nat → Prop) (s t c : Nat), ws = [some v1, some v2] ∧ vs = [v, .int c] ∧ MOk K H L v1 m1 A ∧ MOk K H L v2 m2 B ∧ s < m1.st.length ∧ t < m2.st.length ∧ c < L ∧ Dp K H v (nsD [s, t]) ∧ RetT K H Q (nsD [nx m1.st s c, nx m2.st t c])
theorem n_pstep (T : Txt K mg) (f c' : Addr) (cl : List (Str × Addr)) : NOk P w K mg base CX0 1 f (pstepF cl c') ["standing", "letter"] ["machine", "other"] (sp_pstep K) := by
  have S : NScC ["standing", "letter", "machine", "other"] ["standing", "letter"] ["machine", "other"] (C8.fnScope s_pstep) := nscC (by decide +kernel)
  refine nokC S (fun doc pm ctv us hl => ?_) (fun ws vs H Q E h => ?_) fun A outer s H vs ws Q E hr C h => ?_
  · match us, hl with
    | [a, b], _ => rfl
  · obtain ⟨L, v1, v2, v, m1, m2, A, B, s, t, c, _, rfl, _⟩ := h; rfl
  obtain ⟨L, v1, v2, v, m1, m2, A, B, x, y, c, rfl, rfl, h1, h2, hx, hy, hc, hd, q⟩ := h
  refine ⟨_, (pss_one (ps_ret (pe_tup (pa_cons (pe_ix ix_tup (pe_ix ix_tup (pe_fld (pv 2) rfl) (pe_ix ix_tup (pv 0) pe_int (fun _ _ => rfl)) (fun _ _ => rfl)) (pv 1) (fun _ _ => rfl)) (pa_cons (pe_ix ix_tup (pe_ix ix_tup (pe_fld (pv 3) rfl) (pe_ix ix_tup (pv 0) pe_int (fun _ _ => rfl)) (fun _ _ => rfl)) (pv 1) (fun _ _ => rfl)) pa_nil))))), ?_⟩
  obtain ⟨p, rfl, hp⟩ := nsD2 hd
  obtain ⟨a1, dx1, fs1, b1, ys1, p1, r1, rfl, i1, i2, i3, i4, i5, i6⟩ := h1.step hx hc
  obtain ⟨a2, dx2, fs2, b2, ys2, p2, r2, rfl, j1, j2, j3, j4, j5, j6⟩ := h2.step hy hc
  refine ⟨_, rfl, a1, _, dx1, fs1, _, rfl, i1, T.cls, T.na_own_steps, i2, _, rfl, p, _, _, _, rfl, rfl, hp, rfl, b1, ys1, _, _, rfl, rfl, i3, i4, _, rfl, p1, _, _, _, rfl, rfl, i5, i6, ?_⟩
  refine ⟨_, rfl, a2, _, dx2, fs2, _, rfl, j1, T.cls, T.na_own_steps, j2, _, rfl, p, _, _, _, rfl, rfl, hp, rfl, b2, ys2, _, _, rfl, rfl, j3, j4, _, rfl, p2, _, _, _, rfl, rfl, j5, j6, ?_⟩
  exact ⟨le2, fun l hl => q _ _ (same_new hl _) (.tup (K44.st upd_same) (dps_of_ints (ns := [_, _])))⟩
/-- or of two bools -/
def spOr : Sp := fun vs H Q _ => ∃ a b : Bool, vs = [.bl a, .bl b] ∧ Ret H Q (.bl (a || b))
def sp_pend (P : Program) (w : World) (K : PySem.W.Frag) (mg : Str → Option Value) (base : Heap) : List (Option V) → Sp := fun ws vs H Q _ => ∃ (L : Nat) (v1 v2 v : V) (f3 : Addr) (G3 : Hp → Prop) (m1 m2 : Mach) (A B : List Nat → Prop) (s t : Nat), ws = [some (.ref f3), some v1, some v2] ∧ vs = [v] ∧ MOk K H L v1 m1 A ∧ MOk K H L v2 m2 B ∧ FnAs P w K mg base 2 f3 G3 spOr ∧ (∀ H H', Same H H' → G3 H → G3 H') ∧ G3 H ∧ Dp K H v (nsD [s, t]) ∧ Ret H Q (.bl (decide (s ∈ m1.en) || decide (t ∈ m2.en)))
theorem n_pend (T : Txt K mg) (f c' : Addr) (cl : List (Str × Addr)) : NOk P w K mg base CX0 3 f (pendF cl c') ["standing"] ["is_let", "machine", "other"] (sp_pend P w K mg base) := by
  have S : NScC ["standing", "is_let", "machine", "other"] ["standing"] ["is_let", "machine", "other"] (C8.fnScope s_pend) := nscC (by decide +kernel)
  refine nokC S (fun doc pm ctv us hl => ?_) (fun ws vs H Q E h => ?_) fun A outer s H vs ws Q E hr C h => ?_
  · match us, hl with
    | [a], _ => rfl
  · obtain ⟨L, v1, v2, v, f3, G3, m1, m2, A, B, s, t, _, rfl, _⟩ := h; rfl
  obtain ⟨L, v1, v2, v, f3, G3, m1, m2, A, B, x, y, rfl, rfl, h1, h2, F3, mono, g3, hd, q⟩ := h
  refine ⟨_, (pss_one (ps_ret (pe_fnAs (i := 1) F3 hr (pa_cons (pc (c_is_end T) hr (pa_cons (pv 2) (pa_cons (pe_ix ix_tup (pv 0) pe_int (fun _ _ => rfl)) pa_nil))) (pa_cons (pc (c_is_end T) hr (pa_cons (pv 3) (pa_cons (pe_ix ix_tup (pv 0) pe_int (fun _ _ => rfl)) pa_nil))) pa_nil)) rfl (.inr (.inr rfl))))), ?_⟩
  obtain ⟨p, rfl, hp⟩ := nsD2 hd
  refine ⟨rfl, g3, _, rfl, _, rfl, p, _, _, _, rfl, rfl, hp, rfl, v1, m1, x, rfl, h1.at_, fun H1 e1 => ?_⟩
  refine ⟨_, rfl, _, rfl, p, _, _, _, rfl, rfl, Same.tup e1 hp, rfl, v2, m2, y, rfl, h2.at_.on e1, fun H2 e2 => ?_⟩
  exact ⟨mono _ _ (e1.trans e2) g3, _, _, rfl, Ret.on q (e1.trans e2)⟩
theorem pairK {L : Nat} {m1 m2 : Mach} {v1 v2 : V} {A B : List Nat → Prop} {H : Hp} (h1 : MOk K H L v1 m1 A) (h2 : MOk K H L v2 m2 B) (hL1 : 1 ≤ L) (hL : L ≤ 3) (hn : m1.st.length * m2.st.length ≤ 200000) :
    LotsK (pairL L m1 m2) (fun a => kN [a.1, a.2]) (fun a => a.1 < m1.st.length ∧ a.2 < m2.st.length) (m1.st.length * m2.st.length) where
  inj := fun a b e => by
    have := kN_inj e
    simp at this
    exact Prod.ext this.1 this.2
  dep := fun a => kN_depth _
  tup := fun a => ⟨_, rfl⟩
  b := ⟨h1.wf.pos, h2.wf.pos⟩
  f := fun a c ⟨ha, hb⟩ hc => ⟨h1.wf.nx_lt ha hc, h2.wf.nx_lt hb hc⟩
  card := fun fs nd hU => by
    have := nodup_lenG (m := (List.range m1.st.length).flatMap fun x => (List.range m2.st.length).map fun y => (x, y)) nd fun a ha => List.mem_flatMap.mpr ⟨a.1, List.mem_range.mpr (hU a ha).1, List.mem_map.mpr ⟨a.2, List.mem_range.mpr (hU a ha).2, rfl⟩⟩
    rw [List.length_flatMap] at this
    have e : ((List.range m1.st.length).map fun x => ((List.range m2.st.length).map fun y => (x, y)).length) = List.replicate m1.st.length m2.st.length := List.eq_replicate_iff.mpr ⟨by rw [List.length_map, List.length_range], fun b hb => by
      obtain ⟨x, _, rfl⟩ := List.mem_map.mp hb
      rw [List.length_map, List.length_range]⟩
    rw [e, List.sum_replicate_nat] at this
    exact this
  n := hn
  L1 := hL1
  L3 := hL
def sp_by_pairs (P : Program) (w : World) (K : PySem.W.Frag) (mg : Str → Option Value) : Sp := fun vs H Q _ => ∃ (L : Nat) (v1 v2 : V) (f3 : Addr) (G3 : Hp → Prop) (m1 m2 : Mach) (A B : List Nat → Prop), vs = [v1, v2, .ref f3] ∧ MOk K H L v1 m1 A ∧ MOk K H L v2 m2 B ∧ 1 ≤ L ∧ L ≤ 3 ∧ m1.st.length * m2.st.length ≤ 200000 ∧ (∀ m, MSpec L (eth A B) m → m.st.length ≤ 60) ∧
  (∀ base, FnAs P w K mg base 2 f3 G3 spOr) ∧ (∀ H H', ExtN H H' → G3 H → G3 H') ∧ G3 H ∧ Tb K H ∧ RetM K H Q L (eth A B)
abbrev sgBP : List Str := ["machine", "other", "is_let", "step", "is_end_of"]
theorem c_by_pairs (T : Txt K mg) (TH : TabH K mg base) : Cal P w K mg base 8 "by_pairs" ["machine", "other", "is_let"] (sp_by_pairs P w K mg) := by
  have S : FnScope sgBP ["machine", "other", "is_let"] (defScope s_by_pairs) := fsc (by decide +kernel)
  refine Cal.ofT T.g_by_pairs T.b_by_pairs S (fun vs H Q E h => ?_) fun A outer s H vs Q E hr h => ?_
  · obtain ⟨L, v1, v2, f3, G3, m1, m2, A, B, rfl, _⟩ := h; rfl
  have hu := hr.units
  obtain ⟨L, v1, v2, f3, G3, m1, m2, A, B, rfl, h1, h2, hL1, hL, hn, few, F3, mono, g3, htb, q⟩ := h
  refine ⟨_, (pss_cons (ps_ndefS (st := s_pstep) (T := TL K) (nm := nmAll) (c := He.codeOf K ("by_pairs", none)) (i := 3) rfl (TH _ (by decide +kernel)) rfl (tl_mem (by decide +kernel)) (by rfl) tl_nm (ndef_free (sc := defScope s_by_pairs) (nsc := C8.fnScope s_pstep) (fr := ["machine", "other"]) (by decide +kernel)) rfl rfl rfl S.nd rfl (.inl rfl) (.inl rfl))
    (pss_cons (ps_ndefS (st := s_pend) (T := TL K) (nm := nmAll) (c := He.codeOf K ("by_pairs", none)) (i := 4) rfl (TH _ (by decide +kernel)) rfl (tl_mem (by decide +kernel)) (by rfl) tl_nm (ndef_free (sc := defScope s_by_pairs) (nsc := C8.fnScope s_pend) (fr := ["is_let", "machine", "other"]) (by decide +kernel)) rfl rfl rfl S.nd rfl (.inl rfl) (.inl rfl))
    (pss_one (ps_ret (pc_reb (fun base' => c_by_lots T) (fun _ => rfl) hr (pa_cons (pe_fld (pv 0) rfl) (pa_cons (pe_tup (pa_cons (pe_int) (pa_cons (pe_int) pa_nil))) (pa_cons (pv 3) (pa_cons (pv 4) pa_nil))))))))), ?_⟩
  refine ⟨htb, fun f c' H1 e1 htb1 hf hfo hco => ⟨htb1, fun g cg H2 e2 htb2 hg hgo hgc => ?_⟩⟩
  have e12 := e1.trans e2
  have h1' := h1.onN e12
  have h2' := h2.onN e12
  obtain ⟨a, dx, fs, sv, ev, e0, i1, i2, i3, i4, i5, i6⟩ := h1'.at_
  refine ⟨_, rfl, a, _, dx, fs, _, e0, i1, T.cls, T.na_own_letters, i2, le2, fun t ht => ⟨_, rfl, _, rfl, fun base' C => ?_⟩⟩
  have e3 := same_new ht (.tup [.int 0, .int 0])
  have B1 : BaseCells base' _ ["machine", "other"] _ := C.caps (js := [0, 1]) (Caps.made (scope := C8.fnScope s_pstep) C.ok (ndef_free (sc := defScope s_by_pairs) (nsc := C8.fnScope s_pstep) (fr := ["machine", "other"]) (by decide +kernel)) (ndef_fr (sc := defScope s_by_pairs) (nsc := C8.fnScope s_pstep) (fr := ["machine", "other"]) (by decide +kernel)) rfl)
  have B2 : BaseCells base' _ ["is_let", "machine", "other"] _ := C.caps (js := [2, 0, 1]) (Caps.made (scope := C8.fnScope s_pend) C.ok (ndef_free (sc := defScope s_by_pairs) (nsc := C8.fnScope s_pend) (fr := ["is_let", "machine", "other"]) (by decide +kernel)) (ndef_fr (sc := defScope s_by_pairs) (nsc := C8.fnScope s_pend) (fr := ["is_let", "machine", "other"]) (by decide +kernel)) rfl)
  have F1 := fnAs_nok (n_pstep (P := P) (w := w) (base := base') T f c' _) B1
  have F2 := fnAs_nok (n_pend (P := P) (w := w) (base := base') T g cg _) B2
  have eA : ExtN H (upd H2 t (.tup [.int 0, .int 0])) := e12.trans (ExtN.of_same e3)
  refine ⟨Nat × Nat, inferInstance, pairL L m1 m2, fun a => kN [a.1, a.2], _, _, .ref t, f, g, (fun Hx => (Hx f = some (FnO f (pstepF _ c')) ∧ Hx c' = some (CodeO c' (pstepF _ c').qual)) ∧ MOk K Hx L v1 m1 A ∧ MOk K Hx L v2 m2 B), (fun Hx => (Hx g = some (FnO g (pendF _ cg)) ∧ Hx cg = some (CodeO cg (pendF _ cg).qual)) ∧ MOk K Hx L v1 m1 A ∧ MOk K Hx L v2 m2 B ∧ G3 Hx), ?_, pairK h1 h2 hL1 hL hn, ?_,
    F1.imp (by decide) (fun H h => h.1) ?_, F2.imp (by decide) (fun H h => h.1) ?_, fun Ha Hb e h => ⟨⟨e _ _ h.1.1, e _ _ h.1.2⟩, h.2.1.on e, h.2.2.on e⟩, fun Ha Hb e h => ⟨⟨e _ _ h.1.1, e _ _ h.1.2⟩, h.2.1.on e, h.2.2.1.on e, mono _ _ (ExtN.of_same e) h.2.2.2⟩, ⟨⟨?_, ?_⟩, h1'.on e3, h2'.on e3⟩, ⟨⟨e3 _ _ hgo, e3 _ _ hgc⟩, h1'.on e3, h2'.on e3, mono _ _ eA g3⟩, ?_, ?_⟩
  · rw [h1.sp.eL]; rfl
  · rw [kN_data]
    exact .tup (K44.st upd_same) (dps_of_ints (ns := [0, 0]))
  · rintro vs Hq Qq ⟨_, k1, k2⟩ ⟨v, x, c, rfl, ⟨u1, u2⟩, hc, hdx, qq⟩
    rw [kN_data] at hdx
    rw [kN_data] at qq
    exact ⟨L, v1, v2, v, m1, m2, A, B, x.1, x.2, c, rfl, rfl, k1, k2, u1, u2, hc, hdx, qq⟩
  · rintro vs Hq Qq ⟨_, k1, k2, k3⟩ ⟨v, x, rfl, ⟨u1, u2⟩, hdx, qq⟩
    rw [kN_data] at hdx
    exact ⟨L, v1, v2, v, f3, G3, m1, m2, A, B, x.1, x.2, rfl, rfl, k1, k2, F3 base', fun Ha Hb e h => mono _ _ (ExtN.of_same e) h, k3, hdx, qq⟩
  · exact e3 _ _ (e2 _ _ hfo fnO_ne)
  · exact e3 _ _ (e2 _ _ hco codeO_ne)
  · exact fun m hm => few m (hm.congr fun u hu => pair_lang h1.sp h2.sp hu)
  · exact fun v' H' m e hm sp => q v' H' m (eA.trans (ExtN.of_same e)) (TabsN.ext (TabsN.ext htb2 e3) e) hm (sp.congr fun u hu => pair_lang h1.sp h2.sp hu)
end
end K44
end
section
set_option maxHeartbeats 4000000
namespace K44
open PySem PySem.Spec PyProof.Rows L2 LamX NdefX
section
variable {P : Program} {w : World} {K : PySem.W.Frag} {mg : Str → Option Value} {base : Heap}
def e_jlam : Expr := match asgV ((defBody s_joined_of).getD 0 pass0) with
  | .Call _ [_, _, e] _ _ => e
  | e => e
abbrev jlamF (c : Addr) : K44.LF := ⟨"joined_of.<locals>.<lambda>", lmP e_jlam, lmB e_jlam, lmS e_jlam, [], c⟩
theorem n_jlam (f c' : Addr) : FnAs P w K mg base 2 f (fun H => H f = some (LmO f (jlamF c')) ∧ H c' = some (CodeO c' "joined_of.<locals>.<lambda>")) spOr := by
  have S : NScC ["near", "far"] ["near", "far"] [] (lmS e_jlam) := nscC (by decide +kernel)
  refine (lam_as (k := 0) (F := jlamF c') (N := ["near", "far"]) (ps := ["near", "far"]) (sp := spOr) S rfl (fun pm ctv us hl => ?_) (fun vs H Q h => ?_) fun A outer s H vs Q hr h => ?_).imp (by decide) (fun H h => h) fun vs H Q _ h => h
  · match us, hl with
    | [a, b], _ => rfl
  · obtain ⟨a, b, rfl, _⟩ := h; rfl
  obtain ⟨a, b, rfl, q⟩ := h
  refine ⟨_, pe_or (pv 0) (pe_one (pv 1)), ?_⟩
  refine ⟨_, rfl, a, rfl, ?_⟩
  cases a with
  | true => exact ifT rfl q.here
  | false => exact ifF rfl ⟨_, rfl, q.here⟩
theorem RetM.on {K : PySem.W.Frag} {H H' : Hp} {Q : VK} {L : Nat} {lang : List Nat → Prop} (q : RetM K H Q L lang) (e : ExtN H H') : RetM K H' Q L lang := fun v H2 m e2 tb hm sp => q v H2 m (e.trans e2) tb hm sp
/-- two machines; the tables may grow -/
def sp_two (K : PySem.W.Frag) (op : (List Nat → Prop) → (List Nat → Prop) → List Nat → Prop) (n : Nat → Nat → Nat) : Sp := fun vs H Q _ => ∃ (L : Nat) (v1 v2 : V) (m1 m2 : Mach) (A B : List Nat → Prop), vs = [v1, v2] ∧ MOk K H L v1 m1 A ∧ MOk K H L v2 m2 B ∧ 1 ≤ L ∧ L ≤ 3 ∧ n m1.st.length m2.st.length ≤ 200000 ∧ (∀ m, MSpec L (op A B) m → m.st.length ≤ 60) ∧ Tb K H ∧ RetM K H Q L (op A B)
theorem c_joined_of (T : Txt K mg) (TH : TabH K mg base) : Cal P w K mg base 9 "joined_of" ["machine", "other"] (sp_two K eth (· * ·)) := by
  have S : FnScope ["machine", "other"] ["machine", "other"] (defScope s_joined_of) := fsc (by decide +kernel)
  refine Cal.ofT T.g_joined_of T.b_joined_of S (fun vs H Q E h => ?_) fun A outer s H vs Q E hr h => ?_
  · obtain ⟨L, v1, v2, m1, m2, A, B, rfl, _⟩ := h; rfl
  obtain ⟨L, v1, v2, m1, m2, A, B, rfl, h1, h2, hL1, hL, hn, few, htb, q⟩ := h
  refine ⟨_, (pss_one (ps_ret (pc (c_by_pairs T TH) hr (pa_cons (pv 0) (pa_cons (pv 1) (pa_cons (pe_lamE (T := TL K) (nm := nmAll) (c := He.codeOf K ("joined_of", none)) (TH ("joined_of", none) (by decide +kernel)) rfl (tl_mem (by decide +kernel)) (by rfl) tl_nm rfl (by decide +kernel)) pa_nil)))))), ?_⟩
  refine ⟨_, rfl, _, rfl, htb, fun g cg H2 e2 htb2 hg hgo hgc => ?_⟩
  exact ⟨L, v1, v2, g, (fun H => H g = some (LmO g (jlamF cg)) ∧ H cg = some (CodeO cg "joined_of.<locals>.<lambda>")), m1, m2, A, B, rfl, h1.onN e2, h2.onN e2, hL1, hL, hn, few, fun base' => n_jlam g cg, fun Ha Hb e h => ⟨e _ _ h.1 (fun _ z => nomatch z), e _ _ h.2 codeO_ne⟩, ⟨hgo, hgc⟩, htb2, RetM.on q e2⟩
end
end K44
end
section
set_option maxHeartbeats 4000000
namespace K44
open PySem PySem.Spec PyProof.Rows L2 LamX NdefX
theorem pe_fldK {X : Cx} {K : PySem.W.Frag} {e : Expr} {f : Str} {ta : TE} {pos : Pos} (he : PE X e ta) (hb : attributeBase e f X.env (eval e X.env) = eval e X.env) (h : X.K = K := by rfl) : PE X (.Attribute e f pos) (tFld K ta f) := h ▸ pe_fld he hb
section
variable {P : Program} {w : World} {K : PySem.W.Frag} {mg : Str → Option Value} {base : Heap}
/-! ### behind_of -/
def s_begun : Stmt := (defBody s_behind_of).getD 0 pass0
def s_bstep : Stmt := (defBody s_behind_of).getD 1 pass0
def s_blet : Stmt := (defBody s_behind_of).getD 2 pass0
abbrev begunF (cl : List (Str × Addr)) (c : Addr) : NF := NF.of s_begun "begun" "behind_of.<locals>.begun" cl c
abbrev bstepF (cl : List (Str × Addr)) (c : Addr) : NF := NF.of s_bstep "step" "behind_of.<locals>.step" cl c
abbrev bletF (cl : List (Str × Addr)) (c : Addr) : NF := NF.of s_blet "is_let" "behind_of.<locals>.is_let" cl c
/-- a state and a lot -/
def slD (a : Nat × List Nat) : PyData := .tuple [nD a.1, nsD a.2]
def slK (a : Nat × List Nat) : NestedKey := .tup [.num (a.1 : Int), kN a.2]
theorem slK_data (a : Nat × List Nat) : (slK a).data = slD a := by
  unfold slK slD
  rw [NestedKey.data, NestedKey.datas, NestedKey.datas, NestedKey.datas, kN_data, NestedKey.data]; rfl
theorem kN_dep1 (n : List Nat) : (kN n).depth ≤ 1 := by
  have key : ∀ l : List Nat, NestedKey.depthAll (l.map fun n : Nat => NestedKey.num (n : Int)) = 0 := by
    intro l
    induction l with
    | nil => rw [List.map_nil, NestedKey.depthAll]
    | cons n l ih => rw [List.map_cons, NestedKey.depthAll, ih, NestedKey.depth]; rfl
  unfold kN
  rw [NestedKey.depth, key]; omega
theorem slK_depth (a : Nat × List Nat) : (slK a).depth ≤ 8 := by
  have := kN_dep1 a.2
  unfold slK
  rw [NestedKey.depth, NestedKey.depthAll, NestedKey.depthAll, NestedKey.depthAll, NestedKey.depth]
  omega
theorem slK_inj {a b : Nat × List Nat} (h : slK a = slK b) : a = b := by
  unfold slK at h
  injection h with h
  simp at h
  exact Prod.ext (by have := h.1; omega) (kN_inj h.2)
theorem slD_at {H : Hp} {v : V} {a : Nat × List Nat} (h : Dp K H v (slD a)) : ∃ p l, v = .ref p ∧ SqT K H p [.int (a.1 : Int), .ref l] ∧ SqT K H l (a.2.map nV) := by
  obtain ⟨p, zs, rfl, hp, hz⟩ := dp_tup h
  obtain ⟨v0, v1, rfl, h0, h1⟩ := dps2 hz
  obtain rfl := dp_int h0
  obtain ⟨l, ys, rfl, hl, hy⟩ := dp_tup h1
  have ey := dps_ints hy
  subst ey
  exact ⟨p, l, rfl, hp, hl⟩
/-- tuple(sorted(set(t))) done -/
theorem srt_done {n : Nat} {lot : List Nat} {ns : List Int} {H : Hp} {Q : VK} {p t u : Addr} {o : HO} (hl : ∀ q ∈ lot, q < n) (pw : ns.Pairwise (· < ·)) (hm : ∀ k : Int, k ∈ ns ↔ (decide (k ∈ lot.map fun q : Nat => (q : Int))) = true) (hp : H p = none) (ht : upd H p o t = none)
    (hu : upd (upd H p o) t (.lst (ns.map V.int)) u = none) (q : RetT K H Q (nsD (srt n lot))) : Q (.ref u) (upd (upd (upd H p o) t (.lst (ns.map V.int))) u (.tup (ns.map V.int))) := by
  have e : ns = (srt n lot).map fun q : Nat => (q : Int) := srt_ints hl pw fun k => by
    rw [hm k, decide_eq_true_iff, List.mem_map]
    exact ⟨fun ⟨q, h1, h2⟩ => ⟨q, h1, h2.symm⟩, fun ⟨q, h1, h2⟩ => ⟨q, h1, h2.symm⟩⟩
  refine q _ _ (((same_new hp _).trans (same_new ht _)).trans (same_new hu _)) (.tup (K44.st upd_same) ?_)
  rw [e, List.map_map]
  exact dps_of_ints
def sp_begun (K : PySem.W.Frag) (n : Nat) : List (Option V) → Sp := fun ws vs H Q _ => ∃ (L : Nat) (v1 v : V) (m1 : Mach) (A : List Nat → Prop) (s : Nat) (lot : List Nat), ws = [some v1] ∧ vs = [.int s, v] ∧ MOk K H L v1 m1 A ∧ Dp K H v (nsD lot) ∧ (∀ q ∈ lot, q < n) ∧ 0 < n ∧ n < 64 ∧ lot.length ≤ 1000 ∧ RetT K H Q (slD (s, srt n (if s ∈ m1.en then lot ++ [0] else lot)))
theorem n_begun (T : Txt K mg) (n : Nat) (f c' : Addr) (cl : List (Str × Addr)) : NOk P w K mg base CX0 2 f (begunF cl c') ["state", "lot"] ["machine"] (sp_begun K n) := by
  have S : NScC ["state", "lot", "machine"] ["state", "lot"] ["machine"] (C8.fnScope s_begun) := nscC (by decide +kernel)
  refine nokC S (fun doc pm ctv us hl => ?_) (fun ws vs H Q E h => ?_) fun A outer s H vs ws Q E hr C h => ?_
  · match us, hl with
    | [a, b], _ => rfl
  · obtain ⟨L, v1, v, m1, A, s, lot, _, rfl, _⟩ := h; rfl
  obtain ⟨L, v1, v, m1, A, x, lot, rfl, rfl, h1, hd, hb, h0, hn, hlen, q⟩ := h
  refine ⟨_, (pss_one (ps_ret (pe_tup (pa_cons (pv 0) (pa_cons (pe_ifExp (pt_val (pc (c_is_end T) hr (pa_cons (pv 2) (pa_cons (pv 0) pa_nil)))) (pe_callTy call_tuple_of rfl T.ztuple (by decide +kernel) (pa_cons (pe_callB (cr_sortedSet rfl) rfl T.zsorted (by decide +kernel) (pa_cons (pe_callTy (call_setI rfl) rfl T.zset (by decide +kernel) (pa_cons (pe_op op_catA (pv 1) (pe_tup (pa_cons (pe_int) pa_nil))) pa_nil)) pa_nil)) pa_nil))
      (pe_callTy call_tuple_of rfl T.ztuple (by decide +kernel) (pa_cons (pe_callB (cr_sortedSet rfl) rfl T.zsorted (by decide +kernel) (pa_cons (pe_callTy (call_setI rfl) rfl T.zset (by decide +kernel) (pa_cons (pv 1) pa_nil)) pa_nil)) pa_nil))) pa_nil))))), ?_⟩
  obtain ⟨l, ys, rfl, hl, hy⟩ := dp_tup hd
  have ey := dps_ints hy
  subst ey
  refine ⟨_, rfl, _, rfl, _, rfl, v1, m1, x, rfl, h1.at_, fun H1 e1 => ⟨_, rfl, ?_⟩⟩
  have fin : ∀ (l2 : Addr) (lot2 : List Nat) (H2 : Hp), Same H H2 → SqT K H2 l2 (lot2.map nV) → (∀ q ∈ lot2, q < n) → lot2.length ≤ 2000 → (if x ∈ m1.en then lot ++ [0] else lot) = lot2 → rSetI K w [.ref l2] H2 fun v3 H3 => rSortedSet w [v3] H3 fun v4 H4 => rTupOf K [v4] H4 fun v5 H5 => 2 ≤ sizeLine ∧ ∀ p, H5 p = none → Q (.ref p) (upd H5 p (.tup [.int (x : Int), v5])) := by
    intro l2 lot2 H2 e2 hl2 hb2 hlen2 el
    refine ⟨l2, lot2.map fun q : Nat => (q : Int), (List.range n).map fun q : Nat => (q : Int), rfl, fun k hk => ?_, .inr ⟨by rw [List.map_map]; exact hl2, by rw [List.length_map]; omega⟩, fun p c hp hc => ⟨p, _, c, rfl, upd_same, by rw [List.length_map, List.length_range] at hc; omega, fun ns t pw hmem hln ht => ⟨t, _, rfl, .inl ⟨sl upd_same, fun u hu => ?_⟩⟩⟩⟩
    · obtain ⟨q, hq, rfl⟩ := List.mem_map.mp hk
      exact List.mem_map.mpr ⟨q, List.mem_range.mpr (hb2 q hq), rfl⟩
    · refine srt_done (K := K) (n := n) (lot := lot2) (Q := fun v5 H5 => 2 ≤ sizeLine ∧ ∀ p, H5 p = none → Q (.ref p) (upd H5 p (.tup [.int (x : Int), v5]))) hb2 pw hmem hp ht hu fun v5 H5 e5 hv5 => ⟨le2, fun r hr => q _ _ ((e2.trans e5).trans (same_new hr _)) ?_⟩
      rw [el]
      exact .tup (K44.st upd_same) (.cons (.int _) (.cons (dpOn hv5 (same_new hr _)) .nil))
  by_cases hx : x ∈ m1.en
  · refine ifT (decide_eq_true hx) ⟨_, rfl, le1, fun t ht => ?_⟩
    have e2 := same_new ht (.tup [.int 0])
    have hl2 := Same.tup (e1.trans e2) hl
    have hb2 : ∀ q ∈ lot ++ [0], q < n := fun q hq => (List.mem_append.mp hq).elim (hb q) fun z => by rw [List.mem_singleton.mp z]; exact h0
    refine ⟨l, t, lot.map nV, [.int 0], rfl, rfl, hl2, K44.st upd_same, by rw [List.length_map]; exact Nat.le_of_lt (szt (by show lot.length + 1 < _; omega)), fun z => ?_, ?_, ?_⟩
    · have : lot = [] := by simpa using z
      exact fin t (lot ++ [0]) _ (e1.trans e2) (by rw [this]; exact K44.st upd_same) hb2 (by rw [List.length_append]; show lot.length + 1 ≤ _; omega) (if_pos hx)
    · intro z z2
      cases z2
    · intro z z2 p hp
      exact fin p (lot ++ [0]) _ ((e1.trans e2).trans (same_new hp _)) (by rw [List.map_append]; exact K44.st upd_same) hb2 (by rw [List.length_append]; show lot.length + 1 ≤ _; omega) (if_pos hx)
  · refine ifF (decide_eq_false hx) ⟨_, rfl, fin l lot _ e1 (Same.tup e1 hl) hb (by omega) (if_neg hx)⟩
end
end K44
end
section
set_option maxHeartbeats 4000000
namespace K44
open PySem PySem.Spec PyProof.Rows L2 LamX NdefX
section
variable {P : Program} {w : World} {K : PySem.W.Frag} {mg : Str → Option Value} {base : Heap}
def sp_bstep (P : Program) (w : World) (K : PySem.W.Frag) (mg : Str → Option Value) (base : Heap) : List (Option V) → Sp := fun ws vs H Q _ => ∃ (L : Nat) (v1 v2 v : V) (fb : Addr) (Gb : Hp → Prop) (m1 m2 : Mach) (A B : List Nat → Prop) (a : Nat × List Nat) (c : Nat), ws = [some (.ref fb), some v1, some v2] ∧ vs = [v, .int c] ∧ MOk K H L v1 m1 A ∧ MOk K H L v2 m2 B ∧
  FnAs P w K mg base 2 fb Gb (sp_begun K m2.st.length [some v1]) ∧ (∀ H H', Same H H' → Gb H → Gb H') ∧ Gb H ∧ a.1 < m1.st.length ∧ (∀ q ∈ a.2, q < m2.st.length) ∧ a.2.length ≤ 1000 ∧ m2.st.length < 64 ∧ c < L ∧ Dp K H v (slD a) ∧ RetT K H Q (slD (begL m1 m2 (nx m1.st a.1 c) (a.2.map fun q => nx m2.st q c)))
theorem n_bstep (T : Txt K mg) (f c' : Addr) (cl : List (Str × Addr)) : NOk P w K mg base CX0 3 f (bstepF cl c') ["standing", "letter"] ["begun", "machine", "other"] (sp_bstep P w K mg base) := by
  have S : NScC ["standing", "letter", "begun", "machine", "other", "led_on", "state"] ["standing", "letter"] ["begun", "machine", "other"] (C8.fnScope s_bstep) := nscC (by decide +kernel)
  refine nokC S (fun doc pm ctv us hl => ?_) (fun ws vs H Q E h => ?_) fun A outer s H vs ws Q E hr C h => ?_
  · match us, hl with
    | [a, b], _ => rfl
  · obtain ⟨L, v1, v2, v, fb, Gb, m1, m2, A, B, a, c, _, rfl, _⟩ := h; rfl
  obtain ⟨L, v1, v2, v, fb, Gb, m1, m2, A, B, x, c, rfl, rfl, h1, h2, Fb, mono, gb, hx1, hx2, hlen, hn, hc, hd, q⟩ := h
  refine ⟨_, (pss_cons (ps_set (i := 5) S.nd rfl (.inl rfl) (pe_callTy call_tuple_of rfl T.ztuple (by decide +kernel) (pa_cons (pe_lc (own := [("state", 6)]) (g := gName 6) (tt := tYes) rfl S.nd (pi_tup (pe_ix ix_tup (pv 0) pe_int (fun _ _ => rfl))) (blkOk_by (N := ["standing", "letter", "begun", "machine", "other", "led_on", "state"]) (sc := C8.fnScope s_bstep) (by decide +kernel))
        (fun _ _ _ _ _ => pg_name (i := 6) S.nd rfl (Or.inl rfl)) (fun _ _ _ _ _ => pts_nil) (fun _ _ _ _ _ => pe_ix (ix_tupK (K := K)) (pe_ix (ix_tupK (K := K)) (pe_fldK (K := K) (pv 4) rfl) (pv 6) (fun _ _ => rfl)) (pv 1) (fun _ _ => rfl))) pa_nil)))
    (pss_one (ps_ret (pe_fnAs (i := 2) Fb hr (pa_cons (pe_ix ix_tup (pe_ix ix_tup (pe_fld (pv 3) rfl) (pe_ix ix_tup (pv 0) pe_int (fun _ _ => rfl)) (fun _ _ => rfl)) (pv 1) (fun _ _ => rfl)) (pa_cons (pv 5) pa_nil)) rfl (.inr (.inr rfl)))))), ?_⟩
  obtain ⟨p, l, rfl, hp, hl⟩ := slD_at hd
  refine ⟨_, rfl, p, _, _, _, rfl, rfl, hp, rfl, l, rfl, ⟨_, hl⟩, fun D hD => lcm walk_tup (fun i v => (x.2.map nV)[i]? = some v) (fun _ _ _ _ y => y) (fun i y _ => ∃ q, x.2[i]? = some q ∧ y = nV (nx m2.st q c)) (fun _ _ _ _ _ r => r) (by rw [List.length_map]; omega) hD (fun H' e' => Same.tup e' hl) (fun _ => rfl) ?_ ?_⟩
  · intro i y H1 hi hy e1 Q1 q1
    rw [List.getElem?_map] at hy
    obtain ⟨k, hk, rfl⟩ := Option.map_eq_some_iff.mp hy
    obtain ⟨a2, dx2, fs2, b2, ys2, p2, r2, rfl, j1, j2, j3, j4, j5, j6⟩ := (h2.on e1).step (hx2 k (List.mem_of_getElem? hk)) hc
    exact ⟨_, rfl, a2, _, dx2, fs2, _, rfl, j1, T.cls, T.na_own_steps, j2, _, rfl, b2, ys2, _, _, rfl, rfl, j3, j4, _, rfl, p2, _, _, _, rfl, rfl, j5, j6, q1 _ _ (Same.refl _) ⟨k, hk, rfl⟩⟩
  · intro zs H1 e1 hzs hzl hR
    have ez : zs = (x.2.map fun q => nx m2.st q c).map nV := by
      rw [List.map_map]
      refine eq_map (by rw [hzl, List.length_map]) fun j y k h1 h2 => ?_
      obtain ⟨k1, h3, h4⟩ := hR j y h1
      rw [h2] at h3
      cases h3
      exact h4
    subst ez
    refine ⟨D, _, rfl, .inl ⟨sl hzs, fun t ht => ?_⟩⟩
    have e2 := Same.new e1 ht (.tup ((x.2.map fun q => nx m2.st q c).map nV))
    obtain ⟨a1, dx1, fs1, b1, ys1, p1, r1, rfl, i1, i2, i3, i4, i5, i6⟩ := (h1.on e2).step hx1 hc
    refine ⟨rfl, mono _ _ e2 gb, _, rfl, a1, _, dx1, fs1, _, rfl, i1, T.cls, T.na_own_steps, i2, _, rfl, p, _, _, _, rfl, rfl, Same.tup e2 hp, rfl, b1, ys1, _, _, rfl, rfl, i3, i4, _, rfl, p1, _, _, _, rfl, rfl, i5, i6, _, rfl, mono _ _ e2 gb, ?_⟩
    refine ⟨L, _, _, m1, A, nx m1.st x.1 c, x.2.map fun q => nx m2.st q c, rfl, rfl, h1.on e2, .tup (K44.st upd_same) dps_of_ints, fun k hk => ?_, h2.wf.pos, hn, by rw [List.length_map]; exact hlen, fun v3 H3 e3 hv3 => q _ _ (e2.trans e3) hv3⟩
    obtain ⟨k2, hk2, rfl⟩ := List.mem_map.mp hk
    exact h2.wf.nx_lt (hx2 k2 hk2) hc
def sp_blet (K : PySem.W.Frag) : List (Option V) → Sp := fun ws vs H Q _ => ∃ (L : Nat) (v2 v : V) (m2 : Mach) (B : List Nat → Prop) (a : Nat × List Nat), ws = [some v2] ∧ vs = [v] ∧ MOk K H L v2 m2 B ∧ a.2.length ≤ 1000 ∧ Dp K H v (slD a) ∧ Ret H Q (.bl (a.2.any fun q => decide (q ∈ m2.en)))
theorem n_blet (T : Txt K mg) (f c' : Addr) (cl : List (Str × Addr)) : NOk P w K mg base CX0 3 f (bletF cl c') ["standing"] ["other"] (sp_blet K) := by
  have S : NScC ["standing", "other", "state"] ["standing"] ["other"] (C8.fnScope s_blet) := nscC (by decide +kernel)
  refine nokC S (fun doc pm ctv us hl => ?_) (fun ws vs H Q E h => ?_) fun A outer s H vs ws Q E hr C h => ?_
  · match us, hl with
    | [a], _ => rfl
  · obtain ⟨L, v2, v, m2, B, a, _, rfl, _⟩ := h; rfl
  obtain ⟨L, v2, v, m2, B, x, rfl, rfl, h2, hlen, hd, q⟩ := h
  refine ⟨_, (pss_one (ps_ret (pe_callB (cr_any rfl) rfl T.zany (by decide +kernel) (pa_cons (pe_lc (own := [("state", 2)]) (g := gName 2) (tt := tYes) rfl S.nd (pi_tup (pe_ix ix_tup (pv 0) pe_int (fun _ _ => rfl))) (blkOk_by (N := ["standing", "other", "state"]) (sc := C8.fnScope s_blet) (by decide +kernel))
        (fun _ _ _ _ _ => pg_name (i := 2) S.nd rfl (Or.inl rfl)) (fun _ _ _ _ _ => pts_nil) (fun _ _ _ _ _ => pc (c_is_end T) hr (pa_cons (pv 1) (pa_cons (pv 2) pa_nil)))) pa_nil)))), ?_⟩
  obtain ⟨p, l, rfl, hp, hl⟩ := slD_at hd
  refine ⟨_, rfl, p, _, _, _, rfl, rfl, hp, rfl, l, rfl, ⟨_, hl⟩, fun D hD => lcmD (K := K) x.2 (x.2.map nV) nD (fun k => V.bl (decide (k ∈ m2.en))) walk_tup dps_of_ints hlen hD (fun H' e' => Same.tup e' hl) (fun _ => rfl) (fun k y H2 hk hy e2 Q2 q2 => ?_) fun H2 e2 hD2 => ?_⟩
  · obtain rfl := dp_int hy
    exact ⟨_, rfl, _, rfl, v2, m2, k, rfl, h2.at_.on e2, q2⟩
  · refine ⟨D, x.2.map fun k => decide (k ∈ m2.en), rfl, sl (by rw [hD2, List.map_map]; rfl), ?_⟩
    have e : (x.2.map fun k => decide (k ∈ m2.en)).any id = x.2.any fun k => decide (k ∈ m2.en) := by rw [List.any_map]; rfl
    rw [e]
    exact q.go e2
end
end K44
end
section
set_option maxHeartbeats 4000000
namespace K44
open PySem PySem.Spec PyProof.Rows L2 LamX NdefX
section
variable {P : Program} {w : World} {K : PySem.W.Frag} {mg : Str → Option Value} {base : Heap}
def behU (m1 m2 : Mach) (a : Nat × List Nat) : Prop := a.1 < m1.st.length ∧ ∃ l, a.2 = srt m2.st.length l
theorem behU_lot {m1 m2 : Mach} {a : Nat × List Nat} (h : behU m1 m2 a) : (∀ q ∈ a.2, q < m2.st.length) ∧ a.2.length ≤ m2.st.length := by
  obtain ⟨_, l, e⟩ := h
  rw [e]
  exact ⟨fun q hq => (mem_srt.mp hq).1, srt_len⟩
theorem behK {L : Nat} {m1 m2 : Mach} {v1 v2 : V} {A B : List Nat → Prop} {H : Hp} (h1 : MOk K H L v1 m1 A) (h2 : MOk K H L v2 m2 B) (hL1 : 1 ≤ L) (hL : L ≤ 3) (hn : m1.st.length * 2 ^ m2.st.length ≤ 200000) :
    LotsK (behL L m1 m2) slK (behU m1 m2) (m1.st.length * 2 ^ m2.st.length) where
  inj := fun a b e => slK_inj e
  dep := slK_depth
  tup := fun a => ⟨_, rfl⟩
  b := ⟨h1.wf.pos, _, rfl⟩
  f := fun a c ⟨ha, hb⟩ hc => ⟨h1.wf.nx_lt ha hc, _, rfl⟩
  card := fun fs nd hU => by
    have := prod_card (xs := List.range m1.st.length) (n := m2.st.length) (g := fun x => x < m1.st.length) (fun b hb => List.mem_range.mpr hb) fs nd hU
    rwa [List.length_range] at this
  n := hn
  L1 := hL1
  L3 := hL
abbrev sgBO : List Str := ["machine", "other", "begun", "step", "is_let"]
theorem c_behind_of (T : Txt K mg) (TH : TabH K mg base) : Cal P w K mg base 8 "behind_of" ["machine", "other"] (sp_two K cat (fun a b => a * 2 ^ b)) := by
  have S : FnScope sgBO ["machine", "other"] (defScope s_behind_of) := fsc (by decide +kernel)
  refine Cal.ofT T.g_behind_of T.b_behind_of S (fun vs H Q E h => ?_) fun A outer s H vs Q E hr h => ?_
  · obtain ⟨L, v1, v2, m1, m2, A, B, rfl, _⟩ := h; rfl
  have hu := hr.units
  obtain ⟨L, v1, v2, m1, m2, A, B, rfl, h1, h2, hL1, hL, hn, few, htb, q⟩ := h
  have hn : m1.st.length * 2 ^ m2.st.length ≤ 200000 := hn
  have hn2 : m2.st.length < 64 := by
    have p1 := h1.wf.pos
    refine Classical.byContradiction fun z => ?_
    have : 2 ^ 64 ≤ 2 ^ m2.st.length := Nat.pow_le_pow_right (by decide) (by omega)
    have k : 1 * 2 ^ m2.st.length ≤ m1.st.length * 2 ^ m2.st.length := Nat.mul_le_mul_right _ p1
    have : (2 : Nat) ^ 64 = 18446744073709551616 := by decide
    omega
  refine ⟨_, (pss_cons (ps_ndefS (st := s_begun) (T := TL K) (nm := nmAll) (c := He.codeOf K ("behind_of", none)) (i := 2) rfl (TH _ (by decide +kernel)) rfl (tl_mem (by decide +kernel)) (by rfl) tl_nm (ndef_free (sc := defScope s_behind_of) (nsc := C8.fnScope s_begun) (fr := ["machine"]) (by decide +kernel)) rfl rfl rfl S.nd rfl (.inr rfl) (.inl rfl))
    (pss_cons (ps_ndefS (st := s_bstep) (T := TL K) (nm := nmAll) (c := He.codeOf K ("behind_of", none)) (i := 3) rfl (TH _ (by decide +kernel)) rfl (tl_mem (by decide +kernel)) (by rfl) tl_nm (ndef_free (sc := defScope s_behind_of) (nsc := C8.fnScope s_bstep) (fr := ["begun", "machine", "other"]) (by decide +kernel)) rfl rfl rfl S.nd rfl (.inl rfl) (.inl rfl))
    (pss_cons (ps_ndefS (st := s_blet) (T := TL K) (nm := nmAll) (c := He.codeOf K ("behind_of", none)) (i := 4) rfl (TH _ (by decide +kernel)) rfl (tl_mem (by decide +kernel)) (by rfl) tl_nm (ndef_free (sc := defScope s_behind_of) (nsc := C8.fnScope s_blet) (fr := ["other"]) (by decide +kernel)) rfl rfl rfl S.nd rfl (.inl rfl) (.inl rfl))
    (pss_one (ps_ret (pc_reb (fun base' => c_by_lots T) (fun _ => rfl) hr (pa_cons (pe_fld (pv 0) rfl) (pa_cons (pe_calln (CX := CX0) (E := E0) (js := [0]) (i := 2) (sp := fun _ _ => sp_begun K m2.st.length) (fun f c' => n_begun T m2.st.length f c' _) (fun _ => rfl) (fun ok => Caps.made (scope := C8.fnScope s_begun) ok (ndef_free (sc := defScope s_behind_of) (nsc := C8.fnScope s_begun) (fr := ["machine"]) (by decide +kernel)) (ndef_fr (sc := defScope s_behind_of) (nsc := C8.fnScope s_begun) (fr := ["machine"]) (by decide +kernel)) rfl) hr (by decide) (fun _ _ _ _ _ _ _ h => h.elim) rfl (.inr (.inl rfl)) (pa_cons (pe_int) (pa_cons (pe_tup pa_nil) pa_nil))) (pa_cons (pv 3) (pa_cons (pv 4) pa_nil)))))))))), ?_⟩
  refine ⟨htb, fun fb cb H1 e1 htb1 hfb hfob hcob => ⟨htb1, fun f c' H2 e2 htb2 hf hfo hco => ⟨htb2, fun g cg H3 e3 htb3 hg hgo hgc => ?_⟩⟩⟩
  have e13 := (e1.trans e2).trans e3
  have h1' := h1.onN e13
  have h2' := h2.onN e13
  have hfob' := e3 _ _ (e2 _ _ hfob fnO_ne) fnO_ne
  have hcob' := e3 _ _ (e2 _ _ hcob codeO_ne) codeO_ne
  have hfo' := e3 _ _ hfo fnO_ne
  have hco' := e3 _ _ hco codeO_ne
  obtain ⟨a, dx, fs, sv, ev, e0, i1, i2, i3, i4, i5, i6⟩ := h1'.at_
  refine ⟨_, rfl, a, _, dx, fs, _, e0, i1, T.cls, T.na_own_letters, i2, fb, cb, rfl, hfob', le0, fun t ht => ?_⟩
  have e4 := same_new ht (.tup [])
  refine ⟨e4 _ _ hfob', e4 _ _ hcob', L, v1, .ref t, m1, A, 0, [], rfl, rfl, h1'.on e4, .tup (K44.st upd_same) .nil, fun q hq => (by simp at hq), h2.wf.pos, hn2, by simp, fun v5 H5 e5 hv5 => ⟨_, rfl, _, rfl, fun base' C => ?_⟩⟩
  have e35 := e4.trans e5
  have eA : ExtN H H5 := e13.trans (ExtN.of_same e35)
  have B0 : BaseCells base' _ ["machine"] _ := C.caps (js := [0]) (Caps.made (scope := C8.fnScope s_begun) C.ok (ndef_free (sc := defScope s_behind_of) (nsc := C8.fnScope s_begun) (fr := ["machine"]) (by decide +kernel)) (ndef_fr (sc := defScope s_behind_of) (nsc := C8.fnScope s_begun) (fr := ["machine"]) (by decide +kernel)) rfl)
  have B1 : BaseCells base' _ ["begun", "machine", "other"] _ := C.caps (js := [2, 0, 1]) (Caps.made (scope := C8.fnScope s_bstep) C.ok (ndef_free (sc := defScope s_behind_of) (nsc := C8.fnScope s_bstep) (fr := ["begun", "machine", "other"]) (by decide +kernel)) (ndef_fr (sc := defScope s_behind_of) (nsc := C8.fnScope s_bstep) (fr := ["begun", "machine", "other"]) (by decide +kernel)) rfl)
  have B2 : BaseCells base' _ ["other"] _ := C.caps (js := [1]) (Caps.made (scope := C8.fnScope s_blet) C.ok (ndef_free (sc := defScope s_behind_of) (nsc := C8.fnScope s_blet) (fr := ["other"]) (by decide +kernel)) (ndef_fr (sc := defScope s_behind_of) (nsc := C8.fnScope s_blet) (fr := ["other"]) (by decide +kernel)) rfl)
  have F0 := fnAs_nok (n_begun (P := P) (w := w) (base := base') T m2.st.length fb cb _) B0
  have F1 := fnAs_nok (n_bstep (P := P) (w := w) (base := base') T f c' _) B1
  have F2 := fnAs_nok (n_blet (P := P) (w := w) (base := base') T g cg _) B2
  refine ⟨Nat × List Nat, inferInstance, behL L m1 m2, slK, _, _, v5, f, g, (fun Hx => (Hx f = some (FnO f (bstepF _ c')) ∧ Hx c' = some (CodeO c' (bstepF _ c').qual)) ∧ MOk K Hx L v1 m1 A ∧ MOk K Hx L v2 m2 B ∧ (Hx fb = some (FnO fb (begunF _ cb)) ∧ Hx cb = some (CodeO cb (begunF _ cb).qual))), (fun Hx => (Hx g = some (FnO g (bletF _ cg)) ∧ Hx cg = some (CodeO cg (bletF _ cg).qual)) ∧ MOk K Hx L v2 m2 B), ?_, behK h1 h2 hL1 hL hn, ?_,
    F1.imp (by decide) (fun H h => h.1) ?_, F2.imp (by decide) (fun H h => h.1) ?_, fun Ha Hb e h => ⟨⟨e _ _ h.1.1, e _ _ h.1.2⟩, h.2.1.on e, h.2.2.1.on e, e _ _ h.2.2.2.1, e _ _ h.2.2.2.2⟩, fun Ha Hb e h => ⟨⟨e _ _ h.1.1, e _ _ h.1.2⟩, h.2.on e⟩, ⟨⟨e35 _ _ hfo', e35 _ _ hco'⟩, h1'.on e35, h2'.on e35, e35 _ _ hfob', e35 _ _ hcob'⟩, ⟨⟨e35 _ _ hgo, e35 _ _ hgc⟩, h2'.on e35⟩, ?_, ?_⟩
  · rw [h1.sp.eL]; rfl
  · rw [slK_data]
    exact hv5
  · rintro vs Hq Qq ⟨_, k1, k2, k3⟩ ⟨v, x, c, rfl, hU, hc, hdx, qq⟩
    rw [slK_data] at hdx
    rw [slK_data] at qq
    obtain ⟨u1, u2⟩ := behU_lot hU
    exact ⟨L, v1, v2, v, fb, _, m1, m2, A, B, x, c, rfl, rfl, k1, k2, F0, fun Ha Hb e h => ⟨e _ _ h.1, e _ _ h.2⟩, k3, hU.1, u1, by omega, hn2, hc, hdx, qq⟩
  · rintro vs Hq Qq ⟨_, k2⟩ ⟨v, x, rfl, hU, hdx, qq⟩
    rw [slK_data] at hdx
    obtain ⟨u1, u2⟩ := behU_lot hU
    exact ⟨L, v2, v, m2, B, x, rfl, rfl, k2, by omega, hdx, qq⟩
  · exact fun m hm => few m (hm.congr fun u hu => beh_lang h1.sp h2.sp hu)
  · exact fun v' H' m e hm sp => q v' H' m (eA.trans (ExtN.of_same e)) (TabsN.ext (TabsN.ext htb3 e35) e) hm (sp.congr fun u hu => beh_lang h1.sp h2.sp hu)
end
end K44
end
section
set_option maxHeartbeats 4000000
namespace K44
open PySem PySem.Spec PyProof.Rows L2 LamX NdefX
section
variable {P : Program} {w : World} {K : PySem.W.Frag} {mg : Str → Option Value} {base : Heap}
/-! ### rounds_of -/
def s_closed : Stmt := (defBody s_rounds_of).getD 0 pass0
def s_rstep : Stmt := (defBody s_rounds_of).getD 1 pass0
def s_rlet : Stmt := (defBody s_rounds_of).getD 2 pass0
abbrev closedF (cl : List (Str × Addr)) (c : Addr) : NF := NF.of s_closed "closed" "rounds_of.<locals>.closed" cl c
abbrev rstepF (cl : List (Str × Addr)) (c : Addr) : NF := NF.of s_rstep "step" "rounds_of.<locals>.step" cl c
abbrev rletF (cl : List (Str × Addr)) (c : Addr) : NF := NF.of s_rlet "is_let" "rounds_of.<locals>.is_let" cl c
def onS (b : Bool) : Str := if b = true then "on" else "begin"
def rlD (a : Bool × List Nat) : PyData := .tuple [.str (onS a.1), nsD a.2]
def rlK (a : Bool × List Nat) : NestedKey := .tup [.text (onS a.1), kN a.2]
theorem rlK_data (a : Bool × List Nat) : (rlK a).data = rlD a := by
  unfold rlK rlD
  rw [NestedKey.data, NestedKey.datas, NestedKey.datas, NestedKey.datas, kN_data, NestedKey.data]
theorem rlK_depth (a : Bool × List Nat) : (rlK a).depth ≤ 8 := by
  have := kN_dep1 a.2
  unfold rlK
  rw [NestedKey.depth, NestedKey.depthAll, NestedKey.depthAll, NestedKey.depthAll, NestedKey.depth]
  omega
theorem rlK_inj {a b : Bool × List Nat} (h : rlK a = rlK b) : a = b := by
  unfold rlK at h
  injection h with h
  simp at h
  refine Prod.ext ?_ (kN_inj h.2)
  have key : ∀ x y : Bool, onS x = onS y → x = y := by decide
  exact key _ _ h.1
theorem rlD_at {H : Hp} {v : V} {a : Bool × List Nat} (h : Dp K H v (rlD a)) : ∃ p l, v = .ref p ∧ SqT K H p [.str (onS a.1), .ref l] ∧ SqT K H l (a.2.map nV) := by
  obtain ⟨p, zs, rfl, hp, hz⟩ := dp_tup h
  obtain ⟨v0, v1, rfl, h0, h1⟩ := dps2 hz
  obtain rfl := dp_str h0
  obtain ⟨l, ys, rfl, hl, hy⟩ := dp_tup h1
  have ey := dps_ints hy
  subst ey
  exact ⟨p, l, rfl, hp, hl⟩
def sp_closed (K : PySem.W.Frag) : List (Option V) → Sp := fun ws vs H Q _ => ∃ (L : Nat) (v1 v : V) (m : Mach) (A : List Nat → Prop) (lot : List Nat), ws = [some v1] ∧ vs = [v] ∧ MOk K H L v1 m A ∧ Dp K H v (nsD lot) ∧ (∀ q ∈ lot, q < m.st.length) ∧ m.st.length < 64 ∧ lot.length ≤ 900 ∧ RetT K H Q (nsD (clL m lot))
theorem n_closed (T : Txt K mg) (f c' : Addr) (cl : List (Str × Addr)) : NOk P w K mg base CX0 2 f (closedF cl c') ["lot"] ["machine"] (sp_closed K) := by
  have S : NScC ["lot", "machine", "again", "state"] ["lot"] ["machine"] (C8.fnScope s_closed) := nscC (by decide +kernel)
  refine nokC S (fun doc pm ctv us hl => ?_) (fun ws vs H Q E h => ?_) fun A outer s H vs ws Q E hr C h => ?_
  · match us, hl with
    | [a], _ => rfl
  · obtain ⟨L, v1, v, m1, A, lot, _, rfl, _⟩ := h; rfl
  obtain ⟨L, v1, v, m1, A, lot, rfl, rfl, h1, hd, hb, hn, hlen, q⟩ := h
  refine ⟨_, (pss_cons (ps_set (i := 2) S.nd rfl (.inl rfl) (pe_callB (cr_any rfl) rfl T.zany (by decide +kernel) (pa_cons (pe_lc (own := [("state", 3)]) (g := gName 3) (tt := tYes) rfl S.nd (pi_tup (pv 0)) (blkOk_by (N := ["lot", "machine", "again", "state"]) (sc := C8.fnScope s_closed) (by decide +kernel))
        (fun _ _ _ _ _ => pg_name (i := 3) S.nd rfl (Or.inl rfl)) (fun _ _ _ _ _ => pts_nil) (fun _ _ _ _ _ => pc (c_is_end T) hr (pa_cons (pv 1) (pa_cons (pv 3) pa_nil)))) pa_nil)))
    (pss_one (ps_ret (pe_callTy call_tuple_of rfl T.ztuple (by decide +kernel) (pa_cons (pe_callB (cr_sortedSet rfl) rfl T.zsorted (by decide +kernel) (pa_cons (pe_callTy (call_setI rfl) rfl T.zset (by decide +kernel) (pa_cons (pe_ifExp (pt_val (pv 2)) (pe_op op_catA (pv 0) (pe_tup (pa_cons (pe_int) pa_nil))) (pv 0)) pa_nil)) pa_nil)) pa_nil))))), ?_⟩
  obtain ⟨l, ys, rfl, hl, hy⟩ := dp_tup hd
  have ey := dps_ints hy
  subst ey
  refine ⟨_, rfl, l, rfl, ⟨_, hl⟩, fun D hD => lcmD (K := K) lot (lot.map nV) nD (fun k => V.bl (decide (k ∈ m1.en))) walk_tup dps_of_ints (by omega) hD (fun H' e' => Same.tup e' hl) (fun _ => rfl) (fun k y H2 hk hy e2 Q2 q2 => ?_) fun H1 e1 hD1 => ?_⟩
  · obtain rfl := dp_int hy
    exact ⟨_, rfl, _, rfl, v1, m1, k, rfl, h1.at_.on e2, q2⟩
  refine ⟨D, lot.map fun k => decide (k ∈ m1.en), rfl, sl (by rw [hD1, List.map_map]; rfl), ?_⟩
  have e : (lot.map fun k => decide (k ∈ m1.en)).any id = lot.any fun k => decide (k ∈ m1.en) := by rw [List.any_map]; rfl
  rw [e]
  refine ⟨_, rfl, _, rfl, ?_⟩
  have fin : ∀ (l2 : Addr) (lot2 : List Nat) (H2 : Hp), Same H H2 → SqT K H2 l2 (lot2.map nV) → (∀ q ∈ lot2, q < m1.st.length) → lot2.length ≤ 2000 → (if (lot.any fun q => decide (q ∈ m1.en)) = true then lot ++ [0] else lot) = lot2 → rSetI K w [.ref l2] H2 fun v3 H3 => rSortedSet w [v3] H3 fun v4 H4 => rTupOf K [v4] H4 Q := by
    intro l2 lot2 H2 e2 hl2 hb2 hlen2 el
    refine ⟨l2, lot2.map fun q : Nat => (q : Int), (List.range m1.st.length).map fun q : Nat => (q : Int), rfl, fun k hk => ?_, .inr ⟨by rw [List.map_map]; exact hl2, by rw [List.length_map]; omega⟩, fun p c hp hc => ⟨p, _, c, rfl, upd_same, by rw [List.length_map, List.length_range] at hc; omega, fun ns t pw hmem hln ht => ⟨t, _, rfl, .inl ⟨sl upd_same, fun u hu => ?_⟩⟩⟩⟩
    · obtain ⟨q, hq, rfl⟩ := List.mem_map.mp hk
      exact List.mem_map.mpr ⟨q, List.mem_range.mpr (hb2 q hq), rfl⟩
    · refine srt_done (K := K) (n := m1.st.length) (lot := lot2) (Q := Q) hb2 pw hmem hp ht hu fun v5 H5 e5 hv5 => q _ _ (e2.trans e5) ?_
      unfold clL
      rw [el]
      exact hv5
  by_cases hx : (lot.any fun k => decide (k ∈ m1.en)) = true
  · refine ifT hx ⟨_, rfl, le1, fun t ht => ?_⟩
    have e2 := same_new ht (.tup [.int 0])
    have hl2 := Same.tup (e1.trans e2) hl
    have hb2 : ∀ q ∈ lot ++ [0], q < m1.st.length := fun q hq => (List.mem_append.mp hq).elim (hb q) fun z => by rw [List.mem_singleton.mp z]; exact h1.wf.pos
    refine ⟨l, t, lot.map nV, [.int 0], rfl, rfl, hl2, K44.st upd_same, by rw [List.length_map]; exact Nat.le_of_lt (szt (by show lot.length + 1 < _; omega)), fun z => ?_, ?_, ?_⟩
    · have : lot = [] := by simpa using z
      exact fin t (lot ++ [0]) _ (e1.trans e2) (by rw [this]; exact K44.st upd_same) hb2 (by rw [List.length_append]; show lot.length + 1 ≤ _; omega) (if_pos hx)
    · intro z z2
      cases z2
    · intro z z2 p hp
      exact fin p (lot ++ [0]) _ ((e1.trans e2).trans (same_new hp _)) (by rw [List.map_append]; exact K44.st upd_same) hb2 (by rw [List.length_append]; show lot.length + 1 ≤ _; omega) (if_pos hx)
  · refine ifF (by simpa using hx) ⟨_, rfl, fin l lot _ e1 (Same.tup e1 hl) hb (by omega) (if_neg hx)⟩
def sp_rstep (P : Program) (w : World) (K : PySem.W.Frag) (mg : Str → Option Value) (base : Heap) : List (Option V) → Sp := fun ws vs H Q _ => ∃ (L : Nat) (v1 v : V) (fb : Addr) (Gb : Hp → Prop) (m : Mach) (A : List Nat → Prop) (a : Bool × List Nat) (c : Nat), ws = [some (.ref fb), some v1] ∧ vs = [v, .int c] ∧ MOk K H L v1 m A ∧
  FnAs P w K mg base 2 fb Gb (sp_closed K [some v1]) ∧ (∀ H H', Same H H' → Gb H → Gb H') ∧ Gb H ∧ (∀ q ∈ a.2, q < m.st.length) ∧ a.2.length ≤ 900 ∧ m.st.length < 64 ∧ c < L ∧ Dp K H v (rlD a) ∧ RetT K H Q (rlD ((rndL L m).f a c))
theorem n_rstep (T : Txt K mg) (f c' : Addr) (cl : List (Str × Addr)) : NOk P w K mg base CX0 3 f (rstepF cl c') ["standing", "letter"] ["closed", "machine"] (sp_rstep P w K mg base) := by
  have S : NScC ["standing", "letter", "closed", "machine", "lot", "state"] ["standing", "letter"] ["closed", "machine"] (C8.fnScope s_rstep) := nscC (by decide +kernel)
  refine nokC S (fun doc pm ctv us hl => ?_) (fun ws vs H Q E h => ?_) fun A outer s H vs ws Q E hr C h => ?_
  · match us, hl with
    | [a, b], _ => rfl
  · obtain ⟨L, v1, v, fb, Gb, m, A, a, c, _, rfl, _⟩ := h; rfl
  obtain ⟨L, v1, v, fb, Gb, m, A, x, c, rfl, rfl, h1, Fb, mono, gb, hx2, hlen, hn, hc, hd, q⟩ := h
  refine ⟨_, (pss_cons (ps_cut (ps_set (i := 4) S.nd rfl (.inl rfl) (pe_ifExp (pt_cmpR op_eq (pe_ix ix_tup (pv 0) pe_int (fun _ _ => rfl)) pe_str (nomark _)) (pe_ix ix_tup (pv 0) pe_int (fun _ _ => rfl)) (pe_tup (pa_cons (pe_int) pa_nil)))))
    (pss_one (ps_ret (pe_tup (pa_cons (pe_str) (pa_cons (pe_fnAs (i := 2) Fb hr (pa_cons (pe_callTy call_tuple_of rfl T.ztuple (by decide +kernel) (pa_cons (pe_lc (own := [("state", 5)]) (g := gName 5) (tt := tYes) rfl S.nd (pi_tup (pv 4)) (blkOk_by (N := ["standing", "letter", "closed", "machine", "lot", "state"]) (sc := C8.fnScope s_rstep) (by decide +kernel))
        (fun _ _ _ _ _ => pg_name (i := 5) S.nd rfl (Or.inl rfl)) (fun _ _ _ _ _ => pts_nil) (fun _ _ _ _ _ => pe_ix (ix_tupK (K := K)) (pe_ix (ix_tupK (K := K)) (pe_fldK (K := K) (pv 3) rfl) (pv 5) (fun _ _ => rfl)) (pv 1) (fun _ _ => rfl))) pa_nil)) pa_nil) rfl (.inr (.inr rfl))) pa_nil)))))), ?_⟩
  obtain ⟨p, l, rfl, hp, hl⟩ := rlD_at hd
  refine ⟨fun σ' H' => ∃ l2, σ' = [some (.ref p), some (.int (c : Int)), some (.ref fb), some v1, some (.ref l2), none] ∧ Same H H' ∧ SqT K H' l2 ((lotR x).map nV), ?_, ?_⟩
  · refine ⟨_, rfl, p, _, _, _, rfl, rfl, hp, rfl, rfl, _, rfl, ?_⟩
    cases hb : x.1 with
    | true =>
      rw [hb] at hp
      refine strT (by decide) ⟨_, rfl, p, _, _, _, rfl, rfl, hp, rfl, l, rfl, Same.refl _, ?_⟩
      unfold lotR
      rw [if_pos hb]; exact hl
    | false =>
      refine strF (by decide) ⟨le1, fun t ht => ⟨t, rfl, same_new ht _, ?_⟩⟩
      unfold lotR
      rw [if_neg (by rw [hb]; exact Bool.false_ne_true)]
      exact K44.st upd_same
  rintro σ' H0 ⟨l2, rfl, e0, hl2⟩
  have hx3 : ∀ q ∈ lotR x, q < m.st.length := fun q hq => by
    unfold lotR at hq
    split at hq
    · exact hx2 q hq
    · rw [List.mem_singleton.mp hq]; exact h1.wf.pos
  have hlen3 : (lotR x).length ≤ 900 := by
    unfold lotR
    split
    · exact hlen
    · exact (by decide : 1 ≤ 900)
  refine ⟨rfl, mono _ _ e0 gb, _, rfl, l2, rfl, ⟨_, hl2⟩, fun D hD => lcm walk_tup (fun i v => ((lotR x).map nV)[i]? = some v) (fun _ _ _ _ y => y) (fun i y _ => ∃ q, (lotR x)[i]? = some q ∧ y = nV (nx m.st q c)) (fun _ _ _ _ _ r => r) (by rw [List.length_map]; omega) hD (fun H' e' => Same.tup e' hl2) (fun _ => rfl) ?_ ?_⟩
  · intro i y H1 hi hy e1 Q1 q1
    rw [List.getElem?_map] at hy
    obtain ⟨k, hk, rfl⟩ := Option.map_eq_some_iff.mp hy
    obtain ⟨a2, dx2, fs2, b2, ys2, p2, r2, rfl, j1, j2, j3, j4, j5, j6⟩ := (h1.on (e0.trans e1)).step (hx3 k (List.mem_of_getElem? hk)) hc
    exact ⟨_, rfl, a2, _, dx2, fs2, _, rfl, j1, T.cls, T.na_own_steps, j2, _, rfl, b2, ys2, _, _, rfl, rfl, j3, j4, _, rfl, p2, _, _, _, rfl, rfl, j5, j6, q1 _ _ (Same.refl _) ⟨k, hk, rfl⟩⟩
  · intro zs H1 e1 hzs hzl hR
    have ez : zs = ((lotR x).map fun q => nx m.st q c).map nV := by
      rw [List.map_map]
      refine eq_map (by rw [hzl, List.length_map]) fun j y k h1 h2 => ?_
      obtain ⟨k1, h3, h4⟩ := hR j y h1
      rw [h2] at h3
      cases h3
      exact h4
    subst ez
    refine ⟨D, _, rfl, .inl ⟨sl hzs, fun t ht => ?_⟩⟩
    have e2 := e0.trans (Same.new e1 ht (.tup (((lotR x).map fun q => nx m.st q c).map nV)))
    refine ⟨mono _ _ e2 gb, ?_⟩
    refine ⟨L, _, _, m, A, (lotR x).map fun q => nx m.st q c, rfl, rfl, h1.on e2, .tup (K44.st upd_same) dps_of_ints, fun k hk => ?_, hn, by rw [List.length_map]; exact hlen3, fun v3 H3 e3 hv3 => ⟨le2, fun r hr => q _ _ ((e2.trans e3).trans (same_new hr _)) (.tup (K44.st upd_same) (.cons (.str _) (.cons (dpOn hv3 (same_new hr _)) .nil)))⟩⟩
    obtain ⟨k2, hk2, rfl⟩ := List.mem_map.mp hk
    exact h1.wf.nx_lt (hx3 k2 hk2) hc
def sp_rlet (K : PySem.W.Frag) : List (Option V) → Sp := fun ws vs H Q _ => ∃ (L : Nat) (v1 v : V) (m : Mach) (A : List Nat → Prop) (a : Bool × List Nat), ws = [some v1] ∧ vs = [v] ∧ MOk K H L v1 m A ∧ a.2.length ≤ 900 ∧ Dp K H v (rlD a) ∧ Ret H Q (.bl ((rndL L m).t a))
theorem n_rlet (T : Txt K mg) (f c' : Addr) (cl : List (Str × Addr)) : NOk P w K mg base CX0 3 f (rletF cl c') ["standing"] ["machine"] (sp_rlet K) := by
  have S : NScC ["standing", "machine", "state"] ["standing"] ["machine"] (C8.fnScope s_rlet) := nscC (by decide +kernel)
  refine nokC S (fun doc pm ctv us hl => ?_) (fun ws vs H Q E h => ?_) fun A outer s H vs ws Q E hr C h => ?_
  · match us, hl with
    | [a], _ => rfl
  · obtain ⟨L, v2, v, m2, B, a, _, rfl, _⟩ := h; rfl
  obtain ⟨L, v2, v, m2, B, x, rfl, rfl, h2, hlen, hd, q⟩ := h
  refine ⟨_, (pss_one (ps_ret (pe_or (pe_cmpR op_eq (pe_ix ix_tup (pv 0) pe_int (fun _ _ => rfl)) pe_str (nomark _)) (pe_one (pe_callB (cr_any rfl) rfl T.zany (by decide +kernel) (pa_cons (pe_lc (own := [("state", 2)]) (g := gName 2) (tt := tYes) rfl S.nd (pi_tup (pe_ix ix_tup (pv 0) pe_int (fun _ _ => rfl))) (blkOk_by (N := ["standing", "machine", "state"]) (sc := C8.fnScope s_rlet) (by decide +kernel))
        (fun _ _ _ _ _ => pg_name (i := 2) S.nd rfl (Or.inl rfl)) (fun _ _ _ _ _ => pts_nil) (fun _ _ _ _ _ => pc (c_is_end T) hr (pa_cons (pv 1) (pa_cons (pv 2) pa_nil)))) pa_nil)))))), ?_⟩
  obtain ⟨p, l, rfl, hp, hl⟩ := rlD_at hd
  refine ⟨_, rfl, p, _, _, _, rfl, rfl, hp, rfl, rfl, _, rfl, ?_⟩
  cases hb : x.1 with
  | false =>
    refine strT (by decide) ?_
    have : (rndL L m2).t x = true := by
      show (!x.1 || _) = true
      rw [hb]; rfl
    rw [this] at q
    exact q.here
  | true =>
    rw [hb] at hp
    refine strF (by decide) ⟨_, rfl, p, _, _, _, rfl, rfl, hp, rfl, l, rfl, ⟨_, hl⟩, fun D hD => lcmD (K := K) x.2 (x.2.map nV) nD (fun k => V.bl (decide (k ∈ m2.en))) walk_tup dps_of_ints (by omega) hD (fun H' e' => Same.tup e' hl) (fun _ => rfl) (fun k y H2 hk hy e2 Q2 q2 => ?_) fun H2 e2 hD2 => ?_⟩
    · obtain rfl := dp_int hy
      exact ⟨_, rfl, _, rfl, v2, m2, k, rfl, h2.at_.on e2, q2⟩
    · refine ⟨D, x.2.map fun k => decide (k ∈ m2.en), rfl, sl (by rw [hD2, List.map_map]; rfl), ?_⟩
      have e : (x.2.map fun k => decide (k ∈ m2.en)).any id = (rndL L m2).t x := by
        show _ = (!x.1 || _)
        rw [hb, List.any_map]; rfl
      rw [e]
      exact q.go e2
end
end K44
end
section
set_option maxHeartbeats 4000000
namespace K44
open PySem PySem.Spec PyProof.Rows L2 LamX NdefX
section
variable {P : Program} {w : World} {K : PySem.W.Frag} {mg : Str → Option Value} {base : Heap}
def rndU (m : Mach) (a : Bool × List Nat) : Prop := True ∧ ∃ l, a.2 = srt m.st.length l
theorem srt_nil (n : Nat) : srt n [] = [] := by
  unfold srt
  rw [List.filter_eq_nil_iff]
  intro a _
  simp
theorem rndU_lot {m : Mach} {a : Bool × List Nat} (h : rndU m a) : (∀ q ∈ a.2, q < m.st.length) ∧ a.2.length ≤ m.st.length := by
  obtain ⟨_, l, e⟩ := h
  rw [e]
  exact ⟨fun q hq => (mem_srt.mp hq).1, srt_len⟩
theorem rndK {L : Nat} {m : Mach} (hL1 : 1 ≤ L) (hL : L ≤ 3) (hn : 2 * 2 ^ m.st.length ≤ 200000) :
    LotsK (rndL L m) rlK (rndU m) (2 * 2 ^ m.st.length) where
  inj := fun a b e => rlK_inj e
  dep := rlK_depth
  tup := fun a => ⟨_, rfl⟩
  b := ⟨trivial, [], (srt_nil _).symm⟩
  f := fun a c _ hc => ⟨trivial, _, rfl⟩
  card := fun fs nd hU => prod_card (xs := [true, false]) (n := m.st.length) (g := fun _ => True) (fun b _ => by cases b <;> simp) fs nd hU
  n := hn
  L1 := hL1
  L3 := hL
def sp_rounds_of (K : PySem.W.Frag) : Sp := fun vs H Q _ => ∃ (L : Nat) (v1 : V) (m : Mach) (A : List Nat → Prop), vs = [v1] ∧ MOk K H L v1 m A ∧ 1 ≤ L ∧ L ≤ 3 ∧ 2 * 2 ^ m.st.length ≤ 200000 ∧ (∀ m, MSpec L (Star A) m → m.st.length ≤ 60) ∧ Tb K H ∧ RetM K H Q L (Star A)
abbrev sgRO : List Str := ["machine", "closed", "step", "is_let"]
theorem c_rounds_of (T : Txt K mg) (TH : TabH K mg base) : Cal P w K mg base 8 "rounds_of" ["machine"] (sp_rounds_of K) := by
  have S : FnScope sgRO ["machine"] (defScope s_rounds_of) := fsc (by decide +kernel)
  refine Cal.ofT T.g_rounds_of T.b_rounds_of S (fun vs H Q E h => ?_) fun A outer s H vs Q E hr h => ?_
  · obtain ⟨L, v1, m, A, rfl, _⟩ := h; rfl
  have hu := hr.units
  obtain ⟨L, v1, m, A, rfl, h1, hL1, hL, hn, few, htb, q⟩ := h
  have hn2 : m.st.length < 64 := by
    refine Classical.byContradiction fun z => ?_
    have : 2 ^ 64 ≤ 2 ^ m.st.length := Nat.pow_le_pow_right (by decide) (by omega)
    have : (2 : Nat) ^ 64 = 18446744073709551616 := by decide
    omega
  refine ⟨_, (pss_cons (ps_ndefS (st := s_closed) (T := TL K) (nm := nmAll) (c := He.codeOf K ("rounds_of", none)) (i := 1) rfl (TH _ (by decide +kernel)) rfl (tl_mem (by decide +kernel)) (by rfl) tl_nm (ndef_free (sc := defScope s_rounds_of) (nsc := C8.fnScope s_closed) (fr := ["machine"]) (by decide +kernel)) rfl rfl rfl S.nd rfl (.inr rfl) (.inl rfl))
    (pss_cons (ps_ndefS (st := s_rstep) (T := TL K) (nm := nmAll) (c := He.codeOf K ("rounds_of", none)) (i := 2) rfl (TH _ (by decide +kernel)) rfl (tl_mem (by decide +kernel)) (by rfl) tl_nm (ndef_free (sc := defScope s_rounds_of) (nsc := C8.fnScope s_rstep) (fr := ["closed", "machine"]) (by decide +kernel)) rfl rfl rfl S.nd rfl (.inl rfl) (.inl rfl))
    (pss_cons (ps_ndefS (st := s_rlet) (T := TL K) (nm := nmAll) (c := He.codeOf K ("rounds_of", none)) (i := 3) rfl (TH _ (by decide +kernel)) rfl (tl_mem (by decide +kernel)) (by rfl) tl_nm (ndef_free (sc := defScope s_rounds_of) (nsc := C8.fnScope s_rlet) (fr := ["machine"]) (by decide +kernel)) rfl rfl rfl S.nd rfl (.inl rfl) (.inl rfl))
    (pss_one (ps_ret (pc_reb (fun base' => c_by_lots T) (fun _ => rfl) hr (pa_cons (pe_fld (pv 0) rfl) (pa_cons (pe_tup (pa_cons (pe_str) (pa_cons (pe_tup pa_nil) pa_nil))) (pa_cons (pv 2) (pa_cons (pv 3) pa_nil)))))))))), ?_⟩
  refine ⟨htb, fun fb cb H1 e1 htb1 hfb hfob hcob => ⟨htb1, fun f c' H2 e2 htb2 hf hfo hco => ⟨htb2, fun g cg H3 e3 htb3 hg hgo hgc => ?_⟩⟩⟩
  have e13 := (e1.trans e2).trans e3
  have h1' := h1.onN e13
  have hfob' := e3 _ _ (e2 _ _ hfob fnO_ne) fnO_ne
  have hcob' := e3 _ _ (e2 _ _ hcob codeO_ne) codeO_ne
  have hfo' := e3 _ _ hfo fnO_ne
  have hco' := e3 _ _ hco codeO_ne
  obtain ⟨a, dx, fs, sv, ev, e0, i1, i2, i3, i4, i5, i6⟩ := h1'.at_
  refine ⟨_, rfl, a, _, dx, fs, _, e0, i1, T.cls, T.na_own_letters, i2, le0, fun t ht => ⟨le2, fun t2 ht2 => ⟨_, rfl, _, rfl, fun base' C => ?_⟩⟩⟩
  have e4 := same_new ht (.tup [])
  have e5 := same_new ht2 (.tup [.str "begin", .ref t])
  have e35 := e4.trans e5
  have eA : ExtN H _ := e13.trans (ExtN.of_same e35)
  have B0 : BaseCells base' _ ["machine"] _ := C.caps (js := [0]) (Caps.made (scope := C8.fnScope s_closed) C.ok (ndef_free (sc := defScope s_rounds_of) (nsc := C8.fnScope s_closed) (fr := ["machine"]) (by decide +kernel)) (ndef_fr (sc := defScope s_rounds_of) (nsc := C8.fnScope s_closed) (fr := ["machine"]) (by decide +kernel)) rfl)
  have B1 : BaseCells base' _ ["closed", "machine"] _ := C.caps (js := [1, 0]) (Caps.made (scope := C8.fnScope s_rstep) C.ok (ndef_free (sc := defScope s_rounds_of) (nsc := C8.fnScope s_rstep) (fr := ["closed", "machine"]) (by decide +kernel)) (ndef_fr (sc := defScope s_rounds_of) (nsc := C8.fnScope s_rstep) (fr := ["closed", "machine"]) (by decide +kernel)) rfl)
  have B2 : BaseCells base' _ ["machine"] _ := C.caps (js := [0]) (Caps.made (scope := C8.fnScope s_rlet) C.ok (ndef_free (sc := defScope s_rounds_of) (nsc := C8.fnScope s_rlet) (fr := ["machine"]) (by decide +kernel)) (ndef_fr (sc := defScope s_rounds_of) (nsc := C8.fnScope s_rlet) (fr := ["machine"]) (by decide +kernel)) rfl)
  have F0 := fnAs_nok (n_closed (P := P) (w := w) (base := base') T fb cb _) B0
  have F1 := fnAs_nok (n_rstep (P := P) (w := w) (base := base') T f c' _) B1
  have F2 := fnAs_nok (n_rlet (P := P) (w := w) (base := base') T g cg _) B2
  refine ⟨Bool × List Nat, inferInstance, rndL L m, rlK, _, _, .ref t2, f, g, (fun Hx => (Hx f = some (FnO f (rstepF _ c')) ∧ Hx c' = some (CodeO c' (rstepF _ c').qual)) ∧ MOk K Hx L v1 m A ∧ (Hx fb = some (FnO fb (closedF _ cb)) ∧ Hx cb = some (CodeO cb (closedF _ cb).qual))), (fun Hx => (Hx g = some (FnO g (rletF _ cg)) ∧ Hx cg = some (CodeO cg (rletF _ cg).qual)) ∧ MOk K Hx L v1 m A), ?_, rndK hL1 hL hn, ?_,
    F1.imp (by decide) (fun H h => h.1) ?_, F2.imp (by decide) (fun H h => h.1) ?_, fun Ha Hb e h => ⟨⟨e _ _ h.1.1, e _ _ h.1.2⟩, h.2.1.on e, e _ _ h.2.2.1, e _ _ h.2.2.2⟩, fun Ha Hb e h => ⟨⟨e _ _ h.1.1, e _ _ h.1.2⟩, h.2.on e⟩, ⟨⟨e35 _ _ hfo', e35 _ _ hco'⟩, h1'.on e35, e35 _ _ hfob', e35 _ _ hcob'⟩, ⟨⟨e35 _ _ hgo, e35 _ _ hgc⟩, h1'.on e35⟩, ?_, ?_⟩
  · rw [h1.sp.eL]; rfl
  · rw [rlK_data]
    exact .tup (K44.st upd_same) (.cons (.str _) (.cons (.tup (Same.tup e5 (K44.st upd_same)) .nil) .nil))
  · rintro vs Hq Qq ⟨_, k1, k3⟩ ⟨v, x, c, rfl, hU, hc, hdx, qq⟩
    rw [rlK_data] at hdx
    rw [rlK_data] at qq
    obtain ⟨u1, u2⟩ := rndU_lot hU
    exact ⟨L, v1, v, fb, _, m, A, x, c, rfl, rfl, k1, F0, fun Ha Hb e h => ⟨e _ _ h.1, e _ _ h.2⟩, k3, u1, by omega, hn2, hc, hdx, qq⟩
  · rintro vs Hq Qq ⟨_, k2⟩ ⟨v, x, rfl, hU, hdx, qq⟩
    rw [rlK_data] at hdx
    obtain ⟨u1, u2⟩ := rndU_lot hU
    exact ⟨L, v1, v, m, A, x, rfl, rfl, k2, by omega, hdx, qq⟩
  · exact fun m' hm => few m' (hm.congr fun u hu => rnd_lang h1.sp hu)
  · exact fun v' H' m' e hm sp => q v' H' m' (eA.trans (ExtN.of_same e)) (TabsN.ext (TabsN.ext htb3 e35) e) hm (sp.congr fun u hu => rnd_lang h1.sp hu)
end
end K44
end
section
set_option maxHeartbeats 4000000
namespace K44
open PySem PySem.Spec PyProof.Rows L2 LamX NdefX
section
variable {P : Program} {w : World} {K : PySem.W.Frag} {mg : Str → Option Value} {base : Heap}
/-! ### machine_made -/
/-- a list of machines of the words of fl -/
def FillAt (K : PySem.W.Frag) (H : Hp) (L : Nat) (fv : V) (fl : List (List Str)) : Prop := ∃ a vs, fv = .ref a ∧ SqL K H a vs ∧ vs.length = fl.length ∧ ∀ (i : Nat) v, vs[i]? = some v → ∃ m, MOk K H L v m (plang fl (.name i))
theorem FillAt.onN {H H' : Hp} {L : Nat} {fv : V} {fl : List (List Str)} (h : FillAt K H L fv fl) (e : ExtN H H') : FillAt K H' L fv fl := by
  obtain ⟨a, vs, h1, h2, h3, h4⟩ := h
  exact ⟨a, vs, h1, extN_lst e h2, h3, fun i v hv => let ⟨m, hm⟩ := h4 i v hv; ⟨m, hm.onN e⟩⟩
def sp_machine_made (K : PySem.W.Frag) (n : Nat) : Sp := fun vs H Q _ => ∃ (L : Nat) (v fv : V) (p : Pat) (fl : List (List Str)), vs = [.int L, v, fv] ∧ 1 ≤ L ∧ L ≤ 2 ∧ Dp K H v p.d ∧ p.good L ∧ p.dep ≤ n ∧ FillAt K H L fv fl ∧ fl.length = 2 ∧ (∀ zs ∈ fl, ∀ z ∈ zs, z.length ≤ 2) ∧ Tb K H ∧ RetM K H Q L (plang fl p)
/-- machines made of some patterns -/
def Made (K : PySem.W.Frag) (H : Hp) (L : Nat) (fl : List (List Str)) (acc : List V) (ps : List Pat) : Prop := ∀ (k : Nat) y, acc[k]? = some y → ∃ p m, ps[k]? = some p ∧ MOk K H L y m (plang fl p)
theorem MOk.imm {H H' : Hp} {L : Nat} {v : V} {m : Mach} {A : List Nat → Prop} (h : MOk K H L v m A) (e : Imm H H') : MOk K H' L v m A := ⟨h.at_.imm e, h.sp⟩
theorem Made.imm {H H' : Hp} {L : Nat} {fl : List (List Str)} {acc : List V} {ps : List Pat} (h : Made K H L fl acc ps) (e : Imm H H') : Made K H' L fl acc ps := fun k y hy => let ⟨p, m, h1, h2⟩ := h k y hy; ⟨p, m, h1, h2.imm e⟩
theorem ExtN.mut {H H' : Hp} {a : Addr} {o : HO} (e : ExtN H H') (h : H a = none) : ExtN H (upd H' a o) := fun b u g n => by
  rw [upd_ne fun z : b = a => by rw [z, h] at g; cases g]
  exact e b u g n
theorem tabs_put {T : List NTab} {H : Hp} {D : Addr} {xs : List V} {o : HO} (h : TabsN T H) (hD : H D = some (.lst xs)) : TabsN T (upd H D o) := fun p hp => by
  obtain ⟨ps, h1, h2, h3⟩ := h p hp
  refine ⟨ps, ?_, h2, fun pos cv hc => ?_⟩
  · rw [upd_ne fun z : p.1 = D => by rw [z, hD] at h1; cases h1]; exact h1
  · obtain ⟨c, e1, e2⟩ := h3 pos cv hc
    refine ⟨c, e1, ?_⟩
    rw [upd_ne fun z : c = D => by rw [z, hD] at e2; cases e2]; exact e2
abbrev sgMM : List Str := ["letters", "pattern", "filling", "parts", "part"]
theorem c_machine_made (T : Txt K mg) (TH : TabH K mg base) : ∀ n : Nat, n ≤ 3 → Cal P w K mg base (n + 10) "machine_made" ["letters", "pattern", "filling"] (sp_machine_made K n)
  | 0, _ => Cal.none_ T.g_machine_made T.b_machine_made fun vs H Q E ⟨L, v, fv, p, fl, _, _, _, _, _, h, _⟩ => by have := pdep_pos p; omega
  | n + 1, hn3 => by
    have S : FnScope sgMM ["letters", "pattern", "filling"] (defScope s_machine_made) := fsc (by decide +kernel)
    refine Cal.of T.g_machine_made T.b_machine_made S (fun vs H Q E h => ?_) fun cdv A outer s H vs Q E hr h => ?_
    · obtain ⟨L, v, fv, p, fl, rfl, _⟩ := h; rfl
    obtain ⟨L, v, fv, p, fl, rfl, hL1, hL, hp, hg, hdep, hf, hf2, hfl, htb, q⟩ := h
    have C := c_machine_made T TH n (by omega)
    refine ⟨_, (pss_cons (ps_if (pt_cmpR op_eq (pe_ix ix_tup (pv 1) pe_int (fun _ _ => rfl)) (pgl T.tWORD) (nomark _)) (pss_one (ps_ret (pc (c_words_machine T TH) hr (pa_cons (pv 0) (pa_cons (pe_lst (pa_cons (pe_ix ix_tup (pv 1) pe_int (fun _ _ => rfl)) pa_nil)) pa_nil)) (by omega)))) pss_nil)
    (pss_cons (ps_if (pt_cmpR op_eq (pe_ix ix_tup (pv 1) pe_int (fun _ _ => rfl)) (pgl T.tNAME) (nomark _)) (pss_one (ps_ret (pe_ix ix_list (pv 2) (pe_ix ix_tup (pv 1) pe_int (fun _ _ => rfl)) (fun _ _ => rfl)))) pss_nil)
    (pss_cons (ps_cut (ps_setLc (i := 3) (own := [("part", 4)]) (g := gName 4) (tt := tYes) rfl S.nd rfl rfl rfl (pi_tup (pe_slice sl_tup (pv 1) (po_some pe_int) po_none)) (blkOk_by (N := sgMM) (sc := defScope s_machine_made) (by decide +kernel))
        (fun _ _ _ _ _ => pg_name (i := 4) S.nd rfl (Or.inl rfl)) (fun _ _ _ _ _ => pts_nil) (fun _ _ _ _ _ => pc C hr (pa_cons (pv 0) (pa_cons (pv 4) (pa_cons (pv 2) pa_nil))) (by omega))))
    (pss_cons (ps_if (pt_cmpR op_eq (pe_ix ix_tup (pv 1) pe_int (fun _ _ => rfl)) (pgl T.tROUND) (nomark _)) (pss_one (ps_ret (pc (c_rounds_of T TH) hr (pa_cons (pe_ix ix_list (pv 3) pe_int (fun _ _ => rfl)) pa_nil) (by omega)))) pss_nil)
    (pss_one (ps_ret (pe_ifExp (pt_cmpR op_eq (pe_ix ix_tup (pv 1) pe_int (fun _ _ => rfl)) (pgl T.tBEHIND) (nomark _)) (pc (c_behind_of T TH) hr (pa_cons (pe_ix ix_list (pv 3) pe_int (fun _ _ => rfl)) (pa_cons (pe_ix ix_list (pv 3) pe_int (fun _ _ => rfl)) pa_nil)) (by omega)) (pc (c_joined_of T TH) hr (pa_cons (pe_ix ix_list (pv 3) pe_int (fun _ _ => rfl)) (pa_cons (pe_ix ix_list (pv 3) pe_int (fun _ _ => rfl)) pa_nil)) (by omega))))))))), ?_⟩
    cases p with
    | word z =>
      obtain ⟨a, xs, rfl, hT, hx⟩ := dp_tup hp
      obtain ⟨v0, v1, rfl, h0, h1⟩ := dps2 hx
      obtain rfl := dp_str h0
      obtain rfl := dp_str h1
      refine ⟨_, rfl, a, _, _, _, rfl, rfl, hT, rfl, rfl, _, rfl, strT rfl ⟨_, rfl, _, rfl, a, _, _, _, rfl, rfl, hT, rfl, le1, fun l hl => ?_⟩⟩
      have e := same_new hl (.lst [.str z])
      refine ⟨L, .ref l, [z], rfl, .lst (sl upd_same) (.cons (.str z) .nil), by simp, fun y hy => ?_, hL1, by omega, TabsN.ext htb e, fun v' H' m e2 tb hm sp => q v' H' m ((ExtN.of_same e).trans e2) tb hm (sp.congr fun u _ => ?_)⟩
      · rw [List.mem_singleton.mp hy]; exact hg
      · show u ∈ [idx z] ↔ u = idx z
        exact List.mem_singleton
    | name k =>
      obtain ⟨a, xs, rfl, hT, hx⟩ := dp_tup hp
      obtain ⟨v0, v1, rfl, h0, h1⟩ := dps2 hx
      obtain rfl := dp_str h0
      obtain rfl := dp_int h1
      obtain ⟨fa, fs, rfl, i1, i2, i3⟩ := hf
      have hk : k < fs.length := by have : k < 2 := hg; omega
      obtain ⟨m, hm⟩ := i3 k _ (List.getElem?_eq_getElem hk)
      refine ⟨_, rfl, a, _, _, _, rfl, rfl, hT, rfl, rfl, _, rfl, strF (by decide) ⟨_, rfl, a, _, _, _, rfl, rfl, hT, rfl, rfl, _, rfl, strT rfl ⟨_, rfl, _, rfl, a, _, _, _, rfl, rfl, hT, rfl, fa, _, _, _, rfl, rfl, i1, atI_nat (List.getElem?_eq_getElem hk), q _ _ m (ExtN.refl _) htb hm.at_ hm.sp⟩⟩⟩
    | beh p1 p2 =>
      rw [Pat.dep] at hdep
      obtain ⟨a, xs, rfl, hT, hx⟩ := dp_tup hp
      obtain ⟨v0, v1, v2, rfl, h0, h1, h2⟩ := dps3 hx
      obtain rfl := dp_str h0
      have hds : DpAll K H [v1, v2] ([p1, p2].map Pat.d) := .cons h1 (.cons h2 .nil)
      have hgs : ∀ p ∈ [p1, p2], p.good L ∧ p.dep ≤ n := fun p hp => by
        simp at hp
        rcases hp with rfl | rfl
        · exact ⟨hg.1, by omega⟩
        · exact ⟨hg.2, by omega⟩
      refine ⟨_, rfl, a, _, _, _, rfl, rfl, hT, rfl, rfl, _, rfl, strF (by decide) ⟨_, rfl, a, _, _, _, rfl, rfl, hT, rfl, rfl, _, rfl, strF (by decide) ?_⟩⟩
      · refine ⟨fun σ' H' => ∃ D acc, σ' = [some (.int (L : Int)), some (.ref a), some fv, some (.ref D), none] ∧ ExtN H H' ∧ Tb K H' ∧ H' D = some (.lst acc) ∧ acc.length = 2 ∧ Made K H' L fl acc [p1, p2], ?_, ?_⟩
        · refine ⟨_, rfl, _, rfl, a, _, rfl, hT, (by show ¬ (HT.sIx 3 0 (some 1) = 0 ∧ HT.sIx 3 3 none = 3); decide), fun t4 ht4 => ?_⟩
          have hc : cutV [V.str "behind", v1, v2] (some 1) none = [v1, v2] := rfl
          rw [hc]
          have e4 := same_new ht4 (.tup [v1, v2])
          have hd4 : DpAll K H [v1, v2] ([p1, p2].map Pat.d) := hds
          have hD0 : ∀ (i : Nat) p, [p1, p2][i]? = some p → p.good L ∧ p.dep ≤ n := fun i p hi => hgs p (List.mem_of_getElem? hi)
          refine ⟨t4, rfl, ⟨_, K44.st upd_same⟩, fun D hD => lc_it walk_tup (fun i H' => ExtN (upd H t4 (.tup [v1, v2])) H' ∧ Tb K H' ∧ ∃ acc, H' D = some (.lst acc) ∧ acc.length = i ∧ Made K H' L fl acc [p1, p2]) ⟨ExtN.mut (ExtN.refl _) hD, TabsN.ext (TabsN.ext htb e4) (same_new hD _), [], upd_same, rfl, fun k y h => by simp at h⟩ (fun i H' _ h => extN_tup h.1 (K44.st upd_same)) ?_ ?_⟩
          · rintro i x H5 H5' hi ⟨e5, tb5, acc, hacc, hal, hm⟩ ⟨rfl, hx⟩
            have e45 := (ExtN.of_same e4).trans e5
            obtain ⟨d, hd1, hd2⟩ := dpsGetV hd4 hx
            rw [List.getElem?_map] at hd1
            obtain ⟨p, hp1, rfl⟩ := Option.map_eq_some_iff.mp hd1
            refine ⟨rfl, _, rfl, _, rfl, _, rfl, L, x, fv, p, fl, rfl, hL1, hL, dpN hd2 e45, (hD0 i p hp1).1, (hD0 i p hp1).2, hf.onN e45, hf2, hfl, tb5, fun y H6 m e6 tb6 hm6 sp6 => ?_⟩
            have ha6 := e6 _ _ hacc (fun _ z => nomatch z)
            have im := Imm.lst (ys := acc ++ [y]) ha6
            refine ⟨acc, ha6, szt (by have : ([v1, v2] : List V).length = 2 := rfl; omega), ExtN.mut (e5.trans e6) hD, tabs_put tb6 ha6, acc ++ [y], upd_same, by rw [List.length_append, hal]; rfl, fun k z hk => ?_⟩
            by_cases hkl : k < acc.length
            · rw [List.getElem?_append_left hkl] at hk
              exact ((hm.imm (ExtN.imm e6)).imm im) k z hk
            · have hk3 : k = acc.length := by
                have := (List.getElem?_eq_some_iff.mp hk).1
                simp at this; omega
              rw [hk3, List.getElem?_append_right (Nat.le_refl _), Nat.sub_self] at hk
              cases hk
              exact ⟨p, m, by rw [hk3, hal]; exact hp1, (MOk.mk hm6 sp6).imm im⟩
          · rintro H5 ⟨e5, tb5, acc, hacc, hal, hm⟩
            exact ⟨D, acc, rfl, (ExtN.of_same e4).trans e5, tb5, hacc, hal, hm⟩
        rintro σ' H1 ⟨D, acc, rfl, e1, tb1, hacc, hal, hm⟩
        have hT1 := extN_tup e1 hT
        match acc, hal with
        | [w1, w2], _ =>
        obtain ⟨_, m1, ep1, k1⟩ := hm 0 w1 rfl
        cases ep1
        obtain ⟨_, m2, ep2, k2⟩ := hm 1 w2 rfl
        cases ep2
        have f1 := kind_few hL (plang_kind hfl hg.1 (show p1.dep ≤ 2 by omega)) k1.sp
        have f2 := kind_few hL (plang_kind hfl hg.2 (show p2.dep ≤ 2 by omega)) k2.sp
        refine ⟨_, rfl, a, _, _, _, rfl, rfl, hT1, rfl, rfl, _, rfl, strF (by decide) ⟨_, rfl, a, _, _, _, rfl, rfl, hT1, rfl, rfl, _, rfl, strT rfl ⟨_, rfl, D, _, _, _, rfl, rfl, sl hacc, rfl, _, rfl, D, _, _, _, rfl, rfl, sl hacc, rfl, ?_⟩⟩⟩
        exact ⟨L, w1, w2, m1, m2, _, _, rfl, k1, k2, hL1, by omega, Nat.le_trans (Nat.mul_le_mul f1 (Nat.pow_le_pow_right (by decide) f2)) (by decide), fun m hm => plang_few hL hfl (p := .beh p1 p2) hg (by rw [Pat.dep]; omega) hm, tb1, RetM.on q e1⟩
    | eit p1 p2 =>
      rw [Pat.dep] at hdep
      obtain ⟨a, xs, rfl, hT, hx⟩ := dp_tup hp
      obtain ⟨v0, v1, v2, rfl, h0, h1, h2⟩ := dps3 hx
      obtain rfl := dp_str h0
      have hds : DpAll K H [v1, v2] ([p1, p2].map Pat.d) := .cons h1 (.cons h2 .nil)
      have hgs : ∀ p ∈ [p1, p2], p.good L ∧ p.dep ≤ n := fun p hp => by
        simp at hp
        rcases hp with rfl | rfl
        · exact ⟨hg.1, by omega⟩
        · exact ⟨hg.2, by omega⟩
      refine ⟨_, rfl, a, _, _, _, rfl, rfl, hT, rfl, rfl, _, rfl, strF (by decide) ⟨_, rfl, a, _, _, _, rfl, rfl, hT, rfl, rfl, _, rfl, strF (by decide) ?_⟩⟩
      · refine ⟨fun σ' H' => ∃ D acc, σ' = [some (.int (L : Int)), some (.ref a), some fv, some (.ref D), none] ∧ ExtN H H' ∧ Tb K H' ∧ H' D = some (.lst acc) ∧ acc.length = 2 ∧ Made K H' L fl acc [p1, p2], ?_, ?_⟩
        · refine ⟨_, rfl, _, rfl, a, _, rfl, hT, (by show ¬ (HT.sIx 3 0 (some 1) = 0 ∧ HT.sIx 3 3 none = 3); decide), fun t4 ht4 => ?_⟩
          have hc : cutV [V.str "either", v1, v2] (some 1) none = [v1, v2] := rfl
          rw [hc]
          have e4 := same_new ht4 (.tup [v1, v2])
          have hd4 : DpAll K H [v1, v2] ([p1, p2].map Pat.d) := hds
          have hD0 : ∀ (i : Nat) p, [p1, p2][i]? = some p → p.good L ∧ p.dep ≤ n := fun i p hi => hgs p (List.mem_of_getElem? hi)
          refine ⟨t4, rfl, ⟨_, K44.st upd_same⟩, fun D hD => lc_it walk_tup (fun i H' => ExtN (upd H t4 (.tup [v1, v2])) H' ∧ Tb K H' ∧ ∃ acc, H' D = some (.lst acc) ∧ acc.length = i ∧ Made K H' L fl acc [p1, p2]) ⟨ExtN.mut (ExtN.refl _) hD, TabsN.ext (TabsN.ext htb e4) (same_new hD _), [], upd_same, rfl, fun k y h => by simp at h⟩ (fun i H' _ h => extN_tup h.1 (K44.st upd_same)) ?_ ?_⟩
          · rintro i x H5 H5' hi ⟨e5, tb5, acc, hacc, hal, hm⟩ ⟨rfl, hx⟩
            have e45 := (ExtN.of_same e4).trans e5
            obtain ⟨d, hd1, hd2⟩ := dpsGetV hd4 hx
            rw [List.getElem?_map] at hd1
            obtain ⟨p, hp1, rfl⟩ := Option.map_eq_some_iff.mp hd1
            refine ⟨rfl, _, rfl, _, rfl, _, rfl, L, x, fv, p, fl, rfl, hL1, hL, dpN hd2 e45, (hD0 i p hp1).1, (hD0 i p hp1).2, hf.onN e45, hf2, hfl, tb5, fun y H6 m e6 tb6 hm6 sp6 => ?_⟩
            have ha6 := e6 _ _ hacc (fun _ z => nomatch z)
            have im := Imm.lst (ys := acc ++ [y]) ha6
            refine ⟨acc, ha6, szt (by have : ([v1, v2] : List V).length = 2 := rfl; omega), ExtN.mut (e5.trans e6) hD, tabs_put tb6 ha6, acc ++ [y], upd_same, by rw [List.length_append, hal]; rfl, fun k z hk => ?_⟩
            by_cases hkl : k < acc.length
            · rw [List.getElem?_append_left hkl] at hk
              exact ((hm.imm (ExtN.imm e6)).imm im) k z hk
            · have hk3 : k = acc.length := by
                have := (List.getElem?_eq_some_iff.mp hk).1
                simp at this; omega
              rw [hk3, List.getElem?_append_right (Nat.le_refl _), Nat.sub_self] at hk
              cases hk
              exact ⟨p, m, by rw [hk3, hal]; exact hp1, (MOk.mk hm6 sp6).imm im⟩
          · rintro H5 ⟨e5, tb5, acc, hacc, hal, hm⟩
            exact ⟨D, acc, rfl, (ExtN.of_same e4).trans e5, tb5, hacc, hal, hm⟩
        rintro σ' H1 ⟨D, acc, rfl, e1, tb1, hacc, hal, hm⟩
        have hT1 := extN_tup e1 hT
        match acc, hal with
        | [w1, w2], _ =>
        obtain ⟨_, m1, ep1, k1⟩ := hm 0 w1 rfl
        cases ep1
        obtain ⟨_, m2, ep2, k2⟩ := hm 1 w2 rfl
        cases ep2
        have f1 := kind_few hL (plang_kind hfl hg.1 (show p1.dep ≤ 2 by omega)) k1.sp
        have f2 := kind_few hL (plang_kind hfl hg.2 (show p2.dep ≤ 2 by omega)) k2.sp
        refine ⟨_, rfl, a, _, _, _, rfl, rfl, hT1, rfl, rfl, _, rfl, strF (by decide) ⟨_, rfl, a, _, _, _, rfl, rfl, hT1, rfl, rfl, _, rfl, strF (by decide) ⟨_, rfl, D, _, _, _, rfl, rfl, sl hacc, rfl, _, rfl, D, _, _, _, rfl, rfl, sl hacc, rfl, ?_⟩⟩⟩
        exact ⟨L, w1, w2, m1, m2, _, _, rfl, k1, k2, hL1, by omega, Nat.le_trans (Nat.mul_le_mul f1 f2) (by decide), fun m hm => plang_few hL hfl (p := .eit p1 p2) hg (by rw [Pat.dep]; omega) hm, tb1, RetM.on q e1⟩
    | rnd p1 =>
      rw [Pat.dep] at hdep
      obtain ⟨a, xs, rfl, hT, hx⟩ := dp_tup hp
      obtain ⟨v0, v1, rfl, h0, h1⟩ := dps2 hx
      obtain rfl := dp_str h0
      have hds : DpAll K H [v1] ([p1].map Pat.d) := .cons h1 .nil
      have hgs : ∀ p ∈ [p1], p.good L ∧ p.dep ≤ n := fun p hp => by
        rw [List.mem_singleton.mp hp]
        exact ⟨hg, by omega⟩
      refine ⟨_, rfl, a, _, _, _, rfl, rfl, hT, rfl, rfl, _, rfl, strF (by decide) ⟨_, rfl, a, _, _, _, rfl, rfl, hT, rfl, rfl, _, rfl, strF (by decide) ?_⟩⟩
      · refine ⟨fun σ' H' => ∃ D acc, σ' = [some (.int (L : Int)), some (.ref a), some fv, some (.ref D), none] ∧ ExtN H H' ∧ Tb K H' ∧ H' D = some (.lst acc) ∧ acc.length = 1 ∧ Made K H' L fl acc [p1], ?_, ?_⟩
        · refine ⟨_, rfl, _, rfl, a, _, rfl, hT, (by show ¬ (HT.sIx 2 0 (some 1) = 0 ∧ HT.sIx 2 2 none = 2); decide), fun t4 ht4 => ?_⟩
          have hc : cutV [V.str "round", v1] (some 1) none = [v1] := rfl
          rw [hc]
          have e4 := same_new ht4 (.tup [v1])
          have hd4 : DpAll K H [v1] ([p1].map Pat.d) := hds
          have hD0 : ∀ (i : Nat) p, [p1][i]? = some p → p.good L ∧ p.dep ≤ n := fun i p hi => hgs p (List.mem_of_getElem? hi)
          refine ⟨t4, rfl, ⟨_, K44.st upd_same⟩, fun D hD => lc_it walk_tup (fun i H' => ExtN (upd H t4 (.tup [v1])) H' ∧ Tb K H' ∧ ∃ acc, H' D = some (.lst acc) ∧ acc.length = i ∧ Made K H' L fl acc [p1]) ⟨ExtN.mut (ExtN.refl _) hD, TabsN.ext (TabsN.ext htb e4) (same_new hD _), [], upd_same, rfl, fun k y h => by simp at h⟩ (fun i H' _ h => extN_tup h.1 (K44.st upd_same)) ?_ ?_⟩
          · rintro i x H5 H5' hi ⟨e5, tb5, acc, hacc, hal, hm⟩ ⟨rfl, hx⟩
            have e45 := (ExtN.of_same e4).trans e5
            obtain ⟨d, hd1, hd2⟩ := dpsGetV hd4 hx
            rw [List.getElem?_map] at hd1
            obtain ⟨p, hp1, rfl⟩ := Option.map_eq_some_iff.mp hd1
            refine ⟨rfl, _, rfl, _, rfl, _, rfl, L, x, fv, p, fl, rfl, hL1, hL, dpN hd2 e45, (hD0 i p hp1).1, (hD0 i p hp1).2, hf.onN e45, hf2, hfl, tb5, fun y H6 m e6 tb6 hm6 sp6 => ?_⟩
            have ha6 := e6 _ _ hacc (fun _ z => nomatch z)
            have im := Imm.lst (ys := acc ++ [y]) ha6
            refine ⟨acc, ha6, szt (by have : ([v1] : List V).length = 1 := rfl; omega), ExtN.mut (e5.trans e6) hD, tabs_put tb6 ha6, acc ++ [y], upd_same, by rw [List.length_append, hal]; rfl, fun k z hk => ?_⟩
            by_cases hkl : k < acc.length
            · rw [List.getElem?_append_left hkl] at hk
              exact ((hm.imm (ExtN.imm e6)).imm im) k z hk
            · have hk3 : k = acc.length := by
                have := (List.getElem?_eq_some_iff.mp hk).1
                simp at this; omega
              rw [hk3, List.getElem?_append_right (Nat.le_refl _), Nat.sub_self] at hk
              cases hk
              exact ⟨p, m, by rw [hk3, hal]; exact hp1, (MOk.mk hm6 sp6).imm im⟩
          · rintro H5 ⟨e5, tb5, acc, hacc, hal, hm⟩
            exact ⟨D, acc, rfl, (ExtN.of_same e4).trans e5, tb5, hacc, hal, hm⟩
        rintro σ' H1 ⟨D, acc, rfl, e1, tb1, hacc, hal, hm⟩
        have hT1 := extN_tup e1 hT
        match acc, hal with
        | [w1], _ =>
        obtain ⟨_, m1, ep1, k1⟩ := hm 0 w1 rfl
        cases ep1
        have f1 := kind_few hL (plang_kind hfl (p := p1) hg (show p1.dep ≤ 2 by omega)) k1.sp
        refine ⟨_, rfl, a, _, _, _, rfl, rfl, hT1, rfl, rfl, _, rfl, strT rfl ⟨_, rfl, D, _, _, _, rfl, rfl, sl hacc, rfl, ?_⟩⟩
        exact ⟨L, w1, m1, _, rfl, k1, hL1, by omega, Nat.le_trans (Nat.mul_le_mul_left 2 (Nat.pow_le_pow_right (by decide) f1)) (by decide), fun m hm => plang_few hL hfl (p := .rnd p1) hg (by rw [Pat.dep]; omega) hm, tb1, RetM.on q e1⟩
end
end K44
end
section
set_option maxHeartbeats 4000000
namespace K44
open PySem PySem.Spec PyProof.Rows L2 LamX NdefX
section
variable {P : Program} {w : World} {K : PySem.W.Frag} {mg : Str → Option Value} {base : Heap}
def sp_want_reached (K : PySem.W.Frag) : Sp := fun vs H Q _ => ∃ (v u : V) (p : Pat) (L : Nat), vs = [v, .int 2, u] ∧ Dp K H v p.d ∧ p.good L ∧ p.dep ≤ 3 ∧ Ret H Q .non
theorem c_want_reached (T : Txt K mg) : Cal P w K mg base 5 "want_reached" ["pattern", "many", "value"] (sp_want_reached K) := by
  have S : FnScope ["pattern", "many", "value", "name"] ["pattern", "many", "value"] (defScope s_want_reached) := fsc (by decide +kernel)
  refine Cal.of T.g_want_reached T.b_want_reached S (fun vs H Q E h => ?_) fun cdv A outer s H vs Q E hr h => ?_
  · obtain ⟨v, u, p, L, rfl, _⟩ := h; rfl
  obtain ⟨v, u, p, L, rfl, hp, hg, hdep, q⟩ := h
  refine ⟨_, (pss_one (ps_if (pt_val (pe_callB (cr_any rfl) rfl T.zany (by decide +kernel) (pa_cons (pe_lc (own := [("name", 3)]) (g := gName 3) (tt := tYes) rfl S.nd (pi_list (pc (c_names_in T 3 (by decide)) hr (pa_cons (pv 0) pa_nil))) (blkOk_by (N := ["pattern", "many", "value", "name"]) (sc := defScope s_want_reached) (by decide +kernel))
      (fun _ _ _ _ _ => pg_name (i := 3) S.nd rfl (Or.inl rfl)) (fun _ _ _ _ _ => pts_nil) (fun _ _ _ _ _ => pe_cmpR op_ge (pv 3) (pv 1) (nomark _))) pa_nil))) pss_never pss_nil)), ?_⟩
  refine ⟨_, rfl, v, p, L, rfl, hp, hg, hdep, fun l H1 ns e1 hl hb hlen => ⟨l, rfl, ⟨_, sl hl⟩, fun D hD => lcm walk_list (fun i y => (ns.map V.int)[i]? = some y) (fun _ _ _ _ y => y) (fun i y _ => y = .bl false) (fun _ _ _ _ _ r => r) (by rw [List.length_map]; omega) hD (fun H' e' => sl (e' _ _ hl)) (fun _ => rfl) ?_ ?_⟩⟩
  · intro i y H2 hi hy e2 Q2 q2
    rw [List.getElem?_map] at hy
    obtain ⟨n, hn, rfl⟩ := Option.map_eq_some_iff.mp hy
    have := hb n (List.mem_of_getElem? hn)
    refine ⟨_, rfl, _, rfl, _, _, rfl, rfl, ?_⟩
    exact q2 _ _ (Same.refl _) (by show V.bl (decide ((2 : Int) ≤ n)) = V.bl false; rw [decide_eq_false (by omega)])
  · intro zs H2 e2 hzs hzl hR
    have ez : zs = (ns.map fun _ => false).map V.bl := by
      rw [List.map_map]
      exact eq_map (by rw [hzl, List.length_map]) fun j y k h1 h2 => hR j y h1
    refine ⟨D, ns.map fun _ => false, rfl, sl (by rw [hzs, ez]), _, rfl, ?_⟩
    have ha : (ns.map fun _ => false).any id = false := by
      rw [List.any_map, List.any_eq_false]
      exact fun _ _ => Bool.false_ne_true
    rw [ha]
    exact iteF (q.go (e1.trans e2))
/-- machines of the words of fl, a list or a tuple -/
def FillS (K : PySem.W.Frag) (H : Hp) (L : Nat) (fv : V) (fl : List (List Str)) : Prop := ∃ a vs, fv = .ref a ∧ (SqL K H a vs ∨ SqT K H a vs) ∧ vs.length = fl.length ∧ ∀ (i : Nat) v, vs[i]? = some v → ∃ m, MOk K H L v m (plang fl (.name i))
def sp_want_filling (K : PySem.W.Frag) : Sp := fun vs H Q _ => ∃ (L : Nat) (fv : V) (fl : List (List Str)), vs = [.int L, fv] ∧ FillS K H L fv fl ∧ fl.length = 2 ∧ Ret H Q .non
theorem c_want_filling (T : Txt K mg) : Cal P w K mg base 5 "want_filling" ["letters", "value"] (sp_want_filling K) := by
  have S : FnScope ["letters", "value", "one"] ["letters", "value"] (defScope s_want_filling) := fsc (by decide +kernel)
  refine Cal.of T.g_want_filling T.b_want_filling S (fun vs H Q E h => ?_) fun cdv A outer s H vs Q E hr h => ?_
  · obtain ⟨L, fv, fl, rfl, _⟩ := h; rfl
  obtain ⟨L, fv, fl, rfl, hf, hf2, q⟩ := h
  refine ⟨_, (pss_cons (ps_if (PW.pt (pw_or (pt_not (pt_val (pc (c_is_list T) hr (pa_cons (pv 1) pa_nil)))) (pw_or1 (pt_not (pt_chain op_le op_le pe_int (pe_callB call_len_seq rfl T.zlen boot_len (pa_cons (pv 1) pa_nil)) (pe_op op_add (pgl T.iMOST_NAME) pe_int)))))) pss_never pss_nil)
    (pss_one (ps_if (pt_not (pt_val (pe_callB (cr_all rfl) rfl T.zall (by decide +kernel) (pa_cons (pe_lc (own := [("one", 2)]) (g := gName 2) (tt := tYes) rfl S.nd (PI.or (pi_list (pv 1)) (pi_tup (pv 1))) (blkOk_by (N := ["letters", "value", "one"]) (sc := defScope s_want_filling) (by decide +kernel))
      (fun _ _ _ _ _ => pg_name (i := 2) S.nd rfl (Or.inl rfl)) (fun _ _ _ _ _ => pts_nil) (fun _ _ _ _ _ => pe_and (pe_callB (call_isM T) rfl T.zisinstance (by decide +kernel) (pa_cons (pv 2) (pa_cons (pe_glob (v := .ref _) rfl T.gMachine rfl) pa_nil))) (pe_one (pe_cmpR op_eq (pe_fldK (K := K) (pv 2) rfl) (pv 0) (nomark _))))) pa_nil)))) pss_never pss_nil))), ?_⟩
  obtain ⟨a, ms, rfl, hS, hl, hm⟩ := hf
  have ht : ∃ k, Ty K H (.ref a) k ∧ (decide (k = .lst) || decide (k = .tup)) = true := hS.elim (fun h => ⟨_, ty_lst h, rfl⟩) fun h => ⟨_, ty_tup h, rfl⟩
  obtain ⟨k, ty, hk⟩ := ht
  have hS' : ∀ {H'}, Same H H' → (SqL K H' a ms ∨ SqT K H' a ms) := fun e => hS.imp (fun h => e.seq h) fun h => Same.tup e h
  refine ⟨_, rfl, .ref a, k, rfl, ty, fun H1 e1 => ⟨_, rfl, ?_⟩⟩
  rw [hk]
  refine iteF ⟨_, rfl, a, ms, rfl, hS' e1, _, _, rfl, rfl, _, rfl, ?_⟩
  have l2 : ms.length = 2 := by rw [hl, hf2]
  rw [l2]
  refine iteT ⟨_, _, rfl, rfl, _, _, rfl, rfl, _, rfl, iteF ?_⟩
  rcases hS with hS | hS
  · refine .inl ⟨_, rfl, a, rfl, ⟨_, Same.seq e1 hS⟩, fun D hD => lcm walk_list (fun i v => ms[i]? = some v) (fun _ _ _ _ y => y) (fun i y _ => y = .bl true) (fun _ _ _ _ _ r => r) (by omega) hD (fun H' e' => Same.seq (e1.trans e') hS) (fun _ => rfl) ?_ ?_⟩
    · intro i y H2 hi hy e2 Q2 q2
      obtain ⟨m, hmm⟩ := hm i y hy
      have hm2 := hmm.on (e1.trans e2)
      obtain ⟨a', dx, fs, sv, ev, ea, i1, i2, i3, i4, i5, i6⟩ := hm2.at_
      refine ⟨_, rfl, y, m, rfl, hm2.at_, _, rfl, iteT ⟨_, rfl, a', _, dx, fs, _, ea, i1, T.cls, T.na_own_letters, i2, _, rfl, rfl, ?_⟩⟩
      refine q2 _ _ (Same.refl _) ?_
      rw [hm2.sp.eL]
      show V.bl (decide (V.int (L : Int) = V.int (L : Int))) = V.bl true
      rw [decide_eq_true rfl]
    · intro zs H2 e2 hzs hzl hR
      have ez : zs = (ms.map fun _ => true).map V.bl := by
        rw [List.map_map]
        exact eq_map hzl fun j y k h1 h2 => hR j y h1
      refine ⟨D, ms.map fun _ => true, rfl, sl (by rw [hzs, ez]), _, rfl, ?_⟩
      have ha : (ms.map fun _ => true).all id = true := by
        rw [List.all_map, List.all_eq_true]
        exact fun _ _ => rfl
      rw [ha]
      exact iteF (q.go (e1.trans e2))
  · refine .inr ⟨_, rfl, a, rfl, ⟨_, Same.tup e1 hS⟩, fun D hD => lcm walk_tup (fun i v => ms[i]? = some v) (fun _ _ _ _ y => y) (fun i y _ => y = .bl true) (fun _ _ _ _ _ r => r) (by omega) hD (fun H' e' => Same.tup (e1.trans e') hS) (fun _ => rfl) ?_ ?_⟩
    · intro i y H2 hi hy e2 Q2 q2
      obtain ⟨m, hmm⟩ := hm i y hy
      have hm2 := hmm.on (e1.trans e2)
      obtain ⟨a', dx, fs, sv, ev, ea, i1, i2, i3, i4, i5, i6⟩ := hm2.at_
      refine ⟨_, rfl, y, m, rfl, hm2.at_, _, rfl, iteT ⟨_, rfl, a', _, dx, fs, _, ea, i1, T.cls, T.na_own_letters, i2, _, rfl, rfl, ?_⟩⟩
      refine q2 _ _ (Same.refl _) ?_
      rw [hm2.sp.eL]
      show V.bl (decide (V.int (L : Int) = V.int (L : Int))) = V.bl true
      rw [decide_eq_true rfl]
    · intro zs H2 e2 hzs hzl hR
      have ez : zs = (ms.map fun _ => true).map V.bl := by
        rw [List.map_map]
        exact eq_map hzl fun j y k h1 h2 => hR j y h1
      refine ⟨D, ms.map fun _ => true, rfl, sl (by rw [hzs, ez]), _, rfl, ?_⟩
      have ha : (ms.map fun _ => true).all id = true := by
        rw [List.all_map, List.all_eq_true]
        exact fun _ _ => rfl
      rw [ha]
      exact iteF (q.go (e1.trans e2))
end
end K44
end
section
set_option maxHeartbeats 4000000
namespace K44
open PySem PySem.Spec PyProof.Rows L2 LamX NdefX
section
variable {P : Program} {w : World} {K : PySem.W.Frag} {mg : Str → Option Value} {base : Heap}
theorem FillAt.fs {H : Hp} {L : Nat} {fv : V} {fl : List (List Str)} (h : FillAt K H L fv fl) : FillS K H L fv fl := let ⟨a, vs, h1, h2, h3, h4⟩ := h; ⟨a, vs, h1, .inl h2, h3, h4⟩
theorem FillS.onN {H H' : Hp} {L : Nat} {fv : V} {fl : List (List Str)} (h : FillS K H L fv fl) (e : ExtN H H') : FillS K H' L fv fl := by
  obtain ⟨a, vs, h1, h2, h3, h4⟩ := h
  exact ⟨a, vs, h1, h2.imp (extN_lst e) (extN_tup e), h3, fun i v hv => let ⟨m, hm⟩ := h4 i v hv; ⟨m, hm.onN e⟩⟩
def sp_made (K : PySem.W.Frag) : Sp := fun vs H Q _ => ∃ (L : Nat) (v fv : V) (p : Pat) (fl : List (List Str)), vs = [.int L, v, fv] ∧ 1 ≤ L ∧ L ≤ 2 ∧ Dp K H v p.d ∧ p.good L ∧ p.dep ≤ 3 ∧ p.parts ≤ 30 ∧ FillAt K H L fv fl ∧ fl.length = 2 ∧ (∀ zs ∈ fl, ∀ z ∈ zs, z.length ≤ 2) ∧ Tb K H ∧ RetM K H Q L (plang fl p)
theorem c_made (T : Txt K mg) (TH : TabH K mg base) : Cal P w K mg base 16 "made" ["letters", "pattern", "filling"] (sp_made K) := by
  have S : FnScope ["letters", "pattern", "filling"] ["letters", "pattern", "filling"] (defScope s_made) := fsc (by decide +kernel)
  refine Cal.of T.g_made T.b_made S (fun vs H Q E h => ?_) fun cdv A outer s H vs Q E hr h => ?_
  · obtain ⟨L, v, fv, p, fl, rfl, _⟩ := h; rfl
  obtain ⟨L, v, fv, p, fl, rfl, hL1, hL, hp, hg, hdep, hpar, hf, hf2, hfl, htb, q⟩ := h
  refine ⟨_, (pss_cons (ps_expr (pc (c_want_letters T) hr (pa_cons (pv 0) pa_nil)))
    (pss_cons (ps_expr (pc (c_want_pattern T) hr (pa_cons (pv 0) (pa_cons (pv 1) pa_nil))))
    (pss_cons (ps_expr (pc (c_want_filling T) hr (pa_cons (pv 0) (pa_cons (pv 2) pa_nil))))
    (pss_cons (ps_expr (pc (c_want_reached T) hr (pa_cons (pv 1) (pa_cons (pe_callB call_len_seq rfl T.zlen boot_len (pa_cons (pv 2) pa_nil)) (pa_cons (pv 2) pa_nil)))))
    (pss_one (ps_ret (pc (c_machine_made T TH 3 (by decide)) hr (pa_cons (pv 0) (pa_cons (pv 1) (pa_cons (pv 2) pa_nil)))))))))), ?_⟩
  refine ⟨_, rfl, L, rfl, by omega, by omega, fun H1 e1 => ⟨_, rfl, _, rfl, L, v, p, rfl, by omega, dpOn hp e1, hg, by omega, hpar, fun H2 e2 => ?_⟩⟩
  have e12 := e1.trans e2
  refine ⟨_, rfl, _, rfl, L, fv, fl, rfl, (hf.onN (ExtN.of_same e12)).fs, hf2, fun H3 e3 => ?_⟩
  have e13 := e12.trans e3
  obtain ⟨a, vs, rfl, i1, i2, i3⟩ := hf.onN (ExtN.of_same e13)
  refine ⟨_, rfl, _, rfl, a, vs, rfl, .inl i1, _, rfl, v, .ref a, p, L, by rw [i2, hf2]; rfl, dpOn hp e13, hg, hdep, fun H4 e4 => ?_⟩
  have e14 := e13.trans e4
  exact ⟨_, rfl, _, rfl, _, rfl, L, v, .ref a, p, fl, rfl, hL1, hL, dpOn hp e14, hg, hdep, hf.onN (ExtN.of_same e14), hf2, hfl, TabsN.ext htb e14, RetM.on q (ExtN.of_same e14)⟩
end
end K44
end
section
set_option maxHeartbeats 4000000
namespace K44
open PySem PySem.Spec PyProof.Rows L2 LamX NdefX
section
variable {X : Cx} {x : Str} {ps : List Str} {j k : Nat} {sp : Sp} {e : Expr} {es : List Expr} {t : TA} {p pos : Pos} {dvs : List V} {ds : List Value}
/-- a call; the defaults fill up -/
def tPd (sp : Sp) (dvs : List V) (t : TA) : TE := fun σ H Q => t σ H fun vs H1 => sp (vs ++ dvs) H1 Q E0
theorem pcDf (C : Cal X.prog X.w X.K X.mg X.base j x ps sp) (b : Binds X.K (fdOf X.K (He.ga X.K x)) ps ds) (hv : Vals dvs ds) (hr : Room k X.A) (ha : PA X (e :: es) t) (hj : j ≤ k := by decide) (hg : Gl X x := by rfl)
    (hdb : (x == ("__debug__" : Str)) = false := by decide) (he : starEach (e :: es) X.env = (false, eval e X.env) :: starEach es X.env := by rfl) (hpl : (backTo pos (starEach es X.env)).any (·.1) = false := by rfl) :
    PE X (.Call (.Name x p) (e :: es) [] pos) (tPd sp dvs t) :=
  let h := pe_call (p := p) (pos := pos) C.fn (hr.mono hj) hg C.g C.kp b hv L2.pass0 ha hdb he hpl
  ⟨fun pins s σ H Q I q => h.run pins s σ H Q I q⟩
end
section
variable {P : Program} {w : World} {K : PySem.W.Frag} {mg : Str → Option Value} {base : Heap}
def sp_read_word (K : PySem.W.Frag) : Sp := fun vs H Q _ => ∃ (v : V) (r : Rd), vs = [v] ∧ Dp K H v r.d ∧ r.ok ∧ r.dep ≤ 4 ∧ Ret H Q (.str r.rd)
theorem c_read_word (T : Txt K mg) : Cal P w K mg base 14 "read_word" ["reading"] (sp_read_word K) := by
  have S : FnScope ["reading"] ["reading"] (defScope s_read_word) := fsc (by decide +kernel)
  refine Cal.of T.g_read_word T.b_read_word S (fun vs H Q E h => ?_) fun cdv A outer s H vs Q E hr h => ?_
  · obtain ⟨v, r, rfl, _⟩ := h; rfl
  obtain ⟨v, r, rfl, hd, ho, hdep, q⟩ := h
  obtain ⟨ds, hv, hb⟩ := (b_is_reading_shape T).2
  refine ⟨_, (pss_cons (ps_if (pt_not (pt_val (pcDf (c_shape T 9 (by decide)) hb hv hr (pa_cons (pv 0) pa_nil)))) pss_never pss_nil)
    (pss_one (ps_ret (pc (c_words_read T 4 (by decide)) hr (pa_cons (pv 0) pa_nil))))), ?_⟩
  refine ⟨_, rfl, v, r.d, rfl, hd, rd_small r ho, fun H1 e1 => ⟨_, rfl, ?_⟩⟩
  rw [rd_shape r 9 ho (by omega)]
  exact iteF ⟨_, rfl, v, r, rfl, dpOn hd e1, ho, hdep, q.on e1⟩
end
end K44
end
section
set_option maxHeartbeats 4000000
namespace K44
open PySem PySem.Spec PyProof.Rows L2 LamX NdefX
/-- a reading of the pattern whose words are told -/
def Reads0 (L : Nat) (fl : List (List Str)) (p : Pat) (r : Rd) : Prop := r.ok ∧ isOf p r = true ∧ (∀ c ∈ r.rd.cps.toList, c ∈ sgs L) ∧ ∀ x ∈ r.pcs, x.2 ∈ fl.getD x.1 []
def ReadsD (L : Nat) (fl : List (List Str)) (p : Pat) (d : PyData) : Prop := ∃ r : Rd, d = r.d ∧ Reads0 L fl p r
theorem sg_ge {L c : Nat} (h : c ∈ sgs L) : 97 ≤ c := by
  have := List.mem_of_mem_take h
  simp at this
  omega
theorem idx_inj {L : Nat} {z y : Str} (hz : ∀ c ∈ z.cps.toList, c ∈ sgs L) (hy : ∀ c ∈ y.cps.toList, c ∈ sgs L) (h : idx z = idx y) : z = y := by
  have key : ∀ a b : List Nat, (∀ c ∈ a, 97 ≤ c) → (∀ c ∈ b, 97 ≤ c) → a.map (· - 97) = b.map (· - 97) → a = b := by
    intro a
    induction a with
    | nil => intro b _ _ h; cases b with
      | nil => rfl
      | cons _ _ => simp at h
    | cons x a ih => intro b ha hb h; cases b with
      | nil => simp at h
      | cons y b =>
        rw [List.map_cons, List.map_cons, List.cons.injEq] at h
        have h1 := ha x List.mem_cons_self
        have h2 := hb y List.mem_cons_self
        have h3 := h.1
        rw [ih b (fun c hc => ha c (List.mem_cons_of_mem _ hc)) (fun c hc => hb c (List.mem_cons_of_mem _ hc)) h.2, show x = y by omega]
  have e := key _ _ (fun c hc => sg_ge (hz c hc)) (fun c hc => sg_ge (hy c hc)) h
  cases z with
  | mk zc => cases y with
    | mk yc => exact congrArg _ (Array.toList_inj.mp e)
section
variable {P : Program} {w : World} {K : PySem.W.Frag} {mg : Str → Option Value} {base : Heap}
def sp_is_reading (K : PySem.W.Frag) : Sp := fun vs H Q _ => ∃ (L : Nat) (v fv u : V) (p : Pat) (fl : List (List Str)) (d : PyData), vs = [.int L, v, fv, u] ∧ 1 ≤ L ∧ L ≤ 2 ∧ Dp K H v p.d ∧ p.good L ∧ p.dep ≤ 3 ∧ p.parts ≤ 30 ∧ FillS K H L fv fl ∧ fl.length = 2 ∧ (∀ zs ∈ fl, ∀ z ∈ zs, z.length ≤ 2 ∧ ∀ c ∈ z.cps.toList, c ∈ sgs L) ∧ Dp K H u d ∧ small d = true ∧
  ∀ b : Bool, (b = true ↔ ReadsD L fl p d) → Ret H Q (.bl b)
theorem c_is_reading (T : Txt K mg) : Cal P w K mg base 16 "is_reading" ["letters", "pattern", "filling", "value"] (sp_is_reading K) := by
  have S : FnScope ["letters", "pattern", "filling", "value", "name", "piece"] ["letters", "pattern", "filling", "value"] (defScope s_is_reading) := fsc (by decide +kernel)
  refine Cal.of T.g_is_reading T.b_is_reading S (fun vs H Q E h => ?_) fun cdv A outer s H vs Q E hr h => ?_
  · obtain ⟨L, v, fv, u, p, fl, d, rfl, _⟩ := h; rfl
  obtain ⟨L, v, fv, u, p, fl, d, rfl, hL1, hL, hp, hg, hdep, hpar, hf, hf2, hfl, hd, hs, q⟩ := h
  obtain ⟨ds, hv, hb⟩ := (b_is_reading_shape T).2
  refine ⟨_, (pss_cons (ps_expr (pc (c_want_letters T) hr (pa_cons (pv 0) pa_nil)))
    (pss_cons (ps_expr (pc (c_want_pattern T) hr (pa_cons (pv 0) (pa_cons (pv 1) pa_nil))))
    (pss_cons (ps_expr (pc (c_want_filling T) hr (pa_cons (pv 0) (pa_cons (pv 2) pa_nil))))
    (pss_cons (ps_expr (pc (c_want_reached T) hr (pa_cons (pv 1) (pa_cons (pe_callB call_len_seq rfl T.zlen boot_len (pa_cons (pv 2) pa_nil)) (pa_cons (pv 2) pa_nil)))))
    (pss_cons (ps_if (PW.pt (pw_or (pt_not (pt_val (pcDf (c_shape T 9 (by decide)) hb hv hr (pa_cons (pv 3) pa_nil)))) (pw_or (pt_not (pt_val (pc (c_is_of T 3 (by decide)) hr (pa_cons (pv 1) (pa_cons (pv 3) pa_nil))))) (pw_or1 (pt_not (pt_val (pc (c_signs_right T) hr (pa_cons (pv 0) (pa_cons (pc (c_words_read T 3 (by decide)) hr (pa_cons (pv 3) pa_nil)) pa_nil))))))))) (pss_one (ps_ret pe_bl)) pss_nil)
    (pss_one (ps_ret (pe_callB (cr_all rfl) rfl T.zall (by decide +kernel) (pa_cons (pe_lc (own := [("name", 4), ("piece", 5)]) (g := gTup K 2 (gCons (gName 4) (gCons (gName 5) gNil))) (tt := tYes) rfl S.nd (pi_list (pc (c_pieces_of T 3 (by decide)) hr (pa_cons (pv 3) pa_nil))) (blkOk_by (N := ["letters", "pattern", "filling", "value", "name", "piece"]) (sc := defScope s_is_reading) (by decide +kernel))
      (fun _ _ _ _ _ => pg_tupK (by rfl) (pgs_cons (pg_name (i := 4) S.nd rfl (.inl rfl)) (pgs_cons (pg_name (i := 5) S.nd rfl (.inl rfl)) pgs_nil))) (fun _ _ _ _ _ => pts_nil) (fun _ _ _ _ _ => pc (c_is_let T) hr (pa_cons (PE.or (pe_ix (ix_listK (K := K)) (pv 2) (pv 4) (fun _ _ => rfl)) (pe_ix (ix_tupK (K := K)) (pv 2) (pv 4) (fun _ _ => rfl))) (pa_cons (pv 5) pa_nil)))) pa_nil))))))))), ?_⟩
  refine ⟨_, rfl, L, rfl, by omega, by omega, fun H1 e1 => ⟨_, rfl, _, rfl, L, v, p, rfl, by omega, dpOn hp e1, hg, by omega, hpar, fun H2 e2 => ?_⟩⟩
  have e12 := e1.trans e2
  refine ⟨_, rfl, _, rfl, L, fv, fl, rfl, hf.onN (ExtN.of_same e12), hf2, fun H3 e3 => ?_⟩
  have e13 := e12.trans e3
  obtain ⟨a, ms, rfl, i1, i2, i3⟩ := hf
  have hS' : ∀ {H'}, Same H H' → (SqL K H' a ms ∨ SqT K H' a ms) := fun e => i1.imp (fun h => e.seq h) fun h => Same.tup e h
  refine ⟨_, rfl, _, rfl, a, ms, rfl, hS' e13, _, rfl, v, .ref a, p, L, by rw [i2, hf2]; rfl, dpOn hp e13, hg, hdep, fun H4 e4 => ?_⟩
  have e14 := e13.trans e4
  refine ⟨_, rfl, u, d, rfl, dpOn hd e14, hs, fun H5 e5 => ⟨_, rfl, ?_⟩⟩
  have e15 := e14.trans e5
  cases hsh : isShape 9 d with
  | false =>
    refine iteT ((q false ⟨fun z => (by cases z), fun ⟨r, er, ho, hi, _⟩ => ?_⟩).go e15)
    subst er
    rw [rd_shape r 9 ho (by have := isOf_dep p r hi; omega)] at hsh
    cases hsh
  | true =>
  obtain ⟨r, rfl, ho, _⟩ := shape_rd 9 d hsh hs
  refine iteF ⟨_, rfl, _, rfl, v, u, p, r, rfl, dpOn hp e15, dpOn hd e15, ho, hdep, fun H6 e6 => ⟨_, rfl, ?_⟩⟩
  have e16 := e15.trans e6
  have only : ∀ b : Bool, (b = true ↔ Reads0 L fl p r) → Ret H Q (.bl b) := fun b hb => q b (hb.trans ⟨fun h => ⟨r, rfl, h⟩, fun ⟨r', e, h⟩ => by rw [rdD_inj r r' e]; exact h⟩)
  cases hio : isOf p r with
  | false => exact iteT ((only false ⟨fun z => (by cases z), fun h => by have h2 := h.2.1; rw [hio] at h2; cases h2⟩).go e16)
  | true =>
  have hrd : r.dep ≤ 3 := by have := isOf_dep p r hio; omega
  refine iteF ⟨_, rfl, _, rfl, u, r, rfl, dpOn hd e16, ho, hrd, fun H7 e7 => ?_⟩
  have e17 := e16.trans e7
  refine ⟨L, r.rd, rfl, by omega, by have := rd_len r 3 ho hrd; omega, fun H8 e8 => ⟨_, rfl, ?_⟩⟩
  have e18 := e17.trans e8
  cases hsg : (r.rd.cps.toList.all fun c => decide (c ∈ sgs L)) with
  | false =>
    refine iteT ((only false ⟨fun z => (by cases z), fun h => ?_⟩).go e18)
    have : (r.rd.cps.toList.all fun c => decide (c ∈ sgs L)) = true := List.all_eq_true.mpr fun c hc => decide_eq_true (h.2.2.1 c hc)
    rw [hsg] at this
    cases this
  | true =>
  have hsg' : ∀ c ∈ r.rd.cps.toList, c ∈ sgs L := fun c hc => of_decide_eq_true (List.all_eq_true.mp hsg c hc)
  refine iteF ⟨_, rfl, u, r, rfl, dpOn hd e18, ho, hrd, fun pl H9 ps e9 hpl hps => ?_⟩
  have e19 := e18.trans e9
  have hpl2 : ps.length = r.pcs.length := by rw [dpsLen hps, List.length_map]
  refine ⟨pl, rfl, ⟨_, sl hpl⟩, fun D hD => lc_it walk_list (fun i H' => ∃ acc : List Bool, Same H9 H' ∧ H' D = some (.lst (acc.map V.bl)) ∧ acc.length = i ∧ (acc.all id = true ↔ ∀ x ∈ r.pcs.take i, x.2 ∈ fl.getD x.1 [])) ⟨[], same_new hD _, upd_same, rfl, by simp⟩ (fun i H' _ ⟨_, h, _⟩ => sl (h _ _ hpl)) ?_ ?_⟩
  · rintro i x Ha Hb hi ⟨acc, ea, hacc, hal, hall⟩ ⟨rfl, hx⟩
    obtain ⟨d2, h1, h2⟩ := dpsGetV hps hx
    rw [List.getElem?_map] at h1
    obtain ⟨pc2, hpc, rfl⟩ := Option.map_eq_some_iff.mp h1
    obtain ⟨t, zs, rfl, ht, hz⟩ := dp_tup (dpOn h2 ea)
    obtain ⟨v0, v1, rfl, g0, g1⟩ := dps2 hz
    obtain rfl := dp_int g0
    obtain rfl := dp_str g1
    have e1a := e19.trans ea
    have hmem := List.mem_of_getElem? hpc
    have hn2 : pc2.1 < 2 := isOf_names p r L hio hg pc2 hmem
    have hk : pc2.1 < ms.length := by omega
    obtain ⟨m, hmm⟩ := i3 pc2.1 _ (List.getElem?_eq_getElem hk)
    have hm2 := hmm.on e1a
    have hlen := (pcs_ok r ho pc2 hmem).1
    have hcs : ∀ c ∈ pc2.2.cps.toList, c ∈ sgs L := fun c hc => hsg' c (pcs_signs r pc2 hmem c hc)
    have eL := hm2.sp.eL
    have hb : m.acc (idx pc2.2) = true ↔ pc2.2 ∈ fl.getD pc2.1 [] := by
      rw [hm2.sp.acc _ (idx_wd (by omega) hcs)]
      show idx pc2.2 ∈ (fl.getD pc2.1 []).map idx ↔ _
      rw [List.mem_map]
      refine ⟨fun ⟨y, hy, e⟩ => ?_, fun h => ⟨_, h, rfl⟩⟩
      have hy2 : ∀ c ∈ y.cps.toList, c ∈ sgs L := by
        rw [List.getD_eq_getElem?_getD] at hy
        cases qq : fl[pc2.1]? with
        | none => rw [qq] at hy; simp at hy
        | some ws => rw [qq] at hy; exact (hfl ws (List.mem_of_getElem? qq) y hy).2
      rw [← idx_inj hy2 hcs e]
      exact hy
    have hat : atI ms (pc2.1 : Int) = some ms[pc2.1] := atI_nat (List.getElem?_eq_getElem hk)
    have fin : ∀ Q2 : VK, (∀ Hc, Same Hb Hc → Q2 (.bl (m.acc (idx pc2.2))) Hc) → sp_is_let K [ms[pc2.1], .str pc2.2] Hb Q2 E0 := fun Q2 q2 =>
      ⟨_, m, pc2.2, rfl, hm2.at_, hm2.sp.wf, by omega, by omega, fun c hc => by rw [eL]; exact hcs c hc, fun Hc ec => q2 Hc ec⟩
    have done : ∀ Hc, Same Hb Hc → ∃ acc2, Hc D = some (.lst acc2) ∧ acc2.length < sizeLine ∧ ∃ acc3 : List Bool, Same H9 (upd Hc D (.lst (acc2 ++ [.bl (m.acc (idx pc2.2))]))) ∧ upd Hc D (.lst (acc2 ++ [.bl (m.acc (idx pc2.2))])) D = some (.lst (acc3.map V.bl)) ∧ acc3.length = i + 1 ∧ (acc3.all id = true ↔ ∀ x ∈ r.pcs.take (i + 1), x.2 ∈ fl.getD x.1 []) := fun Hc ec => by
      refine ⟨_, ec _ _ hacc, ?_, acc ++ [m.acc (idx pc2.2)], Same.mut (ea.trans ec) hD, by rw [upd_same, List.map_append]; rfl, by rw [List.length_append, hal]; rfl, ?_⟩
      · rw [List.length_map, hal]
        exact szt (by have := pcs_len r 3 ho hrd; omega)
      · rw [List.all_append, Bool.and_eq_true, hall, List.take_add_one, hpc]
        simp only [Option.toList_some, List.mem_append, List.mem_singleton, List.all_cons, List.all_nil, Bool.and_true, id]
        rw [hb]
        exact ⟨fun h x hx => hx.elim (h.1 x) fun e => by rw [e]; exact h.2, fun h => ⟨fun x hx => h x (.inl hx), h _ (.inr rfl)⟩⟩
    refine ⟨t, _, rfl, ht, rfl, _, _, rfl, _, _, rfl, rfl, rfl, ?_⟩
    rcases hS' e1a with hS | hS
    · exact .inl ⟨_, rfl, _, rfl, a, _, _, _, rfl, rfl, hS, hat, _, rfl, fin _ fun Hc ec => done Hc ec⟩
    · exact .inr ⟨_, rfl, _, rfl, a, _, _, _, rfl, rfl, hS, hat, _, rfl, fin _ fun Hc ec => done Hc ec⟩
  · rintro Ha ⟨acc, ea, hacc, hal, hall⟩
    refine ⟨D, acc, rfl, sl hacc, ?_⟩
    rw [hpl2, List.take_length] at hall
    exact (only _ (hall.trans ⟨fun h => ⟨ho, hio, hsg', h⟩, fun h => h.2.2.2⟩)).go (e19.trans ea)
end
end K44
end
section
set_option maxHeartbeats 4000000
namespace K44
open PySem PySem.Spec PyProof.Rows L2
/-- the pot's list -/
def Pot (H : Hp) (a : Addr) : Prop := ∃ x y : Int, H a = some (.lst [.int x, .int y])
/-- only the pot has changed; new objects -/
def Px (a : Addr) (H H' : Hp) : Prop := Same (off a H) (off a H') ∧ Pot H' a
def RetP (a : Addr) (H : Hp) (Q : VK) (r : V) : Prop := ∀ H', Px a H H' → Q r H'
theorem Same.off {a : Addr} {H H' : Hp} (e : Same H H') : Same (off a H) (off a H') := fun b u h => by
  unfold K44.off at h ⊢
  split
  · rename_i z; rw [if_pos z] at h; cases h
  · rename_i z; rw [if_neg z] at h; exact e b u h
theorem Pot.on {a : Addr} {H H' : Hp} (h : Pot H a) (e : Same H H') : Pot H' a := let ⟨x, y, h⟩ := h; ⟨x, y, e _ _ h⟩
theorem Px.trans {a : Addr} {H H1 H2 : Hp} (h1 : Px a H H1) (h2 : Px a H1 H2) : Px a H H2 := ⟨h1.1.trans h2.1, h2.2⟩
theorem Px.refl {a : Addr} {H : Hp} (h : Pot H a) : Px a H H := ⟨Same.refl _, h⟩
theorem Px.of {a : Addr} {H H' : Hp} (h : Pot H a) (e : Same H H') : Px a H H' := ⟨Same.off e, h.on e⟩
theorem Px.same {a : Addr} {H H1 H2 : Hp} (h : Px a H H1) (e : Same H1 H2) : Px a H H2 := h.trans (Px.of h.2 e)
theorem Px.put {a : Addr} {H : Hp} {x y : Int} : Px a H (upd H a (.lst [.int x, .int y])) := ⟨fun b u h => by
  unfold K44.off at h ⊢
  split
  · rename_i z; rw [if_pos z] at h; cases h
  · rename_i z; rw [if_neg z] at h; rw [upd_ne z]; exact h, x, y, upd_same⟩
theorem RetP.on {a : Addr} {H H' : Hp} {Q : VK} {r : V} (q : RetP a H Q r) (e : Px a H H') : RetP a H' Q r := fun H2 e2 => q H2 (e.trans e2)
theorem RetP.go {a : Addr} {H H' : Hp} {Q : VK} {r : V} (q : RetP a H Q r) (e : Px a H H') : Q r H' := q H' e
section
variable {P : Program} {w : World} {K : PySem.W.Frag} {mg : Str → Option Value} {base : Heap}
def sp_law_pot (K : PySem.W.Frag) : Sp := fun vs H Q _ => ∃ (s : Addr) (ns : List Int), vs = [.ref s, .int 0] ∧ SqL K H s (ns.map V.int) ∧ ∀ a H', Same H H' → H a = none → Pot H' a → Q (.ref a) H'
theorem c_law_pot (T : Txt K mg) : Cal P w K mg base 1 "_law_pot" ["_law_script", "_law_k"] (sp_law_pot K) := by
  have S : FnScope ["_law_script", "_law_k", "_law_cell"] ["_law_script", "_law_k"] (defScope s_law_pot) := fsc (by decide +kernel)
  refine Cal.of T.g_law_pot T.b_law_pot S (fun vs H Q E h => ?_) fun cdv A outer s H vs Q E hr h => ?_
  · obtain ⟨v, r, rfl, _⟩ := h; rfl
  obtain ⟨l, ns, rfl, hl, q⟩ := h
  refine ⟨_, (pss_cons (ps_set (i := 2) S.nd rfl (.inl rfl) (pe_op op_add (pe_op op_mul pe_int (pv 1)) pe_int))
    (pss_cons (ps_if (pt_cmpR op_lt (pv 1) (pe_callB call_len_seq rfl T.zlen boot_len (pa_cons (pv 0) pa_nil)) rfl) (pss_one (ps_set (i := 2) S.nd rfl (.inl rfl) (pe_callB call_abs rfl T.zabs (by decide +kernel) (pa_cons (pe_ix ix_list (pv 0) (pv 1) (fun _ _ => rfl)) pa_nil)))) pss_nil)
    (pss_one (ps_ret (pe_lst (pa_cons (pe_callB (call_max2 rfl) rfl T.zmax (by decide +kernel) (pa_cons (pe_int) (pa_cons (pe_op op_sub (pv 2) (pe_op op_pow pe_int pe_int)) pa_nil))) (pa_cons (pe_op op_add (pe_op op_mod (pe_callTy call_int1 rfl T.zint (by decide +kernel) (pa_cons (pe_op op_add (pe_op op_add (pe_op op_mul (pe_op op_mod (pe_callTy call_int1 rfl T.zint (by decide +kernel) (pa_cons (pv 2) pa_nil)) pe_int) pe_int) (pe_op op_mul pe_int (pv 1))) pe_int) pa_nil)) pe_int) pe_int) pa_nil))))))), ?_⟩
  refine ⟨_, rfl, _, _, rfl, rfl, .inl ⟨by decide, by decide⟩, _, _, rfl, rfl, _, rfl, _, rfl, l, _, rfl, .inl hl, _, _, rfl, rfl, _, rfl, ?_⟩
  rw [List.length_map]
  cases ns with
  | nil =>
    refine ifF (by decide) ?_
    refine ⟨_, rfl, _, _, rfl, rfl, ⟨by decide, by decide, by decide⟩, _, _, rfl, rfl, _, _, rfl, _, rfl, .inl ⟨_, rfl, _, _, rfl, rfl, by decide, _, _, rfl, rfl, .inr ⟨by decide, by decide⟩, _, rfl, _, _, rfl, rfl, .inl ⟨by decide, by decide⟩, _, _, rfl, rfl, _, _, rfl, rfl, .inl ⟨_, rfl, _, _, rfl, rfl, by decide, _, _, rfl, rfl, ?_⟩⟩⟩
    exact ⟨le2, fun a ha => q a _ (same_new ha _) ha ⟨_, _, upd_same⟩⟩
  | cons n ns =>
    refine ifT (by simp) ⟨_, rfl, _, rfl, l, _, _, .int n, rfl, rfl, hl, atI_nat (xs := List.map V.int (n :: ns)) (j := 0) rfl, _, rfl, ?_⟩
    refine ⟨_, rfl, _, _, rfl, rfl, ⟨by decide, by decide, by decide⟩, _, _, rfl, rfl, _, _, rfl, _, rfl, .inl ⟨_, rfl, _, _, rfl, rfl, (show (0 : Int) < 2147483549 by decide), _, _, rfl, rfl, .inr ⟨by decide, by decide⟩, _, rfl, _, _, rfl, rfl, .inl ⟨by decide, by decide⟩, _, _, rfl, rfl, _, _, rfl, rfl, .inl ⟨_, rfl, _, _, rfl, rfl, (show (0 : Int) < 2147483563 by decide), _, _, rfl, rfl, ?_⟩⟩⟩
    exact ⟨le2, fun a ha => q a _ (same_new ha _) ha ⟨_, _, upd_same⟩⟩
def sp_law_draw (K : PySem.W.Frag) : Sp := fun vs H Q _ => ∃ (a : Addr) (n : Nat), vs = [.ref a, .int n] ∧ 0 < n ∧ n < 1000 ∧ Pot H a ∧ ∀ d : Nat, d < n → RetP a H Q (.int d)
theorem c_law_draw (T : Txt K mg) : Cal P w K mg base 1 "_law_draw" ["_law_pot_here", "_law_size"] (sp_law_draw K) := by
  have S : FnScope ["_law_pot_here", "_law_size", "_law_digit"] ["_law_pot_here", "_law_size"] (defScope s_law_draw) := fsc (by decide +kernel)
  refine Cal.of T.g_law_draw T.b_law_draw S (fun vs H Q E h => ?_) fun cdv A outer s H vs Q E hr h => ?_
  · obtain ⟨a, n, rfl, _⟩ := h; rfl
  obtain ⟨a, n, rfl, h0, hn, hp, q⟩ := h
  refine ⟨_, (pss_cons (ps_if (pt_cmpR op_gt (pe_ix ix_list (pv 0) pe_int (fun _ _ => rfl)) pe_int rfl) (pss_cons (ps_asg (pe_callB call_divmod rfl T.zdivmod (by decide +kernel) (pa_cons (pe_ix ix_list (pv 0) pe_int (fun _ _ => rfl)) (pa_cons (pv 1) pa_nil))) (pg_tup rfl (pgs_cons (pg_sub (pv 0) pe_int set_list) (pgs_cons (pg_name (i := 2) S.nd rfl (.inl rfl)) pgs_nil))))
    (pss_one (ps_ret (pv 2)))) pss_nil)
    (pss_cons (ps_asg (pe_op op_mod (pe_callTy call_int1 rfl T.zint (by decide +kernel) (pa_cons (pe_op op_add (pe_op op_mul (pe_ix ix_list (pv 0) pe_int (fun _ _ => rfl)) pe_int) pe_int) pa_nil)) pe_int) (pg_sub (pv 0) pe_int set_list))
    (pss_one (ps_ret (pe_op op_mod (pe_callTy call_int1 rfl T.zint (by decide +kernel) (pa_cons (pe_op op_fdiv (pe_op op_mod (pe_callTy call_int1 rfl T.zint (by decide +kernel) (pa_cons (pe_op op_mul (pe_ix ix_list (pv 0) pe_int (fun _ _ => rfl)) (pe_ix ix_list (pv 0) pe_int (fun _ _ => rfl))) pa_nil)) pe_int) pe_int) pa_nil)) (pv 1)))))), ?_⟩
  obtain ⟨x, y, hp⟩ := hp
  refine ⟨_, rfl, a, _, _, _, rfl, rfl, sl hp, rfl, _, _, rfl, rfl, _, rfl, ?_⟩
  by_cases hx : 0 < x
  · refine ifT (decide_eq_true hx) ⟨_, rfl, a, _, _, _, rfl, rfl, sl hp, rfl, _, rfl, _, _, rfl, ⟨by omega, by omega⟩, fun t ht => ⟨t, _, rfl, K44.st upd_same, rfl, _, _, rfl, ?_⟩⟩
    have hat : a ≠ t := ne_of_none hp ht
    have e1 := same_new ht (.tup [.int (x / (n : Int)), .int (x % (n : Int))])
    refine ⟨_, rfl, a, _, _, 0, rfl, rfl, e1 _ _ hp, rfl, _, _, rfl, rfl, _, rfl, ?_⟩
    have hm := Int.emod_nonneg x (show (n : Int) ≠ 0 by omega)
    have hm2 := Int.emod_lt_of_pos x (show (0 : Int) < n by omega)
    have := q (x % (n : Int)).toNat (by omega)
    rw [Int.toNat_of_nonneg hm] at this
    exact this.go ((Px.of ⟨x, y, hp⟩ e1).trans Px.put)
  · refine ifF (decide_eq_false hx) ⟨_, rfl, a, _, _, _, rfl, rfl, sl hp, rfl, _, _, rfl, rfl, .inr ⟨by decide, by decide⟩, _, _, rfl, rfl, .inl ⟨_, rfl, _, _, rfl, rfl, (show (0 : Int) < 2147483587 by decide), ?_⟩⟩
    refine ⟨_, rfl, a, _, _, 1, rfl, rfl, hp, rfl, ?_⟩
    have g1 := Int.emod_nonneg (y * 39373 + 3877) (show (2147483587 : Int) ≠ 0 by decide)
    have g2 := Int.emod_lt_of_pos (y * 39373 + 3877) (show (0 : Int) < 2147483587 by decide)
    
    let z := (y * 39373 + 3877) % 2147483587
    have hp2 : upd H a (.lst ([V.int x, V.int y].set 1 (.int z))) a = some (.lst [.int x, .int z]) := upd_same
    refine ⟨_, rfl, a, _, _, .int z, rfl, rfl, sl hp2, rfl, _, rfl, a, _, _, .int z, rfl, rfl, sl hp2, rfl, _, _, rfl, rfl, .inl ⟨by omega, by omega⟩, .inl ⟨_, rfl, _, _, rfl, rfl, (show (0 : Int) < 2147483563 by decide), _, _, rfl, rfl, ⟨by decide, by decide⟩, .inl ⟨_, rfl, _, rfl, _, _, rfl, rfl, by omega, ?_⟩⟩⟩
    generalize z * z % 2147483563 / 17 = u
    have hm := Int.emod_nonneg u (show (n : Int) ≠ 0 by omega)
    have hm2 := Int.emod_lt_of_pos u (show (0 : Int) < n by omega)
    have := q (u % (n : Int)).toNat (by omega)
    rw [Int.toNat_of_nonneg hm] at this
    exact this.go Px.put
end
end K44
end
section
set_option maxHeartbeats 4000000
namespace K44
open PySem PySem.Spec PyProof.Rows L2 LamX NdefX
theorem off_upd {a p : Addr} {H : Hp} {o : HO} (h : p ≠ a) : off a (upd H p o) p = some o := (off_ne h).trans upd_same
theorem Pot.ne {a p : Addr} {H : Hp} (h : Pot H a) (hp : H p = none) : p ≠ a := let ⟨_, _, h⟩ := h; fun z => by rw [z, h] at hp; cases hp
theorem offSeq {K : PySem.W.Frag} {a l : Addr} {H : Hp} {xs : List V} (h : SqL K (off a H) l xs) : SqL K H l xs := Same.seq off_same h
theorem offTup {K : PySem.W.Frag} {a l : Addr} {H : Hp} {xs : List V} (h : SqT K (off a H) l xs) : SqT K H l xs := Same.tup off_same h
theorem offDp {K : PySem.W.Frag} {a : Addr} {H : Hp} {v : V} {d : PyData} (h : Dp K (off a H) v d) : Dp K H v d := dpOn h off_same
theorem Px.dp {K : PySem.W.Frag} {a : Addr} {H H' : Hp} {v : V} {d : PyData} (e : Px a H H') (h : Dp K (off a H) v d) : Dp K (off a H') v d := dpOn h e.1
theorem Px.seq {K : PySem.W.Frag} {a l : Addr} {H H' : Hp} {xs : List V} (e : Px a H H') (h : SqL K (off a H) l xs) : SqL K (off a H') l xs := Same.seq e.1 h
theorem Px.tup {K : PySem.W.Frag} {a l : Addr} {H H' : Hp} {xs : List V} (e : Px a H H') (h : SqT K (off a H) l xs) : SqT K (off a H') l xs := Same.tup e.1 h
theorem Px.new {a p : Addr} {H : Hp} (h : Pot H a) (hp : H p = none) (o : HO) : Px a H (upd H p o) := Px.of h (same_new hp o)
theorem dInt {a b : Int} : decide (V.int a = V.int b) = decide (a = b) := by
  by_cases h : a = b
  · rw [h, decide_eq_true rfl, decide_eq_true rfl]
  · rw [decide_eq_false h, decide_eq_false fun z => h (by cases z; rfl)]
theorem intT {a b : Int} {A B : Prop} (h : a = b) (x : A) : if decide (V.int a = V.int b) = true then A else B := ifT (by rw [dInt, decide_eq_true h]) x
theorem intF {a b : Int} {A B : Prop} (h : a ≠ b) (x : B) : if decide (V.int a = V.int b) = true then A else B := ifF (by rw [dInt, decide_eq_false h]) x
/-- a new tuple of data -/
theorem dp_new {K : PySem.W.Frag} {a p : Addr} {H : Hp} {xs : List V} {ds : List PyData} (hp : Pot H a) (h : H p = none) (hd : DpAll K (off a H) xs ds) : Dp K (off a (upd H p (.tup xs))) (.ref p) (.tuple ds) :=
  .tup (K44.st (off_upd (hp.ne h))) (dpsOn hd (Same.off (same_new h _)))
theorem dl_new {K : PySem.W.Frag} {a p : Addr} {H : Hp} {xs : List V} {ds : List PyData} (hp : Pot H a) (h : H p = none) (hd : DpAll K (off a H) xs ds) : Dp K (off a (upd H p (.lst xs))) (.ref p) (.list ds) :=
  .lst (sl (off_upd (hp.ne h))) (dpsOn hd (Same.off (same_new h _)))
section
variable {P : Program} {w : World} {K : PySem.W.Frag} {mg : Str → Option Value} {base : Heap}
def sp_law_pick (K : PySem.W.Frag) : Sp := fun vs H Q _ => ∃ (a l : Addr) (xs : List V), vs = [.ref a, .ref l] ∧ Pot H a ∧ SqL K (off a H) l xs ∧ xs ≠ [] ∧ xs.length < 1000 ∧ ∀ x ∈ xs, RetP a H Q x
theorem c_law_pick (T : Txt K mg) : Cal P w K mg base 2 "_law_pick" ["_law_pot_here", "_law_some"] (sp_law_pick K) := by
  have S : FnScope ["_law_pot_here", "_law_some"] ["_law_pot_here", "_law_some"] (defScope s_law_pick) := fsc (by decide +kernel)
  refine Cal.of T.g_law_pick T.b_law_pick S (fun vs H Q E h => ?_) fun cdv A outer s H vs Q E hr h => ?_
  · obtain ⟨a, l, xs, rfl, _⟩ := h; rfl
  obtain ⟨a, l, xs, rfl, hp, hl, hne, hlen, q⟩ := h
  refine ⟨_, (pss_one (ps_ret (pe_ix ix_list (pv 1) (pc (c_law_draw T) hr (pa_cons (pv 0) (pa_cons (pe_callB call_len_seq rfl T.zlen boot_len (pa_cons (pv 1) pa_nil)) pa_nil))) (fun _ _ => rfl)))), ?_⟩
  have h0 : 0 < xs.length := List.length_pos_iff.mpr hne
  refine ⟨_, rfl, _, rfl, _, rfl, l, xs, rfl, .inl (offSeq hl), a, xs.length, rfl, h0, hlen, hp, fun d hd H1 e1 => ?_⟩
  exact ⟨l, xs, _, _, rfl, rfl, offSeq (e1.seq hl), atI_nat (List.getElem?_eq_getElem hd), (q _ (List.getElem_mem hd)).go e1⟩
def sp_law_word (K : PySem.W.Frag) : Sp := fun vs H Q _ => ∃ (a : Addr) (L most : Nat), vs = [.ref a, .int L, .int most] ∧ 1 ≤ L ∧ L ≤ 3 ∧ most ≤ 10 ∧ Pot H a ∧ ∀ z : Str, z.length ≤ most → (∀ c ∈ z.cps.toList, c ∈ sgs L) → RetP a H Q (.str z)
theorem abc_at {L d : Nat} (hL : L ≤ 3) (hd : d < L) : ∃ c, ("abc" : Str).cps.toList[d]? = some c ∧ c ∈ sgs L := by
  have h : ∀ L ≤ 3, ∀ d < L, ∃ c, [97, 98, 99][d]? = some c ∧ c ∈ sgs L := by
    intro L hL d hd
    match L, d, hL, hd with
    | 1, 0, _, _ => exact ⟨97, rfl, by decide⟩
    | 2, 0, _, _ => exact ⟨97, rfl, by decide⟩
    | 2, 1, _, _ => exact ⟨98, rfl, by decide⟩
    | 3, 0, _, _ => exact ⟨97, rfl, by decide⟩
    | 3, 1, _, _ => exact ⟨98, rfl, by decide⟩
    | 3, 2, _, _ => exact ⟨99, rfl, by decide⟩
    | n + 4, _, h, _ => omega
  exact h L hL d hd
theorem c_law_word (T : Txt K mg) : Cal P w K mg base 2 "_law_word" ["_law_pot_here", "_law_letters", "_law_most"] (sp_law_word K) := by
  have S : FnScope ["_law_pot_here", "_law_letters", "_law_most", "_law_found", "_law_turn"] ["_law_pot_here", "_law_letters", "_law_most"] (defScope s_law_word) := fsc (by decide +kernel)
  refine Cal.of T.g_law_word T.b_law_word S (fun vs H Q E h => ?_) fun cdv A outer s H vs Q E hr h => ?_
  · obtain ⟨a, L, most, rfl, _⟩ := h; rfl
  obtain ⟨a, L, most, rfl, hL1, hL, hm, hp, q⟩ := h
  refine ⟨_, (pss_cons (ps_set (i := 3) S.nd rfl (.inl rfl) pe_str)
    (pss_cons (ps_for PassesOwn.never rfl (pi_range1 rfl T.zrange (pa_cons (pc (c_law_draw T) hr (pa_cons (pv 0) (pa_cons (pe_op op_add (pv 2) pe_int) pa_nil))) pa_nil)) (pg_name (i := 4) S.nd rfl (.inl rfl)) (pss_one (ps_set (i := 3) S.nd rfl (.inl rfl) (pe_op op_add_str (pv 3) (pe_ix ix_str pe_str (pc (c_law_draw T) hr (pa_cons (pv 0) (pa_cons (pv 1) pa_nil))) (fun _ _ => rfl))))))
    (pss_one (ps_ret (pv 3))))), ?_⟩
  refine ⟨_, rfl, _, rfl, _, _, rfl, rfl, a, most + 1, rfl, by omega, by omega, hp, fun n hn H1 e1 => ⟨(n : Int), rfl, by omega, by omega, ?_⟩⟩
  rw [Int.toNat_natCast]
  refine for_range (fun i σ H' => ∃ (z : Str) (o : Option V), σ = [some (.ref a), some (.int L), some (.int most), some (.str z), o] ∧ z.length = i ∧ (∀ c ∈ z.cps.toList, c ∈ sgs L) ∧ Px a H H') ⟨_, _, rfl, rfl, fun c hc => absurd (show c ∈ ([] : List Nat) from hc) (by simp), e1⟩ ?_ ?_
  · rintro i σ H2 hi ⟨z, o, rfl, hz, hc, e2⟩
    refine ⟨_, rfl, _, rfl, _, rfl, a, L, rfl, by omega, by omega, e2.2, fun d hd H3 e3 => ?_⟩
    obtain ⟨c, hc1, hc2⟩ := abc_at hL hd
    refine ⟨_, _, c, rfl, rfl, by decide, atI_nat hc1, z, _, rfl, rfl, ?_, z ++ ⟨#[c]⟩, _, rfl, ?_, ?_, e2.trans e3⟩
    · exact Nat.le_trans (Nat.add_le_add (Nat.le_of_eq hz) (Nat.le_refl 1)) (szl (by omega))
    · show (z ++ _).length = i + 1
      rw [strLen_append, hz]; rfl
    · intro c2 h2
      rw [str_app] at h2
      rcases List.mem_append.mp h2 with h2 | h2
      · exact hc c2 h2
      · rw [List.mem_singleton.mp h2]; exact hc2
  · rintro σ H2 ⟨z, o, rfl, hz, hc, e2⟩
    exact ⟨_, rfl, (q z (by omega) hc).go e2⟩
def sp_law_leaf (K : PySem.W.Frag) : Sp := fun vs H Q _ => ∃ (a : Addr) (L : Nat), vs = [.ref a, .int L, .int 2] ∧ 1 ≤ L ∧ L ≤ 3 ∧ Pot H a ∧ ∀ (v : V) (p : Pat) H', Px a H H' → Dp K (off a H') v p.d → p.good L → p.dep = 1 → p.parts = 1 → Q v H'
theorem c_law_leaf (T : Txt K mg) : Cal P w K mg base 3 "_law_leaf" ["_law_pot_here", "_law_letters", "_law_names"] (sp_law_leaf K) := by
  have S : FnScope ["_law_pot_here", "_law_letters", "_law_names"] ["_law_pot_here", "_law_letters", "_law_names"] (defScope s_law_leaf) := fsc (by decide +kernel)
  refine Cal.of T.g_law_leaf T.b_law_leaf S (fun vs H Q E h => ?_) fun cdv A outer s H vs Q E hr h => ?_
  · obtain ⟨a, L, rfl, _⟩ := h; rfl
  obtain ⟨a, L, rfl, hL1, hL, hp, q⟩ := h
  refine ⟨_, (pss_cons (ps_if (PW.pt (pw_or (pt_cmpR op_eq (pv 2) pe_int (nomark _)) (pw_or1 (pt_cmpR op_lt (pc (c_law_draw T) hr (pa_cons (pv 0) (pa_cons (pe_int) pa_nil))) pe_int rfl)))) (pss_one (ps_ret (pe_tup (pa_cons (pe_str) (pa_cons (pc (c_law_word T) hr (pa_cons (pv 0) (pa_cons (pv 1) (pa_cons (pe_int) pa_nil)))) pa_nil))))) pss_nil)
    (pss_one (ps_ret (pe_tup (pa_cons (pe_str) (pa_cons (pc (c_law_draw T) hr (pa_cons (pv 0) (pa_cons (pv 2) pa_nil))) pa_nil)))))), ?_⟩
  refine ⟨_, rfl, rfl, _, rfl, intF (by decide) ⟨_, rfl, a, 5, rfl, by decide, by decide, hp, fun d hd H1 e1 => ⟨_, _, rfl, rfl, _, rfl, ?_⟩⟩⟩
  by_cases h2 : d < 2
  · refine ifT (decide_eq_true (by omega)) ⟨_, rfl, _, rfl, a, L, 2, rfl, hL1, hL, by decide, e1.2, fun z hz hc H2 e2 => ⟨le2, fun t ht => ?_⟩⟩
    exact q _ (.word z) _ ((e1.trans e2).trans (Px.new e2.2 ht _)) (dp_new e2.2 ht (.cons (.str _) (.cons (.str _) .nil))) ⟨hz, hc⟩ rfl rfl
  · refine ifF (decide_eq_false (by omega)) ⟨_, rfl, _, rfl, a, 2, rfl, by decide, by decide, e1.2, fun n hn H2 e2 => ⟨le2, fun t ht => ?_⟩⟩
    exact q _ (.name n) _ ((e1.trans e2).trans (Px.new e2.2 ht _)) (dp_new e2.2 ht (.cons (.str _) (.cons (.int _) .nil))) hn rfl rfl
theorem predL {a b c : V} {k : Nat} : [a, b, c, V.int (((k + 1 : Nat) : Int) - 1)] = [a, b, c, V.int (k : Int)] := by rw [show ((k + 1 : Nat) : Int) - 1 = (k : Int) by omega]
def sp_law_pattern (K : PySem.W.Frag) (m : Nat) : Sp := fun vs H Q _ => ∃ (n : Nat) (a : Addr) (L : Nat), m = n + 1 ∧ vs = [.ref a, .int L, .int 2, .int n] ∧ 1 ≤ L ∧ L ≤ 3 ∧ Pot H a ∧ ∀ (v : V) (p : Pat) H', Px a H H' → Dp K (off a H') v p.d → p.good L → p.dep ≤ m → p.parts + 1 ≤ 2 ^ m → Q v H'
theorem c_law_pattern (T : Txt K mg) : ∀ m : Nat, Cal P w K mg base (m + 3) "_law_pattern" ["_law_pot_here", "_law_letters", "_law_names", "_law_deep"] (sp_law_pattern K m)
  | 0 => Cal.none_ T.g_law_pattern T.b_law_pattern fun vs H Q E ⟨n, a, L, h, _⟩ => by omega
  | m + 1 => by
    have S : FnScope ["_law_pot_here", "_law_letters", "_law_names", "_law_deep", "_law_way", "_law_near"] ["_law_pot_here", "_law_letters", "_law_names", "_law_deep"] (defScope s_law_pattern) := fsc (by decide +kernel)
    refine Cal.of T.g_law_pattern T.b_law_pattern S (fun vs H Q E h => ?_) fun cdv A outer s H vs Q E hr h => ?_
    · obtain ⟨n, a, L, _, rfl, _⟩ := h; rfl
    obtain ⟨n, a, L, hm, rfl, hL1, hL, hp, q⟩ := h
    obtain rfl : n = m := by omega
    have C : Cal P w K mg base (n + 3) "_law_pattern" ["_law_pot_here", "_law_letters", "_law_names", "_law_deep"] (sp_law_pattern K n) := c_law_pattern T n
    refine ⟨_, (pss_cons (ps_set (i := 4) S.nd rfl (.inl rfl) (pc (c_law_draw T) hr (pa_cons (pv 0) (pa_cons (pe_int) pa_nil)) (by omega)))
    (pss_cons (ps_if (PW.pt (pw_or (pt_cmpR op_eq (pv 3) pe_int (nomark _)) (pw_or1 (pt_cmpR op_eq (pv 4) pe_int (nomark _))))) (pss_one (ps_ret (pc (c_law_leaf T) hr (pa_cons (pv 0) (pa_cons (pv 1) (pa_cons (pv 2) pa_nil))) (by omega)))) pss_nil)
    (pss_cons (ps_set (i := 5) S.nd rfl (.inl rfl) (pc C hr (pa_cons (pv 0) (pa_cons (pv 1) (pa_cons (pv 2) (pa_cons (pe_op op_sub (pv 3) pe_int) pa_nil)))) (Nat.le_refl _)))
    (pss_cons (ps_if (pt_cmpR op_eq (pv 4) pe_int (nomark _)) (pss_one (ps_ret (pe_tup (pa_cons (pe_str) (pa_cons (pv 5) pa_nil))))) pss_nil)
    (pss_one (ps_ret (pe_tup (pa_cons (pe_ifExp (pt_cmpR op_eq (pv 4) pe_int (nomark _)) pe_str pe_str) (pa_cons (pv 5) (pa_cons (pc C hr (pa_cons (pv 0) (pa_cons (pv 1) (pa_cons (pv 2) (pa_cons (pe_op op_sub (pv 3) pe_int) pa_nil)))) (Nat.le_refl _)) pa_nil)))))))))), ?_⟩
    have hpow : (2 : Nat) ^ (n + 1) = 2 ^ n + 2 ^ n := by rw [Nat.pow_succ]; omega
    have hpos : 0 < (2 : Nat) ^ n := Nat.pow_pos (by decide)
    refine ⟨_, rfl, a, 5, rfl, by decide, by decide, hp, fun d hd H1 e1 => ?_⟩
    have leaf : sp_law_leaf K [.ref a, .int L, .int 2] H1 Q E0 := ⟨a, L, rfl, hL1, hL, e1.2, fun v p H2 e2 h1 h2 h3 h4 => q v p H2 (e1.trans e2) h1 h2 (by omega) (by omega)⟩
    refine ⟨_, rfl, rfl, _, rfl, ?_⟩
    by_cases hn : n = 0
    · exact intT (by omega) ⟨_, rfl, _, rfl, _, rfl, leaf⟩
    refine intF (by omega) ⟨_, rfl, rfl, _, rfl, ?_⟩
    by_cases hd0 : d = 0
    · exact intT (by omega) ⟨_, rfl, _, rfl, _, rfl, leaf⟩
    refine intF (by omega) ⟨_, rfl, _, rfl, _, rfl, _, rfl, _, _, rfl, rfl, ?_⟩
    obtain ⟨k, rfl⟩ : ∃ k, n = k + 1 := ⟨n - 1, by omega⟩
    refine ⟨k, a, L, rfl, predL, hL1, hL, e1.2, fun v1 p1 H2 e2 i1 i2 i3 i4 => ?_⟩
    have e12 := e1.trans e2
    refine ⟨_, rfl, rfl, _, rfl, ?_⟩
    by_cases hd1 : d = 1
    · refine intT (by omega) ⟨_, rfl, le2, fun t ht => ?_⟩
      exact q _ (.rnd p1) _ (e12.trans (Px.new e2.2 ht _)) (dp_new e2.2 ht (.cons (.str _) (.cons i1 .nil))) i2 (by show p1.dep + 1 ≤ _; omega) (by show p1.parts + 1 + 1 ≤ _; omega)
    refine intF (by omega) ?_
    have next : ∀ Q2 : VK, (∀ (v : V) (p : Pat) H', Px a H2 H' → Dp K (off a H') v p.d → p.good L → p.dep ≤ k + 1 → p.parts + 1 ≤ 2 ^ (k + 1) → Q2 v H') → sp_law_pattern K (k + 1) [.ref a, .int L, .int 2, .int (((k + 1 : Nat) : Int) - 1)] H2 Q2 E0 := fun Q2 q2 =>
      ⟨k, a, L, rfl, predL, hL1, hL, e2.2, q2⟩
    refine ⟨_, rfl, rfl, _, rfl, ?_⟩
    by_cases hd2 : d = 2
    · refine intT (by omega) ⟨_, rfl, _, rfl, _, rfl, _, rfl, _, rfl, _, _, rfl, rfl, next _ fun v2 p2 H3 e3 j1 j2 j3 j4 => ⟨le3, fun t ht => ?_⟩⟩
      exact q _ (.eit p1 p2) _ ((e12.trans e3).trans (Px.new e3.2 ht _)) (dp_new e3.2 ht (.cons (.str _) (.cons (e3.dp i1) (.cons j1 .nil)))) ⟨i2, j2⟩ (by show max p1.dep p2.dep + 1 ≤ _; omega) (by show p1.parts + p2.parts + 1 + 1 ≤ _; omega)
    · refine intF (by omega) ⟨_, rfl, _, rfl, _, rfl, _, rfl, _, rfl, _, _, rfl, rfl, next _ fun v2 p2 H3 e3 j1 j2 j3 j4 => ⟨le3, fun t ht => ?_⟩⟩
      exact q _ (.beh p1 p2) _ ((e12.trans e3).trans (Px.new e3.2 ht _)) (dp_new e3.2 ht (.cons (.str _) (.cons (e3.dp i1) (.cons j1 .nil)))) ⟨i2, j2⟩ (by show max p1.dep p2.dep + 1 ≤ _; omega) (by show p1.parts + p2.parts + 1 + 1 ≤ _; omega)
end
end K44
end
section
set_option maxHeartbeats 4000000
namespace K44
open PySem PySem.Spec PyProof.Rows L2 LamX NdefX
section
variable {P : Program} {w : World} {K : PySem.W.Frag} {mg : Str → Option Value} {base : Heap}
theorem c_law_read (T : Txt K mg) : ∀ n : Nat, n ≤ 5 → Cal P w K mg base n "_law_read" ["_law_reading_here"] (sp_words_read K n)
  | 0, _ => Cal.none_ T.g_law_read T.b_law_read fun vs H Q E ⟨v, r, _, _, _, h, _⟩ => by have := dep_pos r; omega
  | n + 1, h5 => by
    have S : FnScope ["_law_reading_here", "_law_kind", "_law_one"] ["_law_reading_here"] (defScope s_law_read) := fsc (by decide +kernel)
    refine Cal.of T.g_law_read T.b_law_read S (fun vs H Q E h => ?_) fun cdv A outer s H vs Q E hr h => ?_
    · obtain ⟨v, r, rfl, _⟩ := h; rfl
    obtain ⟨v, r, rfl, hd, ho, hn, q⟩ := h
    have C := c_law_read T n (by omega)
    refine ⟨_, (pss_cons (ps_set (i := 1) S.nd rfl (.inl rfl) (pe_ix ix_tup (pv 0) pe_int (fun _ _ => rfl)))
    (pss_cons (ps_if (pt_cmpR op_eq (pv 1) pe_str rfl) (pss_one (ps_ret (pe_ix ix_tup (pv 0) pe_int (fun _ _ => rfl)))) pss_nil)
    (pss_cons (ps_if (pt_cmpR op_eq (pv 1) pe_str rfl) (pss_one (ps_ret (pe_ix ix_tup (pv 0) pe_int (fun _ _ => rfl)))) pss_nil)
    (pss_cons (ps_if (pt_cmpR op_eq (pv 1) pe_str rfl) (pss_one (ps_ret (pe_op op_add_str (pc C hr (pa_cons (pe_ix ix_tup (pv 0) pe_int (fun _ _ => rfl)) pa_nil) (Nat.le_refl _)) (pc C hr (pa_cons (pe_ix ix_tup (pv 0) pe_int (fun _ _ => rfl)) pa_nil) (Nat.le_refl _))))) pss_nil)
    (pss_cons (ps_if (pt_cmpR op_eq (pv 1) pe_str rfl) (pss_one (ps_ret (pc C hr (pa_cons (pe_ix ix_tup (pv 0) pe_int (fun _ _ => rfl)) pa_nil) (Nat.le_refl _)))) pss_nil)
    (pss_one (ps_ret (pe_join pe_str (pe_lc (own := [("_law_one", 2)]) (g := gName 2) (tt := tYes) rfl S.nd (PI.or (pi_list (pe_ix ix_tup (pv 0) pe_int (fun _ _ => rfl))) (pi_tup (pe_ix ix_tup (pv 0) pe_int (fun _ _ => rfl)))) (blkOk_by (N := ["_law_reading_here", "_law_kind", "_law_one"]) (sc := defScope s_law_read) (by decide +kernel)) (fun _ _ _ _ _ => pg_name (i := 2) S.nd rfl (Or.inl rfl)) (fun _ _ _ _ _ => pts_nil)
        (fun _ _ _ _ _ => pc C hr (pa_cons (pv 2) pa_nil) (Nat.le_refl _))))))))))), ?_⟩
    have hp : 10 ^ n ≤ 10 ^ 4 := Nat.pow_le_pow_right (by decide) (by omega)
    cases r with
    | word z =>
      obtain ⟨a, xs, rfl, hT, hx⟩ := dp_tup hd
      obtain ⟨v0, v1, rfl, h0, h1⟩ := dps2 hx
      obtain rfl := dp_str h0
      obtain rfl := dp_str h1
      exact ⟨_, rfl, a, _, _, _, rfl, rfl, hT, rfl, _, rfl, rfl, _, rfl, strT rfl ⟨_, rfl, a, _, _, _, rfl, rfl, hT, rfl, q.here⟩⟩
    | name k z =>
      obtain ⟨a, xs, rfl, hT, hx⟩ := dp_tup hd
      obtain ⟨v0, v1, v2, rfl, h0, h1, h2⟩ := dps3 hx
      obtain rfl := dp_str h0
      obtain rfl := dp_str h2
      exact ⟨_, rfl, a, _, _, _, rfl, rfl, hT, rfl, _, rfl, rfl, _, rfl, strF (by decide) ⟨_, rfl, rfl, _, rfl, strT rfl ⟨_, rfl, a, _, _, _, rfl, rfl, hT, rfl, q.here⟩⟩⟩
    | beh r1 r2 =>
      obtain ⟨a, xs, rfl, hT, hx⟩ := dp_tup hd
      obtain ⟨v0, v1, v2, rfl, h0, h1, h2⟩ := dps3 hx
      obtain rfl := dp_str h0
      have hn' : max r1.dep r2.dep + 1 ≤ n + 1 := hn
      have l1 := rd_len r1 n ho.1 (by omega)
      have l2 := rd_len r2 n ho.2 (by omega)
      exact ⟨_, rfl, a, _, _, _, rfl, rfl, hT, rfl, _, rfl, rfl, _, rfl, strF (by decide) ⟨_, rfl, rfl, _, rfl, strF (by decide) ⟨_, rfl, rfl, _, rfl, strT rfl ⟨_, rfl, a, _, _, _, rfl, rfl, hT, rfl, v1, r1, rfl, h1, ho.1, by omega, fun H1 e1 => ⟨_, rfl, a, _, _, _, rfl, rfl, Same.tup e1 hT, rfl, v2, r2, rfl, dpOn h2 e1, ho.2, by omega, fun H2 e2 => ⟨_, _, rfl, rfl, szl (by omega), q.go (e1.trans e2)⟩⟩⟩⟩⟩⟩
    | eit b r1 =>
      obtain ⟨a, xs, rfl, hT, hx⟩ := dp_tup hd
      obtain ⟨v0, v1, v2, rfl, h0, h1, h2⟩ := dps3 hx
      obtain rfl := dp_str h0
      have hn' : r1.dep + 1 ≤ n + 1 := hn
      exact ⟨_, rfl, a, _, _, _, rfl, rfl, hT, rfl, _, rfl, rfl, _, rfl, strF (by decide) ⟨_, rfl, rfl, _, rfl, strF (by decide) ⟨_, rfl, rfl, _, rfl, strF (by decide) ⟨_, rfl, rfl, _, rfl, strT rfl ⟨_, rfl, a, _, _, _, rfl, rfl, hT, rfl, v2, r1, rfl, h2, ho, by omega, q⟩⟩⟩⟩⟩
    | rnd t rs =>
      have hn' : rdsDep rs + 1 ≤ n + 1 := hn
      have l1 := rds_len rs n ho.2 (by omega)
      have h10 : rs.length ≤ 10 := ho.1
      have l2 : rs.length * (6 * 10 ^ n) ≤ 10 * (6 * 10 ^ 4) := Nat.mul_le_mul h10 (by omega)
      cases t with
      | false =>
        obtain ⟨a, xs, rfl, hT, hx⟩ := dp_tup hd
        obtain ⟨v0, v1, rfl, h0, h1⟩ := dps2 hx
        obtain rfl := dp_str h0
        obtain ⟨b, us, rfl, hL, hu⟩ := dp_lst h1
        rw [rdsD_map] at hu
        exact ⟨_, rfl, a, _, _, _, rfl, rfl, hT, rfl, _, rfl, rfl, _, rfl, strF (by decide) ⟨_, rfl, rfl, _, rfl, strF (by decide) ⟨_, rfl, rfl, _, rfl, strF (by decide) ⟨_, rfl, rfl, _, rfl, strF (by decide) ⟨⟨_, rfl⟩, .inl ⟨_, rfl, a, _, _, _, rfl, rfl, hT, rfl, _, rfl, ⟨_, hL⟩, fun D hD => lcmD rs us Rd.d (fun r => V.str r.rd) walk_list hu (by omega) hD (fun H' e => e.seq hL) (fun _ => rfl) (fun r x H2 hm g1 _ Q2 g4 => ⟨_, rfl, x, r, rfl, g1, rdsOk_mem ho.2 hm, (by have := rdsDep_mem hm; omega), g4⟩) fun H2 e2 hD2 => ⟨Str.empty, D, rs.map Rd.rd, rfl, rfl, .inl (sl (by rw [hD2, List.map_map]; rfl)), by rw [rds_sum, seL]; omega, by rw [rds_join]; exact q.go e2⟩⟩⟩⟩⟩⟩⟩
      | true =>
        obtain ⟨a, xs, rfl, hT, hx⟩ := dp_tup hd
        obtain ⟨v0, v1, rfl, h0, h1⟩ := dps2 hx
        obtain rfl := dp_str h0
        obtain ⟨b, us, rfl, hL, hu⟩ := dp_tup h1
        rw [rdsD_map] at hu
        exact ⟨_, rfl, a, _, _, _, rfl, rfl, hT, rfl, _, rfl, rfl, _, rfl, strF (by decide) ⟨_, rfl, rfl, _, rfl, strF (by decide) ⟨_, rfl, rfl, _, rfl, strF (by decide) ⟨_, rfl, rfl, _, rfl, strF (by decide) ⟨⟨_, rfl⟩, .inr ⟨_, rfl, a, _, _, _, rfl, rfl, hT, rfl, _, rfl, ⟨_, hL⟩, fun D hD => lcmD rs us Rd.d (fun r => V.str r.rd) walk_tup hu (by omega) hD (fun H' e => Same.tup e hL) (fun _ => rfl) (fun r x H2 hm g1 _ Q2 g4 => ⟨_, rfl, x, r, rfl, g1, rdsOk_mem ho.2 hm, (by have := rdsDep_mem hm; omega), g4⟩) fun H2 e2 hD2 => ⟨Str.empty, D, rs.map Rd.rd, rfl, rfl, .inl (sl (by rw [hD2, List.map_map]; rfl)), by rw [rds_sum, seL]; omega, by rw [rds_join]; exact q.go e2⟩⟩⟩⟩⟩⟩⟩
def smV (m : Int) : V → Bool
  | .int i => decide (0 ≤ i) && decide (i ≤ m)
  | _ => false
def sp_law_is_small (K : PySem.W.Frag) : Sp := fun vs H Q _ => ∃ v k m, vs = [v, .int m] ∧ Ty K H v k ∧ Ret H Q (.bl (smV m v))
theorem c_law_is_small (T : Txt K mg) : Cal P w K mg base 1 "_law_is_small" ["_law_value", "_law_most"] (sp_law_is_small K) := by
  have S : FnScope ["_law_value", "_law_most"] ["_law_value", "_law_most"] (defScope s_law_is_small) := fsc (by decide +kernel)
  refine Cal.of T.g_law_is_small T.b_law_is_small S (fun vs H Q E h => ?_) fun cdv A outer s H vs Q E hr h => ?_
  · obtain ⟨v, k, m, rfl, _⟩ := h; rfl
  obtain ⟨v, k, m, rfl, ty, q⟩ := h
  refine ⟨_, pss_one (ps_ret (pe_and (pe_is T.zisinstance T.zint (by decide +kernel) kit_int (pv 0)) (pe_and (pe_not (pe_is T.zisinstance T.zbool (by decide +kernel) kit_bool (pv 0))) (pe_one (pe_chain op_le op_le pe_int (pv 0) (pv 1)))))), ?_⟩
  have no : k ≠ .int → smV m v = false := fun c => by
    cases v with
    | int i => exact absurd (not_int ty) c
    | _ => rfl
  refine ⟨v, rfl, v, k, rfl, ty, _, rfl, ite2 (fun c => ⟨v, rfl, v, k, rfl, ty, _, rfl, _, rfl, ite2 (fun c2 => ?_) fun c2 => ?_⟩) fun c => ?_⟩
  · have ek : k = .int := by cases k <;> simp at c c2 ⊢
    subst ek
    obtain ⟨i, rfl⟩ := int_of ty
    refine ⟨_, rfl, _, _, rfl, rfl, _, rfl, ?_⟩
    by_cases hi : 0 ≤ i
    · refine ifT (decide_eq_true hi) ⟨_, rfl, _, _, rfl, rfl, ?_⟩
      have e : smV m (.int i) = decide (i ≤ m) := by
        show (decide (0 ≤ i) && decide (i ≤ m)) = _
        rw [decide_eq_true hi]; rfl
      rw [e] at q
      exact q.here
    · refine ifF (decide_eq_false hi) ?_
      have e : smV m (.int i) = false := by
        show (decide (0 ≤ i) && decide (i ≤ m)) = _
        rw [decide_eq_false hi]; rfl
      rw [e] at q
      exact q.here
  · rw [no (fun z => by rw [z] at c2; exact c2 rfl)] at q
    exact q.here
  · rw [no (fun z => by rw [z] at c; exact c rfl)] at q
    exact q.here
end
end K44
end
section
set_option maxHeartbeats 4000000
namespace K44
open PySem PySem.Spec PyProof.Rows L2 LamX NdefX
/-! ### the law's own look at a value -/
def headOf (k : Str) : PyData → Option (List PyData)
  | .tuple (.str k' :: x :: r) => if k' = k then some (x :: r) else none
  | _ => none
def strIs (s : Str) : PyData → Bool
  | .str z => decide (z = s)
  | _ => false
def nmIs (n : Nat) : PyData → Bool
  | .int i => decide (i = n)
  | _ => false
def pieceD (fl : List (List Str)) (n : Nat) : PyData → Bool
  | .str z => decide (z ∈ fl.getD n [])
  | _ => false
def sideOf (a b : Bool) : PyData → Bool
  | .int i => if i = 0 then a else if i = 1 then b else false
  | _ => false
def lawOf (fl : List (List Str)) : Pat → PyData → Bool
  | .word s, d => match headOf "word" d with
    | some [x] => strIs s x
    | _ => false
  | .name n, d => match headOf "name" d with
    | some [x, y] => nmIs n x && pieceD fl n y
    | _ => false
  | .beh p q, d => match headOf "behind" d with
    | some [x, y] => lawOf fl p x && lawOf fl q y
    | _ => false
  | .eit p q, d => match headOf "either" d with
    | some [x, y] => sideOf (lawOf fl p y) (lawOf fl q y) x
    | _ => false
  | .rnd p, d => match headOf "round" d with
    | some [x] => (match itemsD x with
      | some xs => (xs.map (lawOf fl p)).all id
      | none => false)
    | _ => false
def isStr : PyData → Bool
  | .str _ => true
  | _ => false
def kids (y : PyData) : List PyData := (itemsD y).getD []
/-- what is looked at: first a kind; behind word a text; n deep -/
def tame : Nat → PyData → Bool
  | n + 1, .tuple (.str k :: y :: r) => (if k = "word" then isStr y else if k = "round" then (kids y).all (tame n) else tame n y) && r.all (tame n)
  | _ + 1, .tuple (_ :: _ :: _) => false
  | _, _ => true
theorem lawOf_no {fl : List (List Str)} {p : Pat} {d : PyData} (h : headOf p.kind d = none) : lawOf fl p d = false := by
  cases p <;> (simp only [Pat.kind] at h; rw [lawOf, h])
theorem headOf_some {k : Str} {x : PyData} {r : List PyData} : headOf k (.tuple (.str k :: x :: r)) = some (x :: r) := if_pos rfl
def spPiece (K : PySem.W.Frag) (fl : List (List Str)) : Sp := fun vs H Q _ => ∃ (n : Nat) (u : V) (d : PyData), vs = [.int n, u] ∧ n < 2 ∧ Dp K H u d ∧ Ret H Q (.bl (pieceD fl n d))
section
variable {P : Program} {w : World} {K : PySem.W.Frag} {mg : Str → Option Value} {base : Heap}
def sp_law_is_of (P : Program) (w : World) (K : PySem.W.Frag) (mg : Str → Option Value) (base : Heap) (n : Nat) : Sp := fun vs H Q _ => ∃ (v u : V) (f : Addr) (G : Hp → Prop) (fl : List (List Str)) (L : Nat) (p : Pat) (d : PyData),
  vs = [v, u, .ref f] ∧ Dp K H v p.d ∧ Dp K H u d ∧ small d = true ∧ tame n d = true ∧ p.good L ∧ p.dep ≤ n ∧ FnAs P w K mg base 1 f G (spPiece K fl) ∧ (∀ H H', Same H H' → G H → G H') ∧ G H ∧ Ret H Q (.bl (lawOf fl p d))
theorem c_law_is_of (T : Txt K mg) : ∀ n : Nat, n ≤ 5 → Cal P w K mg base (n + 1) "_law_is_of" ["_law_pattern_here", "_law_value", "_law_pieces"] (sp_law_is_of P w K mg base n)
  | 0, _ => Cal.none_ T.g_law_is_of T.b_law_is_of fun vs H Q E ⟨v, u, f, G, fl, L, p, d, _, _, _, _, _, _, h, _⟩ => by have := pdep_pos p; omega
  | n + 1, h5 => by
    have S : FnScope ["_law_pattern_here", "_law_value", "_law_pieces", "_law_kind", "_law_one"] ["_law_pattern_here", "_law_value", "_law_pieces"] (defScope s_law_is_of) := fsc (by decide +kernel)
    refine Cal.of T.g_law_is_of T.b_law_is_of S (fun vs H Q E h => ?_) fun cdv A outer s H vs Q E hr h => ?_
    · obtain ⟨v, u, f, G, fl, L, p, d, rfl, _⟩ := h; rfl
    obtain ⟨v, u, f, G, fl, L, p, d, rfl, hp, hd, hs, ht, hg, hn, F, st1, g1_, q⟩ := h
    have C := c_law_is_of T n (by omega)
    refine ⟨_, (pss_cons (ps_set (i := 3) S.nd rfl (.inl rfl) (pe_ix ix_tup (pv 0) pe_int (fun _ _ => rfl)))
    (pss_cons (ps_if (PW.pt (pw_or (pt_not (pt_val (pe_is T.zisinstance T.ztuple (by decide +kernel) kit_tuple (pv 1)))) (pw_or (pt_cmpR op_lt (pe_callB call_len_seq rfl T.zlen boot_len (pa_cons (pv 1) pa_nil)) pe_int rfl) (pw_or1 (pt_cmpR op_ne (pe_ix ix_tup (pv 1) pe_int (fun _ _ => rfl)) (pv 3) (nomark _)))))) (pss_one (ps_ret pe_bl)) pss_nil)
    (pss_cons (ps_if (pt_cmpR op_eq (pv 3) pe_str (nomark _)) (pss_one (ps_ret (pe_and (pe_cmpR op_eq (pe_callB call_len_seq rfl T.zlen boot_len (pa_cons (pv 1) pa_nil)) pe_int (nomark _)) (pe_one (pe_cmpR op_eq (pe_ix ix_tup (pv 1) pe_int (fun _ _ => rfl)) (pe_ix ix_tup (pv 0) pe_int (fun _ _ => rfl)) (nomark _)))))) pss_nil)
    (pss_cons (ps_if (pt_cmpR op_eq (pv 3) pe_str (nomark _)) (pss_one (ps_ret (pe_and (pe_cmpR op_eq (pe_callB call_len_seq rfl T.zlen boot_len (pa_cons (pv 1) pa_nil)) pe_int (nomark _)) (pe_and (pc (c_law_is_small T) hr (pa_cons (pe_ix ix_tup (pv 1) pe_int (fun _ _ => rfl)) (pa_cons (pe_int) pa_nil)) (by omega)) (pe_and (pe_cmpR op_eq (pe_ix ix_tup (pv 1) pe_int (fun _ _ => rfl)) (pe_ix ix_tup (pv 0) pe_int (fun _ _ => rfl)) (nomark _)) (pe_one (pe_fnAs (i := 2) F hr (pa_cons (pe_ix ix_tup (pv 1) pe_int (fun _ _ => rfl)) (pa_cons (pe_ix ix_tup (pv 1) pe_int (fun _ _ => rfl)) pa_nil)) rfl (.inr (.inl rfl)) (by omega)))))))) pss_nil)
    (pss_cons (ps_if (pt_cmpR op_eq (pv 3) pe_str (nomark _)) (pss_one (ps_ret (pe_and (pe_cmpR op_eq (pe_callB call_len_seq rfl T.zlen boot_len (pa_cons (pv 1) pa_nil)) pe_int (nomark _)) (pe_and (pc C hr (pa_cons (pe_ix ix_tup (pv 0) pe_int (fun _ _ => rfl)) (pa_cons (pe_ix ix_tup (pv 1) pe_int (fun _ _ => rfl)) (pa_cons (pv 2) pa_nil))) (Nat.le_refl _)) (pe_one (pc C hr (pa_cons (pe_ix ix_tup (pv 0) pe_int (fun _ _ => rfl)) (pa_cons (pe_ix ix_tup (pv 1) pe_int (fun _ _ => rfl)) (pa_cons (pv 2) pa_nil))) (Nat.le_refl _))))))) pss_nil)
    (pss_cons (ps_if (pt_cmpR op_eq (pv 3) pe_str (nomark _)) (pss_one (ps_ret (pe_and (pe_cmpR op_eq (pe_callB call_len_seq rfl T.zlen boot_len (pa_cons (pv 1) pa_nil)) pe_int (nomark _)) (pe_and (pc (c_law_is_small T) hr (pa_cons (pe_ix ix_tup (pv 1) pe_int (fun _ _ => rfl)) (pa_cons (pe_int) pa_nil)) (by omega)) (pe_one (pc C hr (pa_cons (pe_ix ix_tup (pv 0) (pe_op op_add pe_int (pe_ix ix_tup (pv 1) pe_int (fun _ _ => rfl))) (fun _ _ => rfl)) (pa_cons (pe_ix ix_tup (pv 1) pe_int (fun _ _ => rfl)) (pa_cons (pv 2) pa_nil))) (Nat.le_refl _))))))) pss_nil)
    (pss_cons (ps_if (PW.pt (pw_or (pt_cmpR op_ne (pe_callB call_len_seq rfl T.zlen boot_len (pa_cons (pv 1) pa_nil)) pe_int (nomark _)) (pw_or1 (pt_not (pt_val (pe_callB call_is2 rfl T.zisinstance (by decide +kernel) (pa_cons (pe_ix ix_tup (pv 1) pe_int (fun _ _ => rfl)) (pa_cons (pe_tup (pa_cons (pe_bltn (v := .ty "list") rfl T.zlist (by decide +kernel) rfl) (pa_cons (pe_bltn (v := .ty "tuple") rfl T.ztuple (by decide +kernel) rfl) pa_nil))) pa_nil)))))))) (pss_one (ps_ret pe_bl)) pss_nil)
    (pss_one (ps_ret (pe_callB (cr_all rfl) rfl T.zall (by decide +kernel) (pa_cons (pe_lc (own := [("_law_one", 4)]) (g := gName 4) (tt := tYes) rfl S.nd (PI.or (pi_list (pe_ix ix_tup (pv 1) pe_int (fun _ _ => rfl))) (pi_tup (pe_ix ix_tup (pv 1) pe_int (fun _ _ => rfl)))) (blkOk_by (N := ["_law_pattern_here", "_law_value", "_law_pieces", "_law_kind", "_law_one"]) (sc := defScope s_law_is_of) (by decide +kernel)) (fun _ _ _ _ _ => pg_name (i := 4) S.nd rfl (Or.inl rfl)) (fun _ _ _ _ _ => pts_nil)
        (fun _ _ _ _ _ => pc C hr (pa_cons (pe_ix (ix_tupK (K := K)) (pv 0) pe_int (fun _ _ => rfl)) (pa_cons (pv 4) (pa_cons (pv 2) pa_nil))) (Nat.le_refl _))) pa_nil))))))))))), ?_⟩
    obtain ⟨a, xs, rfl, hT, hk⟩ := pat_top hp
    have hty := ty_of hd
    have no : lawOf fl p d = false → Q (.bl false) H := fun h => by rw [h] at q; exact q.here
    refine ⟨_, rfl, a, _, _, _, rfl, rfl, hT, hk, _, rfl, u, knd d, rfl, hty, _, rfl, ?_⟩
    cases d with
    | dict _ => cases hd
    | none => exact iteT (no (lawOf_no rfl))
    | bool _ => exact iteT (no (lawOf_no rfl))
    | int _ => exact iteT (no (lawOf_no rfl))
    | str _ => exact iteT (no (lawOf_no rfl))
    | list _ => exact iteT (no (lawOf_no rfl))
    | tuple ds =>
    obtain ⟨b, us, rfl, hS, hus⟩ := dp_tup hd
    refine iteF ⟨_, rfl, b, us, rfl, .inr hS, _, _, rfl, rfl, _, rfl, ?_⟩
    cases hus with
    | nil => exact iteT (no (lawOf_no rfl))
    | cons h0 hus =>
    cases hus with
    | nil => exact iteT (no (lawOf_no (by rename_i x; cases x <;> rfl)))
    | cons h1 hus =>
    rename_i v0 x v1 us y ds
    have hs2 := hs
    rw [small, Bool.and_eq_true] at hs2
    have hy := smalls_mem hs2.2 (d := y) (by simp)
    obtain ⟨k, rfl⟩ : ∃ k, x = .str k := by
      cases x <;> first | exact ⟨_, rfl⟩ | exact absurd ht Bool.false_ne_true
    obtain ⟨hA, hB⟩ : (if k = "word" then isStr y else if k = "round" then (kids y).all (tame n) else tame n y) = true ∧ ds.all (tame n) = true := Bool.and_eq_true_iff.mp ht
    obtain rfl := dp_str h0
    refine ifF (decide_eq_false (by simp only [List.length_cons]; omega)) ⟨_, rfl, b, _, _, _, rfl, rfl, hS, atI_nat (j := 0) rfl, _, rfl, rfl, _, rfl, ?_⟩
    by_cases ek : k = p.kind
    case neg => exact nstrT ek (no (lawOf_no (if_neg ek)))
    subst ek
    refine nstrF rfl ?_
    cases p with
    | word z =>
      obtain ⟨a', xs', e, hT', hx⟩ := dp_tup hp
      cases e
      obtain ⟨w0, w1, rfl, g0, g1⟩ := dps2 hx
      obtain rfl := dp_str g1
      refine ⟨_, rfl, rfl, _, rfl, strT rfl ⟨_, rfl, b, _, rfl, .inr hS, rfl, _, rfl, ?_⟩⟩
      cases hus with
      | nil =>
        obtain ⟨z2, rfl⟩ : ∃ z2, y = .str z2 := by
          rw [if_pos (show (Pat.word z).kind = "word" from rfl)] at hA
          cases y <;> first | exact ⟨_, rfl⟩ | exact absurd hA Bool.false_ne_true
        obtain rfl := dp_str h1
        refine intT rfl ⟨_, rfl, b, _, _, _, rfl, rfl, hS, rfl, _, rfl, a, _, _, _, rfl, rfl, hT', rfl, rfl, ?_⟩
        rw [dsV]
        exact q.here
      | cons _ _ => exact intF (by simp only [List.length_cons]; omega) (no (by rw [lawOf, Pat.kind, headOf_some]))
    | name nm =>
      obtain ⟨a', xs', e, hT', hx⟩ := dp_tup hp
      cases e
      obtain ⟨w0, w1, rfl, g0, g1⟩ := dps2 hx
      obtain rfl := dp_int g1
      have hnm : nm < 2 := hg
      refine ⟨_, rfl, rfl, _, rfl, strF (by simp only [Pat.kind]; decide) ⟨_, rfl, rfl, _, rfl, strT rfl ⟨_, rfl, b, _, rfl, .inr hS, rfl, _, rfl, ?_⟩⟩⟩
      cases hus with
      | nil => exact intF (by simp) (no (by rw [lawOf, Pat.kind, headOf_some]))
      | cons h2 hus =>
      cases hus with
      | cons _ _ => exact intF (by simp only [List.length_cons]; omega) (no (by rw [lawOf, Pat.kind, headOf_some]))
      | nil =>
      rename_i v2 z
      have el : lawOf fl (.name nm) (.tuple [.str (Pat.name nm).kind, y, z]) = (nmIs nm y && pieceD fl nm z) := by rw [lawOf, Pat.kind, headOf_some]
      refine intT rfl ⟨_, rfl, b, _, _, _, rfl, rfl, hS, rfl, v1, knd y, 2, rfl, ty_of h1, fun H1 e1 => ⟨_, rfl, ?_⟩⟩
      have hS1 := Same.tup e1 hS
      have no1 : lawOf fl (.name nm) (.tuple [.str (Pat.name nm).kind, y, z]) = false → Q (.bl false) H1 := fun h => by rw [h] at q; exact q.go e1
      have esm : smV 2 v1 = nmD y := by cases h1 <;> rfl
      rw [esm]
      cases hb : nmD y with
      | false =>
        refine iteF (no1 ?_)
        rw [el]
        have : nmIs nm y = false := by
          cases y with
          | int i =>
            refine decide_eq_false fun z => ?_
            have hb' : (decide (0 ≤ i) && decide (i ≤ 2)) = false := hb
            rw [z, decide_eq_true (by omega), decide_eq_true (by omega)] at hb'
            cases hb'
          | _ => rfl
        rw [this]; rfl
      | true =>
      obtain ⟨m, rfl, hm⟩ := nmD_inv hb
      obtain rfl := dp_int h1
      refine iteT ⟨_, rfl, b, _, _, _, rfl, rfl, hS1, rfl, _, rfl, a, _, _, _, rfl, rfl, Same.tup e1 hT', rfl, rfl, _, rfl, ?_⟩
      by_cases hmn : (m : Int) = nm
      · obtain rfl : m = nm := by omega
        have e2 : nmIs m (.int m) = true := decide_eq_true rfl
        rw [el, e2, Bool.true_and] at q
        exact intT rfl ⟨rfl, st1 _ _ e1 g1_, _, rfl, b, _, _, _, rfl, rfl, hS1, rfl, _, rfl, b, _, _, _, rfl, rfl, hS1, rfl, st1 _ _ e1 g1_, m, v2, z, rfl, hnm, dpOn h2 e1, q.on e1⟩
      · have e2 : nmIs nm (.int m) = false := decide_eq_false hmn
        exact intF hmn (no1 (by rw [el, e2]; rfl))
    | beh p1 p2 =>
      obtain ⟨a', xs', e, hT', hx⟩ := dp_tup hp
      cases e
      obtain ⟨w0, w1, w2, rfl, i0, i1, i2⟩ := dps3 hx
      have hn' : max p1.dep p2.dep + 1 ≤ n + 1 := hn
      refine ⟨_, rfl, rfl, _, rfl, strF (by simp only [Pat.kind]; decide) ⟨_, rfl, rfl, _, rfl, strF (by simp only [Pat.kind]; decide) ⟨_, rfl, rfl, _, rfl, strT rfl ⟨_, rfl, b, _, rfl, .inr hS, rfl, _, rfl, ?_⟩⟩⟩⟩
      cases hus with
      | nil => exact intF (by simp) (no (by rw [lawOf, Pat.kind, headOf_some]))
      | cons h2 hus =>
      cases hus with
      | cons _ _ => exact intF (by simp only [List.length_cons]; omega) (no (by rw [lawOf, Pat.kind, headOf_some]))
      | nil =>
      rename_i v2 z
      have hz := smalls_mem hs2.2 (d := z) (by simp)
      have tz : tame n z = true := List.all_eq_true.mp hB z (by simp)
      rw [if_neg (by simp only [Pat.kind]; decide), if_neg (by simp only [Pat.kind]; decide)] at hA
      have el : lawOf fl (.beh p1 p2) (.tuple [.str (Pat.beh p1 p2).kind, y, z]) = (lawOf fl p1 y && lawOf fl p2 z) := by rw [lawOf, Pat.kind, headOf_some]
      rw [el] at q
      refine intT rfl ⟨_, rfl, a, _, _, _, rfl, rfl, hT', rfl, _, rfl, b, _, _, _, rfl, rfl, hS, rfl, _, rfl, w1, v1, f, G, fl, L, p1, y, rfl, i1, h1, hy, hA, hg.1, by omega, F, st1, g1_, fun H1 e1 => ⟨_, rfl, ?_⟩⟩
      cases hb : lawOf fl p1 y with
      | false => rw [hb] at q; exact iteF (q.go e1)
      | true =>
        rw [hb, Bool.true_and] at q
        exact iteT ⟨_, rfl, a, _, _, _, rfl, rfl, Same.tup e1 hT', rfl, _, rfl, b, _, _, _, rfl, rfl, Same.tup e1 hS, rfl, _, rfl, w2, v2, f, G, fl, L, p2, z, rfl, dpOn i2 e1, dpOn h2 e1, hz, tz, hg.2, by omega, F, st1, st1 _ _ e1 g1_, q.on e1⟩
    | eit p1 p2 =>
      obtain ⟨a', xs', e, hT', hx⟩ := dp_tup hp
      cases e
      obtain ⟨w0, w1, w2, rfl, i0, i1, i2⟩ := dps3 hx
      have hn' : max p1.dep p2.dep + 1 ≤ n + 1 := hn
      refine ⟨_, rfl, rfl, _, rfl, strF (by simp only [Pat.kind]; decide) ⟨_, rfl, rfl, _, rfl, strF (by simp only [Pat.kind]; decide) ⟨_, rfl, rfl, _, rfl, strF (by simp only [Pat.kind]; decide) ⟨_, rfl, rfl, _, rfl, strT rfl ⟨_, rfl, b, _, rfl, .inr hS, rfl, _, rfl, ?_⟩⟩⟩⟩⟩
      cases hus with
      | nil => exact intF (by simp) (no (by rw [lawOf, Pat.kind, headOf_some]))
      | cons h2 hus =>
      cases hus with
      | cons _ _ => exact intF (by simp only [List.length_cons]; omega) (no (by rw [lawOf, Pat.kind, headOf_some]))
      | nil =>
      rename_i v2 z
      have hz := smalls_mem hs2.2 (d := z) (by simp)
      have tz : tame n z = true := List.all_eq_true.mp hB z (by simp)
      rw [if_neg (by simp only [Pat.kind]; decide), if_neg (by simp only [Pat.kind]; decide)] at hA
      have el : lawOf fl (.eit p1 p2) (.tuple [.str (Pat.eit p1 p2).kind, y, z]) = sideOf (lawOf fl p1 z) (lawOf fl p2 z) y := by rw [lawOf, Pat.kind, headOf_some]
      refine intT rfl ⟨_, rfl, b, _, _, _, rfl, rfl, hS, rfl, v1, knd y, 1, rfl, ty_of h1, fun H1 e1 => ⟨_, rfl, ?_⟩⟩
      have hS1 := Same.tup e1 hS
      have hT1 := Same.tup e1 hT'
      have esm : smV 1 v1 = sdD y := by
        cases h1 with
        | int i =>
          show (decide (0 ≤ i) && decide (i ≤ 1)) = (decide (0 ≤ i) && decide (i < 2))
          rw [show decide (i ≤ 1) = decide (i < 2) from decide_eq_decide.mpr (by omega)]
        | _ => rfl
      rw [esm]
      rw [el] at q
      cases hb : sdD y with
      | false =>
        have : sideOf (lawOf fl p1 z) (lawOf fl p2 z) y = false := by
          cases y with
          | int i =>
            have hb' : (decide (0 ≤ i) && decide (i < 2)) = false := hb
            have h3 : i ≠ 0 := fun e => by rw [e] at hb'; cases hb'
            have h4 : i ≠ 1 := fun e => by rw [e] at hb'; cases hb'
            rw [sideOf, if_neg h3, if_neg h4]
          | _ => rfl
        rw [this] at q
        exact iteF (q.go e1)
      | true =>
      obtain ⟨c, rfl⟩ := sdD_inv hb
      obtain rfl := dp_int h1
      cases c with
      | false => exact iteT ⟨_, rfl, _, rfl, b, _, _, _, rfl, rfl, hS1, rfl, _, _, rfl, rfl, a, _, _, w1, rfl, rfl, hT1, rfl, _, rfl, b, _, _, _, rfl, rfl, hS1, rfl, _, rfl, w1, v2, f, G, fl, L, p1, z, rfl, dpOn i1 e1, dpOn h2 e1, hz, tz, hg.1, by omega, F, st1, st1 _ _ e1 g1_, q.on e1⟩
      | true => exact iteT ⟨_, rfl, _, rfl, b, _, _, _, rfl, rfl, hS1, rfl, _, _, rfl, rfl, a, _, _, w2, rfl, rfl, hT1, rfl, _, rfl, b, _, _, _, rfl, rfl, hS1, rfl, _, rfl, w2, v2, f, G, fl, L, p2, z, rfl, dpOn i2 e1, dpOn h2 e1, hz, tz, hg.2, by omega, F, st1, st1 _ _ e1 g1_, q.on e1⟩
    | rnd p1 =>
      obtain ⟨a', xs', e, hT', hx⟩ := dp_tup hp
      cases e
      obtain ⟨w0, w1, rfl, i0, i1⟩ := dps2 hx
      have hn' : p1.dep + 1 ≤ n + 1 := hn
      refine ⟨_, rfl, rfl, _, rfl, strF (by simp only [Pat.kind]; decide) ⟨_, rfl, rfl, _, rfl, strF (by simp only [Pat.kind]; decide) ⟨_, rfl, rfl, _, rfl, strF (by simp only [Pat.kind]; decide) ⟨_, rfl, rfl, _, rfl, strF (by simp only [Pat.kind]; decide) ⟨_, rfl, b, _, rfl, .inr hS, rfl, _, rfl, ?_⟩⟩⟩⟩⟩
      cases hus with
      | cons _ _ => exact ifT (by rw [dInt, decide_eq_false (by simp only [List.length_cons]; omega)]; rfl) (no (by rw [lawOf, Pat.kind, headOf_some]))
      | nil =>
      have el : lawOf fl (.rnd p1) (.tuple [.str (Pat.rnd p1).kind, y]) = (match itemsD y with
        | some xs => (xs.map (lawOf fl p1)).all id
        | none => false) := by rw [lawOf, Pat.kind, headOf_some]
      rw [el] at q
      refine ifF (by rfl) ⟨_, rfl, b, _, _, _, rfl, rfl, hS, rfl, le2, fun t ht2 => ⟨_, t, knd y, rfl, upd_same, ty_on (ty_of h1) (same_new ht2 _), _, rfl, ?_⟩⟩
      have e1 := same_new ht2 (.tup [.ty "list", .ty "tuple"])
      rw [if_neg (by simp only [Pat.kind]; decide), if_pos (show (Pat.rnd p1).kind = "round" from rfl)] at hA
      have hS1 := Same.tup e1 hS
      have hT1 := Same.tup e1 hT'
      have fin : ∀ (xs : List PyData) (D : Addr) (H2 : Hp), Ret H Q (.bl ((xs.map (lawOf fl p1)).all id)) → Same (upd H t (.tup [.ty "list", .ty "tuple"])) H2 → H2 D = some (.lst (xs.map fun r => V.bl (lawOf fl p1 r))) → rAll K [.ref D] H2 Q := fun xs D H2 q2 e2 hD => ⟨D, xs.map (lawOf fl p1), rfl, sl (by rw [hD, List.map_map]; rfl), q2.go (e1.trans e2)⟩
      cases y with
      | list ds =>
        obtain ⟨c, us, rfl, hL, hu⟩ := dp_lst h1
        rw [← List.map_id ds] at hu
        rw [small, Bool.and_eq_true] at hy
        have h10 : ds.length ≤ 10 := of_decide_eq_true hy.1
        refine iteF (.inl ⟨_, rfl, b, _, _, _, rfl, rfl, hS1, rfl, c, rfl, ⟨_, e1.seq hL⟩, fun D hD => lcmD ds us id (fun r => V.bl (lawOf fl p1 r)) walk_list (dpsOn hu e1) (by omega) hD (fun H' e' => e'.seq (e1.seq hL)) (fun _ => rfl) (fun r x H2 hm hx2 e2 Q2 q2 => ?_) fun H2 e2 hD2 => fin ds D H2 q e2 hD2⟩)
        exact ⟨_, rfl, a, _, _, _, rfl, rfl, Same.tup e2 hT1, rfl, _, rfl, _, rfl, w1, x, f, G, fl, L, p1, r, rfl, dpOn i1 (e1.trans e2), hx2, smalls_mem hy.2 hm, List.all_eq_true.mp hA r hm, hg, by omega, F, st1, st1 _ _ (e1.trans e2) g1_, q2⟩
      | tuple ds =>
        obtain ⟨c, us, rfl, hL, hu⟩ := dp_tup h1
        rw [← List.map_id ds] at hu
        rw [small, Bool.and_eq_true] at hy
        have h10 : ds.length ≤ 10 := of_decide_eq_true hy.1
        refine iteF (.inr ⟨_, rfl, b, _, _, _, rfl, rfl, hS1, rfl, c, rfl, ⟨_, Same.tup e1 hL⟩, fun D hD => lcmD ds us id (fun r => V.bl (lawOf fl p1 r)) walk_tup (dpsOn hu e1) (by omega) hD (fun H' e' => Same.tup e' (Same.tup e1 hL)) (fun _ => rfl) (fun r x H2 hm hx2 e2 Q2 q2 => ?_) fun H2 e2 hD2 => fin ds D H2 q e2 hD2⟩)
        exact ⟨_, rfl, a, _, _, _, rfl, rfl, Same.tup e2 hT1, rfl, _, rfl, _, rfl, w1, x, f, G, fl, L, p1, r, rfl, dpOn i1 (e1.trans e2), hx2, smalls_mem hy.2 hm, List.all_eq_true.mp hA r hm, hg, by omega, F, st1, st1 _ _ (e1.trans e2) g1_, q2⟩
      | dict _ => cases h1
      | _ => exact iteT (q.go e1)
end
end K44
end
section
set_option maxHeartbeats 4000000
namespace K44
open PySem PySem.Spec PyProof.Rows L2 LamX NdefX
section
variable {P : Program} {w : World} {K : PySem.W.Frag} {mg : Str → Option Value} {base : Heap}
def sp_of_words (K : PySem.W.Frag) : Sp := fun vs H Q _ => ∃ (L : Nat) (v : V) (zs : List Str), vs = [.int L, v] ∧ Dp K H v (.list (zs.map PyData.str)) ∧ zs.length ≤ 20 ∧ (∀ z ∈ zs, z.length ≤ 2 ∧ ∀ c ∈ z.cps.toList, c ∈ sgs L) ∧ 1 ≤ L ∧ L ≤ 3 ∧ Tb K H ∧
  RetM K H Q L fun u => u ∈ zs.map idx
theorem wOK_word {L : Nat} {z : Str} (h : z.length ≤ 2) (hc : ∀ c ∈ z.cps.toList, c ∈ sgs L) : wOK L (.str z) = true := by
  unfold wOK
  rw [Bool.and_eq_true, decide_eq_true_iff, List.all_eq_true]
  exact ⟨by omega, fun c h => decide_eq_true (hc c h)⟩
theorem c_of_words (T : Txt K mg) (TH : TabH K mg base) : Cal P w K mg base 9 "of_words" ["letters", "words"] (sp_of_words K) := by
  have S : FnScope ["letters", "words", "word"] ["letters", "words"] (defScope s_of_words) := fsc (by decide +kernel)
  refine Cal.of T.g_of_words T.b_of_words S (fun vs H Q E h => ?_) fun cdv A outer s H vs Q E hr h => ?_
  · obtain ⟨L, v, zs, rfl, _⟩ := h; rfl
  obtain ⟨L, v, zs, rfl, hd, hn, hz, hL1, hL, htb, q⟩ := h
  refine ⟨_, (pss_cons (ps_expr (pc (c_want_letters T) hr (pa_cons (pv 0) pa_nil)))
    (pss_cons (ps_if (PW.pt (pw_or (pt_not (pt_val (pc (c_is_list T) hr (pa_cons (pv 1) pa_nil)))) (pw_or (pt_cmpR op_gt (pe_callB call_len_seq rfl T.zlen boot_len (pa_cons (pv 1) pa_nil)) (pgl T.iMOST_WORDS) (nomark _))
      (pw_or1 (pt_not (pt_val (pe_callB (cr_all rfl) rfl T.zall (by decide +kernel) (pa_cons (pe_lc (own := [("word", 2)]) (g := gName 2) (tt := tYes) rfl S.nd (pi_list (pv 1)) (blkOk_by (N := ["letters", "words", "word"]) (sc := defScope s_of_words) (by decide +kernel))
        (fun _ _ _ _ _ => pg_name (i := 2) S.nd rfl (Or.inl rfl)) (fun _ _ _ _ _ => pts_nil) (fun _ _ _ _ _ => pc (c_is_word_of T) hr (pa_cons (pv 0) (pa_cons (pv 2) pa_nil)))) pa_nil)))))))) pss_never pss_nil)
    (pss_one (ps_ret (pc (c_words_machine T TH) hr (pa_cons (pv 0) (pa_cons (pv 1) pa_nil))))))), ?_⟩
  obtain ⟨b, ys, rfl, hbL, hy⟩ := dp_lst hd
  have hyl : ys.length = zs.length := by rw [dpsLen hy, List.length_map]
  refine ⟨_, rfl, L, rfl, by omega, by omega, fun H1 e1 => ⟨_, rfl, .ref b, .lst, rfl, ty_lst (e1.seq hbL), fun H2 e2 => ⟨_, rfl, iteF ⟨_, rfl, b, ys, rfl, .inl ((e1.trans e2).seq hbL), _, _, rfl, rfl, _, rfl, ?_⟩⟩⟩⟩
  have e12 := e1.trans e2
  refine ifF (decide_eq_false (by omega)) ⟨_, rfl, b, rfl, ⟨_, e12.seq hbL⟩, fun D hD => lcmD zs ys PyData.str (fun z => V.bl (wOK L (.str z))) walk_list (dpsOn hy e12) (by omega) hD (fun H' e' => e'.seq (e12.seq hbL)) (fun _ => rfl) (fun z x H3 hm hx e3 Q3 q3 => ?_) fun H3 e3 hD3 => ?_⟩
  · obtain rfl := dp_str hx
    exact ⟨_, rfl, _, rfl, L, .str z, .str, rfl, hL, .base (.str z), fun s e => by cases e; have := (hz z hm).1; omega, q3⟩
  · have e4 : Same H1 H3 := e2.trans e3
    refine ⟨D, zs.map fun z => wOK L (.str z), rfl, sl (by rw [hD3, List.map_map]; rfl), _, rfl, ?_⟩
    have ha : (zs.map fun z => wOK L (.str z)).all id = true := by
      rw [List.all_map, List.all_eq_true]
      exact fun z hm => wOK_word (hz z hm).1 (hz z hm).2
    rw [ha]
    refine iteF ⟨_, rfl, _, rfl, L, .ref b, zs, rfl, .lst ((e1.trans e4).seq hbL) (dpsOn hy (e1.trans e4)), by omega, hz, hL1, hL, TabsN.ext htb (e1.trans e4), q.on (ExtN.of_same (e1.trans e4))⟩
end
end K44
end
section
set_option maxHeartbeats 4000000
/-! The law's own look and the readings. -/
namespace K44
open PySem
theorem headOf_inv {k : Str} {d : PyData} {x : PyData} {r : List PyData} (h : headOf k d = some (x :: r)) : d = .tuple (.str k :: x :: r) := by
  unfold headOf at h
  split at h
  · split at h
    · rename_i e
      cases h
      rw [e]
    · cases h
  · cases h
theorem sgs3 {L c : Nat} (hL : L ≤ 3) (h : c ∈ sgs L) : c ∈ sgs 3 := by
  have := List.mem_of_mem_take h
  exact this
theorem small2 {k x y : PyData} (h : small (.tuple [k, x, y]) = true) : small x = true ∧ small y = true := by
  rw [small, Bool.and_eq_true] at h
  exact ⟨smalls_mem h.2 (by simp), smalls_mem h.2 (by simp)⟩
theorem law_mk {L : Nat} {fl : List (List Str)} (hL : L ≤ 3) (hfl : ∀ zs ∈ fl, ∀ z ∈ zs, z.length ≤ 2 ∧ ∀ c ∈ z.cps.toList, c ∈ sgs L) : ∀ (p : Pat) (d : PyData), p.good L → small d = true → lawOf fl p d = true → ∃ r : Rd, d = r.d ∧ Reads0 L fl p r
  | .word s, d, hg, hs, h => by
    rw [lawOf] at h
    split at h
    · rename_i x e
      obtain rfl := headOf_inv e
      cases x with
      | str z =>
        obtain rfl : z = s := of_decide_eq_true h
        have h1 : z.length ≤ 2 := hg.1
        exact ⟨.word z, rfl, ⟨by omega, fun c hc => sgs3 hL (hg.2 c hc)⟩, decide_eq_true rfl, hg.2, fun x hx => by cases hx⟩
      | _ => cases h
    · cases h
  | .name n, d, hg, hs, h => by
    rw [lawOf] at h
    split at h
    · rename_i x y e
      obtain rfl := headOf_inv e
      rw [Bool.and_eq_true] at h
      cases x with
      | int i =>
        have e1 : i = (n : Int) := of_decide_eq_true h.1
        cases y with
        | str z =>
          have e2 : z ∈ fl.getD n [] := of_decide_eq_true h.2
          have hn : n < 2 := hg
          have hz : z.length ≤ 2 ∧ ∀ c ∈ z.cps.toList, c ∈ sgs L := by
            rw [List.getD_eq_getElem?_getD] at e2
            cases q : fl[n]? with
            | none => rw [q] at e2; simp at e2
            | some ws => rw [q] at e2; exact hfl ws (List.mem_of_getElem? q) z e2
          refine ⟨.name n z, by rw [e1]; rfl, ⟨by omega, by omega, fun c hc => sgs3 hL (hz.2 c hc)⟩, decide_eq_true rfl, hz.2, fun x hx => ?_⟩
          rw [List.mem_singleton.mp hx]
          exact e2
        | _ => cases h.2
      | _ => cases h.1
    · cases h
  | .beh p q, d, hg, hs, h => by
    rw [lawOf] at h
    split at h
    · rename_i x y e
      obtain rfl := headOf_inv e
      rw [Bool.and_eq_true] at h
      obtain ⟨hx, hy⟩ := small2 hs
      obtain ⟨r, rfl, a1, a2, a3, a4⟩ := law_mk hL hfl p x hg.1 hx h.1
      obtain ⟨s, rfl, b1, b2, b3, b4⟩ := law_mk hL hfl q y hg.2 hy h.2
      refine ⟨.beh r s, rfl, ⟨a1, b1⟩, by rw [isOf, a2, b2]; rfl, fun c hc => ?_, fun x hx => ?_⟩
      · have hc' : c ∈ (r.rd ++ s.rd).cps.toList := hc
        rw [str_app] at hc'
        exact (List.mem_append.mp hc').elim (a3 c) (b3 c)
      · exact (List.mem_append.mp hx).elim (a4 x) (b4 x)
    · cases h
  | .eit p q, d, hg, hs, h => by
    rw [lawOf] at h
    split at h
    · rename_i x y e
      obtain rfl := headOf_inv e
      obtain ⟨hx, hy⟩ := small2 hs
      cases x with
      | int i =>
        rw [sideOf] at h
        split at h
        · rename_i e0
          obtain ⟨r, rfl, a1, a2, a3, a4⟩ := law_mk hL hfl p y hg.1 hy h
          exact ⟨.eit false r, by rw [e0]; rfl, a1, a2, a3, a4⟩
        · split at h
          · rename_i e0
            obtain ⟨r, rfl, a1, a2, a3, a4⟩ := law_mk hL hfl q y hg.2 hy h
            exact ⟨.eit true r, by rw [e0]; rfl, a1, a2, a3, a4⟩
          · cases h
      | _ => cases h
    · cases h
  | .rnd p, d, hg, hs, h => by
    rw [lawOf] at h
    split at h
    · rename_i x e
      obtain rfl := headOf_inv e
      have hx : small x = true := by
        rw [small, Bool.and_eq_true] at hs
        exact smalls_mem hs.2 (by simp)
      have lists : ∀ xs : List PyData, smalls xs = true → (xs.map (lawOf fl p)).all id = true → ∃ rs : List Rd, xs = rdsD rs ∧ rdsOk rs ∧ (rs.map (isOf p)).all id = true ∧ (∀ c ∈ (rdsRd rs).cps.toList, c ∈ sgs L) ∧ ∀ x ∈ rdsPcs rs, x.2 ∈ fl.getD x.1 [] := by
        intro xs
        induction xs with
        | nil => exact fun _ _ => ⟨[], rfl, True.intro, rfl, fun c hc => absurd (show c ∈ ([] : List Nat) from hc) (by simp), fun x hx => by cases hx⟩
        | cons x xs ih =>
          intro h1 h2
          rw [smalls, Bool.and_eq_true] at h1
          rw [List.map_cons, List.all_cons, Bool.and_eq_true] at h2
          obtain ⟨r, rfl, a1, a2, a3, a4⟩ := law_mk hL hfl p x hg h1.1 h2.1
          obtain ⟨rs, rfl, b1, b2, b3, b4⟩ := ih h1.2 h2.2
          refine ⟨r :: rs, rfl, ⟨a1, b1⟩, by rw [List.map_cons, List.all_cons, b2, a2]; rfl, fun c hc => ?_, fun x hx => ?_⟩
          · have hc' : c ∈ (r.rd ++ rdsRd rs).cps.toList := hc
            rw [str_app] at hc'
            exact (List.mem_append.mp hc').elim (a3 c) (b3 c)
          · exact (List.mem_append.mp hx).elim (a4 x) (b4 x)
      split at h
      · rename_i xs e2
        cases x with
        | list ds =>
          cases e2
          rw [small, Bool.and_eq_true] at hx
          obtain ⟨rs, rfl, b1, b2, b3, b4⟩ := lists xs hx.2 h
          have h10 := of_decide_eq_true hx.1
          rw [rdsD_eq, List.length_map] at h10
          exact ⟨.rnd false rs, rfl, ⟨h10, b1⟩, b2, b3, b4⟩
        | tuple ds =>
          cases e2
          rw [small, Bool.and_eq_true] at hx
          obtain ⟨rs, rfl, b1, b2, b3, b4⟩ := lists xs hx.2 h
          have h10 := of_decide_eq_true hx.1
          rw [rdsD_eq, List.length_map] at h10
          exact ⟨.rnd true rs, rfl, ⟨h10, b1⟩, b2, b3, b4⟩
        | _ => cases e2
      · cases h
    · cases h
mutual
theorem mk_law {fl : List (List Str)} : ∀ (p : Pat) (r : Rd), isOf p r = true → (∀ x ∈ r.pcs, x.2 ∈ fl.getD x.1 []) → lawOf fl p r.d = true
  | .word s, .word z, h, _ => by
    have e : s = z := of_decide_eq_true h
    show lawOf fl (.word s) (.tuple [.str "word", .str z]) = true
    rw [lawOf, headOf_some]
    exact decide_eq_true e.symm
  | .name n, .name m z, h, hp => by
    have e : n = m := of_decide_eq_true h
    show lawOf fl (.name n) (.tuple [.str "name", .int m, .str z]) = true
    rw [lawOf, headOf_some, Bool.and_eq_true]
    subst e
    exact ⟨decide_eq_true rfl, decide_eq_true (hp (n, z) List.mem_cons_self)⟩
  | .beh p q, .beh r s, h, hp => by
    have h' : (isOf p r && isOf q s) = true := h
    rw [Bool.and_eq_true] at h'
    show lawOf fl (.beh p q) (.tuple [.str "behind", r.d, s.d]) = true
    rw [lawOf, headOf_some, Bool.and_eq_true]
    exact ⟨mk_law p r h'.1 fun x hx => hp x (List.mem_append_left _ hx), mk_law q s h'.2 fun x hx => hp x (List.mem_append_right _ hx)⟩
  | .eit p q, .eit true r, h, hp => by
    show lawOf fl (.eit p q) (.tuple [.str "either", .int 1, r.d]) = true
    rw [lawOf, headOf_some]
    exact mk_law q r h hp
  | .eit p q, .eit false r, h, hp => by
    show lawOf fl (.eit p q) (.tuple [.str "either", .int 0, r.d]) = true
    rw [lawOf, headOf_some]
    exact mk_law p r h hp
  | .rnd p, .rnd true rs, h, hp => by
    show lawOf fl (.rnd p) (.tuple [.str "round", .tuple (rdsD rs)]) = true
    rw [lawOf, headOf_some]
    exact mk_laws p rs h hp
  | .rnd p, .rnd false rs, h, hp => by
    show lawOf fl (.rnd p) (.tuple [.str "round", .list (rdsD rs)]) = true
    rw [lawOf, headOf_some]
    exact mk_laws p rs h hp
theorem mk_laws {fl : List (List Str)} : ∀ (p : Pat) (rs : List Rd), (rs.map (isOf p)).all id = true → (∀ x ∈ rdsPcs rs, x.2 ∈ fl.getD x.1 []) → ((rdsD rs).map (lawOf fl p)).all id = true
  | _, [], _, _ => rfl
  | p, r :: rs, h, hp => by
    rw [List.map_cons, List.all_cons, Bool.and_eq_true] at h
    rw [rdsD, List.map_cons, List.all_cons, Bool.and_eq_true]
    exact ⟨mk_law p r h.1 fun x hx => hp x (List.mem_append_left _ hx), mk_laws p rs h.2 fun x hx => hp x (List.mem_append_right _ hx)⟩
end
theorem lawOf_reads {L : Nat} {fl : List (List Str)} {p : Pat} {d : PyData} (hL : L ≤ 3) (hfl : ∀ zs ∈ fl, ∀ z ∈ zs, z.length ≤ 2 ∧ ∀ c ∈ z.cps.toList, c ∈ sgs L) (hg : p.good L) (hs : small d = true) : lawOf fl p d = true ↔ ReadsD L fl p d :=
  ⟨fun h => law_mk hL hfl p d hg hs h, fun ⟨r, e, h⟩ => by rw [e]; exact mk_law p r h.2.1 h.2.2.2⟩
end K44
end
section
set_option maxHeartbeats 4000000
namespace K44
open PySem PySem.Spec PyProof.Rows L2 LamX NdefX
/-! ### lists that are hidden -/
def MOn (M : List Addr) (H : Hp) : Prop := ∀ m ∈ M, H m ≠ none
theorem hid_px {a : Addr} {M : List Addr} {H H' : Hp} (e : Px a H H') (ha : a ∈ M) : Same (hid M H) (hid M H') := fun b u q => by
  unfold hid at q ⊢
  split at q
  · cases q
  · rename_i hb
    rw [if_neg hb]
    have hba : b ≠ a := fun z => hb (by rw [z]; exact ha)
    have := e.1 b u (by rw [off_ne hba]; exact q)
    rw [off_ne hba] at this
    exact this
theorem MOn.same {M : List Addr} {H H' : Hp} (h : MOn M H) (e : Same H H') : MOn M H' := fun m hm z => by
  cases q : H m with
  | none => exact h m hm q
  | some u => rw [e m u q] at z; cases z
theorem MOn.px {a : Addr} {M : List Addr} {H H' : Hp} (h : MOn M H) (e : Px a H H') : MOn M H' := fun m hm z => by
  by_cases hma : m = a
  · obtain ⟨x, y, q⟩ := e.2
    rw [hma, q] at z; cases z
  cases q : H m with
  | none => exact h m hm q
  | some u =>
    have := e.1 m u (by rw [off_ne hma]; exact q)
    rw [off_ne hma, z] at this
    cases this
theorem MOn.no {M : List Addr} {H : Hp} {p : Addr} (h : MOn M H) (hp : H p = none) : p ∉ M := fun z => h p z hp
theorem hidDp {K : PySem.W.Frag} {M : List Addr} {H : Hp} {v : V} {d : PyData} (h : Dp K (hid M H) v d) : Dp K H v d := dpOn h hid_le
theorem hidSeq {K : PySem.W.Frag} {M : List Addr} {l : Addr} {H : Hp} {xs : List V} (h : SqL K (hid M H) l xs) : SqL K H l xs := Same.seq hid_le h
theorem hidTup {K : PySem.W.Frag} {M : List Addr} {l : Addr} {H : Hp} {xs : List V} (h : SqT K (hid M H) l xs) : SqT K H l xs := Same.tup hid_le h
theorem hid_at {M : List Addr} {H : Hp} {p : Addr} {o : HO} (hp : p ∉ M) : hid M (upd H p o) p = some o := by
  unfold hid
  rw [if_neg hp, upd_same]
theorem dpM_tup {K : PySem.W.Frag} {M : List Addr} {p : Addr} {H : Hp} {xs : List V} {ds : List PyData} (hM : MOn M H) (h : H p = none) (hd : DpAll K (hid M H) xs ds) : Dp K (hid M (upd H p (.tup xs))) (.ref p) (.tuple ds) :=
  .tup (K44.st (hid_at (hM.no h))) (dpsOn hd (hid_same (same_new h _)))
theorem dpM_lst {K : PySem.W.Frag} {M : List Addr} {p : Addr} {H : Hp} {xs : List V} {ds : List PyData} (hM : MOn M H) (h : H p = none) (hd : DpAll K (hid M H) xs ds) : Dp K (hid M (upd H p (.lst xs))) (.ref p) (.list ds) :=
  .lst (sl (hid_at (hM.no h))) (dpsOn hd (hid_same (same_new h _)))
theorem MOn.cons {M : List Addr} {H : Hp} {l : Addr} {o : HO} (h : MOn M H) (hl : H l = some o) : MOn (l :: M) H := fun m hm z => by
  rcases List.mem_cons.mp hm with rfl | hm
  · rw [hl] at z; cases z
  · exact h m hm z
/-! ### the words put in, as data -/
def wsD (ws : List Str) : PyData := .list (ws.map PyData.str)
def flD (fl : List (List Str)) : PyData := .list (fl.map wsD)
def FlOk (L : Nat) (fl : List (List Str)) : Prop := fl.length = 2 ∧ ∀ zs ∈ fl, zs.length ≤ 3 ∧ ∀ z ∈ zs, z.length ≤ 2 ∧ ∀ c ∈ z.cps.toList, c ∈ sgs L
theorem strOk_sg {L : Nat} {z : Str} (h : ∀ c ∈ z.cps.toList, c ∈ sgs L) : PyData.strOk z = true := by
  show z.cps.all (· < 0x110000) = true
  rw [Array.all_eq_true']
  intro c hc
  have h1 := List.mem_of_mem_take (h c (Array.mem_toList_iff.mpr hc))
  simp at h1
  rcases h1 with rfl | rfl | rfl <;> decide
theorem lay_ws {L : Nat} : ∀ (ws : List Str), (∀ z ∈ ws, ∀ c ∈ z.cps.toList, c ∈ sgs L) → PyData.canLayAll0 (ws.map PyData.str) = true
  | [], _ => rfl
  | x :: a, h => by
    show (PyData.strOk x && PyData.canLayAll0 (a.map PyData.str)) = true
    rw [strOk_sg (h x List.mem_cons_self), lay_ws a fun z hz => h z (List.mem_cons_of_mem _ hz)]; rfl
theorem dep_ws : ∀ (a : List Str), PyData.depthAll (a.map PyData.str) ≤ 0
  | [] => Nat.le_refl _
  | x :: a => Nat.max_le.mpr ⟨Nat.le_refl _, dep_ws a⟩
theorem shaped_ws {L : Nat} {ws : List Str} (h : ∀ z ∈ ws, ∀ c ∈ z.cps.toList, c ∈ sgs L) : SeqAt.shaped (wsD ws) = true := by
  unfold SeqAt.shaped
  rw [Bool.and_eq_true, decide_eq_true_iff]
  refine ⟨lay_ws ws h, ?_⟩
  have := dep_ws ws
  show PyData.depthAll (ws.map PyData.str) + 1 ≤ 64
  omega
theorem dps_strs {K : PySem.W.Frag} {H : Hp} : ∀ {ws : List Str} {vs : List V}, DpAll K H vs (ws.map PyData.str) → vs = ws.map V.str
  | [], _, h => by cases h; rfl
  | w :: ws, _, h => by
    cases h with
    | cons h1 h2 => rw [dp_str h1, dps_strs h2]; rfl
/-! ### few in rounds -/
mutual
def Rd.few : Rd → Prop
  | .word _ => True
  | .name _ _ => True
  | .beh r s => r.few ∧ s.few
  | .eit _ r => r.few
  | .rnd t rs => t = false ∧ rs.length ≤ 2 ∧ rdsFew rs
def rdsFew : List Rd → Prop
  | [] => True
  | r :: rs => r.few ∧ rdsFew rs
end
theorem hid_off {a : Addr} {M : List Addr} {H : Hp} (ha : a ∈ M) : Same (hid M H) (off a H) := fun b u q => by
  unfold hid at q
  split at q
  · cases q
  · rename_i hb
    rw [off_ne fun z => hb (by rw [z]; exact ha)]
    exact q
theorem hid_pxl {a l : Addr} {M : List Addr} {H H' : Hp} (e : Px a H H') (ha : a ∈ M) (hl : H l = none) : Same (hid M H) (hid (l :: M) H') := fun b u q => by
  have q2 := hid_px e ha b u q
  unfold hid at q q2 ⊢
  split at q
  · cases q
  · rename_i hb
    rw [if_neg hb] at q2
    rw [if_neg fun z => (List.mem_cons.mp z).elim (fun z => by rw [z, hl] at q; cases q) hb]
    exact q2
theorem Px.mutl {a l : Addr} {H H' : Hp} {o : HO} (e : Px a H H') (hl : H l = none) (hla : l ≠ a) : Px a H (upd H' l o) := by
  refine ⟨fun b u q => ?_, ?_⟩
  · by_cases hb : b = a
    · rw [hb, off_none] at q; cases q
    · have q2 := e.1 b u q
      rw [off_ne hb] at q q2 ⊢
      rw [upd_ne (ne_of_none q hl)]
      exact q2
  · obtain ⟨x, y, h⟩ := e.2
    exact ⟨x, y, by rw [upd_ne (Ne.symm hla)]; exact h⟩
theorem Px.lst {a l : Addr} {H H' : Hp} {o : HO} (e : Px a H H') (h : H l = some o) (hla : l ≠ a) : H' l = some o := by
  have := e.1 l o (by rw [off_ne hla]; exact h)
  rw [off_ne hla] at this
  exact this
theorem reads_all {L : Nat} {fl : List (List Str)} {p : Pat} : ∀ {rs : List Rd}, (∀ r ∈ rs, Reads0 L fl p r ∧ r.few) → rdsOk rs ∧ (rs.map (isOf p)).all id = true ∧ (∀ c ∈ (rdsRd rs).cps.toList, c ∈ sgs L) ∧ (∀ x ∈ rdsPcs rs, x.2 ∈ fl.getD x.1 []) ∧ rdsFew rs
  | [], _ => ⟨True.intro, rfl, fun c hc => absurd (show c ∈ ([] : List Nat) from hc) (by simp), (fun x hx => by cases hx), True.intro⟩
  | r :: rs, h => by
    obtain ⟨⟨a1, a2, a3, a4⟩, a5⟩ := h r List.mem_cons_self
    obtain ⟨b1, b2, b3, b4, b5⟩ := reads_all fun s hs => h s (List.mem_cons_of_mem _ hs)
    refine ⟨⟨a1, b1⟩, by rw [List.map_cons, List.all_cons, b2, a2]; rfl, fun c hc => ?_, fun x hx => (List.mem_append.mp hx).elim (a4 x) (b4 x), a5, b5⟩
    have hc' : c ∈ (r.rd ++ rdsRd rs).cps.toList := hc
    rw [str_app] at hc'
    exact (List.mem_append.mp hc').elim (a3 c) (b3 c)
theorem eqv_ws {ws : List Str} : PyData.eqv (wsD ws) (wsD []) = ws.isEmpty := by cases ws <;> rfl
theorem good_ref {K : PySem.W.Frag} {H : Hp} {u : V} {r : Rd} (h : Dp K H u r.d) : ∃ p, u = .ref p := by
  cases r with
  | word z => obtain ⟨a, xs, rfl, _⟩ := dp_tup h; exact ⟨a, rfl⟩
  | name n z => obtain ⟨a, xs, rfl, _⟩ := dp_tup h; exact ⟨a, rfl⟩
  | beh p q => obtain ⟨a, xs, rfl, _⟩ := dp_tup h; exact ⟨a, rfl⟩
  | eit p q => obtain ⟨a, xs, rfl, _⟩ := dp_tup h; exact ⟨a, rfl⟩
  | rnd t p => cases t <;> (obtain ⟨a, xs, rfl, _⟩ := dp_tup h; exact ⟨a, rfl⟩)
section
variable {P : Program} {w : World} {K : PySem.W.Frag} {mg : Str → Option Value} {base : Heap}
def GoodRd (K : PySem.W.Frag) (H : Hp) (L : Nat) (fl : List (List Str)) (p : Pat) (u : V) : Prop := ∃ r : Rd, Dp K H u r.d ∧ Reads0 L fl p r ∧ r.few
theorem GoodRd.on {H H' : Hp} {L : Nat} {fl : List (List Str)} {p : Pat} {u : V} (h : GoodRd K H L fl p u) (e : Same H H') : GoodRd K H' L fl p u := let ⟨r, h1, h2⟩ := h; ⟨r, dpOn h1 e, h2⟩
def sp_law_reading (K : PySem.W.Frag) (n : Nat) : Sp := fun vs H Q _ => ∃ (a : Addr) (M : List Addr) (L : Nat) (v fv : V) (p : Pat) (fl : List (List Str)), vs = [.ref a, v, fv] ∧ a ∈ M ∧ MOn M H ∧ Pot H a ∧ L ≤ 3 ∧ Dp K (hid M H) v p.d ∧ p.good L ∧ p.dep ≤ n ∧ Dp K (hid M H) fv (flD fl) ∧ FlOk L fl ∧
  ∀ u H', Px a H H' → (u = .non ∨ GoodRd K (hid M H') L fl p u) → Q u H'
abbrev sgLR : List Str := ["_law_pot_here", "_law_pattern_here", "_law_filling", "_law_kind", "_law_some", "_law_found", "_law_turn", "_law_side", "_law_inner", "_law_near", "_law_far", "_law_one"]
theorem c_law_reading (T : Txt K mg) : ∀ n : Nat, n ≤ 5 → Cal P w K mg base (n + 2) "_law_reading" ["_law_pot_here", "_law_pattern_here", "_law_filling"] (sp_law_reading K n)
  | 0, _ => Cal.none_ T.g_law_reading T.b_law_reading fun vs H Q E ⟨a, M, L, v, fv, p, fl, _, _, _, _, _, _, _, h, _⟩ => by have := pdep_pos p; omega
  | n + 1, h5 => by
    have S : FnScope sgLR ["_law_pot_here", "_law_pattern_here", "_law_filling"] (defScope s_law_reading) := fsc (by decide +kernel)
    refine Cal.of T.g_law_reading T.b_law_reading S (fun vs H Q E h => ?_) fun cdv A outer s H vs Q E hr h => ?_
    · obtain ⟨a, M, L, v, fv, p, fl, rfl, _⟩ := h; rfl
    have hu := hr.units
    obtain ⟨a, M, L, v, fv, p, fl, rfl, ha, hM, hpot, hL, hp, hg, hn, hf, hfl, q⟩ := h
    have C := c_law_reading T n (by omega)
    refine ⟨_, (pss_cons (ps_set (i := 3) S.nd rfl (.inl rfl) (pe_ix ix_tup (pv 1) pe_int (fun _ _ => rfl)))
    (pss_cons (ps_if (pt_cmpR op_eq (pv 3) pe_str (nomark _)) (pss_one (ps_ret (pv 1))) pss_nil)
    (pss_cons (ps_if (pt_cmpR op_eq (pv 3) pe_str (nomark _)) (pss_cons (ps_set (i := 4) S.nd rfl (.inl rfl) (pe_ix ix_list (pv 2) (pe_ix ix_tup (pv 1) pe_int (fun _ _ => rfl)) (fun _ _ => rfl)))
    (pss_one (ps_ret (pe_ifExp (pt_cmpR (op_neD hu) (pv 4) (pe_lst pa_nil) rfl) (pe_tup (pa_cons (pe_str) (pa_cons (pe_ix ix_tup (pv 1) pe_int (fun _ _ => rfl)) (pa_cons (pc (c_law_pick T) hr (pa_cons (pv 0) (pa_cons (pv 4) pa_nil)) (by omega)) pa_nil)))) pe_non)))) pss_nil)
    (pss_cons (ps_if (pt_cmpR op_eq (pv 3) pe_str (nomark _)) (pss_cons (ps_set (i := 5) S.nd rfl (.inl rfl) (pe_lst pa_nil))
    (pss_cons (ps_for PassesOwn.never rfl (pi_range1 rfl T.zrange (pa_cons (pc (c_law_draw T) hr (pa_cons (pv 0) (pa_cons (pe_int) pa_nil)) (by omega)) pa_nil)) (pg_name (i := 6) S.nd rfl (.inl rfl)) (pss_one (ps_expr (pe_bm PySem.F.plainAttrs_list PySem.F.slot_list_append PySem.F.type_list_append mt_append (pv 5) (pa_cons (pc C hr (pa_cons (pv 0) (pa_cons (pe_ix ix_tup (pv 1) pe_int (fun _ _ => rfl)) (pa_cons (pv 2) pa_nil))) (Nat.le_refl _)) pa_nil)))))
    (pss_one (ps_ret (pe_tup (pa_cons (pe_str) (pa_cons (pe_lc (own := [("_law_one", 11)]) (g := gName 11) rfl S.nd (pi_list (pv 5)) (blkOk_by (N := sgLR) (sc := defScope s_law_reading) (by decide +kernel)) (fun _ _ _ _ _ => pg_name (i := 11) S.nd rfl (Or.inl rfl)) (fun _ _ _ _ _ => pts_one (pt_cmpR op_notN (pv 11) pe_non rfl)) (fun _ _ _ _ _ => pv 11)) pa_nil))))))) pss_nil)
    (pss_cons (ps_if (pt_cmpR op_eq (pv 3) pe_str (nomark _)) (pss_cons (ps_set (i := 7) S.nd rfl (.inl rfl) (pc (c_law_draw T) hr (pa_cons (pv 0) (pa_cons (pe_int) pa_nil)) (by omega)))
    (pss_cons (ps_set (i := 8) S.nd rfl (.inl rfl) (pc C hr (pa_cons (pv 0) (pa_cons (pe_ix ix_tup (pv 1) (pe_op op_add pe_int (pv 7)) (fun _ _ => rfl)) (pa_cons (pv 2) pa_nil))) (Nat.le_refl _)))
    (pss_one (ps_ret (pe_ifExp (pt_cmpR op_notN (pv 8) pe_non rfl) (pe_tup (pa_cons (pe_str) (pa_cons (pv 7) (pa_cons (pv 8) pa_nil)))) pe_non))))) pss_nil)
    (pss_cons (ps_par (i := 9) (j := 10) (by rfl) S.nd rfl rfl (by decide) rfl rfl (pa_cons (pc C hr (pa_cons (pv 0) (pa_cons (pe_ix ix_tup (pv 1) pe_int (fun _ _ => rfl)) (pa_cons (pv 2) pa_nil))) (Nat.le_refl _)) (pa_cons (pc C hr (pa_cons (pv 0) (pa_cons (pe_ix ix_tup (pv 1) pe_int (fun _ _ => rfl)) (pa_cons (pv 2) pa_nil))) (Nat.le_refl _)) pa_nil)) (by rfl))
    (pss_one (ps_ret (pe_ifExp (PW.pt (pw_and (pt_cmpR op_notN (pv 9) pe_non rfl) (pw_and1 (pt_cmpR op_notN (pv 10) pe_non rfl)))) (pe_tup (pa_cons (pe_str) (pa_cons (pv 9) (pa_cons (pv 10) pa_nil)))) pe_non))))))))), ?_⟩
    have call : ∀ (H1 : Hp) (v1 : V) (p1 : Pat) (Q1 : VK), Px a H H1 → Dp K (hid M H) v1 p1.d → p1.good L → p1.dep ≤ n → (∀ u H', Px a H1 H' → (u = .non ∨ GoodRd K (hid M H') L fl p1 u) → Q1 u H') → sp_law_reading K n [.ref a, v1, fv] H1 Q1 E0 := fun H1 v1 p1 Q1 e1 h1 h2 h3 q1 =>
      ⟨a, M, L, v1, fv, p1, fl, rfl, ha, hM.px e1, e1.2, hL, dpOn h1 (hid_px e1 ha), h2, h3, dpOn hf (hid_px e1 ha), hfl, q1⟩
    cases p with
    | word z =>
      obtain ⟨b, xs, rfl, hT, hx⟩ := dp_tup hp
      obtain ⟨v0, v1, rfl, h0, h1⟩ := dps2 hx
      obtain rfl := dp_str h0
      have h2 : z.length ≤ 2 := hg.1
      exact ⟨_, rfl, b, _, _, _, rfl, rfl, hidTup hT, rfl, _, rfl, rfl, _, rfl, strT rfl ⟨_, rfl, q _ H (Px.refl hpot) (.inr ⟨.word z, hp, ⟨⟨by omega, fun c hc => sgs3 hL (hg.2 c hc)⟩, decide_eq_true rfl, hg.2, fun x hx => by cases hx⟩, True.intro⟩)⟩⟩
    | name k =>
      obtain ⟨b, xs, rfl, hT, hx⟩ := dp_tup hp
      obtain ⟨v0, v1, rfl, h0, h1⟩ := dps2 hx
      obtain rfl := dp_str h0
      obtain rfl := dp_int h1
      have hk : k < 2 := hg
      obtain ⟨c, us, rfl, hS, hus⟩ := dp_lst hf
      have hkl : k < fl.length := by rw [hfl.1]; exact hk
      obtain ⟨w1, hw1, hw⟩ := dpsGet hus (by rw [List.getElem?_map, List.getElem?_eq_getElem hkl]; rfl : (fl.map wsD)[k]? = some (wsD fl[k]))
      have hwok := hfl.2 _ (List.getElem_mem hkl)
      have hgd : fl.getD k [] = fl[k] := by rw [List.getD_eq_getElem?_getD, List.getElem?_eq_getElem hkl]; rfl
      generalize fl[k] = ws at hw hwok hgd
      obtain ⟨l, vs, rfl, hl, hvs⟩ := dp_lst hw
      obtain rfl := dps_strs hvs
      refine ⟨_, rfl, b, _, _, _, rfl, rfl, hidTup hT, rfl, _, rfl, rfl, _, rfl, strF (by decide) ⟨_, rfl, rfl, _, rfl, strT rfl ⟨_, rfl, _, rfl, b, _, _, _, rfl, rfl, hidTup hT, rfl, c, us, _, _, rfl, rfl, hidSeq hS, atI_nat hw1, _, rfl, le0, fun t ht => ?_⟩⟩⟩
      have e1 := same_new ht (.lst [])
      refine ⟨wsD ws, wsD [], dpOn (hidDp hw) e1, .lst (sl upd_same) .nil, shaped_ws (fun z hz => (hwok.2 z hz).2), shaped_ws (L := L) (fun z hz => by cases hz), _, rfl, ?_⟩
      rw [eqv_ws]
      have p1 := Px.of hpot e1
      have hM1 := hM.same e1
      cases ws with
      | nil => exact iteF (q _ _ p1 (.inl rfl))
      | cons w2 ws =>
      refine iteT ⟨_, rfl, b, _, _, _, rfl, rfl, Same.tup e1 (hidTup hT), rfl, _, rfl, _, rfl, a, l, _, rfl, p1.2, Same.seq ((hid_same e1).trans (hid_off ha)) hl, by simp, by rw [List.length_map]; have := hwok.1; omega, fun x hx2 H2 e2 => ⟨le3, fun t2 ht2 => ?_⟩⟩
      obtain ⟨z, hz, rfl⟩ := List.mem_map.mp hx2
      have e12 := p1.trans e2
      have hzz := hwok.2 z hz
      refine q _ _ (e12.trans (Px.new e2.2 ht2 _)) (.inr ⟨.name k z, dpM_tup (hM1.px e2) ht2 (.cons (.str _) (.cons (.int _) (.cons (.str _) .nil))), ⟨⟨by omega, by omega, fun c hc => sgs3 hL (hzz.2 c hc)⟩, decide_eq_true rfl, hzz.2, fun x hx => ?_⟩, True.intro⟩)
      rw [List.mem_singleton.mp hx]
      show z ∈ fl.getD k []
      rw [hgd]
      exact hz
    | rnd p1 =>
      obtain ⟨b, xs, rfl, hT, hx⟩ := dp_tup hp
      obtain ⟨v0, v1, rfl, h0, h1⟩ := dps2 hx
      obtain rfl := dp_str h0
      have hn' : p1.dep + 1 ≤ n + 1 := hn
      refine ⟨_, rfl, b, _, _, _, rfl, rfl, hidTup hT, rfl, _, rfl, rfl, _, rfl, strF (by decide) ⟨_, rfl, rfl, _, rfl, strF (by decide) ⟨_, rfl, rfl, _, rfl, strT rfl ⟨le0, fun l hl => ?_⟩⟩⟩⟩
      have hla : l ≠ a := hpot.ne hl
      refine ⟨_, rfl, a, 3, rfl, by decide, by decide, hpot.on (same_new hl _), fun d hd H1 e1 => ⟨(d : Int), rfl, by omega, by omega, ?_⟩⟩
      rw [Int.toNat_natCast]
      have e01 : Px a H H1 := (Px.of hpot (same_new hl _)).trans e1
      refine for_range (fun i σ H' => ∃ (us : List V) (o : Option V), σ = [some (.ref a), some (.ref b), some fv, some (.str "round"), none, some (.ref l), o, none, none, none, none, none] ∧ Px a H H' ∧ H' l = some (.lst us) ∧ us.length = i ∧ ∀ u ∈ us, u = .non ∨ GoodRd K (hid (l :: M) H') L fl p1 u) ⟨[], _, rfl, e01, e1.lst upd_same hla, rfl, fun u hu => by cases hu⟩ ?_ ?_
      · rintro i σ H2 hi ⟨us, o, rfl, e2, hl2, hus, hgood⟩
        refine ⟨_, rfl, .inl ⟨rfl, _, sl hl2⟩, _, rfl, _, rfl, b, _, _, _, rfl, rfl, hidTup (Same.tup (hid_px e2 ha) hT), rfl, _, rfl, a, l :: M, L, v1, fv, p1, fl, rfl, List.mem_cons_of_mem _ ha, (hM.px e2).cons hl2, e2.2, hL, dpOn h1 (hid_pxl e2 ha hl), hg, by omega, dpOn hf (hid_pxl e2 ha hl), hfl, fun u H3 e3 hu => ?_⟩
        have hl3 := e3.lst hl2 hla
        refine ⟨l, us, u, rfl, rfl, hl3, szt (by omega), us ++ [u], _, rfl, (e2.trans e3).mutl hl hla, upd_same, by simp [hus], fun y hy => ?_⟩
        rw [hid_upd List.mem_cons_self]
        rcases List.mem_append.mp hy with hy | hy
        · exact (hgood y hy).imp id fun g => g.on (hid_px e3 (List.mem_cons_of_mem _ ha))
        · rw [List.mem_singleton.mp hy]; exact hu
      · rintro σ H2 ⟨us, o, rfl, e2, hl2, hus, hgood⟩
        have hM2 := (hM.px e2).cons hl2
        refine ⟨_, rfl, l, rfl, ⟨_, sl hl2⟩, fun D hD => lc_it walk_list (fun i H' => ∃ (acc : List V) (rs : List Rd), Same H2 H' ∧ H' D = some (.lst acc) ∧ acc.length ≤ i ∧ DpAll K (hid (D :: l :: M) H') acc (rs.map Rd.d) ∧ ∀ r ∈ rs, Reads0 L fl p1 r ∧ r.few) ⟨[], [], same_new hD _, upd_same, Nat.le_refl _, .nil, fun r hr => by cases hr⟩ (fun i H' _ ⟨_, _, h, _⟩ => sl (h _ _ hl2)) ?_ ?_⟩
        · rintro i x Ha Hb hi ⟨acc, rs, ea, hacc, hal, hds, hrs⟩ ⟨rfl, hx⟩
          refine ⟨rfl, _, rfl, rfl, _, rfl, ?_⟩
          rcases hgood x (List.mem_of_getElem? hx) with rfl | ⟨r, hr, hr2⟩
          · exact ifF (by decide) ⟨acc, rs, ea, hacc, by omega, hds, hrs⟩
          · obtain ⟨xp, rfl⟩ := good_ref hr
            refine ifT rfl ⟨_, rfl, acc, hacc, szt (by omega), acc ++ [.ref xp], rs ++ [r], Same.mut ea hD, upd_same, by simp; omega, ?_, fun y hy => ?_⟩
            · rw [hid_upd List.mem_cons_self, List.map_append]
              refine dps_app hds (.cons (dpOn hr fun y u q => ?_) .nil)
              have q2 := hid_same (A := l :: M) ea y u q
              unfold hid at q q2 ⊢
              split at q
              · cases q
              · rename_i hb
                rw [if_neg hb] at q2
                rw [if_neg fun z => (List.mem_cons.mp z).elim (fun z => by rw [z, hD] at q; cases q) hb]
                exact q2
            · rcases List.mem_append.mp hy with hy | hy
              · exact hrs y hy
              · rw [List.mem_singleton.mp hy]; exact hr2
        · rintro Ha ⟨acc, rs, ea, hacc, hal, hds, hrs⟩
          refine ⟨le2, fun t ht => ?_⟩
          have hrl : acc.length = rs.length := by have := dpsLen hds; rwa [List.length_map] at this
          have e3 := e2.same ea
          have hM3 := hM.px e3
          obtain ⟨b1, b2, b3, b4, b5⟩ := reads_all hrs
          have hDM : D ∉ M := (hM.px e2).no hD
          refine q _ _ (e3.trans (Px.new e3.2 ht _)) (.inr ⟨.rnd false rs, dpM_tup hM3 ht (.cons (.str _) (.cons (.lst (xs := acc) (sl ?_) ?_) .nil)), ⟨⟨by omega, b1⟩, b2, b3, b4⟩, rfl, by omega, b5⟩)
          · unfold hid
            rw [if_neg hDM]
            exact hacc
          · rw [rdsD_eq]
            exact dpsOn hds (hid_less.trans hid_less)
    | eit p1 p2 =>
      obtain ⟨b, xs, rfl, hT, hx⟩ := dp_tup hp
      obtain ⟨v0, v1, v2, rfl, h0, h1, h2⟩ := dps3 hx
      obtain rfl := dp_str h0
      have hn' : max p1.dep p2.dep + 1 ≤ n + 1 := hn
      refine ⟨_, rfl, b, _, _, _, rfl, rfl, hidTup hT, rfl, _, rfl, rfl, _, rfl, strF (by decide) ⟨_, rfl, rfl, _, rfl, strF (by decide) ⟨_, rfl, rfl, _, rfl, strF (by decide) ⟨_, rfl, rfl, _, rfl, strT rfl ⟨_, rfl, a, 2, rfl, by decide, by decide, hpot, fun d hd H1 e1 => ?_⟩⟩⟩⟩⟩
      have hT1 : SqT K H1 b [.str "either", v1, v2] := hidTup (Same.tup (hid_px e1 ha) hT)
      have hd2 : d = 0 ∨ d = 1 := by omega
      rcases hd2 with rfl | rfl
      · refine ⟨_, rfl, _, rfl, _, rfl, _, _, rfl, rfl, b, _, _, v1, rfl, rfl, hT1, rfl, _, rfl, call H1 v1 p1 _ e1 h1 hg.1 (by omega) fun u H2 e2 hu2 => ⟨_, rfl, rfl, _, rfl, ?_⟩⟩
        rcases hu2 with rfl | ⟨r, hr, hr2⟩
        · exact ifF (by decide) (q _ _ (e1.trans e2) (.inl rfl))
        · obtain ⟨xp, rfl⟩ := good_ref hr
          refine ifT rfl ⟨_, rfl, _, rfl, le3, fun t ht => ?_⟩
          exact q _ _ ((e1.trans e2).trans (Px.new e2.2 ht _)) (.inr ⟨.eit false r, dpM_tup (hM.px (e1.trans e2)) ht (.cons (.str _) (.cons (.int _) (.cons hr .nil))), hr2⟩)
      · refine ⟨_, rfl, _, rfl, _, rfl, _, _, rfl, rfl, b, _, _, v2, rfl, rfl, hT1, rfl, _, rfl, call H1 v2 p2 _ e1 h2 hg.2 (by omega) fun u H2 e2 hu2 => ⟨_, rfl, rfl, _, rfl, ?_⟩⟩
        rcases hu2 with rfl | ⟨r, hr, hr2⟩
        · exact ifF (by decide) (q _ _ (e1.trans e2) (.inl rfl))
        · obtain ⟨xp, rfl⟩ := good_ref hr
          refine ifT rfl ⟨_, rfl, _, rfl, le3, fun t ht => ?_⟩
          exact q _ _ ((e1.trans e2).trans (Px.new e2.2 ht _)) (.inr ⟨.eit true r, dpM_tup (hM.px (e1.trans e2)) ht (.cons (.str _) (.cons (.int _) (.cons hr .nil))), hr2⟩)
    | beh p1 p2 =>
      obtain ⟨b, xs, rfl, hT, hx⟩ := dp_tup hp
      obtain ⟨v0, v1, v2, rfl, h0, h1, h2⟩ := dps3 hx
      obtain rfl := dp_str h0
      have hn' : max p1.dep p2.dep + 1 ≤ n + 1 := hn
      refine ⟨_, rfl, b, _, _, _, rfl, rfl, hidTup hT, rfl, _, rfl, rfl, _, rfl, strF (by decide) ⟨_, rfl, rfl, _, rfl, strF (by decide) ⟨_, rfl, rfl, _, rfl, strF (by decide) ⟨_, rfl, rfl, _, rfl, strF (by decide) ⟨_, rfl, _, rfl, b, _, _, _, rfl, rfl, hidTup hT, rfl, _, rfl, call H v1 p1 _ (Px.refl hpot) h1 hg.1 (by omega) fun u1 H1 e1 k1 => ?_⟩⟩⟩⟩⟩
      have hT1 : SqT K H1 b [.str "behind", v1, v2] := hidTup (Same.tup (hid_px e1 ha) hT)
      refine ⟨_, rfl, _, rfl, b, _, _, _, rfl, rfl, hT1, rfl, _, rfl, call H1 v2 p2 _ e1 h2 hg.2 (by omega) fun u2 H2 e2 k2 => ⟨_, _, rfl, _, rfl, rfl, _, rfl, ?_⟩⟩
      have e12 := e1.trans e2
      rcases k1 with rfl | ⟨r1, hr1, a1⟩
      · exact ifF (by decide) (q _ _ e12 (.inl rfl))
      obtain ⟨x1, rfl⟩ := good_ref hr1
      refine ifT rfl ⟨_, rfl, rfl, _, rfl, ?_⟩
      rcases k2 with rfl | ⟨r2, hr2, a2⟩
      · exact ifF (by decide) (q _ _ e12 (.inl rfl))
      obtain ⟨x2, rfl⟩ := good_ref hr2
      refine ifT rfl ⟨_, rfl, _, rfl, le3, fun t ht => ?_⟩
      refine q _ _ (e12.trans (Px.new e2.2 ht _)) (.inr ⟨.beh r1 r2, dpM_tup (hM.px e12) ht (.cons (.str _) (.cons (dpOn hr1 (hid_px e2 ha)) (.cons hr2 .nil))), ⟨⟨a1.1.1, a2.1.1⟩, by rw [isOf, a1.1.2.1, a2.1.2.1]; rfl, fun c hc => ?_, fun x hx => (List.mem_append.mp hx).elim (a1.1.2.2.2 x) (a2.1.2.2.2 x)⟩, a1.2, a2.2⟩)
      have hc' : c ∈ (r1.rd ++ r2.rd).cps.toList := hc
      rw [str_app] at hc'
      exact (List.mem_append.mp hc').elim (a1.1.2.2.1 c) (a2.1.2.2.1 c)
end
end K44
end
section
set_option maxHeartbeats 4000000
namespace K44
open PySem PySem.Spec PyProof.Rows L2 LamX NdefX
theorem sk1 : PyData.strOk "word" = true := by decide +kernel
theorem sk2 : PyData.strOk "name" = true := by decide +kernel
theorem sk3 : PyData.strOk "behind" = true := by decide +kernel
theorem sk4 : PyData.strOk "either" = true := by decide +kernel
theorem sk5 : PyData.strOk "round" = true := by decide +kernel
mutual
theorem lay_rd : ∀ (r : Rd), r.ok → PyData.canLay0 r.d = true ∧ PyData.depth r.d ≤ 2 * r.dep
  | .word s, h => ⟨by
      show (PyData.strOk "word" && (PyData.strOk s && true)) = true
      rw [strOk_sg h.2, sk1]; rfl, Nat.le_succ 1⟩
  | .name n s, h => ⟨by
      show (PyData.strOk "name" && (true && (PyData.strOk s && true))) = true
      rw [strOk_sg h.2.2, sk2]; rfl, Nat.le_succ 1⟩
  | .beh r s, h => by
    obtain ⟨a1, a2⟩ := lay_rd r h.1
    obtain ⟨b1, b2⟩ := lay_rd s h.2
    refine ⟨?_, ?_⟩
    · show (PyData.strOk "behind" && (PyData.canLay0 r.d && (PyData.canLay0 s.d && true))) = true
      rw [a1, b1, sk3]; rfl
    · show max 0 (max (PyData.depth r.d) (max (PyData.depth s.d) 0)) + 1 ≤ 2 * (max r.dep s.dep + 1)
      omega
  | .eit b r, h => by
    obtain ⟨a1, a2⟩ := lay_rd r h
    refine ⟨?_, ?_⟩
    · show (PyData.strOk "either" && (true && (PyData.canLay0 r.d && true))) = true
      rw [a1, sk4]; rfl
    · show max 0 (max 0 (max (PyData.depth r.d) 0)) + 1 ≤ 2 * (r.dep + 1)
      omega
  | .rnd true rs, h => by
    obtain ⟨a1, a2⟩ := lay_rds rs h.2
    refine ⟨?_, ?_⟩
    · show (PyData.strOk "round" && (PyData.canLayAll0 (rdsD rs) && true)) = true
      rw [a1, sk5]; rfl
    · show max 0 (max (PyData.depthAll (rdsD rs) + 1) 0) + 1 ≤ 2 * (rdsDep rs + 1)
      omega
  | .rnd false rs, h => by
    obtain ⟨a1, a2⟩ := lay_rds rs h.2
    refine ⟨?_, ?_⟩
    · show (PyData.strOk "round" && (PyData.canLayAll0 (rdsD rs) && true)) = true
      rw [a1, sk5]; rfl
    · show max 0 (max (PyData.depthAll (rdsD rs) + 1) 0) + 1 ≤ 2 * (rdsDep rs + 1)
      omega
theorem lay_rds : ∀ (rs : List Rd), rdsOk rs → PyData.canLayAll0 (rdsD rs) = true ∧ PyData.depthAll (rdsD rs) ≤ 2 * rdsDep rs
  | [], _ => ⟨rfl, Nat.le_refl _⟩
  | r :: rs, h => by
    obtain ⟨a1, a2⟩ := lay_rd r h.1
    obtain ⟨b1, b2⟩ := lay_rds rs h.2
    refine ⟨?_, ?_⟩
    · show (PyData.canLay0 r.d && PyData.canLayAll0 (rdsD rs)) = true
      rw [a1, b1]; rfl
    · show max (PyData.depth r.d) (PyData.depthAll (rdsD rs)) ≤ 2 * max r.dep (rdsDep rs)
      omega
end
theorem shaped_rds {rs : List Rd} (h : rdsOk rs) (hd : rdsDep rs ≤ 20) : SeqAt.shaped (.list (rdsD rs)) = true := by
  obtain ⟨a1, a2⟩ := lay_rds rs h
  unfold SeqAt.shaped
  rw [Bool.and_eq_true, decide_eq_true_iff]
  exact ⟨a1, by show PyData.depthAll (rdsD rs) + 1 ≤ 64; omega⟩
mutual
theorem tame_rd : ∀ (r : Rd) (n : Nat), tame n r.d = true
  | r, 0 => by cases r <;> rfl
  | .word s, n + 1 => rfl
  | .name n s, m + 1 => by
    show (tame m (.int n) && (tame m (.str s) && true)) = true
    cases m <;> rfl
  | .beh r s, n + 1 => by
    show (tame n r.d && (tame n s.d && true)) = true
    rw [tame_rd r, tame_rd s]; rfl
  | .eit b r, n + 1 => by
    show (tame n (.int (b01 b)) && (tame n r.d && true)) = true
    rw [tame_rd r]
    cases n <;> rfl
  | .rnd true rs, n + 1 => by
    show ((rdsD rs).all (tame n) && true) = true
    rw [tame_rds rs]; rfl
  | .rnd false rs, n + 1 => by
    show ((rdsD rs).all (tame n) && true) = true
    rw [tame_rds rs]; rfl
theorem tame_rds : ∀ (rs : List Rd) (n : Nat), (rdsD rs).all (tame n) = true
  | [], _ => rfl
  | r :: rs, n => by
    show (tame n r.d && (rdsD rs).all (tame n)) = true
    rw [tame_rd r, tame_rds rs]; rfl
end
/-- what the law hands on -/
def Odd (d : PyData) : Prop := small d = true ∧ ∀ n, tame n d = true
theorem odd_rd {r : Rd} (h : r.ok) : Odd r.d := ⟨rd_small r h, tame_rd r⟩
theorem smalls_all : ∀ {ds : List PyData}, (∀ d ∈ ds, small d = true) → smalls ds = true
  | [], _ => rfl
  | d :: ds, h => by
    show (small d && smalls ds) = true
    rw [h d List.mem_cons_self, smalls_all fun e he => h e (List.mem_cons_of_mem _ he)]; rfl
theorem odd_rnd {ds : List PyData} (hl : ds.length ≤ 10) (h : ∀ d ∈ ds, Odd d) : Odd (.tuple [.str "round", .list ds]) := by
  refine ⟨?_, fun n => ?_⟩
  · show (true && (true && ((decide (ds.length ≤ 10) && smalls ds) && true))) = true
    rw [decide_eq_true hl, smalls_all fun d hd => (h d hd).1]; rfl
  · cases n with
    | zero => rfl
    | succ n =>
      show (ds.all (tame n) && true) = true
      rw [List.all_eq_true.mpr fun d hd => (h d hd).2 n]; rfl
theorem odd_eit {b : Int} {d : PyData} (h : Odd d) : Odd (.tuple [.str "either", .int b, d]) := by
  refine ⟨?_, fun n => ?_⟩
  · show (true && (true && (true && (small d && true)))) = true
    rw [h.1]; rfl
  · cases n with
    | zero => rfl
    | succ n =>
      show (tame n (.int b) && (tame n d && true)) = true
      rw [h.2]
      cases n <;> rfl
theorem odd_beh {d e : PyData} (h : Odd d) (h2 : Odd e) : Odd (.tuple [.str "behind", d, e]) := by
  refine ⟨?_, fun n => ?_⟩
  · show (true && (true && (small d && (small e && true)))) = true
    rw [h.1, h2.1]; rfl
  · cases n with
    | zero => rfl
    | succ n =>
      show (tame n d && (tame n e && true)) = true
      rw [h.2, h2.2]; rfl
theorem rdsFew_mem : ∀ {rs : List Rd} {r : Rd}, rdsFew rs → r ∈ rs → r.few
  | [], _, _, h => by simp at h
  | s :: rs, r, h, hm => by
    rcases List.mem_cons.mp hm with rfl | hm
    · exact h.1
    · exact rdsFew_mem h.2 hm
theorem eqv_rds {rs : List Rd} : PyData.eqv (.list (rdsD rs)) (.list []) = rs.isEmpty := by cases rs <;> rfl
theorem dps_take {K : PySem.W.Frag} {H : Hp} : ∀ {ds : List PyData} {vs : List V} (n : Nat), DpAll K H vs ds → DpAll K H (vs.take n) (ds.take n)
  | _, _, 0, _ => by simpa using DpAll.nil
  | _, _, n + 1, .nil => by simpa using DpAll.nil
  | _, _, n + 1, .cons h1 h2 => .cons h1 (dps_take n h2)
theorem dps_drop {K : PySem.W.Frag} {H : Hp} : ∀ {ds : List PyData} {vs : List V} (n : Nat), DpAll K H vs ds → DpAll K H (vs.drop n) (ds.drop n)
  | _, _, 0, h => by simpa using h
  | _, _, n + 1, .nil => by simpa using DpAll.nil
  | _, _, n + 1, .cons h1 h2 => dps_drop n h2
theorem cut_two {vs : List V} {d : Nat} (hl : vs.length ≤ 2) (hd : d < vs.length) : cutV vs none (some (d : Int)) = vs.take d ∧ cutV vs (some ((d : Int) + 1)) none = vs.drop (d + 1) := by
  match vs, d, hl, hd with
  | [x], 0, _, _ => exact ⟨rfl, rfl⟩
  | [x, y], 0, _, _ => exact ⟨rfl, rfl⟩
  | [x, y], 1, _, _ => exact ⟨rfl, rfl⟩
  | [x], n + 1, _, h => exact absurd h (by show ¬ (n + 1 < 1); omega)
  | [x, y], n + 2, _, h => exact absurd h (by show ¬ (n + 2 < 2); omega)
  | _ :: _ :: _ :: _, _, h, _ => simp at h
section
variable {P : Program} {w : World} {K : PySem.W.Frag} {mg : Str → Option Value} {base : Heap}
def sp_law_bent (K : PySem.W.Frag) (n : Nat) : Sp := fun vs H Q _ => ∃ (a : Addr) (M : List Addr) (v : V) (o : Addr) (r : Rd) (us : List V) (ods : List PyData), vs = [.ref a, v, .ref o] ∧ a ∈ M ∧ MOn M H ∧ Pot H a ∧ Dp K (hid M H) v r.d ∧ r.ok ∧ r.few ∧ r.dep ≤ n ∧ SqL K (hid M H) o us ∧ DpAll K (hid M H) us ods ∧ ods ≠ [] ∧ ods.length < 1000 ∧ (∀ d ∈ ods, Odd d) ∧
  ∀ u d H', Px a H H' → Dp K (hid M H') u d → Odd d → Q u H'
abbrev sgLB : List Str := ["_law_pot_here", "_law_reading_here", "_law_odds", "_law_kind", "_law_way", "_law_some", "_law_at"]
theorem c_law_bent (T : Txt K mg) : ∀ n : Nat, n ≤ 5 → Cal P w K mg base (n + 2) "_law_bent" ["_law_pot_here", "_law_reading_here", "_law_odds"] (sp_law_bent K n)
  | 0, _ => Cal.none_ T.g_law_bent T.b_law_bent fun vs H Q E ⟨a, M, v, o, r, us, ods, _, _, _, _, _, _, _, h, _⟩ => by have := dep_pos r; omega
  | n + 1, h5 => by
    have S : FnScope sgLB ["_law_pot_here", "_law_reading_here", "_law_odds"] (defScope s_law_bent) := fsc (by decide +kernel)
    refine Cal.of T.g_law_bent T.b_law_bent S (fun vs H Q E h => ?_) fun cdv A outer s H vs Q E hr h => ?_
    · obtain ⟨a, M, v, o, r, us, ods, rfl, _⟩ := h; rfl
    have hu := hr.units
    obtain ⟨a, M, v, o, r, us, ods, rfl, ha, hM, hpot, hd, hok, hfew, hn, hS, hus, hne, hlen, hodd, q⟩ := h
    have C := c_law_bent T n (by omega)
    refine ⟨_, (pss_cons (ps_set (i := 3) S.nd rfl (.inl rfl) (pe_ix ix_tup (pv 1) pe_int (fun _ _ => rfl)))
    (pss_cons (ps_set (i := 4) S.nd rfl (.inl rfl) (pc (c_law_draw T) hr (pa_cons (pv 0) (pa_cons (pe_int) pa_nil)) (by omega)))
    (pss_cons (ps_if (PW.pt (pw_or (pt_cmpR op_eq (pv 4) pe_int (nomark _)) (pw_or1 (pt_cmpR op_in_seq (pv 3) (pe_lst (pa_cons (pe_str) (pa_cons (pe_str) pa_nil))) rfl)))) (pss_one (ps_ret (pc (c_law_pick T) hr (pa_cons (pv 0) (pa_cons (pv 2) pa_nil)) (by omega)))) pss_nil)
    (pss_cons (ps_if (pt_cmpR op_eq (pv 3) pe_str (nomark _)) (pss_cons (ps_set (i := 5) S.nd rfl (.inl rfl) (pe_callTy call_list_of rfl T.zlist (by decide +kernel) (pa_cons (pe_ix ix_tup (pv 1) pe_int (fun _ _ => rfl)) pa_nil)))
    (pss_cons (ps_if (PW.pt (pw_or (pt_cmpR (op_eqD hu) (pv 5) (pe_lst pa_nil) rfl) (pw_or1 (pt_cmpR op_eq (pv 4) pe_int (nomark _))))) (pss_one (ps_ret (pe_tup (pa_cons (pe_str) (pa_cons (pe_op op_cat (pv 5) (pe_lst (pa_cons (pc (c_law_pick T) hr (pa_cons (pv 0) (pa_cons (pv 2) pa_nil)) (by omega)) pa_nil))) pa_nil))))) pss_nil)
    (pss_cons (ps_set (i := 6) S.nd rfl (.inl rfl) (pc (c_law_draw T) hr (pa_cons (pv 0) (pa_cons (pe_callB call_len_seq rfl T.zlen boot_len (pa_cons (pv 5) pa_nil)) pa_nil)) (by omega)))
    (pss_one (ps_ret (pe_tup (pa_cons (pe_str) (pa_cons (pe_op op_cat (pe_op op_cat (pe_slice sl_list (pv 5) po_none (po_some (pv 6))) (pe_lst (pa_cons (pc C hr (pa_cons (pv 0) (pa_cons (pe_ix ix_list (pv 5) (pv 6) (fun _ _ => rfl)) (pa_cons (pv 2) pa_nil))) (Nat.le_refl _)) pa_nil))) (pe_slice sl_list (pv 5) (po_some (pe_op op_add (pv 6) pe_int)) po_none)) pa_nil)))))))) pss_nil)
    (pss_cons (ps_if (pt_cmpR op_eq (pv 3) pe_str (nomark _)) (pss_one (ps_ret (pe_ifExp (pt_cmpR op_eq (pv 4) pe_int (nomark _)) (pe_tup (pa_cons (pe_str) (pa_cons (pe_op op_sub pe_int (pe_ix ix_tup (pv 1) pe_int (fun _ _ => rfl))) (pa_cons (pe_ix ix_tup (pv 1) pe_int (fun _ _ => rfl)) pa_nil)))) (pe_tup (pa_cons (pe_str) (pa_cons (pe_ix ix_tup (pv 1) pe_int (fun _ _ => rfl)) (pa_cons (pc C hr (pa_cons (pv 0) (pa_cons (pe_ix ix_tup (pv 1) pe_int (fun _ _ => rfl)) (pa_cons (pv 2) pa_nil))) (Nat.le_refl _)) pa_nil))))))) pss_nil)
    (pss_cons (ps_if (pt_cmpR op_eq (pv 4) pe_int (nomark _)) (pss_one (ps_ret (pe_tup (pa_cons (pe_str) (pa_cons (pe_ix ix_tup (pv 1) pe_int (fun _ _ => rfl)) (pa_cons (pe_ix ix_tup (pv 1) pe_int (fun _ _ => rfl)) pa_nil)))))) pss_nil)
    (pss_one (ps_ret (pe_tup (pa_cons (pe_str) (pa_cons (pc C hr (pa_cons (pv 0) (pa_cons (pe_ix ix_tup (pv 1) pe_int (fun _ _ => rfl)) (pa_cons (pv 2) pa_nil))) (Nat.le_refl _)) (pa_cons (pe_ix ix_tup (pv 1) pe_int (fun _ _ => rfl)) pa_nil)))))))))))), ?_⟩
    have pick : ∀ (H1 : Hp) (Q1 : VK), Px a H H1 → (∀ x d, x ∈ us → Dp K (hid M H1) x d → Odd d → RetP a H1 Q1 x) → sp_law_pick K [.ref a, .ref o] H1 Q1 E0 := fun H1 Q1 e1 q1 => by
      have hl := dpsLen hus
      refine ⟨a, o, us, rfl, e1.2, Same.seq ((hid_px e1 ha).trans (hid_off ha)) hS, fun z => hne (List.eq_nil_of_length_eq_zero (by rw [← hl, z]; rfl)), by omega, fun x hx => ?_⟩
      obtain ⟨i, hi⟩ := List.getElem?_of_mem hx
      obtain ⟨d, h1, h2⟩ := dpsGetV hus hi
      exact q1 x d hx (dpOn h2 (hid_px e1 ha)) (hodd d (List.mem_of_getElem? h1))
    have bent : ∀ (H1 : Hp) (v1 : V) (r1 : Rd) (Q1 : VK), Px a H H1 → Dp K (hid M H) v1 r1.d → r1.ok → r1.few → r1.dep ≤ n → (∀ u d H', Px a H1 H' → Dp K (hid M H') u d → Odd d → Q1 u H') → sp_law_bent K n [.ref a, v1, .ref o] H1 Q1 E0 := fun H1 v1 r1 Q1 e1 h1 h2 h3 h4 q1 =>
      ⟨a, M, v1, o, r1, us, ods, rfl, ha, hM.px e1, e1.2, dpOn h1 (hid_px e1 ha), h2, h3, h4, Same.seq (hid_px e1 ha) hS, dpsOn hus (hid_px e1 ha), hne, hlen, hodd, q1⟩
    obtain ⟨b, xs, rfl, hT, hk⟩ := rd_top hd
    refine ⟨_, rfl, b, _, _, _, rfl, rfl, hidTup hT, hk, _, rfl, a, 4, rfl, by decide, by decide, hpot, fun way hway H1 e1 => ?_⟩
    have hT1 : SqT K H1 b xs := hidTup (Same.tup (hid_px e1 ha) hT)
    have out : sp_law_pick K [.ref a, .ref o] H1 Q E0 := pick H1 Q e1 fun x d _ hx ho H2 e2 => q x d H2 (e1.trans e2) (dpOn hx (hid_px e2 ha)) ho
    refine ⟨_, rfl, rfl, _, rfl, ?_⟩
    by_cases hw0 : way = 0
    · exact intT (by omega) ⟨_, rfl, _, rfl, out⟩
    refine intF (by omega) ⟨_, rfl, le2, fun t ht => ⟨t, _, rfl, .inl (sl upd_same), rfl, rfl, _, rfl, ?_⟩⟩
    have e2 : Px a H (upd H1 t (.lst [.str "word", .str "name"])) := e1.trans (Px.new e1.2 ht _)
    have hM2 := hM.px e2
    cases r with
    | word z => exact ifT (by simp only [Rd.kind]; decide +kernel) ⟨_, rfl, _, rfl, pick _ Q e2 fun x d _ hx ho H2 e3 => q x d H2 (e2.trans e3) (dpOn hx (hid_px e3 ha)) ho⟩
    | name n z => exact ifT (by simp only [Rd.kind]; decide +kernel) ⟨_, rfl, _, rfl, pick _ Q e2 fun x d _ hx ho H2 e3 => q x d H2 (e2.trans e3) (dpOn hx (hid_px e3 ha)) ho⟩
    | beh r1 r2 =>
      obtain ⟨b', xs', e, hT', hx⟩ := dp_tup hd
      cases e
      obtain ⟨v0, v1, v2, rfl, h0, h1, h2⟩ := dps3 hx
      have hn' : max r1.dep r2.dep + 1 ≤ n + 1 := hn
      have hT2 : SqT K _ b _ := hidTup (Same.tup (hid_px e2 ha) hT')
      have h1' := dpOn h1 (hid_px e2 ha)
      have h2' := dpOn h2 (hid_px e2 ha)
      obtain rfl := dp_str h0
      refine ifF (by simp only [Rd.kind]; decide +kernel) ⟨_, rfl, rfl, _, rfl, strF (by simp only [Rd.kind]; decide) ⟨_, rfl, rfl, _, rfl, strF (by simp only [Rd.kind]; decide) ⟨_, rfl, rfl, _, rfl, ?_⟩⟩⟩
      by_cases hw1 : way = 1
      · refine intT (by omega) ⟨_, rfl, b, _, _, _, rfl, rfl, hT2, rfl, _, rfl, b, _, _, _, rfl, rfl, hT2, rfl, le3, fun t2 ht2 => ?_⟩
        exact q _ _ _ (e2.trans (Px.new e2.2 ht2 _)) (dpM_tup hM2 ht2 (.cons (.str _) (.cons h2' (.cons h1' .nil)))) (odd_beh (odd_rd hok.2) (odd_rd hok.1))
      · refine intF (by omega) ⟨_, rfl, _, rfl, b, _, _, _, rfl, rfl, hT2, rfl, _, rfl, bent _ v1 r1 _ e2 h1 hok.1 hfew.1 (by omega) fun u d H3 e3 hu ho => ?_⟩
        refine ⟨_, rfl, b, _, _, _, rfl, rfl, hidTup (Same.tup (hid_px (e2.trans e3) ha) hT'), rfl, le3, fun t2 ht2 => ?_⟩
        exact q _ _ _ ((e2.trans e3).trans (Px.new e3.2 ht2 _)) (dpM_tup (hM2.px e3) ht2 (.cons (.str _) (.cons hu (.cons (dpOn h2' (hid_px e3 ha)) .nil)))) (odd_beh ho (odd_rd hok.2))
    | eit c r1 =>
      obtain ⟨b', xs', e, hT', hx⟩ := dp_tup hd
      cases e
      obtain ⟨v0, v1, v2, rfl, h0, h1, h2⟩ := dps3 hx
      have hn' : r1.dep + 1 ≤ n + 1 := hn
      have hT2 : SqT K _ b _ := hidTup (Same.tup (hid_px e2 ha) hT')
      have h2' := dpOn h2 (hid_px e2 ha)
      obtain rfl := dp_str h0
      obtain rfl := dp_int h1
      refine ifF (by simp only [Rd.kind]; decide +kernel) ⟨_, rfl, rfl, _, rfl, strF (by simp only [Rd.kind]; decide) ⟨_, rfl, rfl, _, rfl, strT rfl ⟨_, rfl, rfl, _, rfl, ?_⟩⟩⟩
      by_cases hw1 : way = 1
      · refine intT (by omega) ⟨_, rfl, b, _, _, _, rfl, rfl, hT2, rfl, _, _, rfl, rfl, _, rfl, b, _, _, _, rfl, rfl, hT2, rfl, le3, fun t2 ht2 => ?_⟩
        exact q _ _ _ (e2.trans (Px.new e2.2 ht2 _)) (dpM_tup hM2 ht2 (.cons (.str _) (.cons (.int _) (.cons h2' .nil)))) (odd_eit (odd_rd hok))
      · refine intF (by omega) ⟨_, rfl, b, _, _, _, rfl, rfl, hT2, rfl, _, rfl, _, rfl, b, _, _, _, rfl, rfl, hT2, rfl, _, rfl, bent _ v2 r1 _ e2 h2 hok hfew (by omega) fun u d H3 e3 hu ho => ⟨le3, fun t2 ht2 => ?_⟩⟩
        exact q _ _ _ ((e2.trans e3).trans (Px.new e3.2 ht2 _)) (dpM_tup (hM2.px e3) ht2 (.cons (.str _) (.cons (.int _) (.cons hu .nil)))) (odd_eit ho)
    | rnd t' rs =>
      obtain ⟨rfl, hl2, hf2⟩ := hfew
      obtain ⟨b', xs', e, hT', hx⟩ := dp_tup hd
      cases e
      obtain ⟨v0, v1, rfl, h0, h1⟩ := dps2 hx
      have hn' : rdsDep rs + 1 ≤ n + 1 := hn
      have hT2 : SqT K _ b _ := hidTup (Same.tup (hid_px e2 ha) hT')
      obtain rfl := dp_str h0
      obtain ⟨c, vs, rfl, hc, hvs⟩ := dp_lst h1
      have hvl := dpsLen hvs
      rw [rdsD_eq, List.length_map] at hvl
      have hrs : ∀ d ∈ rdsD rs, Odd d := fun d hd => by
        rw [rdsD_eq] at hd
        obtain ⟨r, hr, rfl⟩ := List.mem_map.mp hd
        exact odd_rd (rdsOk_mem hok.2 hr)
      refine ifF (by simp only [Rd.kind]; decide +kernel) ⟨_, rfl, rfl, _, rfl, strT rfl ⟨_, rfl, b, _, _, _, rfl, rfl, hT2, rfl, c, vs, rfl, .inl (hidSeq (Same.seq (hid_px e2 ha) hc)), fun l hl => ?_⟩⟩
      have hla : l ≠ a := e2.2.ne hl
      have e3 := e2.trans (Px.new e2.2 hl (.lst vs))
      refine ⟨_, rfl, le0, fun t2 ht2 => ?_⟩
      have e4 := e3.trans (Px.new e3.2 ht2 (.lst []))
      have hl4 := (Px.new e3.2 ht2 (.lst [])).lst (upd_same (a := l) (o := .lst vs)) hla
      have hM4 := hM.px e4
      refine ⟨.list (rdsD rs), .list [], .lst (sl hl4) (dpsOn hvs ((hid_px e4 ha).trans hid_le)), .lst (sl upd_same) .nil, shaped_rds hok.2 (by omega), shaped_rds (rs := []) True.intro (Nat.zero_le _), _, rfl, ?_⟩
      rw [eqv_rds]
      have add : ∀ (x : V) (d : PyData) (H5 : Hp), Px a H H5 → Dp K (hid M H5) x d → Odd d → ∀ l2, H5 l2 = none → ∀ l3, upd H5 l2 (.lst [x]) l3 = none → ∀ t3, upd (upd H5 l2 (.lst [x])) l3 (.lst (vs ++ [x])) t3 = none → Q (.ref t3) (upd (upd (upd H5 l2 (.lst [x])) l3 (.lst (vs ++ [x]))) t3 (.tup [.str "round", .ref l3])) := fun x d H5 e5 hx ho l2 hl2' l3 hl3 t3 ht3 => by
        have e6 := e5.trans (Px.new e5.2 hl2' (.lst [x]))
        have e7 := e6.trans (Px.new e6.2 hl3 (.lst (vs ++ [x])))
        refine q _ (.tuple [.str "round", .list (rdsD rs ++ [d])]) _ (e7.trans (Px.new e7.2 ht3 _)) (dpM_tup (hM.px e7) ht3 (.cons (.str _) (.cons (dpM_lst (hM.px e6) hl3 (dps_app (dpsOn hvs (hid_px e6 ha)) (.cons (dpOn hx (hid_same (same_new hl2' _))) .nil))) .nil))) (odd_rnd ?_ fun y hy => ?_)
        · rw [List.length_append, rdsD_eq, List.length_map]
          show rs.length + 1 ≤ 10
          omega
        · rcases List.mem_append.mp hy with hy | hy
          · exact hrs y hy
          · rw [List.mem_singleton.mp hy]; exact ho
      cases hem : rs.isEmpty with
      | true =>
        refine iteT ⟨_, rfl, _, rfl, _, rfl, pick _ _ e4 fun x d _ hx ho H5 e5 => ⟨le1, fun l2 hl2' => ?_⟩⟩
        have h5 := (e5.trans (Px.new e5.2 hl2' (.lst [x]))).lst hl4 hla
        exact ⟨l, l2, _, _, rfl, rfl, h5, upd_same, szl (by show vs.length + 1 ≤ 1000000; omega), fun l3 hl3 => ⟨le2, fun t3 ht3 => add x d H5 (e4.trans e5) (dpOn hx (hid_px e5 ha)) ho l2 hl2' l3 hl3 t3 ht3⟩⟩
      | false =>
      refine iteF ⟨_, rfl, rfl, _, rfl, ?_⟩
      by_cases hw1 : way = 1
      · refine intT (by omega) ⟨_, rfl, _, rfl, _, rfl, pick _ _ e4 fun x d _ hx ho H5 e5 => ⟨le1, fun l2 hl2' => ?_⟩⟩
        have h5 := (e5.trans (Px.new e5.2 hl2' (.lst [x]))).lst hl4 hla
        exact ⟨l, l2, _, _, rfl, rfl, h5, upd_same, szl (by show vs.length + 1 ≤ 1000000; omega), fun l3 hl3 => ⟨le2, fun t3 ht3 => add x d H5 (e4.trans e5) (dpOn hx (hid_px e5 ha)) ho l2 hl2' l3 hl3 t3 ht3⟩⟩
      have hpos : 0 < vs.length := by
        cases rs with
        | nil => cases hem
        | cons _ _ => rw [hvl]; simp
      refine intF (by omega) ⟨_, rfl, _, rfl, l, vs, rfl, .inl (sl hl4), a, vs.length, rfl, hpos, by omega, e4.2, fun d hd H5 e5 => ?_⟩
      have e05 := e4.trans e5
      have hl5 := e5.lst hl4 hla
      obtain ⟨c1, c2⟩ := cut_two (by omega) hd
      refine ⟨_, rfl, _, rfl, _, rfl, l, vs, rfl, sl hl5, fun l1 hl1 => ?_⟩
      have p6 := Px.new e5.2 hl1 (.lst (cutV vs none (some (d : Int))))
      have e06 := e05.trans p6
      have hl6 := p6.lst hl5 hla
      have hrd : d < rs.length := by omega
      obtain ⟨vd, hvd1, hvd2⟩ := dpsGet hvs (by rw [rdsD_eq, List.getElem?_map, List.getElem?_eq_getElem hrd]; rfl : (rdsD rs)[d]? = some (rs[d]).d)
      have hmem := List.getElem_mem hrd
      have hl1a : l1 ≠ a := e5.2.ne hl1
      refine ⟨_, rfl, _, rfl, _, rfl, l, vs, _, vd, rfl, rfl, sl hl6, atI_nat hvd1, _, rfl, bent _ vd rs[d] _ e06 hvd2 (rdsOk_mem hok.2 hmem) (rdsFew_mem hf2 hmem) (by have := rdsDep_mem hmem; omega) fun u dd H7 e7 hu ho => ⟨le1, fun l2 hl2' => ?_⟩⟩
      have p8 := Px.new e7.2 hl2' (.lst [u])
      have e08 := (e06.trans e7).trans p8
      have h1 := (e7.trans p8).lst (upd_same (a := l1) (o := .lst (cutV vs none (some (d : Int))))) hl1a
      refine ⟨l1, l2, _, _, rfl, rfl, h1, upd_same, szl (by rw [c1, List.length_take]; show _ + 1 ≤ 1000000; omega), fun l3 hl3 => ?_⟩
      rw [c1]
      have p9 := Px.new e08.2 hl3 (.lst (vs.take d ++ [u]))
      have e09 := e08.trans p9
      have hl9 := ((e7.trans p8).trans p9).lst hl6 hla
      have hl3a : l3 ≠ a := e08.2.ne hl3
      refine ⟨_, rfl, _, rfl, _, _, rfl, rfl, _, rfl, l, vs, rfl, sl hl9, fun l4 hl4' => ?_⟩
      rw [c2]
      have p10 := Px.new e09.2 hl4' (.lst (vs.drop (d + 1)))
      have e10 := e09.trans p10
      refine ⟨l3, l4, _, _, rfl, rfl, p10.lst upd_same hl3a, upd_same, szl (by rw [List.length_append, List.length_take, List.length_drop]; show _ + 1 + _ ≤ 1000000; omega), fun l5 hl5' => ⟨le2, fun t5 ht5 => ?_⟩⟩
      have p11 := Px.new e10.2 hl5' (.lst (vs.take d ++ [u] ++ vs.drop (d + 1)))
      have e11 := e10.trans p11
      have hvs10 := dpsOn hvs (hid_px e10 ha)
      refine q _ (.tuple [.str "round", .list ((rdsD rs).take d ++ [dd] ++ (rdsD rs).drop (d + 1))]) _ (e11.trans (Px.new e11.2 ht5 _)) (dpM_tup (hM.px e11) ht5 (.cons (.str _) (.cons (dpM_lst (hM.px e10) hl5' (dps_app (dps_app (dps_take d hvs10) (.cons (dpOn hu (hid_px ((p8.trans p9).trans p10) ha)) .nil)) (dps_drop (d + 1) hvs10))) .nil))) (odd_rnd ?_ fun y hy => ?_)
      · simp only [List.length_append, List.length_take, List.length_drop, List.length_singleton]
        rw [rdsD_eq, List.length_map]
        omega
      · rcases List.mem_append.mp hy with hy | hy
        · rcases List.mem_append.mp hy with hy | hy
          · exact hrs y (List.mem_of_mem_take hy)
          · rw [List.mem_singleton.mp hy]; exact ho
        · exact hrs y (List.mem_of_mem_drop hy)
end
end K44
end
section
set_option maxHeartbeats 4000000
namespace K44
open PySem PySem.Spec PyProof.Rows L2 LamX NdefX
section
variable {P : Program} {w : World} {K : PySem.W.Frag} {mg : Str → Option Value} {base : Heap}
/-! ### the closure of the law -/
def s_piece : Stmt := (defBody s_law_right).getD 3 pass0
abbrev pieceF (cl : List (Str × Addr)) (c : Addr) : NF := NF.of s_piece "_law_is_piece" "_law_right.<locals>._law_is_piece" cl c
theorem inV_str {z : Str} {ws : List Str} : inV (.str z) (ws.map V.str) = decide (z ∈ ws) := by
  unfold inV
  rw [List.any_map, Bool.eq_iff_iff, List.any_eq_true, decide_eq_true_iff]
  constructor
  · rintro ⟨x, hx, e⟩
    have e' : (x == z) = true := e
    rw [beq_iff_eq] at e'
    rw [← e']; exact hx
  · intro h
    exact ⟨z, h, by show (z == z) = true; rw [beq_iff_eq]⟩
def sp_piece (K : PySem.W.Frag) : List (Option V) → Sp := fun ws vs H Q _ => ∃ (F : V) (fl : List (List Str)) (n : Nat) (u : V) (d : PyData), ws = [some F] ∧ vs = [.int n, u] ∧ Dp K H F (flD fl) ∧ fl.length = 2 ∧ n < 2 ∧ Dp K H u d ∧ Ret H Q (.bl (pieceD fl n d))
theorem n_piece (T : Txt K mg) (f c' : Addr) (cl : List (Str × Addr)) : NOk P w K mg base CX0 1 f (pieceF cl c') ["_law_name", "_law_word_here"] ["_law_filling"] (sp_piece K) := by
  have S : NScC ["_law_name", "_law_word_here", "_law_filling"] ["_law_name", "_law_word_here"] ["_law_filling"] (C8.fnScope s_piece) := nscC (by decide +kernel)
  refine nokC S (fun doc pm ctv us hl => ?_) (fun ws vs H Q E h => ?_) fun A outer s H vs ws Q E hr C h => ?_
  · match us, hl with
    | [a, b], _ => rfl
  · obtain ⟨F, fl, n, u, d, _, rfl, _⟩ := h; rfl
  obtain ⟨F, fl, n, u, d, rfl, rfl, hF, hl2, hn, hd, q⟩ := h
  refine ⟨_, (pss_one (ps_ret (pe_and (pe_is T.zisinstance T.zstr (by decide +kernel) kit_str (pv 1)) (pe_one (pe_cmpR op_in_seq (pv 1) (pe_ix ix_list (pv 2) (pv 0) (fun _ _ => rfl)) rfl))))), ?_⟩
  refine ⟨_, rfl, u, knd d, rfl, ty_of hd, _, rfl, ?_⟩
  cases d with
  | dict _ => cases hd
  | str z =>
    obtain rfl := dp_str hd
    obtain ⟨c, us, rfl, hS, hus⟩ := dp_lst hF
    have hk : n < fl.length := by omega
    obtain ⟨w1, hw1, hw⟩ := dpsGet hus (by rw [List.getElem?_map, List.getElem?_eq_getElem hk]; rfl : (fl.map wsD)[n]? = some (wsD fl[n]))
    obtain ⟨l, vs, rfl, hl, hvs⟩ := dp_lst hw
    obtain rfl := dps_strs hvs
    refine iteT ⟨_, rfl, _, rfl, _, rfl, c, us, _, _, rfl, rfl, hS, atI_nat hw1, l, _, rfl, .inl hl, rfl, ?_, ?_⟩
    · rw [List.all_map]
      exact List.all_eq_true.mpr fun _ _ => rfl
    · show Q (.bl (inV (.str z) (fl[n].map V.str))) H
      rw [inV_str]
      have e : pieceD fl n (.str z) = decide (z ∈ fl[n]) := by
        show decide (z ∈ fl.getD n []) = _
        rw [List.getD_eq_getElem?_getD, List.getElem?_eq_getElem hk]; rfl
      rw [e] at q
      exact q.here
  | _ => exact iteF q.here
end
section
variable {X : Cx} {CX : CXT} {k : Nat} {f : Addr} {fd : FuncData} {ps ks : List Str} {sp : Sp} {E : XK} {x : Str} {p pos : Pos} {kws : List Keyword} {tk : TA} {g : List Value → List Value → List Value} {gV : List V → List V → List V}
/-- keywords only -/
theorem pe_calln0 (F : FnOk X.prog X.w X.K X.mg X.base CX k f fd ps sp) (hr : Room k X.A) (hg : Gl X x) (hm : X.mg x = some (.ref f)) (hk : PySem.W.keepIn X.K (.ref f) = true) (hb : KBn X.K fd ps 0 ks g gV) (hx : Passes CX X E) (hkw : PK X kws tk)
    (hal : (backToKw pos (keywordEach kws X.env)).all (·.1.isSome) = true := by rfl) (hns : (backToKw pos (keywordEach kws X.env)).filterMap (·.1) = ks := by rfl) (hdb : (x == ("__debug__" : Str)) = false := by decide)
    (hpl : ((backTo pos (starEach [] X.env)).any (·.1) || (backToKw pos (keywordEach kws X.env)).any (·.1.isNone)) = false := by rfl) : PE X (.Call (.Name x p) [] kws pos) (tCallN 0 ks.length sp gV E tNil tk) :=
  ⟨fun pins s σ H Q I h => wpAny_Call_Name_kw (ld_glob I hg hm (PySem.W.callWith_KW0 (h₀ := X.base) I.ok.mod.kin hk hal
    (thn (hkw.run pos pins s σ H _ I h) fun ws s2 ⟨zs, H2, I2, rz, l1, l2, q2⟩ => ⟨I2.kIn, hns ▸ run_fnN (us := []) (vs := []) F hr hb hx I2 .nil rz rfl l2 q2⟩) hpl) hdb)⟩
/-! ### repr of a list of truth values -/
def boolT (b : Bool) : Str := if b then "True" else "False"
def rReprB (K : PySem.W.Frag) : List V → Hp → VK → Prop := fun xs H Q => ∃ (l : Addr) (b : Bool), xs = [.ref l] ∧ SqL K H l [.bl b, .bl b] ∧ Q (.str (listText [boolT b, boolT b])) H
theorem fits_bb (b : Bool) : (listText [boolT b, boolT b]).length ≤ sizeLine := szl (by cases b <;> decide +kernel)
theorem call_reprB (hg : X.A.guards = some []) (hu : X.A.units + 1 < cLine) : CallR X (.builtin "repr") (rReprB X.K) := by
  intro pins s σ H xs us Q I r h
  obtain ⟨l, b, rfl, hl, q⟩ := h
  obtain ⟨u, rfl, ru⟩ := vals1 r
  cases ru
  obtain ⟨its, rv, pl, hz⟩ := I.list hl
  obtain ⟨x, y, rfl, rx, ry⟩ := vals2 rv
  cases rx
  cases ry
  obtain ⟨o, n, ho, hc, _, hd⟩ := pl
  refine call_repr_slot hu ⟨o, ho, hc⟩ F.slot_list_repr.toG (call_list_repr ⟨o, ho, hc⟩ hg (fun v rest kw z => by cases z) ho hd (ts := [boolT b, boolT b]) rfl (fun i z hz => ?_) (fun h' u tk hk => ⟨_, _, rfl, .str _, H, I.kept hk, ⟨_, rfl⟩, q⟩) (fits_bb b))
  match i, hz with
  | 0, hz => cases hz; exact ⟨_, rfl, ReprIs.bool b⟩
  | 1, hz => cases hz; exact ⟨_, rfl, ReprIs.bool b⟩
end
end K44
end
section
set_option maxHeartbeats 4000000
/-! Defs that run while nothing is being shown. -/
namespace K44
open PySem PySem.Spec PyProof.Rows L2 LamX NdefX
structure FnG (P : Program) (w : World) (K : PySem.W.Frag) (mg : Str → Option Value) (base : Heap) (k : Nat) (f : Addr) (fd : FuncData) (ps : List Str) (sp : Sp) : Prop where
  len : ∀ vs H Q E, sp vs H Q E → vs.length = ps.length
  go : ∀ (A : Around) (outer : List Env) (s : Shared) (H : Hp) (ar : Args) (us : List Value) (vs : List V) (Q : VK), A.guards = some [] → Room k A → Env0 P w K mg base A outer s H → BindsTo s fd ar (ps.zip us) → Vals vs us → sp vs H Q E0 → codeAny (model P w) A (.call (.ref f) ar) (CR CX0 outer P w H s Q E0) s
structure CalG (P : Program) (w : World) (K : PySem.W.Frag) (mg : Str → Option Value) (base : Heap) (k : Nat) (x : Str) (ps : List Str) (sp : Sp) : Prop where
  fn : FnG P w K mg base k (He.ga K x) (fdOf K (He.ga K x)) ps sp
  g : mg x = some (.ref (He.ga K x))
  kp : PySem.W.keepIn K (.ref (He.ga K x)) = true
  b : Binds K (fdOf K (He.ga K x)) ps []
section
variable {P : Program} {w : World} {K : PySem.W.Frag} {mg : Str → Option Value} {base : Heap}
theorem CalG.ofT {x : Str} {st : Stmt} {dvs : List V} {N ps : List Str} {k : Nat} {sp : Sp} (G : Glo K mg x st dvs) (b : Binds K (fdOf K (He.ga K x)) ps []) (S : FnScope N ps (defScope st)) (len : ∀ vs H Q E, sp vs H Q E → vs.length = ps.length)
    (hb : ∀ (A : Around) (outer : List Env) (s : Shared) (H : Hp) (vs : List V) (Q : VK), A.guards = some [] → Room k (A.deeper (envOfC x (defScope st) s.heap.objs.size (He.ga K x) (.ref (He.codeOf K (x, none))))) → sp vs H Q E0 →
      ∃ t, PSs (cxOf CX0 P w K mg base N x (defScope st) (He.ga K x) (.ref (He.codeOf K (x, none))) A outer s H E0).nox (defBody st) t ∧ t { nx := fun _ H' => Q .non H', rt := Q } (start N vs) H) :
    CalG P w K mg base (k + 1) x ps sp := by
  obtain ⟨oc, od, dV, kV, doc, pm, an, cdv, ct, osl, ed, lk, hcd, _, _⟩ := G.F.ex
  obtain ⟨c, rfl⟩ := He.codeIn_ref hcd
  have hc : He.codeOf K (x, none) = c := He.codeOf_eq (p := (x, none)) lk (by rw [ed])
  refine ⟨⟨len, fun A outer s H ar us vs Q hG hr e0 hbi r hs => ?_⟩, G.g, G.F.kp, b⟩
  rw [ed] at lk hbi
  have KX : K.In s.heap := e0.mod.kin.keeps fun b o e => (e0.bs b o e).1
  have lim : s.heap.NoLimit := e0.mod.nolimit.keeps fun b o e => (e0.bs b o e).1
  have kinds : ∀ y ∈ ps.zip us, (defScope st).names.lookup y.1 = some .local ∨ ((defScope st).names.lookup y.1 = some .cell ∧ ((cellsFrom (s.heap.objs.size + 1) (defScope st).names []).lookup y.1).isSome = true) := by
    rintro ⟨n, v⟩ hy
    exact (S.par n (List.of_mem_zip hy).1).imp id fun q => ⟨q, PySem.W.cellsFrom_some _ _ _ (.inl q)⟩
  refine codeAny_call_function hr.depth (KX _ _ lk) rfl S.co S.gen rfl (PySem.W.codeRec_of KX hcd) (hbi _ _ _ _ (wpAny_newFunctionEnv_cells S.kind kinds fun env he s1 xx => ?_))
  subst he
  rw [← hc] at xx ⊢
  obtain ⟨t, ht, hq⟩ := hb A outer s H vs Q hG (hr.deeper _) hs
  have I := inv_start (CX := CX0) (E := E0) S hr.hd e0 (len _ _ _ _ hs) r xx
  refine ⟨lim.keeps xx.toInCall.keep, codeAny_func (wpAny_mono (ht.nox.run [] s1 (start N vs) H _ I hq) (fun fl s' hs' => ?_) fun e s' h => h)⟩
  cases fl with
  | ret u => obtain ⟨v, σ', H', J, rv, q⟩ := hs'; exact ⟨v, H', J.os, J.bare, J.base, J.hok, rv, q⟩
  | next => obtain ⟨σ', H', J, q⟩ := hs'; exact ⟨.non, H', J.os, J.bare, J.base, J.hok, rfl, q⟩
  | brk => obtain ⟨_, _, _, q⟩ := hs'; exact q.elim
  | cont => obtain ⟨_, _, _, q⟩ := hs'; exact q.elim
end
section
variable {X : Cx} {x : Str} {ps : List Str} {j k : Nat} {sp : Sp} {e : Expr} {es : List Expr} {t : TA} {p pos : Pos}
theorem pcG (C : CalG X.prog X.w X.K X.mg X.base j x ps sp) (hG : X.A.guards = some []) (hr : Room k X.A) (ha : PA X (e :: es) t) (hj : j ≤ k := by decide) (hg : Gl X x := by rfl)
    (hdb : (x == ("__debug__" : Str)) = false := by decide) (he : starEach (e :: es) X.env = (false, eval e X.env) :: starEach es X.env := by rfl) (hpl : (backTo pos (starEach es X.env)).any (·.1) = false := by rfl) :
    PE X (.Call (.Name x p) (e :: es) [] pos) (tPc sp t) :=
  ⟨fun pins s σ H Q I h => wpAny_Call_Name_kw (ld_glob I hg C.g (PySem.W.callWith_K (h₀ := X.base) I.ok.mod.kin C.kp (thn (ha.run pos pins s σ H _ I h) fun us s1 ⟨vs, H1, I1, r, q⟩ => ⟨I1.kIn, by
    have hl : (us ++ []).length = ps.length := by rw [List.append_nil, ← r.length]; exact C.fn.len _ _ _ _ q
    have hb := C.b s1 us I1.kIn hl
    rw [List.append_nil] at hb
    refine wpAny_call (codeAny_mono (C.fn.go X.A X.stack s1 H1 ⟨us, []⟩ us vs Q hG (hr.mono hj) I1.env0 hb r q) fun r s' hq => ?_)
    cases r with
    | error e => exact hq.elim
    | ok fl =>
      cases fl with
      | ret u => exact I1.after hq
      | _ => exact hq.elim⟩) he hpl) hdb)⟩
end
end K44
end
section
set_option maxHeartbeats 4000000
/-! Readings: their texts are in the language; what else the law hands on. -/
namespace K44
open PySem PySem.Spec PyProof.Rows L2 LamX NdefX
theorem idx_app (a b : Str) : idx (a ++ b) = idx a ++ idx b := by
  unfold idx
  rw [str_app, List.map_append]
mutual
theorem plang_rd {fl : List (List Str)} : ∀ (p : Pat) (r : Rd), isOf p r = true → (∀ x ∈ r.pcs, x.2 ∈ fl.getD x.1 []) → plang fl p (idx r.rd)
  | .word s, .word z, h, _ => by
    have e : s = z := of_decide_eq_true h
    show idx z = idx s
    rw [e]
  | .name n, .name m z, h, hp => by
    have e : n = m := of_decide_eq_true h
    subst e
    exact List.mem_map.mpr ⟨z, hp (n, z) List.mem_cons_self, rfl⟩
  | .beh p q, .beh r s, h, hp => by
    have h' : (isOf p r && isOf q s) = true := h
    rw [Bool.and_eq_true] at h'
    exact ⟨idx r.rd, idx s.rd, idx_app _ _, plang_rd p r h'.1 fun x hx => hp x (List.mem_append_left _ hx), plang_rd q s h'.2 fun x hx => hp x (List.mem_append_right _ hx)⟩
  | .eit p q, .eit true r, h, hp => .inr (plang_rd q r h hp)
  | .eit p q, .eit false r, h, hp => .inl (plang_rd p r h hp)
  | .rnd p, .rnd _ rs, h, hp => plang_rds p rs h hp
theorem plang_rds {fl : List (List Str)} : ∀ (p : Pat) (rs : List Rd), (rs.map (isOf p)).all id = true → (∀ x ∈ rdsPcs rs, x.2 ∈ fl.getD x.1 []) → Star (plang fl p) (idx (rdsRd rs))
  | _, [], _, _ => .nil
  | p, r :: rs, h, hp => by
    rw [List.map_cons, List.all_cons, Bool.and_eq_true] at h
    show Star (plang fl p) (idx (r.rd ++ rdsRd rs))
    rw [idx_app]
    exact .app (plang_rd p r h.1 fun x hx => hp x (List.mem_append_left _ hx)) (plang_rds p rs h.2 fun x hx => hp x (List.mem_append_right _ hx))
end
mutual
theorem rd_short {L : Nat} {fl : List (List Str)} (hfl : ∀ n : Nat, ∀ z ∈ fl.getD n [], z.length ≤ 2) : ∀ (p : Pat) (r : Rd), isOf p r = true → p.good L → r.few → (∀ x ∈ r.pcs, x.2 ∈ fl.getD x.1 []) → r.rd.length ≤ 2 ^ r.dep
  | .word s, .word z, h, g, _, _ => by
    have e : s = z := of_decide_eq_true h
    have : s.length ≤ 2 := g.1
    show z.length ≤ 2
    rw [← e]; exact this
  | .name n, .name m z, h, g, _, hp => hfl m z (hp (m, z) List.mem_cons_self)
  | .beh p q, .beh r s, h, g, f, hp => by
    have h' : (isOf p r && isOf q s) = true := h
    rw [Bool.and_eq_true] at h'
    have a := rd_short hfl p r h'.1 g.1 f.1 fun x hx => hp x (List.mem_append_left _ hx)
    have b := rd_short hfl q s h'.2 g.2 f.2 fun x hx => hp x (List.mem_append_right _ hx)
    show (r.rd ++ s.rd).length ≤ 2 ^ (max r.dep s.dep + 1)
    rw [sL, Nat.pow_succ]
    have c : 2 ^ r.dep ≤ 2 ^ max r.dep s.dep := Nat.pow_le_pow_right (by decide) (Nat.le_max_left _ _)
    have d : 2 ^ s.dep ≤ 2 ^ max r.dep s.dep := Nat.pow_le_pow_right (by decide) (Nat.le_max_right _ _)
    omega
  | .eit p q, .eit true r, h, g, f, hp => by
    have a := rd_short hfl q r h g.2 f hp
    show r.rd.length ≤ 2 ^ (r.dep + 1)
    rw [Nat.pow_succ]; omega
  | .eit p q, .eit false r, h, g, f, hp => by
    have a := rd_short hfl p r h g.1 f hp
    show r.rd.length ≤ 2 ^ (r.dep + 1)
    rw [Nat.pow_succ]; omega
  | .rnd p, .rnd t rs, h, g, f, hp => by
    have a := rds_short hfl p rs h g f.2.2 hp
    have b : rs.length ≤ 2 := f.2.1
    show (rdsRd rs).length ≤ 2 ^ (rdsDep rs + 1)
    rw [Nat.pow_succ]
    have : rs.length * 2 ^ rdsDep rs ≤ 2 * 2 ^ rdsDep rs := Nat.mul_le_mul_right _ b
    omega
theorem rds_short {L : Nat} {fl : List (List Str)} (hfl : ∀ n : Nat, ∀ z ∈ fl.getD n [], z.length ≤ 2) : ∀ (p : Pat) (rs : List Rd), (rs.map (isOf p)).all id = true → p.good L → rdsFew rs → (∀ x ∈ rdsPcs rs, x.2 ∈ fl.getD x.1 []) → (rdsRd rs).length ≤ rs.length * 2 ^ rdsDep rs
  | _, [], _, _, _, _ => by show Str.empty.length ≤ _; rw [seL]; exact Nat.zero_le _
  | p, r :: rs, h, g, f, hp => by
    rw [List.map_cons, List.all_cons, Bool.and_eq_true] at h
    have a := rd_short hfl p r h.1 g f.1 fun x hx => hp x (List.mem_append_left _ hx)
    have b := rds_short hfl p rs h.2 g f.2 fun x hx => hp x (List.mem_append_right _ hx)
    show (r.rd ++ rdsRd rs).length ≤ (rs.length + 1) * 2 ^ max r.dep (rdsDep rs)
    rw [sL, Nat.succ_mul]
    have c : 2 ^ r.dep ≤ 2 ^ max r.dep (rdsDep rs) := Nat.pow_le_pow_right (by decide) (Nat.le_max_left _ _)
    have d : 2 ^ rdsDep rs ≤ 2 ^ max r.dep (rdsDep rs) := Nat.pow_le_pow_right (by decide) (Nat.le_max_right _ _)
    have e : rs.length * 2 ^ rdsDep rs ≤ rs.length * 2 ^ max r.dep (rdsDep rs) := Nat.mul_le_mul_left _ d
    omega
end
/-- a reading's tuple, item by item -/
def Rd.ks : Rd → List PyData
  | .word s => [.str "word", .str s]
  | .name n s => [.str "name", .int n, .str s]
  | .beh r s => [.str "behind", r.d, s.d]
  | .eit b r => [.str "either", .int (b01 b), r.d]
  | .rnd true rs => [.str "round", .tuple (rdsD rs)]
  | .rnd false rs => [.str "round", .list (rdsD rs)]
theorem Rd.ks_d (r : Rd) : r.d = .tuple r.ks := by
  cases r with
  | rnd t rs => cases t <;> rfl
  | _ => rfl
theorem ks_small {r : Rd} (h : r.ok) : r.ks.length ≤ 3 ∧ 2 ≤ r.ks.length ∧ ∀ d ∈ r.ks, small d = true := by
  have h1 := rd_small r h
  rw [r.ks_d, small, Bool.and_eq_true] at h1
  refine ⟨?_, ?_, fun d hd => smalls_mem h1.2 hd⟩
  · cases r with
    | rnd t rs => cases t <;> exact Nat.le_succ 2
    | word s => exact Nat.le_succ 2
    | _ => exact Nat.le_refl 3
  · cases r with
    | rnd t rs => cases t <;> exact Nat.le_refl 2
    | word s => exact Nat.le_refl 2
    | _ => exact Nat.le_succ 2
theorem odd_list {r : Rd} (h : r.ok) : Odd (.list r.ks) := by
  obtain ⟨h1, _, h2⟩ := ks_small h
  refine ⟨?_, fun n => by cases n <;> rfl⟩
  rw [small, Bool.and_eq_true]
  exact ⟨decide_eq_true (by omega), smalls_all h2⟩
theorem tame_int (n : Nat) (i : Int) : tame n (.int i) = true := by cases n <;> rfl
theorem tame_str (n : Nat) (z : Str) : tame n (.str z) = true := by cases n <;> rfl
theorem odd_plus {r : Rd} (h : r.ok) : Odd (.tuple (r.ks ++ [.int 0])) := by
  obtain ⟨h1, _, h2⟩ := ks_small h
  refine ⟨?_, fun n => ?_⟩
  · rw [small, Bool.and_eq_true]
    refine ⟨decide_eq_true (by rw [List.length_append]; show _ + 1 ≤ 10; omega), smalls_all fun d hd => ?_⟩
    rcases List.mem_append.mp hd with hd | hd
    · exact h2 d hd
    · rw [List.mem_singleton.mp hd]; rfl
  · cases n with
    | zero => rfl
    | succ n =>
      cases r with
      | word s => show (true && (tame n (.int 0) && true)) = true; rw [tame_int]; rfl
      | name m s => show (tame n (.int m) && (tame n (.str s) && (tame n (.int 0) && true))) = true; rw [tame_int, tame_str, tame_int]; rfl
      | beh r s => show (tame n r.d && (tame n s.d && (tame n (.int 0) && true))) = true; rw [tame_rd, tame_rd, tame_int]; rfl
      | eit b r => show (tame n (.int (b01 b)) && (tame n r.d && (tame n (.int 0) && true))) = true; rw [tame_int, tame_rd, tame_int]; rfl
      | rnd t rs =>
        cases t with
        | true => show ((rdsD rs).all (tame n) && (tame n (.int 0) && true)) = true; rw [tame_rds, tame_int]; rfl
        | false => show ((rdsD rs).all (tame n) && (tame n (.int 0) && true)) = true; rw [tame_rds, tame_int]; rfl
theorem odd_cut {r : Rd} (h : r.ok) : Odd (.tuple r.ks.dropLast) := by
  obtain ⟨h1, _, h2⟩ := ks_small h
  refine ⟨?_, fun n => ?_⟩
  · rw [small, Bool.and_eq_true]
    exact ⟨decide_eq_true (by rw [List.length_dropLast]; omega), smalls_all fun d hd => h2 d ((List.dropLast_sublist _).subset hd)⟩
  · cases n with
    | zero => rfl
    | succ n =>
      cases r with
      | word s => rfl
      | name m s => show (tame n (.int m) && true) = true; rw [tame_int]; rfl
      | beh r s => show (tame n r.d && true) = true; rw [tame_rd]; rfl
      | eit b r => show (tame n (.int (b01 b)) && true) = true; rw [tame_int]; rfl
      | rnd t rs => cases t <;> rfl
/-! ### what stays -/
theorem hid_ext {M : List Addr} {H H' : Hp} (e : ExtN H H') : ExtN (hid M H) (hid M H') := fun b u q n => by
  unfold hid at q ⊢
  split at q
  · cases q
  · rename_i hb
    rw [if_neg hb]; exact e b u q n
theorem imm_hid {M : List Addr} {H : Hp} (h : ∀ m ∈ M, ∃ xs, H m = some (.lst xs)) : Imm H (hid M H) := fun b u q n _ => by
  unfold hid
  rw [if_neg fun z => ?_]
  · exact q
  · obtain ⟨xs, hx⟩ := h b z
    rw [hx] at q
    exact n xs (Option.some.inj q).symm
theorem Px.imm {a : Addr} {H H' : Hp} (e : Px a H H') (hp : Pot H a) : Imm H H' := fun b u q n _ => by
  obtain ⟨x, y, hp⟩ := hp
  exact e.lst q fun z => by rw [z, hp] at q; exact n _ (Option.some.inj q).symm
theorem noL_pat : ∀ p : Pat, noL p.d = true
  | .word _ => rfl
  | .name _ => rfl
  | .beh p q => by
    show (true && (noL p.d && (noL q.d && true))) = true
    rw [noL_pat p, noL_pat q]; rfl
  | .eit p q => by
    show (true && (noL p.d && (noL q.d && true))) = true
    rw [noL_pat p, noL_pat q]; rfl
  | .rnd p => by
    show (true && (noL p.d && true)) = true
    rw [noL_pat p]; rfl
theorem tabs_px {T : List NTab} {a : Addr} {H H' : Hp} (h : TabsN T H) (hp : Pot H a) (e : Px a H H') : TabsN T H' := fun p hq => by
  obtain ⟨x, y, hp⟩ := hp
  obtain ⟨ps, h1, h2, h3⟩ := h p hq
  refine ⟨ps, e.lst h1 (fun z => by rw [z, hp] at h1; cases h1), h2, fun pos cv hc => ?_⟩
  obtain ⟨c, e1, e2⟩ := h3 pos cv hc
  exact ⟨c, e1, e.lst e2 fun z => by rw [z, hp] at e2; cases e2⟩
theorem Pot.ext {a : Addr} {H H' : Hp} (h : Pot H a) (e : ExtN H H') : Pot H' a := let ⟨x, y, h⟩ := h; ⟨x, y, e _ _ h fun _ z => by cases z⟩
theorem MOn.ext {M : List Addr} {H H' : Hp} (h : ∀ m ∈ M, ∃ xs, H m = some (.lst xs)) (e : ExtN H H') : ∀ m ∈ M, ∃ xs, H' m = some (.lst xs) := fun m hm => let ⟨xs, hx⟩ := h m hm; ⟨xs, e _ _ hx fun _ z => by cases z⟩
theorem dps_cut {K : PySem.W.Frag} {H : Hp} {vs : List V} {ds : List PyData} (h : DpAll K H vs ds) (lo hi : Option Int) : ∃ es, DpAll K H (cutV vs lo hi) es ∧ ∀ d ∈ es, d ∈ ds :=
  ⟨_, dps_take _ (dps_drop _ h), fun d hd => List.mem_of_mem_drop (List.mem_of_mem_take hd)⟩
end K44
end
section
set_option maxHeartbeats 4000000
namespace K44
open PySem PySem.Spec PyProof.Rows L2 LamX NdefX
section
variable {P : Program} {w : World} {K : PySem.W.Frag} {mg : Str → Option Value} {base : Heap}
abbrev sgR : List Str := ["_law_pot_here", "_law_letters", "_law_pattern_here", "_law_filling", "_law_machines", "_law_name", "_law_words", "_law_turn", "_law_is_piece", "_law_odds", "_law_whole", "_law_reading_here", "_law_values", "_law_word_here", "_law_again", "_law_value", "_law_due", "_law_told"]
/-- is_reading by keywords -/
def kwP : List Str := ["value", "filling", "pattern", "letters"]
def turn4 {α : Type} : List α → List α
  | [v, f, p, l] => [l, p, f, v]
  | _ => []
theorem kb_is_reading (T : Txt K mg) : KBn K (fdOf K (He.ga K "is_reading")) ["letters", "pattern", "filling", "value"] 0 kwP (fun _ ws => turn4 ws) (fun _ zs => turn4 zs) := by
  obtain ⟨oc, od, dV, kV, doc, pm, an, cdv, ct, osl, ed, lk, hcd, hD, hK⟩ := T.g_is_reading.F.ex
  refine ⟨fun s us ws X l1 l2 => ?_, fun {vs us zs ws} r1 r2 => ?_⟩
  · rcases hD with ⟨_, rfl⟩ | ⟨z, _⟩
    · rw [ed]
      match us, ws, l1, l2 with
      | [], [v, f, p, l], _, _ => exact .of_eq rfl
    · exact absurd rfl z
  · cases r2 with
    | nil => exact .nil
    | cons a r2 =>
      cases r2 with
      | nil => exact .nil
      | cons b r2 =>
        cases r2 with
        | nil => exact .nil
        | cons c r2 =>
          cases r2 with
          | nil => exact .nil
          | cons d r2 =>
            cases r2 with
            | nil => exact .cons d (.cons c (.cons b (.cons a .nil)))
            | cons _ _ => exact .nil
theorem dps_of_strs {K : PySem.W.Frag} {H : Hp} : ∀ {zs : List Str}, DpAll K H (zs.map V.str) (zs.map PyData.str)
  | [] => .nil
  | _ :: _ => .cons (.str _) dps_of_strs
/-- while the words are drawn -/
structure FillInv (K : PySem.W.Frag) (a : Addr) (L : Nat) (vp : V) (p : Pat) (F Mc : Addr) (i : Nat) (fl : List (List Str)) (fs ms : List V) (H : Hp) : Prop where
  pot : Pot H a
  tb : Tb K H
  pat : Dp K H vp p.d
  fil : H F = some (.lst fs)
  fd : DpAll K (hid [F, Mc, a] H) fs (fl.map wsD)
  fll : fl.length = i
  flk : ∀ zs ∈ fl, zs.length ≤ 3 ∧ ∀ z ∈ zs, z.length ≤ 2 ∧ ∀ c ∈ z.cps.toList, c ∈ sgs L
  mac : H Mc = some (.lst ms)
  ml : ms.length = i
  mok : ∀ (j : Nat) v, ms[j]? = some v → ∃ m, MOk K H L v m (fun u => u ∈ (fl.getD j []).map idx)
theorem newT {K : PySem.W.Frag} {M : List Addr} {H : Hp} {p : Addr} {xs : List V} {ds : List PyData} (hM : MOn M H) (hp : H p = none) (hd : DpAll K (hid M H) xs ds) : MOn M (upd H p (.tup xs)) ∧ Same H (upd H p (.tup xs)) ∧ Dp K (hid M (upd H p (.tup xs))) (.ref p) (.tuple ds) := ⟨hM.same (same_new hp _), same_new hp _, dpM_tup hM hp hd⟩
theorem newL {K : PySem.W.Frag} {M : List Addr} {H : Hp} {p : Addr} {xs : List V} {ds : List PyData} (hM : MOn M H) (hp : H p = none) (hd : DpAll K (hid M H) xs ds) : MOn M (upd H p (.lst xs)) ∧ Same H (upd H p (.lst xs)) ∧ Dp K (hid M (upd H p (.lst xs))) (.ref p) (.list ds) := ⟨hM.same (same_new hp _), same_new hp _, dpM_lst hM hp hd⟩
/-- the law's odd values -/
def odds1 : List PyData := [.none, .int 0, .str "a", .tuple [], .tuple [.str "word", .str ""], .tuple [.str "word", .str "a"], .tuple [.str "name", .int 0, .str "a"], .tuple [.str "name", .int 1, .str ""], .tuple [.str "name", .bool true, .str "a"]]
def odds2 : List PyData := [.tuple [.str "name", .int 0], .tuple [.str "round", .list []], .tuple [.str "either", .int 0, .tuple [.str "word", .str "a"]], .list [.str "word", .str "a"], .tuple [.str "name", .int 0, .list [.str "a"]]]
def odds : List PyData := odds1 ++ odds2
theorem odds_odd : ∀ d ∈ odds, Odd d := by
  intro d hd
  have h2 : ∀ e ∈ odds, small e = true := by decide +kernel
  have h3 : ∀ n, ∀ e ∈ odds, tame n e = true := by
    intro n
    match n with
    | 0 => decide +kernel
    | 1 => decide +kernel
    | 2 => decide +kernel
    | n + 3 =>
      intro e he
      simp only [odds, odds1, odds2, List.cons_append, List.nil_append, List.mem_cons, List.not_mem_nil, or_false] at he
      rcases he with rfl | rfl | rfl | rfl | rfl | rfl | rfl | rfl | rfl | rfl | rfl | rfl | rfl | rfl <;> rfl
  exact ⟨h2 d hd, fun n => h3 n d hd⟩
/-- while readings are drawn -/
structure St2 (K : PySem.W.Frag) (a : Addr) (L : Nat) (vp : V) (p : Pat) (F : Addr) (fl : List (List Str)) (Mc : Addr) (ms : List V) (O : Addr) (os : List V) (f cf : Addr) (Fo : NF) (wh : V) (H : Hp) : Prop where
  pot : Pot H a
  pat : Dp K (hid [a] H) vp p.d
  fil : Dp K (hid [a] H) (.ref F) (flD fl)
  mac : hid [a] H Mc = some (.lst ms)
  mok : ∀ (j : Nat) v, ms[j]? = some v → ∃ m, MOk K H L v m (plang fl (.name j))
  odd : hid [a] H O = some (.lst os)
  ods : DpAll K (hid [a] H) os odds
  whl : ∃ m, MOk K H L wh m (plang fl p)
  fo : H f = some (FnO f Fo)
  co : H cf = some (CodeO cf Fo.qual)
theorem St2.px {K : PySem.W.Frag} {a : Addr} {L : Nat} {vp : V} {p : Pat} {F : Addr} {fl : List (List Str)} {Mc : Addr} {ms : List V} {O : Addr} {os : List V} {f cf : Addr} {Fo : NF} {wh : V} {H H' : Hp} (h : St2 K a L vp p F fl Mc ms O os f cf Fo wh H) (e : Px a H H') : St2 K a L vp p F fl Mc ms O os f cf Fo wh H' := by
  have s := hid_px e (M := [a]) List.mem_cons_self
  have im := e.imm h.pot
  exact ⟨e.2, dpOn h.pat s, dpOn h.fil s, s _ _ h.mac, fun j v hv => let ⟨m, hm⟩ := h.mok j v hv; ⟨m, hm.imm im⟩, s _ _ h.odd, dpsOn h.ods s, let ⟨m, hm⟩ := h.whl; ⟨m, hm.imm im⟩, im _ _ h.fo (fun _ z => by cases z) (fun _ z => by cases z), im _ _ h.co (fun _ z => by cases z) (fun _ z => by cases z)⟩
theorem cut_last {xs : List V} (h2 : 2 ≤ xs.length) (h3 : xs.length ≤ 3) : cutV xs none (some (-1)) = xs.dropLast ∧ ¬(HT.sIx xs.length 0 none = 0 ∧ HT.sIx xs.length xs.length (some (-1)) = xs.length) := by
  match xs, h2, h3 with
  | [x, y], _, _ => exact ⟨rfl, by show ¬ (HT.sIx 2 0 none = 0 ∧ HT.sIx 2 2 (some (-1)) = 2); decide⟩
  | [x, y, z], _, _ => exact ⟨rfl, by show ¬ (HT.sIx 3 0 none = 0 ∧ HT.sIx 3 3 (some (-1)) = 3); decide⟩
  | [], h, _ => simp at h
  | [_], h, _ => simp at h
  | _ :: _ :: _ :: _ :: _, _, h => simp at h
theorem dps_dropLast {K : PySem.W.Frag} {H : Hp} {vs : List V} {ds : List PyData} (h : DpAll K H vs ds) : DpAll K H vs.dropLast ds.dropLast := by
  have := dps_take (vs.length - 1) h
  rw [List.dropLast_eq_take, List.dropLast_eq_take, ← dpsLen h]
  exact this
/-- while values are listed -/
structure ValInv (K : PySem.W.Frag) (a up : Addr) (r : Rd) (Vl : Addr) (H0 : Hp) (vs : List V) (ds : List PyData) (n : Nat) (H : Hp) : Prop where
  px : Px a H0 H
  at_ : H Vl = some (.lst vs)
  vd : DpAll K (hid [Vl, a] H) vs ds
  le : ds.length ≤ n
  odd : ∀ d ∈ ds, Odd d
def sp_law_right (K : PySem.W.Frag) : Sp := fun vs H Q _ => ∃ a : Addr, vs = [.ref a] ∧ Pot H a ∧ Tb K H ∧ ∀ H', Q (.bl true) H'
theorem c_law_right (T : Txt K mg) (TH : TabH K mg base) : CalG P w K mg base 19 "_law_right" ["_law_pot_here"] (sp_law_right K) := by
  have S : FnScope sgR ["_law_pot_here"] (defScope s_law_right) := fsc (by decide +kernel)
  refine CalG.ofT T.g_law_right T.b_law_right S (fun vs H Q E h => ?_) fun A outer s H vs Q hG hr h => ?_
  · obtain ⟨a, rfl, _⟩ := h; rfl
  have hu := hr.units
  have hu1 := Nat.lt_of_le_of_lt (Nat.add_le_add_left (show 1 ≤ 64 by decide) _) hu
  obtain ⟨a, rfl, hpot, htb, q⟩ := h
  have CR : Cal P w K mg base 16 "is_reading" ["letters", "pattern", "filling", "value"] (sp_is_reading K) := c_is_reading T
  refine ⟨_, (pss_cons (ps_cut (ps_set (i := 1) S.nd rfl (.inl rfl) (pe_op op_add pe_int (pc (c_law_draw T) hr (pa_cons (pv 0) (pa_cons (pe_int) pa_nil))))))
    (pss_cons (ps_cut (ps_asg (pe_tup (pa_cons (pc (c_law_pattern T 3) hr (pa_cons (pv 0) (pa_cons (pv 1) (pa_cons (pe_int) (pa_cons (pe_int) pa_nil))))) (pa_cons (pe_lst pa_nil) (pa_cons (pe_lst pa_nil) pa_nil)))) (pg_tup (by rfl) (pgs_cons (pg_name (i := 2) S.nd rfl (.inl rfl)) (pgs_cons (pg_name (i := 3) S.nd rfl (.inr rfl)) (pgs_cons (pg_name (i := 4) S.nd rfl (.inl rfl)) pgs_nil))))))
    (pss_cons (ps_cut (ps_for PassesOwn.never rfl (pi_range1 rfl T.zrange (pa_cons (pe_int) pa_nil)) (pg_name (i := 5) S.nd rfl (.inl rfl)) (pss_cons (ps_set (i := 6) S.nd rfl (.inl rfl) (pe_lst pa_nil))
    (pss_cons (ps_for PassesOwn.never rfl (pi_range1 rfl T.zrange (pa_cons (pc (c_law_draw T) hr (pa_cons (pv 0) (pa_cons (pe_int) pa_nil))) pa_nil)) (pg_name (i := 7) S.nd rfl (.inl rfl)) (pss_one (ps_expr (pe_bm PySem.F.plainAttrs_list PySem.F.slot_list_append PySem.F.type_list_append mt_append (pv 6) (pa_cons (pc (c_law_word T) hr (pa_cons (pv 0) (pa_cons (pv 1) (pa_cons (pe_int) pa_nil)))) pa_nil)))))
    (pss_cons (ps_expr (pe_bm PySem.F.plainAttrs_list PySem.F.slot_list_append PySem.F.type_list_append mt_append (pv 3) (pa_cons (pv 6) pa_nil)))
    (pss_one (ps_expr (pe_bm PySem.F.plainAttrs_list PySem.F.slot_list_append PySem.F.type_list_append mt_append (pv 4) (pa_cons (pc (c_of_words T TH) hr (pa_cons (pv 1) (pa_cons (pv 6) pa_nil))) pa_nil)))))))))
    (pss_cons (ps_ndefS (st := s_piece) (T := TL K) (nm := nmAll) (c := He.codeOf K ("_law_right", none)) (i := 8) rfl (TH _ (by decide +kernel)) rfl (tl_mem (by decide +kernel)) (by rfl) tl_nm (ndef_free (sc := defScope s_law_right) (nsc := C8.fnScope s_piece) (fr := ["_law_filling"]) (by decide +kernel)) rfl rfl rfl S.nd rfl (.inl rfl) (.inl rfl))
    (pss_cons (ps_cut (ps_set (i := 9) S.nd rfl (.inl rfl) (pe_lst (pa_cons (pe_non) (pa_cons (pe_int) (pa_cons (pe_str) (pa_cons (pe_tup pa_nil) (pa_cons (pe_tup (pa_cons (pe_str) (pa_cons (pe_str) pa_nil))) (pa_cons (pe_tup (pa_cons (pe_str) (pa_cons (pe_str) pa_nil))) (pa_cons (pe_tup (pa_cons (pe_str) (pa_cons (pe_int) (pa_cons (pe_str) pa_nil)))) (pa_cons (pe_tup (pa_cons (pe_str) (pa_cons (pe_int) (pa_cons (pe_str) pa_nil)))) (pa_cons (pe_tup (pa_cons (pe_str) (pa_cons (pe_bl) (pa_cons (pe_str) pa_nil)))) pa_nil))))))))))))
    (pss_cons (ps_cut (ps_expr (pe_bm PySem.F.plainAttrs_list PySem.F.slot_list_extend PySem.F.type_list_extend mt_extend (pv 9) (pa_cons (pe_lst (pa_cons (pe_tup (pa_cons (pe_str) (pa_cons (pe_int) pa_nil))) (pa_cons (pe_tup (pa_cons (pe_str) (pa_cons (pe_lst pa_nil) pa_nil))) (pa_cons (pe_tup (pa_cons (pe_str) (pa_cons (pe_int) (pa_cons (pe_tup (pa_cons (pe_str) (pa_cons (pe_str) pa_nil))) pa_nil)))) (pa_cons (pe_lst (pa_cons (pe_str) (pa_cons (pe_str) pa_nil))) (pa_cons (pe_tup (pa_cons (pe_str) (pa_cons (pe_int) (pa_cons (pe_lst (pa_cons (pe_str) pa_nil)) pa_nil)))) pa_nil)))))) pa_nil))))
    (pss_cons (ps_cut (ps_set (i := 10) S.nd rfl (.inl rfl) (pc (c_made T TH) hr (pa_cons (pv 1) (pa_cons (pv 2) (pa_cons (pv 4) pa_nil))))))
    (pss_cons (ps_for PassesOwn.never rfl (pi_range1 rfl T.zrange (pa_cons (pe_int) pa_nil)) (pg_name (i := 7) S.nd rfl (.inl rfl)) (pss_cons (ps_set (i := 11) S.nd rfl (.inl rfl) (pc (c_law_reading T 3 (by decide)) hr (pa_cons (pv 0) (pa_cons (pv 2) (pa_cons (pv 3) pa_nil)))))
    (pss_cons (ps_set (i := 12) S.nd rfl (.inl rfl) (pe_slice sl_list (pv 9) (po_some (pe_op op_mul (pv 7) pe_int)) (po_some (pe_op op_add (pe_op op_mul (pv 7) pe_int) pe_int))))
    (pss_cons (ps_cut (ps_if (pt_cmpR op_notN (pv 11) pe_non rfl) (pss_cons (ps_set (i := 13) S.nd rfl (.inl rfl) (pc (c_law_read T 3 (by decide)) hr (pa_cons (pv 11) pa_nil)))
    (pss_cons (ps_if (PW.pt (pw_or (pt_cmpR op_ne (pc (c_read_word T) hr (pa_cons (pv 11) pa_nil)) (pv 13) (nomark _)) (pw_or1 (pt_cmpR op_isnot_bl (pc (c_lets T) hr (pa_cons (pv 10) (pa_cons (pv 13) pa_nil))) pe_bl (nomark _))))) (pss_one (ps_ret pe_bl)) pss_nil)
    (pss_cons (ps_set (i := 12) S.nd rfl (.inl rfl) (pe_op op_cat (pv 12) (pe_lst (pa_cons (pv 11) (pa_cons (pe_callTy call_list_of rfl T.zlist (by decide +kernel) (pa_cons (pv 11) pa_nil)) (pa_cons (pe_op op_catT (pv 11) (pe_tup (pa_cons (pe_int) pa_nil))) (pa_cons (pe_slice sl_tup (pv 11) po_none (po_some (pe_un un_neg pe_int))) pa_nil)))))))
    (pss_cons (ps_cut (ps_if (pt_cmpR op_eq (pe_ix ix_tup (pv 11) pe_int (fun _ _ => rfl)) pe_str (nomark _)) (pss_one (ps_expr (pe_bm PySem.F.plainAttrs_list PySem.F.slot_list_append PySem.F.type_list_append mt_append (pv 12) (pa_cons (pe_tup (pa_cons (pe_str) (pa_cons (pe_callTy call_tuple_of rfl T.ztuple (by decide +kernel) (pa_cons (pe_ix ix_tup (pv 11) pe_int (fun _ _ => rfl)) pa_nil)) pa_nil))) pa_nil)))) pss_nil))
    (pss_one (ps_for PassesOwn.never rfl (pi_range1 rfl T.zrange (pa_cons (pe_int) pa_nil)) (pg_name (i := 14) S.nd rfl (.inl rfl)) (pss_one (ps_expr (pe_bm PySem.F.plainAttrs_list PySem.F.slot_list_append PySem.F.type_list_append mt_append (pv 12) (pa_cons (pc (c_law_bent T 3 (by decide)) hr (pa_cons (pv 0) (pa_cons (pv 11) (pa_cons (pv 9) pa_nil)))) pa_nil)))))))))) pss_nil))
    (pss_one (ps_for PassesOwn.never rfl (pi_list (pv 12)) (pg_name (i := 15) S.nd rfl (.inl rfl)) (pss_cons (ps_set (i := 16) S.nd rfl (.inl rfl) (pc_reb (fun base' => c_law_is_of T 3 (by decide)) (fun _ => rfl) hr (pa_cons (pv 2) (pa_cons (pv 15) (pa_cons (pv 8) pa_nil)))))
    (pss_cons (ps_set (i := 17) S.nd rfl (.inl rfl) (pe_lst (pa_cons (pc (c_is_reading T) hr (pa_cons (pv 1) (pa_cons (pv 2) (pa_cons (pv 4) (pa_cons (pv 15) pa_nil))))) pa_nil)))
    (pss_cons (ps_expr (pe_bm PySem.F.plainAttrs_list PySem.F.slot_list_append PySem.F.type_list_append mt_append (pv 17) (pa_cons (pe_calln0 CR.fn (hr.mono (by decide)) rfl CR.g CR.kp (kb_is_reading T) L2.pass0 (pk_cons (pv 15) (pk_cons (pe_callTy call_tuple_of rfl T.ztuple (by decide +kernel) (pa_cons (pv 4) pa_nil)) (pk_cons (pv 2) (pk_cons (pv 1) pk_nil))))) pa_nil)))
    (pss_cons (ps_if (pt_cmpR op_ne (pe_callB (call_reprB hG hu1) rfl T.zrepr (by decide +kernel) (pa_cons (pv 17) pa_nil)) (pe_callB (call_reprB hG hu1) rfl T.zrepr (by decide +kernel) (pa_cons (pe_op op_rep (pe_lst (pa_cons (pv 16) pa_nil)) pe_int) pa_nil)) (nomark _)) (pss_one (ps_ret pe_bl)) pss_nil)
    (pss_one (ps_if (PW.pt (pw_and (pt_val (pv 16)) (pw_and1 (pt_cmpR op_ne (pc (c_read_word T) hr (pa_cons (pv 15) pa_nil)) (pc (c_law_read T 3 (by decide)) hr (pa_cons (pv 15) pa_nil)) (nomark _))))) (pss_one (ps_ret pe_bl)) pss_nil))))))))))))
    (pss_one (ps_ret pe_bl)))))))))), ?_⟩
  refine ⟨fun σ' H' => ∃ L : Nat, σ' = [some (.ref a), some (.int L), none, none, none, none, none, none, none, none, none, none, none, none, none, none, none, none] ∧ 1 ≤ L ∧ L ≤ 2 ∧ Pot H' a ∧ Tb K H', ?_, ?_⟩
  · refine ⟨_, rfl, a, 2, rfl, by decide, by decide, hpot, fun d hd H1 e1 => ⟨_, _, rfl, rfl, ?_⟩⟩
    refine ⟨1 + d, ?_, by omega, by omega, e1.2, tabs_px htb hpot e1⟩
    show [some (V.ref a), some (V.int (1 + (d : Int))), none, none, none, none, none, none, none, none, none, none, none, none, none, none, none, none] = _
    rw [show (1 : Int) + (d : Int) = ((1 + d : Nat) : Int) by omega]
  rintro σ1 H1 ⟨L, rfl, hL1, hL2, pot1, tb1⟩
  clear htb hpot
  refine ⟨fun σ' H' => ∃ (vp : V) (p : Pat) (F Mc : Addr), σ' = [some (.ref a), some (.int L), some vp, some (.ref F), some (.ref Mc), none, none, none, none, none, none, none, none, none, none, none, none, none] ∧ Pot H' a ∧ Tb K H' ∧ Dp K H' vp p.d ∧ p.good L ∧ p.dep ≤ 3 ∧ p.parts ≤ 30 ∧ H' F = some (.lst []) ∧ H' Mc = some (.lst []) ∧ F ≠ a ∧ Mc ≠ a ∧ F ≠ Mc, ?_, ?_⟩
  · refine ⟨_, rfl, _, rfl, 2, a, L, rfl, rfl, hL1, by omega, pot1, fun vp p H2 e2 h1 h2 h3 h4 => ⟨le0, fun F hF => ⟨le0, fun Mc hMc => ⟨le3, fun t ht => ?_⟩⟩⟩⟩
    refine ⟨t, _, rfl, K44.st upd_same, rfl, _, _, rfl, _, _, rfl, _, _, rfl, rfl, ?_⟩
    have p1 := Px.new e2.2 hF (.lst [])
    have p2 := Px.new p1.2 hMc (.lst [])
    have p3 := Px.new p2.2 ht (.tup [vp, .ref F, .ref Mc])
    have hFa := e2.2.ne hF
    have hMa := p1.2.ne hMc
    have hFM : F ≠ Mc := ne_of_none upd_same hMc
    exact ⟨vp, p, F, Mc, rfl, p3.2, tabs_px (tabs_px (tabs_px (tabs_px tb1 pot1 e2) e2.2 p1) p1.2 p2) p2.2 p3, dpOn (offDp (p3.dp (p2.dp (p1.dp h1)))) (Same.refl _), h2, h3, by have : (2 : Nat) ^ 3 = 8 := rfl; omega, p3.lst (p2.lst upd_same hFa) hFa, p3.lst upd_same hMa, hFa, hMa, hFM⟩
  rintro σ2 H2 ⟨vp, p, F, Mc, rfl, pot2, tb2, hp, hg, hdep, hpar, hF2, hMc2, hFa, hMa, hFM⟩
  clear tb1 pot1
  refine ⟨fun σ' H' => ∃ (fl : List (List Str)) (fs ms : List V) (o5 o6 o7 : Option V), σ' = [some (.ref a), some (.int L), some vp, some (.ref F), some (.ref Mc), o5, o6, o7, none, none, none, none, none, none, none, none, none, none] ∧ FillInv K a L vp p F Mc 2 fl fs ms H', ?_, ?_⟩
  · refine ⟨_, rfl, by decide, by decide, ?_⟩
    refine for_range (fun i σ' H' => ∃ (fl : List (List Str)) (fs ms : List V) (o5 o6 o7 : Option V), σ' = [some (.ref a), some (.int L), some vp, some (.ref F), some (.ref Mc), o5, o6, o7, none, none, none, none, none, none, none, none, none, none] ∧ FillInv K a L vp p F Mc i fl fs ms H') ⟨[], [], [], _, _, _, rfl, ⟨pot2, tb2, hp, hF2, .nil, rfl, (fun _ h => by cases h), hMc2, rfl, (fun j v h => by simp at h)⟩⟩ ?_ ?_
    · rintro i σ3 H3 hi ⟨fl, fs, ms, o5, o6, o7, rfl, I⟩
      refine ⟨le0, fun W hW => ?_⟩
      have hWa := I.pot.ne hW
      have hFW : F ≠ W := ne_of_none I.fil hW
      have hMW : Mc ≠ W := ne_of_none I.mac hW
      have p1 := Px.new I.pot hW (.lst [])
      refine ⟨_, rfl, a, 4, rfl, by decide, by decide, p1.2, fun d hd H4 e4 => ⟨(d : Int), rfl, by omega, by omega, ?_⟩⟩
      rw [Int.toNat_natCast]
      refine for_range (fun k σ' H' => ∃ (zs : List Str) (o7 : Option V), σ' = [some (.ref a), some (.int L), some vp, some (.ref F), some (.ref Mc), some (.int (0 + (i : Int))), some (.ref W), o7, none, none, none, none, none, none, none, none, none, none] ∧ Px a H3 H' ∧ H' W = some (.lst (zs.map V.str)) ∧ zs.length = k ∧ ∀ z ∈ zs, z.length ≤ 2 ∧ ∀ c ∈ z.cps.toList, c ∈ sgs L) ⟨[], _, rfl, p1.trans e4, e4.lst upd_same hWa, rfl, fun _ h => by cases h⟩ ?_ ?_
      · rintro k σ5 H5 hk ⟨zs, o7, rfl, e5, hW5, hzl, hz⟩
        refine ⟨_, rfl, .inl ⟨rfl, _, sl hW5⟩, _, rfl, _, rfl, a, L, 2, rfl, hL1, by omega, by decide, e5.2, fun z h1 h2 H6 e6 => ?_⟩
        refine ⟨W, _, _, rfl, rfl, e6.lst hW5 hWa, szt (by rw [List.length_map]; omega), zs ++ [z], _, rfl, (e5.trans e6).mutl hW hWa, by rw [upd_same, List.map_append]; rfl, by simp [hzl], fun y hy => ?_⟩
        rcases List.mem_append.mp hy with hy | hy
        · exact hz y hy
        · rw [List.mem_singleton.mp hy]; exact ⟨h1, h2⟩
      · rintro σ5 H5 ⟨zs, o7, rfl, e5, hW5, hzl, hz⟩
        have hF5 := e5.lst I.fil hFa
        have hM5 := e5.lst I.mac hMa
        have hlf := dpsLen I.fd
        rw [List.length_map, I.fll] at hlf
        refine ⟨_, rfl, .inl ⟨rfl, _, sl hF5⟩, _, rfl, F, _, _, rfl, rfl, hF5, szt (by omega), ?_⟩
        have im6 := Imm.lst (ys := fs ++ [.ref W]) hF5
        have hM6 : upd H5 F (.lst (fs ++ [.ref W])) Mc = some (.lst ms) := by rw [upd_ne (Ne.symm hFM)]; exact hM5
        have hW6 : upd H5 F (.lst (fs ++ [.ref W])) W = some (.lst (zs.map V.str)) := by rw [upd_ne (Ne.symm hFW)]; exact hW5
        have tb6 : Tb K (upd H5 F (.lst (fs ++ [.ref W]))) := tabs_put (tabs_px I.tb I.pot e5) hF5
        refine ⟨_, rfl, .inl ⟨rfl, _, sl hM6⟩, _, rfl, _, rfl, L, .ref W, zs, rfl, .lst (sl hW6) dps_of_strs, by omega, hz, hL1, by omega, tb6, fun v H7 m e7 tb7 hm hsp => ?_⟩
        have hM7 := e7 _ _ hM6 fun _ z => by cases z
        have hF7 := e7 _ _ (upd_same (H := H5) (a := F) (o := .lst (fs ++ [.ref W]))) fun _ z => by cases z
        have hW7 := e7 _ _ hW6 fun _ z => by cases z
        have im57 : Imm H3 H7 := (e5.imm I.pot).trans (im6.trans (ExtN.imm e7))
        have im8 := Imm.lst (ys := ms ++ [v]) hM7
        have hml := I.ml
        refine ⟨Mc, _, _, rfl, rfl, hM7, szt (by omega), fl ++ [zs], fs ++ [.ref W], ms ++ [v], _, _, _, rfl, ⟨?_, tabs_put tb7 hM7, dpImm (im57.trans im8) _ _ (noL_pat p) I.pat, ?_, ?_, by rw [List.length_append, I.fll]; rfl, fun ys hy => ?_, upd_same, by rw [List.length_append, I.ml]; rfl, fun j y hy => ?_⟩⟩
        · obtain ⟨x, y, h⟩ := e5.2
          have h6 : upd H5 F (.lst (fs ++ [.ref W])) a = some (.lst [.int x, .int y]) := by rw [upd_ne (Ne.symm hFa)]; exact h
          exact ⟨x, y, by rw [upd_ne (Ne.symm hMa)]; exact e7 _ _ h6 fun _ z => by cases z⟩
        · rw [upd_ne hFM]; exact hF7
        · rw [hid_upd (by simp), List.map_append]
          refine dps_app (dpsN ?_ (hid_ext e7)) (.cons (.lst (sl ?_) dps_of_strs) .nil)
          · rw [hid_upd (by simp)]
            exact dpsOn I.fd (hid_px e5 (by simp))
          · unfold hid
            rw [if_neg (by simp; exact ⟨Ne.symm hFW, Ne.symm hMW, hWa⟩)]
            exact hW7
        · rcases List.mem_append.mp hy with hy | hy
          · exact I.flk ys hy
          · rw [List.mem_singleton.mp hy]; exact ⟨by omega, hz⟩
        · by_cases hj : j < ms.length
          · rw [List.getElem?_append_left hj] at hy
            obtain ⟨m2, hm2⟩ := I.mok j y hy
            have e : (fl ++ [zs]).getD j [] = fl.getD j [] := by
              rw [List.getD_eq_getElem?_getD, List.getD_eq_getElem?_getD, List.getElem?_append_left (by rw [I.fll]; omega)]
            rw [e]
            exact ⟨m2, hm2.imm (im57.trans im8)⟩
          · have hj2 : j = ms.length := by
              have := (List.getElem?_eq_some_iff.mp hy).1
              simp at this; omega
            subst hj2
            rw [List.getElem?_append_right (Nat.le_refl _), Nat.sub_self] at hy
            cases hy
            have e : (fl ++ [zs]).getD ms.length [] = zs := by
              rw [List.getD_eq_getElem?_getD, List.getElem?_append_right (by rw [I.fll, I.ml]; exact Nat.le_refl _), I.fll, I.ml, Nat.sub_self]; rfl
            rw [e]
            exact ⟨m, ⟨hm.imm im8, hsp⟩⟩
    · rintro σ3 H3 ⟨fl, fs, ms, o5, o6, o7, rfl, I⟩
      exact ⟨fl, fs, ms, o5, o6, o7, rfl, I⟩
  rintro σ3 H3 ⟨fl, fs, ms, o5, o6, o7, rfl, I⟩
  clear pot2 tb2 hp hF2 hMc2
  have hflk : FlOk L fl := ⟨I.fll, I.flk⟩
  refine ⟨I.tb, fun f cf H4 e4 tb4 hf hfo hco => ?_⟩
  have pot4 := I.pot.ext e4
  have hF4 := e4 _ _ I.fil fun _ z => by cases z
  have hM4 := e4 _ _ I.mac fun _ z => by cases z
  have hfil4 : Dp K (hid [a] H4) (.ref F) (flD fl) := by
    refine .lst (sl (?_ : hid [a] H4 F = some (.lst fs))) (dpsOn (dpsN I.fd (hid_ext e4)) (hid_less.trans hid_less))
    unfold hid
    rw [if_neg (by simp; exact hFa)]
    exact hF4
  have hmac4 : hid [a] H4 Mc = some (.lst ms) := by
    unfold hid
    rw [if_neg (by simp; exact hMa)]
    exact hM4
  have hpat4 : Dp K (hid [a] H4) vp p.d := dpImm (imm_hid fun m hm => by rw [List.mem_singleton.mp hm]; obtain ⟨x, y, h⟩ := pot4; exact ⟨_, h⟩) _ _ (noL_pat p) (dpN I.pat e4)
  have hmok4 : ∀ (j : Nat) v, ms[j]? = some v → ∃ m, MOk K H4 L v m (plang fl (.name j)) := fun j v h => let ⟨m, hm⟩ := I.mok j v h; ⟨m, hm.onN e4⟩
  have hml := I.ml
  clear I hM4 hF4
  have m4 : MOn [a] H4 := fun m hm z => by
    rw [List.mem_singleton.mp hm] at z
    obtain ⟨x, y, h⟩ := pot4
    rw [h] at z; cases z
  refine ⟨fun σ' H' => ∃ (O : Addr) (os : List V), σ' = [some (.ref a), some (.int L), some vp, some (.ref F), some (.ref Mc), o5, o6, o7, some (.ref f), some (.ref O), none, none, none, none, none, none, none, none] ∧ Same H4 H' ∧ H4 O = none ∧ H' O = some (.lst os) ∧ DpAll K (hid [O, a] H') os odds1, ?_, ?_⟩
  · refine ⟨le0, fun t1 ht1 => ⟨le2, fun t2 ht2 => ⟨le2, fun t3 ht3 => ⟨le3, fun t4 ht4 => ⟨le3, fun t5 ht5 => ⟨le3, fun t6 ht6 => ⟨szl (show 9 ≤ 1000000 by decide), fun O hO => ?_⟩⟩⟩⟩⟩⟩⟩
    obtain ⟨n1, s1, d1⟩ := newT (K := K) m4 ht1 .nil
    obtain ⟨n2, s2, d2⟩ := newT (K := K) n1 ht2 (.cons (.str "word") (.cons (.str "") .nil))
    obtain ⟨n3, s3, d3⟩ := newT (K := K) n2 ht3 (.cons (.str "word") (.cons (.str "a") .nil))
    obtain ⟨n4, s4, d4⟩ := newT (K := K) n3 ht4 (.cons (.str "name") (.cons (.int 0) (.cons (.str "a") .nil)))
    obtain ⟨n5, s5, d5⟩ := newT (K := K) n4 ht5 (.cons (.str "name") (.cons (.int 1) (.cons (.str "") .nil)))
    obtain ⟨n6, s6, d6⟩ := newT (K := K) n5 ht6 (.cons (.str "name") (.cons (.bl true) (.cons (.str "a") .nil)))
    have sA := ((((s1.trans s2).trans s3).trans s4).trans s5).trans s6
    refine ⟨O, _, rfl, sA.trans (same_new hO _), same_none sA hO, upd_same, dpsOn ?_ (hid_new hO)⟩
    exact .cons .non (.cons (.int 0) (.cons (.str "a") (.cons (dpOn d1 (hid_same ((((s2.trans s3).trans s4).trans s5).trans s6))) (.cons (dpOn d2 (hid_same (((s3.trans s4).trans s5).trans s6))) (.cons (dpOn d3 (hid_same ((s4.trans s5).trans s6))) (.cons (dpOn d4 (hid_same (s5.trans s6))) (.cons (dpOn d5 (hid_same s6)) (.cons d6 .nil))))))))
  rintro σ5 H5 ⟨O, os, rfl, e5, hO4, hO5, hos⟩
  have hOa := pot4.ne hO4
  refine ⟨fun σ' H' => ∃ os2 : List V, σ' = [some (.ref a), some (.int L), some vp, some (.ref F), some (.ref Mc), o5, o6, o7, some (.ref f), some (.ref O), none, none, none, none, none, none, none, none] ∧ Same H4 H' ∧ Tb K H' ∧ H' O = some (.lst os2) ∧ DpAll K (hid [a] H') os2 odds, ?_, ?_⟩
  · have m5 : MOn [O, a] H5 := (m4.same e5).cons hO5
    have hol := dpsLen hos
    have hol2 : odds1.length = 9 := rfl
    refine ⟨_, rfl, .inl ⟨rfl, _, sl hO5⟩, le2, fun t1 ht1 => ⟨le0, fun l1 hl1 => ⟨le2, fun t2 ht2 => ⟨le2, fun t3 ht3 => ⟨le3, fun t4 ht4 => ⟨le2, fun l2 hl2 => ⟨le1, fun l3 hl3 => ⟨le3, fun t5 ht5 => ⟨le5, fun l4 hl4 => ?_⟩⟩⟩⟩⟩⟩⟩⟩⟩
    obtain ⟨n1, s1, d1⟩ := newT (K := K) m5 ht1 (.cons (.str "name") (.cons (.int 0) .nil))
    obtain ⟨n2, s2, d2⟩ := newL (K := K) n1 hl1 .nil
    obtain ⟨n3, s3, d3⟩ := newT (K := K) n2 ht2 (.cons (.str "round") (.cons d2 .nil))
    obtain ⟨n4, s4, d4⟩ := newT (K := K) n3 ht3 (.cons (.str "word") (.cons (.str "a") .nil))
    obtain ⟨n5, s5, d5⟩ := newT (K := K) n4 ht4 (.cons (.str "either") (.cons (.int 0) (.cons d4 .nil)))
    obtain ⟨n6, s6, d6⟩ := newL (K := K) n5 hl2 (.cons (.str "word") (.cons (.str "a") .nil))
    obtain ⟨n7, s7, d7⟩ := newL (K := K) n6 hl3 (.cons (.str "a") .nil)
    obtain ⟨n8, s8, d8⟩ := newT (K := K) n7 ht5 (.cons (.str "name") (.cons (.int 0) (.cons d7 .nil)))
    have s9 := same_new hl4 (.lst [V.ref t1, .ref t2, .ref t4, .ref l2, .ref t5])
    have sA := (((((((s1.trans s2).trans s3).trans s4).trans s5).trans s6).trans s7).trans s8).trans s9
    refine ⟨O, l4, _, _, rfl, rfl, sA _ _ hO5, upd_same, szl (by rw [hol, hol2]; show 9 + 5 ≤ 1000000; decide), os ++ [V.ref t1, .ref t2, .ref t4, .ref l2, .ref t5], rfl, Same.mut (e5.trans sA) hO4, tabs_put (TabsN.ext tb4 (e5.trans sA)) (sA _ _ hO5), upd_same, dpsOn ?_ (hid_less (r := O))⟩
    rw [hid_upd List.mem_cons_self]
    refine dps_app (dpsOn hos (hid_same sA)) ?_
    exact .cons (dpOn d1 (hid_same (((((((s2.trans s3).trans s4).trans s5).trans s6).trans s7).trans s8).trans s9))) (.cons (dpOn d3 (hid_same (((((s4.trans s5).trans s6).trans s7).trans s8).trans s9))) (.cons (dpOn d5 (hid_same (((s6.trans s7).trans s8).trans s9))) (.cons (dpOn d6 (hid_same ((s7.trans s8).trans s9))) (.cons (dpOn d8 (hid_same s9)) .nil))))
  rintro σ6 H6 ⟨os2, rfl, e6, tb6, hO6, hos2⟩
  clear hos hO5 e5 H5 os
  refine ⟨fun σ' H' => ∃ wh : V, σ' = [some (.ref a), some (.int L), some vp, some (.ref F), some (.ref Mc), o5, o6, o7, some (.ref f), some (.ref O), some wh, none, none, none, none, none, none, none] ∧ ExtN H6 H' ∧ ∃ m, MOk K H' L wh m (plang fl p), ?_, ?_⟩
  · have hms : SqL K H6 Mc ms := hidSeq (Same.seq (hid_same e6) (sl hmac4))
    refine ⟨_, rfl, _, rfl, _, rfl, L, vp, .ref Mc, p, fl, rfl, hL1, hL2, hidDp (dpOn hpat4 (hid_same e6)), hg, hdep, hpar, ⟨Mc, ms, rfl, hms, by rw [hml, hflk.1], fun j v h => let ⟨m, hm⟩ := hmok4 j v h; ⟨m, hm.on e6⟩⟩, hflk.1, fun zs hzs z hz => ((hflk.2 zs hzs).2 z hz).1, tb6, fun v H7 m e7 tb7 hm hsp => ⟨v, rfl, e7, m, ⟨hm, hsp⟩⟩⟩
  rintro σ7 H7 ⟨wh, rfl, e7, mw, hmw⟩
  have e67 : ExtN H4 H7 := (ExtN.of_same e6).trans e7
  have st : St2 K a L vp p F fl Mc ms O os2 f cf _ wh H7 := ⟨pot4.ext e67, dpN hpat4 (hid_ext e67), dpN hfil4 (hid_ext e67), (hid_ext e67 _ _ hmac4 fun _ z => by cases z), fun j v h => let ⟨m, hm⟩ := hmok4 j v h; ⟨m, hm.onN e67⟩, ?_, dpsN hos2 (hid_ext e7), ⟨mw, hmw⟩, e67 _ _ hfo fnO_ne, e67 _ _ hco codeO_ne⟩
  case refine_1 =>
    unfold hid
    rw [if_neg (by simp; exact hOa)]
    exact e7 _ _ hO6 fun _ z => by cases z
  obtain ⟨Fo, hFn, st⟩ : ∃ Fo : NF, (∀ (base' : Heap) (σx : L2.St), CellsIn (cxOf CX0 P w K mg base sgR "_law_right" (defScope s_law_right) (He.ga K "_law_right") (.ref (He.codeOf K ("_law_right", none))) A outer s H E0).nox σx base' → σx[3]? = some (some (.ref F)) → FnAs P w K mg base' 1 f (fun Hx => Hx f = some (FnO f Fo) ∧ Hx cf = some (CodeO cf Fo.qual)) (sp_piece K [some (.ref F)])) ∧ St2 K a L vp p F fl Mc ms O os2 f cf Fo wh H7 := by
    refine ⟨_, fun base' σx C hx => ?_, st⟩
    have B0 : BaseCells base' _ ["_law_filling"] _ := C.caps (js := [3]) (Caps.made (scope := C8.fnScope s_piece) C.ok (ndef_free (sc := defScope s_law_right) (nsc := C8.fnScope s_piece) (fr := ["_law_filling"]) (by decide +kernel)) (ndef_fr (sc := defScope s_law_right) (nsc := C8.fnScope s_piece) (fr := ["_law_filling"]) (by decide +kernel)) rfl)
    have F0 := fnAs_nok (n_piece (P := P) (w := w) (base := base') T f cf _) B0
    refine F0.imp (Nat.le_refl _) (fun H h => h) fun vs H Q _ h => ?_
    have e : ([3] : List Nat).map (NdefX.slotAt σx) = [some (.ref F)] := by
      show [NdefX.slotAt σx 3] = _
      unfold NdefX.slotAt
      rw [hx]
    rw [e]
    exact h
  clear e7 e67 hmw hO6 hos2 tb6 e6 hmok4 hpat4 hmac4 hfil4 pot4 m4 hO4 hfo hco tb4 e4
  have flg : ∀ n : Nat, ∀ z ∈ fl.getD n [], z.length ≤ 2 := fun n z hz => by
    rw [List.getD_eq_getElem?_getD] at hz
    cases q2 : fl[n]? with
    | none => rw [q2] at hz; simp at hz
    | some ws => rw [q2] at hz; exact ((hflk.2 ws (List.mem_of_getElem? q2)).2 z hz).1
  refine ⟨_, rfl, by decide, by decide, ?_⟩
  refine for_range (fun i σ' H' => ∃ (o7 o11 o12 o13 o14 o15 o16 o17 : Option V), σ' = [some (.ref a), some (.int L), some vp, some (.ref F), some (.ref Mc), o5, o6, o7, some (.ref f), some (.ref O), some wh, o11, o12, o13, o14, o15, o16, o17] ∧ St2 K a L vp p F fl Mc ms O os2 f cf Fo wh H') ⟨_, _, _, _, _, _, _, _, rfl, st⟩ ?_ ?_
  case refine_2 => rintro σ8 H8 ⟨o7, o11, o12, o13, o14, o15, o16, o17, rfl, st8⟩; exact q _
  clear st
  rintro i σ8 H8 hi ⟨o7, o11, o12, o13, o14, o15, o16, o17, rfl, st8⟩
  have ma : ∀ {H'}, Pot H' a → MOn [a] H' := fun {H'} ⟨x, y, h⟩ m hm z => by
    rw [List.mem_singleton.mp hm, h] at z; cases z
  refine ⟨_, rfl, _, rfl, _, rfl, a, [a], L, vp, .ref F, p, fl, rfl, List.mem_cons_self, ma st8.pot, st8.pot, by omega, st8.pat, hg, hdep, st8.fil, hflk, fun u H9 e9 hu9 => ?_⟩
  have st9 := st8.px e9
  clear st8 e9
  refine ⟨_, rfl, _, rfl, _, _, rfl, rfl, .inr ⟨by decide, by decide⟩, _, rfl, _, rfl, _, _, rfl, rfl, .inr ⟨by decide, by decide⟩, _, _, rfl, rfl, _, rfl, O, os2, rfl, hidSeq (sl st9.odd), fun V0 hV0 => ?_⟩
  obtain ⟨ds0, hds0, hsub0⟩ := dps_cut st9.ods (some ((0 + (i : Int)) * 3)) (some ((0 + (i : Int)) * 3 + 3))
  have hl0 := cutV_length os2 (some ((0 + (i : Int)) * 3)) (some ((0 + (i : Int)) * 3 + 3))
  have hol : os2.length = 14 := dpsLen st9.ods
  have hds0l := dpsLen hds0
  revert hds0 hl0 hds0l
  show DpAll K _ (cutV os2 (some ((0 + (i : Int)) * 3)) (some ((0 + (i : Int)) * 3 + 3))) _ → _
  generalize cutV os2 (some ((0 + (i : Int)) * 3)) (some ((0 + (i : Int)) * 3 + 3)) = vs0
  intro hds0 hl0 hds0l
  have p10 := Px.new st9.pot hV0 (.lst vs0)
  have hVa := st9.pot.ne hV0
  refine ⟨fun σ' H' => ∃ (Vl : Addr) (vs : List V) (ds : List PyData) (o13 o14 : Option V), σ' = [some (.ref a), some (.int L), some vp, some (.ref F), some (.ref Mc), o5, o6, some (.int (0 + (i : Int))), some (.ref f), some (.ref O), some wh, some u, some (.ref Vl), o13, o14, o15, o16, o17] ∧ St2 K a L vp p F fl Mc ms O os2 f cf Fo wh H' ∧ H' Vl = some (.lst vs) ∧ DpAll K (hid [a] H') vs ds ∧ ds.length ≤ 30 ∧ ∀ d ∈ ds, Odd d, ?_, ?_⟩
  · have st10 := st9.px p10
    have ds0' : DpAll K (hid [a] (upd H9 V0 (.lst vs0))) vs0 ds0 := dpsOn hds0 (hid_same (same_new hV0 _))
    have odd0 : ∀ d ∈ ds0, Odd d := fun d hd => odds_odd d (hsub0 d hd)
    refine ⟨_, rfl, rfl, _, rfl, ?_⟩
    rcases hu9 with rfl | ⟨r, hr9, hr0, hrf⟩
    · exact ifF (by decide) ⟨V0, vs0, ds0, _, _, rfl, st10, upd_same, ds0', by omega, odd0⟩
    obtain ⟨up, rfl⟩ := good_ref hr9
    have hrd : r.dep ≤ 3 := by have := isOf_dep p r hr0.2.1; omega
    have hr10 : Dp K (hid [a] (upd H9 V0 (.lst vs0))) (.ref up) r.d := dpOn hr9 (hid_same (same_new hV0 _))
    refine ifT rfl ⟨_, rfl, .ref up, r, rfl, hidDp hr10, hr0.1, hrd, fun H11 e11 => ?_⟩
    have p11 := Px.of st10.pot e11
    have st11 := st10.px p11
    refine ⟨_, rfl, .ref up, r, rfl, hidDp (dpOn hr10 (hid_same e11)), hr0.1, by omega, fun H12 e12 => ⟨_, rfl, rfl, _, rfl, nstrF rfl ?_⟩⟩
    have st12 := st11.px (Px.of st11.pot e12)
    obtain ⟨mw, hmw⟩ := st12.whl
    have eL := hmw.sp.eL
    have hsg := hr0.2.2.1
    have hlen : r.rd.length ≤ 60 := by
      have h1 := rd_short flg p r hr0.2.1 hg hrf hr0.2.2.2
      have h2 : 2 ^ r.dep ≤ 2 ^ 3 := Nat.pow_le_pow_right (by decide) hrd
      have h3 : (2 : Nat) ^ 3 = 8 := rfl
      omega
    have hacc : mw.acc (idx r.rd) = true := (hmw.sp.acc _ (idx_wd (by omega) hsg)).mpr (plang_rd p r hr0.2.1 hr0.2.2.2)
    refine ⟨_, rfl, _, rfl, wh, mw, r.rd, rfl, hmw.at_, hmw.sp.wf, by omega, hlen, fun c hc => by rw [eL]; exact hsg c hc, fun H13 e13 => ⟨mw.acc (idx r.rd), true, rfl, rfl, _, rfl, ?_⟩⟩
    rw [hacc]
    refine ifF rfl ?_
    have e3 := (e11.trans e12).trans e13
    have st13 := st12.px (Px.of st12.pot e13)
    have p03 : Px a H9 H13 := p10.trans (Px.of st10.pot e3)
    have hr13 : Dp K (hid [a] H13) (.ref up) (.tuple r.ks) := by
      rw [← r.ks_d]
      exact dpOn hr10 (hid_same e3)
    have ds13 := dpsOn ds0' (hid_same e3)
    have hV13 := e3 _ _ (upd_same (H := H9) (a := V0) (o := .lst vs0))
    obtain ⟨up', xs, e, hT13, hxs⟩ := dp_tup hr13
    cases e
    have hxl := dpsLen hxs
    obtain ⟨k3, k2, _⟩ := ks_small hr0.1
    have n13 := ma st13.pot
    refine ⟨_, rfl, _, rfl, _, rfl, up, xs, rfl, .inr (hidTup hT13), fun l1 hl1 => ?_⟩
    obtain ⟨n14, s14, d14⟩ := newL (K := K) n13 hl1 hxs
    refine ⟨_, rfl, le1, fun t1 ht1 => ?_⟩
    obtain ⟨n15, s15, d15⟩ := newT (K := K) n14 ht1 (.cons (.int 0) .nil)
    have s35 := s14.trans s15
    refine ⟨up, t1, xs, [.int 0], rfl, rfl, hidTup (Same.tup (hid_same s35) hT13), K44.st upd_same, (fun z => by rw [z] at hxl; simp at hxl; omega), szl (by show _ + 1 ≤ 1000000; omega), (fun z => by cases z), fun _ t2 ht2 => ?_⟩
    obtain ⟨n16, s16, d16⟩ := newT (K := K) n15 ht2 (dps_app (dpsOn hxs (hid_same s35)) (.cons (.int 0) .nil))
    have s36 := s35.trans s16
    have hcut : cutV xs none (some (-1)) = xs.dropLast ∧ ¬(HT.sIx xs.length 0 none = 0 ∧ HT.sIx xs.length xs.length (some (-1)) = xs.length) := cut_last (by omega) (by omega)
    refine ⟨_, rfl, _, rfl, _, rfl, up, xs, rfl, hidTup (Same.tup (hid_same s36) hT13), hcut.2, fun t3 ht3 => ?_⟩
    rw [hcut.1]
    obtain ⟨n17, s17, d17⟩ := newT (K := K) n16 ht3 (dps_dropLast (dpsOn hxs (hid_same s36)))
    have s37 := s36.trans s17
    refine ⟨le4, fun l2 hl2 => ?_⟩
    have s38 := s37.trans (same_new hl2 (.lst [V.ref up, .ref l1, .ref t2, .ref t3]))
    refine ⟨V0, l2, _, _, rfl, rfl, s38 _ _ hV13, upd_same, szl (by show _ + 4 ≤ 1000000; omega), fun Vl hVl => ?_⟩
    have st18 := st13.px (Px.of st13.pot s38)
    have d4 : DpAll K (hid [a] _) (vs0 ++ [V.ref up, .ref l1, .ref t2, .ref t3]) (ds0 ++ [.tuple r.ks, .list r.ks, .tuple (r.ks ++ [.int 0]), .tuple r.ks.dropLast]) :=
      dps_app (dpsOn ds13 (hid_same s38)) (.cons (dpOn hr13 (hid_same s38)) (.cons (dpOn d14 (hid_same (((s15.trans s16).trans s17).trans (same_new hl2 _)))) (.cons (dpOn d16 (hid_same (s17.trans (same_new hl2 _)))) (.cons (dpOn d17 (hid_same (same_new hl2 _))) .nil))))
    have up18 := dpOn hr13 (hid_same s38)
    have odd4 : ∀ d ∈ ds0 ++ [PyData.tuple r.ks, .list r.ks, .tuple (r.ks ++ [.int 0]), .tuple r.ks.dropLast], Odd d := fun d hd => by
      rcases List.mem_append.mp hd with hd | hd
      · exact odd0 d hd
      · simp only [List.mem_cons, List.not_mem_nil, or_false] at hd
        rcases hd with rfl | rfl | rfl | rfl
        · rw [← r.ks_d]; exact odd_rd hr0.1
        · exact odd_list hr0.1
        · exact odd_plus hr0.1
        · exact odd_cut hr0.1
    have len4 : (ds0 ++ [PyData.tuple r.ks, .list r.ks, .tuple (r.ks ++ [.int 0]), .tuple r.ks.dropLast]).length ≤ 18 := by
      rw [List.length_append]
      show _ + 4 ≤ 18
      omega
    revert d4 odd4 len4 st18 up18 hVl
    generalize upd (upd _ t3 _) l2 _ = H18
    generalize vs0 ++ [V.ref up, .ref l1, .ref t2, .ref t3] = vs4
    generalize ds0 ++ [PyData.tuple r.ks, .list r.ks, .tuple (r.ks ++ [.int 0]), .tuple r.ks.dropLast] = ds4
    intro hVl st18 d4 up18 odd4 len4
    have hVla := st18.pot.ne hVl
    have pV := Px.new st18.pot hVl (.lst vs4)
    have upk : Dp K (hid [a] H18) (.ref up) r.d := by rw [r.ks_d]; exact up18
    have inv18 : ValInv K a up r Vl H18 vs4 ds4 18 (upd H18 Vl (.lst vs4)) := ⟨pV, upd_same, dpsOn d4 (hid_new hVl), len4, odd4⟩
    obtain ⟨xs5, hT5, hk5⟩ : ∃ xs5, SqT K (hid [a] H18) up xs5 ∧ atI xs5 0 = some (.str r.kind) := by
      obtain ⟨up5, xs5, e, h1, h2⟩ := rd_top upk
      cases e
      exact ⟨xs5, h1, h2⟩
    refine ⟨fun σ' H' => ∃ (vs : List V) (ds : List PyData), σ' = [some (.ref a), some (.int L), some vp, some (.ref F), some (.ref Mc), o5, o6, some (.int (0 + (i : Int))), some (.ref f), some (.ref O), some wh, some (.ref up), some (.ref Vl), some (.str r.rd), o14, o15, o16, o17] ∧ ValInv K a up r Vl H18 vs ds 19 H', ?_, ?_⟩
    · refine ⟨_, rfl, up, xs5, _, _, rfl, rfl, hidTup (Same.tup (hid_px pV List.mem_cons_self) hT5), hk5, rfl, _, rfl, ?_⟩
      by_cases hkr : r.kind = "round"
      case neg => exact strF hkr ⟨vs4, ds4, rfl, inv18.px, inv18.at_, inv18.vd, by have := inv18.le; omega, inv18.odd⟩
      refine strT hkr ?_
      obtain ⟨t', rs, rfl⟩ : ∃ t' rs, r = .rnd t' rs := by cases r <;> first | exact ⟨_, _, rfl⟩ | exact absurd hkr (by simp only [Rd.kind]; decide)
      obtain ⟨rfl, hr2, hrf2⟩ := hrf
      obtain ⟨up6, xs6, e, hT6, hx6⟩ := dp_tup upk
      cases e
      obtain ⟨w0, w1, rfl, g0, g1⟩ := dps2 hx6
      obtain rfl := dp_str g0
      obtain ⟨c6, us6, rfl, hc6, hus6⟩ := dp_lst g1
      have hS6 := hid_px pV (M := [a]) List.mem_cons_self
      refine ⟨_, rfl, .inl ⟨rfl, _, sl upd_same⟩, _, rfl, up, _, _, _, rfl, rfl, hidTup (Same.tup hS6 hT6), rfl, c6, us6, rfl, .inl ⟨hidSeq (Same.seq hS6 hc6), fun t5 ht5 => ⟨le2, fun t6 ht6 => ?_⟩⟩⟩
      have m6 : MOn [Vl, a] (upd H18 Vl (.lst vs4)) := (ma pV.2).cons upd_same
      obtain ⟨n7, s7, d7⟩ := newT (K := K) m6 ht5 (dpsOn hus6 (hid_new hVl))
      obtain ⟨n8, s8, d8⟩ := newT (K := K) n7 ht6 (.cons (.str "round") (.cons d7 .nil))
      have hV8 := (s7.trans s8) _ _ (upd_same (H := H18) (a := Vl) (o := .lst vs4))
      have hlen4 := dpsLen d4
      refine ⟨Vl, vs4, _, rfl, rfl, hV8, szt (by omega), vs4 ++ [.ref t6], ds4 ++ [(Rd.rnd true rs).d], rfl, (pV.same (s7.trans s8)).mutl hVl hVla, upd_same, ?_, by rw [List.length_append]; show _ + 1 ≤ 19; omega, fun d hd => ?_⟩
      · rw [hid_upd List.mem_cons_self]
        exact dps_app (dpsOn inv18.vd (hid_same (s7.trans s8))) (.cons d8 .nil)
      · rcases List.mem_append.mp hd with hd | hd
        · exact odd4 d hd
        · rw [List.mem_singleton.mp hd]; exact odd_rd (r := .rnd true rs) hr0.1
    rintro σ19 H19 ⟨vs5, ds5, rfl, inv19⟩
    refine ⟨_, rfl, by decide, by decide, ?_⟩
    refine for_range (fun k σ' H' => ∃ (vs : List V) (ds : List PyData) (o14 : Option V), σ' = [some (.ref a), some (.int L), some vp, some (.ref F), some (.ref Mc), o5, o6, some (.int (0 + (i : Int))), some (.ref f), some (.ref O), some wh, some (.ref up), some (.ref Vl), some (.str r.rd), o14, o15, o16, o17] ∧ ValInv K a up r Vl H18 vs ds (19 + k) H') ⟨vs5, ds5, _, rfl, inv19⟩ ?_ ?_
    · rintro k σ20 H20 hk ⟨vs6, ds6, o14', rfl, inv20⟩
      have hS20 := hid_pxl inv20.px (M := [a]) List.mem_cons_self hVl
      have hlen6 := dpsLen inv20.vd
      have hle := inv20.le
      refine ⟨_, rfl, .inl ⟨rfl, _, sl inv20.at_⟩, _, rfl, _, rfl, _, rfl, a, [Vl, a], .ref up, O, r, os2, odds, rfl, List.mem_cons_of_mem _ List.mem_cons_self, (ma inv20.px.2).cons inv20.at_, inv20.px.2, dpOn upk hS20, hr0.1, hrf, hrd, Same.seq hS20 (sl st18.odd), dpsOn st18.ods hS20, (by decide), (by decide), odds_odd, fun u2 d2 H21 e21 hd2 ho2 => ?_⟩
      refine ⟨Vl, vs6, u2, rfl, rfl, e21.lst inv20.at_ hVla, szt (by omega), vs6 ++ [u2], ds6 ++ [d2], _, rfl, (inv20.px.trans e21).mutl hVl hVla, upd_same, ?_, by rw [List.length_append]; show _ + 1 ≤ 19 + (k + 1); omega, fun d hd => ?_⟩
      · rw [hid_upd List.mem_cons_self]
        exact dps_app (dpsOn inv20.vd (hid_px e21 (List.mem_cons_of_mem _ List.mem_cons_self))) (.cons hd2 .nil)
      · rcases List.mem_append.mp hd with hd | hd
        · exact inv20.odd d hd
        · rw [List.mem_singleton.mp hd]; exact ho2
    · rintro σ20 H20 ⟨vs6, ds6, o14', rfl, inv20⟩
      exact ⟨Vl, vs6, ds6, _, _, rfl, st18.px inv20.px, inv20.at_, dpsOn inv20.vd hid_less, by have := inv20.le; omega, inv20.odd⟩
  rintro σ22 H22 ⟨Vl, vs, ds, o13', o14', rfl, st22, hV22, hds22, hdl, hodd⟩
  have hvl := dpsLen hds22
  refine ⟨_, rfl, Vl, rfl, ⟨_, sl hV22⟩, ?_⟩
  refine for_list (xs := vs) (fun j σ' H' => ∃ (o15 o16 o17 : Option V), σ' = [some (.ref a), some (.int L), some vp, some (.ref F), some (.ref Mc), o5, o6, some (.int (0 + (i : Int))), some (.ref f), some (.ref O), some wh, some u, some (.ref Vl), o13', o14', o15, o16, o17] ∧ Same H22 H') ⟨_, _, _, rfl, Same.refl _⟩ (fun j σ' H' _ ⟨_, _, _, _, e⟩ => sl (e _ _ hV22)) ?_ ?_
  case refine_2 => rintro σ23 H23 ⟨o15, o16, o17, rfl, e23⟩; exact ⟨_, _, _, _, _, _, _, _, rfl, st22.px (Px.of st22.pot e23)⟩
  rintro j x σ23 H23 hx ⟨o15, o16, o17, rfl, e23⟩
  obtain ⟨d, hd1, hd2⟩ := dpsGetV hds22 hx
  have hd23 : Dp K H23 x d := hidDp (dpOn hd2 (hid_same e23))
  have hod := hodd d (List.mem_of_getElem? hd1)
  have st23 := st22.px (Px.of st22.pot e23)
  have hp23 := hidDp st23.pat
  have hF23 := hidDp st23.fil
  have hlr : lawOf fl p d = true ↔ ReadsD L fl p d := lawOf_reads (by omega) (fun zs hzs => (hflk.2 zs hzs).2) hg hod.1
  have hM23 : H23 Mc = some (.lst ms) := hid_le _ _ st23.mac
  refine ⟨_, rfl, _, rfl, _, rfl, fun base' C => ?_⟩
  have F1 := hFn base' _ C rfl
  refine ⟨vp, x, f, fun Hx => (Hx f = some (FnO f Fo) ∧ Hx cf = some (CodeO cf Fo.qual)) ∧ Dp K Hx (.ref F) (flD fl), fl, L, p, d, rfl, hp23, hd23, hod.1, hod.2 3, hg, hdep, F1.imp (Nat.le_refl _) (fun H h => h.1) ?_, fun Ha Hb e h => ⟨⟨e _ _ h.1.1, e _ _ h.1.2⟩, dpOn h.2 e⟩, ⟨⟨st23.fo, st23.co⟩, hF23⟩, fun H24 e24 => ?_⟩
  · rintro vs Hq Qq g ⟨n, u2, d2, rfl, h1, h2, h3⟩
    exact ⟨.ref F, fl, n, u2, d2, rfl, rfl, g.2, hflk.1, h1, h2, h3⟩
  have eqb : ∀ b : Bool, (b = true ↔ ReadsD L fl p d) → b = lawOf fl p d := fun b hb => Bool.eq_iff_iff.mpr (hb.trans hlr.symm)
  generalize lawOf fl p d = due at hlr eqb
  have hshort : ∀ zs ∈ fl, ∀ z ∈ zs, z.length ≤ 2 ∧ ∀ c ∈ z.cps.toList, c ∈ sgs L := fun zs hzs => (hflk.2 zs hzs).2
  refine ⟨_, rfl, _, rfl, _, rfl, _, rfl, L, vp, .ref Mc, x, p, fl, d, rfl, hL1, hL2, dpOn hp23 e24, hg, hdep, hpar, ⟨Mc, ms, rfl, .inl (sl (e24 _ _ hM23)), by rw [hml, hflk.1], fun k v h => let ⟨m, hm⟩ := st23.mok k v h; ⟨m, hm.on e24⟩⟩, hflk.1, hshort, dpOn hd23 e24, hod.1, fun b1 hb1 H25 e25 => ?_⟩
  obtain rfl := (eqb b1 hb1).symm
  refine ⟨le1, fun tl htl => ?_⟩
  have e2425 := e24.trans e25
  have e26 := e2425.trans (same_new htl (.lst [.bl due]))
  refine ⟨_, rfl, .inl ⟨rfl, _, sl upd_same⟩, _, rfl, _, rfl, Mc, ms, rfl, .inl ⟨sl (e26 _ _ hM23), fun tm htm => ?_⟩⟩
  have e27 := e26.trans (same_new htm (.tup ms))
  have htl27 := (same_new htm (.tup ms)) _ _ (upd_same (H := H25) (a := tl) (o := .lst [.bl due]))
  refine ⟨_, rfl, _, rfl, rfl, rfl, L, vp, .ref tm, x, p, fl, d, rfl, hL1, hL2, dpOn hp23 e27, hg, hdep, hpar, ⟨tm, ms, rfl, .inr (K44.st upd_same), by rw [hml, hflk.1], fun k v h => let ⟨m, hm⟩ := st23.mok k v h; ⟨m, hm.on e27⟩⟩, hflk.1, hshort, dpOn hd23 e27, hod.1, fun b2 hb2 H28 e28 => ?_⟩
  obtain rfl := (eqb b2 hb2).symm
  have htl28 := e28 _ _ htl27
  have e2328 : Same H23 (upd H28 tl (.lst ([.bl due] ++ [.bl due]))) := Same.mut (e27.trans e28) (same_none e2425 htl)
  refine ⟨tl, _, _, rfl, rfl, htl28, szt (show 1 < 1000000 by decide), ?_⟩
  refine ⟨_, rfl, tl, due, rfl, sl upd_same, _, rfl, le1, fun l5 hl5 => ⟨l5, 2, _, rfl, rfl, upd_same, by decide, by decide, szl (show 2 ≤ 1000000 by decide), fun l6 hl6 => ⟨l6, due, rfl, sl upd_same, rfl, _, rfl, nstrF rfl ?_⟩⟩⟩
  have e29 := (e2328.trans (same_new hl5 (.lst [.bl due]))).trans (same_new hl6 (.lst (List.replicate (2 : Int).toNat [V.bl due]).flatten))
  refine ⟨_, rfl, _, rfl, ?_⟩
  cases due with
  | false => exact ifF rfl ⟨_, _, _, rfl, e23.trans e29⟩
  | true =>
    obtain ⟨r, rfl, hr⟩ := hlr.mp rfl
    have hrd : r.dep ≤ 3 := by have := isOf_dep p r hr.2.1; omega
    refine ifT rfl ⟨_, rfl, x, r, rfl, dpOn hd23 e29, hr.1, by omega, fun H30 e30 => ⟨_, rfl, x, r, rfl, dpOn hd23 (e29.trans e30), hr.1, hrd, fun H31 e31 => ⟨rfl, _, rfl, nstrF rfl ⟨_, _, _, rfl, e23.trans ((e29.trans e30).trans e31)⟩⟩⟩⟩
end
end K44
end
section
set_option maxHeartbeats 4000000
namespace K44
open PySem PySem.Spec PyProof.Rows L2 LamX NdefX
section
variable {P : Program} {w : World} {K : PySem.W.Frag} {mg : Str → Option Value} {base : Heap}
def sp_law (K : PySem.W.Frag) : Sp := fun vs H Q _ => ∃ (s : Addr) (ns : List Int), vs = [.ref s] ∧ SqL K H s (ns.map V.int) ∧ Tb K H ∧ ∀ H', Q (.bl true) H'
theorem c_law (T : Txt K mg) (TH : TabH K mg base) : CalG P w K mg base 20 "law" ["_law_script"] (sp_law K) := by
  have S : FnScope ["_law_script"] ["_law_script"] (defScope s_law) := fsc (by decide +kernel)
  refine CalG.ofT T.g_law T.b_law S (fun vs H Q E h => ?_) fun A outer s H vs Q hG hr h => ?_
  · obtain ⟨l, ns, rfl, _⟩ := h; rfl
  obtain ⟨l, ns, rfl, hl, htb, q⟩ := h
  refine ⟨_, (pss_one (ps_ret (pcG (c_law_right T TH) hG hr (pa_cons (pc (c_law_pot T) hr (pa_cons (pv 0) (pa_cons (pe_int) pa_nil))) pa_nil)))), ?_⟩
  exact ⟨_, rfl, l, ns, rfl, hl, fun a H' e _ hp => ⟨a, rfl, hp, TabsN.ext htb e, q⟩⟩
/-! ### the law's call at the head's heap -/
theorem law_end {mb : Str → Option Value} {k : Nat} {fa a : Addr} {cs : List (Addr × Addr)} {fd : FuncData} {x : Str} {sp : Sp} {z : Shared} {vs : List Value} {ns : List Int}
    (KX : K.In z.heap) (G : z.heap.Ns mainGlobals mg) (B : z.heap.Ns builtinsNs mb) (Bb : ∀ x : Str, x ≠ "__name__" → mb x = bootBuiltins x) (lim : z.heap.NoLimit) (gn : z.gens = #[])
    (tE : ∀ p ∈ cs, z.heap.get? p.2 = some { cls := .none, data := .fields #[] }) (tO : ∀ p ∈ cs, K.lookup p.2 = none) (tC : ∀ p ∈ cs, PySem.W.codeHdIn K p.1 p.2 = true) (bm : ∃ (m : Addr) (ob : Obj), mg "__builtins__" = some (.ref m) ∧ m ≠ builtinsNs ∧ z.heap.get? m = some ob ∧ ob.cls = .type "module" ∧ ob.dict = some builtinsNs ∧ ob.data = .plain)
    (la : z.heap.get? a = some { cls := .type "list", data := .seq vs.toArray }) (li : IntsAre vs ns) (ll : ns.length ≤ sizeLine) (hr : Room k callerA)
    (fn : ∀ base : Heap, K.In base → base.Ns mainGlobals mg → (∀ p ∈ cs, TabB base mg p.1 p.2) → FnG P w K mg base k fa fd [x] sp) (bi : ∀ (s : Shared) (u : Value), BindsTo s fd ⟨[u], []⟩ [(x, u)])
    (hs : ∀ H : Hp, (∀ p ∈ cs, H p.2 = some (.tbl #[])) → SqL K H a (ns.map V.int) → sp [.ref a] H (fun v _ => v = .bl true) E0) :
    codeAny (model P w) callerA (.call (.ref fa) ⟨[.ref a], []⟩) (fun r s' => r = .ok (.ret (.bool true)) ∧ OldK z.heap s'.heap ∧ s'.os = z.os ∧ AllBare s'.gens) z := by
  let H : Hp := fun b => if cs.any (fun p => p.2 == b) = true then some (.tbl #[]) else if b = a ∧ (K.lookup a).isNone = true then some (.frz { cls := .type "list", data := .seq vs.toArray } (.lst (ns.map V.int))) else none
  have hT : ∀ p ∈ cs, H p.2 = some (.tbl #[]) := fun p hp => if_pos (List.any_eq_true.mpr ⟨p, hp, by rw [beq_iff_eq]⟩)
  have at_ : ∀ b u, H b = some u → (∃ p ∈ cs, p.2 = b ∧ u = .tbl #[]) ∨ (b = a ∧ K.lookup a = none ∧ u = .frz { cls := .type "list", data := .seq vs.toArray } (.lst (ns.map V.int))) := by
    intro b u e
    by_cases c1 : cs.any (fun p => p.2 == b) = true
    · obtain ⟨p, hp, hb⟩ := List.any_eq_true.mp c1
      rw [beq_iff_eq] at hb
      rw [show H b = some (.tbl #[]) from if_pos c1] at e
      exact .inl ⟨p, hp, hb, (Option.some.inj e).symm⟩
    · by_cases c2 : b = a ∧ (K.lookup a).isNone = true
      · rw [show H b = _ from (if_neg c1).trans (if_pos c2)] at e
        exact .inr ⟨c2.1, Option.isNone_iff_eq_none.mp c2.2, (Option.some.inj e).symm⟩
      · rw [show H b = none from (if_neg c1).trans (if_neg c2)] at e
        cases e
  have aT : ∀ p ∈ cs, p.2 ≠ a := fun p hp e => by
    have e2 := tE p hp
    rw [e, la] at e2
    cases e2
  have out : ∀ {b : Addr} {o : Obj}, z.heap.get? b = some o → (∀ ys n, o.data ≠ .seq ys n) → o.data ≠ .fields #[] → H b = none := by
    intro b o e n1 n2
    cases q : H b with
    | none => rfl
    | some u =>
      rcases at_ b u q with ⟨p, hp, rfl, _⟩ | ⟨rfl, _, _⟩
      · rw [tE p hp] at e; cases e; exact absurd rfl n2
      · rw [la] at e; cases e; exact absurd rfl (n1 _ _)
  have there : ∀ {b : Addr} {o : Obj}, z.heap.get? b = some o → H b = none → (hidT z.heap H).get? b = some o := fun e n => hidT_get e n
  have ns' : ∀ {b : Addr} {m : Str → Option Value}, z.heap.Ns b m → (hidT z.heap H).Ns b m := by
    rintro b m ⟨o, es, ep, e, hd, r⟩
    exact ⟨o, es, ep, there e (out e (fun ys n y => by rw [hd] at y; cases y) fun y => by rw [hd] at y; cases y), hd, r⟩
  have KB : K.In (hidT z.heap H) := fun b o e => there (KX b o e) (by
    cases q : H b with
    | none => rfl
    | some u =>
      rcases at_ b u q with ⟨p, hp, rfl, _⟩ | ⟨rfl, n, _⟩
      · rw [tO p hp] at e; cases e
      · rw [n] at e; cases e)
  have ok : HOk P w H z.heap := by
    intro b u e
    rcases at_ b u e with ⟨p, hp, rfl, rfl⟩ | ⟨rfl, _, rfl⟩
    · exact tE p hp
    · exact ⟨la, by rw [List.length_map]; exact ll, vs, _, vals_ints li, la⟩
  have sq : SqL K H a (ns.map V.int) := by
    cases q : K.lookup a with
    | none => exact .inl (.inr ⟨_, (if_neg (fun y => by obtain ⟨p, hp, hb⟩ := List.any_eq_true.mp y; exact aT p hp (beq_iff_eq.mp hb))).trans (if_pos ⟨rfl, by rw [q]; rfl⟩)⟩)
    | some o =>
      have e := KX a o q
      rw [la] at e
      cases e
      have rv := vals_ints li
      have lv := rv.length
      rw [List.length_map] at lv
      exact .inr ⟨_, vs.toArray, _, q, rfl, rfl, rfl, by rw [List.size_toArray, ← lv]; exact ll, by simpa using rv⟩
  have tb : ∀ p ∈ cs, TabB (hidT z.heap H) mg p.1 p.2 := by
    intro p hp
    obtain ⟨m, ob, b1, b2, b3, b4, b5, b6⟩ := bm
    obtain ⟨go, ges, gep, ge, gd, _⟩ := G
    refine ⟨PySem.W.codeHd_of_K KB (tC p hp), ⟨m, ob, b1, b2, fun y => ?_, fun y => ?_, there b3 (out b3 (fun ys n y => by rw [b6] at y; cases y) fun y => by rw [b6] at y; cases y), b4, b5, b6⟩, fun y => ?_⟩
    · rw [y, ge] at b3; cases b3; rw [b6] at gd; cases gd
    · rw [y, tE p hp] at b3; cases b3; cases b6
    · rw [y, tE p hp] at ge; cases ge; cases gd
  have env : Env0 P w K mg (hidT z.heap H) callerA [] z H := ⟨rfl, ⟨KB, ns' G, ⟨mb, ns' B, Bb⟩, let ⟨mc, h1, h2⟩ := lim; ⟨mc, ns' h1, h2⟩⟩, fun b o e => of_hidT e, Nat.le_of_eq (hidT_size _ _), trivial, fun b hb => (by cases hb), ok, .of_eq gn⟩
  refine codeAny_mono ((fn _ KB (ns' G) tb).go callerA [] z H ⟨[.ref a], []⟩ [.ref a] [.ref a] _ rfl hr env (bi z (.ref a)) (.cons rfl .nil) (hs H hT sq)) fun r s' h => ?_
  match r, h with
  | .ok (.ret u), ⟨v, H', os, bare, un, ok', rv, q⟩ =>
    obtain rfl : v = .bl true := q
    obtain rfl : u = Value.bool true := rv
    have kept : ∀ b o, (∀ p ∈ cs, p.2 ≠ b) → z.heap.get? b = some o → s'.heap.get? b = some o := fun b o nb e => by
      cases q : H b with
      | none => exact un.keep b o e q (fun y => by cases y) (fun y => by cases y)
      | some u =>
        rcases at_ b u q with ⟨p, hp, hb, _⟩ | ⟨rfl, _, rfl⟩
        · exact absurd hb (nb p hp)
        · rw [la] at e
          cases e
          exact (ok' _ _ (un.frzs _ _ _ q)).1
    have grown : ∀ p ∈ cs, ∃ more : Array Value, s'.heap.get? p.2 = some { cls := .none, data := .fields more } := fun p hp => by
      obtain ⟨more, e⟩ := un.tbls p.2 #[] (hT p hp)
      exact ⟨_, ok' p.2 _ e⟩
    refine ⟨rfl, ⟨fun b o e => ?_, fun b o e => ?_⟩, os, bare⟩
    · by_cases hb : ∃ p ∈ cs, p.2 = b
      · obtain ⟨p, hp, rfl⟩ := hb
        obtain ⟨more, hm⟩ := grown p hp
        rw [tE p hp] at e
        cases e
        exact .inr (.inl ⟨((PySem.W.codeHd_of_K KX (tC p hp)).tab (tE p hp)).isCodeTable, rfl, #[], more, rfl, by rw [hm, Array.empty_append]⟩)
      · exact .inl (kept b o (fun p hp y => hb ⟨p, hp, y⟩) e)
    · by_cases hb : ∃ p ∈ cs, p.2 = b
      · obtain ⟨p, hp, rfl⟩ := hb
        obtain ⟨more, hm⟩ := grown p hp
        exact ⟨_, hm⟩
      · exact ⟨o, kept b o (fun p hp y => hb ⟨p, hp, y⟩) e⟩
end
end K44
open PySem PySem.W PySem.Calls PyProof.Rows
theorem PySem.Challenge.cw_widefills_k44_whole_readings_of_patterns_holds : PySem.Challenge.rw_widefills_k44_whole_readings_of_patterns.Holds := by
  w_on; o_law
  refine HandSHeadRun.head_any (r := K44.R) (q := view K44.R.prog [89]) (H := K44.hk) (ob := K44.ob) (M := 6000) (loose := K44.looseN) (d := HandSHeadRun.topDef K44.R.prog 89) (kwd := []) K44.ob_eq
    (by kernel_rfl) (fun s => by kernel_rfl) K44.run (by kernel_rfl) (by kernel_rfl) (by kernel_rfl) (by rfl) (by first | assumption | decide +kernel) (by decide +kernel) ⟨rfl, rfl, rfl, rfl, rfl, by decide +kernel⟩ ?hw ?hc
  case hw => w_witness2
  case hc =>
    refine Att.attach_callB (l := PySem.Challenge.rw_widefills_k44_whole_readings_of_patterns) (n := 63) rfl (by kernel_rfl) fun w s₀ s₁ mg mb fa o pm cd doc a vs ns G Y ho hd hcd hmg0 hobj hints hlen hbits hg => ?_
    obtain ⟨K, KX, c⟩ := Y
    have hmg : mg ("law" : PySem.Str) = some (.ref fa) := by
      have e : (HandSHeadRun.topDef K44.R.prog 89).name = ("law" : PySem.Str) := by kernel_rfl
      rw [← e]
      exact hmg0
    have T := K44.txt_of KX G.T.g c
    have ef := hmg.symm.trans T.g_law.g
    cases ef
    refine K44.law_end (k := 20) (x := "_law_script") (cs := K44.tf.map (He.cT K)) (sp := K44.sp_law K) KX G.T.g G.T.b G.T.builtins G.T.nolimit hg (fun p hp => ?_) (fun p hp => ?_) (fun p hp => ?_) G.T.bmain hobj hints (Nat.le_trans hlen (by decide)) ⟨rfl, by decide, by decide⟩ (fun base hK hN hT => (K44.c_law T fun p hp => hT _ (List.mem_map.mpr ⟨p, hp, rfl⟩)).fn) (fun s u => ?_) fun H hH hS => ⟨a, ns, rfl, hS, fun p hp => ?_, fun _ => rfl⟩
    · obtain ⟨q, hq, rfl⟩ := List.mem_map.mp hp; exact c.empty q hq
    · obtain ⟨q, hq, rfl⟩ := List.mem_map.mp hp; exact c.out q hq
    · obtain ⟨q, hq, rfl⟩ := List.mem_map.mp hp; exact c.hd q hq
    · exact T.g_law.F.bindsA (ps := ["_law_script"]) (fun _ _ _ _ _ _ us hl => match us, hl with | [_], _ => rfl) s [u] rfl
    · obtain ⟨q, hq, rfl⟩ := List.mem_map.mp hp
      exact NdefX.TabN.nil (hH _ (List.mem_map.mpr ⟨q, hq, rfl⟩))
end
