import PyProof.Rows.All
import Wide.All
import OpenK.AllK
import Wide.FinOn
import KE.KStateDown
import HandS.ForMost
import HandS.Defaults
import HandS.HeadHook4
import HandS.Head2
import HandS.HeadWalk
import KE.KDictCopyH
import HandS.Conv
import HandS.Set
import HandS.Strs
import HandS.SetBool
import HandS.SetFor
import HandS.SortInts
import HandS.AnyAll
import PyProof.GenCompD
import HandS.ClsMeth
import HandS.WordsExc
import KE.KSuper
import HandS.WideBits
import HandS.Flow
import HandS.Style
import HandS.ExcOwn
import HandS.SortRule
import HandS.Deep
import HandS.Dict
import KE.KNestM
import PySem.Challenge.RW_twoways_k22_whole_sentences_into_readers
set_option Elab.async false
set_option linter.all false
set_option maxRecDepth 100000
set_option maxHeartbeats 2000000
/-! The text by places, the facts of the top as data, what they say. Printed by wip/gen/head.py. -/
namespace Tw
open PySem PySem.Spec PyProof.Rows L2
def top (i : Nat) : Stmt := PySem.Challenge.pw_twoways_k22_whole_sentences_into_readers.main.body.getD i (.Pass ⟨0, 0, 0, 0⟩)
abbrev s_width : Stmt := top 1
abbrev s_uses : Stmt := top 6
abbrev s_is_in : Stmt := top 7
abbrev s_is_true_at : Stmt := top 8
abbrev s_Part___init__ : Stmt := inClass (top 9) 0
abbrev s_Part_at : Stmt := inClass (top 9) 1
abbrev s_AllPart_empty : Stmt := inClass (top 10) 0
abbrev s_AllPart_letter : Stmt := inClass (top 10) 1
abbrev s_AllPart_join : Stmt := inClass (top 10) 2
abbrev s_AllPart_is_accepted : Stmt := inClass (top 10) 3
abbrev s_OnePart_empty : Stmt := inClass (top 11) 0
abbrev s_OnePart_letter : Stmt := inClass (top 11) 1
abbrev s_OnePart_join : Stmt := inClass (top 11) 2
abbrev s_OnePart_is_accepted : Stmt := inClass (top 11) 3
abbrev s_NextPart_empty : Stmt := inClass (top 12) 0
abbrev s_NextPart_letter : Stmt := inClass (top 12) 1
abbrev s_NextPart_join : Stmt := inClass (top 12) 2
abbrev s_NextPart_is_accepted : Stmt := inClass (top 12) 3
abbrev s_EndPart_empty : Stmt := inClass (top 13) 0
abbrev s_EndPart_letter : Stmt := inClass (top 13) 1
abbrev s_EndPart_join : Stmt := inClass (top 13) 2
abbrev s_EndPart_is_accepted : Stmt := inClass (top 13) 3
abbrev s_TherePart___init__ : Stmt := inClass (top 14) 0
abbrev s_TherePart_labels_of : Stmt := inClass (top 14) 1
abbrev s_TherePart_empty : Stmt := inClass (top 14) 2
abbrev s_TherePart_letter : Stmt := inClass (top 14) 3
abbrev s_TherePart_join : Stmt := inClass (top 14) 4
abbrev s_TherePart_is_accepted : Stmt := inClass (top 14) 5
abbrev s_Table___init__ : Stmt := inClass (top 20) 0
abbrev s_Table_empty : Stmt := inClass (top 20) 1
abbrev s_Table_letter : Stmt := inClass (top 20) 2
abbrev s_Table_join : Stmt := inClass (top 20) 3
abbrev s_Table_is_accepted : Stmt := inClass (top 20) 4
abbrev s_Pairs___init__ : Stmt := inClass (top 21) 0
abbrev s_Pairs_empty : Stmt := inClass (top 21) 1
abbrev s_Pairs_letter : Stmt := inClass (top 21) 2
abbrev s_Pairs_join : Stmt := inClass (top 21) 3
abbrev s_Pairs_is_accepted : Stmt := inClass (top 21) 4
abbrev s_collect : Stmt := top 22
abbrev s_tabled : Stmt := top 23
abbrev s_made_reader : Stmt := top 24
abbrev s_numbered : Stmt := top 25
abbrev s_denied : Stmt := top 26
abbrev s_joint : Stmt := top 27
abbrev s_split : Stmt := top 28
abbrev s_leaders : Stmt := top 29
abbrev s_Leaders_empty : Stmt := inClass (top 30) 1
abbrev s_Leaders_letter : Stmt := inClass (top 30) 2
abbrev s_Leaders_join : Stmt := inClass (top 30) 3
abbrev s_least : Stmt := top 31
abbrev s_plain_part : Stmt := top 33
abbrev s_part_reader : Stmt := top 34
abbrev s_reader_with : Stmt := top 35
abbrev s_value : Stmt := top 37
abbrev s_accepts : Stmt := top 38
abbrev s__law_draw : Stmt := top 40
abbrev s__law_word : Stmt := top 41
abbrev s__law_place : Stmt := top 42
abbrev s__law_simple : Stmt := top 43
abbrev s__law_statement : Stmt := top 44
abbrev s__law_sentence : Stmt := top 45
abbrev s__law_true : Stmt := top 46
abbrev s__law_some_set : Stmt := top 47
abbrev s__law_so : Stmt := top 48
abbrev s__law_told : Stmt := top 49
abbrev s__law_bound : Stmt := top 50
abbrev s_law : Stmt := top 51
abbrev s_AllPart___init__ : Stmt := inClass (top 9) 0
abbrev s_AllPart_at : Stmt := inClass (top 9) 1
abbrev s_OnePart___init__ : Stmt := inClass (top 9) 0
abbrev s_OnePart_at : Stmt := inClass (top 9) 1
abbrev s_NextPart___init__ : Stmt := inClass (top 9) 0
abbrev s_NextPart_at : Stmt := inClass (top 9) 1
abbrev s_EndPart___init__ : Stmt := inClass (top 9) 0
abbrev s_EndPart_at : Stmt := inClass (top 9) 1
abbrev s_Leaders_is_accepted : Stmt := inClass (top 20) 4
abbrev s_Leaders___init__ : Stmt := inClass (top 30) 0
def d_width : He.DefD := ⟨("width", none), "width", "width", defArgs s_width, defBody s_width, defScope s_width, [], []⟩
def d_uses : He.DefD := ⟨("uses", none), "uses", "uses", defArgs s_uses, defBody s_uses, defScope s_uses, [], []⟩
def d_is_in : He.DefD := ⟨("is_in", none), "is_in", "is_in", defArgs s_is_in, defBody s_is_in, defScope s_is_in, [], []⟩
def d_is_true_at : He.DefD := ⟨("is_true_at", none), "is_true_at", "is_true_at", defArgs s_is_true_at, defBody s_is_true_at, defScope s_is_true_at, [], []⟩
def d_Part___init__ : He.DefD := ⟨("Part", some "__init__"), "__init__", "Part.__init__", defArgs s_Part___init__, defBody s_Part___init__, defScope s_Part___init__, [], []⟩
def d_Part_at : He.DefD := ⟨("Part", some "at"), "at", "Part.at", defArgs s_Part_at, defBody s_Part_at, defScope s_Part_at, [], []⟩
def d_AllPart_empty : He.DefD := ⟨("AllPart", some "empty"), "empty", "AllPart.empty", defArgs s_AllPart_empty, defBody s_AllPart_empty, defScope s_AllPart_empty, [], []⟩
def d_AllPart_letter : He.DefD := ⟨("AllPart", some "letter"), "letter", "AllPart.letter", defArgs s_AllPart_letter, defBody s_AllPart_letter, defScope s_AllPart_letter, [], []⟩
def d_AllPart_join : He.DefD := ⟨("AllPart", some "join"), "join", "AllPart.join", defArgs s_AllPart_join, defBody s_AllPart_join, defScope s_AllPart_join, [], []⟩
def d_AllPart_is_accepted : He.DefD := ⟨("AllPart", some "is_accepted"), "is_accepted", "AllPart.is_accepted", defArgs s_AllPart_is_accepted, defBody s_AllPart_is_accepted, defScope s_AllPart_is_accepted, [], []⟩
def d_OnePart_empty : He.DefD := ⟨("OnePart", some "empty"), "empty", "OnePart.empty", defArgs s_OnePart_empty, defBody s_OnePart_empty, defScope s_OnePart_empty, [], []⟩
def d_OnePart_letter : He.DefD := ⟨("OnePart", some "letter"), "letter", "OnePart.letter", defArgs s_OnePart_letter, defBody s_OnePart_letter, defScope s_OnePart_letter, [], []⟩
def d_OnePart_join : He.DefD := ⟨("OnePart", some "join"), "join", "OnePart.join", defArgs s_OnePart_join, defBody s_OnePart_join, defScope s_OnePart_join, [], []⟩
def d_OnePart_is_accepted : He.DefD := ⟨("OnePart", some "is_accepted"), "is_accepted", "OnePart.is_accepted", defArgs s_OnePart_is_accepted, defBody s_OnePart_is_accepted, defScope s_OnePart_is_accepted, [], []⟩
def d_NextPart_empty : He.DefD := ⟨("NextPart", some "empty"), "empty", "NextPart.empty", defArgs s_NextPart_empty, defBody s_NextPart_empty, defScope s_NextPart_empty, [], []⟩
def d_NextPart_letter : He.DefD := ⟨("NextPart", some "letter"), "letter", "NextPart.letter", defArgs s_NextPart_letter, defBody s_NextPart_letter, defScope s_NextPart_letter, [], []⟩
def d_NextPart_join : He.DefD := ⟨("NextPart", some "join"), "join", "NextPart.join", defArgs s_NextPart_join, defBody s_NextPart_join, defScope s_NextPart_join, [], []⟩
def d_NextPart_is_accepted : He.DefD := ⟨("NextPart", some "is_accepted"), "is_accepted", "NextPart.is_accepted", defArgs s_NextPart_is_accepted, defBody s_NextPart_is_accepted, defScope s_NextPart_is_accepted, [], []⟩
def d_EndPart_empty : He.DefD := ⟨("EndPart", some "empty"), "empty", "EndPart.empty", defArgs s_EndPart_empty, defBody s_EndPart_empty, defScope s_EndPart_empty, [], []⟩
def d_EndPart_letter : He.DefD := ⟨("EndPart", some "letter"), "letter", "EndPart.letter", defArgs s_EndPart_letter, defBody s_EndPart_letter, defScope s_EndPart_letter, [], []⟩
def d_EndPart_join : He.DefD := ⟨("EndPart", some "join"), "join", "EndPart.join", defArgs s_EndPart_join, defBody s_EndPart_join, defScope s_EndPart_join, [], []⟩
def d_EndPart_is_accepted : He.DefD := ⟨("EndPart", some "is_accepted"), "is_accepted", "EndPart.is_accepted", defArgs s_EndPart_is_accepted, defBody s_EndPart_is_accepted, defScope s_EndPart_is_accepted, [], []⟩
def d_TherePart___init__ : He.DefD := ⟨("TherePart", some "__init__"), "__init__", "TherePart.__init__", defArgs s_TherePart___init__, defBody s_TherePart___init__, defScope s_TherePart___init__, [], []⟩
def d_TherePart_labels_of : He.DefD := ⟨("TherePart", some "labels_of"), "labels_of", "TherePart.labels_of", defArgs s_TherePart_labels_of, defBody s_TherePart_labels_of, defScope s_TherePart_labels_of, [], []⟩
def d_TherePart_empty : He.DefD := ⟨("TherePart", some "empty"), "empty", "TherePart.empty", defArgs s_TherePart_empty, defBody s_TherePart_empty, defScope s_TherePart_empty, [], []⟩
def d_TherePart_letter : He.DefD := ⟨("TherePart", some "letter"), "letter", "TherePart.letter", defArgs s_TherePart_letter, defBody s_TherePart_letter, defScope s_TherePart_letter, [], []⟩
def d_TherePart_join : He.DefD := ⟨("TherePart", some "join"), "join", "TherePart.join", defArgs s_TherePart_join, defBody s_TherePart_join, defScope s_TherePart_join, [], []⟩
def d_TherePart_is_accepted : He.DefD := ⟨("TherePart", some "is_accepted"), "is_accepted", "TherePart.is_accepted", defArgs s_TherePart_is_accepted, defBody s_TherePart_is_accepted, defScope s_TherePart_is_accepted, [], []⟩
def d_Table___init__ : He.DefD := ⟨("Table", some "__init__"), "__init__", "Table.__init__", defArgs s_Table___init__, defBody s_Table___init__, defScope s_Table___init__, [], []⟩
def d_Table_empty : He.DefD := ⟨("Table", some "empty"), "empty", "Table.empty", defArgs s_Table_empty, defBody s_Table_empty, defScope s_Table_empty, [], []⟩
def d_Table_letter : He.DefD := ⟨("Table", some "letter"), "letter", "Table.letter", defArgs s_Table_letter, defBody s_Table_letter, defScope s_Table_letter, [], []⟩
def d_Table_join : He.DefD := ⟨("Table", some "join"), "join", "Table.join", defArgs s_Table_join, defBody s_Table_join, defScope s_Table_join, [], []⟩
def d_Table_is_accepted : He.DefD := ⟨("Table", some "is_accepted"), "is_accepted", "Table.is_accepted", defArgs s_Table_is_accepted, defBody s_Table_is_accepted, defScope s_Table_is_accepted, [], []⟩
def d_Pairs___init__ : He.DefD := ⟨("Pairs", some "__init__"), "__init__", "Pairs.__init__", defArgs s_Pairs___init__, defBody s_Pairs___init__, defScope s_Pairs___init__, [], []⟩
def d_Pairs_empty : He.DefD := ⟨("Pairs", some "empty"), "empty", "Pairs.empty", defArgs s_Pairs_empty, defBody s_Pairs_empty, defScope s_Pairs_empty, [], []⟩
def d_Pairs_letter : He.DefD := ⟨("Pairs", some "letter"), "letter", "Pairs.letter", defArgs s_Pairs_letter, defBody s_Pairs_letter, defScope s_Pairs_letter, [], []⟩
def d_Pairs_join : He.DefD := ⟨("Pairs", some "join"), "join", "Pairs.join", defArgs s_Pairs_join, defBody s_Pairs_join, defScope s_Pairs_join, [], []⟩
def d_Pairs_is_accepted : He.DefD := ⟨("Pairs", some "is_accepted"), "is_accepted", "Pairs.is_accepted", defArgs s_Pairs_is_accepted, defBody s_Pairs_is_accepted, defScope s_Pairs_is_accepted, [], []⟩
def d_collect : He.DefD := ⟨("collect", none), "collect", "collect", defArgs s_collect, defBody s_collect, defScope s_collect, [], []⟩
def d_tabled : He.DefD := ⟨("tabled", none), "tabled", "tabled", defArgs s_tabled, defBody s_tabled, defScope s_tabled, [], []⟩
def d_made_reader : He.DefD := ⟨("made_reader", none), "made_reader", "made_reader", defArgs s_made_reader, defBody s_made_reader, defScope s_made_reader, [], []⟩
def d_numbered : He.DefD := ⟨("numbered", none), "numbered", "numbered", defArgs s_numbered, defBody s_numbered, defScope s_numbered, [], []⟩
def d_denied : He.DefD := ⟨("denied", none), "denied", "denied", defArgs s_denied, defBody s_denied, defScope s_denied, [], []⟩
def d_joint : He.DefD := ⟨("joint", none), "joint", "joint", defArgs s_joint, defBody s_joint, defScope s_joint, [], []⟩
def d_split : He.DefD := ⟨("split", none), "split", "split", defArgs s_split, defBody s_split, defScope s_split, [], []⟩
def d_leaders : He.DefD := ⟨("leaders", none), "leaders", "leaders", defArgs s_leaders, defBody s_leaders, defScope s_leaders, [], []⟩
def d_Leaders_empty : He.DefD := ⟨("Leaders", some "empty"), "empty", "Leaders.empty", defArgs s_Leaders_empty, defBody s_Leaders_empty, defScope s_Leaders_empty, [], []⟩
def d_Leaders_letter : He.DefD := ⟨("Leaders", some "letter"), "letter", "Leaders.letter", defArgs s_Leaders_letter, defBody s_Leaders_letter, defScope s_Leaders_letter, [], []⟩
def d_Leaders_join : He.DefD := ⟨("Leaders", some "join"), "join", "Leaders.join", defArgs s_Leaders_join, defBody s_Leaders_join, defScope s_Leaders_join, [], []⟩
def d_least : He.DefD := ⟨("least", none), "least", "least", defArgs s_least, defBody s_least, defScope s_least, [], []⟩
def d_plain_part : He.DefD := ⟨("plain_part", none), "plain_part", "plain_part", defArgs s_plain_part, defBody s_plain_part, defScope s_plain_part, [], []⟩
def d_part_reader : He.DefD := ⟨("part_reader", none), "part_reader", "part_reader", defArgs s_part_reader, defBody s_part_reader, defScope s_part_reader, [], []⟩
def d_reader_with : He.DefD := ⟨("reader_with", none), "reader_with", "reader_with", defArgs s_reader_with, defBody s_reader_with, defScope s_reader_with, [], []⟩
def d_value : He.DefD := ⟨("value", none), "value", "value", defArgs s_value, defBody s_value, defScope s_value, [], []⟩
def d_accepts : He.DefD := ⟨("accepts", none), "accepts", "accepts", defArgs s_accepts, defBody s_accepts, defScope s_accepts, [], []⟩
def d__law_draw : He.DefD := ⟨("_law_draw", none), "_law_draw", "_law_draw", defArgs s__law_draw, defBody s__law_draw, defScope s__law_draw, [], []⟩
def d__law_word : He.DefD := ⟨("_law_word", none), "_law_word", "_law_word", defArgs s__law_word, defBody s__law_word, defScope s__law_word, [], []⟩
def d__law_place : He.DefD := ⟨("_law_place", none), "_law_place", "_law_place", defArgs s__law_place, defBody s__law_place, defScope s__law_place, [], []⟩
def d__law_simple : He.DefD := ⟨("_law_simple", none), "_law_simple", "_law_simple", defArgs s__law_simple, defBody s__law_simple, defScope s__law_simple, [], []⟩
def d__law_statement : He.DefD := ⟨("_law_statement", none), "_law_statement", "_law_statement", defArgs s__law_statement, defBody s__law_statement, defScope s__law_statement, [], []⟩
def d__law_sentence : He.DefD := ⟨("_law_sentence", none), "_law_sentence", "_law_sentence", defArgs s__law_sentence, defBody s__law_sentence, defScope s__law_sentence, [], []⟩
def d__law_true : He.DefD := ⟨("_law_true", none), "_law_true", "_law_true", defArgs s__law_true, defBody s__law_true, defScope s__law_true, [], []⟩
def d__law_some_set : He.DefD := ⟨("_law_some_set", none), "_law_some_set", "_law_some_set", defArgs s__law_some_set, defBody s__law_some_set, defScope s__law_some_set, [], []⟩
def d__law_so : He.DefD := ⟨("_law_so", none), "_law_so", "_law_so", defArgs s__law_so, defBody s__law_so, defScope s__law_so, [], []⟩
def d__law_told : He.DefD := ⟨("_law_told", none), "_law_told", "_law_told", defArgs s__law_told, defBody s__law_told, defScope s__law_told, [], []⟩
def d__law_bound : He.DefD := ⟨("_law_bound", none), "_law_bound", "_law_bound", defArgs s__law_bound, defBody s__law_bound, defScope s__law_bound, [], []⟩
def d_law : He.DefD := ⟨("law", none), "law", "law", defArgs s_law, defBody s_law, defScope s_law, [], []⟩
def d_AllPart___init__ : He.DefD := ⟨("AllPart", some "__init__"), "__init__", "Part.__init__", defArgs s_AllPart___init__, defBody s_AllPart___init__, defScope s_AllPart___init__, [], []⟩
def d_AllPart_at : He.DefD := ⟨("AllPart", some "at"), "at", "Part.at", defArgs s_AllPart_at, defBody s_AllPart_at, defScope s_AllPart_at, [], []⟩
def d_OnePart___init__ : He.DefD := ⟨("OnePart", some "__init__"), "__init__", "Part.__init__", defArgs s_OnePart___init__, defBody s_OnePart___init__, defScope s_OnePart___init__, [], []⟩
def d_OnePart_at : He.DefD := ⟨("OnePart", some "at"), "at", "Part.at", defArgs s_OnePart_at, defBody s_OnePart_at, defScope s_OnePart_at, [], []⟩
def d_NextPart___init__ : He.DefD := ⟨("NextPart", some "__init__"), "__init__", "Part.__init__", defArgs s_NextPart___init__, defBody s_NextPart___init__, defScope s_NextPart___init__, [], []⟩
def d_NextPart_at : He.DefD := ⟨("NextPart", some "at"), "at", "Part.at", defArgs s_NextPart_at, defBody s_NextPart_at, defScope s_NextPart_at, [], []⟩
def d_EndPart___init__ : He.DefD := ⟨("EndPart", some "__init__"), "__init__", "Part.__init__", defArgs s_EndPart___init__, defBody s_EndPart___init__, defScope s_EndPart___init__, [], []⟩
def d_EndPart_at : He.DefD := ⟨("EndPart", some "at"), "at", "Part.at", defArgs s_EndPart_at, defBody s_EndPart_at, defScope s_EndPart_at, [], []⟩
def d_Leaders_is_accepted : He.DefD := ⟨("Leaders", some "is_accepted"), "is_accepted", "Table.is_accepted", defArgs s_Leaders_is_accepted, defBody s_Leaders_is_accepted, defScope s_Leaders_is_accepted, [], []⟩
def fn : List He.DefD := [d_width, d_uses, d_is_in, d_is_true_at, d_Part___init__, d_Part_at, d_AllPart_empty, d_AllPart_letter, d_AllPart_join, d_AllPart_is_accepted, d_OnePart_empty, d_OnePart_letter, d_OnePart_join, d_OnePart_is_accepted, d_NextPart_empty, d_NextPart_letter, d_NextPart_join, d_NextPart_is_accepted, d_EndPart_empty, d_EndPart_letter, d_EndPart_join, d_EndPart_is_accepted, d_TherePart___init__, d_TherePart_labels_of, d_TherePart_empty, d_TherePart_letter, d_TherePart_join, d_TherePart_is_accepted, d_Table___init__, d_Table_empty, d_Table_letter, d_Table_join, d_Table_is_accepted, d_Pairs___init__, d_Pairs_empty, d_Pairs_letter, d_Pairs_join, d_Pairs_is_accepted, d_collect, d_tabled, d_made_reader, d_numbered, d_denied, d_joint, d_split, d_leaders, d_Leaders_empty, d_Leaders_letter, d_Leaders_join, d_least, d_plain_part, d_part_reader, d_reader_with, d_value, d_accepts, d__law_draw, d__law_word, d__law_place, d__law_simple, d__law_statement, d__law_sentence, d__law_true, d__law_some_set, d__law_so, d__law_told, d__law_bound, d_law, d_AllPart___init__, d_AllPart_at, d_OnePart___init__, d_OnePart_at, d_NextPart___init__, d_NextPart_at, d_EndPart___init__, d_EndPart_at, d_Leaders_is_accepted]
def fa : List He.Fa := [.glo "width",
  .glo "uses",
  .glo "is_in",
  .glo "is_true_at",
  .glo "collect",
  .glo "tabled",
  .glo "made_reader",
  .glo "numbered",
  .glo "denied",
  .glo "joint",
  .glo "split",
  .glo "leaders",
  .glo "least",
  .glo "plain_part",
  .glo "part_reader",
  .glo "reader_with",
  .glo "value",
  .glo "accepts",
  .glo "_law_draw",
  .glo "_law_word",
  .glo "_law_place",
  .glo "_law_simple",
  .glo "_law_statement",
  .glo "_law_sentence",
  .glo "_law_true",
  .glo "_law_some_set",
  .glo "_law_so",
  .glo "_law_told",
  .glo "_law_bound",
  .glo "law",
  .glo "Part",
  .glo "AllPart",
  .glo "OnePart",
  .glo "NextPart",
  .glo "EndPart",
  .glo "TherePart",
  .glo "TwowaysError",
  .glo "TooManyValues",
  .glo "Table",
  .glo "Pairs",
  .glo "Leaders",
  .glo "PARTS",
  .free "all",
  .free "any",
  .free "enumerate",
  .free "int",
  .free "len",
  .free "list",
  .free "max",
  .free "min",
  .free "range",
  .free "set",
  .free "sorted",
  .free "super",
  .free "tuple",
  .str "NONE" "none",
  .str "BROKEN" "broken",
  .int "MOST_VALUES" 300,
  .cls "Part",
  .noat "Part" "sentence",
  .noat "Part" "line",
  .noat "Part" "sets",
  .meth "Part" "at",
  .cls "AllPart",
  .noat "AllPart" "sentence",
  .noat "AllPart" "line",
  .noat "AllPart" "sets",
  .meth "AllPart" "at",
  .meth "AllPart" "empty",
  .meth "AllPart" "letter",
  .meth "AllPart" "join",
  .meth "AllPart" "is_accepted",
  .mkr "AllPart",
  .cls "OnePart",
  .noat "OnePart" "sentence",
  .noat "OnePart" "line",
  .noat "OnePart" "sets",
  .meth "OnePart" "at",
  .meth "OnePart" "empty",
  .meth "OnePart" "letter",
  .meth "OnePart" "join",
  .meth "OnePart" "is_accepted",
  .mkr "OnePart",
  .cls "NextPart",
  .noat "NextPart" "sentence",
  .noat "NextPart" "line",
  .noat "NextPart" "sets",
  .meth "NextPart" "at",
  .meth "NextPart" "empty",
  .meth "NextPart" "letter",
  .meth "NextPart" "join",
  .meth "NextPart" "is_accepted",
  .mkr "NextPart",
  .cls "EndPart",
  .noat "EndPart" "sentence",
  .noat "EndPart" "line",
  .noat "EndPart" "sets",
  .meth "EndPart" "at",
  .meth "EndPart" "empty",
  .meth "EndPart" "letter",
  .meth "EndPart" "join",
  .meth "EndPart" "is_accepted",
  .mkr "EndPart",
  .cls "TherePart",
  .noat "TherePart" "inner",
  .noat "TherePart" "codes",
  .meth "TherePart" "labels_of",
  .meth "TherePart" "empty",
  .meth "TherePart" "letter",
  .meth "TherePart" "join",
  .meth "TherePart" "is_accepted",
  .mkr "TherePart",
  .cls "Table",
  .noat "Table" "reader",
  .meth "Table" "empty",
  .meth "Table" "letter",
  .meth "Table" "join",
  .meth "Table" "is_accepted",
  .mkr "Table",
  .cls "Pairs",
  .noat "Pairs" "kind",
  .noat "Pairs" "first",
  .noat "Pairs" "second",
  .meth "Pairs" "empty",
  .meth "Pairs" "letter",
  .meth "Pairs" "join",
  .meth "Pairs" "is_accepted",
  .mkr "Pairs",
  .cls "Leaders",
  .noat "Leaders" "reader",
  .noat "Leaders" "leading",
  .meth "Leaders" "empty",
  .meth "Leaders" "letter",
  .meth "Leaders" "join",
  .meth "Leaders" "is_accepted",
  .mkr "Leaders",
  .exm "TooManyValues" "TooManyValues" true]
def nm1 : List PySem.Str := [PySem.Str.ofString "width", PySem.Str.ofString "NONE", PySem.Str.ofString "BROKEN", PySem.Str.ofString "PARTS", PySem.Str.ofString "uses", PySem.Str.ofString "is_in", PySem.Str.ofString "is_true_at", PySem.Str.ofString "Part", PySem.Str.ofString "AllPart", PySem.Str.ofString "OnePart", PySem.Str.ofString "NextPart", PySem.Str.ofString "EndPart", PySem.Str.ofString "TherePart", PySem.Str.ofString "TwowaysError", PySem.Str.ofString "TooManyValues", PySem.Str.ofString "MOST_VALUES", PySem.Str.ofString "Table", PySem.Str.ofString "Pairs", PySem.Str.ofString "collect", PySem.Str.ofString "tabled", PySem.Str.ofString "made_reader", PySem.Str.ofString "numbered"]
def nm2 : List PySem.Str := [PySem.Str.ofString "denied", PySem.Str.ofString "joint", PySem.Str.ofString "split", PySem.Str.ofString "leaders", PySem.Str.ofString "Leaders", PySem.Str.ofString "least", PySem.Str.ofString "plain_part", PySem.Str.ofString "part_reader", PySem.Str.ofString "reader_with", PySem.Str.ofString "value", PySem.Str.ofString "accepts", PySem.Str.ofString "_law_draw", PySem.Str.ofString "_law_word", PySem.Str.ofString "_law_place", PySem.Str.ofString "_law_simple", PySem.Str.ofString "_law_statement", PySem.Str.ofString "_law_sentence", PySem.Str.ofString "_law_true", PySem.Str.ofString "_law_some_set", PySem.Str.ofString "_law_so", PySem.Str.ofString "_law_told", PySem.Str.ofString "_law_bound"]
/-! ### what else is asked of the top -/
def parts : List (Str × He.Dv) := [("denied", .int 1), ("both", .int 2), ("there", .int 1)]
def others : List Str := ["set", "letter", "not", "and", "all", "next", "first", "last", "nothing", "one"]
/-- the cell of Leaders.__init__, its code -/
def cellOf (K : PySem.W.Frag) : Addr := match K.lookup (He.fAd K ("Leaders", some "__init__")) with
  | some ⟨_, _, .func fd, _⟩ => (match fd.closure with
    | [(_, c)] => c
    | _ => 0)
  | _ => 0
def codeL (K : PySem.W.Frag) : Addr := He.codeOf K ("Leaders", some "__init__")
abbrev FnY : Type := Option (Str × Str × Arguments × FuncBody × Scope × Addr × List Str × Addr)
def fnY (K : PySem.W.Frag) : FnY := match K.lookup (He.fAd K ("Leaders", some "__init__")) with
  | some ⟨_, _, .func fd, _⟩ => some (fd.name, fd.qualname, fd.params, fd.body, fd.scope, fd.globals, fd.closure.map (·.1), fd.builtins)
  | _ => none
def valY : FnY := some ("__init__", "Leaders.__init__", defArgs s_Leaders___init__, .stmts (defBody s_Leaders___init__), defScope s_Leaders___init__, mainGlobals, ["__class__"], builtinsNs)
def mainFile : Str := PySem.Challenge.pw_twoways_k22_whole_sentences_into_readers.main.file
/-- the method that super() is asked for -/
def dflN (K : PySem.W.Frag) : Bool := match K.lookup (He.fAd K ("Leaders", some "__init__")) with
  | some ⟨_, _, .func fd, _⟩ => (match fd.defaults, fd.code with
    | .none, .ref _ => true
    | _, _ => false)
  | _ => false
def supB (K : PySem.W.Frag) : Bool := dflN K && PySem.W.codeIn K (.ref (codeL K)) "Leaders.__init__" &&
  ((match K.lookup (codeL K) with
    | some ⟨_, _, .fields vs, _⟩ => (match (vs[2]? : Option Value) with
      | some (.str fi _) => mainFile == fi
      | _ => false)
    | _ => false) &&
  ((match K.lookup (cellOf K) with
    | some ⟨_, _, .cell (some (.ref D)), _⟩ => decide (D = He.ga K "Leaders")
    | _ => false) &&
  ((PySem.W.clsIn K (He.ga K "Leaders")).isSome && (decide (PySem.W.mroIn K (He.ga K "Leaders") (.ref (He.ga K "Leaders")) = some true) &&
  (He.eqO (PySem.W.ks_superIn K (He.ga K "Leaders") (He.ga K "Leaders") "__init__") (some (some (.ref (He.fAd K ("Table", some "__init__"))))) &&
  (He.eqO (PySem.W.nsIn K cStatics "thirdparty.any") (some none) && (decide (PySem.W.typeIn K (.ref (He.fAd K ("Table", some "__init__"))) = some (.type "function")) && PySem.W.fnIn K (He.fAd K ("Table", some "__init__")))))))))
def ex (K : PySem.W.Frag) : Bool := PySem.W.excIn K (He.ga K "TooManyValues") He.veBase "ValueError.__new__" && (PySem.W.keepIn K (.ref (He.ga K "TooManyValues")) && (decide (PySem.W.subIn K (.ref (He.ga K "TooManyValues")) (.type "BaseException") = some true) &&
  (decide (PySem.W.typeIn K (.ref (He.ga K "TooManyValues")) = some (.type "type")) && (He.valsB K (He.ga K "PARTS") parts && ((others.all fun z => He.eqO (PySem.W.nsIn K (He.ga K "PARTS") z) (some none)) && supB K)))))
def ts : List He.Tab := [((fun K => He.ga K "PARTS"), ["denied", "both", "there"])]
def tf : List He.Defn := [("collect", none), ("TherePart", some "is_accepted")]
/-! ### the Hook: HeadHook4's, with cStatics among what is looked at, and Leaders.__init__ -/
def kOf (g : Addr → Option Obj) : PySem.W.Frag := He.frT g (cStatics :: He.asD g 5)
abbrev AlY : Type := He.AlX × FnY
def obsY (g : Addr → Option Obj) : AlY := ((He.obsT fa fn ts (kOf g), ex (kOf g) && He.tabsB g tf (kOf g)), fnY (kOf g))
def valYY (w : World) : AlY := (He.valX fn ts w, valY)
structure SaysY (w : World) (h : Heap) (K : PySem.W.Frag) : Prop where
  x : He.SaysX fa fn ts tf ex w h K
  y : fnY K = valY
theorem saysY_of {w : World} {h : Heap} (e : obsY h.get? = valYY w) : SaysY w h (kOf h.get?) := by
  have e0 : (He.obsT fa fn ts (kOf h.get?), ex (kOf h.get?) && He.tabsB h.get? tf (kOf h.get?)) = He.valX fn ts w := congrArg (fun z : AlY => z.1) e
  have e1 : He.obsT fa fn ts (kOf h.get?) = He.valT fn ts w := congrArg (fun z : He.AlX => z.1) e0
  have e2 : (ex (kOf h.get?) && He.tabsB h.get? tf (kOf h.get?)) = true := congrArg (fun z : He.AlX => z.2) e0
  obtain ⟨h1, h2⟩ := He.ba e2
  have key : ∀ p ∈ tf, PySem.W.codeHdIn (kOf h.get?) (He.cT (kOf h.get?) p).1 (He.cT (kOf h.get?) p).2 = true ∧ ∃ o, h.get? (He.cT (kOf h.get?) p).2 = some o ∧ He.emptyTab o = true := fun p hp => by
    obtain ⟨h3, h4⟩ := He.ba (List.all_eq_true.mp h2 p hp)
    refine ⟨h3, ?_⟩
    cases q : h.get? (He.cT (kOf h.get?) p).2 with
    | none => rw [q] at h4; cases h4
    | some o => rw [q] at h4; exact ⟨o, rfl, h4⟩
  refine ⟨⟨e1, h1, fun p hp => (key p hp).1, fun p hp => ?_, fun p hp => ?_⟩, congrArg (fun z : AlY => z.2) e⟩
  · obtain ⟨_, o, q, z⟩ := key p hp
    exact He.frT_none q z
  · obtain ⟨_, o, q, z⟩ := key p hp
    rw [q, He.emptyTab_eq z]
def hk : PySem.W.Hook where
  α := AlY
  obs := fun s => obsY s.heap.get?
  val := fun w => valYY w
  says := fun w h => ∃ K : PySem.W.Frag, K.In h ∧ SaysY w h K
  of := fun _ _ e => ⟨_, He.frT_in, saysY_of e⟩
  keeps := fun _ _ _ ⟨K, hK, c⟩ k => ⟨K, PySem.W.Frag.In.keeps hK k, ⟨⟨c.x.t, c.x.more, c.x.hd, c.x.out, fun p hp => k _ _ (c.x.empty p hp)⟩, c.y⟩⟩
theorem obsY_eq {g : Addr → Option Obj} {s : Shared} (h : ∀ a, g a = s.heap.get? a) : obsY g = hk.obs s := by
  have e : g = s.heap.get? := funext h
  rw [e] <;> rfl

/-! ### the facts, for the walks -/
structure Tx (w : World) (K : PySem.W.Frag) (mg : Str → Option Value) : Prop where
  hp : ∃ h : Heap, K.In h ∧ h.Ns mainGlobals mg
  t : He.SaysT fa fn ts w K
  more : ex K = true
  y : fnY K = valY
theorem Tx.c {w : World} {K : PySem.W.Frag} {mg : Str → Option Value} (T : Tx w K mg) : He.SaysD fa fn K := T.t.d
theorem Tx.X {w : World} {K : PySem.W.Frag} {mg : Str → Option Value} (T : Tx w K mg) : K.In T.hp.choose := T.hp.choose_spec.1
theorem Tx.G {w : World} {K : PySem.W.Frag} {mg : Str → Option Value} (T : Tx w K mg) : T.hp.choose.Ns mainGlobals mg := T.hp.choose_spec.2

theorem Tx.g_width {w : World} {K : PySem.W.Frag} {mg : Str → Option Value} (T : Tx w K mg) : mg "width" = some (.ref (He.ga K "width")) := He.glo_ok T.X T.G (T.c.fact 0 (f := .glo "width") rfl)
theorem Tx.g_uses {w : World} {K : PySem.W.Frag} {mg : Str → Option Value} (T : Tx w K mg) : mg "uses" = some (.ref (He.ga K "uses")) := He.glo_ok T.X T.G (T.c.fact 1 (f := .glo "uses") rfl)
theorem Tx.g_is_in {w : World} {K : PySem.W.Frag} {mg : Str → Option Value} (T : Tx w K mg) : mg "is_in" = some (.ref (He.ga K "is_in")) := He.glo_ok T.X T.G (T.c.fact 2 (f := .glo "is_in") rfl)
theorem Tx.g_is_true_at {w : World} {K : PySem.W.Frag} {mg : Str → Option Value} (T : Tx w K mg) : mg "is_true_at" = some (.ref (He.ga K "is_true_at")) := He.glo_ok T.X T.G (T.c.fact 3 (f := .glo "is_true_at") rfl)
theorem Tx.g_collect {w : World} {K : PySem.W.Frag} {mg : Str → Option Value} (T : Tx w K mg) : mg "collect" = some (.ref (He.ga K "collect")) := He.glo_ok T.X T.G (T.c.fact 4 (f := .glo "collect") rfl)
theorem Tx.g_tabled {w : World} {K : PySem.W.Frag} {mg : Str → Option Value} (T : Tx w K mg) : mg "tabled" = some (.ref (He.ga K "tabled")) := He.glo_ok T.X T.G (T.c.fact 5 (f := .glo "tabled") rfl)
theorem Tx.g_made_reader {w : World} {K : PySem.W.Frag} {mg : Str → Option Value} (T : Tx w K mg) : mg "made_reader" = some (.ref (He.ga K "made_reader")) := He.glo_ok T.X T.G (T.c.fact 6 (f := .glo "made_reader") rfl)
theorem Tx.g_numbered {w : World} {K : PySem.W.Frag} {mg : Str → Option Value} (T : Tx w K mg) : mg "numbered" = some (.ref (He.ga K "numbered")) := He.glo_ok T.X T.G (T.c.fact 7 (f := .glo "numbered") rfl)
theorem Tx.g_denied {w : World} {K : PySem.W.Frag} {mg : Str → Option Value} (T : Tx w K mg) : mg "denied" = some (.ref (He.ga K "denied")) := He.glo_ok T.X T.G (T.c.fact 8 (f := .glo "denied") rfl)
theorem Tx.g_joint {w : World} {K : PySem.W.Frag} {mg : Str → Option Value} (T : Tx w K mg) : mg "joint" = some (.ref (He.ga K "joint")) := He.glo_ok T.X T.G (T.c.fact 9 (f := .glo "joint") rfl)
theorem Tx.g_split {w : World} {K : PySem.W.Frag} {mg : Str → Option Value} (T : Tx w K mg) : mg "split" = some (.ref (He.ga K "split")) := He.glo_ok T.X T.G (T.c.fact 10 (f := .glo "split") rfl)
theorem Tx.g_leaders {w : World} {K : PySem.W.Frag} {mg : Str → Option Value} (T : Tx w K mg) : mg "leaders" = some (.ref (He.ga K "leaders")) := He.glo_ok T.X T.G (T.c.fact 11 (f := .glo "leaders") rfl)
theorem Tx.g_least {w : World} {K : PySem.W.Frag} {mg : Str → Option Value} (T : Tx w K mg) : mg "least" = some (.ref (He.ga K "least")) := He.glo_ok T.X T.G (T.c.fact 12 (f := .glo "least") rfl)
theorem Tx.g_plain_part {w : World} {K : PySem.W.Frag} {mg : Str → Option Value} (T : Tx w K mg) : mg "plain_part" = some (.ref (He.ga K "plain_part")) := He.glo_ok T.X T.G (T.c.fact 13 (f := .glo "plain_part") rfl)
theorem Tx.g_part_reader {w : World} {K : PySem.W.Frag} {mg : Str → Option Value} (T : Tx w K mg) : mg "part_reader" = some (.ref (He.ga K "part_reader")) := He.glo_ok T.X T.G (T.c.fact 14 (f := .glo "part_reader") rfl)
theorem Tx.g_reader_with {w : World} {K : PySem.W.Frag} {mg : Str → Option Value} (T : Tx w K mg) : mg "reader_with" = some (.ref (He.ga K "reader_with")) := He.glo_ok T.X T.G (T.c.fact 15 (f := .glo "reader_with") rfl)
theorem Tx.g_value {w : World} {K : PySem.W.Frag} {mg : Str → Option Value} (T : Tx w K mg) : mg "value" = some (.ref (He.ga K "value")) := He.glo_ok T.X T.G (T.c.fact 16 (f := .glo "value") rfl)
theorem Tx.g_accepts {w : World} {K : PySem.W.Frag} {mg : Str → Option Value} (T : Tx w K mg) : mg "accepts" = some (.ref (He.ga K "accepts")) := He.glo_ok T.X T.G (T.c.fact 17 (f := .glo "accepts") rfl)
theorem Tx.g__law_draw {w : World} {K : PySem.W.Frag} {mg : Str → Option Value} (T : Tx w K mg) : mg "_law_draw" = some (.ref (He.ga K "_law_draw")) := He.glo_ok T.X T.G (T.c.fact 18 (f := .glo "_law_draw") rfl)
theorem Tx.g__law_word {w : World} {K : PySem.W.Frag} {mg : Str → Option Value} (T : Tx w K mg) : mg "_law_word" = some (.ref (He.ga K "_law_word")) := He.glo_ok T.X T.G (T.c.fact 19 (f := .glo "_law_word") rfl)
theorem Tx.g__law_place {w : World} {K : PySem.W.Frag} {mg : Str → Option Value} (T : Tx w K mg) : mg "_law_place" = some (.ref (He.ga K "_law_place")) := He.glo_ok T.X T.G (T.c.fact 20 (f := .glo "_law_place") rfl)
theorem Tx.g__law_simple {w : World} {K : PySem.W.Frag} {mg : Str → Option Value} (T : Tx w K mg) : mg "_law_simple" = some (.ref (He.ga K "_law_simple")) := He.glo_ok T.X T.G (T.c.fact 21 (f := .glo "_law_simple") rfl)
theorem Tx.g__law_statement {w : World} {K : PySem.W.Frag} {mg : Str → Option Value} (T : Tx w K mg) : mg "_law_statement" = some (.ref (He.ga K "_law_statement")) := He.glo_ok T.X T.G (T.c.fact 22 (f := .glo "_law_statement") rfl)
theorem Tx.g__law_sentence {w : World} {K : PySem.W.Frag} {mg : Str → Option Value} (T : Tx w K mg) : mg "_law_sentence" = some (.ref (He.ga K "_law_sentence")) := He.glo_ok T.X T.G (T.c.fact 23 (f := .glo "_law_sentence") rfl)
theorem Tx.g__law_true {w : World} {K : PySem.W.Frag} {mg : Str → Option Value} (T : Tx w K mg) : mg "_law_true" = some (.ref (He.ga K "_law_true")) := He.glo_ok T.X T.G (T.c.fact 24 (f := .glo "_law_true") rfl)
theorem Tx.g__law_some_set {w : World} {K : PySem.W.Frag} {mg : Str → Option Value} (T : Tx w K mg) : mg "_law_some_set" = some (.ref (He.ga K "_law_some_set")) := He.glo_ok T.X T.G (T.c.fact 25 (f := .glo "_law_some_set") rfl)
theorem Tx.g__law_so {w : World} {K : PySem.W.Frag} {mg : Str → Option Value} (T : Tx w K mg) : mg "_law_so" = some (.ref (He.ga K "_law_so")) := He.glo_ok T.X T.G (T.c.fact 26 (f := .glo "_law_so") rfl)
theorem Tx.g__law_told {w : World} {K : PySem.W.Frag} {mg : Str → Option Value} (T : Tx w K mg) : mg "_law_told" = some (.ref (He.ga K "_law_told")) := He.glo_ok T.X T.G (T.c.fact 27 (f := .glo "_law_told") rfl)
theorem Tx.g__law_bound {w : World} {K : PySem.W.Frag} {mg : Str → Option Value} (T : Tx w K mg) : mg "_law_bound" = some (.ref (He.ga K "_law_bound")) := He.glo_ok T.X T.G (T.c.fact 28 (f := .glo "_law_bound") rfl)
theorem Tx.g_law {w : World} {K : PySem.W.Frag} {mg : Str → Option Value} (T : Tx w K mg) : mg "law" = some (.ref (He.ga K "law")) := He.glo_ok T.X T.G (T.c.fact 29 (f := .glo "law") rfl)
theorem Tx.g_Part {w : World} {K : PySem.W.Frag} {mg : Str → Option Value} (T : Tx w K mg) : mg "Part" = some (.ref (He.ga K "Part")) := He.glo_ok T.X T.G (T.c.fact 30 (f := .glo "Part") rfl)
theorem Tx.g_AllPart {w : World} {K : PySem.W.Frag} {mg : Str → Option Value} (T : Tx w K mg) : mg "AllPart" = some (.ref (He.ga K "AllPart")) := He.glo_ok T.X T.G (T.c.fact 31 (f := .glo "AllPart") rfl)
theorem Tx.g_OnePart {w : World} {K : PySem.W.Frag} {mg : Str → Option Value} (T : Tx w K mg) : mg "OnePart" = some (.ref (He.ga K "OnePart")) := He.glo_ok T.X T.G (T.c.fact 32 (f := .glo "OnePart") rfl)
theorem Tx.g_NextPart {w : World} {K : PySem.W.Frag} {mg : Str → Option Value} (T : Tx w K mg) : mg "NextPart" = some (.ref (He.ga K "NextPart")) := He.glo_ok T.X T.G (T.c.fact 33 (f := .glo "NextPart") rfl)
theorem Tx.g_EndPart {w : World} {K : PySem.W.Frag} {mg : Str → Option Value} (T : Tx w K mg) : mg "EndPart" = some (.ref (He.ga K "EndPart")) := He.glo_ok T.X T.G (T.c.fact 34 (f := .glo "EndPart") rfl)
theorem Tx.g_TherePart {w : World} {K : PySem.W.Frag} {mg : Str → Option Value} (T : Tx w K mg) : mg "TherePart" = some (.ref (He.ga K "TherePart")) := He.glo_ok T.X T.G (T.c.fact 35 (f := .glo "TherePart") rfl)
theorem Tx.g_TwowaysError {w : World} {K : PySem.W.Frag} {mg : Str → Option Value} (T : Tx w K mg) : mg "TwowaysError" = some (.ref (He.ga K "TwowaysError")) := He.glo_ok T.X T.G (T.c.fact 36 (f := .glo "TwowaysError") rfl)
theorem Tx.g_TooManyValues {w : World} {K : PySem.W.Frag} {mg : Str → Option Value} (T : Tx w K mg) : mg "TooManyValues" = some (.ref (He.ga K "TooManyValues")) := He.glo_ok T.X T.G (T.c.fact 37 (f := .glo "TooManyValues") rfl)
theorem Tx.g_Table {w : World} {K : PySem.W.Frag} {mg : Str → Option Value} (T : Tx w K mg) : mg "Table" = some (.ref (He.ga K "Table")) := He.glo_ok T.X T.G (T.c.fact 38 (f := .glo "Table") rfl)
theorem Tx.g_Pairs {w : World} {K : PySem.W.Frag} {mg : Str → Option Value} (T : Tx w K mg) : mg "Pairs" = some (.ref (He.ga K "Pairs")) := He.glo_ok T.X T.G (T.c.fact 39 (f := .glo "Pairs") rfl)
theorem Tx.g_Leaders {w : World} {K : PySem.W.Frag} {mg : Str → Option Value} (T : Tx w K mg) : mg "Leaders" = some (.ref (He.ga K "Leaders")) := He.glo_ok T.X T.G (T.c.fact 40 (f := .glo "Leaders") rfl)
theorem Tx.g_PARTS {w : World} {K : PySem.W.Frag} {mg : Str → Option Value} (T : Tx w K mg) : mg "PARTS" = some (.ref (He.ga K "PARTS")) := He.glo_ok T.X T.G (T.c.fact 41 (f := .glo "PARTS") rfl)
theorem Tx.m_all {w : World} {K : PySem.W.Frag} {mg : Str → Option Value} (T : Tx w K mg) : mg "all" = none := He.free_ok T.X T.G (T.c.fact 42 (f := .free "all") rfl)
theorem Tx.m_any {w : World} {K : PySem.W.Frag} {mg : Str → Option Value} (T : Tx w K mg) : mg "any" = none := He.free_ok T.X T.G (T.c.fact 43 (f := .free "any") rfl)
theorem Tx.m_enumerate {w : World} {K : PySem.W.Frag} {mg : Str → Option Value} (T : Tx w K mg) : mg "enumerate" = none := He.free_ok T.X T.G (T.c.fact 44 (f := .free "enumerate") rfl)
theorem Tx.m_int {w : World} {K : PySem.W.Frag} {mg : Str → Option Value} (T : Tx w K mg) : mg "int" = none := He.free_ok T.X T.G (T.c.fact 45 (f := .free "int") rfl)
theorem Tx.m_len {w : World} {K : PySem.W.Frag} {mg : Str → Option Value} (T : Tx w K mg) : mg "len" = none := He.free_ok T.X T.G (T.c.fact 46 (f := .free "len") rfl)
theorem Tx.m_list {w : World} {K : PySem.W.Frag} {mg : Str → Option Value} (T : Tx w K mg) : mg "list" = none := He.free_ok T.X T.G (T.c.fact 47 (f := .free "list") rfl)
theorem Tx.m_max {w : World} {K : PySem.W.Frag} {mg : Str → Option Value} (T : Tx w K mg) : mg "max" = none := He.free_ok T.X T.G (T.c.fact 48 (f := .free "max") rfl)
theorem Tx.m_min {w : World} {K : PySem.W.Frag} {mg : Str → Option Value} (T : Tx w K mg) : mg "min" = none := He.free_ok T.X T.G (T.c.fact 49 (f := .free "min") rfl)
theorem Tx.m_range {w : World} {K : PySem.W.Frag} {mg : Str → Option Value} (T : Tx w K mg) : mg "range" = none := He.free_ok T.X T.G (T.c.fact 50 (f := .free "range") rfl)
theorem Tx.m_set {w : World} {K : PySem.W.Frag} {mg : Str → Option Value} (T : Tx w K mg) : mg "set" = none := He.free_ok T.X T.G (T.c.fact 51 (f := .free "set") rfl)
theorem Tx.m_sorted {w : World} {K : PySem.W.Frag} {mg : Str → Option Value} (T : Tx w K mg) : mg "sorted" = none := He.free_ok T.X T.G (T.c.fact 52 (f := .free "sorted") rfl)
theorem Tx.m_super {w : World} {K : PySem.W.Frag} {mg : Str → Option Value} (T : Tx w K mg) : mg "super" = none := He.free_ok T.X T.G (T.c.fact 53 (f := .free "super") rfl)
theorem Tx.m_tuple {w : World} {K : PySem.W.Frag} {mg : Str → Option Value} (T : Tx w K mg) : mg "tuple" = none := He.free_ok T.X T.G (T.c.fact 54 (f := .free "tuple") rfl)
theorem Tx.g_NONE {w : World} {K : PySem.W.Frag} {mg : Str → Option Value} (T : Tx w K mg) : ∃ t, mg "NONE" = some (.str "none" t) := He.str_ok T.X T.G (T.c.fact 55 (f := .str "NONE" "none") rfl)
theorem Tx.g_BROKEN {w : World} {K : PySem.W.Frag} {mg : Str → Option Value} (T : Tx w K mg) : ∃ t, mg "BROKEN" = some (.str "broken" t) := He.str_ok T.X T.G (T.c.fact 56 (f := .str "BROKEN" "broken") rfl)
theorem Tx.g_MOST {w : World} {K : PySem.W.Frag} {mg : Str → Option Value} (T : Tx w K mg) : ∃ t, mg "MOST_VALUES" = some (.int 300 t) := He.int_ok T.X T.G (T.c.fact 57 (f := .int "MOST_VALUES" 300) rfl)
theorem Tx.c_Part {w : World} {K : PySem.W.Frag} {mg : Str → Option Value} (T : Tx w K mg) : Cls K (He.ga K "Part") := He.cls_ok (T.c.fact 58 (f := .cls "Part") rfl)
theorem Tx.n_Part_sentence {w : World} {K : PySem.W.Frag} {mg : Str → Option Value} (T : Tx w K mg) : NoAttr K (He.ga K "Part") "sentence" := He.noat_ok (T.c.fact 59 (f := .noat "Part" "sentence") rfl)
theorem Tx.n_Part_line {w : World} {K : PySem.W.Frag} {mg : Str → Option Value} (T : Tx w K mg) : NoAttr K (He.ga K "Part") "line" := He.noat_ok (T.c.fact 60 (f := .noat "Part" "line") rfl)
theorem Tx.n_Part_sets {w : World} {K : PySem.W.Frag} {mg : Str → Option Value} (T : Tx w K mg) : NoAttr K (He.ga K "Part") "sets" := He.noat_ok (T.c.fact 61 (f := .noat "Part" "sets") rfl)
theorem Tx.k_Part_at {w : World} {K : PySem.W.Frag} {mg : Str → Option Value} (T : Tx w K mg) : Meth K (He.ga K "Part") "at" (He.fAd K ("Part", some "at")) := He.meth_ok (T.c.fact 62 (f := .meth "Part" "at") rfl)
theorem Tx.c_AllPart {w : World} {K : PySem.W.Frag} {mg : Str → Option Value} (T : Tx w K mg) : Cls K (He.ga K "AllPart") := He.cls_ok (T.c.fact 63 (f := .cls "AllPart") rfl)
theorem Tx.n_AllPart_sentence {w : World} {K : PySem.W.Frag} {mg : Str → Option Value} (T : Tx w K mg) : NoAttr K (He.ga K "AllPart") "sentence" := He.noat_ok (T.c.fact 64 (f := .noat "AllPart" "sentence") rfl)
theorem Tx.n_AllPart_line {w : World} {K : PySem.W.Frag} {mg : Str → Option Value} (T : Tx w K mg) : NoAttr K (He.ga K "AllPart") "line" := He.noat_ok (T.c.fact 65 (f := .noat "AllPart" "line") rfl)
theorem Tx.n_AllPart_sets {w : World} {K : PySem.W.Frag} {mg : Str → Option Value} (T : Tx w K mg) : NoAttr K (He.ga K "AllPart") "sets" := He.noat_ok (T.c.fact 66 (f := .noat "AllPart" "sets") rfl)
theorem Tx.k_AllPart_at {w : World} {K : PySem.W.Frag} {mg : Str → Option Value} (T : Tx w K mg) : Meth K (He.ga K "AllPart") "at" (He.fAd K ("AllPart", some "at")) := He.meth_ok (T.c.fact 67 (f := .meth "AllPart" "at") rfl)
theorem Tx.k_AllPart_empty {w : World} {K : PySem.W.Frag} {mg : Str → Option Value} (T : Tx w K mg) : Meth K (He.ga K "AllPart") "empty" (He.fAd K ("AllPart", some "empty")) := He.meth_ok (T.c.fact 68 (f := .meth "AllPart" "empty") rfl)
theorem Tx.k_AllPart_letter {w : World} {K : PySem.W.Frag} {mg : Str → Option Value} (T : Tx w K mg) : Meth K (He.ga K "AllPart") "letter" (He.fAd K ("AllPart", some "letter")) := He.meth_ok (T.c.fact 69 (f := .meth "AllPart" "letter") rfl)
theorem Tx.k_AllPart_join {w : World} {K : PySem.W.Frag} {mg : Str → Option Value} (T : Tx w K mg) : Meth K (He.ga K "AllPart") "join" (He.fAd K ("AllPart", some "join")) := He.meth_ok (T.c.fact 70 (f := .meth "AllPart" "join") rfl)
theorem Tx.k_AllPart_is_accepted {w : World} {K : PySem.W.Frag} {mg : Str → Option Value} (T : Tx w K mg) : Meth K (He.ga K "AllPart") "is_accepted" (He.fAd K ("AllPart", some "is_accepted")) := He.meth_ok (T.c.fact 71 (f := .meth "AllPart" "is_accepted") rfl)
theorem Tx.m_AllPart {w : World} {K : PySem.W.Frag} {mg : Str → Option Value} (T : Tx w K mg) : Mk K (He.ga K "AllPart") (He.fAd K ("AllPart", some "__init__")) := He.mkr_ok (T.c.fact 72 (f := .mkr "AllPart") rfl)
theorem Tx.c_OnePart {w : World} {K : PySem.W.Frag} {mg : Str → Option Value} (T : Tx w K mg) : Cls K (He.ga K "OnePart") := He.cls_ok (T.c.fact 73 (f := .cls "OnePart") rfl)
theorem Tx.n_OnePart_sentence {w : World} {K : PySem.W.Frag} {mg : Str → Option Value} (T : Tx w K mg) : NoAttr K (He.ga K "OnePart") "sentence" := He.noat_ok (T.c.fact 74 (f := .noat "OnePart" "sentence") rfl)
theorem Tx.n_OnePart_line {w : World} {K : PySem.W.Frag} {mg : Str → Option Value} (T : Tx w K mg) : NoAttr K (He.ga K "OnePart") "line" := He.noat_ok (T.c.fact 75 (f := .noat "OnePart" "line") rfl)
theorem Tx.n_OnePart_sets {w : World} {K : PySem.W.Frag} {mg : Str → Option Value} (T : Tx w K mg) : NoAttr K (He.ga K "OnePart") "sets" := He.noat_ok (T.c.fact 76 (f := .noat "OnePart" "sets") rfl)
theorem Tx.k_OnePart_at {w : World} {K : PySem.W.Frag} {mg : Str → Option Value} (T : Tx w K mg) : Meth K (He.ga K "OnePart") "at" (He.fAd K ("OnePart", some "at")) := He.meth_ok (T.c.fact 77 (f := .meth "OnePart" "at") rfl)
theorem Tx.k_OnePart_empty {w : World} {K : PySem.W.Frag} {mg : Str → Option Value} (T : Tx w K mg) : Meth K (He.ga K "OnePart") "empty" (He.fAd K ("OnePart", some "empty")) := He.meth_ok (T.c.fact 78 (f := .meth "OnePart" "empty") rfl)
theorem Tx.k_OnePart_letter {w : World} {K : PySem.W.Frag} {mg : Str → Option Value} (T : Tx w K mg) : Meth K (He.ga K "OnePart") "letter" (He.fAd K ("OnePart", some "letter")) := He.meth_ok (T.c.fact 79 (f := .meth "OnePart" "letter") rfl)
theorem Tx.k_OnePart_join {w : World} {K : PySem.W.Frag} {mg : Str → Option Value} (T : Tx w K mg) : Meth K (He.ga K "OnePart") "join" (He.fAd K ("OnePart", some "join")) := He.meth_ok (T.c.fact 80 (f := .meth "OnePart" "join") rfl)
theorem Tx.k_OnePart_is_accepted {w : World} {K : PySem.W.Frag} {mg : Str → Option Value} (T : Tx w K mg) : Meth K (He.ga K "OnePart") "is_accepted" (He.fAd K ("OnePart", some "is_accepted")) := He.meth_ok (T.c.fact 81 (f := .meth "OnePart" "is_accepted") rfl)
theorem Tx.m_OnePart {w : World} {K : PySem.W.Frag} {mg : Str → Option Value} (T : Tx w K mg) : Mk K (He.ga K "OnePart") (He.fAd K ("OnePart", some "__init__")) := He.mkr_ok (T.c.fact 82 (f := .mkr "OnePart") rfl)
theorem Tx.c_NextPart {w : World} {K : PySem.W.Frag} {mg : Str → Option Value} (T : Tx w K mg) : Cls K (He.ga K "NextPart") := He.cls_ok (T.c.fact 83 (f := .cls "NextPart") rfl)
theorem Tx.n_NextPart_sentence {w : World} {K : PySem.W.Frag} {mg : Str → Option Value} (T : Tx w K mg) : NoAttr K (He.ga K "NextPart") "sentence" := He.noat_ok (T.c.fact 84 (f := .noat "NextPart" "sentence") rfl)
theorem Tx.n_NextPart_line {w : World} {K : PySem.W.Frag} {mg : Str → Option Value} (T : Tx w K mg) : NoAttr K (He.ga K "NextPart") "line" := He.noat_ok (T.c.fact 85 (f := .noat "NextPart" "line") rfl)
theorem Tx.n_NextPart_sets {w : World} {K : PySem.W.Frag} {mg : Str → Option Value} (T : Tx w K mg) : NoAttr K (He.ga K "NextPart") "sets" := He.noat_ok (T.c.fact 86 (f := .noat "NextPart" "sets") rfl)
theorem Tx.k_NextPart_at {w : World} {K : PySem.W.Frag} {mg : Str → Option Value} (T : Tx w K mg) : Meth K (He.ga K "NextPart") "at" (He.fAd K ("NextPart", some "at")) := He.meth_ok (T.c.fact 87 (f := .meth "NextPart" "at") rfl)
theorem Tx.k_NextPart_empty {w : World} {K : PySem.W.Frag} {mg : Str → Option Value} (T : Tx w K mg) : Meth K (He.ga K "NextPart") "empty" (He.fAd K ("NextPart", some "empty")) := He.meth_ok (T.c.fact 88 (f := .meth "NextPart" "empty") rfl)
theorem Tx.k_NextPart_letter {w : World} {K : PySem.W.Frag} {mg : Str → Option Value} (T : Tx w K mg) : Meth K (He.ga K "NextPart") "letter" (He.fAd K ("NextPart", some "letter")) := He.meth_ok (T.c.fact 89 (f := .meth "NextPart" "letter") rfl)
theorem Tx.k_NextPart_join {w : World} {K : PySem.W.Frag} {mg : Str → Option Value} (T : Tx w K mg) : Meth K (He.ga K "NextPart") "join" (He.fAd K ("NextPart", some "join")) := He.meth_ok (T.c.fact 90 (f := .meth "NextPart" "join") rfl)
theorem Tx.k_NextPart_is_accepted {w : World} {K : PySem.W.Frag} {mg : Str → Option Value} (T : Tx w K mg) : Meth K (He.ga K "NextPart") "is_accepted" (He.fAd K ("NextPart", some "is_accepted")) := He.meth_ok (T.c.fact 91 (f := .meth "NextPart" "is_accepted") rfl)
theorem Tx.m_NextPart {w : World} {K : PySem.W.Frag} {mg : Str → Option Value} (T : Tx w K mg) : Mk K (He.ga K "NextPart") (He.fAd K ("NextPart", some "__init__")) := He.mkr_ok (T.c.fact 92 (f := .mkr "NextPart") rfl)
theorem Tx.c_EndPart {w : World} {K : PySem.W.Frag} {mg : Str → Option Value} (T : Tx w K mg) : Cls K (He.ga K "EndPart") := He.cls_ok (T.c.fact 93 (f := .cls "EndPart") rfl)
theorem Tx.n_EndPart_sentence {w : World} {K : PySem.W.Frag} {mg : Str → Option Value} (T : Tx w K mg) : NoAttr K (He.ga K "EndPart") "sentence" := He.noat_ok (T.c.fact 94 (f := .noat "EndPart" "sentence") rfl)
theorem Tx.n_EndPart_line {w : World} {K : PySem.W.Frag} {mg : Str → Option Value} (T : Tx w K mg) : NoAttr K (He.ga K "EndPart") "line" := He.noat_ok (T.c.fact 95 (f := .noat "EndPart" "line") rfl)
theorem Tx.n_EndPart_sets {w : World} {K : PySem.W.Frag} {mg : Str → Option Value} (T : Tx w K mg) : NoAttr K (He.ga K "EndPart") "sets" := He.noat_ok (T.c.fact 96 (f := .noat "EndPart" "sets") rfl)
theorem Tx.k_EndPart_at {w : World} {K : PySem.W.Frag} {mg : Str → Option Value} (T : Tx w K mg) : Meth K (He.ga K "EndPart") "at" (He.fAd K ("EndPart", some "at")) := He.meth_ok (T.c.fact 97 (f := .meth "EndPart" "at") rfl)
theorem Tx.k_EndPart_empty {w : World} {K : PySem.W.Frag} {mg : Str → Option Value} (T : Tx w K mg) : Meth K (He.ga K "EndPart") "empty" (He.fAd K ("EndPart", some "empty")) := He.meth_ok (T.c.fact 98 (f := .meth "EndPart" "empty") rfl)
theorem Tx.k_EndPart_letter {w : World} {K : PySem.W.Frag} {mg : Str → Option Value} (T : Tx w K mg) : Meth K (He.ga K "EndPart") "letter" (He.fAd K ("EndPart", some "letter")) := He.meth_ok (T.c.fact 99 (f := .meth "EndPart" "letter") rfl)
theorem Tx.k_EndPart_join {w : World} {K : PySem.W.Frag} {mg : Str → Option Value} (T : Tx w K mg) : Meth K (He.ga K "EndPart") "join" (He.fAd K ("EndPart", some "join")) := He.meth_ok (T.c.fact 100 (f := .meth "EndPart" "join") rfl)
theorem Tx.k_EndPart_is_accepted {w : World} {K : PySem.W.Frag} {mg : Str → Option Value} (T : Tx w K mg) : Meth K (He.ga K "EndPart") "is_accepted" (He.fAd K ("EndPart", some "is_accepted")) := He.meth_ok (T.c.fact 101 (f := .meth "EndPart" "is_accepted") rfl)
theorem Tx.m_EndPart {w : World} {K : PySem.W.Frag} {mg : Str → Option Value} (T : Tx w K mg) : Mk K (He.ga K "EndPart") (He.fAd K ("EndPart", some "__init__")) := He.mkr_ok (T.c.fact 102 (f := .mkr "EndPart") rfl)
theorem Tx.c_TherePart {w : World} {K : PySem.W.Frag} {mg : Str → Option Value} (T : Tx w K mg) : Cls K (He.ga K "TherePart") := He.cls_ok (T.c.fact 103 (f := .cls "TherePart") rfl)
theorem Tx.n_TherePart_inner {w : World} {K : PySem.W.Frag} {mg : Str → Option Value} (T : Tx w K mg) : NoAttr K (He.ga K "TherePart") "inner" := He.noat_ok (T.c.fact 104 (f := .noat "TherePart" "inner") rfl)
theorem Tx.n_TherePart_codes {w : World} {K : PySem.W.Frag} {mg : Str → Option Value} (T : Tx w K mg) : NoAttr K (He.ga K "TherePart") "codes" := He.noat_ok (T.c.fact 105 (f := .noat "TherePart" "codes") rfl)
theorem Tx.k_TherePart_labels_of {w : World} {K : PySem.W.Frag} {mg : Str → Option Value} (T : Tx w K mg) : Meth K (He.ga K "TherePart") "labels_of" (He.fAd K ("TherePart", some "labels_of")) := He.meth_ok (T.c.fact 106 (f := .meth "TherePart" "labels_of") rfl)
theorem Tx.k_TherePart_empty {w : World} {K : PySem.W.Frag} {mg : Str → Option Value} (T : Tx w K mg) : Meth K (He.ga K "TherePart") "empty" (He.fAd K ("TherePart", some "empty")) := He.meth_ok (T.c.fact 107 (f := .meth "TherePart" "empty") rfl)
theorem Tx.k_TherePart_letter {w : World} {K : PySem.W.Frag} {mg : Str → Option Value} (T : Tx w K mg) : Meth K (He.ga K "TherePart") "letter" (He.fAd K ("TherePart", some "letter")) := He.meth_ok (T.c.fact 108 (f := .meth "TherePart" "letter") rfl)
theorem Tx.k_TherePart_join {w : World} {K : PySem.W.Frag} {mg : Str → Option Value} (T : Tx w K mg) : Meth K (He.ga K "TherePart") "join" (He.fAd K ("TherePart", some "join")) := He.meth_ok (T.c.fact 109 (f := .meth "TherePart" "join") rfl)
theorem Tx.k_TherePart_is_accepted {w : World} {K : PySem.W.Frag} {mg : Str → Option Value} (T : Tx w K mg) : Meth K (He.ga K "TherePart") "is_accepted" (He.fAd K ("TherePart", some "is_accepted")) := He.meth_ok (T.c.fact 110 (f := .meth "TherePart" "is_accepted") rfl)
theorem Tx.m_TherePart {w : World} {K : PySem.W.Frag} {mg : Str → Option Value} (T : Tx w K mg) : Mk K (He.ga K "TherePart") (He.fAd K ("TherePart", some "__init__")) := He.mkr_ok (T.c.fact 111 (f := .mkr "TherePart") rfl)
theorem Tx.c_Table {w : World} {K : PySem.W.Frag} {mg : Str → Option Value} (T : Tx w K mg) : Cls K (He.ga K "Table") := He.cls_ok (T.c.fact 112 (f := .cls "Table") rfl)
theorem Tx.n_Table_reader {w : World} {K : PySem.W.Frag} {mg : Str → Option Value} (T : Tx w K mg) : NoAttr K (He.ga K "Table") "reader" := He.noat_ok (T.c.fact 113 (f := .noat "Table" "reader") rfl)
theorem Tx.k_Table_empty {w : World} {K : PySem.W.Frag} {mg : Str → Option Value} (T : Tx w K mg) : Meth K (He.ga K "Table") "empty" (He.fAd K ("Table", some "empty")) := He.meth_ok (T.c.fact 114 (f := .meth "Table" "empty") rfl)
theorem Tx.k_Table_letter {w : World} {K : PySem.W.Frag} {mg : Str → Option Value} (T : Tx w K mg) : Meth K (He.ga K "Table") "letter" (He.fAd K ("Table", some "letter")) := He.meth_ok (T.c.fact 115 (f := .meth "Table" "letter") rfl)
theorem Tx.k_Table_join {w : World} {K : PySem.W.Frag} {mg : Str → Option Value} (T : Tx w K mg) : Meth K (He.ga K "Table") "join" (He.fAd K ("Table", some "join")) := He.meth_ok (T.c.fact 116 (f := .meth "Table" "join") rfl)
theorem Tx.k_Table_is_accepted {w : World} {K : PySem.W.Frag} {mg : Str → Option Value} (T : Tx w K mg) : Meth K (He.ga K "Table") "is_accepted" (He.fAd K ("Table", some "is_accepted")) := He.meth_ok (T.c.fact 117 (f := .meth "Table" "is_accepted") rfl)
theorem Tx.m_Table {w : World} {K : PySem.W.Frag} {mg : Str → Option Value} (T : Tx w K mg) : Mk K (He.ga K "Table") (He.fAd K ("Table", some "__init__")) := He.mkr_ok (T.c.fact 118 (f := .mkr "Table") rfl)
theorem Tx.c_Pairs {w : World} {K : PySem.W.Frag} {mg : Str → Option Value} (T : Tx w K mg) : Cls K (He.ga K "Pairs") := He.cls_ok (T.c.fact 119 (f := .cls "Pairs") rfl)
theorem Tx.n_Pairs_kind {w : World} {K : PySem.W.Frag} {mg : Str → Option Value} (T : Tx w K mg) : NoAttr K (He.ga K "Pairs") "kind" := He.noat_ok (T.c.fact 120 (f := .noat "Pairs" "kind") rfl)
theorem Tx.n_Pairs_first {w : World} {K : PySem.W.Frag} {mg : Str → Option Value} (T : Tx w K mg) : NoAttr K (He.ga K "Pairs") "first" := He.noat_ok (T.c.fact 121 (f := .noat "Pairs" "first") rfl)
theorem Tx.n_Pairs_second {w : World} {K : PySem.W.Frag} {mg : Str → Option Value} (T : Tx w K mg) : NoAttr K (He.ga K "Pairs") "second" := He.noat_ok (T.c.fact 122 (f := .noat "Pairs" "second") rfl)
theorem Tx.k_Pairs_empty {w : World} {K : PySem.W.Frag} {mg : Str → Option Value} (T : Tx w K mg) : Meth K (He.ga K "Pairs") "empty" (He.fAd K ("Pairs", some "empty")) := He.meth_ok (T.c.fact 123 (f := .meth "Pairs" "empty") rfl)
theorem Tx.k_Pairs_letter {w : World} {K : PySem.W.Frag} {mg : Str → Option Value} (T : Tx w K mg) : Meth K (He.ga K "Pairs") "letter" (He.fAd K ("Pairs", some "letter")) := He.meth_ok (T.c.fact 124 (f := .meth "Pairs" "letter") rfl)
theorem Tx.k_Pairs_join {w : World} {K : PySem.W.Frag} {mg : Str → Option Value} (T : Tx w K mg) : Meth K (He.ga K "Pairs") "join" (He.fAd K ("Pairs", some "join")) := He.meth_ok (T.c.fact 125 (f := .meth "Pairs" "join") rfl)
theorem Tx.k_Pairs_is_accepted {w : World} {K : PySem.W.Frag} {mg : Str → Option Value} (T : Tx w K mg) : Meth K (He.ga K "Pairs") "is_accepted" (He.fAd K ("Pairs", some "is_accepted")) := He.meth_ok (T.c.fact 126 (f := .meth "Pairs" "is_accepted") rfl)
theorem Tx.m_Pairs {w : World} {K : PySem.W.Frag} {mg : Str → Option Value} (T : Tx w K mg) : Mk K (He.ga K "Pairs") (He.fAd K ("Pairs", some "__init__")) := He.mkr_ok (T.c.fact 127 (f := .mkr "Pairs") rfl)
theorem Tx.c_Leaders {w : World} {K : PySem.W.Frag} {mg : Str → Option Value} (T : Tx w K mg) : Cls K (He.ga K "Leaders") := He.cls_ok (T.c.fact 128 (f := .cls "Leaders") rfl)
theorem Tx.n_Leaders_reader {w : World} {K : PySem.W.Frag} {mg : Str → Option Value} (T : Tx w K mg) : NoAttr K (He.ga K "Leaders") "reader" := He.noat_ok (T.c.fact 129 (f := .noat "Leaders" "reader") rfl)
theorem Tx.n_Leaders_leading {w : World} {K : PySem.W.Frag} {mg : Str → Option Value} (T : Tx w K mg) : NoAttr K (He.ga K "Leaders") "leading" := He.noat_ok (T.c.fact 130 (f := .noat "Leaders" "leading") rfl)
theorem Tx.k_Leaders_empty {w : World} {K : PySem.W.Frag} {mg : Str → Option Value} (T : Tx w K mg) : Meth K (He.ga K "Leaders") "empty" (He.fAd K ("Leaders", some "empty")) := He.meth_ok (T.c.fact 131 (f := .meth "Leaders" "empty") rfl)
theorem Tx.k_Leaders_letter {w : World} {K : PySem.W.Frag} {mg : Str → Option Value} (T : Tx w K mg) : Meth K (He.ga K "Leaders") "letter" (He.fAd K ("Leaders", some "letter")) := He.meth_ok (T.c.fact 132 (f := .meth "Leaders" "letter") rfl)
theorem Tx.k_Leaders_join {w : World} {K : PySem.W.Frag} {mg : Str → Option Value} (T : Tx w K mg) : Meth K (He.ga K "Leaders") "join" (He.fAd K ("Leaders", some "join")) := He.meth_ok (T.c.fact 133 (f := .meth "Leaders" "join") rfl)
theorem Tx.k_Leaders_is_accepted {w : World} {K : PySem.W.Frag} {mg : Str → Option Value} (T : Tx w K mg) : Meth K (He.ga K "Leaders") "is_accepted" (He.fAd K ("Leaders", some "is_accepted")) := He.meth_ok (T.c.fact 134 (f := .meth "Leaders" "is_accepted") rfl)
theorem Tx.m_Leaders {w : World} {K : PySem.W.Frag} {mg : Str → Option Value} (T : Tx w K mg) : Mk K (He.ga K "Leaders") (He.fAd K ("Leaders", some "__init__")) := He.mkr_ok (T.c.fact 135 (f := .mkr "Leaders") rfl)
theorem Tx.x_Many {w : World} {K : PySem.W.Frag} {mg : Str → Option Value} (T : Tx w K mg) : PySem.W.exmOne K (.ref (He.ga K "TooManyValues")) (.ref (He.ga K "TooManyValues")) = some true := He.exm_ok (T.c.fact 136 (f := .exm "TooManyValues" "TooManyValues" true) rfl)
theorem Tx.f_width {w : World} {K : PySem.W.Frag} {mg : Str → Option Value} (T : Tx w K mg) : ∃ fd, FunD K "width" "width" (defArgs s_width) (defBody s_width) (defScope s_width) [] [] (He.fAd K ("width", none)) fd := T.c.def_ 0 (d := d_width) rfl
theorem Tx.f_uses {w : World} {K : PySem.W.Frag} {mg : Str → Option Value} (T : Tx w K mg) : ∃ fd, FunD K "uses" "uses" (defArgs s_uses) (defBody s_uses) (defScope s_uses) [] [] (He.fAd K ("uses", none)) fd := T.c.def_ 1 (d := d_uses) rfl
theorem Tx.f_is_in {w : World} {K : PySem.W.Frag} {mg : Str → Option Value} (T : Tx w K mg) : ∃ fd, FunD K "is_in" "is_in" (defArgs s_is_in) (defBody s_is_in) (defScope s_is_in) [] [] (He.fAd K ("is_in", none)) fd := T.c.def_ 2 (d := d_is_in) rfl
theorem Tx.f_is_true_at {w : World} {K : PySem.W.Frag} {mg : Str → Option Value} (T : Tx w K mg) : ∃ fd, FunD K "is_true_at" "is_true_at" (defArgs s_is_true_at) (defBody s_is_true_at) (defScope s_is_true_at) [] [] (He.fAd K ("is_true_at", none)) fd := T.c.def_ 3 (d := d_is_true_at) rfl
theorem Tx.f_Part___init__ {w : World} {K : PySem.W.Frag} {mg : Str → Option Value} (T : Tx w K mg) : ∃ fd, FunD K "__init__" "Part.__init__" (defArgs s_Part___init__) (defBody s_Part___init__) (defScope s_Part___init__) [] [] (He.fAd K ("Part", some "__init__")) fd := T.c.def_ 4 (d := d_Part___init__) rfl
theorem Tx.f_Part_at {w : World} {K : PySem.W.Frag} {mg : Str → Option Value} (T : Tx w K mg) : ∃ fd, FunD K "at" "Part.at" (defArgs s_Part_at) (defBody s_Part_at) (defScope s_Part_at) [] [] (He.fAd K ("Part", some "at")) fd := T.c.def_ 5 (d := d_Part_at) rfl
theorem Tx.f_AllPart_empty {w : World} {K : PySem.W.Frag} {mg : Str → Option Value} (T : Tx w K mg) : ∃ fd, FunD K "empty" "AllPart.empty" (defArgs s_AllPart_empty) (defBody s_AllPart_empty) (defScope s_AllPart_empty) [] [] (He.fAd K ("AllPart", some "empty")) fd := T.c.def_ 6 (d := d_AllPart_empty) rfl
theorem Tx.f_AllPart_letter {w : World} {K : PySem.W.Frag} {mg : Str → Option Value} (T : Tx w K mg) : ∃ fd, FunD K "letter" "AllPart.letter" (defArgs s_AllPart_letter) (defBody s_AllPart_letter) (defScope s_AllPart_letter) [] [] (He.fAd K ("AllPart", some "letter")) fd := T.c.def_ 7 (d := d_AllPart_letter) rfl
theorem Tx.f_AllPart_join {w : World} {K : PySem.W.Frag} {mg : Str → Option Value} (T : Tx w K mg) : ∃ fd, FunD K "join" "AllPart.join" (defArgs s_AllPart_join) (defBody s_AllPart_join) (defScope s_AllPart_join) [] [] (He.fAd K ("AllPart", some "join")) fd := T.c.def_ 8 (d := d_AllPart_join) rfl
theorem Tx.f_AllPart_is_accepted {w : World} {K : PySem.W.Frag} {mg : Str → Option Value} (T : Tx w K mg) : ∃ fd, FunD K "is_accepted" "AllPart.is_accepted" (defArgs s_AllPart_is_accepted) (defBody s_AllPart_is_accepted) (defScope s_AllPart_is_accepted) [] [] (He.fAd K ("AllPart", some "is_accepted")) fd := T.c.def_ 9 (d := d_AllPart_is_accepted) rfl
theorem Tx.f_OnePart_empty {w : World} {K : PySem.W.Frag} {mg : Str → Option Value} (T : Tx w K mg) : ∃ fd, FunD K "empty" "OnePart.empty" (defArgs s_OnePart_empty) (defBody s_OnePart_empty) (defScope s_OnePart_empty) [] [] (He.fAd K ("OnePart", some "empty")) fd := T.c.def_ 10 (d := d_OnePart_empty) rfl
theorem Tx.f_OnePart_letter {w : World} {K : PySem.W.Frag} {mg : Str → Option Value} (T : Tx w K mg) : ∃ fd, FunD K "letter" "OnePart.letter" (defArgs s_OnePart_letter) (defBody s_OnePart_letter) (defScope s_OnePart_letter) [] [] (He.fAd K ("OnePart", some "letter")) fd := T.c.def_ 11 (d := d_OnePart_letter) rfl
theorem Tx.f_OnePart_join {w : World} {K : PySem.W.Frag} {mg : Str → Option Value} (T : Tx w K mg) : ∃ fd, FunD K "join" "OnePart.join" (defArgs s_OnePart_join) (defBody s_OnePart_join) (defScope s_OnePart_join) [] [] (He.fAd K ("OnePart", some "join")) fd := T.c.def_ 12 (d := d_OnePart_join) rfl
theorem Tx.f_OnePart_is_accepted {w : World} {K : PySem.W.Frag} {mg : Str → Option Value} (T : Tx w K mg) : ∃ fd, FunD K "is_accepted" "OnePart.is_accepted" (defArgs s_OnePart_is_accepted) (defBody s_OnePart_is_accepted) (defScope s_OnePart_is_accepted) [] [] (He.fAd K ("OnePart", some "is_accepted")) fd := T.c.def_ 13 (d := d_OnePart_is_accepted) rfl
theorem Tx.f_NextPart_empty {w : World} {K : PySem.W.Frag} {mg : Str → Option Value} (T : Tx w K mg) : ∃ fd, FunD K "empty" "NextPart.empty" (defArgs s_NextPart_empty) (defBody s_NextPart_empty) (defScope s_NextPart_empty) [] [] (He.fAd K ("NextPart", some "empty")) fd := T.c.def_ 14 (d := d_NextPart_empty) rfl
theorem Tx.f_NextPart_letter {w : World} {K : PySem.W.Frag} {mg : Str → Option Value} (T : Tx w K mg) : ∃ fd, FunD K "letter" "NextPart.letter" (defArgs s_NextPart_letter) (defBody s_NextPart_letter) (defScope s_NextPart_letter) [] [] (He.fAd K ("NextPart", some "letter")) fd := T.c.def_ 15 (d := d_NextPart_letter) rfl
theorem Tx.f_NextPart_join {w : World} {K : PySem.W.Frag} {mg : Str → Option Value} (T : Tx w K mg) : ∃ fd, FunD K "join" "NextPart.join" (defArgs s_NextPart_join) (defBody s_NextPart_join) (defScope s_NextPart_join) [] [] (He.fAd K ("NextPart", some "join")) fd := T.c.def_ 16 (d := d_NextPart_join) rfl
theorem Tx.f_NextPart_is_accepted {w : World} {K : PySem.W.Frag} {mg : Str → Option Value} (T : Tx w K mg) : ∃ fd, FunD K "is_accepted" "NextPart.is_accepted" (defArgs s_NextPart_is_accepted) (defBody s_NextPart_is_accepted) (defScope s_NextPart_is_accepted) [] [] (He.fAd K ("NextPart", some "is_accepted")) fd := T.c.def_ 17 (d := d_NextPart_is_accepted) rfl
theorem Tx.f_EndPart_empty {w : World} {K : PySem.W.Frag} {mg : Str → Option Value} (T : Tx w K mg) : ∃ fd, FunD K "empty" "EndPart.empty" (defArgs s_EndPart_empty) (defBody s_EndPart_empty) (defScope s_EndPart_empty) [] [] (He.fAd K ("EndPart", some "empty")) fd := T.c.def_ 18 (d := d_EndPart_empty) rfl
theorem Tx.f_EndPart_letter {w : World} {K : PySem.W.Frag} {mg : Str → Option Value} (T : Tx w K mg) : ∃ fd, FunD K "letter" "EndPart.letter" (defArgs s_EndPart_letter) (defBody s_EndPart_letter) (defScope s_EndPart_letter) [] [] (He.fAd K ("EndPart", some "letter")) fd := T.c.def_ 19 (d := d_EndPart_letter) rfl
theorem Tx.f_EndPart_join {w : World} {K : PySem.W.Frag} {mg : Str → Option Value} (T : Tx w K mg) : ∃ fd, FunD K "join" "EndPart.join" (defArgs s_EndPart_join) (defBody s_EndPart_join) (defScope s_EndPart_join) [] [] (He.fAd K ("EndPart", some "join")) fd := T.c.def_ 20 (d := d_EndPart_join) rfl
theorem Tx.f_EndPart_is_accepted {w : World} {K : PySem.W.Frag} {mg : Str → Option Value} (T : Tx w K mg) : ∃ fd, FunD K "is_accepted" "EndPart.is_accepted" (defArgs s_EndPart_is_accepted) (defBody s_EndPart_is_accepted) (defScope s_EndPart_is_accepted) [] [] (He.fAd K ("EndPart", some "is_accepted")) fd := T.c.def_ 21 (d := d_EndPart_is_accepted) rfl
theorem Tx.f_TherePart___init__ {w : World} {K : PySem.W.Frag} {mg : Str → Option Value} (T : Tx w K mg) : ∃ fd, FunD K "__init__" "TherePart.__init__" (defArgs s_TherePart___init__) (defBody s_TherePart___init__) (defScope s_TherePart___init__) [] [] (He.fAd K ("TherePart", some "__init__")) fd := T.c.def_ 22 (d := d_TherePart___init__) rfl
theorem Tx.f_TherePart_labels_of {w : World} {K : PySem.W.Frag} {mg : Str → Option Value} (T : Tx w K mg) : ∃ fd, FunD K "labels_of" "TherePart.labels_of" (defArgs s_TherePart_labels_of) (defBody s_TherePart_labels_of) (defScope s_TherePart_labels_of) [] [] (He.fAd K ("TherePart", some "labels_of")) fd := T.c.def_ 23 (d := d_TherePart_labels_of) rfl
theorem Tx.f_TherePart_empty {w : World} {K : PySem.W.Frag} {mg : Str → Option Value} (T : Tx w K mg) : ∃ fd, FunD K "empty" "TherePart.empty" (defArgs s_TherePart_empty) (defBody s_TherePart_empty) (defScope s_TherePart_empty) [] [] (He.fAd K ("TherePart", some "empty")) fd := T.c.def_ 24 (d := d_TherePart_empty) rfl
theorem Tx.f_TherePart_letter {w : World} {K : PySem.W.Frag} {mg : Str → Option Value} (T : Tx w K mg) : ∃ fd, FunD K "letter" "TherePart.letter" (defArgs s_TherePart_letter) (defBody s_TherePart_letter) (defScope s_TherePart_letter) [] [] (He.fAd K ("TherePart", some "letter")) fd := T.c.def_ 25 (d := d_TherePart_letter) rfl
theorem Tx.f_TherePart_join {w : World} {K : PySem.W.Frag} {mg : Str → Option Value} (T : Tx w K mg) : ∃ fd, FunD K "join" "TherePart.join" (defArgs s_TherePart_join) (defBody s_TherePart_join) (defScope s_TherePart_join) [] [] (He.fAd K ("TherePart", some "join")) fd := T.c.def_ 26 (d := d_TherePart_join) rfl
theorem Tx.f_TherePart_is_accepted {w : World} {K : PySem.W.Frag} {mg : Str → Option Value} (T : Tx w K mg) : ∃ fd, FunD K "is_accepted" "TherePart.is_accepted" (defArgs s_TherePart_is_accepted) (defBody s_TherePart_is_accepted) (defScope s_TherePart_is_accepted) [] [] (He.fAd K ("TherePart", some "is_accepted")) fd := T.c.def_ 27 (d := d_TherePart_is_accepted) rfl
theorem Tx.f_Table___init__ {w : World} {K : PySem.W.Frag} {mg : Str → Option Value} (T : Tx w K mg) : ∃ fd, FunD K "__init__" "Table.__init__" (defArgs s_Table___init__) (defBody s_Table___init__) (defScope s_Table___init__) [] [] (He.fAd K ("Table", some "__init__")) fd := T.c.def_ 28 (d := d_Table___init__) rfl
theorem Tx.f_Table_empty {w : World} {K : PySem.W.Frag} {mg : Str → Option Value} (T : Tx w K mg) : ∃ fd, FunD K "empty" "Table.empty" (defArgs s_Table_empty) (defBody s_Table_empty) (defScope s_Table_empty) [] [] (He.fAd K ("Table", some "empty")) fd := T.c.def_ 29 (d := d_Table_empty) rfl
theorem Tx.f_Table_letter {w : World} {K : PySem.W.Frag} {mg : Str → Option Value} (T : Tx w K mg) : ∃ fd, FunD K "letter" "Table.letter" (defArgs s_Table_letter) (defBody s_Table_letter) (defScope s_Table_letter) [] [] (He.fAd K ("Table", some "letter")) fd := T.c.def_ 30 (d := d_Table_letter) rfl
theorem Tx.f_Table_join {w : World} {K : PySem.W.Frag} {mg : Str → Option Value} (T : Tx w K mg) : ∃ fd, FunD K "join" "Table.join" (defArgs s_Table_join) (defBody s_Table_join) (defScope s_Table_join) [] [] (He.fAd K ("Table", some "join")) fd := T.c.def_ 31 (d := d_Table_join) rfl
theorem Tx.f_Table_is_accepted {w : World} {K : PySem.W.Frag} {mg : Str → Option Value} (T : Tx w K mg) : ∃ fd, FunD K "is_accepted" "Table.is_accepted" (defArgs s_Table_is_accepted) (defBody s_Table_is_accepted) (defScope s_Table_is_accepted) [] [] (He.fAd K ("Table", some "is_accepted")) fd := T.c.def_ 32 (d := d_Table_is_accepted) rfl
theorem Tx.f_Pairs___init__ {w : World} {K : PySem.W.Frag} {mg : Str → Option Value} (T : Tx w K mg) : ∃ fd, FunD K "__init__" "Pairs.__init__" (defArgs s_Pairs___init__) (defBody s_Pairs___init__) (defScope s_Pairs___init__) [] [] (He.fAd K ("Pairs", some "__init__")) fd := T.c.def_ 33 (d := d_Pairs___init__) rfl
theorem Tx.f_Pairs_empty {w : World} {K : PySem.W.Frag} {mg : Str → Option Value} (T : Tx w K mg) : ∃ fd, FunD K "empty" "Pairs.empty" (defArgs s_Pairs_empty) (defBody s_Pairs_empty) (defScope s_Pairs_empty) [] [] (He.fAd K ("Pairs", some "empty")) fd := T.c.def_ 34 (d := d_Pairs_empty) rfl
theorem Tx.f_Pairs_letter {w : World} {K : PySem.W.Frag} {mg : Str → Option Value} (T : Tx w K mg) : ∃ fd, FunD K "letter" "Pairs.letter" (defArgs s_Pairs_letter) (defBody s_Pairs_letter) (defScope s_Pairs_letter) [] [] (He.fAd K ("Pairs", some "letter")) fd := T.c.def_ 35 (d := d_Pairs_letter) rfl
theorem Tx.f_Pairs_join {w : World} {K : PySem.W.Frag} {mg : Str → Option Value} (T : Tx w K mg) : ∃ fd, FunD K "join" "Pairs.join" (defArgs s_Pairs_join) (defBody s_Pairs_join) (defScope s_Pairs_join) [] [] (He.fAd K ("Pairs", some "join")) fd := T.c.def_ 36 (d := d_Pairs_join) rfl
theorem Tx.f_Pairs_is_accepted {w : World} {K : PySem.W.Frag} {mg : Str → Option Value} (T : Tx w K mg) : ∃ fd, FunD K "is_accepted" "Pairs.is_accepted" (defArgs s_Pairs_is_accepted) (defBody s_Pairs_is_accepted) (defScope s_Pairs_is_accepted) [] [] (He.fAd K ("Pairs", some "is_accepted")) fd := T.c.def_ 37 (d := d_Pairs_is_accepted) rfl
theorem Tx.f_collect {w : World} {K : PySem.W.Frag} {mg : Str → Option Value} (T : Tx w K mg) : ∃ fd, FunD K "collect" "collect" (defArgs s_collect) (defBody s_collect) (defScope s_collect) [] [] (He.fAd K ("collect", none)) fd := T.c.def_ 38 (d := d_collect) rfl
theorem Tx.f_tabled {w : World} {K : PySem.W.Frag} {mg : Str → Option Value} (T : Tx w K mg) : ∃ fd, FunD K "tabled" "tabled" (defArgs s_tabled) (defBody s_tabled) (defScope s_tabled) [] [] (He.fAd K ("tabled", none)) fd := T.c.def_ 39 (d := d_tabled) rfl
theorem Tx.f_made_reader {w : World} {K : PySem.W.Frag} {mg : Str → Option Value} (T : Tx w K mg) : ∃ fd, FunD K "made_reader" "made_reader" (defArgs s_made_reader) (defBody s_made_reader) (defScope s_made_reader) [] [] (He.fAd K ("made_reader", none)) fd := T.c.def_ 40 (d := d_made_reader) rfl
theorem Tx.f_numbered {w : World} {K : PySem.W.Frag} {mg : Str → Option Value} (T : Tx w K mg) : ∃ fd, FunD K "numbered" "numbered" (defArgs s_numbered) (defBody s_numbered) (defScope s_numbered) [] [] (He.fAd K ("numbered", none)) fd := T.c.def_ 41 (d := d_numbered) rfl
theorem Tx.f_denied {w : World} {K : PySem.W.Frag} {mg : Str → Option Value} (T : Tx w K mg) : ∃ fd, FunD K "denied" "denied" (defArgs s_denied) (defBody s_denied) (defScope s_denied) [] [] (He.fAd K ("denied", none)) fd := T.c.def_ 42 (d := d_denied) rfl
theorem Tx.f_joint {w : World} {K : PySem.W.Frag} {mg : Str → Option Value} (T : Tx w K mg) : ∃ fd, FunD K "joint" "joint" (defArgs s_joint) (defBody s_joint) (defScope s_joint) [] [] (He.fAd K ("joint", none)) fd := T.c.def_ 43 (d := d_joint) rfl
theorem Tx.f_split {w : World} {K : PySem.W.Frag} {mg : Str → Option Value} (T : Tx w K mg) : ∃ fd, FunD K "split" "split" (defArgs s_split) (defBody s_split) (defScope s_split) [] [] (He.fAd K ("split", none)) fd := T.c.def_ 44 (d := d_split) rfl
theorem Tx.f_leaders {w : World} {K : PySem.W.Frag} {mg : Str → Option Value} (T : Tx w K mg) : ∃ fd, FunD K "leaders" "leaders" (defArgs s_leaders) (defBody s_leaders) (defScope s_leaders) [] [] (He.fAd K ("leaders", none)) fd := T.c.def_ 45 (d := d_leaders) rfl
theorem Tx.f_Leaders_empty {w : World} {K : PySem.W.Frag} {mg : Str → Option Value} (T : Tx w K mg) : ∃ fd, FunD K "empty" "Leaders.empty" (defArgs s_Leaders_empty) (defBody s_Leaders_empty) (defScope s_Leaders_empty) [] [] (He.fAd K ("Leaders", some "empty")) fd := T.c.def_ 46 (d := d_Leaders_empty) rfl
theorem Tx.f_Leaders_letter {w : World} {K : PySem.W.Frag} {mg : Str → Option Value} (T : Tx w K mg) : ∃ fd, FunD K "letter" "Leaders.letter" (defArgs s_Leaders_letter) (defBody s_Leaders_letter) (defScope s_Leaders_letter) [] [] (He.fAd K ("Leaders", some "letter")) fd := T.c.def_ 47 (d := d_Leaders_letter) rfl
theorem Tx.f_Leaders_join {w : World} {K : PySem.W.Frag} {mg : Str → Option Value} (T : Tx w K mg) : ∃ fd, FunD K "join" "Leaders.join" (defArgs s_Leaders_join) (defBody s_Leaders_join) (defScope s_Leaders_join) [] [] (He.fAd K ("Leaders", some "join")) fd := T.c.def_ 48 (d := d_Leaders_join) rfl
theorem Tx.f_least {w : World} {K : PySem.W.Frag} {mg : Str → Option Value} (T : Tx w K mg) : ∃ fd, FunD K "least" "least" (defArgs s_least) (defBody s_least) (defScope s_least) [] [] (He.fAd K ("least", none)) fd := T.c.def_ 49 (d := d_least) rfl
theorem Tx.f_plain_part {w : World} {K : PySem.W.Frag} {mg : Str → Option Value} (T : Tx w K mg) : ∃ fd, FunD K "plain_part" "plain_part" (defArgs s_plain_part) (defBody s_plain_part) (defScope s_plain_part) [] [] (He.fAd K ("plain_part", none)) fd := T.c.def_ 50 (d := d_plain_part) rfl
theorem Tx.f_part_reader {w : World} {K : PySem.W.Frag} {mg : Str → Option Value} (T : Tx w K mg) : ∃ fd, FunD K "part_reader" "part_reader" (defArgs s_part_reader) (defBody s_part_reader) (defScope s_part_reader) [] [] (He.fAd K ("part_reader", none)) fd := T.c.def_ 51 (d := d_part_reader) rfl
theorem Tx.f_reader_with {w : World} {K : PySem.W.Frag} {mg : Str → Option Value} (T : Tx w K mg) : ∃ fd, FunD K "reader_with" "reader_with" (defArgs s_reader_with) (defBody s_reader_with) (defScope s_reader_with) [] [] (He.fAd K ("reader_with", none)) fd := T.c.def_ 52 (d := d_reader_with) rfl
theorem Tx.f_value {w : World} {K : PySem.W.Frag} {mg : Str → Option Value} (T : Tx w K mg) : ∃ fd, FunD K "value" "value" (defArgs s_value) (defBody s_value) (defScope s_value) [] [] (He.fAd K ("value", none)) fd := T.c.def_ 53 (d := d_value) rfl
theorem Tx.f_accepts {w : World} {K : PySem.W.Frag} {mg : Str → Option Value} (T : Tx w K mg) : ∃ fd, FunD K "accepts" "accepts" (defArgs s_accepts) (defBody s_accepts) (defScope s_accepts) [] [] (He.fAd K ("accepts", none)) fd := T.c.def_ 54 (d := d_accepts) rfl
theorem Tx.f__law_draw {w : World} {K : PySem.W.Frag} {mg : Str → Option Value} (T : Tx w K mg) : ∃ fd, FunD K "_law_draw" "_law_draw" (defArgs s__law_draw) (defBody s__law_draw) (defScope s__law_draw) [] [] (He.fAd K ("_law_draw", none)) fd := T.c.def_ 55 (d := d__law_draw) rfl
theorem Tx.f__law_word {w : World} {K : PySem.W.Frag} {mg : Str → Option Value} (T : Tx w K mg) : ∃ fd, FunD K "_law_word" "_law_word" (defArgs s__law_word) (defBody s__law_word) (defScope s__law_word) [] [] (He.fAd K ("_law_word", none)) fd := T.c.def_ 56 (d := d__law_word) rfl
theorem Tx.f__law_place {w : World} {K : PySem.W.Frag} {mg : Str → Option Value} (T : Tx w K mg) : ∃ fd, FunD K "_law_place" "_law_place" (defArgs s__law_place) (defBody s__law_place) (defScope s__law_place) [] [] (He.fAd K ("_law_place", none)) fd := T.c.def_ 57 (d := d__law_place) rfl
theorem Tx.f__law_simple {w : World} {K : PySem.W.Frag} {mg : Str → Option Value} (T : Tx w K mg) : ∃ fd, FunD K "_law_simple" "_law_simple" (defArgs s__law_simple) (defBody s__law_simple) (defScope s__law_simple) [] [] (He.fAd K ("_law_simple", none)) fd := T.c.def_ 58 (d := d__law_simple) rfl
theorem Tx.f__law_statement {w : World} {K : PySem.W.Frag} {mg : Str → Option Value} (T : Tx w K mg) : ∃ fd, FunD K "_law_statement" "_law_statement" (defArgs s__law_statement) (defBody s__law_statement) (defScope s__law_statement) [] [] (He.fAd K ("_law_statement", none)) fd := T.c.def_ 59 (d := d__law_statement) rfl
theorem Tx.f__law_sentence {w : World} {K : PySem.W.Frag} {mg : Str → Option Value} (T : Tx w K mg) : ∃ fd, FunD K "_law_sentence" "_law_sentence" (defArgs s__law_sentence) (defBody s__law_sentence) (defScope s__law_sentence) [] [] (He.fAd K ("_law_sentence", none)) fd := T.c.def_ 60 (d := d__law_sentence) rfl
theorem Tx.f__law_true {w : World} {K : PySem.W.Frag} {mg : Str → Option Value} (T : Tx w K mg) : ∃ fd, FunD K "_law_true" "_law_true" (defArgs s__law_true) (defBody s__law_true) (defScope s__law_true) [] [] (He.fAd K ("_law_true", none)) fd := T.c.def_ 61 (d := d__law_true) rfl
theorem Tx.f__law_some_set {w : World} {K : PySem.W.Frag} {mg : Str → Option Value} (T : Tx w K mg) : ∃ fd, FunD K "_law_some_set" "_law_some_set" (defArgs s__law_some_set) (defBody s__law_some_set) (defScope s__law_some_set) [] [] (He.fAd K ("_law_some_set", none)) fd := T.c.def_ 62 (d := d__law_some_set) rfl
theorem Tx.f__law_so {w : World} {K : PySem.W.Frag} {mg : Str → Option Value} (T : Tx w K mg) : ∃ fd, FunD K "_law_so" "_law_so" (defArgs s__law_so) (defBody s__law_so) (defScope s__law_so) [] [] (He.fAd K ("_law_so", none)) fd := T.c.def_ 63 (d := d__law_so) rfl
theorem Tx.f__law_told {w : World} {K : PySem.W.Frag} {mg : Str → Option Value} (T : Tx w K mg) : ∃ fd, FunD K "_law_told" "_law_told" (defArgs s__law_told) (defBody s__law_told) (defScope s__law_told) [] [] (He.fAd K ("_law_told", none)) fd := T.c.def_ 64 (d := d__law_told) rfl
theorem Tx.f__law_bound {w : World} {K : PySem.W.Frag} {mg : Str → Option Value} (T : Tx w K mg) : ∃ fd, FunD K "_law_bound" "_law_bound" (defArgs s__law_bound) (defBody s__law_bound) (defScope s__law_bound) [] [] (He.fAd K ("_law_bound", none)) fd := T.c.def_ 65 (d := d__law_bound) rfl
theorem Tx.f_law {w : World} {K : PySem.W.Frag} {mg : Str → Option Value} (T : Tx w K mg) : ∃ fd, FunD K "law" "law" (defArgs s_law) (defBody s_law) (defScope s_law) [] [] (He.fAd K ("law", none)) fd := T.c.def_ 66 (d := d_law) rfl
theorem Tx.f_AllPart___init__ {w : World} {K : PySem.W.Frag} {mg : Str → Option Value} (T : Tx w K mg) : ∃ fd, FunD K "__init__" "Part.__init__" (defArgs s_AllPart___init__) (defBody s_AllPart___init__) (defScope s_AllPart___init__) [] [] (He.fAd K ("AllPart", some "__init__")) fd := T.c.def_ 67 (d := d_AllPart___init__) rfl
theorem Tx.f_AllPart_at {w : World} {K : PySem.W.Frag} {mg : Str → Option Value} (T : Tx w K mg) : ∃ fd, FunD K "at" "Part.at" (defArgs s_AllPart_at) (defBody s_AllPart_at) (defScope s_AllPart_at) [] [] (He.fAd K ("AllPart", some "at")) fd := T.c.def_ 68 (d := d_AllPart_at) rfl
theorem Tx.f_OnePart___init__ {w : World} {K : PySem.W.Frag} {mg : Str → Option Value} (T : Tx w K mg) : ∃ fd, FunD K "__init__" "Part.__init__" (defArgs s_OnePart___init__) (defBody s_OnePart___init__) (defScope s_OnePart___init__) [] [] (He.fAd K ("OnePart", some "__init__")) fd := T.c.def_ 69 (d := d_OnePart___init__) rfl
theorem Tx.f_OnePart_at {w : World} {K : PySem.W.Frag} {mg : Str → Option Value} (T : Tx w K mg) : ∃ fd, FunD K "at" "Part.at" (defArgs s_OnePart_at) (defBody s_OnePart_at) (defScope s_OnePart_at) [] [] (He.fAd K ("OnePart", some "at")) fd := T.c.def_ 70 (d := d_OnePart_at) rfl
theorem Tx.f_NextPart___init__ {w : World} {K : PySem.W.Frag} {mg : Str → Option Value} (T : Tx w K mg) : ∃ fd, FunD K "__init__" "Part.__init__" (defArgs s_NextPart___init__) (defBody s_NextPart___init__) (defScope s_NextPart___init__) [] [] (He.fAd K ("NextPart", some "__init__")) fd := T.c.def_ 71 (d := d_NextPart___init__) rfl
theorem Tx.f_NextPart_at {w : World} {K : PySem.W.Frag} {mg : Str → Option Value} (T : Tx w K mg) : ∃ fd, FunD K "at" "Part.at" (defArgs s_NextPart_at) (defBody s_NextPart_at) (defScope s_NextPart_at) [] [] (He.fAd K ("NextPart", some "at")) fd := T.c.def_ 72 (d := d_NextPart_at) rfl
theorem Tx.f_EndPart___init__ {w : World} {K : PySem.W.Frag} {mg : Str → Option Value} (T : Tx w K mg) : ∃ fd, FunD K "__init__" "Part.__init__" (defArgs s_EndPart___init__) (defBody s_EndPart___init__) (defScope s_EndPart___init__) [] [] (He.fAd K ("EndPart", some "__init__")) fd := T.c.def_ 73 (d := d_EndPart___init__) rfl
theorem Tx.f_EndPart_at {w : World} {K : PySem.W.Frag} {mg : Str → Option Value} (T : Tx w K mg) : ∃ fd, FunD K "at" "Part.at" (defArgs s_EndPart_at) (defBody s_EndPart_at) (defScope s_EndPart_at) [] [] (He.fAd K ("EndPart", some "at")) fd := T.c.def_ 74 (d := d_EndPart_at) rfl
theorem Tx.f_Leaders_is_accepted {w : World} {K : PySem.W.Frag} {mg : Str → Option Value} (T : Tx w K mg) : ∃ fd, FunD K "is_accepted" "Table.is_accepted" (defArgs s_Leaders_is_accepted) (defBody s_Leaders_is_accepted) (defScope s_Leaders_is_accepted) [] [] (He.fAd K ("Leaders", some "is_accepted")) fd := T.c.def_ 75 (d := d_Leaders_is_accepted) rfl
end Tw
set_option maxRecDepth 100000
set_option maxHeartbeats 0
/-! The head: one run, the facts. -/
namespace Tw
open PySem PySem.Spec PyProof.Rows L2
abbrev R : PySem.W.OpenRow := PySem.W.OpenLaw.row PySem.Challenge.rw_twoways_k22_whole_sentences_into_readers
def ob (s : PySem.W.SharedT) : AlY := obsY (HandSHeadRun.getT s)
theorem ob_eq (s : PySem.W.SharedT) : ob s = hk.obs s.abs := obsY_eq (HandSHeadRun.getT_eq s)
theorem run_f (w : World) : HandSHeadRun.RunEq R (PySem.W.view R.prog [51]) hk ob 5000 (nm1 ++ nm2) (w.withFollow "special-get-raises" false) := by
  intro os
  kernel_rfl
theorem run_t (w : World) : HandSHeadRun.RunEq R (PySem.W.view R.prog [51]) hk ob 5000 (nm1 ++ nm2) (w.withFollow "special-get-raises" true) := by
  intro os
  kernel_rfl
theorem run (w : World) : HandSHeadRun.RunEq R (PySem.W.view R.prog [51]) hk ob 5000 (nm1 ++ nm2) w :=
  PySem.W.byRow2 "special-get-raises" (P := fun w => HandSHeadRun.RunEq R (PySem.W.view R.prog [51]) hk ob 5000 (nm1 ++ nm2) w) run_f run_t w
end Tw
/-! Plain mathematics: sentences, readers, tables of values. No program in sight. -/
set_option maxHeartbeats 400000
namespace Tw

/-! ### sentences -/
/-- a line of a sentence -/
inductive Ln where
  | set (i : Nat) | letter (a : Nat) | not (c : Nat) | and (c d : Nat)
  | all (c : Nat) | next (c d : Nat) | first (c : Nat) | last (c : Nat) | nothing | one (i : Nat)
  | denied (f : Nat) | both (f g : Nat) | there (f : Nat)
  deriving DecidableEq

/-- is it about a place -/
def Ln.plc : Ln → Bool
  | .set _ | .letter _ | .not _ | .and _ _ => true
  | _ => false

def KindAt (S : List Ln) (n : Nat) (b : Bool) : Prop := ∃ l, S[n]? = some l ∧ l.plc = b

/-- the numbers of the line n lie below n and are of the right kind -/
def LnOk (S : List Ln) (n : Nat) : Ln → Prop
  | .not c => c < n ∧ KindAt S c true
  | .and c d => (c < n ∧ KindAt S c true) ∧ (d < n ∧ KindAt S d true)
  | .all c | .first c | .last c => c < n ∧ KindAt S c true
  | .next c d => (c < n ∧ KindAt S c true) ∧ (d < n ∧ KindAt S d true)
  | .denied f | .there f => f < n ∧ KindAt S f false
  | .both f g => (f < n ∧ KindAt S f false) ∧ (g < n ∧ KindAt S g false)
  | .set _ | .letter _ | .nothing | .one _ => True
def WF (S : List Ln) : Prop := ∀ n l, S[n]? = some l → LnOk S n l

theorem KindAt.app {S T : List Ln} {n : Nat} {b : Bool} (h : KindAt S n b) : KindAt (S ++ T) n b := by
  obtain ⟨l, e, p⟩ := h
  have hl := (List.getElem?_eq_some_iff.mp e).1
  exact ⟨l, by rw [List.getElem?_append_left hl]; exact e, p⟩
theorem LnOk.app {S T : List Ln} {n : Nat} {l : Ln} (h : LnOk S n l) : LnOk (S ++ T) n l := by
  cases l <;> simp only [LnOk] at h ⊢
  case not => exact ⟨h.1, h.2.app⟩
  case and => exact ⟨⟨h.1.1, h.1.2.app⟩, ⟨h.2.1, h.2.2.app⟩⟩
  case all => exact ⟨h.1, h.2.app⟩
  case first => exact ⟨h.1, h.2.app⟩
  case last => exact ⟨h.1, h.2.app⟩
  case next => exact ⟨⟨h.1.1, h.1.2.app⟩, ⟨h.2.1, h.2.2.app⟩⟩
  case denied => exact ⟨h.1, h.2.app⟩
  case there => exact ⟨h.1, h.2.app⟩
  case both => exact ⟨⟨h.1.1, h.1.2.app⟩, ⟨h.2.1, h.2.2.app⟩⟩
theorem WF.snoc {S : List Ln} {l : Ln} (h : WF S) (hl : LnOk S S.length l) : WF (S ++ [l]) := by
  intro n l' e
  by_cases hn : n < S.length
  · rw [List.getElem?_append_left hn] at e
    exact (h n l' e).app
  · have h2 : n < (S ++ [l]).length := (List.getElem?_eq_some_iff.mp e).1
    rw [List.length_append, List.length_singleton] at h2
    have hn' : n = S.length := by omega
    subst hn'
    rw [List.getElem?_append_right (Nat.le_refl _)] at e
    simp at e
    subst e
    exact hl.app
theorem WF.nil : WF [] := fun n l e => by simp at e
theorem kindAt_last (S : List Ln) (l : Ln) : KindAt (S ++ [l]) S.length l.plc := ⟨l, by simp, rfl⟩

/-- what a line about a place says, of the sets in which it is and its letter -/
def plv (S : List Ln) (inS : Nat → Bool) (lt : Nat) (n : Nat) : Bool :=
  match S[n]? with
  | some (.set i) => inS i
  | some (.letter a) => decide (lt = a)
  | some (.not c) => if c < n then !plv S inS lt c else false
  | some (.and c d) => if c < n then (if d < n then plv S inS lt c && plv S inS lt d else false) else false
  | _ => false
termination_by n

/-- the places below len of which the bits are set -/
def bitsOf (len code : Nat) : List Nat := (List.range len).filter fun k => code.testBit k

/-- a line about a place of a row, with sets -/
def plr (S : List Ln) (row : List Nat) (sets : List (List Nat)) (k c : Nat) : Bool :=
  plv S (fun i => match sets[i]? with | some s => s.contains k | none => false) (row[k]?.getD 0) c

/-- what a line about a row says -/
def sov (S : List Ln) (row : List Nat) (n : Nat) (sets : List (List Nat)) : Bool :=
  match S[n]? with
  | some (.all c) => (List.range row.length).all fun k => plr S row sets k c
  | some (.next c d) => (List.range (row.length - 1)).all fun k => !plr S row sets k c || plr S row sets (k + 1) d
  | some (.first c) => decide (row.length = 0) || plr S row sets 0 c
  | some (.last c) => decide (row.length = 0) || plr S row sets (row.length - 1) c
  | some .nothing => decide (row.length = 0)
  | some (.one i) => match sets[i]? with | some s => decide (s.length = 1) | none => false
  | some (.denied f) => if f < n then !sov S row f sets else false
  | some (.both f g) => if f < n then (if g < n then sov S row f sets && sov S row g sets else false) else false
  | some (.there f) => if f < n then (List.range (2 ^ row.length)).any fun code => sov S row f (sets ++ [bitsOf row.length code]) else false
  | _ => false
termination_by n

/-! ### marked words -/
def rowOf (k : Nat) (u : List Nat) : List Nat := u.map (· / 2 ^ k)
/-- the places of u whose code has the bit i -/
def setOf (i : Nat) (u : List Nat) : List Nat := (List.range u.length).filter fun p => (u[p]?.getD 0).testBit i
def setsOf (k : Nat) (u : List Nat) : List (List Nat) := (List.range k).map fun i => setOf i u
/-- the words that the line n of S accepts, marked with k sets -/
def Lang (S : List Ln) (n k : Nat) (u : List Nat) : Bool := sov S (rowOf k u) n (setsOf k u)
/-- a line about a place, of a marked letter -/
def plm (S : List Ln) (k lab n : Nat) : Bool := plv S (fun i => decide (i < k) && lab.testBit i) (lab / 2 ^ k) n

theorem rowOf_zero (u : List Nat) : rowOf 0 u = u := by
  unfold rowOf
  simp
theorem setsOf_zero (u : List Nat) : setsOf 0 u = [] := rfl
theorem rowOf_length (k : Nat) (u : List Nat) : (rowOf k u).length = u.length := by simp [rowOf]

theorem mem_setOf {i p : Nat} {u : List Nat} : p ∈ setOf i u ↔ p < u.length ∧ (u[p]?.getD 0).testBit i = true := by
  simp [setOf, List.mem_filter]

/-- a place of the row, by its marked letter -/
theorem plr_plm (S : List Ln) (k : Nat) (u : List Nat) (p c : Nat) (hp : p < u.length) :
    plr S (rowOf k u) (setsOf k u) p c = plm S k (u[p]?.getD 0) c := by
  unfold plr plm
  have e1 : ((rowOf k u)[p]?.getD 0) = (u[p]?.getD 0) / 2 ^ k := by
    simp [rowOf, List.getElem?_map, List.getElem?_eq_getElem hp]
  rw [e1]
  congr 1
  funext i
  unfold setsOf
  rw [List.getElem?_map]
  by_cases hi : i < k
  · rw [List.getElem?_range hi]
    simp only [Option.map_some, hi, decide_true, Bool.true_and]
    rw [Bool.eq_iff_iff, List.contains_iff_mem, mem_setOf]
    exact ⟨fun h => h.2, fun h => ⟨hp, h⟩⟩
  · rw [List.getElem?_eq_none (by simp; omega)]
    simp [hi]

/-! ### words, readers -/
def Wd (cnt : Nat) (u : List Nat) : Prop := ∀ a ∈ u, a < cnt
theorem Wd.nil {cnt : Nat} : Wd cnt [] := fun a h => by simp at h
theorem Wd.one {cnt a : Nat} (h : a < cnt) : Wd cnt [a] := fun b hb => by simp at hb; omega
theorem Wd.app {cnt : Nat} {u w : List Nat} (h1 : Wd cnt u) (h2 : Wd cnt w) : Wd cnt (u ++ w) := fun a h => by
  rcases List.mem_append.mp h with h | h
  · exact h1 a h
  · exact h2 a h
theorem Wd.left {cnt : Nat} {u w : List Nat} (h : Wd cnt (u ++ w)) : Wd cnt u := fun a ha => h a (List.mem_append_left _ ha)
theorem Wd.right {cnt : Nat} {u w : List Nat} (h : Wd cnt (u ++ w)) : Wd cnt w := fun a ha => h a (List.mem_append_right _ ha)

structure Rd where
  emp : Nat
  letters : List Nat
  mul : List (List Nat)
  acc : List Nat
def Rd.m (R : Rd) : Nat := R.mul.length
def Rd.at (R : Rd) (x y : Nat) : Nat := (((R.mul[x]?).getD [])[y]?).getD 0

/-- v gives every word its value by R, and R accepts by L -/
structure Hom (R : Rd) (cnt : Nat) (L : List Nat → Bool) (v : List Nat → Nat) : Prop where
  lt : ∀ u, Wd cnt u → v u < R.m
  emp : v [] = R.emp
  let_ : ∀ a, a < cnt → R.letters[a]? = some (v [a])
  mul : ∀ u w, Wd cnt u → Wd cnt w → R.at (v u) (v w) = v (u ++ w)
  onto : ∀ x, x < R.m → ∃ u, Wd cnt u ∧ v u = x
  acc : ∀ u, Wd cnt u → (v u ∈ R.acc ↔ L u = true)
structure RInv (R : Rd) (cnt : Nat) (L : List Nat → Bool) : Prop where
  lenL : R.letters.length = cnt
  sq : ∀ row ∈ R.mul, row.length = R.m
  small : R.m ≤ 300
  hom : ∃ v, Hom R cnt L v

theorem Hom.snoc {R : Rd} {cnt : Nat} {L : List Nat → Bool} {v : List Nat → Nat} (h : Hom R cnt L v) {u : List Nat} {a : Nat} (hu : Wd cnt u) (ha : a < cnt) :
    R.at (v u) ((R.letters[a]?).getD 0) = v (u ++ [a]) := by
  rw [h.let_ a ha]
  exact h.mul u [a] hu (Wd.one ha)
theorem RInv.congr {R : Rd} {cnt : Nat} {L L' : List Nat → Bool} (h : RInv R cnt L) (e : ∀ u, Wd cnt u → L u = L' u) : RInv R cnt L' := by
  obtain ⟨h1, h2, h3, v, hv⟩ := h
  exact ⟨h1, h2, h3, v, hv.lt, hv.emp, hv.let_, hv.mul, hv.onto, fun u hu => by rw [← e u hu]; exact hv.acc u hu⟩
theorem RInv.pos {R : Rd} {cnt : Nat} {L : List Nat → Bool} (h : RInv R cnt L) : 0 < R.m := by
  obtain ⟨_, _, _, v, hv⟩ := h
  exact Nat.lt_of_le_of_lt (Nat.zero_le _) (hv.lt [] Wd.nil)

/-! ### what is found -/
/-- l has, once each, just the f u -/
structure Found {α : Type} (f : List Nat → α) (cnt : Nat) (l : List α) : Prop where
  nd : l.Nodup
  some_ : ∀ x ∈ l, ∃ u, Wd cnt u ∧ f u = x
  all_ : ∀ u, Wd cnt u → f u ∈ l
/-- distinct values of words, more than 300 -/
def Many {α : Type} (f : List Nat → α) (cnt : Nat) : Prop := ∃ l : List α, l.Nodup ∧ 300 < l.length ∧ ∀ x ∈ l, ∃ u, Wd cnt u ∧ f u = x

theorem Found.mk' {α : Type} {f : List Nat → α} {cnt : Nat} {l : List α} (nd : l.Nodup) (s : ∀ x ∈ l, ∃ u, Wd cnt u ∧ f u = x) (h0 : f [] ∈ l) (h1 : ∀ a, a < cnt → f [a] ∈ l)
    (h2 : ∀ u w, Wd cnt u → Wd cnt w → f u ∈ l → f w ∈ l → f (u ++ w) ∈ l) : Found f cnt l := by
  refine ⟨nd, s, fun u => ?_⟩
  induction u with
  | nil => intro _; exact h0
  | cons a u ih =>
    intro hu
    have ha : a < cnt := hu a (by simp)
    have hu' : Wd cnt u := fun b hb => hu b (by simp [hb])
    exact h2 [a] u (Wd.one ha) hu' (h1 a ha) (ih hu')

/-- the numbered reader of the list l of values -/
structure RTab {α : Type} (f : List Nat → α) (cnt : Nat) (L : List Nat → Bool) (l : List α) (R : Rd) : Prop where
  emp : l[R.emp]? = some (f [])
  lenL : R.letters.length = cnt
  let_ : ∀ a, a < cnt → ∃ i, R.letters[a]? = some i ∧ l[i]? = some (f [a])
  len : R.mul.length = l.length
  sq : ∀ row ∈ R.mul, row.length = l.length
  mul : ∀ i j u w, Wd cnt u → Wd cnt w → l[i]? = some (f u) → l[j]? = some (f w) → l[R.at i j]? = some (f (u ++ w))
  acc : ∀ i u, Wd cnt u → l[i]? = some (f u) → (i ∈ R.acc ↔ L u = true)

theorem nodup_ix {α : Type} {l : List α} (h : l.Nodup) {i j : Nat} {x : α} (h1 : l[i]? = some x) (h2 : l[j]? = some x) : i = j := by
  obtain ⟨p, e1⟩ := List.getElem?_eq_some_iff.mp h1
  obtain ⟨q, e2⟩ := List.getElem?_eq_some_iff.mp h2
  exact (List.getElem_inj h).mp (e1.trans e2.symm)

theorem RTab.inv {α : Type} {f : List Nat → α} {cnt : Nat} {L : List Nat → Bool} {l : List α} {R : Rd} (F : Found f cnt l) (T : RTab f cnt L l R) (small : l.length ≤ 300) : RInv R cnt L := by
  have ex : ∀ u, ∃ i, Wd cnt u → l[i]? = some (f u) := fun u => by
    by_cases hu : Wd cnt u
    · obtain ⟨i, hi, e⟩ := List.getElem_of_mem (F.all_ u hu)
      exact ⟨i, fun _ => by rw [List.getElem?_eq_getElem hi, e]⟩
    · exact ⟨0, fun h => absurd h hu⟩
  let v : List Nat → Nat := fun u => (ex u).choose
  have hv : ∀ u, Wd cnt u → l[v u]? = some (f u) := fun u hu => (ex u).choose_spec hu
  have uq : ∀ u, Wd cnt u → ∀ i, l[i]? = some (f u) → i = v u := fun u hu i hi => nodup_ix F.nd hi (hv u hu)
  refine ⟨T.lenL, fun row hr => (T.sq row hr).trans T.len.symm, by unfold Rd.m; rw [T.len]; exact small, v, ?_⟩
  refine ⟨fun u hu => ?_, ?_, fun a ha => ?_, fun u w hu hw => ?_, fun x hx => ?_, fun u hu => ?_⟩
  · unfold Rd.m
    rw [T.len]
    exact (List.getElem?_eq_some_iff.mp (hv u hu)).1
  · exact (uq [] Wd.nil _ T.emp).symm
  · obtain ⟨i, e1, e2⟩ := T.let_ a ha
    rw [e1, uq [a] (Wd.one ha) i e2]
  · exact uq (u ++ w) (hu.app hw) _ (T.mul _ _ u w hu hw (hv u hu) (hv w hw))
  · unfold Rd.m at hx
    rw [T.len] at hx
    obtain ⟨u, hu, e⟩ := F.some_ l[x] (List.getElem_mem hx)
    exact ⟨u, hu, (uq u hu x (by rw [List.getElem?_eq_getElem hx, e])).symm⟩
  · exact T.acc (v u) u hu (hv u hu)

/-! ### how many -/
theorem nodup_le {α : Type} [BEq α] [LawfulBEq α] : ∀ (l D : List α), l.Nodup → (∀ x ∈ l, x ∈ D) → l.length ≤ D.length
  | [], _, _, _ => Nat.zero_le _
  | x :: l, D, h, hs => by
    rw [List.nodup_cons] at h
    have hx : x ∈ D := hs x (by simp)
    have ih := nodup_le l (D.erase x) h.2 fun y hy => by
      have hne : y ≠ x := fun e => h.1 (e ▸ hy)
      exact (List.mem_erase_of_ne hne).mpr (hs y (by simp [hy]))
    have e := List.length_erase_of_mem hx
    have p : 0 < D.length := List.length_pos_of_mem hx
    simp only [List.length_cons]
    omega
theorem many_le {α : Type} [BEq α] [LawfulBEq α] {f : List Nat → α} {cnt : Nat} {D : List α} (h : ∀ u, Wd cnt u → f u ∈ D) (hm : Many f cnt) : 300 < D.length := by
  obtain ⟨l, nd, hl, hs⟩ := hm
  have := nodup_le l D nd fun x hx => by
    obtain ⟨u, hu, e⟩ := hs x hx
    rw [← e]; exact h u hu
  omega
theorem found_le {α : Type} [BEq α] [LawfulBEq α] {f : List Nat → α} {cnt : Nat} {D l : List α} (h : ∀ u, Wd cnt u → f u ∈ D) (F : Found f cnt l) : l.length ≤ D.length :=
  nodup_le l D F.nd fun x hx => by
    obtain ⟨u, hu, e⟩ := F.some_ x hx
    rw [← e]; exact h u hu

/-- the rising lists of numbers below m -/
def pw : Nat → List (List Nat)
  | 0 => [[]]
  | m + 1 => pw m ++ (pw m).map (· ++ [m])
theorem pw_length : ∀ m, (pw m).length = 2 ^ m
  | 0 => rfl
  | m + 1 => by
    simp only [pw, List.length_append, List.length_map, pw_length m]
    omega
theorem mem_pw : ∀ (m : Nat) (l : List Nat), l.Pairwise (· < ·) → (∀ x ∈ l, x < m) → l ∈ pw m
  | 0, l, _, h => by
    cases l with
    | nil => simp [pw]
    | cons a l => exact absurd (h a (by simp)) (Nat.not_lt_zero _)
  | m + 1, l, hp, h => by
    simp only [pw, List.mem_append, List.mem_map]
    by_cases hm : m ∈ l
    · right
      have hne : l ≠ [] := fun e => by rw [e] at hm; simp at hm
      have el := List.dropLast_concat_getLast hne
      have hp' := hp
      rw [← el, List.pairwise_append] at hp'
      have last_m : l.getLast hne = m := by
        rw [← el] at hm
        rcases List.mem_append.mp hm with q | q
        · have := hp'.2.2 m q (l.getLast hne) (by simp)
          have := h (l.getLast hne) (List.getLast_mem hne)
          omega
        · exact (List.mem_singleton.mp q).symm
      refine ⟨l.dropLast, mem_pw m _ hp'.1 fun x hx => ?_, by rw [last_m] at el; exact el⟩
      have := hp'.2.2 x hx (l.getLast hne) (by simp)
      omega
    · left
      refine mem_pw m l hp fun x hx => ?_
      have := h x hx
      have : x ≠ m := fun e => hm (e ▸ hx)
      omega

/-! ### the bound of the values of a line -/
def bnd (S : List Ln) (n : Nat) : Nat :=
  match S[n]? with
  | some (.denied f) => if f < n then bnd S f else 0
  | some (.both f g) => if f < n then (if g < n then min (10 ^ 6) (bnd S f * bnd S g) else 0) else 0
  | some (.there f) => if f < n then (if 8 < bnd S f then 10 ^ 6 else 2 ^ bnd S f) else 0
  | some (.one _) => 3
  | some (.first _) => 3
  | some (.last _) => 3
  | some (.next _ _) => 6
  | _ => 2
termination_by n

/-- how deep there stands in there -/
def thd (S : List Ln) (n : Nat) : Nat :=
  match S[n]? with
  | some (.denied f) => if f < n then thd S f else 0
  | some (.both f g) => if f < n then (if g < n then max (thd S f) (thd S g) else 0) else 0
  | some (.there f) => if f < n then thd S f + 1 else 0
  | _ => 0
termination_by n

/-! ### the lines that are used -/
inductive Us (S : List Ln) (t : Nat × Nat) : Nat × Nat → Prop
  | top : Us S t t
  | denied {n k f} : Us S t (n, k) → S[n]? = some (.denied f) → Us S t (f, k)
  | both1 {n k f g} : Us S t (n, k) → S[n]? = some (.both f g) → Us S t (f, k)
  | both2 {n k f g} : Us S t (n, k) → S[n]? = some (.both f g) → Us S t (g, k)
  | there {n k f} : Us S t (n, k) → S[n]? = some (.there f) → Us S t (f, k + 1)
end Tw
/-! Plain mathematics, second part: each kind of line has a table of values that is kept by joining. -/
set_option maxHeartbeats 400000
namespace Tw

/-! ### folds -/
def hf {α : Type} (e : α) (j : α → α → α) (lt : Nat → α) (u : List Nat) : α := u.foldl (fun x a => j x (lt a)) e
theorem hf_snoc {α : Type} (e : α) (j : α → α → α) (lt : Nat → α) (u : List Nat) (a : Nat) : hf e j lt (u ++ [a]) = j (hf e j lt u) (lt a) := by simp [hf]
theorem snoc_ind {P : List Nat → Prop} (h0 : P []) (h1 : ∀ u a, P u → P (u ++ [a])) : ∀ u, P u := by
  intro u
  have := h0
  induction h : u.length generalizing u with
  | zero => rw [List.length_eq_zero_iff.mp h]; exact h0
  | succ n ih =>
    have hne : u ≠ [] := fun e => by rw [e] at h; simp at h
    rw [← List.dropLast_concat_getLast hne]
    exact h1 _ _ (ih _ (by simp [h]))
theorem hf_app {α : Type} {e : α} {j : α → α → α} {lt : Nat → α} (as : ∀ x y z, j (j x y) z = j x (j y z)) (un : ∀ u, j (hf e j lt u) e = hf e j lt u) (u w : List Nat) :
    j (hf e j lt u) (hf e j lt w) = hf e j lt (u ++ w) := by
  induction w using snoc_ind with
  | h0 => rw [List.append_nil]; exact un u
  | h1 w a ih => rw [hf_snoc, ← as, ih, ← List.append_assoc, hf_snoc]

/-! ### all, nothing -/
def fAll (p : Nat → Bool) (u : List Nat) : Bool := u.all p
theorem fAll_nil (p : Nat → Bool) : fAll p [] = true := rfl
theorem fAll_one (p : Nat → Bool) (a : Nat) : fAll p [a] = p a := by simp [fAll]
theorem fAll_app (p : Nat → Bool) (u w : List Nat) : (fAll p u && fAll p w) = fAll p (u ++ w) := by simp [fAll]
theorem all_range (u : List Nat) (p : Nat → Bool) : ((List.range u.length).all fun i => p (u[i]?.getD 0)) = u.all p := by
  rw [Bool.eq_iff_iff, List.all_eq_true, List.all_eq_true]
  constructor
  · intro h x hx
    obtain ⟨i, hi, e⟩ := List.getElem_of_mem hx
    have := h i (List.mem_range.mpr hi)
    rw [List.getElem?_eq_getElem hi] at this
    simpa [e] using this
  · intro h i hi
    have hi' := List.mem_range.mp hi
    rw [List.getElem?_eq_getElem hi']
    exact h _ (List.getElem_mem hi')
theorem all_congr {l : List Nat} {p q : Nat → Bool} (h : ∀ x ∈ l, p x = q x) : l.all p = l.all q := by
  rw [Bool.eq_iff_iff, List.all_eq_true, List.all_eq_true]
  exact ⟨fun g x hx => by rw [← h x hx]; exact g x hx, fun g x hx => by rw [h x hx]; exact g x hx⟩
theorem lang_all {S : List Ln} {n k c : Nat} (e : S[n]? = some (.all c)) (u : List Nat) : Lang S n k u = fAll (fun lab => plm S k lab c) u := by
  unfold Lang
  rw [sov, e]
  simp only [rowOf_length]
  exact (all_congr fun p hp => plr_plm S k u p c (List.mem_range.mp hp)).trans (all_range u fun lab => plm S k lab c)
theorem lang_nothing {S : List Ln} {n k : Nat} (e : S[n]? = some .nothing) (u : List Nat) : Lang S n k u = fAll (fun _ => false) u := by
  unfold Lang
  rw [sov, e]
  simp only [rowOf_length]
  cases u <;> simp [fAll]

/-! ### one -/
def jOne (x y : Nat) : Nat := min 2 (x + y)
def fOne (p : Nat → Bool) (u : List Nat) : Nat := min 2 (u.countP p)
theorem fOne_nil (p : Nat → Bool) : fOne p [] = 0 := rfl
theorem fOne_one (p : Nat → Bool) (a : Nat) : fOne p [a] = if p a = true then 1 else 0 := by
  unfold fOne
  cases h : p a <;> simp [h]
theorem fOne_app (p : Nat → Bool) (u w : List Nat) : jOne (fOne p u) (fOne p w) = fOne p (u ++ w) := by
  unfold fOne jOne
  rw [List.countP_append]
  omega
theorem setOf_length (i : Nat) (u : List Nat) : (setOf i u).length = u.countP fun lab => lab.testBit i := by
  unfold setOf
  rw [← List.countP_eq_length_filter]
  have e : u = (List.range u.length).map fun p => u[p]?.getD 0 := by
    apply List.ext_getElem?
    intro p
    rw [List.getElem?_map]
    by_cases hp : p < u.length
    · rw [List.getElem?_range hp]; simp [List.getElem?_eq_getElem hp]
    · rw [List.getElem?_eq_none (by omega), List.getElem?_eq_none (by simp; omega)]; rfl
  conv => rhs; rw [e, List.countP_map]
  rfl
theorem lang_one {S : List Ln} {n k i : Nat} (e : S[n]? = some (.one i)) (u : List Nat) : Lang S n k u = decide (fOne (fun lab => decide (i < k) && lab.testBit i) u = 1) := by
  unfold Lang
  rw [sov, e]
  simp only [setsOf, List.getElem?_map]
  by_cases hi : i < k
  · rw [List.getElem?_range hi]
    simp only [Option.map_some, setOf_length, hi, decide_true, Bool.true_and]
    unfold fOne
    rw [Bool.eq_iff_iff, decide_eq_true_eq, decide_eq_true_eq]
    omega
  · rw [List.getElem?_eq_none (by simp; omega)]
    have : u.countP (fun lab => decide (i < k) && lab.testBit i) = 0 := by
      rw [List.countP_eq_zero]
      intro a _
      simp [hi]
    simp [fOne, this]
theorem fOne_mem (p : Nat → Bool) (u : List Nat) : fOne p u ∈ [0, 1, 2] := by
  unfold fOne
  have : min 2 (u.countP p) ≤ 2 := Nat.min_le_left _ _
  rcases h : min 2 (u.countP p) with _ | _ | _ | n
  · simp
  · simp
  · simp
  · omega

/-! ### next -/
inductive Nx where
  | none | broken | pair (d c : Bool)
  deriving DecidableEq
def jNx : Nx → Nx → Nx
  | .none, y => y
  | x, .none => x
  | .pair d c, .pair d' c' => if (c && !d') = true then .broken else .pair d c'
  | _, _ => .broken
theorem jNx_assoc (x y z : Nx) : jNx (jNx x y) z = jNx x (jNx y z) := by
  rcases x with _ | _ | ⟨_ | _, _ | _⟩ <;> rcases y with _ | _ | ⟨_ | _, _ | _⟩ <;> rcases z with _ | _ | ⟨_ | _, _ | _⟩ <;> rfl
theorem jNx_none (x : Nx) : jNx x .none = x := by cases x <;> rfl
def fNx (c d : Nat → Bool) (u : List Nat) : Nx := hf .none jNx (fun a => .pair (d a) (c a)) u
theorem fNx_nil (c d : Nat → Bool) : fNx c d [] = .none := rfl
theorem fNx_one (c d : Nat → Bool) (a : Nat) : fNx c d [a] = .pair (d a) (c a) := rfl
theorem fNx_app (c d : Nat → Bool) (u w : List Nat) : jNx (fNx c d u) (fNx c d w) = fNx c d (u ++ w) := hf_app jNx_assoc (fun u => jNx_none _) u w
/-- neighbours are as they should be -/
def okNx (c d : Nat → Bool) (u : List Nat) : Prop := ∀ p, p + 1 < u.length → c (u[p]?.getD 0) = true → d (u[p + 1]?.getD 0) = true
theorem fNx_says (c d : Nat → Bool) (u : List Nat) : (fNx c d u = .none ∧ u = []) ∨ (fNx c d u = .broken ∧ ¬ okNx c d u) ∨ ((∃ x, fNx c d u = .pair x (c (u[u.length - 1]?.getD 0))) ∧ u ≠ [] ∧ okNx c d u) := by
  induction u using snoc_ind with
  | h0 => exact .inl ⟨rfl, rfl⟩
  | h1 u a ih =>
    right
    have es : fNx c d (u ++ [a]) = jNx (fNx c d u) (.pair (d a) (c a)) := hf_snoc ..
    have last : ((u ++ [a])[(u ++ [a]).length - 1]?).getD 0 = a := by simp
    have keep : okNx c d (u ++ [a]) → okNx c d u := fun h p hp hc => by
      have h1 : (u ++ [a])[p]? = u[p]? := List.getElem?_append_left (by omega)
      have h2 : (u ++ [a])[p + 1]? = u[p + 1]? := List.getElem?_append_left hp
      have := h p (by simp; omega) (by rw [h1]; exact hc)
      rw [h2] at this
      exact this
    rcases ih with ⟨e, rfl⟩ | ⟨e, hn⟩ | ⟨⟨x, e⟩, hne, hok⟩
    · right
      refine ⟨⟨d a, ?_⟩, by simp, fun p hp => by simp at hp⟩
      rw [es, e, last]; rfl
    · left
      refine ⟨by rw [es, e]; rfl, fun h => hn (keep h)⟩
    · have hl : 0 < u.length := List.length_pos_iff.mpr hne
      have step : okNx c d (u ++ [a]) ↔ (c (u[u.length - 1]?.getD 0) = true → d a = true) := by
        constructor
        · intro h hc
          have h1 : (u ++ [a])[u.length - 1]? = u[u.length - 1]? := List.getElem?_append_left (by omega)
          have h2 : (u ++ [a])[u.length - 1 + 1]? = some a := by
            rw [Nat.sub_add_cancel hl]; simp
          have := h (u.length - 1) (by simp; omega) (by rw [h1]; exact hc)
          rw [h2] at this
          exact this
        · intro h p hp hc
          rw [List.length_append, List.length_singleton] at hp
          have h1 : (u ++ [a])[p]? = u[p]? := List.getElem?_append_left (by omega)
          rw [h1] at hc
          by_cases hq : p + 1 < u.length
          · rw [List.getElem?_append_left hq]
            exact hok p hq hc
          · have e1 : p = u.length - 1 := by omega
            have h2 : (u ++ [a])[p + 1]? = some a := by
              rw [e1, Nat.sub_add_cancel hl]; simp
            rw [h2]
            rw [e1] at hc
            exact h hc
      by_cases hb : (c (u[u.length - 1]?.getD 0) && !d a) = true
      · left
        refine ⟨by rw [es, e]; simp only [jNx]; rw [if_pos hb], fun h => ?_⟩
        have := step.mp h
        rw [Bool.and_eq_true] at hb
        rw [this hb.1] at hb
        simp at hb
      · right
        refine ⟨⟨x, ?_⟩, by simp, step.mpr fun hc => ?_⟩
        · rw [es, e, last]; simp only [jNx]; rw [if_neg hb]
        · rw [hc] at hb
          simpa using hb
theorem lang_next {S : List Ln} {n k c d : Nat} (e : S[n]? = some (.next c d)) (u : List Nat) : Lang S n k u = decide (fNx (fun lab => plm S k lab c) (fun lab => plm S k lab d) u ≠ .broken) := by
  unfold Lang
  rw [sov, e]
  simp only [rowOf_length]
  have h : ((List.range (u.length - 1)).all fun p => !plr S (rowOf k u) (setsOf k u) p c || plr S (rowOf k u) (setsOf k u) (p + 1) d) = true ↔ okNx (fun lab => plm S k lab c) (fun lab => plm S k lab d) u := by
    rw [List.all_eq_true]
    constructor
    · intro g p hp hc
      have := g p (List.mem_range.mpr (by omega))
      rw [plr_plm S k u p c (by omega), plr_plm S k u (p + 1) d hp] at this
      dsimp only at hc ⊢
      rw [hc] at this
      simpa using this
    · intro g p hp
      have hp' := List.mem_range.mp hp
      rw [plr_plm S k u p c (by omega), plr_plm S k u (p + 1) d (by omega)]
      cases hc : plm S k (u[p]?.getD 0) c with
      | false => rfl
      | true => simpa using g p (by omega) hc
  rw [Bool.eq_iff_iff, h, decide_eq_true_eq]
  rcases fNx_says (fun lab => plm S k lab c) (fun lab => plm S k lab d) u with ⟨e1, rfl⟩ | ⟨e1, hn⟩ | ⟨⟨x, e1⟩, _, hok⟩
  · rw [e1]; exact ⟨fun _ => by simp, fun _ p hp => by simp at hp⟩
  · rw [e1]; exact ⟨fun q => absurd q hn, fun q => absurd rfl q⟩
  · rw [e1]; exact ⟨fun _ => by simp, fun _ => hok⟩
theorem nx_mem (x : Nx) : x ∈ [Nx.none, .broken, .pair false false, .pair false true, .pair true false, .pair true true] := by
  cases x with
  | none => simp
  | broken => simp
  | pair d c => cases d <;> cases c <;> simp

/-! ### first, last -/
def jEnd (fst : Bool) (x y : Option Bool) : Option Bool := if fst = true then (match x with | none => y | some b => some b) else (match y with | none => x | some b => some b)
def fEnd (fst : Bool) (p : Nat → Bool) (u : List Nat) : Option Bool := if fst = true then u.head?.map p else u.getLast?.map p
theorem fEnd_nil (fst : Bool) (p : Nat → Bool) : fEnd fst p [] = none := by cases fst <;> rfl
theorem fEnd_one (fst : Bool) (p : Nat → Bool) (a : Nat) : fEnd fst p [a] = some (p a) := by cases fst <;> rfl
theorem fEnd_app (fst : Bool) (p : Nat → Bool) (u w : List Nat) : jEnd fst (fEnd fst p u) (fEnd fst p w) = fEnd fst p (u ++ w) := by
  cases fst with
  | true =>
    cases u with
    | nil => simp [jEnd, fEnd]
    | cons a u => simp [jEnd, fEnd]
  | false =>
    cases w using snoc_ind with
    | h0 => simp [jEnd, fEnd]
    | h1 w a _ =>
      simp only [jEnd, fEnd, Bool.false_eq_true, if_false]
      rw [← List.append_assoc]
      simp
theorem lang_first {S : List Ln} {n k c : Nat} (e : S[n]? = some (.first c)) (u : List Nat) : Lang S n k u = decide (fEnd true (fun lab => plm S k lab c) u ≠ some false) := by
  unfold Lang
  rw [sov, e]
  simp only [rowOf_length]
  cases u with
  | nil => simp [fEnd]
  | cons a u =>
    rw [plr_plm S k (a :: u) 0 c (by simp)]
    simp only [fEnd, if_true, List.head?_cons, Option.map_some, List.length_cons]
    cases h : plm S k a c <;> simp [h]
theorem lang_last {S : List Ln} {n k c : Nat} (e : S[n]? = some (.last c)) (u : List Nat) : Lang S n k u = decide (fEnd false (fun lab => plm S k lab c) u ≠ some false) := by
  unfold Lang
  rw [sov, e]
  simp only [rowOf_length]
  by_cases hu : u = []
  · subst hu; simp [fEnd]
  · have hl : 0 < u.length := List.length_pos_iff.mpr hu
    rw [plr_plm S k u (u.length - 1) c (by omega)]
    have h1 : u.getLast? = some (u[u.length - 1]?.getD 0) := by
      rw [List.getLast?_eq_getElem?, List.getElem?_eq_getElem (by omega)]; rfl
    simp only [fEnd, Bool.false_eq_true, if_false, h1, Option.map_some]
    have h0 : ¬ u.length = 0 := by omega
    cases plm S k (u[u.length - 1]?.getD 0) c <;> simp [h0]
theorem ob_mem (x : Option Bool) : x ∈ [none, some false, some true] := by
  cases x with
  | none => simp
  | some b => cases b <;> simp

/-! ### denied, both -/
theorem lang_denied {S : List Ln} {n k f : Nat} (e : S[n]? = some (.denied f)) (hf : f < n) (u : List Nat) : Lang S n k u = !Lang S f k u := by
  unfold Lang
  rw [sov, e]
  simp only [hf, if_true]
theorem lang_both {S : List Ln} {n k f g : Nat} (e : S[n]? = some (.both f g)) (hf : f < n) (hg : g < n) (u : List Nat) : Lang S n k u = (Lang S f k u && Lang S g k u) := by
  unfold Lang
  rw [sov, e]
  simp only [hf, hg, if_true]
def Rd.deny (R : Rd) : Rd := { R with acc := (List.range R.m).filter fun x => !R.acc.contains x }
theorem RInv.deny {R : Rd} {cnt : Nat} {L : List Nat → Bool} (h : RInv R cnt L) : RInv R.deny cnt fun u => !L u := by
  obtain ⟨h1, h2, h3, v, hv⟩ := h
  refine ⟨h1, h2, h3, v, hv.lt, hv.emp, hv.let_, hv.mul, hv.onto, fun u hu => ?_⟩
  show v u ∈ (List.range R.m).filter _ ↔ _
  rw [List.mem_filter, List.mem_range]
  have := hv.acc u hu
  constructor
  · rintro ⟨_, hn⟩
    cases e : L u with
    | false => rfl
    | true =>
      rw [e] at this
      simp [List.contains_iff_mem, this] at hn
  · intro hn
    refine ⟨hv.lt u hu, ?_⟩
    cases e : R.acc.contains (v u) with
    | false => rfl
    | true =>
      rw [this.mp (List.contains_iff_mem.mp e)] at hn
      simp at hn

/-! ### there -/
/-- the marked letter with one more set: not in it, in it -/
def lo (k lab : Nat) : Nat := lab / 2 ^ k * 2 * 2 ^ k + lab % 2 ^ k
def hi (k lab : Nat) : Nat := lo k lab + 2 ^ k
theorem lo_eq (k lab : Nat) : lo k lab = 2 ^ (k + 1) * (lab / 2 ^ k) + lab % 2 ^ k := by
  unfold lo
  rw [Nat.pow_succ, Nat.mul_assoc, Nat.mul_comm (lab / 2 ^ k), Nat.mul_comm 2 (2 ^ k)]
theorem hi_eq (k lab : Nat) : hi k lab = 2 ^ (k + 1) * (lab / 2 ^ k) + (2 ^ k * 1 + lab % 2 ^ k) := by
  unfold hi
  rw [lo_eq]
  omega
theorem mod_lt2 (k lab : Nat) : lab % 2 ^ k < 2 ^ k := Nat.mod_lt _ (Nat.two_pow_pos k)
theorem lo_row (k lab : Nat) : lo k lab / 2 ^ (k + 1) = lab / 2 ^ k := by
  have := mod_lt2 k lab
  have hp := Nat.two_pow_pos k
  have h2 : lab % 2 ^ k < 2 ^ (k + 1) := by rw [Nat.pow_succ]; omega
  rw [lo_eq, Nat.mul_add_div (Nat.two_pow_pos _), Nat.div_eq_of_lt h2, Nat.add_zero]
theorem hi_row (k lab : Nat) : hi k lab / 2 ^ (k + 1) = lab / 2 ^ k := by
  have := mod_lt2 k lab
  have hp := Nat.two_pow_pos k
  have h2 : 2 ^ k * 1 + lab % 2 ^ k < 2 ^ (k + 1) := by rw [Nat.pow_succ]; omega
  rw [hi_eq, Nat.mul_add_div (Nat.two_pow_pos _), Nat.div_eq_of_lt h2, Nat.add_zero]
theorem lo_bit {k lab i : Nat} (h : i < k + 1) : (lo k lab).testBit i = (decide (i < k) && lab.testBit i) := by
  have := mod_lt2 k lab
  rw [lo_eq, Nat.testBit_two_pow_mul_add _ (by rw [Nat.pow_succ]; omega), if_pos h, Nat.testBit_mod_two_pow]
theorem hi_bit {k lab i : Nat} (h : i < k + 1) : (hi k lab).testBit i = (if i < k then lab.testBit i else true) := by
  have h1 := mod_lt2 k lab
  rw [hi_eq, Nat.testBit_two_pow_mul_add _ (by rw [Nat.pow_succ]; omega), if_pos h, Nat.testBit_two_pow_mul_add _ h1]
  by_cases hk : i < k
  · rw [if_pos hk, if_pos hk, Nat.testBit_mod_two_pow]; simp [hk]
  · have e : i = k := by omega
    rw [if_neg hk, if_neg hk, e, Nat.sub_self]; rfl
theorem lo_lt {k lab cnt : Nat} (h : lab < cnt * 2 ^ k) : lo k lab < cnt * 2 ^ (k + 1) := by
  have : lo k lab / 2 ^ (k + 1) < cnt := by rw [lo_row]; exact Nat.div_lt_of_lt_mul (by rw [Nat.mul_comm]; exact h)
  exact (Nat.div_lt_iff_lt_mul (Nat.two_pow_pos _)).mp this
theorem hi_lt {k lab cnt : Nat} (h : lab < cnt * 2 ^ k) : hi k lab < cnt * 2 ^ (k + 1) := by
  have : hi k lab / 2 ^ (k + 1) < cnt := by rw [hi_row]; exact Nat.div_lt_of_lt_mul (by rw [Nat.mul_comm]; exact h)
  exact (Nat.div_lt_iff_lt_mul (Nat.two_pow_pos _)).mp this

/-- the word u, marked with one more set: the places p with g p -/
def lift (k : Nat) (g : Nat → Bool) : List Nat → List Nat
  | [] => []
  | a :: u => (if g 0 = true then hi k a else lo k a) :: lift k (fun p => g (p + 1)) u
theorem lift_length (k : Nat) : ∀ (u : List Nat) (g : Nat → Bool), (lift k g u).length = u.length
  | [], _ => rfl
  | _ :: u, g => by simp [lift, lift_length k u]
theorem lift_get (k : Nat) : ∀ (u : List Nat) (g : Nat → Bool) (p : Nat), p < u.length → (lift k g u)[p]?.getD 0 = if g p = true then hi k (u[p]?.getD 0) else lo k (u[p]?.getD 0)
  | [], _, p, h => by simp at h
  | a :: u, g, 0, _ => by simp [lift]
  | a :: u, g, p + 1, h => by
    have := lift_get k u (fun p => g (p + 1)) p (by simpa using h)
    simpa [lift] using this
theorem lift_app (k : Nat) : ∀ (u w : List Nat) (g : Nat → Bool), lift k g (u ++ w) = lift k g u ++ lift k (fun p => g (p + u.length)) w
  | [], w, g => by simp [lift]
  | a :: u, w, g => by
    simp only [List.cons_append, lift, lift_app k u w, List.length_cons]
    rfl
theorem lift_congr (k : Nat) : ∀ (u : List Nat) (g g' : Nat → Bool), (∀ p, p < u.length → g p = g' p) → lift k g u = lift k g' u
  | [], _, _, _ => rfl
  | a :: u, g, g', h => by
    simp only [lift]
    rw [h 0 (by simp), lift_congr k u (fun p => g (p + 1)) (fun p => g' (p + 1)) fun p hp => h (p + 1) (by simpa using hp)]
theorem lift_wd {k cnt : Nat} : ∀ (u : List Nat) (g : Nat → Bool), Wd (cnt * 2 ^ k) u → Wd (cnt * 2 ^ (k + 1)) (lift k g u)
  | [], _, _ => Wd.nil
  | a :: u, g, h => by
    intro b hb
    simp only [lift, List.mem_cons] at hb
    rcases hb with rfl | hb
    · split
      · exact hi_lt (h a (by simp))
      · exact lo_lt (h a (by simp))
    · exact lift_wd u _ (fun c hc => h c (by simp [hc])) b hb
theorem code_of : ∀ (len : Nat) (g : Nat → Bool), ∃ code, code < 2 ^ len ∧ ∀ p, p < len → code.testBit p = g p
  | 0, _ => ⟨0, by simp, fun p h => absurd h (Nat.not_lt_zero _)⟩
  | len + 1, g => by
    obtain ⟨c, h1, h2⟩ := code_of len g
    refine ⟨2 ^ len * (if g len = true then 1 else 0) + c, ?_, fun p hp => ?_⟩
    · rw [Nat.pow_succ]; split <;> omega
    · rw [Nat.testBit_two_pow_mul_add _ h1]
      by_cases hq : p < len
      · rw [if_pos hq]; exact h2 p hq
      · have e : p = len := by omega
        rw [if_neg hq, e, Nat.sub_self]
        cases g len <;> rfl
theorem row_lift (k : Nat) (g : Nat → Bool) (u : List Nat) : rowOf (k + 1) (lift k g u) = rowOf k u := by
  induction u generalizing g with
  | nil => rfl
  | cons a u ih =>
    have := ih (fun p => g (p + 1))
    unfold rowOf at this ⊢
    simp only [lift, List.map_cons, this]
    congr 1
    split
    · exact hi_row k a
    · exact lo_row k a
theorem filter_congr' {l : List Nat} {p q : Nat → Bool} (h : ∀ x ∈ l, p x = q x) : l.filter p = l.filter q := List.filter_congr h
theorem sets_lift (k code : Nat) (u : List Nat) : setsOf (k + 1) (lift k (fun p => code.testBit p) u) = setsOf k u ++ [bitsOf u.length code] := by
  unfold setsOf
  rw [List.range_succ, List.map_append, List.map_singleton]
  congr 1
  · refine List.map_congr_left fun i hi => ?_
    have hi' := List.mem_range.mp hi
    unfold setOf
    rw [lift_length]
    refine filter_congr' fun p hp => ?_
    rw [lift_get k u _ p (List.mem_range.mp hp)]
    split
    · rw [hi_bit (by omega), if_pos hi']
    · rw [lo_bit (by omega)]; simp [hi']
  · congr 1
    unfold setOf bitsOf
    rw [lift_length]
    refine filter_congr' fun p hp => ?_
    rw [lift_get k u _ p (List.mem_range.mp hp)]
    cases h : code.testBit p with
    | true => simp [hi_bit (Nat.lt_succ_self k)]
    | false => simp [lo_bit (Nat.lt_succ_self k)]
theorem lang_there {S : List Ln} {n k f : Nat} (e : S[n]? = some (.there f)) (hf : f < n) (u : List Nat) : Lang S n k u = true ↔ ∃ g, Lang S f (k + 1) (lift k g u) = true := by
  unfold Lang
  rw [sov, e]
  simp only [hf, if_true, rowOf_length, List.any_eq_true, List.mem_range]
  constructor
  · rintro ⟨code, _, h⟩
    refine ⟨fun p => code.testBit p, ?_⟩
    rw [row_lift, sets_lift]
    exact h
  · rintro ⟨g, h⟩
    obtain ⟨code, hc, hg⟩ := code_of u.length g
    refine ⟨code, hc, ?_⟩
    rw [lift_congr k u g (fun p => code.testBit p) fun p hp => (hg p hp).symm, row_lift, sets_lift] at h
    exact h

open Classical in
/-- the values of the inner reader that a word has, over all choices of one more set, rising -/
noncomputable def fTh (k m : Nat) (v : List Nat → Nat) (u : List Nat) : List Nat := (List.range m).filter fun x => decide (∃ g, v (lift k g u) = x)
theorem mem_fTh {k m : Nat} {v : List Nat → Nat} {u : List Nat} {x : Nat} : x ∈ fTh k m v u ↔ x < m ∧ ∃ g, v (lift k g u) = x := by
  simp [fTh, List.mem_filter]
theorem rising_range (m : Nat) : (List.range m).Pairwise (· < ·) := List.pairwise_lt_range
theorem fTh_rising (k m : Nat) (v : List Nat → Nat) (u : List Nat) : (fTh k m v u).Pairwise (· < ·) := List.Pairwise.filter _ (rising_range m)
theorem rising_ext : ∀ {l l' : List Nat}, l.Pairwise (· < ·) → l'.Pairwise (· < ·) → (∀ x, x ∈ l ↔ x ∈ l') → l = l'
  | [], [], _, _, _ => rfl
  | [], b :: l', _, _, h => absurd ((h b).mpr (by simp)) (by simp)
  | a :: l, [], _, _, h => absurd ((h a).mp (by simp)) (by simp)
  | a :: l, b :: l', p, q, h => by
    rw [List.pairwise_cons] at p q
    have e : a = b := by
      rcases List.mem_cons.mp ((h a).mp (by simp)) with e | ha
      · exact e
      · rcases List.mem_cons.mp ((h b).mpr (by simp)) with e | hb
        · exact e.symm
        · have := p.1 b hb
          have := q.1 a ha
          omega
    subst e
    congr 1
    refine rising_ext p.2 q.2 fun x => ?_
    constructor
    · intro hx
      rcases List.mem_cons.mp ((h x).mp (by simp [hx])) with e | hx'
      · have := p.1 x hx; omega
      · exact hx'
    · intro hx
      rcases List.mem_cons.mp ((h x).mpr (by simp [hx])) with e | hx'
      · have := q.1 x hx; omega
      · exact hx'
/-- l is, rising, what P says -/
structure RisingOf (P : Nat → Prop) (l : List Nat) : Prop where
  rise : l.Pairwise (· < ·)
  mem : ∀ x, x ∈ l ↔ P x
theorem RisingOf.eq {P : Nat → Prop} {l l' : List Nat} (h : RisingOf P l) (h' : RisingOf P l') : l = l' := rising_ext h.rise h'.rise fun x => (h.mem x).trans (h'.mem x).symm
section
variable {R : Rd} {cnt k : Nat} {L : List Nat → Bool} {v : List Nat → Nat}
theorem fTh_of (H : Hom R (cnt * 2 ^ (k + 1)) L v) {u : List Nat} (hu : Wd (cnt * 2 ^ k) u) : RisingOf (fun x => ∃ g, v (lift k g u) = x) (fTh k R.m v u) :=
  ⟨fTh_rising .., fun x => ⟨fun h => (mem_fTh.mp h).2, fun ⟨g, e⟩ => mem_fTh.mpr ⟨e ▸ H.lt _ (lift_wd u g hu), g, e⟩⟩⟩
theorem fTh_nil (H : Hom R (cnt * 2 ^ (k + 1)) L v) : fTh k R.m v [] = [R.emp] := by
  refine (fTh_of H Wd.nil).eq ⟨by simp, fun x => ?_⟩
  simp only [List.mem_singleton, lift, H.emp]
  exact ⟨fun e => ⟨fun _ => false, e.symm⟩, fun ⟨_, e⟩ => e.symm⟩
theorem fTh_one (H : Hom R (cnt * 2 ^ (k + 1)) L v) {a : Nat} (ha : a < cnt * 2 ^ k) {l : List Nat} (h : RisingOf (fun x => x = v [lo k a] ∨ x = v [hi k a]) l) : fTh k R.m v [a] = l := by
  refine (fTh_of H (Wd.one ha)).eq ⟨h.rise, fun x => (h.mem x).trans ?_⟩
  constructor
  · rintro (e | e)
    · exact ⟨fun _ => false, by simp [lift, e]⟩
    · exact ⟨fun _ => true, by simp [lift, e]⟩
  · rintro ⟨g, e⟩
    simp only [lift] at e
    cases hg : g 0 with
    | true => rw [hg, if_pos rfl] at e; exact .inr e.symm
    | false => rw [hg, if_neg (by simp)] at e; exact .inl e.symm
theorem fTh_app (H : Hom R (cnt * 2 ^ (k + 1)) L v) {u w : List Nat} (hu : Wd (cnt * 2 ^ k) u) (hw : Wd (cnt * 2 ^ k) w) {l : List Nat}
    (h : RisingOf (fun x => ∃ y ∈ fTh k R.m v u, ∃ z ∈ fTh k R.m v w, R.at y z = x) l) : fTh k R.m v (u ++ w) = l := by
  refine (fTh_of H (hu.app hw)).eq ⟨h.rise, fun x => (h.mem x).trans ?_⟩
  constructor
  · rintro ⟨y, hy, z, hz, e⟩
    obtain ⟨_, g, e1⟩ := mem_fTh.mp hy
    obtain ⟨_, g', e2⟩ := mem_fTh.mp hz
    refine ⟨fun p => if p < u.length then g p else g' (p - u.length), ?_⟩
    rw [lift_app, lift_congr k u _ g fun p hp => if_pos hp, lift_congr k w _ g' fun p _ => ?_]
    · rw [← H.mul _ _ (lift_wd u g hu) (lift_wd w g' hw), e1, e2, e]
    · rw [if_neg (by omega)]; congr 1; omega
  · rintro ⟨g, e⟩
    rw [lift_app, ← H.mul _ _ (lift_wd u _ hu) (lift_wd w _ hw)] at e
    exact ⟨_, mem_fTh.mpr ⟨H.lt _ (lift_wd u _ hu), _, rfl⟩, _, mem_fTh.mpr ⟨H.lt _ (lift_wd w _ hw), _, rfl⟩, e⟩
theorem fTh_acc (H : Hom R (cnt * 2 ^ (k + 1)) L v) {u : List Nat} (hu : Wd (cnt * 2 ^ k) u) : (∃ x ∈ fTh k R.m v u, x ∈ R.acc) ↔ ∃ g, L (lift k g u) = true := by
  constructor
  · rintro ⟨x, hx, ha⟩
    obtain ⟨_, g, e⟩ := mem_fTh.mp hx
    rw [← e] at ha
    exact ⟨g, (H.acc _ (lift_wd u g hu)).mp ha⟩
  · rintro ⟨g, h⟩
    exact ⟨_, mem_fTh.mpr ⟨H.lt _ (lift_wd u g hu), g, rfl⟩, (H.acc _ (lift_wd u g hu)).mpr h⟩
theorem fTh_pw (u : List Nat) : fTh k R.m v u ∈ pw R.m := mem_pw _ _ (fTh_rising ..) fun x hx => (mem_fTh.mp hx).1
end
end Tw
/-! Plain mathematics, third part: pairs, least readers, the bound. -/
set_option maxHeartbeats 400000
namespace Tw

/-! ### the first of a kind -/
section
variable {κ : Type} [DecidableEq κ]
/-- the first number below m that has the key of x -/
def fstOf (m : Nat) (key : Nat → κ) (x : Nat) : Nat := ((List.range m).find? fun y => decide (key y = key x)).getD 0
theorem fstOf_spec {m : Nat} {key : Nat → κ} {x : Nat} (hx : x < m) : fstOf m key x < m ∧ key (fstOf m key x) = key x ∧ ∀ y, y < m → key y = key x → fstOf m key x ≤ y := by
  unfold fstOf
  cases h : (List.range m).find? fun y => decide (key y = key x) with
  | none =>
    have := List.find?_eq_none.mp h x (List.mem_range.mpr hx)
    simp at this
  | some z =>
    have h1 := List.find?_some h
    obtain ⟨i, hi, e, hmin⟩ := List.find?_eq_some_iff_getElem.mp h |>.2
    rw [List.getElem_range] at e
    subst e
    rw [List.length_range] at hi
    refine ⟨hi, by simpa using h1, fun y hy hk => ?_⟩
    refine Nat.le_of_not_lt fun hlt => ?_
    have := hmin y hlt
    rw [List.getElem_range] at this
    simp [hk] at this
theorem fstOf_le {m : Nat} {key : Nat → κ} {x : Nat} (hx : x < m) : fstOf m key x ≤ x := (fstOf_spec hx).2.2 x hx rfl
theorem fstOf_eq {m : Nat} {key : Nat → κ} {x y : Nat} (hx : x < m) (hy : y < m) : fstOf m key x = fstOf m key y ↔ key x = key y := by
  constructor
  · intro e
    exact (fstOf_spec (key := key) hx).2.1.symm.trans ((congrArg key e).trans (fstOf_spec (key := key) hy).2.1)
  · intro e
    have h1 := (fstOf_spec hx).2.2 _ (fstOf_spec hy).1 ((fstOf_spec hy).2.1.trans e.symm)
    have h2 := (fstOf_spec hy).2.2 _ (fstOf_spec hx).1 ((fstOf_spec hx).2.1.trans e)
    omega
theorem fstOf_idem {m : Nat} {key : Nat → κ} {x : Nat} (hx : x < m) : fstOf m key (fstOf m key x) = fstOf m key x :=
  (fstOf_eq (fstOf_spec hx).1 hx).mpr (fstOf_spec hx).2.1
/-- all of them -/
def fsts (m : Nat) (key : Nat → κ) : List Nat := (List.range m).map (fstOf m key)
theorem fsts_len (m : Nat) (key : Nat → κ) : (fsts m key).length = m := by simp [fsts]
theorem fsts_get {m : Nat} {key : Nat → κ} {x : Nat} (hx : x < m) : (fsts m key)[x]? = some (fstOf m key x) := by
  unfold fsts
  rw [List.getElem?_map, List.getElem?_range hx]; rfl
end

/-! ### classes of values -/
def gt (cl : List Nat) (x : Nat) : Nat := (cl[x]?).getD 0
/-- classes by leaders, each value's acceptance kept -/
structure Lead (R : Rd) (cl : List Nat) : Prop where
  len : cl.length = R.m
  le : ∀ x, x < R.m → gt cl x ≤ x
  idem : ∀ x, x < R.m → gt cl (gt cl x) = gt cl x
  acc : ∀ x y, x < R.m → y < R.m → gt cl x = gt cl y → (x ∈ R.acc ↔ y ∈ R.acc)
theorem Lead.lt {R : Rd} {cl : List Nat} (h : Lead R cl) {x : Nat} (hx : x < R.m) : gt cl x < R.m := Nat.lt_of_le_of_lt (h.le x hx) hx
/-- what a value leads to, by letters on both sides -/
def keyS (R : Rd) (steps cl : List Nat) (x : Nat) : Nat × List Nat := (gt cl x, (steps.map fun z => gt cl (R.at z x)) ++ steps.map fun z => gt cl (R.at x z))
theorem keyS_eq {R : Rd} {steps cl : List Nat} {x y : Nat} (h : keyS R steps cl x = keyS R steps cl y) :
    gt cl x = gt cl y ∧ ∀ z ∈ steps, gt cl (R.at z x) = gt cl (R.at z y) ∧ gt cl (R.at x z) = gt cl (R.at y z) := by
  unfold keyS at h
  obtain ⟨h1, h2⟩ := Prod.mk.inj h
  obtain ⟨h3, h4⟩ := List.append_inj h2 (by simp)
  exact ⟨h1, fun z hz => ⟨List.map_inj_left.mp h3 z hz, List.map_inj_left.mp h4 z hz⟩⟩
theorem gt_fsts {κ : Type} [DecidableEq κ] {m : Nat} {key : Nat → κ} {x : Nat} (hx : x < m) : gt (fsts m key) x = fstOf m key x := by
  unfold gt
  rw [fsts_get hx]; rfl
theorem Lead.first {R : Rd} : Lead R (fsts R.m fun x => decide (x ∈ R.acc)) where
  len := fsts_len _ _
  le := fun x hx => by rw [gt_fsts hx]; exact fstOf_le hx
  idem := fun x hx => by rw [gt_fsts hx, gt_fsts (fstOf_spec hx).1]; exact fstOf_idem hx
  acc := fun x y hx hy e => by
    rw [gt_fsts hx, gt_fsts hy, fstOf_eq hx hy] at e
    simpa using e
theorem Lead.split {R : Rd} {cl steps : List Nat} (h : Lead R cl) : Lead R (fsts R.m (keyS R steps cl)) where
  len := fsts_len _ _
  le := fun x hx => by rw [gt_fsts hx]; exact fstOf_le hx
  idem := fun x hx => by rw [gt_fsts hx, gt_fsts (fstOf_spec hx).1]; exact fstOf_idem hx
  acc := fun x y hx hy e => by
    rw [gt_fsts hx, gt_fsts hy, fstOf_eq hx hy] at e
    exact h.acc x y hx hy (keyS_eq e).1
theorem Lead.ge {R : Rd} {cl steps : List Nat} (h : Lead R cl) {x : Nat} (hx : x < R.m) : gt cl x ≤ gt (fsts R.m (keyS R steps cl)) x := by
  rw [gt_fsts hx]
  have s := fstOf_spec (key := keyS R steps cl) hx
  rw [← (keyS_eq s.2.1).1]
  exact h.le _ s.1

/-- how far the classes still are from the finest -/
def slack (m : Nat) (cl : List Nat) : Nat := (cl.map fun c => m - c).sum
theorem slack_lt (m : Nat) : ∀ (a b : List Nat), a.length = b.length → (∀ x, x < a.length → gt a x ≤ gt b x) → (∀ x ∈ b, x < m) → a ≠ b → slack m b < slack m a
  | [], [], _, _, _, hne => absurd rfl hne
  | [], _ :: _, h, _, _, _ => by simp at h
  | _ :: _, [], h, _, _, _ => by simp at h
  | x :: a, y :: b, hl, hle, hb, hne => by
    have h0 : x ≤ y := hle 0 (by simp)
    have hy : y < m := hb y (by simp)
    have hl' : a.length = b.length := by simpa using hl
    have hle' : ∀ i, i < a.length → gt a i ≤ gt b i := fun i hi => hle (i + 1) (by simpa using hi)
    have hb' : ∀ z ∈ b, z < m := fun z hz => hb z (by simp [hz])
    simp only [slack, List.map_cons, List.sum_cons]
    by_cases e : a = b
    · subst e
      have : x ≠ y := fun e => hne (by rw [e])
      have := show ((a.map fun c => m - c).sum) = ((a.map fun c => m - c).sum) from rfl
      omega
    · have ih := slack_lt m a b hl' hle' hb' e
      simp only [slack] at ih
      omega

/-- classes that letters keep -/
structure Cong (R : Rd) (cl : List Nat) : Prop extends Lead R cl where
  left : ∀ x y, x < R.m → y < R.m → gt cl x = gt cl y → ∀ z ∈ R.letters, gt cl (R.at z x) = gt cl (R.at z y)
  right : ∀ x y, x < R.m → y < R.m → gt cl x = gt cl y → ∀ z ∈ R.letters, gt cl (R.at x z) = gt cl (R.at y z)
theorem Lead.cong {R : Rd} {cl steps : List Nat} (h : Lead R cl) (hs : ∀ z ∈ R.letters, z ∈ steps) (e : fsts R.m (keyS R steps cl) = cl) : Cong R cl := by
  have key : ∀ x y, x < R.m → y < R.m → gt cl x = gt cl y → keyS R steps cl x = keyS R steps cl y := fun x y hx hy q => by
    have q1 : gt (fsts R.m (keyS R steps cl)) x = gt (fsts R.m (keyS R steps cl)) y := by rw [e]; exact q
    rw [gt_fsts hx, gt_fsts hy, fstOf_eq hx hy] at q1
    exact q1
  exact { h with left := fun x y hx hy q z hz => ((keyS_eq (key x y hx hy q)).2 z (hs z hz)).1, right := fun x y hx hy q z hz => ((keyS_eq (key x y hx hy q)).2 z (hs z hz)).2 }

section
variable {R : Rd} {cnt : Nat} {L : List Nat → Bool} {v : List Nat → Nat} {cl : List Nat}
theorem Cong.app_r (C : Cong R cl) (H : Hom R cnt L v) {u u' : List Nat} (hu : Wd cnt u) (hu' : Wd cnt u') (e : gt cl (v u) = gt cl (v u')) : ∀ w, Wd cnt w → gt cl (v (u ++ w)) = gt cl (v (u' ++ w)) := by
  intro w
  induction w using snoc_ind with
  | h0 => intro _; rw [List.append_nil, List.append_nil]; exact e
  | h1 w a ih =>
    intro hw
    have hw1 := hw.left
    have ha : a < cnt := hw a (by simp)
    have hz := List.mem_of_getElem? (H.let_ a ha)
    rw [← List.append_assoc, ← List.append_assoc, ← H.mul _ _ (hu.app hw1) (Wd.one ha), ← H.mul _ _ (hu'.app hw1) (Wd.one ha)]
    exact C.right _ _ (H.lt _ (hu.app hw1)) (H.lt _ (hu'.app hw1)) (ih hw1) _ hz
theorem Cong.app_l (C : Cong R cl) (H : Hom R cnt L v) {w w' : List Nat} (hw : Wd cnt w) (hw' : Wd cnt w') (e : gt cl (v w) = gt cl (v w')) : ∀ u, Wd cnt u → gt cl (v (u ++ w)) = gt cl (v (u ++ w'))
  | [], _ => e
  | a :: u, hu => by
    have ha : a < cnt := hu a (by simp)
    have hu1 : Wd cnt u := fun b hb => hu b (by simp [hb])
    have hz := List.mem_of_getElem? (H.let_ a ha)
    show gt cl (v ([a] ++ (u ++ w))) = gt cl (v ([a] ++ (u ++ w')))
    rw [← H.mul _ _ (Wd.one ha) (hu1.app hw), ← H.mul _ _ (Wd.one ha) (hu1.app hw')]
    exact C.left _ _ (H.lt _ (hu1.app hw)) (H.lt _ (hu1.app hw')) (Cong.app_l C H hw hw' e u hu1) _ hz
/-- the leaders' own table joins as it should -/
theorem Cong.join (C : Cong R cl) (H : Hom R cnt L v) {u w : List Nat} (hu : Wd cnt u) (hw : Wd cnt w) : gt cl (R.at (gt cl (v u)) (gt cl (v w))) = gt cl (v (u ++ w)) := by
  obtain ⟨u', hu', e1⟩ := H.onto _ (C.toLead.lt (H.lt u hu))
  obtain ⟨w', hw', e2⟩ := H.onto _ (C.toLead.lt (H.lt w hw))
  rw [← e1, ← e2, H.mul _ _ hu' hw']
  have q1 : gt cl (v u') = gt cl (v u) := by rw [e1]; exact C.idem _ (H.lt u hu)
  have q2 : gt cl (v w') = gt cl (v w) := by rw [e2]; exact C.idem _ (H.lt w hw)
  exact (C.app_r H hu' hu q1 w' hw').trans (C.app_l H hw' hw q2 u hu)
theorem Cong.acc_iff (C : Cong R cl) (H : Hom R cnt L v) {u : List Nat} (hu : Wd cnt u) : gt cl (v u) ∈ R.acc ↔ L u = true :=
  (C.acc _ _ (C.toLead.lt (H.lt u hu)) (H.lt u hu) (C.idem _ (H.lt u hu))).trans (H.acc u hu)
end

/-! ### pairs -/
theorem pairs_list (m n : Nat) (x y : Nat) (hx : x < m) (hy : y < n) : (x, y) ∈ (List.range m).flatMap fun a => (List.range n).map fun b => (a, b) := by
  rw [List.mem_flatMap]
  exact ⟨x, List.mem_range.mpr hx, List.mem_map.mpr ⟨y, List.mem_range.mpr hy, rfl⟩⟩
theorem pairs_len (n : Nat) : ∀ m, ((List.range m).flatMap fun a => (List.range n).map fun b => (a, b)).length = m * n
  | 0 => by simp
  | m + 1 => by
    rw [List.range_succ, List.flatMap_append, List.length_append, pairs_len n m]
    simp [Nat.succ_mul]

/-! ### the bound -/
theorem bnd_denied {S : List Ln} {n f : Nat} (e : S[n]? = some (.denied f)) (hf : f < n) : bnd S n = bnd S f := by
  rw [bnd, e]; simp only [hf, if_true]
theorem bnd_both {S : List Ln} {n f g : Nat} (e : S[n]? = some (.both f g)) (hf : f < n) (hg : g < n) : bnd S n = min (10 ^ 6) (bnd S f * bnd S g) := by
  rw [bnd, e]; simp only [hf, hg, if_true]
theorem bnd_there {S : List Ln} {n f : Nat} (e : S[n]? = some (.there f)) (hf : f < n) : bnd S n = if 8 < bnd S f then 10 ^ 6 else 2 ^ bnd S f := by
  rw [bnd, e]; simp only [hf, if_true]
theorem bnd_pos {S : List Ln} (W : WF S) : ∀ n, 0 < bnd S n := by
  intro n
  induction n using Nat.strongRecOn with
  | ind n ih =>
    cases e : S[n]? with
    | none => rw [bnd, e]; simp
    | some l =>
      have ok := W n l e
      cases l with
      | denied f => rw [bnd_denied e ok.1]; exact ih f ok.1
      | both f g =>
        rw [bnd_both e ok.1.1 ok.2.1]
        have := Nat.mul_pos (ih f ok.1.1) (ih g ok.2.1)
        omega
      | there f =>
        rw [bnd_there e ok.1]
        split
        · decide
        · exact Nat.two_pow_pos _
      | _ => rw [bnd, e]; simp
theorem bnd_up {S : List Ln} (W : WF S) {t p : Nat × Nat} (h : Us S t p) : 300 < bnd S p.1 → 300 < bnd S t.1 := by
  induction h with
  | top => exact id
  | denied _ e ih => exact fun q => ih (by rw [bnd_denied e (W _ _ e).1]; exact q)
  | @both1 n k f g _ e ih =>
    intro q
    refine ih ?_
    have ok := W _ _ e
    rw [bnd_both e ok.1.1 ok.2.1]
    have h1 := bnd_pos W g
    have : bnd S f * 1 ≤ bnd S f * bnd S g := Nat.mul_le_mul_left _ h1
    have q' : 300 < bnd S f := q
    omega
  | @both2 n k f g _ e ih =>
    intro q
    refine ih ?_
    have ok := W _ _ e
    rw [bnd_both e ok.1.1 ok.2.1]
    have h1 := bnd_pos W f
    have : 1 * bnd S g ≤ bnd S f * bnd S g := Nat.mul_le_mul_right _ h1
    have q' : 300 < bnd S g := q
    omega
  | @there n k f _ e ih =>
    intro q
    refine ih ?_
    rw [bnd_there e (W _ _ e).1]
    have q' : 300 < bnd S f := q
    rw [if_pos (by omega)]
    decide
/-! ### the depth -/
theorem thd_denied {S : List Ln} {n f : Nat} (e : S[n]? = some (.denied f)) (hf : f < n) : thd S n = thd S f := by
  rw [thd, e]; simp only [hf, if_true]
theorem thd_both {S : List Ln} {n f g : Nat} (e : S[n]? = some (.both f g)) (hf : f < n) (hg : g < n) : thd S n = max (thd S f) (thd S g) := by
  rw [thd, e]; simp only [hf, hg, if_true]
theorem thd_there {S : List Ln} {n f : Nat} (e : S[n]? = some (.there f)) (hf : f < n) : thd S n = thd S f + 1 := by
  rw [thd, e]; simp only [hf, if_true]
theorem us_depth {S : List Ln} (W : WF S) {t p : Nat × Nat} (h : Us S t p) : p.2 + thd S p.1 ≤ t.2 + thd S t.1 := by
  induction h with
  | top => exact Nat.le_refl _
  | denied _ e ih => rw [thd_denied e (W _ _ e).1] at ih; exact ih
  | both1 _ e ih => have ok := W _ _ e; rw [thd_both e ok.1.1 ok.2.1] at ih; dsimp only at ih ⊢; omega
  | both2 _ e ih => have ok := W _ _ e; rw [thd_both e ok.1.1 ok.2.1] at ih; dsimp only at ih ⊢; omega
  | there _ e ih => rw [thd_there e (W _ _ e).1] at ih; dsimp only at ih ⊢; omega
theorem us_kind {S : List Ln} (W : WF S) {t p : Nat × Nat} (h : Us S t p) (ht : KindAt S t.1 false) : KindAt S p.1 false := by
  induction h with
  | top => exact ht
  | denied _ e _ => exact (W _ _ e).2
  | both1 _ e _ => exact (W _ _ e).1.2
  | both2 _ e _ => exact (W _ _ e).2.2
  | there _ e _ => exact (W _ _ e).2
theorem us_le {S : List Ln} (W : WF S) {t p : Nat × Nat} (h : Us S t p) : p.1 ≤ t.1 := by
  induction h with
  | top => exact Nat.le_refl _
  | denied _ e ih => have := (W _ _ e).1; dsimp only at ih ⊢; omega
  | both1 _ e ih => have := (W _ _ e).1.1; dsimp only at ih ⊢; omega
  | both2 _ e ih => have := (W _ _ e).2.1; dsimp only at ih ⊢; omega
  | there _ e ih => have := (W _ _ e).1; dsimp only at ih ⊢; omega
/-- depth stays where lines are added behind -/
theorem get_app {S T : List Ln} {n : Nat} {l : Ln} (e : S[n]? = some l) : (S ++ T)[n]? = some l := by
  rw [List.getElem?_append_left (List.getElem?_eq_some_iff.mp e).1]; exact e
theorem thd_app {S T : List Ln} (W : WF S) : ∀ n, n < S.length → thd (S ++ T) n = thd S n := by
  intro n
  induction n using Nat.strongRecOn with
  | ind n ih =>
    intro hn
    have e : S[n]? = some S[n] := List.getElem?_eq_getElem hn
    generalize S[n] = l at e
    have ok := W n l e
    have e' := get_app (T := T) e
    cases l with
    | denied f => rw [thd_denied e ok.1, thd_denied e' ok.1]; exact ih f ok.1 (Nat.lt_trans ok.1 hn)
    | both f g => rw [thd_both e ok.1.1 ok.2.1, thd_both e' ok.1.1 ok.2.1, ih f ok.1.1 (Nat.lt_trans ok.1.1 hn), ih g ok.2.1 (Nat.lt_trans ok.2.1 hn)]
    | there f => rw [thd_there e ok.1, thd_there e' ok.1, ih f ok.1 (Nat.lt_trans ok.1 hn)]
    | _ => rw [thd, e', thd, e]
end Tw
set_option maxRecDepth 100000
set_option maxHeartbeats 2000000
/-! Dicts whose keys are of any kind, mixed (bools, ints, texts, tuples of such), told by NestedKey: True is 1. -/
namespace Tw
open PySem PySem.Spec PyProof.Rows L2

abbrev NKey := PySem.NestedKey
/-- an entry, by its key's data -/
abbrev Row := NKey × Value × Value
def entN (w : World) (x : Row) : DictEntry := ⟨x.1.hash w, x.2.1, x.2.2⟩
/-- at d stands a dict of the rows xs -/
structure DictN (w : World) (h : Heap) (d : Addr) (xs : List Row) : Prop where
  ex : ∃ o es ep, h.get? d = some o ∧ o.ExactDict ∧ o.data = .dict es ep ∧ es.toList = xs.map (entN w)
  nd : (xs.map (·.1)).Nodup
/-- each row's key is what it says -/
def KeysN (h : Heap) (xs : List Row) : Prop := ∀ x ∈ xs, NestedIs h x.1 x.2.1 ∧ x.1.depth ≤ 8
/-- where the key k stands -/
def ixN (xs : List Row) (k : NKey) : Option Nat := xs.findIdx? fun x => decide (x.1 = k)

theorem isStr_iff {h : Heap} {k : NKey} {v : Value} {x : Str} (hk : NestedIs h k v) : v.isStr x = decide (k = .text x) := by
  cases hk with
  | none => rfl
  | bool e => rfl
  | int i t => rfl
  | text y t =>
    show (y == x) = _
    by_cases e : y = x
    · subst e; simp
    · rw [decide_eq_false fun q => e (by injection q)]; simpa using e
  | tup _ _ _ _ => rfl
theorem ixN_none {xs : List Row} {k : NKey} (h : ixN xs k = none) : k ∉ xs.map (·.1) := fun hm => by
  obtain ⟨x, hx, e⟩ := List.mem_map.mp hm
  have := List.findIdx?_eq_none_iff.mp h x hx
  simp [e] at this
theorem ixN_some {xs : List Row} {k : NKey} {i : Nat} (h : ixN xs k = some i) : ∃ x, xs[i]? = some x ∧ x.1 = k := by
  obtain ⟨hi, p, _⟩ := List.findIdx?_eq_some_iff_getElem.mp h
  exact ⟨xs[i], List.getElem?_eq_getElem hi, by simpa using p⟩
theorem ixN_at {xs : List Row} (nd : (xs.map (·.1)).Nodup) {k : NKey} {i : Nat} {x : Row} (hx : xs[i]? = some x) (e : x.1 = k) : ixN xs k = some i := by
  cases h : ixN xs k with
  | none => exact absurd (List.mem_map.mpr ⟨x, List.mem_of_getElem? hx, e⟩) (ixN_none h)
  | some j =>
    obtain ⟨y, hy, e2⟩ := ixN_some h
    have h1 : (xs.map (·.1))[i]? = some k := by rw [List.getElem?_map, hx, ← e]; rfl
    have h2 : (xs.map (·.1))[j]? = some k := by rw [List.getElem?_map, hy, ← e2]; rfl
    rw [L2.nd_ix nd h1 h2]

section
variable {prog : Program} {w : World} {A : Around} {E : Value → Shared → Prop} {s : Shared} {d : Addr} {xs : List Row} {k : NKey} {key : Value}

theorem quiet_mem {stored : List Value} {Q : Bool → Shared → Prop} (hk : NestedIs s.heap k key) (hd : k.depth ≤ 8) (hst : ∀ v ∈ stored, ∃ k' : NKey, NestedIs s.heap k' v ∧ k'.depth ≤ 8) (h : Q false s) :
    wpAny (model prog w) A (tableMayTell key stored) Q E s := by
  unfold tableMayTell
  by_cases hs : stored.isEmpty = true
  · rw [if_pos hs]; exact wpAny_pure h
  · rw [if_neg hs]
    refine wpAny_bind (quiet_key k key 8 s hk hd A E _ ?_)
    simp only [Bool.not_true, Bool.false_eq_true, if_false]
    refine wpAny_bind (wpAny_forIn_list _ (fun rest r s' => (∀ v ∈ rest, ∃ k' : NKey, NestedIs s.heap k' v ∧ k'.depth ≤ 8) ∧ s' = s ∧ r = (none, ())) _ ?_ ?_ _ _ ⟨hst, rfl, rfl⟩)
    · rintro x rest r s' ⟨hr, rfl, rfl⟩
      obtain ⟨k', h1, h2⟩ := hr x (by simp)
      refine wpAny_bind (quiet_key k' x 8 s' h1 h2 A E _ ?_)
      simp only [Bool.not_true, Bool.false_eq_true, if_false]
      exact wpAny_pure ⟨fun v hv => hr v (by simp [hv]), rfl, rfl⟩
    · rintro r s' ⟨_, rfl, rfl⟩
      exact wpAny_pure h

/-- the search for a key -/
theorem find_N {Q : Option Nat → Shared → Prop} (hu : A.units + 8 < cLine) (hk : NestedIs s.heap k key) (hdp : k.depth ≤ 8) {o : Obj} {es : Array DictEntry} {ep : Nat} (ho : s.heap.get? d = some o) (hd : o.data = .dict es ep)
    (he : es.toList = xs.map (entN w)) (hK : KeysN s.heap xs) (nd : (xs.map (·.1)).Nodup) (hQ : Q (ixN xs k) s) : wpAny (model prog w) A (dictFind d key (k.hash w)) Q E s := by
  have at_ : ∀ i : Nat, es[i]? = (xs[i]?).map (entN w) := fun i => by rw [← Array.getElem?_toList, he, List.getElem?_map]
  have hsz : es.size = xs.length := by rw [← Array.length_toList, he, List.length_map]
  have hashAt : ∀ (i : Nat) (x : Row), xs[i]? = some x → (es[i]?).map (·.hash) = some (x.1.hash w) := fun i x hx => by rw [at_, hx]; rfl
  -- one comparison
  have ask : ∀ (x : Row) {R : Bool → Shared → Prop}, x ∈ xs → R (decide (x.1 = k)) s → wpAny (model prog w) A (eqBool x.2.1 key) R E s := fun x R hx hR =>
    eqAt_key x.1 k A s _ _ (hK x hx).1 hk (by omega) prog w E R (by rw [← NestedKey.decide_eq]; exact hR)
  -- what has been passed so far
  let rest_ : Nat → List Nat := fun i => (List.range' i (es.size - i)).filter fun i => (es[i]?.map (·.hash)) == some (k.hash w)
  have start_ : placesWithHash es.size (fun i => es[i]?.map (·.hash)) (k.hash w) = rest_ 0 := by
    show (List.range es.size).filter _ = _
    rw [List.range_eq_range']; rfl
  have noKey : ∀ (i : Nat) (x : Row), xs[i]? = some x → ((es[i]?.map (·.hash)) == some (k.hash w)) = false → ¬ x.1 = k := fun i x hx hf e => by
    rw [hashAt i x hx, e] at hf
    simp at hf
  have none_of : (∀ (j : Nat) (x : Row), xs[j]? = some x → ¬ x.1 = k) → ixN xs k = none := fun h => by
    refine List.findIdx?_eq_none_iff.mpr fun x hx => ?_
    obtain ⟨j, hj, e⟩ := List.getElem_of_mem hx
    simpa using h j x (by rw [List.getElem?_eq_getElem hj, e])
  have plain : wpAny (model prog w) A (dictWalkPlain d key (k.hash w) es (placesWithHash es.size (fun i => es[i]?.map (·.hash)) (k.hash w))) Q E s := by
    rw [start_]
    unfold dictWalkPlain
    refine wpAny_bind (wpAny_forIn_list _ (fun rest b s' => s' = s ∧ b = (none, ()) ∧ ∃ i, rest = rest_ i ∧ i ≤ es.size ∧ ∀ (j : Nat) (x : Row), j < i → xs[j]? = some x → ¬ x.1 = k) _ ?_ ?_ _ _
      ⟨rfl, rfl, 0, rfl, Nat.zero_le _, fun j x hj => absurd hj (Nat.not_lt_zero _)⟩)
    · rintro p rest b s' ⟨rfl, rfl, i, hr, hi, hno⟩
      obtain ⟨h1, h2, h3, h4, h5⟩ := filter_range'_cons _ _ _ _ _ hr.symm
      have hlt : p < xs.length := by omega
      have hx : xs[p]? = some xs[p] := List.getElem?_eq_getElem hlt
      generalize xs[p] = x at hx
      have before : ∀ (j : Nat) (y : Row), j < p → xs[j]? = some y → ¬ y.1 = k := fun j y hj hy => by
        by_cases q : j < i
        · exact hno j y q hy
        · exact noKey j y hy (h4 j (by omega) hj)
      have next : ¬ x.1 = k → ∃ i, rest = rest_ i ∧ i ≤ es.size ∧ ∀ (j : Nat) (x : Row), j < i → xs[j]? = some x → ¬ x.1 = k := fun hne =>
        ⟨p + 1, by rw [h5]; show _ = List.filter _ _; congr 2; omega, by omega, fun j y hj hy => by
          by_cases q : j < p
          · exact before j y q hy
          · have e : j = p := by omega
            rw [e, hx] at hy
            cases hy
            exact hne⟩
      have ex : es[p]? = some (entN w x) := by rw [at_, hx]; rfl
      rw [ex]
      dsimp only
      by_cases hh : ((entN w x).hash == k.hash w) = true
      · rw [if_pos hh]
        refine wpAny_bind (wpAny_dictEpoch ho hd (wpAny_bind (ask x (List.mem_of_getElem? hx) (wpAny_bind (wpAny_dictEpoch ho hd ?_)))))
        simp only [bne_self_eq_false, Bool.false_eq_true, if_false]
        by_cases hkk : x.1 = k
        · rw [decide_eq_true hkk]
          rw [ixN_at nd hx hkk] at hQ
          exact wpAny_bind (wpAny_rule (wpAny_pure (wpAny_pure hQ)))
        · rw [decide_eq_false hkk]
          exact wpAny_bind (wpAny_rule (wpAny_pure ⟨rfl, rfl, next hkk⟩))
      · rw [if_neg hh]
        refine wpAny_pure ⟨rfl, rfl, next fun e => ?_⟩
        rw [show (entN w x).hash = k.hash w by show x.1.hash w = _; rw [e]] at hh
        simp at hh
    · rintro b s' ⟨rfl, rfl, i, hr, hi, hno⟩
      have z : ixN xs k = none := none_of fun j y hy => by
        by_cases q : j < i
        · exact hno j y q hy
        · have hj := (List.getElem?_eq_some_iff.mp hy).1
          have := List.filter_eq_nil_iff.mp hr.symm j (List.mem_range'_1.mpr ⟨by omega, by omega⟩)
          exact noKey j y hy (by simpa using this)
      rw [z] at hQ
      exact wpAny_pure hQ
  unfold dictFind
  refine wpAny_holding (wpAny_bind (wpAny_dictEntries ho hd ?_))
  dsimp only
  generalize hst : (placesWithHash es.size (fun i => es[i]?.map (·.hash)) (k.hash w)).filterMap (fun i => es[i]?.map (·.key)) = stored
  have findS : ∀ (x : Str), k = .text x → es.findIdx? (fun e => e.key.isStr x) = ixN xs k := fun x ek => by
    have e0 : es = (xs.map (entN w)).toArray := by rw [← he, Array.toArray_toList]
    rw [e0, List.findIdx?_toArray, List.findIdx?_map]
    unfold ixN
    have e1 : ∀ (l : List Row), (∀ y ∈ l, y ∈ xs) → l.findIdx? ((fun e : DictEntry => e.key.isStr x) ∘ entN w) = l.findIdx? fun y => decide (y.1 = k) := by
      intro l
      induction l with
      | nil => intro _; rfl
      | cons y l ih =>
        intro hl
        have q : ((fun e : DictEntry => e.key.isStr x) ∘ entN w) y = decide (y.1 = k) := by
          show y.2.1.isStr x = _
          rw [isStr_iff (hK y (hl y (by simp))).1, ek]
        rw [List.findIdx?_cons, List.findIdx?_cons, ih fun z hz => hl z (by simp [hz]), q]
    exact e1 xs fun y hy => hy
  have stq : ∀ v ∈ stored, ∃ k' : NKey, NestedIs s.heap k' v ∧ k'.depth ≤ 8 := fun v hv => by
    rw [← hst] at hv
    obtain ⟨i, _, hi⟩ := List.mem_filterMap.mp hv
    rw [at_] at hi
    cases hx : xs[i]? with
    | none => rw [hx] at hi; cases hi
    | some x =>
      rw [hx] at hi
      have e : x.2.1 = v := by simpa [entN] using hi
      rw [← e]
      exact ⟨x.1, hK x (List.mem_of_getElem? hx)⟩
  have noAny : ¬ (es.any fun e => e.key == key && e.hash != k.hash w) = true := by
    rw [← Array.any_toList, he, List.any_eq_true]
    rintro ⟨e, hin, hc⟩
    obtain ⟨x, hx, rfl⟩ := List.mem_map.mp hin
    simp only [entN, Bool.and_eq_true, beq_iff_eq, bne_iff_ne, ne_eq] at hc
    have h1 := (hK x hx).1
    rw [hc.1] at h1
    exact hc.2 (by rw [NestedIs.inj _ _ _ h1 hk])
  have go : wpAny (model prog w) A (if (stored == [key]) = true then pure false else tableMayTell key stored) (fun b s' => b = false ∧ s' = s) E s := by
    split
    · exact wpAny_pure ⟨rfl, rfl⟩
    · exact quiet_mem hk hdp stq ⟨rfl, rfl⟩
  have tail : ∀ {rest : Bool → Sem (Option Nat)}, wpAny (model prog w) A (rest false) Q E s → wpAny (model prog w) A (if (stored == [key]) = true then (pure false >>= rest) else (tableMayTell key stored >>= rest)) Q E s := fun {rest} h => by
    split
    · exact wpAny_bind (wpAny_pure h)
    · exact wpAny_bind (quiet_mem hk hdp stq h)
  split
  · rename_i x t
    have ek : k = .text x := by cases hk; rfl
    by_cases hex : (es.all fun e => isExactStrKey e.key) = true
    · rw [if_pos hex]
      unfold foundByValue
      rw [findS x ek]
      cases hx : ixN xs k with
      | none =>
        rw [hx] at hQ
        exact wpAny_pure hQ
      | some i =>
        rw [hx] at hQ
        obtain ⟨y, hy, e2⟩ := ixN_some hx
        have ey : es[i]? = some (entN w y) := by rw [at_, hy]; rfl
        dsimp only
        rw [ey]
        dsimp only
        refine wpAny_bind (wpAny_dictEpoch ho hd (wpAny_bind (ask y (List.mem_of_getElem? hy) (wpAny_bind (wpAny_dictEpoch ho hd ?_)))))
        simp only [bne_self_eq_false, Bool.false_eq_true, if_false]
        rw [decide_eq_true e2]
        exact wpAny_bind (wpAny_rule (wpAny_pure hQ))
    · rw [if_neg hex]
      by_cases hall : (Value.str x t :: stored).all carriedByValue = true
      · rw [if_pos hall]; exact plain
      · rw [if_neg hall]
        dsimp only
        all_goals (try rw [if_neg noAny])
        all_goals refine tail ?_
        all_goals rw [start_]
        all_goals simp only [Bool.false_and, Bool.false_eq_true, if_false]
        all_goals (
      refine wpAny_bind (wpAny_forIn_list _ (fun rest b s' => s' = s ∧ ∃ i hit, b = (none, hit) ∧ rest = rest_ i ∧ i ≤ es.size ∧
        ((hit = none ∧ ∀ (j : Nat) (x : Row), j < i → xs[j]? = some x → ¬ x.1 = k) ∨ (∃ j x, hit = some j ∧ j < i ∧ xs[j]? = some x ∧ x.1 = k))) _ ?_ ?_ _ _
        ⟨rfl, 0, none, rfl, rfl, Nat.zero_le _, .inl ⟨rfl, fun j x hj => absurd hj (Nat.not_lt_zero _)⟩⟩)
      · rintro p rest b s' ⟨rfl, i, hit, rfl, hr, hi, hH⟩
        obtain ⟨h1, h2, h3, h4, h5⟩ := filter_range'_cons _ _ _ _ _ hr.symm
        have hlt : p < xs.length := by omega
        have hx : xs[p]? = some xs[p] := List.getElem?_eq_getElem hlt
        generalize xs[p] = x at hx
        have hrest : rest = rest_ (p + 1) := by rw [h5]; show _ = List.filter _ _; congr 2; omega
        have far : ∀ (j : Nat) (y : Row), j < p → (∀ (j : Nat) (x : Row), j < i → xs[j]? = some x → ¬ x.1 = k) → xs[j]? = some y → ¬ y.1 = k := fun j y hj hno hy => by
          by_cases q : j < i
          · exact hno j y q hy
          · exact noKey j y hy (h4 j (by omega) hj)
        have stay : ¬ x.1 = k → ((hit = none ∧ ∀ (j : Nat) (x : Row), j < p + 1 → xs[j]? = some x → ¬ x.1 = k) ∨ (∃ j x, hit = some j ∧ j < p + 1 ∧ xs[j]? = some x ∧ x.1 = k)) := fun hne => by
          rcases hH with ⟨e0, hno⟩ | ⟨j, y, e1, hj, hy, e2⟩
          · refine .inl ⟨e0, fun j y hj hy => ?_⟩
            by_cases q : j < p
            · exact far j y q hno hy
            · have e : j = p := by omega
              rw [e, hx] at hy
              cases hy
              exact hne
          · exact .inr ⟨j, y, e1, by omega, hy, e2⟩
        have ex : es[p]? = some (entN w x) := by rw [at_, hx]; rfl
        rw [ex]
        dsimp only
        by_cases hh : ((entN w x).hash == k.hash w) = true
        · rw [if_pos hh]
          refine wpAny_bind (wpAny_dictEpoch ho hd (wpAny_bind (ask x (List.mem_of_getElem? hx) (wpAny_bind (wpAny_dictEpoch ho hd ?_)))))
          simp only [bne_self_eq_false, Bool.false_eq_true, if_false]
          by_cases hkk : x.1 = k
          · rw [decide_eq_true hkk]
            have hit0 : hit = none := by
              rcases hH with ⟨e0, _⟩ | ⟨j, y, e1, hj, hy, e2⟩
              · exact e0
              · have q1 := ixN_at nd hy e2
                rw [ixN_at nd hx hkk] at q1
                have : p = j := by injection q1
                omega
            subst hit0
            simp only [if_true, Option.isSome_none, Bool.false_eq_true, if_false]
            refine wpAny_bind (wpAny_rule ?_)
            have hQ' := hQ
            rw [ixN_at nd hx hkk] at hQ'
            split
            · exact wpAny_pure (wpAny_pure hQ')
            · exact wpAny_pure ⟨rfl, p + 1, some p, rfl, hrest, by omega, .inr ⟨p, x, rfl, Nat.lt_succ_self p, hx, hkk⟩⟩
          · rw [decide_eq_false hkk]
            simp only [Bool.false_eq_true, if_false]
            refine wpAny_bind (wpAny_rule ?_)
            first
              | exact wpAny_pure ⟨rfl, p + 1, hit, rfl, hrest, by omega, stay hkk⟩
              | exact wpAny_bind (wpAny_pure (wpAny_pure ⟨rfl, p + 1, hit, rfl, hrest, by omega, stay hkk⟩))
        · rw [if_neg hh]
          refine wpAny_pure ⟨rfl, p + 1, hit, rfl, hrest, by omega, stay fun e => ?_⟩
          rw [show (entN w x).hash = k.hash w by show x.1.hash w = _; rw [e]] at hh
          simp at hh
      · rintro b s' ⟨rfl, i, hit, rfl, hr, hi, hH⟩
        rcases hH with ⟨rfl, hno⟩ | ⟨j, y, rfl, hj, hy, e2⟩
        · have z : ixN xs k = none := none_of fun j y hy => by
            by_cases q : j < i
            · exact hno j y q hy
            · have hj := (List.getElem?_eq_some_iff.mp hy).1
              have := List.filter_eq_nil_iff.mp hr.symm j (List.mem_range'_1.mpr ⟨by omega, by omega⟩)
              exact noKey j y hy (by simpa using this)
          rw [z] at hQ
          exact wpAny_pure hQ
        · rw [ixN_at nd hy e2] at hQ
          exact wpAny_pure hQ)
  · by_cases hall : (key :: stored).all carriedByValue = true
    · rw [if_pos hall]; exact plain
    · rw [if_neg hall]
      split
      all_goals (try rw [if_neg noAny])
      all_goals refine tail ?_
      all_goals rw [start_]
      all_goals simp only [Bool.false_and, Bool.false_eq_true, if_false]
      all_goals (
    refine wpAny_bind (wpAny_forIn_list _ (fun rest b s' => s' = s ∧ ∃ i hit, b = (none, hit) ∧ rest = rest_ i ∧ i ≤ es.size ∧
      ((hit = none ∧ ∀ (j : Nat) (x : Row), j < i → xs[j]? = some x → ¬ x.1 = k) ∨ (∃ j x, hit = some j ∧ j < i ∧ xs[j]? = some x ∧ x.1 = k))) _ ?_ ?_ _ _
      ⟨rfl, 0, none, rfl, rfl, Nat.zero_le _, .inl ⟨rfl, fun j x hj => absurd hj (Nat.not_lt_zero _)⟩⟩)
    · rintro p rest b s' ⟨rfl, i, hit, rfl, hr, hi, hH⟩
      obtain ⟨h1, h2, h3, h4, h5⟩ := filter_range'_cons _ _ _ _ _ hr.symm
      have hlt : p < xs.length := by omega
      have hx : xs[p]? = some xs[p] := List.getElem?_eq_getElem hlt
      generalize xs[p] = x at hx
      have hrest : rest = rest_ (p + 1) := by rw [h5]; show _ = List.filter _ _; congr 2; omega
      have far : ∀ (j : Nat) (y : Row), j < p → (∀ (j : Nat) (x : Row), j < i → xs[j]? = some x → ¬ x.1 = k) → xs[j]? = some y → ¬ y.1 = k := fun j y hj hno hy => by
        by_cases q : j < i
        · exact hno j y q hy
        · exact noKey j y hy (h4 j (by omega) hj)
      have stay : ¬ x.1 = k → ((hit = none ∧ ∀ (j : Nat) (x : Row), j < p + 1 → xs[j]? = some x → ¬ x.1 = k) ∨ (∃ j x, hit = some j ∧ j < p + 1 ∧ xs[j]? = some x ∧ x.1 = k)) := fun hne => by
        rcases hH with ⟨e0, hno⟩ | ⟨j, y, e1, hj, hy, e2⟩
        · refine .inl ⟨e0, fun j y hj hy => ?_⟩
          by_cases q : j < p
          · exact far j y q hno hy
          · have e : j = p := by omega
            rw [e, hx] at hy
            cases hy
            exact hne
        · exact .inr ⟨j, y, e1, by omega, hy, e2⟩
      have ex : es[p]? = some (entN w x) := by rw [at_, hx]; rfl
      rw [ex]
      dsimp only
      by_cases hh : ((entN w x).hash == k.hash w) = true
      · rw [if_pos hh]
        refine wpAny_bind (wpAny_dictEpoch ho hd (wpAny_bind (ask x (List.mem_of_getElem? hx) (wpAny_bind (wpAny_dictEpoch ho hd ?_)))))
        simp only [bne_self_eq_false, Bool.false_eq_true, if_false]
        by_cases hkk : x.1 = k
        · rw [decide_eq_true hkk]
          have hit0 : hit = none := by
            rcases hH with ⟨e0, _⟩ | ⟨j, y, e1, hj, hy, e2⟩
            · exact e0
            · have q1 := ixN_at nd hy e2
              rw [ixN_at nd hx hkk] at q1
              have : p = j := by injection q1
              omega
          subst hit0
          simp only [if_true, Option.isSome_none, Bool.false_eq_true, if_false]
          refine wpAny_bind (wpAny_rule ?_)
          have hQ' := hQ
          rw [ixN_at nd hx hkk] at hQ'
          split
          · exact wpAny_pure (wpAny_pure hQ')
          · exact wpAny_pure ⟨rfl, p + 1, some p, rfl, hrest, by omega, .inr ⟨p, x, rfl, Nat.lt_succ_self p, hx, hkk⟩⟩
        · rw [decide_eq_false hkk]
          simp only [Bool.false_eq_true, if_false]
          refine wpAny_bind (wpAny_rule ?_)
          first
            | exact wpAny_pure ⟨rfl, p + 1, hit, rfl, hrest, by omega, stay hkk⟩
            | exact wpAny_bind (wpAny_pure (wpAny_pure ⟨rfl, p + 1, hit, rfl, hrest, by omega, stay hkk⟩))
      · rw [if_neg hh]
        refine wpAny_pure ⟨rfl, p + 1, hit, rfl, hrest, by omega, stay fun e => ?_⟩
        rw [show (entN w x).hash = k.hash w by show x.1.hash w = _; rw [e]] at hh
        simp at hh
    · rintro b s' ⟨rfl, i, hit, rfl, hr, hi, hH⟩
      rcases hH with ⟨rfl, hno⟩ | ⟨j, y, rfl, hj, hy, e2⟩
      · have z : ixN xs k = none := none_of fun j y hy => by
          by_cases q : j < i
          · exact hno j y q hy
          · have hj := (List.getElem?_eq_some_iff.mp hy).1
            have := List.filter_eq_nil_iff.mp hr.symm j (List.mem_range'_1.mpr ⟨by omega, by omega⟩)
            exact noKey j y hy (by simpa using this)
        rw [z] at hQ
        exact wpAny_pure hQ
      · rw [ixN_at nd hy e2] at hQ
        exact wpAny_pure hQ)

theorem DictN.typeIs (D : DictN w s.heap d xs) : s.TypeIs (.ref d) "dict" := by
  obtain ⟨o, es, ep, ho, hc, _⟩ := D.ex
  exact ⟨o, ho, hc.1⟩
/-- what stands with the key k -/
def valN (xs : List Row) (k : NKey) : Option Value := ((ixN xs k).bind fun i => xs[i]?).map (·.2.2)
theorem valN_of (nd : (xs.map (·.1)).Nodup) {x : Row} (hx : x ∈ xs) : valN xs x.1 = some x.2.2 := by
  obtain ⟨i, hi, e⟩ := List.getElem_of_mem hx
  have h1 : xs[i]? = some x := by rw [List.getElem?_eq_getElem hi, e]
  unfold valN
  rw [ixN_at nd h1 rfl]
  simp [h1]
theorem valN_none (h : k ∉ xs.map (·.1)) : valN xs k = none := by
  unfold valN
  cases e : ixN xs k with
  | none => rfl
  | some i =>
    obtain ⟨x, hx, e2⟩ := ixN_some e
    exact absurd (List.mem_map.mpr ⟨x, List.mem_of_getElem? hx, e2⟩) h
theorem get_N {Q : Option Value → Shared → Prop} (hu : A.units + 8 < cLine) (hk : NestedIs s.heap k key) (hdp : k.depth ≤ 8) (D : DictN w s.heap d xs) (hK : KeysN s.heap xs)
    (hQ : Q (valN xs k) { s with toks := s.toks + k.draws }) : wpAny (model prog w) A (dictGet d key) Q E s := by
  obtain ⟨⟨o, es, ep, ho, hc, hd, he⟩, nd⟩ := D
  unfold dictGet
  refine wpAny_holding (wpAny_bind (pyHash_key k key A s _ hk (by omega) (wpAny_bind (find_N (s := { s with toks := s.toks + k.draws }) hu hk hdp ho hd he hK nd ?_))))
  unfold valN at hQ
  cases e : ixN xs k with
  | none =>
    rw [e] at hQ
    exact wpAny_pure hQ
  | some i =>
    obtain ⟨x, hx, _⟩ := ixN_some e
    rw [e] at hQ
    simp only [Option.bind_some, hx, Option.map_some] at hQ
    refine wpAny_bind (wpAny_dictEntries (s := { s with toks := s.toks + k.draws }) ho hd (wpAny_pure ?_))
    have h1 : es[i]? = some (entN w x) := by rw [← Array.getElem?_toList, he, List.getElem?_map, hx]; rfl
    rw [h1]
    exact hQ
/-- a new key is laid behind the others -/
theorem set_N {v : Value} {Q : Unit → Shared → Prop} (hu : A.units + 8 < cLine) (hk : NestedIs s.heap k key) (hdp : k.depth ≤ 8) (D : DictN w s.heap d xs) (hK : KeysN s.heap xs) (hn : k ∉ xs.map (·.1)) (hz : xs.length ≤ sizeLine)
    (hQ : ∀ h', DictN w h' d (xs ++ [(k, key, v)]) → Heap.SameBut d s.heap h' → Q () { s with heap := h', toks := s.toks + k.draws }) : wpAny (model prog w) A (dictSet d key v) Q E s := by
  obtain ⟨⟨o, es, ep, ho, hc, hd, he⟩, nd⟩ := D
  have hsz : es.size = xs.length := by rw [← Array.length_toList, he, List.length_map]
  have hx : ixN xs k = none := by
    cases e : ixN xs k with
    | none => rfl
    | some i =>
      obtain ⟨x, hx, e2⟩ := ixN_some e
      exact absurd (List.mem_map.mpr ⟨x, List.mem_of_getElem? hx, e2⟩) hn
  unfold dictSet
  refine wpAny_holding (wpAny_bind (pyHash_key k key A s _ hk (by omega) ?_))
  unfold dictSetHashed
  refine wpAny_holding (wpAny_bind (find_N (s := { s with toks := s.toks + k.draws }) hu hk hdp ho hd he hK nd ?_))
  rw [hx]
  refine wpAny_bind (wpAny_rule (wpAny_updateDictKeys (hz := by omega) (s := { s with toks := s.toks + k.draws }) ho hd (hQ _ ⟨⟨_, _, ep + 1, Heap.get?_update_self _ ho (Obj.isFreed_of_dict (Obj.data_mapDictKeys hd _)), hc.mapDictKeys _, Obj.data_mapDictKeys hd _, ?_⟩, ?_⟩ (Heap.SameBut.update ..))))
  · simp [he, entN]
  · rw [List.map_append, List.nodup_append]
    refine ⟨nd, by simp, ?_⟩
    intro a ha b hb e
    simp only [List.map_cons, List.map_nil, List.mem_singleton] at hb
    exact hn (by rw [← hb, ← e]; exact ha)

/-! ### by values: x in d, x not in d, d[x], d[x] = v -/
theorem in_N {Q : Value → Shared → Prop} (hu : A.units + 9 < cLine) (hk : NestedIs s.heap k key) (hdp : k.depth ≤ 8) (hm : (d == sysModules) = false) (D : DictN w s.heap d xs) (hK : KeysN s.heap xs)
    (h : Q (.bool (decide (k ∈ xs.map (·.1)))) { s with toks := s.toks + k.draws }) : wpAny (model prog w) A (compareOp .In key (.ref d)) Q E s := by
  refine wpAny_bind ?_
  unfold contains
  refine wpAny_holding (wpAny_bind (wpAny_specialOf D.typeIs slot_dict_contains.lookup ?_))
  dsimp only
  rw [if_neg (by rw [beq_builtin_none]; exact Bool.false_ne_true)]
  refine wpAny_bind (wpAny_callSpecialUnlessNone?_slot (name := Str.ofString "__contains__") D.typeIs slot_dict_contains (wpAny_call_entry slot_dict_contains D.typeIs entry_dict_contains ?_ (args_dict_contains _ _)))
  show wpAny _ _ (dictGet d key >>= _) _ _ s
  refine wpAny_bind (get_N (A := A.in1) (by rw [Around.in1_units]; omega) hk hdp D hK ?_)
  by_cases hin : k ∈ xs.map (·.1)
  · obtain ⟨x, hx, rfl⟩ := List.mem_map.mp hin
    rw [valN_of D.nd hx]
    rw [decide_eq_true hin] at h
    exact wpAny_pure ⟨_, rfl, wpAny_truthy_bool (wpAny_pure h)⟩
  · rw [valN_none hin]
    rw [decide_eq_false hin] at h
    dsimp only
    exact wpAny_bind (wpAny_pendingKey_other hm (wpAny_pure ⟨_, rfl, wpAny_truthy_bool (wpAny_pure h)⟩))
theorem notIn_N {Q : Value → Shared → Prop} (hu : A.units + 9 < cLine) (hk : NestedIs s.heap k key) (hdp : k.depth ≤ 8) (hm : (d == sysModules) = false) (D : DictN w s.heap d xs) (hK : KeysN s.heap xs)
    (h : Q (.bool (!decide (k ∈ xs.map (·.1)))) { s with toks := s.toks + k.draws }) : wpAny (model prog w) A (compareOp .NotIn key (.ref d)) Q E s := by
  refine wpAny_bind ?_
  unfold contains
  refine wpAny_holding (wpAny_bind (wpAny_specialOf D.typeIs slot_dict_contains.lookup ?_))
  dsimp only
  rw [if_neg (by rw [beq_builtin_none]; exact Bool.false_ne_true)]
  refine wpAny_bind (wpAny_callSpecialUnlessNone?_slot (name := Str.ofString "__contains__") D.typeIs slot_dict_contains (wpAny_call_entry slot_dict_contains D.typeIs entry_dict_contains ?_ (args_dict_contains _ _)))
  show wpAny _ _ (dictGet d key >>= _) _ _ s
  refine wpAny_bind (get_N (A := A.in1) (by rw [Around.in1_units]; omega) hk hdp D hK ?_)
  by_cases hin : k ∈ xs.map (·.1)
  · obtain ⟨x, hx, rfl⟩ := List.mem_map.mp hin
    rw [valN_of D.nd hx]
    rw [decide_eq_true hin] at h
    exact wpAny_pure ⟨_, rfl, wpAny_truthy_bool (wpAny_pure h)⟩
  · rw [valN_none hin]
    rw [decide_eq_false hin] at h
    dsimp only
    exact wpAny_bind (wpAny_pendingKey_other hm (wpAny_pure ⟨_, rfl, wpAny_truthy_bool (wpAny_pure h)⟩))
theorem item_N {v : Value} {Q : Value → Shared → Prop} (hu : A.units + 9 < cLine) (hk : NestedIs s.heap k key) (hdp : k.depth ≤ 8) (D : DictN w s.heap d xs) (hK : KeysN s.heap xs) (hv : valN xs k = some v)
    (h : Q v { s with toks := s.toks + k.draws }) : wpAny (model prog w) A (getItem (.ref d) key) Q E s := by
  unfold getItem
  refine wpAny_holding (wpAny_bind (wpAny_sequenceKey D.typeIs (by decide) ?_))
  refine wpAny_bind (wpAny_callSpecial?_slot (name := Str.ofString "__getitem__") D.typeIs slot_dict_getitem (wpAny_call_entry slot_dict_getitem D.typeIs entry_dict_getitem ?_ (args_dict_getitem _ _)))
  show wpAny _ _ (dictGet d key >>= _) _ _ s
  refine wpAny_bind (get_N (A := A.in1) (by rw [Around.in1_units]; omega) hk hdp D hK ?_)
  rw [hv]
  exact wpAny_pure ⟨v, rfl, wpAny_pure h⟩
theorem store_N {v : Value} {Q : Unit → Shared → Prop} (hu : A.units + 9 < cLine) (hk : NestedIs s.heap k key) (hdp : k.depth ≤ 8) (D : DictN w s.heap d xs) (hK : KeysN s.heap xs) (hn : k ∉ xs.map (·.1)) (hz : xs.length ≤ sizeLine)
    (hQ : ∀ h', DictN w h' d (xs ++ [(k, key, v)]) → Heap.SameBut d s.heap h' → Q () { s with heap := h', toks := s.toks + k.draws }) : wpAny (model prog w) A (setItem (.ref d) key v) Q E s := by
  unfold setItem
  refine wpAny_holding (wpAny_bind (wpAny_sequenceKey D.typeIs (by decide) ?_))
  refine wpAny_bind (wpAny_callSpecial?_slot (name := Str.ofString "__setitem__") D.typeIs slot_dict_setitem (wpAny_call_entry slot_dict_setitem D.typeIs entry_dict_setitem ?_ (args_dict_setitem _ _ _)))
  show wpAny _ _ (Builtin.Dict.notOrdered _ _ >>= _) _ _ s
  refine wpAny_bind (wpAny_notOrdered_dict D.typeIs ?_)
  show wpAny _ _ (dictSet d key v >>= _) _ _ s
  exact wpAny_bind (set_N (A := A.in1) (by rw [Around.in1_units]; omega) hk hdp D hK hn hz fun h' D' hs => wpAny_pure ⟨.none, rfl, wpAny_pure (hQ h' D' hs)⟩)
end
end Tw
set_option maxRecDepth 100000
set_option maxHeartbeats 2000000
/-! Dicts with keys of any kind, over the abstract heap: what a key is (KeyV), the tracked dict (DN), its rules. -/
namespace Tw
open PySem PySem.Spec PyProof.Rows L2

/-! ### keys in the abstract heap -/
mutual
inductive KeyV (H : Hp) : NKey → V → Prop
  | bool {b i} : i = (if b = true then 1 else 0) → KeyV H (.num i) (.bl b)
  | int (i) : KeyV H (.num i) (.int i)
  | text (x) : KeyV H (.text x) (.str x)
  | tup {a vs ks} : H a = some (.tup vs) → KeyVs H ks vs → KeyV H (.tup ks) (.ref a)
inductive KeyVs (H : Hp) : List NKey → List V → Prop
  | nil : KeyVs H [] []
  | cons {k v ks vs} : KeyV H k v → KeyVs H ks vs → KeyVs H (k :: ks) (v :: vs)
end
mutual
theorem KeyV.mono {H H' : Hp} (e : ∀ a vs, H a = some (.tup vs) → H' a = some (.tup vs)) : ∀ (k : NKey) (v : V), KeyV H k v → KeyV H' k v
  | .none, _, h => nomatch h
  | .num _, _, h => by
    cases h with
    | bool q => exact .bool q
    | int _ => exact .int _
  | .text _, _, h => by cases h; exact .text _
  | .tup ks, _, h => by
    cases h with
    | tup h1 h2 => exact .tup (e _ _ h1) (KeyVs.mono e ks _ h2)
theorem KeyVs.mono {H H' : Hp} (e : ∀ a vs, H a = some (.tup vs) → H' a = some (.tup vs)) : ∀ (ks : List NKey) (vs : List V), KeyVs H ks vs → KeyVs H' ks vs
  | [], _, h => by cases h; exact .nil
  | k :: ks, _, h => by
    cases h with
    | cons h1 h2 => exact .cons (KeyV.mono e k _ h1) (KeyVs.mono e ks _ h2)
end
mutual
theorem KeyV.raw {P : Program} {w : World} {H : Hp} {h : Heap} (ok : HOk P w H h) : ∀ (k : NKey) (v : V) (u : Value), KeyV H k v → RelV v u → NestedIs h k u
  | .none, _, _, q, _ => nomatch q
  | .num _, _, _, q, r => by
    cases q with
    | bool e => cases r; exact .bool e
    | int _ => obtain ⟨t, rfl⟩ := r; exact .int _ t
  | .text _, _, _, q, r => by cases q; obtain ⟨t, rfl⟩ := r; exact .text _ t
  | .tup ks, _, _, q, r => by
    cases q with
    | tup h1 h2 =>
      cases r
      obtain ⟨_, its, rv, o, ho, hc, n, hd⟩ := (ok _ _ h1 : ObjOk P w H h _ (.tup _))
      exact .tup ho hc hd (KeyVs.raw ok ks _ its h2 rv)
theorem KeyVs.raw {P : Program} {w : World} {H : Hp} {h : Heap} (ok : HOk P w H h) : ∀ (ks : List NKey) (vs : List V) (us : List Value), KeyVs H ks vs → Vals vs us → NestedAll h ks us
  | [], _, _, q, r => by cases q; cases r; exact .nil
  | k :: ks, _, _, q, r => by
    cases q with
    | cons q1 q2 =>
      cases r with
      | cons r1 r2 => exact .cons (KeyV.raw ok k _ _ q1 r1) (KeyVs.raw ok ks _ _ q2 r2)
end
theorem keyVs_ints {H : Hp} : ∀ ns : List Int, KeyVs H (ns.map NestedKey.num) (ns.map V.int)
  | [] => .nil
  | n :: ns => .cons (.int n) (keyVs_ints ns)

/-! ### the tracked dict -/
abbrev RowV := NKey × V × V
abbrev RelX : List RowV → List Row → Prop := Paired fun p q => p.1 = q.1 ∧ RelV p.2.1 q.2.1 ∧ RelV p.2.2 q.2.2
/-- the dict at a -/
def DN (w : World) (a : Addr) (kvs : List RowV) : HO := .ext fun h => kvs.length ≤ sizeLine ∧ (a == sysModules) = false ∧ ∃ xs, RelX kvs xs ∧ DictN w h a xs
def KeysV (H : Hp) (kvs : List RowV) : Prop := ∀ x ∈ kvs, KeyV H x.1 x.2.1 ∧ x.1.depth ≤ 8
theorem KeysV.mono {H H' : Hp} {kvs : List RowV} (h : KeysV H kvs) (e : ∀ a vs, H a = some (.tup vs) → H' a = some (.tup vs)) : KeysV H' kvs := fun x hx => ⟨KeyV.mono e _ _ (h x hx).1, (h x hx).2⟩
theorem KeysV.nil {H : Hp} : KeysV H [] := fun x h => by simp at h
theorem KeysV.snoc {H : Hp} {kvs : List RowV} {x : RowV} (h : KeysV H kvs) (hx : KeyV H x.1 x.2.1) (hd : x.1.depth ≤ 8) : KeysV H (kvs ++ [x]) := fun y hy => by
  rcases List.mem_append.mp hy with q | q
  · exact h y q
  · rw [List.mem_singleton.mp q]; exact ⟨hx, hd⟩
theorem DictN.at {w : World} {h h' : Heap} {a : Addr} {xs : List Row} (D : DictN w h a xs) (k : ∀ o, h.get? a = some o → h'.get? a = some o) : DictN w h' a xs := by
  obtain ⟨⟨o, es, ep, ho, r⟩, nd⟩ := D
  exact ⟨⟨o, es, ep, k o ho, r⟩, nd⟩
theorem DN_new {P : Program} {w : World} {H : Hp} {h : Heap} {a : Addr} {kvs : List RowV} {xs : List Row} (z : kvs.length ≤ sizeLine) (hm : (a == sysModules) = false) (r : RelX kvs xs) (D : DictN w h a xs) : ObjOk P w H h a (DN w a kvs) := by
  have ⟨⟨o, es, ep, ho, _⟩, _⟩ := D
  exact ⟨⟨z, hm, xs, r, D⟩, ⟨o, ho⟩, fun h1 h2 ⟨z, hm, xs, r, D⟩ k => ⟨z, hm, xs, r, D.at k⟩⟩
theorem DN_ne_tup {w : World} {a : Addr} {kvs : List RowV} {vs : List V} : DN w a kvs ≠ .tup vs := fun e => by unfold DN at e; cases e
theorem relX_keys {kvs : List RowV} {xs : List Row} (r : RelX kvs xs) : xs.map (·.1) = kvs.map (·.1) := by
  induction r with
  | nil => rfl
  | cons h _ ih => rw [List.map_cons, List.map_cons, ih, h.1]
theorem relX_mem {kvs : List RowV} {xs : List Row} (r : RelX kvs xs) {x : RowV} (hx : x ∈ kvs) : ∃ y ∈ xs, x.1 = y.1 ∧ RelV x.2.1 y.2.1 ∧ RelV x.2.2 y.2.2 := by
  induction r with
  | nil => simp at hx
  | cons h _ ih =>
    rcases List.mem_cons.mp hx with rfl | hx
    · exact ⟨_, by simp, h⟩
    · obtain ⟨y, hy, q⟩ := ih hx
      exact ⟨y, by simp [hy], q⟩
theorem relX_get {kvs : List RowV} {xs : List Row} (r : RelX kvs xs) {i : Nat} {y : Row} (hy : xs[i]? = some y) : ∃ x, kvs[i]? = some x ∧ x.1 = y.1 ∧ RelV x.2.1 y.2.1 ∧ RelV x.2.2 y.2.2 := by
  induction r generalizing i with
  | nil => simp at hy
  | cons h _ ih =>
    cases i with
    | zero => simp only [List.getElem?_cons_zero, Option.some.injEq] at hy ⊢; subst hy; exact ⟨_, rfl, h⟩
    | succ i => simp only [List.getElem?_cons_succ] at hy ⊢; exact ih hy
theorem relX_snoc {kvs : List RowV} {xs : List Row} {x : RowV} {y : Row} (r : RelX kvs xs) (h : x.1 = y.1 ∧ RelV x.2.1 y.2.1 ∧ RelV x.2.2 y.2.2) : RelX (kvs ++ [x]) (xs ++ [y]) := by
  induction r with
  | nil => exact .cons h .nil
  | cons h' _ ih => exact .cons h' ih

section
variable {X : Cx} {pins : List (Addr × Obj)} {σ : L2.St} {H : Hp} {s : Shared} {a : Addr} {kvs : List RowV}
theorem DN_get (I : Inv X pins σ H s) (ha : H a = some (DN X.w a kvs)) : kvs.length ≤ sizeLine ∧ (a == sysModules) = false ∧ ∃ xs, RelX kvs xs ∧ DictN X.w s.heap a xs := (I.hok a _ ha).1
theorem keysN_of (I : Inv X pins σ H s) {xs : List Row} (r : RelX kvs xs) (hK : KeysV H kvs) : KeysN s.heap xs := fun y hy => by
  obtain ⟨i, hi, e⟩ := List.getElem_of_mem hy
  obtain ⟨x, hx, h1, h2, h3⟩ := relX_get r (i := i) (y := y) (by rw [List.getElem?_eq_getElem hi, e])
  have q := hK x (List.mem_of_getElem? hx)
  rw [← h1]
  exact ⟨KeyV.raw I.hok _ _ _ q.1 h2, q.2⟩

/-- x in d, x not in d -/
def rInN (w : World) (neg : Bool) : R2 := fun x y H Q => ∃ a kvs k, y = .ref a ∧ H a = some (DN w a kvs) ∧ KeysV H kvs ∧ KeyV H k x ∧ k.depth ≤ 8 ∧ Q (.bl (if neg then !decide (k ∈ kvs.map (·.1)) else decide (k ∈ kvs.map (·.1)))) H
theorem op_inN (hu : X.A.units + 64 < cLine) : OpR X (compareOp .In) (rInN X.w false) := by
  intro pins s σ H x y v u Q I rx ry h
  obtain ⟨a, kvs, k, rfl, ha, hK, hk, hdp, q⟩ := h
  obtain rfl : u = Value.ref a := ry
  obtain ⟨z, hm, xs, r, D⟩ := DN_get I ha
  refine in_N (by omega) (KeyV.raw I.hok _ _ _ hk rx) hdp hm D (keysN_of I r hK) ?_
  rw [relX_keys r]
  exact ⟨.bl _, H, I.tok _, rfl, q⟩
theorem op_notInN (hu : X.A.units + 64 < cLine) : OpR X (compareOp .NotIn) (rInN X.w true) := by
  intro pins s σ H x y v u Q I rx ry h
  obtain ⟨a, kvs, k, rfl, ha, hK, hk, hdp, q⟩ := h
  obtain rfl : u = Value.ref a := ry
  obtain ⟨z, hm, xs, r, D⟩ := DN_get I ha
  refine notIn_N (by omega) (KeyV.raw I.hok _ _ _ hk rx) hdp hm D (keysN_of I r hK) ?_
  rw [relX_keys r]
  exact ⟨.bl _, H, I.tok _, rfl, q⟩
/-- d[x], x there -/
def rItemN (w : World) : R2 := fun x y H Q => ∃ a kvs k kv v, x = .ref a ∧ H a = some (DN w a kvs) ∧ KeysV H kvs ∧ KeyV H k y ∧ k.depth ≤ 8 ∧ (k, kv, v) ∈ kvs ∧ Q v H
theorem pe_itemN {o i : Expr} {td ty : TE} {pos : Pos} (hu : X.A.units + 64 < cLine) (ho : PE X o td) (hi : PE X i ty) (hs : NoSl i) : PE X (.Subscript o i pos) (tOp (rItemN X.w) td ty) := by
  refine ⟨fun pins s σ H Q I h => ?_⟩
  refine subD_of PySem.F.slot_dict_getitem.lookup hs (thn (ho.run pins s σ H _ I h) fun u s1 ⟨x, H1, I1, rx, q1⟩ => thn (hi.run pins s1 σ H1 _ I1 q1) fun iv s2 ⟨y, H2, I2, ry, a, kvs, k, kv, v, ex, ha, hK, hk, hdp, hin, q2⟩ => ?_)
  subst ex
  obtain rfl : u = Value.ref a := rx
  obtain ⟨z, hm, xs, r, D⟩ := DN_get I2 ha
  obtain ⟨y', hy', e1, e2, e3⟩ := relX_mem r hin
  refine ⟨D.typeIs, item_N (by omega) (KeyV.raw I2.hok _ _ _ hk ry) hdp D (keysN_of I2 r hK) (v := y'.2.2) ?_ ⟨v, H2, I2.tok _, e3, q2⟩⟩
  have e1' : k = y'.1 := e1
  rw [e1']
  exact valN_of D.nd hy'
/-- d[k] = v, k new -/
def tSetN (w : World) : TSet := fun o i v H Q => ∃ a kvs k, o = .ref a ∧ H a = some (DN w a kvs) ∧ KeysV H kvs ∧ KeyV H k i ∧ k.depth ≤ 8 ∧ k ∉ kvs.map (·.1) ∧ kvs.length < sizeLine ∧ Q (upd H a (DN w a (kvs ++ [(k, i, v)])))
theorem set_dN (hu : X.A.units + 64 < cLine) : PSet X (tSetN X.w) := by
  intro pins s σ H o i v ov iv u Q I ro ri rv h
  obtain ⟨a, kvs, k, rfl, ha, hK, hk, hdp, hn, hl, q⟩ := h
  obtain rfl : ov = Value.ref a := ro
  obtain ⟨z, hm, xs, r, D⟩ := DN_get I ha
  have lx : xs.length = kvs.length := (Paired.length r).symm
  refine store_N (by omega) (KeyV.raw I.hok _ _ _ hk ri) hdp D (keysN_of I r hK) (by rw [relX_keys r]; exact hn) (by omega) fun h' D' hs => ⟨_, ?_, q⟩
  have he : ∃ q, h'.get? a = some q := let ⟨⟨o, _, _, ho, _⟩, _⟩ := D'; ⟨o, ho⟩
  exact I.write (x := a) (e := a) (by rw [ha]; exact True.intro) (.inl rfl) (fun b q hb z => (hs.2 b hb).trans z) he (DN_new (by rw [List.length_append, List.length_singleton]; omega) hm (relX_snoc r ⟨rfl, ri, rv⟩) D')
/-- {} -/
def tNewN (w : World) : TE := fun _ H Q => ∀ p, H p = none → Q (.ref p) (upd H p (DN w p []))
theorem pe_newN {pos : Pos} : PE X (.Dict [] [] pos) (tNewN X.w) := ⟨fun pins s σ H Q I h => by
  have hb : (s.heap.objs.size == sysModules) = false := beq_eq_false_iff_ne.mpr (Ne.symm (Nat.ne_of_lt I.big))
  refine wpAny_Dict_empty ⟨.ref s.heap.objs.size, _, I.laid (a := s.heap.objs.size) (o := DN X.w s.heap.objs.size []) (t' := s.toks) (fun _ _ q => Heap.get?_push_of_some _ q) (Nat.le_refl _) ?_, rfl, h _ (I.hok.fresh (Nat.le_refl _))⟩
  exact DN_new (Nat.zero_le _) hb .nil ⟨⟨_, #[], 0, Heap.get?_push_size _ rfl, ⟨rfl, rfl, rfl⟩, rfl, rfl⟩, List.nodup_nil⟩⟩
/-- len(d) -/
theorem call_lenN : CallR X (.builtin "len") (fun xs H Q => ∃ a kvs, xs = [V.ref a] ∧ H a = some (DN X.w a kvs) ∧ Q (.int kvs.length) H) := by
  intro pins s σ H xs us Q I r h
  obtain ⟨a, kvs, rfl, ha, q⟩ := h
  obtain ⟨u, rfl, ru⟩ := vals1 r
  cases ru
  obtain ⟨z, hm, xs, r, D⟩ := DN_get I ha
  have lx : xs.length = kvs.length := (Paired.length r).symm
  obtain ⟨o, es, ep, ho, hc, hd, he⟩ := D.ex
  have hsz : es.size = kvs.length := by rw [← Array.length_toList, he, List.length_map, lx]
  have hR : s.heap.DictRaw a es ep := ⟨o, ho, hc, hd⟩
  have line := sizeLine_eq
  refine Calls.call_function_entry kind_len plain_len entry_len (args_len1 _) ?_
  unfold Builtin.«len»
  refine wpAny_bind (m := oneArg "len" _) (wpAny_pure ?_)
  refine wpAny_bind (m := callSpecial? (.ref a) (Str.ofString "__len__")) (wpAny_callSpecial?_slot (name := Str.ofString "__len__") hR.typeIs F.slot_dict_len (call_len_raw hm hR ?_))
  show wpAny _ _ _ _ _ { s with toks := s.toks + 1 }
  refine wpAny_bind (wpAny_holding (wpAny_pure ?_))
  refine wpAny_bind (wpAny_letGo ?_)
  show wpAny _ _ (if ((es.size : Nat) : Int) < 0 then _ else _) _ _ _
  rw [if_neg (by omega)]
  show wpAny _ _ (if ((es.size : Nat) : Int) ≥ 2 ^ 63 then _ else _) _ _ _
  rw [if_neg (by omega)]
  refine wpAny_bind (wpAny_mkInt (wpAny_pure ⟨_, rfl, ?_⟩))
  exact ⟨.int kvs.length, H, I.tok _, ⟨_, by rw [hsz]⟩, q⟩
/-- list(d) -/
theorem call_listN (hc : X.calm = true) : CallR X (.type "list") (fun xs H Q => ∃ a kvs, xs = [V.ref a] ∧ H a = some (DN X.w a kvs) ∧ ∀ l, H l = none → Q (.ref l) (upd H l (.lst (kvs.map (·.2.1))))) := by
  intro pins s σ H xs us Q I r h
  obtain ⟨a, kvs, rfl, ha, q⟩ := h
  obtain ⟨u, rfl, ru⟩ := vals1 r
  cases ru
  obtain ⟨z, hm, xs, r, D⟩ := DN_get I ha
  have lx : xs.length = kvs.length := (Paired.length r).symm
  obtain ⟨o, es, ep, ho, hx, hd, he⟩ := D.ex
  have hsz : es.size = kvs.length := by rw [← Array.length_toList, he, List.length_map, lx]
  have hR : s.heap.DictRaw a es ep := ⟨o, ho, hx, hd⟩
  refine PySem.W.kdl_call (PySem.KdlSrc.rawDict hm) (I.ok.hd hc) hR (by omega) fun h' tk acc' c' hkeep hS hacc => ?_
  refine ⟨.ref s.heap.objs.size, upd H s.heap.objs.size (.lst (kvs.map (·.2.1))), I.laid hkeep (Nat.le_refl _) (show ObjOk X.prog X.w _ _ _ (.lst (kvs.map (·.2.1))) from ⟨by rw [List.length_map]; exact z, acc'.toList, c', ?_, by rw [Array.toArray_toList]; exact hS⟩), rfl, q _ (I.hok.fresh (Nat.le_refl _))⟩
  have el : acc'.toList.length = acc'.size := by simp
  refine vals_of_at (by rw [List.length_map, el, hacc.1, hsz]) fun j x w h1 h2 => ?_
  obtain ⟨hj, ew⟩ := hacc.2 j w (by rw [← Array.getElem?_toList]; exact h2)
  have e1 : es[j]? = some es[j] := Array.getElem?_eq_getElem hj
  rw [← Array.getElem?_toList, he, List.getElem?_map] at e1
  cases e2 : xs[j]? with
  | none => rw [e2] at e1; cases e1
  | some y =>
    rw [e2] at e1
    have e3 : entN X.w y = es[j] := by simpa using e1
    obtain ⟨x', hx', _, q2, _⟩ := relX_get r e2
    rw [List.getElem?_map, hx'] at h1
    have e4 : x'.2.1 = x := by simpa using h1
    rw [← e4, ew, ← e3]
    exact q2
/-- {k: v} -/
def tOneN (w : World) (tk tv : TE) : TE := fun σ H Q => ∀ p, H p = none → tk σ (upd H p (DN w p [])) fun x H1 => tv σ H1 fun y H2 => ∃ k, H2 p = some (DN w p []) ∧ KeyV H2 k x ∧ k.depth ≤ 8 ∧ Q (.ref p) (upd H2 p (DN w p [(k, x, y)]))
theorem pe_oneN {k v : Expr} {tk tv : TE} {pos : Pos} (hu : X.A.units + 64 < cLine) (hk : PE X k tk) (hv : PE X v tv) : PE X (.Dict [some k] [v] pos) (tOneN X.w tk tv) := by
  refine ⟨fun pins s σ H Q I h => ?_⟩
  have hb : (s.heap.objs.size == sysModules) = false := beq_eq_false_iff_ne.mpr (Ne.symm (Nat.ne_of_lt I.big))
  have hn := I.hok.fresh (Nat.le_refl s.heap.objs.size)
  have I1 := I.laid (a := s.heap.objs.size) (o := DN X.w s.heap.objs.size []) (h' := s.heap.push { cls := .type "dict", data := .dict #[] }) (t' := s.toks) (fun _ _ q => Heap.get?_push_of_some _ q) (Nat.le_refl _)
    (DN_new (Nat.zero_le _) hb .nil ⟨⟨_, #[], 0, Heap.get?_push_size _ rfl, ⟨rfl, rfl, rfl⟩, rfl, rfl⟩, List.nodup_nil⟩)
  have h1 := h _ hn
  have e2 := zip_pairTrees [some k] [v] X.env pos rfl rfl
  rw [arm_eval_Dict, e2, dictDisplay_pairs (pairTrees [some k] [v] X.env pos) (by intro e; cases e) (by show 1 < 17; omega)]
  refine wpAny_bind (wpAny_standAt (wpAny_bind ?_))
  unfold subDict
  refine wpAny_bind (wpAny_alloc (wpAny_bind (wpAny_holding ?_)))
  rw [if_pos (by show 1 ≤ 15; omega)]
  refine wpAny_bind (pairTrees_cons_walk (thn (hk.run pins _ σ _ _ I1 h1) fun u s1 ⟨x, H1, I2, rx, q1⟩ => thn (hv.run pins s1 σ H1 _ I2 q1) fun uv s2 ⟨y, H2, I3, ry, k', hp, hk', hdp, q2⟩ => pairTrees_nil_walk ?_))
  refine wpAny_holding (wpAny_bind ?_)
  obtain ⟨z, hm, xs, r, D⟩ := DN_get I3 hp
  cases r
  rw [List.forIn_cons]
  refine wpAny_bind (wpAny_bind (set_N (by omega) (KeyV.raw I3.hok _ _ _ hk' rx) hdp D (fun x hx => by simp at hx) (by simp) (Nat.zero_le _) fun h' D' hs => wpAny_pure ?_))
  dsimp only
  rw [List.forIn_nil]
  refine wpAny_pure (wpAny_pure (wpAny_pure (wpAny_pure ⟨.ref s.heap.objs.size, _, ?_, rfl, q2⟩)))
  have he : ∃ q, h'.get? s.heap.objs.size = some q := let ⟨⟨o, _, _, ho, _⟩, _⟩ := D'; ⟨o, ho⟩
  exact I3.write (x := s.heap.objs.size) (e := s.heap.objs.size) (by rw [hp]; exact True.intro) (.inl rfl) (fun b q hb z => (hs.2 b hb).trans z) he (DN_new (by show 1 ≤ sizeLine; rw [sizeLine_eq]; decide) hm (.cons ⟨rfl, rx, ry⟩ .nil) D')
end
end Tw
set_option maxRecDepth 100000
set_option maxHeartbeats 2000000
/-! Set comprehensions of ints without tests, by one and by two fors; set(tuple of ints); sorted(set) of any size. -/
namespace Tw
open PySem PySem.Spec PyProof.Rows L2 PpSet

/-! ### what a turn of a set comprehension does -/
section
variable {prog : Program} {w : World} {A : Around} {R : Result → Shared → Prop} {s : Shared} {elt t0 i0 t1 i1 : Expr} {scope : Scope} {pos : Pos} {it acc : Value} {env : Env}
/-- the outer loop of two -/
theorem setLoop_out (hs : ∀ x, foldedSetIterable i1 env x = pure x) (I : Nat → Shared → Prop)
    (turn : ∀ n s, I n s → wpAny (model prog w) A (pyNext it) (fun r s₁ => match r with
      | none => R (.ok .next) s₁
      | some v => wpAny (model prog w) A (letOwnedTupleGo t0 it v) (fun _ s₂ => wpAny (model prog w) A (assign t0 env v) (fun _ s₃ =>
          wpAny (model prog w) A (eval i1 env) (fun x s₄ => wpAny (model prog w) A (pyIter x) (fun it1 s₅ =>
            codeAny (model prog w) A (.compStart (.SetComp elt [⟨t0, i0, [], 0⟩, ⟨t1, i1, [], 0⟩] scope pos) 1 it1 acc env) (fun r s' => match r with
              | .ok _ => ∃ m, m < n ∧ I m s'
              | .error _ => False) s₅) (fun _ _ => False) s₄) (fun _ _ => False) s₃) (fun _ _ => False) s₂) (fun _ _ => False) s₁) (fun _ _ => False) s)
    (n : Nat) (h : I n s) : codeAny (model prog w) A (.compLoop (.SetComp elt [⟨t0, i0, [], 0⟩, ⟨t1, i1, [], 0⟩] scope pos) 0 it acc env) R s := by
  refine codeAny_loop rfl I (fun n s hI => ?_) n h
  show wpAny _ A ((compTurn (.SetComp elt [⟨t0, i0, [], 0⟩, ⟨t1, i1, [], 0⟩] scope pos) 0 it acc env).onRaise (fun x => do noteFrame x env; theTreesLotGoes x)) _ _ s
  refine wpAny_noted ?_
  show wpAny _ _ (standAt i0.pos >>= _) _ _ s
  refine wpAny_bind (wpAny_standAt ?_)
  show wpAny _ _ (pyNext it >>= _) _ _ s
  refine wpAny_bind (wpAny_mono (turn n s hI) (fun r s₁ h₁ => ?_) fun _ _ q => q.elim)
  cases r with
  | none => exact wpAny_pure h₁
  | some v =>
    refine wpAny_bind (wpAny_mono h₁ (fun _ s₂ h₂ => ?_) fun _ _ q => q.elim)
    refine wpAny_bind (wpAny_mono h₂ (fun _ s₃ h₃ => ?_) fun _ _ q => q.elim)
    dsimp only
    rw [List.forIn_nil]
    refine wpAny_bind (wpAny_pure ?_)
    show wpAny _ _ (eval i1 env >>= _) _ _ s₃
    refine wpAny_bind (wpAny_mono h₃ (fun x s₄ h₄ => ?_) fun _ _ q => q.elim)
    refine wpAny_bind (wpAny_standAt (wpAny_bind (wpAny_of_eq (hs x) (wpAny_bind (wpAny_holding (wpAny_mono h₄ (fun it1 s₅ h₅ => ?_) fun _ _ q => q.elim))))))
    refine wpAny_bind (wpAny_runOwn ?_)
    rw [Around.mark_none]
    refine codeAny_mono h₅ fun r s' hr => ?_
    cases r with
    | ok f =>
      first
        | exact wpAny_pure ⟨rfl, hr⟩
        | exact wpAny_bind (wpAny_pure (wpAny_pure ⟨rfl, hr⟩))
    | error e => exact hr.elim
/-- the inner loop of two -/
theorem setLoop_in (I : Nat → Shared → Prop)
    (turn : ∀ n s, I n s → wpAny (model prog w) A (pyNext it) (fun r s₁ => match r with
      | none => R (.ok .next) s₁
      | some v => wpAny (model prog w) A (letOwnedTupleGo t1 it v) (fun _ s₂ => wpAny (model prog w) A (assign t1 env v) (fun _ s₃ =>
          wpAny (model prog w) A (eval elt env) (fun x s₄ => wpAny (model prog w) A (call (.builtin "set.add") [acc, x]) (fun _ s₅ => ∃ m, m < n ∧ I m s₅) (fun _ _ => False) s₄) (fun _ _ => False) s₃) (fun _ _ => False) s₂) (fun _ _ => False) s₁) (fun _ _ => False) s)
    (n : Nat) (h : I n s) : codeAny (model prog w) A (.compLoop (.SetComp elt [⟨t0, i0, [], 0⟩, ⟨t1, i1, [], 0⟩] scope pos) 1 it acc env) R s := by
  refine codeAny_loop rfl I (fun n s hI => ?_) n h
  show wpAny _ A ((compTurn (.SetComp elt [⟨t0, i0, [], 0⟩, ⟨t1, i1, [], 0⟩] scope pos) 1 it acc env).onRaise (fun x => do noteFrame x env; theTreesLotGoes x)) _ _ s
  refine wpAny_noted ?_
  show wpAny _ _ (standAt i1.pos >>= _) _ _ s
  refine wpAny_bind (wpAny_standAt ?_)
  show wpAny _ _ (pyNext it >>= _) _ _ s
  refine wpAny_bind (wpAny_mono (turn n s hI) (fun r s₁ h₁ => ?_) fun _ _ q => q.elim)
  cases r with
  | none => exact wpAny_pure h₁
  | some v =>
    refine wpAny_bind (wpAny_mono h₁ (fun _ s₂ h₂ => ?_) fun _ _ q => q.elim)
    refine wpAny_bind (wpAny_mono h₂ (fun _ s₃ h₃ => ?_) fun _ _ q => q.elim)
    dsimp only
    rw [List.forIn_nil]
    refine wpAny_bind (wpAny_pure ?_)
    show wpAny _ _ ((eval elt env >>= _) >>= _) _ _ s₃
    refine wpAny_bind (wpAny_bind (wpAny_mono h₃ (fun x s₄ h₄ => ?_) fun _ _ q => q.elim))
    refine wpAny_bind (wpAny_standAt (wpAny_bind (wpAny_mono h₄ (fun _ s₅ h₅ => ?_) fun _ _ q => q.elim)))
    exact wpAny_pure (wpAny_pure ⟨rfl, h₅⟩)
theorem setStart_in (h0 : codeAny (model prog w) A (.compLoop (.SetComp elt [⟨t0, i0, [], 0⟩, ⟨t1, i1, [], 0⟩] scope pos) 1 it acc env) R s)
    (h : wpAny (model prog w) A (pyIter it) (fun it' s' => codeAny (model prog w) A (.compLoop (.SetComp elt [⟨t0, i0, [], 0⟩, ⟨t1, i1, [], 0⟩] scope pos) 1 it' acc env) R s') (fun _ _ => False) s) :
    codeAny (model prog w) A (.compStart (.SetComp elt [⟨t0, i0, [], 0⟩, ⟨t1, i1, [], 0⟩] scope pos) 1 it acc env) R s := by
  refine codeAny_of_tree ?_
  show wpAny _ _ ((compStart (.SetComp elt [⟨t0, i0, [], 0⟩, ⟨t1, i1, [], 0⟩] scope pos) 1 it acc env).onRaise (fun x => do noteFrame x env; standAt theWindowsPlace)) _ _ s
  refine wpAny_notedAt ?_
  unfold compStart
  show wpAny _ _ (ask >>= _) _ _ s
  refine wpAny_bind (wpAny_askSetting (wpAny_ite ?_))
  split
  · first
      | exact wpAny_bind (wpAny_pure (wpAny_pure (And.intro rfl h0)))
      | exact wpAny_pure (And.intro rfl h0)
  · refine wpAny_bind (wpAny_rule ?_)
    show wpAny _ _ (standAt i1.pos >>= _) _ _ s
    exact wpAny_bind (wpAny_standAt (wpAny_bind (wpAny_mono h (fun it' s' h' => wpAny_pure (And.intro rfl h')) fun _ _ x => x.elim)))
end

/-! ### the comprehensions -/
section
variable {X : Cx}
/-- {elt for tg in iter}, elt an int: D the new set -/
def tSc1 (w : World) (wi : TI) (g : TG) (te : TE) (vs : List Nat) : TE := fun σ H Q => wi σ H fun J H1 => ∀ D, H1 D = none → ∃ W : Nat → Nat → Hp → Prop, (∃ m, W 0 m (upd H1 D (SetO w D (fun _ => false) 0))) ∧ ∀ i m H, W i m H →
  (J.stop i H ∧ Q (.ref D) H) ∨ (J.go i H ∧ ∃ Nx : Hp → Prop, (∀ H', Nx H' → ∃ m', m' < m ∧ W (i + 1) m' H') ∧ ∀ x H', J.yld i H x H' → g x (wipe σ vs) H' fun σ2 H2 => wipe σ2 vs = wipe σ vs ∧ te σ2 H2 fun y H3 =>
    ∃ (c : Int) (S : Int → Bool) (n : Nat), y = .int c ∧ H3 D = some (SetO w D S n) ∧ n + 1 < scanBound ∧ Nx (upd H3 D (SetO w D (fun j => S j || decide (j = c)) (if S c = true then n else n + 1))))
theorem sc1_core {pins : List (Addr × Obj)} {s : Shared} {σ : L2.St} {H : Hp} {Q : VK} {elt tg iter : Expr} {scope : Scope} {own : List (PySem.Str × Nat)} {pos pos' : Pos} {wi : TI} {g : TG} {te : TE} {use : Option (Value → Sem Unit)} {Qf : Value → Shared → Prop}
    (hc : X.calm = true) (hN : X.N.Nodup) (I : Inv X pins σ H s) (hi : PI X tg iter wi) (ok : BlkOk X.N X.env.scope scope own)
    (hg : ∀ (s : Shared) (H : Hp) (C : Addr) (cl : List (PySem.Str × Addr)) (fp : List Addr), PG (X.blk s H scope (compEnvC scope cl C X.env) fp) tg g)
    (he : ∀ (s : Shared) (H : Hp) (C : Addr) (cl : List (PySem.Str × Addr)) (fp : List Addr), PE (X.blk s H scope (compEnvC scope cl C X.env) fp) elt te) (hs : ∀ x, foldedSetIterable iter X.env x = pure x)
    (h : tSc1 X.w wi g te (own.map (·.2)) σ H Q)
    (hRR : ∀ D C s' m H', Inv X pins σ H' s' → Q (.ref D) H' → s'.heap.Ns C m → FpOk X pins H' C → compPost (model X.prog X.w) X.A X.xe use Qf (.ref D) C (.ok .next) s') :
    wpAny (model X.prog X.w) X.A (comprehension (.SetComp elt [⟨tg, iter, [], 0⟩] scope pos) scope X.env pos' (newSet (.type "set")) false (eval iter X.env) use) Qf X.xe s := by
  have hfree : ∀ y ∈ scope.names, y.2 = .free → ∃ c, X.env.cells.lookup y.1 = some c := fun y hy e => (ok.free y hy e).elim (fun k => I.ok.has _ (.inl k)) fun k => I.ok.has _ (.inr k)
  refine wpAny_comprehension_free (use := use) rfl hs (closure_ok hfree) ok.kind (fun y hy e => by rw [ok.uniq y hy, e]) (thn (hi.run pins s σ H _ I h) fun xv s1 hx => thn hx fun itv s2 h2 => ?_)
  obtain ⟨it, fp, tn, J, H2, e, I2, T, st2, f2, q⟩ := h2
  subst e
  refine newSet_ok (newEnv_comp ?_)
  generalize hD : s2.heap.objs.size = D
  have hDn : H2 D = none := I2.hok.fresh (Nat.le_of_eq hD)
  obtain ⟨W, ⟨m0, w0⟩, turn⟩ := q D hDn
  generalize hs3 : ({ s2 with heap := s2.heap.push { cls := .type "set", dict := none, data := .set #[] 0 (.fresh 0 0 (!X.w.params.followText "set-order")) } } : Shared) = s3
  have h3 : s3.heap = s2.heap.push { cls := .type "set", dict := none, data := .set #[] 0 (.fresh 0 0 (!X.w.params.followText "set-order")) } := by rw [← hs3]
  generalize hH3 : upd H2 D (SetO X.w D (fun _ => false) 0) = H3 at w0
  have I3 : Inv X pins σ H3 s3 := by
    rw [← hs3, ← hH3]
    refine I2.laid (t' := s2.toks) (fun b o e => Heap.get?_push_of_some _ e) (Nat.le_of_eq hD) ?_
    rw [← hD]
    exact setO_new (setR_fresh X.w)
  have f3 : ∀ b ∈ fp, FpOk X pins H3 b ∧ b < s3.heap.objs.size := fun b hb => by
    obtain ⟨o, e, _⟩ := T.obj _ _ st2 b hb
    have hlt := Heap.lt_size e
    refine ⟨⟨?_, (f2 b hb).2⟩, by rw [h3, Heap.size_push]; exact Nat.lt_succ_of_lt hlt⟩
    rw [← hH3, upd_ne (by rw [← hD]; exact Nat.ne_of_lt hlt)]
    exact (f2 b hb).1
  have st3 : tn 0 s3.heap := T.keep _ _ _ st2 fun b _ o e => by rw [h3]; exact Heap.get?_push_of_some _ e
  have I4 := block_start I3 ok hN f3
  have pg := hg s3 H3 s3.heap.objs.size (cellsFrom (s3.heap.objs.size + 1) scope.names (cloFrom X.env.cells scope.names [])) fp
  have pe := he s3 H3 s3.heap.objs.size (cellsFrom (s3.heap.objs.size + 1) scope.names (cloFrom X.env.cells scope.names [])) fp
  show codeAny _ _ (.compStart (.SetComp elt [⟨tg, iter, [], 0⟩] scope pos) 0 (.ref it) (.ref D) (compEnvC scope (cellsFrom (s3.heap.objs.size + 1) scope.names (cloFrom X.env.cells scope.names [])) s3.heap.objs.size X.env)) (compPost (model X.prog X.w) X.A X.xe use Qf (.ref D) s3.heap.objs.size) { s3 with heap := pushCells (s3.heap.push { cls := .type "dict", data := .dict #[] }) scope.names }
  have nfp : ∀ b ∈ fp, H3 b = none := fun b hb => (f3 b hb).1.1
  generalize hce : compEnvC scope (cellsFrom (s3.heap.objs.size + 1) scope.names (cloFrom X.env.cells scope.names [])) s3.heap.objs.size X.env = ce at I4 pg pe ⊢
  have cL : ce.locals = s3.heap.objs.size := by subst hce; rfl
  generalize hs4 : ({ s3 with heap := pushCells (s3.heap.push { cls := .type "dict", data := .dict #[] }) scope.names } : Shared) = s4 at I4 ⊢
  have st4 : tn 0 s4.heap := T.keep _ _ _ st3 fun b _ o e => by rw [← hs4]; exact pushCells_keeps _ _ _ _ (Heap.get?_push_of_some _ e)
  have stat : ∀ {σ' : L2.St} {H' : Hp} {s' : Shared}, Inv (X.blk s3 H3 scope ce fp) [] σ' H' s' → (∀ b ∈ fp, H' b = none) → ∀ b ∈ fp, FpOk (X.blk s3 H3 scope ce fp) [] H' b := fun {σ' H' s'} I' hn b hb =>
    ⟨hn b hb, (I'.ok.exf b hb).1, I'.ok.exfs b hb, .inl hb, fun x c e => (I'.ok.exf b hb).2 x c e, fun p hp => absurd (show p ∈ ([] : List (Addr × Obj)) ++ [] from hp) (by simp)⟩
  have loop : codeAny (model X.prog X.w) X.A (.compLoop (.SetComp elt [⟨tg, iter, [], 0⟩] scope pos) 0 (.ref it) (.ref D) ce) (compPost (model X.prog X.w) X.A X.xe use Qf (.ref D) s3.heap.objs.size) s4 := by
    refine compLoopS_any (fun n s' => ∃ i H', Inv (X.blk s3 H3 scope ce fp) [] (wipe σ (own.map (·.2))) H' s' ∧ tn i s'.heap ∧ (∀ b ∈ fp, H' b = none) ∧ W i n H') ?_ m0 ⟨0, H3, I4, st4, nfp, w0⟩
    rintro n s5 ⟨i, H5, I5, st5, n5, w5⟩
    rcases turn i n H5 w5 with ⟨stop, qq⟩ | ⟨go, Nx, hNx, step⟩
    · refine thnF (T.done (X.blk s3 H3 scope ce fp) rfl rfl rfl hc i [] s5 _ H5 (fun _ _ => False) I5 (stat I5 n5) st5 stop) fun r s6 ⟨hr, I6⟩ => ?_
      subst hr
      have I7 : Inv X pins σ H5 s6 := I3.call' (ch := fp) I6.os I6.base I6.hok I6.bare fun b hb => ⟨(f3 b hb).1.2.2.2.1, (f3 b hb).1.2.1, (f3 b hb).1.2.2.2.2.1, (f3 b hb).1.2.2.2.2.2⟩
      have nC : H5 ce.locals = none := I6.free
      obtain ⟨m, hn, _⟩ := I6.loc
      have hn : s6.heap.Ns ce.locals m := hn
      rw [cL] at hn nC
      exact hRR D s3.heap.objs.size s6 m H5 I7 qq hn (I3.fpOk (Nat.le_refl _) nC)
    · refine thnF (T.item (X.blk s3 H3 scope ce fp) rfl rfl rfl hc i [] s5 _ H5 (fun _ _ => False) I5 (stat I5 n5) st5 go) fun r s6 ⟨u, hr, h6⟩ => ?_
      subst hr
      refine thnF h6 fun _ s7 ⟨x, H7, I7, r7, y7, st7, n7⟩ => ?_
      have I7' := I7.pinned (stat I7 n7) (T.obj _ _ st7)
      refine thnF (pg.run _ s7 _ H7 x u _ I7' r7 (step x H7 y7)) fun _ s8 ⟨σ8, H8, I8, hw8, q8⟩ => ?_
      have fin : ∀ {σ9 : L2.St} {s' : Shared} {H' : Hp}, Inv (X.blk s3 H3 scope ce fp) ([] ++ pinsAt fp s7.heap) σ9 H' s' → (wipe σ (own.map (·.2))).length = σ9.length → (∀ (j : Nat) v, (wipe σ (own.map (·.2)))[j]? = some (some v) → σ9[j]? = some (some v)) → Nx H' →
          ∃ m, m < n ∧ ∃ i H', Inv (X.blk s3 H3 scope ce fp) [] (wipe σ (own.map (·.2))) H' s' ∧ tn i s'.heap ∧ (∀ b ∈ fp, H' b = none) ∧ W i m H' := fun {σ9 s' H'} I' hl hk nx => by
        obtain ⟨m', hm, w'⟩ := hNx H' nx
        have pin' : ∀ b ∈ fp, ∀ o, s7.heap.get? b = some o → s'.heap.get? b = some o ∧ H' b = none := fun b hb o e =>
          let z := I'.pin (b, o) (List.mem_append_right _ (List.mem_append_right _ (mem_pinsAt hb e)))
          ⟨z.1, z.2.1⟩
        refine ⟨m', hm, i + 1, H', (I'.unpinned (pins := [])).weak hl hk, T.keep _ _ _ st7 fun b hb o e => (pin' b hb o e).1, fun b hb => ?_, w'⟩
        obtain ⟨o, e, _⟩ := T.obj _ _ st7 b hb
        exact (pin' b hb o e).2
      have hl8 : (wipe σ (own.map (·.2))).length = σ8.length := by rw [← hw8, wipe_length]
      have hk8 : ∀ (j : Nat) v, (wipe σ (own.map (·.2)))[j]? = some (some v) → σ8[j]? = some (some v) := fun j v e => by
        rw [← hw8] at e
        exact (wipe_some e).1
      simp only [List.forIn_nil]
      refine wpAny_pure ?_
      simp only [if_true]
      refine thnF (pe.run _ s8 σ8 H8 _ I8 q8) fun z s10 ⟨yv, H10, I10, r10, c, S0, n0, ey, hD10, hz10, nx⟩ => ?_
      subst ey
      obtain ⟨tk, rfl⟩ := r10
      refine thnF (mt_sadd (X := X.blk s3 H3 scope ce fp) _ s10 σ8 H10 (.ref D) [.int c] (.ref D) [.int c tk] (fun _ H' => Nx H') I10 rfl (.cons ⟨tk, rfl⟩ .nil) ⟨D, c, S0, n0, rfl, rfl, hD10, hz10, nx⟩) fun _ s11 ⟨_, H11, I11, _, nx'⟩ => ?_
      exact fin I11 hl8 hk8 nx'
  exact codeAny_compStart_set loop (T.self X.A 0 _ _ _ st4 loop)
theorem pe_sc1 {elt tg iter : Expr} {scope : Scope} {own : List (PySem.Str × Nat)} {pos : Pos} {wi : TI} {g : TG} {te : TE} (hc : X.calm = true) (hN : X.N.Nodup) (hi : PI X tg iter wi) (ok : BlkOk X.N X.env.scope scope own)
    (hg : ∀ (s : Shared) (H : Hp) (C : Addr) (cl : List (PySem.Str × Addr)) (fp : List Addr), PG (X.blk s H scope (compEnvC scope cl C X.env) fp) tg g)
    (he : ∀ (s : Shared) (H : Hp) (C : Addr) (cl : List (PySem.Str × Addr)) (fp : List Addr), PE (X.blk s H scope (compEnvC scope cl C X.env) fp) elt te) (hs : ∀ x, foldedSetIterable iter X.env x = pure x := by intro _; rfl) :
    PE X (.SetComp elt [⟨tg, iter, [], 0⟩] scope pos) (tSc1 X.w wi g te (own.map (·.2))) := by
  refine ⟨fun pins s σ H Q I h => ?_⟩
  rw [eval_SetComp]
  refine sc1_core hc hN I hi ok hg he hs h fun D C s' m H' I' q hn f => ⟨m, hn, fun h'' sb => ?_⟩
  obtain ⟨f0, f1, f2, f3, f4, f5⟩ := f
  exact ⟨.ref D, H', I'.turned (t' := s'.toks) (fun b o hb e => (sb.2 b hb).trans e) f0 f1 f3 f4 f5, rfl, q⟩
/-- {elt for tg in iter for tg1 in iter1} -/
def tSc2 (w : World) (wi : TI) (g : TG) (wi1 : TI) (g1 : TG) (te : TE) (vs vs1 : List Nat) : TE := fun σ H Q => wi σ H fun J H1 => ∀ D, H1 D = none → ∃ W : Nat → Nat → Hp → Prop, (∃ m, W 0 m (upd H1 D (SetO w D (fun _ => false) 0))) ∧ ∀ i m H, W i m H →
  (J.stop i H ∧ Q (.ref D) H) ∨ (J.go i H ∧ ∃ Nx : Hp → Prop, (∀ H', Nx H' → ∃ m', m' < m ∧ W (i + 1) m' H') ∧ ∀ x H', J.yld i H x H' → g x (wipe σ vs) H' fun σ2 H2 => wipe σ2 vs = wipe σ vs ∧
    wi1 σ2 H2 fun J1 H4 => ∃ W1 : Nat → Nat → Hp → Prop, (∃ m, W1 0 m H4) ∧ ∀ j k H, W1 j k H →
      (J1.stop j H ∧ Nx H) ∨ (J1.go j H ∧ ∃ Nx1 : Hp → Prop, (∀ H', Nx1 H' → ∃ k', k' < k ∧ W1 (j + 1) k' H') ∧ ∀ x H', J1.yld j H x H' → g1 x (wipe σ2 vs1) H' fun σ3 H5 => wipe σ3 vs1 = wipe σ2 vs1 ∧ te σ3 H5 fun y H6 =>
        ∃ (c : Int) (S : Int → Bool) (n : Nat), y = .int c ∧ H6 D = some (SetO w D S n) ∧ n + 1 < scanBound ∧ Nx1 (upd H6 D (SetO w D (fun j => S j || decide (j = c)) (if S c = true then n else n + 1)))))
theorem sc2_core {pins : List (Addr × Obj)} {s : Shared} {σ : L2.St} {H : Hp} {Q : VK} {elt tg iter tg1 iter1 : Expr} {scope : Scope} {own : List (PySem.Str × Nat)} {vs1 : List Nat} {pos pos' : Pos} {wi wi1 : TI} {g g1 : TG} {te : TE} {use : Option (Value → Sem Unit)} {Qf : Value → Shared → Prop}
    (hc : X.calm = true) (hN : X.N.Nodup) (I : Inv X pins σ H s) (hi : PI X tg iter wi) (ok : BlkOk X.N X.env.scope scope own) (hv : ∀ i ∈ vs1, i ∈ own.map (·.2))
    (hg : ∀ (s : Shared) (H : Hp) (C : Addr) (cl : List (PySem.Str × Addr)) (fp : List Addr), PG (X.blk s H scope (compEnvC scope cl C X.env) fp) tg g)
    (he : ∀ (s : Shared) (H : Hp) (C : Addr) (cl : List (PySem.Str × Addr)) (fp : List Addr), PE (X.blk s H scope (compEnvC scope cl C X.env) fp) elt te) (hs : ∀ x, foldedSetIterable iter X.env x = pure x)
    (hi1 : ∀ (s : Shared) (H : Hp) (C : Addr) (cl : List (PySem.Str × Addr)) (fp : List Addr), PI (X.blk s H scope (compEnvC scope cl C X.env) fp) tg1 iter1 wi1)
    (hg1 : ∀ (s : Shared) (H : Hp) (C : Addr) (cl : List (PySem.Str × Addr)) (fp : List Addr), PG (X.blk s H scope (compEnvC scope cl C X.env) fp) tg1 g1)
    (hs1 : ∀ env x, foldedSetIterable iter1 env x = pure x)
    (h : tSc2 X.w wi g wi1 g1 te (own.map (·.2)) vs1 σ H Q)
    (hRR : ∀ D C s' m H', Inv X pins σ H' s' → Q (.ref D) H' → s'.heap.Ns C m → FpOk X pins H' C → compPost (model X.prog X.w) X.A X.xe use Qf (.ref D) C (.ok .next) s') :
    wpAny (model X.prog X.w) X.A (comprehension (.SetComp elt [⟨tg, iter, [], 0⟩, ⟨tg1, iter1, [], 0⟩] scope pos) scope X.env pos' (newSet (.type "set")) false (eval iter X.env) use) Qf X.xe s := by
  have hfree : ∀ y ∈ scope.names, y.2 = .free → ∃ c, X.env.cells.lookup y.1 = some c := fun y hy e => (ok.free y hy e).elim (fun k => I.ok.has _ (.inl k)) fun k => I.ok.has _ (.inr k)
  refine wpAny_comprehension_free (use := use) rfl hs (closure_ok hfree) ok.kind (fun y hy e => by rw [ok.uniq y hy, e]) (thn (hi.run pins s σ H _ I h) fun xv s1 hx => thn hx fun itv s2 h2 => ?_)
  obtain ⟨it, fp, tn, J, H2, e, I2, T, st2, f2, q⟩ := h2
  subst e
  refine newSet_ok (newEnv_comp ?_)
  generalize hD : s2.heap.objs.size = D
  have hDn : H2 D = none := I2.hok.fresh (Nat.le_of_eq hD)
  obtain ⟨W, ⟨m0, w0⟩, turn⟩ := q D hDn
  generalize hs3 : ({ s2 with heap := s2.heap.push { cls := .type "set", dict := none, data := .set #[] 0 (.fresh 0 0 (!X.w.params.followText "set-order")) } } : Shared) = s3
  have h3 : s3.heap = s2.heap.push { cls := .type "set", dict := none, data := .set #[] 0 (.fresh 0 0 (!X.w.params.followText "set-order")) } := by rw [← hs3]
  generalize hH3 : upd H2 D (SetO X.w D (fun _ => false) 0) = H3 at w0
  have I3 : Inv X pins σ H3 s3 := by
    rw [← hs3, ← hH3]
    refine I2.laid (t' := s2.toks) (fun b o e => Heap.get?_push_of_some _ e) (Nat.le_of_eq hD) ?_
    rw [← hD]
    exact setO_new (setR_fresh X.w)
  have f3 : ∀ b ∈ fp, FpOk X pins H3 b ∧ b < s3.heap.objs.size := fun b hb => by
    obtain ⟨o, e, _⟩ := T.obj _ _ st2 b hb
    have hlt := Heap.lt_size e
    refine ⟨⟨?_, (f2 b hb).2⟩, by rw [h3, Heap.size_push]; exact Nat.lt_succ_of_lt hlt⟩
    rw [← hH3, upd_ne (by rw [← hD]; exact Nat.ne_of_lt hlt)]
    exact (f2 b hb).1
  have st3 : tn 0 s3.heap := T.keep _ _ _ st2 fun b _ o e => by rw [h3]; exact Heap.get?_push_of_some _ e
  have I4 := block_start I3 ok hN f3
  have pg := hg s3 H3 s3.heap.objs.size (cellsFrom (s3.heap.objs.size + 1) scope.names (cloFrom X.env.cells scope.names [])) fp
  have pe := he s3 H3 s3.heap.objs.size (cellsFrom (s3.heap.objs.size + 1) scope.names (cloFrom X.env.cells scope.names [])) fp
  have pi1 := hi1 s3 H3 s3.heap.objs.size (cellsFrom (s3.heap.objs.size + 1) scope.names (cloFrom X.env.cells scope.names [])) fp
  have pg1 := hg1 s3 H3 s3.heap.objs.size (cellsFrom (s3.heap.objs.size + 1) scope.names (cloFrom X.env.cells scope.names [])) fp
  show codeAny _ _ (.compStart (.SetComp elt [⟨tg, iter, [], 0⟩, ⟨tg1, iter1, [], 0⟩] scope pos) 0 (.ref it) (.ref D) (compEnvC scope (cellsFrom (s3.heap.objs.size + 1) scope.names (cloFrom X.env.cells scope.names [])) s3.heap.objs.size X.env)) (compPost (model X.prog X.w) X.A X.xe use Qf (.ref D) s3.heap.objs.size) { s3 with heap := pushCells (s3.heap.push { cls := .type "dict", data := .dict #[] }) scope.names }
  have nfp : ∀ b ∈ fp, H3 b = none := fun b hb => (f3 b hb).1.1
  generalize hce : compEnvC scope (cellsFrom (s3.heap.objs.size + 1) scope.names (cloFrom X.env.cells scope.names [])) s3.heap.objs.size X.env = ce at I4 pg pe pi1 pg1 ⊢
  have cL : ce.locals = s3.heap.objs.size := by subst hce; rfl
  generalize hs4 : ({ s3 with heap := pushCells (s3.heap.push { cls := .type "dict", data := .dict #[] }) scope.names } : Shared) = s4 at I4 ⊢
  have st4 : tn 0 s4.heap := T.keep _ _ _ st3 fun b _ o e => by rw [← hs4]; exact pushCells_keeps _ _ _ _ (Heap.get?_push_of_some _ e)
  have stat : ∀ {σ' : L2.St} {H' : Hp} {s' : Shared}, Inv (X.blk s3 H3 scope ce fp) [] σ' H' s' → (∀ b ∈ fp, H' b = none) → ∀ b ∈ fp, FpOk (X.blk s3 H3 scope ce fp) [] H' b := fun {σ' H' s'} I' hn b hb =>
    ⟨hn b hb, (I'.ok.exf b hb).1, I'.ok.exfs b hb, .inl hb, fun x c e => (I'.ok.exf b hb).2 x c e, fun p hp => absurd (show p ∈ ([] : List (Addr × Obj)) ++ [] from hp) (by simp)⟩
  have loop : codeAny (model X.prog X.w) X.A (.compLoop (.SetComp elt [⟨tg, iter, [], 0⟩, ⟨tg1, iter1, [], 0⟩] scope pos) 0 (.ref it) (.ref D) ce) (compPost (model X.prog X.w) X.A X.xe use Qf (.ref D) s3.heap.objs.size) s4 := by
    refine setLoop_out (hs1 ce) (fun n s' => ∃ i H', Inv (X.blk s3 H3 scope ce fp) [] (wipe σ (own.map (·.2))) H' s' ∧ tn i s'.heap ∧ (∀ b ∈ fp, H' b = none) ∧ W i n H') ?_ m0 ⟨0, H3, I4, st4, nfp, w0⟩
    rintro n s5 ⟨i, H5, I5, st5, n5, w5⟩
    rcases turn i n H5 w5 with ⟨stop, qq⟩ | ⟨go, Nx, hNx, step⟩
    · refine thn (T.done (X.blk s3 H3 scope ce fp) rfl rfl rfl hc i [] s5 _ H5 (fun _ _ => False) I5 (stat I5 n5) st5 stop) fun r s6 ⟨hr, I6⟩ => ?_
      subst hr
      have I7 : Inv X pins σ H5 s6 := I3.call' (ch := fp) I6.os I6.base I6.hok I6.bare fun b hb => ⟨(f3 b hb).1.2.2.2.1, (f3 b hb).1.2.1, (f3 b hb).1.2.2.2.2.1, (f3 b hb).1.2.2.2.2.2⟩
      have nC : H5 ce.locals = none := I6.free
      obtain ⟨m, hn, _⟩ := I6.loc
      have hn : s6.heap.Ns ce.locals m := hn
      rw [cL] at hn nC
      exact hRR D s3.heap.objs.size s6 m H5 I7 qq hn (I3.fpOk (Nat.le_refl _) nC)
    · refine thn (T.item (X.blk s3 H3 scope ce fp) rfl rfl rfl hc i [] s5 _ H5 (fun _ _ => False) I5 (stat I5 n5) st5 go) fun r s6 ⟨u, hr, h6⟩ => ?_
      subst hr
      refine thn h6 fun _ s7 ⟨x, H7, I7, r7, y7, st7, n7⟩ => ?_
      have I7' := I7.pinned (stat I7 n7) (T.obj _ _ st7)
      refine thn (pg.run _ s7 _ H7 x u _ I7' r7 (step x H7 y7)) fun _ s8 ⟨σ8, H8, I8, hw8, q8⟩ => ?_
      have fin : ∀ {σ9 : L2.St} {s' : Shared} {H' : Hp}, Inv (X.blk s3 H3 scope ce fp) ([] ++ pinsAt fp s7.heap) σ9 H' s' → (wipe σ (own.map (·.2))).length = σ9.length → (∀ (j : Nat) v, (wipe σ (own.map (·.2)))[j]? = some (some v) → σ9[j]? = some (some v)) → Nx H' →
          ∃ m, m < n ∧ ∃ i H', Inv (X.blk s3 H3 scope ce fp) [] (wipe σ (own.map (·.2))) H' s' ∧ tn i s'.heap ∧ (∀ b ∈ fp, H' b = none) ∧ W i m H' := fun {σ9 s' H'} I' hl hk nx => by
        obtain ⟨m', hm, w'⟩ := hNx H' nx
        have pin' : ∀ b ∈ fp, ∀ o, s7.heap.get? b = some o → s'.heap.get? b = some o ∧ H' b = none := fun b hb o e =>
          let z := I'.pin (b, o) (List.mem_append_right _ (List.mem_append_right _ (mem_pinsAt hb e)))
          ⟨z.1, z.2.1⟩
        refine ⟨m', hm, i + 1, H', (I'.unpinned (pins := [])).weak hl hk, T.keep _ _ _ st7 fun b hb o e => (pin' b hb o e).1, fun b hb => ?_, w'⟩
        obtain ⟨o, e, _⟩ := T.obj _ _ st7 b hb
        exact (pin' b hb o e).2
      have hl8 : (wipe σ (own.map (·.2))).length = σ8.length := by rw [← hw8, wipe_length]
      have hk8 : ∀ (j : Nat) v, (wipe σ (own.map (·.2)))[j]? = some (some v) → σ8[j]? = some (some v) := fun j v e => by
        rw [← hw8] at e
        exact (wipe_some e).1
      have hk9 : ∀ (j : Nat) v, (wipe σ (own.map (·.2)))[j]? = some (some v) → (wipe σ8 vs1)[j]? = some (some v) := fun j v e => by
        rw [← hw8] at e
        obtain ⟨e1, e2⟩ := wipe_some e
        rw [wipe_out fun z => e2 (hv j z)]
        exact e1
      refine thn (pi1.run _ s8 σ8 H8 _ I8 q8) fun xv s10 hx => thn hx fun itv s11 h11 => ?_
      obtain ⟨it1, fp1, tn1, J1, H11, e1, I11, T1, st11, f11, W1, ⟨m1, w1⟩, turn1⟩ := h11
      subst e1
      have stat1 : ∀ {H' : Hp}, (∀ b ∈ fp1, H' b = none) → ∀ b ∈ fp1, FpOk (X.blk s3 H3 scope ce fp) ([] ++ pinsAt fp s7.heap) H' b := fun hn b hb => ⟨hn b hb, (f11 b hb).2⟩
      have loop1 : codeAny (model X.prog X.w) X.A (.compLoop (.SetComp elt [⟨tg, iter, [], 0⟩, ⟨tg1, iter1, [], 0⟩] scope pos) 1 (.ref it1) (.ref D) ce)
          (fun r s' => match r with
            | .ok _ => ∃ m, m < n ∧ ∃ i H', Inv (X.blk s3 H3 scope ce fp) [] (wipe σ (own.map (·.2))) H' s' ∧ tn i s'.heap ∧ (∀ b ∈ fp, H' b = none) ∧ W i m H'
            | .error _ => False) s11 := by
        refine setLoop_in (fun k s' => ∃ j H', Inv (X.blk s3 H3 scope ce fp) ([] ++ pinsAt fp s7.heap) (wipe σ8 vs1) H' s' ∧ tn1 j s'.heap ∧ (∀ b ∈ fp1, H' b = none) ∧ W1 j k H') ?_ m1 ⟨0, H11, I11.weak (wipe_length _ _) (fun j v e => (wipe_some e).1), st11, fun b hb => (f11 b hb).1, w1⟩
        rintro k s12 ⟨j, H12, I12, st12, n12, w12⟩
        rcases turn1 j k H12 w12 with ⟨stop1, nx1⟩ | ⟨go1, Nx1, hNx1, step1⟩
        · refine thn (T1.done (X.blk s3 H3 scope ce fp) rfl rfl rfl hc j _ s12 (wipe σ8 vs1) H12 (fun _ _ => False) I12 (stat1 n12) st12 stop1) fun r s13 ⟨hr, I13⟩ => ?_
          subst hr
          exact fin I13 (hl8.trans (wipe_length σ8 vs1).symm) hk9 nx1
        · refine thn (T1.item (X.blk s3 H3 scope ce fp) rfl rfl rfl hc j _ s12 (wipe σ8 vs1) H12 (fun _ _ => False) I12 (stat1 n12) st12 go1) fun r s13 ⟨u1, hr, h13⟩ => ?_
          subst hr
          refine thn h13 fun _ s14 ⟨x1, H14, I14, r14, y14, st14, n14⟩ => ?_
          have I14' := I14.pinned (stat1 n14) (T1.obj _ _ st14)
          refine thn (pg1.run _ s14 (wipe σ8 vs1) H14 x1 u1 _ I14' r14 (step1 x1 H14 y14)) fun _ s15 ⟨σ15, H15, I15, hw15, q15⟩ => ?_
          have fin1 : ∀ {s' : Shared} {H' : Hp}, Inv (X.blk s3 H3 scope ce fp) (([] ++ pinsAt fp s7.heap) ++ pinsAt fp1 s14.heap) σ15 H' s' → Nx1 H' → ∃ m, m < k ∧ ∃ j H', Inv (X.blk s3 H3 scope ce fp) ([] ++ pinsAt fp s7.heap) (wipe σ8 vs1) H' s' ∧ tn1 j s'.heap ∧ (∀ b ∈ fp1, H' b = none) ∧ W1 j m H' := fun {s' H'} I' nx => by
            obtain ⟨m', hm, w'⟩ := hNx1 H' nx
            have pin' : ∀ b ∈ fp1, ∀ o, s14.heap.get? b = some o → s'.heap.get? b = some o ∧ H' b = none := fun b hb o e =>
              let z := I'.pin (b, o) (List.mem_append_right _ (List.mem_append_right _ (mem_pinsAt hb e)))
              ⟨z.1, z.2.1⟩
            refine ⟨m', hm, j + 1, H', I'.unpinned.weak (by rw [← hw15, wipe_length]) (fun j v e => by rw [← hw15] at e; exact (wipe_some e).1), T1.keep _ _ _ st14 fun b hb o e => (pin' b hb o e).1, fun b hb => ?_, w'⟩
            obtain ⟨o, e, _⟩ := T1.obj _ _ st14 b hb
            exact (pin' b hb o e).2
          refine thn (pe.run _ s15 σ15 H15 _ I15 q15) fun z s17 ⟨yv, H17, I17, r17, c, S0, n0, ey, hD17, hz17, nx⟩ => ?_
          subst ey
          obtain ⟨tk, rfl⟩ := r17
          refine thn (mt_sadd (X := X.blk s3 H3 scope ce fp) _ s17 σ15 H17 (.ref D) [.int c] (.ref D) [.int c tk] (fun _ H' => Nx1 H') I17 rfl (.cons ⟨tk, rfl⟩ .nil) ⟨D, c, S0, n0, rfl, rfl, hD17, hz17, nx⟩) fun _ s18 ⟨_, H18, I18, _, nx'⟩ => ?_
          exact fin1 I18 nx'
      exact setStart_in loop1 (T1.self X.A 0 _ _ _ st11 loop1)
  exact codeAny_compStart_set loop (T.self X.A 0 _ _ _ st4 loop)
theorem pe_sc2 {elt tg iter tg1 iter1 : Expr} {scope : Scope} {own : List (PySem.Str × Nat)} {vs1 : List Nat} {pos : Pos} {wi wi1 : TI} {g g1 : TG} {te : TE} (hc : X.calm = true) (hN : X.N.Nodup) (hi : PI X tg iter wi) (ok : BlkOk X.N X.env.scope scope own) (hv : ∀ i ∈ vs1, i ∈ own.map (·.2))
    (hg : ∀ (s : Shared) (H : Hp) (C : Addr) (cl : List (PySem.Str × Addr)) (fp : List Addr), PG (X.blk s H scope (compEnvC scope cl C X.env) fp) tg g)
    (hi1 : ∀ (s : Shared) (H : Hp) (C : Addr) (cl : List (PySem.Str × Addr)) (fp : List Addr), PI (X.blk s H scope (compEnvC scope cl C X.env) fp) tg1 iter1 wi1)
    (hg1 : ∀ (s : Shared) (H : Hp) (C : Addr) (cl : List (PySem.Str × Addr)) (fp : List Addr), PG (X.blk s H scope (compEnvC scope cl C X.env) fp) tg1 g1)
    (he : ∀ (s : Shared) (H : Hp) (C : Addr) (cl : List (PySem.Str × Addr)) (fp : List Addr), PE (X.blk s H scope (compEnvC scope cl C X.env) fp) elt te) (hs : ∀ x, foldedSetIterable iter X.env x = pure x := by intro _; rfl) (hs1 : ∀ env x, foldedSetIterable iter1 env x = pure x := by intro _ _; rfl) :
    PE X (.SetComp elt [⟨tg, iter, [], 0⟩, ⟨tg1, iter1, [], 0⟩] scope pos) (tSc2 X.w wi g wi1 g1 te (own.map (·.2)) vs1) := by
  refine ⟨fun pins s σ H Q I h => ?_⟩
  rw [eval_SetComp]
  refine sc2_core hc hN I hi ok hv hg he hs hi1 hg1 hs1 h fun D C s' m H' I' q hn f => ⟨m, hn, fun h'' sb => ?_⟩
  obtain ⟨f0, f1, f2, f3, f4, f5⟩ := f
  exact ⟨.ref D, H', I'.turned (t' := s'.toks) (fun b o hb e => (sb.2 b hb).trans e) f0 f1 f3 f4 f5, rfl, q⟩
end

/-! ### sorted of a set of any size, set of a tuple of ints -/
section
variable {P : Program} {w : World} {A : Around} {E : Value → Shared → Prop} {s : Shared} {a : Addr}
theorem sorted_setAny {S : Int → Bool} {n : Nat} {Q : Value → Shared → Prop} (R : SetR w s.heap a S n) (hh : A.handled = none)
    (hQ : ∀ s' p (out : Array Value) (c : Nat) (ns : List Int), (∀ b o, s.heap.get? b = some o → s'.heap.get? b = some o) → s'.gens = s.gens → s'.os = s.os → s.heap.objs.size ≤ p →
      s'.heap.get? p = some (seqObj "list" out c) → IntsAre out.toList ns → ns.Pairwise (· < ·) → (∀ k, k ∈ ns ↔ S k = true) → ns.length = n → n < scanBound → Q (.ref p) s') :
    wpAny (model P w) A (call (.builtin "sorted") [.ref a]) Q E s := by
  obtain ⟨o, es, ep, t, ho, hex, hd, g, nd, hm, hb, hf, hn, hr, hl⟩ := R
  have hnb : n < scanBound := by rw [← hn]; exact hb
  have hsc : scanBound ≤ sizeLine := by decide
  refine Calls.call_function_entry kind_sorted plain_sorted entry_sorted (args_sorted1 _) ?_
  unfold Builtin.«sorted»
  refine wpAny_bind (m := checkCount "sorted" 1 1 _) (wpAny_pure ?_)
  refine wpAny_bind (collect_set (A := A.in1) hh ⟨o, ho, hex.1, hd⟩ hf hb hr hl fun s1 vs k1 hz g1 o1 pm => ?_)
  have hvl : vs.length = n := by rw [pm.length_eq, List.length_map, Array.length_toList]; exact hn
  have hI : IntsAre vs (vs.map Builtin.Re.reRawOf) := ints_of vs fun v hv => by
    obtain ⟨e, he, q⟩ := List.mem_map.mp (pm.mem_iff.mp hv)
    obtain ⟨k, tk, h1, _⟩ := g e he
    exact ⟨k, tk, by rw [← q]; exact h1⟩
  have pk : (vs.map Builtin.Re.reRawOf).Perm (es.toList.map keyOf) := by
    have q := pm.map Builtin.Re.reRawOf
    rw [List.map_map] at q
    exact q
  refine wpAny_bind (wpAny_newList ?_ (by rw [hvl]; omega))
  have hoL : (s1.heap.push (seqObj "list" vs.toArray 0)).get? s1.heap.objs.size = some (seqObj "list" vs.toArray 0) := Heap.get?_push_size _ rfl
  refine wpAny_bind (wpAny_holding (wpAny_call_entry PyProof.Rows.slot_list_sort ⟨_, hoL, rfl⟩ PyProof.Rows.entry_list_sort
    (SrtO.list_sort_ord SrtO.swo_int hoL (by rw [hvl]; omega) (fun h2 => SrtO.ints_sortable hI h2) fun out h1 h2 => ⟨.none, rfl, ?_⟩) (PyProof.Rows.args_list_sort _)))
  obtain ⟨a1, a2, a3⟩ := SrtO.ints_out hI h1 h2
  obtain ⟨c, hc⟩ := PyProof.Rows.sortedHeap_at (vs := vs) (out := out.toArray) hoL
  have pn : (out.map SrtO.iv).Perm (es.toList.map keyOf) := a2.trans pk
  refine wpAny_pure ⟨_, rfl, hQ _ s1.heap.objs.size out.toArray c (out.map SrtO.iv) (fun b u e => ?_) g1 o1 hz hc (by simpa using a1) (lt_of_le_nodup _ a3 (pn.nodup_iff.mpr nd)) (fun k => by rw [pn.mem_iff, ← hm k]) ?_ hnb⟩
  · have q := k1 b u e
    have hlt := Heap.lt_size q
    show (PyProof.Rows.sortedHeap (s1.heap.push (seqObj "list" vs.toArray 0)) s1.heap.objs.size vs out.toArray).get? b = some u
    rw [PyProof.Rows.sortedHeap_old (Nat.ne_of_lt hlt) (by rw [size_push']; exact Nat.lt_succ_of_lt hlt)]
    exact Heap.get?_push_of_some _ q
  · rw [pn.length_eq, List.length_map, Array.length_toList]; exact hn
end
section
variable {X : Cx}
def rSortedSetA (w : World) : List V → Hp → VK → Prop := fun vs H Q => ∃ (a : Addr) (S : Int → Bool) (n : Nat), vs = [V.ref a] ∧ H a = some (SetO w a S n) ∧
  ∀ (ns : List Int) (p : Addr), ns.Pairwise (· < ·) → (∀ k : Int, k ∈ ns ↔ S k = true) → ns.length = n → n < scanBound → H p = none → Q (.ref p) (upd H p (.lst (ns.map V.int)))
theorem cr_sortedSetA (hc : X.calm = true) : CallR X (.builtin "sorted") (rSortedSetA X.w) := by
  intro pins s σ H vs us Q I r h
  obtain ⟨a, S, n, rfl, ha, q⟩ := h
  have R := setO_get I ha
  rw [Vals.ref1 r]
  refine sorted_setAny R (I.ok.hd hc) fun s' p out c ns k g o hp hg hi hs hm hl hb => ?_
  have hsc : scanBound ≤ sizeLine := by decide
  have hlen : (ns.map V.int).length ≤ sizeLine := by rw [List.length_map, hl]; omega
  have hn : H p = none := I.hok.fresh hp
  have J : Inv X pins σ (upd H p (.lst (ns.map V.int))) { s with heap := s'.heap, gens := s'.gens, drawn := s'.drawn, toks := s'.toks } :=
    I.call (ch := []) (Un.laid k hp hn) (I.hok.laid k hp ⟨hlen, out.toList, c, vals_of_ints hi, by simpa using hg⟩) (by rw [g]; exact I.bare) (fun _ z => nomatch z)
  have e : s' = { s with heap := s'.heap, gens := s'.gens, drawn := s'.drawn, toks := s'.toks } := by
    cases s'
    cases s
    cases o
    rfl
  rw [e]
  exact ⟨.ref p, _, J, rfl, q ns p hs hm hl hb hn⟩
/-- set(t), t a tuple of ints -/
def rSetT (K : PySem.W.Frag) (w : World) : List V → Hp → VK → Prop := fun vs H Q => ∃ (p : Addr) (ns : List Int), vs = [V.ref p] ∧ SqT K H p (ns.map V.int) ∧ ns.length + 1 < scanBound ∧
  ∀ (q : Addr) (c : Nat), H q = none → Q (.ref q) (upd H q (SetO w q (fun j => decide (j ∈ ns)) c))
theorem cr_setT (hc : X.calm = true) : CallR X (.type "set") (rSetT X.K X.w) := by
  intro pins s σ H vs us Q I r h
  obtain ⟨p, ns, rfl, hp, hb, q⟩ := h
  rw [Vals.ref1 r]
  obtain ⟨its, rv, ht, hz⟩ := I.tuple hp
  have hi := rv.ints
  refine call_set_tupI ns (I.ok.hd hc) (show s.heap.IsTuple p its.toArray from ht) (by simpa using hi) hb fun h' tk c R _ k => ?_
  exact ⟨.ref s.heap.objs.size, _, I.laid (t' := tk) k (Nat.le_refl _) (setO_new R), rfl, q _ c (I.hok.fresh (Nat.le_refl _))⟩
end
end Tw
set_option maxRecDepth 100000
set_option maxHeartbeats 2000000
/-! any(element for x in a list or a tuple), the element reading names of the def. -/
namespace Tw
open PySem PySem.Spec PyProof.Rows L2

/-- the element's rule: rd tells the answer from the def's slots, the heap and the item -/
def EltQ (X : Cx) (scope : Scope) (x : Str) (elt : Expr) (rd : L2.St → Hp → V → Bool → Prop) : Prop :=
  ∀ (cenv : Env) (A' : Around) (E' : Value → Shared → Prop) (σ : L2.St) (H : Hp) (y : V) (b : Bool) (u : Value) (s₂ : Shared) (m₂ : Str → Option Value),
    cenv.scope = scope → cenv.cells = cloFrom X.env.cells scope.names [] → A'.handled = none → A'.depth ≤ X.A.depth + 1 → A'.units ≤ X.A.units + 8 →
    HOk X.prog X.w H s₂.heap → X.K.In s₂.heap →
    (∀ (i : Nat) (nm : Str) (v : V), X.N[i]? = some nm → σ[i]? = some (some v) → X.env.scope.names.lookup nm = some .cell → ∃ c z, X.env.cells.lookup nm = some c ∧ s₂.heap.IsCell c (some z) ∧ RelV v z) →
    rd σ H y b → RelV y u → s₂.heap.Ns cenv.locals m₂ → m₂ x = some u →
    wpAny (model X.prog X.w) A' (eval elt cenv) (fun r s₃ => r = .bool b ∧ Keeps s₂ s₃) E' s₂

/-- the list or tuple at p -/
def Src (H : Hp) (p : Addr) (xs : List V) : Prop := H p = some (.lst xs) ∨ H p = some (.tup xs)

section
variable {X : Cx} {pins : List (Addr × Obj)} {σ : L2.St} {H : Hp} {s : Shared}

/-- an iterator over the list or tuple at p -/
theorem src_iter {p : Addr} {xs : List V} {Q : Value → Shared → Prop} (I : Inv X pins σ H s) (h : Src H p xs)
    (hQ : ∀ (o : Obj) (its : List Value) (St : Nat → Heap → Prop), Vals xs its → (∀ A' : Around, A'.handled = none → Walks X.prog X.w A' s.heap.objs.size [s.heap.objs.size, p] [s.heap.objs.size] xs.length (fun i v => its[i]? = some v) St) →
      (∀ h' : Heap, (∀ ob, (s.heap.push o).get? s.heap.objs.size = some ob → h'.get? s.heap.objs.size = some ob) → (∀ ob, s.heap.get? p = some ob → h'.get? p = some ob) → St 0 h') → Q (.ref s.heap.objs.size) { s with heap := s.heap.push o }) :
    wpAny (model X.prog X.w) X.A (pyIter (.ref p)) Q X.xe s := by
  rcases h with h | h
  · obtain ⟨its, rv, hl, hz⟩ := I.list (.inl (.inl h))
    have hIL := hl.isList
    refine wpAny_pyIter_list hIL ?_
    have hlt : p < s.heap.objs.size := (I.hok _ _ h).lt
    have W : ∀ A' : Around, A'.handled = none → Walks X.prog X.w A' s.heap.objs.size [s.heap.objs.size, p] [s.heap.objs.size] its.toArray.size (fun i v => its.toArray[i]? = some v) _ := fun A' hA => Walks.list hA _ _ (Nat.ne_of_lt hlt) _
    have e1 : its.toArray.size = xs.length := by rw [List.size_toArray, ← rv.length]
    have e2 : (fun (i : Nat) (v : Value) => its.toArray[i]? = some v) = fun i v => its[i]? = some v := by funext i v; simp
    rw [e1, e2] at W
    refine hQ _ its _ rv W fun h' k1 k2 => ⟨?_, ?_⟩
    · exact ⟨_, k1 _ (Heap.get?_push_size _ rfl), rfl, rfl⟩
    · obtain ⟨ob, e, r⟩ := hIL
      exact ⟨ob, k2 _ e, r⟩
  · obtain ⟨its, rv, hl, hz⟩ := I.tuple (.inl (.inl h))
    refine wpAny_pyIter_tuple hl ?_
    have hlt : p < s.heap.objs.size := (I.hok _ _ h).lt
    have W : ∀ A' : Around, A'.handled = none → Walks X.prog X.w A' s.heap.objs.size [s.heap.objs.size, p] [s.heap.objs.size] its.toArray.size (fun i v => its.toArray[i]? = some v) _ := fun A' hA => Walks.tuple hA _ _ (Nat.ne_of_lt hlt) _
    have e1 : its.toArray.size = xs.length := by rw [List.size_toArray, ← rv.length]
    have e2 : (fun (i : Nat) (v : Value) => its.toArray[i]? = some v) = fun i v => its[i]? = some v := by funext i v; simp
    rw [e1, e2] at W
    refine hQ _ its _ rv W fun h' k1 k2 => ⟨?_, ?_⟩
    · exact ⟨_, k1 _ (Heap.get?_push_size _ rfl), rfl, rfl⟩
    · obtain ⟨ob, e, r⟩ := hl
      exact ⟨ob, k2 _ e, r⟩

def trQ (pb : V → Bool) (xs : List V) (j : Nat) : Bool := match xs[j]? with
  | some b => pb b
  | none => false
theorem trQ_some {pb : V → Bool} {l : List V} {j : Nat} {b : V} (h : l[j]? = some b) : trQ pb l j = pb b := by unfold trQ; rw [h]
theorem any_trQ (l : List V) (pb : V → Bool) : (List.range l.length).any (trQ pb l) = l.any pb := by
  rw [Bool.eq_iff_iff, List.any_eq_true, List.any_eq_true]
  constructor
  · intro ⟨j, hj, h⟩
    have hj' := List.mem_range.mp hj
    rw [trQ_some (List.getElem?_eq_getElem hj')] at h
    exact ⟨l[j], List.getElem_mem hj', h⟩
  · intro ⟨b, hb, h⟩
    obtain ⟨j, hj, e⟩ := List.getElem_of_mem hb
    refine ⟨j, List.mem_range.mpr hj, ?_⟩
    rw [trQ_some (List.getElem?_eq_getElem hj), e]
    exact h

/-- the generator g over the items xs, ready to be walked, in the state s5 -/
def ReadyQ (X : Cx) (pins : List (Addr × Obj)) (σ : L2.St) (H1 : Hp) (P : Addr) (xs : List V) (pb : V → Bool) (R : Hp → Prop) (g : Addr) (s5 : Shared) : Prop :=
  ∃ (fp wr : List Addr) (G : Array GenState → Array GenState → Prop) (F : Nat → Value → Prop) (St : Nat → Shared → Prop),
    WalksS X.prog X.w X.A.in1 g fp wr G xs.length F St ∧ St 0 s5 ∧
    TruthOf X.prog X.w X.A.in1 F (trQ pb xs) ∧
    ∀ s', Moved wr G s5 s' → ∃ H2, R H2 ∧ Inv X pins σ H2 s'

theorem gen_seq {c P : Addr} {elt iter : Expr} {x : Str} {px gpos : Pos} {scope : Scope} {te : TE} {rd : L2.St → Hp → V → Bool → Prop} {k : Nat} {Q' : Value → Shared → Prop} {R : List V → (V → Bool) → Hp → Prop}
    (hr : Room k X.A) (TB : GxR.TabB X.base X.mg c P) (hcode : X.env.code = .ref c) (S : GxR.GenS X.env scope x) (hi : PE X iter te) (hel : EltQ X scope x elt rd)
    (hs : ∀ v, genFold iter X.env v = pure v) (I : Inv X pins σ H s) (h : te σ H fun v H1 => ∃ (p : Addr) (xs : List V) (pb : V → Bool), v = .ref p ∧ Src H1 p xs ∧ GxR.TabG H1 P ∧ ∀ H2, GxR.Tabbed P H1 H2 → (∀ y ∈ xs, rd σ H2 y (pb y)) ∧ R xs pb H2)
    (hQ : ∀ xs pb H1 g s5, ReadyQ X pins σ H1 P xs pb (R xs pb) g s5 → Q' (.ref g) s5) :
    wpAny (model X.prog X.w) X.A (eval (.GeneratorExp elt [⟨.Name x px, iter, [], 0⟩] scope gpos) X.env) Q' X.xe s := by
  refine wpAny_GeneratorExp_walksQD hr.hd S.co (closure_ok S.free) S.cell S.dot S.loc S.kind (by have := hr.dp; omega) ?_ hs
  refine thn (hi.run pins s σ H _ I h) fun xv s1 ⟨v, H1, I1, r1, q1⟩ => ?_
  obtain ⟨yl, xs, pb, rfl, hyl, ⟨ps, hP, ht⟩, q1⟩ := q1
  obtain rfl : xv = Value.ref yl := r1
  have hyt : yl < s1.heap.objs.size := by
    rcases hyl with e | e
    · exact (I1.hok _ _ e).lt
    · exact (I1.hok _ _ e).lt
  have hylP : yl ≠ P := fun z => by
    subst z
    rcases hyl with e | e
    · rw [hP] at e; cases e
    · rw [hP] at e; cases e
  refine src_iter I1 hyl fun o its St rv W hst0 => ?_
  have hPs : s1.heap.get? P = some { cls := .none, data := .fields ps } := I1.hok P _ hP
  have hPlt : P < s1.heap.objs.size := Heap.lt_size hPs
  have hP2 : (s1.heap.push o).get? P = some { cls := .none, data := .fields ps } := Heap.get?_push_of_some _ hPs
  have cd : PySem.W.CodeHd (s1.heap.push o) c P := TB.code.keeps fun b u e => Heap.get?_push_of_some _ (I1.bk b u e)
  have lim2 : (s1.heap.push o).NoLimit := I1.nolimit.push o
  have cont : ∀ (code : Value) (h3 : Heap) (tk : Nat) (ps' : Array Value), Heap.ExtBut P (s1.heap.push o) h3 → (s1.heap.push o).objs.size ≤ h3.objs.size → h3.get? P = some { cls := .none, data := .fields ps' } → (∃ more, ps' = ps ++ more) → TriplesOk ps'.toList →
      wpAny (model X.prog X.w) X.A (builtinsFor X.env.globals X.env.builtins) (fun bi s₄ =>
        ∃ Ia fp wr n₀ Pf St₀ pz F, Value.ref s1.heap.objs.size = .ref Ia ∧ (∀ A' : Around, A'.handled = none → Walks X.prog X.w A' Ia fp wr n₀ Pf St₀) ∧ St₀ 0 s₄.heap ∧ (∀ b ∈ fp, b < s₄.heap.objs.size) ∧ s₄.heap.NoLimit ∧ cStatics ∉ wr ∧
          (∀ href : Heap, (∀ b o, s₄.heap.get? b = some o → href.get? b = some o) →
            QuietGenD X.prog X.w (genEnv scope (cloFrom X.env.cells scope.names []) s₄.heap.objs.size code bi X.env) x [] elt (List.range s₄.heap.objs.size) wr Pf pz F href (X.A.depth + 1) (X.A.units + 8)) ∧
          (∀ a h₅ tk gs, gs.bare = true → s₄.heap.objs.size < a → h₅.objs.size = a + 1 → (∀ b o, s₄.heap.get? b = some o → h₅.get? b = some o) →
            WalksS X.prog X.w X.A.in4 a (a :: s₄.heap.objs.size :: List.range s₄.heap.objs.size) (s₄.heap.objs.size :: wr) (GenOnlyQ s₄.gens.size) (passing pz n₀ 0).length
              (fun j y => ∃ i, (passing pz n₀ 0)[j]? = some i ∧ F i y) (GenAt X.prog X.w X.A.in4 a s₄.gens.size s₄.heap.objs.size (List.range s₄.heap.objs.size) wr pz n₀ F) →
            GenAt X.prog X.w X.A.in4 a s₄.gens.size s₄.heap.objs.size (List.range s₄.heap.objs.size) wr pz n₀ F 0 { s₄ with gens := s₄.gens.push gs, toks := tk, heap := h₅ } →
            Q' (.ref a) { s₄ with gens := s₄.gens.push gs, toks := tk, heap := h₅ })) X.xe { s1 with heap := h3, toks := tk } := by
    intro code h3 tk ps' hx hsz hP3 hmore ht3
    obtain ⟨bm, ob, e1, e2, e3, e4, e5, e6, e7, e8⟩ := TB.bm
    obtain ⟨more, em⟩ := hmore
    have hcP : cStatics ≠ P := fun e => by
      obtain ⟨_, hns, _⟩ := I1.nolimit
      obtain ⟨o', es, ep, ho, hd, _⟩ := hns
      rw [e, hPs] at ho
      cases ho
      cases hd
    have hcl : cStatics < s1.heap.objs.size := let ⟨_, hns, _⟩ := I1.nolimit; hns.lt
    have sz2 : (s1.heap.push o).objs.size = s1.heap.objs.size + 1 := Heap.size_push ..
    have keep3 : ∀ b u, b ≠ P → s1.heap.get? b = some u → h3.get? b = some u := fun b u hb e => hx b u hb (Heap.get?_push_of_some _ e)
    refine wpAny_builtinsFor (m := X.mg) (by rw [I1.ok.glob]; exact ((I1.mod.glob.keeps I1.bk).push o).extBut hx TB.gP) e1 e2 (keep3 _ _ e4 (I1.bk _ _ e5)) e6 e7 e8 ?_
    have T2 : GxR.Tabbed P H1 (upd H1 P (.tbl (ps ++ more))) := ⟨⟨ps ++ more, upd_same, by rw [← em]; exact ht3⟩, fun b hb => upd_ne hb⟩
    have J3 : Inv X pins σ (upd H1 P (.tbl (ps ++ more))) { s1 with heap := h3, toks := tk } := GxR.inv_tab (more := more) (g' := s1.gens) (d' := s1.drawn) I1 hP keep3 (by rw [← em]; exact hP3) I1.bare
    refine ⟨s1.heap.objs.size, [s1.heap.objs.size, yl], [s1.heap.objs.size], xs.length, (fun i v => its[i]? = some v), St, (fun _ => true),
      (fun i y => ∃ v, xs[i]? = some v ∧ y = .bool (pb v)), rfl, W, ?_, ?_, lim2.extBut hx hcP, ?_, ?_, ?_⟩
    · exact hst0 h3 (fun ob e => hx _ ob (Nat.ne_of_gt hPlt) e) fun ob e => keep3 _ ob hylP e
    · intro b hb
      rcases List.mem_cons.mp hb with z | z
      · rw [z]
        show s1.heap.objs.size < h3.objs.size
        omega
      · rcases List.mem_cons.mp z with z | z
        · rw [z]
          have e9 : s1.heap.objs.size ≤ h3.objs.size := by omega
          exact Nat.lt_of_lt_of_le hyt e9
        · cases z
    · intro z
      rcases List.mem_cons.mp z with z | z
      · exact Nat.ne_of_lt hcl z
      · cases z
    · intro href hhref
      refine ⟨fun A' E' i v s₂ m₂ hA hD hU hPv hn hm hk => ?_, fun A' E' i v s₂ m₂ hA hD hU hPv hp hn hm hk => ?_⟩
      · simp only [List.forIn_nil]
        exact wpAny_pure ⟨rfl, GxR.keeps_refl _⟩
      · have hi9 : i < its.length := (List.getElem?_eq_some_iff.mp hPv).1
        have hlx := rv.length
        obtain ⟨y, hy⟩ : ∃ y, xs[i]? = some y := ⟨xs[i]'(by omega), List.getElem?_eq_getElem _⟩
        obtain ⟨u, hu, ru⟩ := rv.get hy
        rw [hPv] at hu
        cases hu
        have kp : ∀ b ob, b ≠ s1.heap.objs.size → h3.get? b = some ob → s₂.heap.get? b = some ob := fun b ob hb e =>
          hk b (List.mem_range.mpr (Heap.lt_size e)) (by simpa using hb) ob (hhref b ob e)
        have nI : (upd H1 P (.tbl (ps ++ more))) s1.heap.objs.size = none := by
          rw [upd_ne (Nat.ne_of_gt hPlt)]
          exact I1.hok.fresh (Nat.le_refl _)
        have nI' : ∀ b u, (upd H1 P (.tbl (ps ++ more))) b = some u → b ≠ s1.heap.objs.size := fun b u e z => by rw [z, nI] at e; cases e
        have hok2 : HOk X.prog X.w (upd H1 P (.tbl (ps ++ more))) s₂.heap := fun b ob e => by
          refine (J3.hok b ob e).stay (fun c v hc q => kp c v ?_ q) (fun _ q => q) fun _ _ q => q
          rcases hc with z | z
          · rw [z]; exact nI' b _ e
          · exact nI' c _ z
        have kin : X.K.In s₂.heap := fun a ob e => kp a ob (fun z => by
          have q := Heap.lt_size (I1.kIn a ob e)
          rw [z] at q
          exact Nat.lt_irrefl _ q) (J3.kIn a ob e)
        refine wpAny_mono (hel _ A' E' σ _ y (pb y) v s₂ m₂ rfl rfl hA hD hU hok2 kin (fun j nm vv hN hσ hkind => ?_) ((q1 _ T2).1 y (List.mem_of_getElem? hy)) ru hn hm) (fun r s3 q => ⟨⟨y, hy, q.1⟩, q.2⟩) fun _ _ e => e
        obtain ⟨m, hnl, hl⟩ := J3.loc
        obtain ⟨z, rz, hz⟩ := hl j nm vv hN hσ (.inr (.inl hkind))
        rcases hz with ⟨h1, _⟩ | ⟨_, c, hc, ob, ho, hd⟩
        · have : X.env.scope.names.lookup nm = some .local := h1
          rw [hkind] at this
          cases this
        · refine ⟨c, z, hc, ⟨ob, kp c ob (fun q => ?_) ho, hd⟩, rz⟩
          obtain ⟨vv2, ob2, ho2, hd2⟩ := I1.cell nm c hc
          have q9 := Heap.lt_size ho2
          rw [q] at q9
          exact Nat.lt_irrefl _ q9
    · intro g h5 tk5 gs hgb hag hsz5 hk5 W5 hat
      simp only [GxR.passing_true, List.length_range] at W5
      refine hQ xs pb H1 g _ ⟨_, _, _, _, _, W5.in4_1, hat, ?_, fun s' hm => ?_⟩
      · intro j y sj Qj Ej hy hQj
        obtain ⟨i, hij, cc, hcc, rfl⟩ := hy
        obtain ⟨hj, ej⟩ := List.getElem?_eq_some_iff.mp hij
        rw [List.getElem_range] at ej
        subst ej
        have hQ2 : Qj (trQ pb xs j) sj := hQj
        rw [trQ_some hcc] at hQ2
        exact wpAny_truthy_bool hQ2
      · have nwr : ∀ b u, s1.heap.get? b = some u → b ∉ h3.objs.size :: [s1.heap.objs.size] := fun b u e hb => by
          have hl := Heap.lt_size e
          rcases List.mem_cons.mp hb with z | z
          · rw [z] at hl
            have h9 : (h3.objs.size : Nat) < s1.heap.objs.size := hl
            omega
          · rcases List.mem_cons.mp z with z | z
            · rw [z] at hl
              exact Nat.lt_irrefl _ hl
            · cases z
        have J := GxR.inv_tab (more := more) (h' := s'.heap) (g' := s'.gens) (d' := s'.drawn) (t' := s'.toks) I1 hP (fun b u hb e => hm.heap b u (nwr b u e) (hk5 b u (keep3 b u hb e)))
          (by rw [← em]; exact hm.heap P _ (nwr P _ hPs) (hk5 P _ hP3)) (AllBare.movedS (I1.bare.push hgb) hm)
        rw [GxR.sh_eta s1 s' hm.os] at J
        exact ⟨_, (q1 _ T2).2, J⟩
  refine ⟨lim2, ?_⟩
  cases hf : codeAmong gpos ps.toList with
  | none =>
    refine wpAny_genexprCodeX hcode (cd.code hP2 ht) (cd.tab hP2) hf fun c' h' tk hx hge hlt hco' _ htab' _ => ?_
    obtain ⟨o1, vs, f1, tf, fl, tg, inF, tx, tt, op, _, _, _, _, _, _, _, _, _, htr, _⟩ := hco'
    exact cont _ h' tk _ hx (Nat.le_trans hge (Nat.le_of_lt hlt)) htab'.2 ⟨_, rfl⟩ htr
  | some cv =>
    refine wpAny_genexprCode_hit hcode (cd.code hP2 ht) hf ?_
    exact cont cv (s1.heap.push o) s1.toks ps (Heap.ExtBut.refl _ _) (Nat.le_refl _) hP2 ⟨#[], by simp⟩ ht

/-- any(element for x in e), e a list or a tuple; behind it the def's table may have grown -/
def tAnyQ (P : Addr) (rd : L2.St → Hp → V → Bool → Prop) (te : TE) : TE := fun σ H Q => te σ H fun v H1 => ∃ (p : Addr) (xs : List V) (pb : V → Bool), v = .ref p ∧ Src H1 p xs ∧ GxR.TabG H1 P ∧
  ∀ H2, GxR.Tabbed P H1 H2 → (∀ y ∈ xs, rd σ H2 y (pb y)) ∧ Q (.bl (xs.any pb)) H2
theorem pe_anyQ {c P : Addr} {elt iter : Expr} {x : Str} {px p pos gpos : Pos} {scope : Scope} {te : TE} {rd : L2.St → Hp → V → Bool → Prop} {k : Nat}
    (hr : Room k X.A) (hg : Gl X "any") (hm : X.mg "any" = none) (TB : GxR.TabB X.base X.mg c P) (hcode : X.env.code = .ref c) (S : GxR.GenS X.env scope x) (hi : PE X iter te) (hel : EltQ X scope x elt rd)
    (hs : ∀ v, genFold iter X.env v = pure v)
    (he : starEach [.GeneratorExp elt [⟨.Name x px, iter, [], 0⟩] scope gpos] X.env = (false, eval (.GeneratorExp elt [⟨.Name x px, iter, [], 0⟩] scope gpos) X.env) :: starEach [] X.env := by rfl) :
    PE X (.Call (.Name "any" p) [.GeneratorExp elt [⟨.Name x px, iter, [], 0⟩] scope gpos] [] pos) (tAnyQ P rd te) := by
  refine ⟨fun pins s σ H Q I h => ?_⟩
  refine wpAny_Call_Name_kw (ld_blt I hg hm boot_any ?_)
  refine PyProof.Rows.callWith_builtin1 ?_ he (by rfl)
  rw [he]
  show wpAny _ _ (spliced ((false, eval (.GeneratorExp elt [⟨.Name x px, iter, [], 0⟩] scope gpos) X.env) :: backTo pos (starEach [] X.env))) _ _ s
  refine Calls.spliced_cons (gen_seq (R := fun xs pb H2 => Q (.bl (xs.any pb)) H2) hr TB hcode S hi hel hs I h fun xs pb H1 g s5 hG => ?_)
  obtain ⟨fp, wr, G, F, St, W, hst, htr, hI⟩ := hG
  refine Calls.spliced_nil ?_
  refine call_any_walkS (W.self 0 _ _ _ hst ⟨g, fp, wr, G, _, F, St, _, rfl, W, hst, htr, fun s' hmv => ?_⟩)
  obtain ⟨H2, hT, J⟩ := hI s' hmv
  refine ⟨.bl _, H2, J, rfl, ?_⟩
  rw [any_trQ xs pb]
  exact hT
end
end Tw
set_option maxRecDepth 100000
set_option maxHeartbeats 2000000
/-! The two elements: x not in found (a dict), one in self.inner[3] (a tuple of ints). -/
namespace Tw
open PySem PySem.Spec PyProof.Rows L2
section
variable {X : Cx} {scope : Scope} {x f : Str} {i : Nat} {p1 p2 p3 p4 p5 p6 : Pos} {j : Nat}
theorem clo_lookup {cells : List (Str × Addr)} {names : List (Str × NameKind)} {n : Str} {c : Addr} (h : (n, .free) ∈ names) (hc : cells.lookup n = some c) : (cloFrom cells names []).lookup n = some c := by
  have h1 := cloFrom_has (cells := cells) (acc := []) h
  obtain ⟨c', h2⟩ := mem_lookup h1
  have h3 : (n, c') ∈ cloFrom cells names [] := by
    clear h1 h hc
    generalize cloFrom cells names [] = l at h2
    induction l with
    | nil => simp at h2
    | cons q r ih =>
      obtain ⟨a, b⟩ := q
      rw [List.lookup_cons] at h2
      cases hb : n == a with
      | true =>
        rw [hb] at h2
        simp only [Option.some.injEq] at h2
        have : n = a := by simpa using hb
        subst this; subst h2
        exact List.mem_cons_self
      | false =>
        rw [hb] at h2
        exact List.mem_cons_of_mem _ (ih h2)
  rcases cloFrom_mem h3 with z | ⟨_, z⟩
  · cases z
  · rw [h2, z, hc] <;> rfl
/-- x not in f, f a dict -/
def rdNot (w : World) (i : Nat) : L2.St → Hp → V → Bool → Prop := fun σ H y b => ∃ d kvs k, σ[i]? = some (some (.ref d)) ∧ H d = some (DN w d kvs) ∧ KeysV H kvs ∧ KeyV H k y ∧ k.depth ≤ 8 ∧ b = !decide (k ∈ kvs.map (·.1))
theorem elt_not (hu : X.A.units + 80 < cLine) (hk : scope.kind = .function) (hx : scope.names.lookup x = some .local) (hf : scope.names.lookup f = some .free) (hfm : (f, .free) ∈ scope.names)
    (hN : X.N[i]? = some f) (hcell : X.env.scope.names.lookup f = some .cell) (hd : (x == ("__debug__" : Str)) = false := by decide) (hd2 : (f == ("__debug__" : Str)) = false := by decide) (hd3 : (f == ("__classdict__" : Str)) = false := by decide) :
    EltQ X scope x (.Compare (.Name x p1) [.NotIn] [.Name f p2] p3) (rdNot X.w i) := by
  intro cenv A' E' σ H y b u s₂ m₂ hs hcl hA hD hU hok hkin hcells hrd ru hn hm
  obtain ⟨d, kvs, k, hσ, hd0, hK, hky, hdp, rfl⟩ := hrd
  obtain ⟨c, z, hc, hz, rz⟩ := hcells i f _ hN hσ hcell
  cases rz
  refine wpAny_Compare1 ?_
  refine wpAny_Name (wpAny_loadName_local (by rw [hs]; exact hk) (show cenv.scope.names.lookup x = some .local by rw [hs]; exact hx) hn hm ?_) hd
  refine wpAny_Name (wpAny_loadName_free (by rw [hs]; exact hk) (show cenv.scope.names.lookup f = some .free by rw [hs]; exact hf) (by rw [hcl]; exact clo_lookup hfm hc) hz ?_ hd3) hd2
  obtain ⟨⟨zz, hms, xs, r, D⟩, _⟩ := (hok d _ hd0 : ObjOk X.prog X.w H s₂.heap d (DN X.w d kvs))
  have hKN : KeysN s₂.heap xs := fun y hy => by
    obtain ⟨i, hi, e⟩ := List.getElem_of_mem hy
    obtain ⟨x, hx, h1, h2, h3⟩ := relX_get r (i := i) (y := y) (by rw [List.getElem?_eq_getElem hi, e])
    have q := hK x (List.mem_of_getElem? hx)
    rw [← h1]
    exact ⟨KeyV.raw hok _ _ _ q.1 h2, q.2⟩
  refine notIn_N (by omega) (KeyV.raw hok _ _ _ hky ru) hdp hms D hKN ?_
  rw [relX_keys r]
  exact ⟨rfl, GxR.keeps_tok _ _⟩
/-- x in f.inner[3], f an instance, inner a tuple -/
def rdIn (K : PySem.W.Frag) (i : Nat) (n : Str) (m : Int) : L2.St → Hp → V → Bool → Prop := fun σ H y b => ∃ p C dx fs t xs a ys, σ[i]? = some (some (.ref p)) ∧ H p = some (.ins C dx fs) ∧ Cls K C ∧ NoAttr K C n ∧ fs.lookup n = some (.ref t) ∧
  H t = some (.tup xs) ∧ atI xs m = some (.ref a) ∧ H a = some (.tup ys) ∧ flatV y = true ∧ ys.all flatV = true ∧ b = inV y ys
theorem elt_in {n : Str} {m : Nat} (hk : scope.kind = .function) (hx : scope.names.lookup x = some .local) (hf : scope.names.lookup f = some .free) (hfm : (f, .free) ∈ scope.names)
    (hN : X.N[i]? = some f) (hcell : X.env.scope.names.lookup f = some .cell) (hb : ∀ cenv : Env, attributeBase (.Name f p2) n cenv (eval (.Name f p2) cenv) = eval (.Name f p2) cenv := by intro _; rfl) (hd : (x == ("__debug__" : Str)) = false := by decide) (hd2 : (f == ("__debug__" : Str)) = false := by decide) (hd3 : (f == ("__classdict__" : Str)) = false := by decide) :
    EltQ X scope x (.Compare (.Name x p1) [.In] [.Subscript (.Attribute (.Name f p2) n p3) (.Constant (.int m) j p4) p5] p6) (rdIn X.K i n m) := by
  intro cenv A' E' σ H y b u s₂ m₂ hs hcl hA hD hU hok hkin hcells hrd ru hn hm
  obtain ⟨p, C, dx, fs, t, xs, a, ys, hσ, hp, hC, hNo, hl, ht, hat, ha, fy, fys, rfl⟩ := hrd
  obtain ⟨c, z, hc, hz, rz⟩ := hcells i f _ hN hσ hcell
  cases rz
  refine wpAny_Compare1 ?_
  refine wpAny_Name (wpAny_loadName_local (by rw [hs]; exact hk) (show cenv.scope.names.lookup x = some .local by rw [hs]; exact hx) hn hm ?_) hd
  refine Subscript_ ?_
  refine attr_of (hb cenv) ?_
  refine wpAny_Name (wpAny_loadName_free (by rw [hs]; exact hk) (show cenv.scope.names.lookup f = some .free by rw [hs]; exact hf) (by rw [hcl]; exact clo_lookup hfm hc) hz ?_ hd3) hd2
  obtain ⟨mA, O, rA, _, _, _⟩ := ins_get hok hp
  obtain ⟨w1, hw1, rw1⟩ := RelO.some_of (v := .ref t) (o := mA n) (by rw [← hl]; exact rA n)
  cases rw1
  refine get_map hkin O (hC.get n) hC.hd hNo hw1 rfl ?_
  refine wpAny_Constant_int ?_
  obtain ⟨_, its, rv, pl⟩ := (hok t _ ht : ObjOk X.prog X.w H s₂.heap t (.tup xs))
  obtain ⟨j', h1, h2, h3, h4, h5⟩ := atI_get hat
  obtain ⟨w2, ew, rw2⟩ := rv.get h2
  cases rw2
  have hl2 := rv.length
  have hn63 := line63
  refine subscriptTail_builtinR (x := .ref a) pl.typeIs slot_tuple_getitem.lookup
    (getItem_tuple (j := j') pl (by omega) (by omega) (by rw [List.size_toArray, ← hl2]; exact h1) (by simpa using ew) ⟨rfl, ?_⟩) rfl
  obtain ⟨_, its2, rv2, pl2⟩ := (hok a _ ha : ObjOk X.prog X.w H s₂.heap a (.tup ys))
  refine SeqAt.in_tupleAt (eqU y) pl2 (fun w hw => mem_eqAt ru fy rv2 fys w (by simpa using hw)) ?_
  rw [show its2.toArray.any (eqU y) = its2.any (eqU y) by simp, any_eqU rv2 fys]
  exact ⟨rfl, GxR.keeps_tok _ _⟩
end
end Tw
set_option maxRecDepth 100000
set_option maxHeartbeats 2000000
/-! A method whose body begins with super().__init__(..): its promise. -/
namespace Tw
open PySem PySem.Spec PyProof.Rows L2

/-- the body's context: its one cell is __class__, made ahead of all -/
def cxS (CX : CXT) (P : Program) (w : World) (K : PySem.W.Frag) (mg : Str → Option Value) (base : Heap) (N : List Str) (qual : Str) (scope : Scope) (f : Addr) (cd : Value) (cc : Addr) (A : Around) (outer : List Env) (s : Shared) (H : Hp) (E : XK) : Cx where
  prog := P
  w := w
  K := K
  mg := mg
  base := base
  A := A.deeper (PySem.W.ksEnv qual scope s.heap.objs.size f cd cc)
  N := N
  s_0 := s
  H_0 := H
  env := PySem.W.ksEnv qual scope s.heap.objs.size f cd cc
  outer := outer
  stack := PySem.W.ksEnv qual scope s.heap.objs.size f cd cc :: outer
  ex := []
  calm := true
  fn := fun _ => false
  pn := []
  xe := fun e s' => wpAny (model P w) (A.deeper (PySem.W.ksEnv qual scope s.heap.objs.size f cd cc)) (leaving (PySem.W.ksEnv qual scope s.heap.objs.size f cd cc) e) (fun _ s'' => CX outer H s E e s'') (fun e' s'' => CX outer H s E e' s'') s'

/-- what the scope must be -/
structure SupScope (N ps : List Str) (sc : Scope) : Prop where
  nd : N.Nodup
  pre : N.take ps.length = ps
  kind : sc.kind = .function
  co : sc.isCoroutine = false
  gen : sc.isGenerator = false
  par : ∀ x ∈ ps, sc.names.lookup x = some .local
  cell : ∀ y ∈ sc.names, y.2 ≠ .cell
  free : ∀ y ∈ sc.names, y.2 = .free → y.1 = "__class__"
  cls : sc.names.lookup ("__class__" : Str) = some .free
  sup : sc.names.lookup ("super" : Str) = some .globalImplicit

/-- what the written part says of the method at f, of the class at D that its cell holds, of the class at C whose __init__ it is, and of the base's __init__ at f2 -/
structure Sup (P : Program) (K : PySem.W.Frag) (mg : Str → Option Value) (name qual : Str) (params : Arguments) (body : List Stmt) (scope : Scope) (f : Addr) (fd : FuncData) (C f2 : Addr) (cda cc : Addr) : Prop where
  fn : ∃ (oc : Value) (od : Option Addr) (dV kV doc pm : Value) (an : Option Addr) (ct : Value) (osl : Array (Option Value)), fd = PySem.W.ksFn name qual params body scope dV kV doc pm an (.ref cda) ct cc ∧ K.lookup f = some ⟨oc, od, .func fd, osl⟩
  code : PySem.W.codeIn K (.ref cda) qual = true
  file : ∃ (ccl : Value) (cdd : Option Addr) (vs : Array Value) (ccs : Array (Option Value)) (fi : Str) (tf : Tok), K.lookup cda = some ⟨ccl, cdd, .fields vs, ccs⟩ ∧ vs[2]? = some (.str fi tf) ∧ ((P.main.file : Str) == fi) = true
  cell : ∃ (D : Addr) (cl : Value) (cld : Option Addr) (csl : Array (Option Value)) (cdD : ClassData), K.lookup cc = some ⟨cl, cld, .cell (some (.ref D)), csl⟩ ∧ PySem.W.clsIn K D = some cdD ∧ PySem.W.mroIn K C (.ref D) = some true ∧
    PySem.W.ks_superIn K C D "__init__" = some (some (.ref f2))
  sup : mg "super" = none
  top : (P.main.scope.names.lookup ("super" : Str)).isSome = false
  noOpaque : PySem.W.nsIn K cStatics "thirdparty.any" = some none
  ty : PySem.W.typeIn K (.ref f2) = some (.type "function")
  fi : PySem.W.fnIn K f2 = true

theorem nodup_rev {α : Type} {l : List α} (h : l.Nodup) : l.reverse.Nodup := by
  unfold List.Nodup at h ⊢
  rw [List.pairwise_reverse]
  exact h.imp fun h => Ne.symm h
theorem boot_super : bootBuiltins "super" = some (.type "super") := by first | rfl | decide +kernel

section
variable {CX : CXT} {P : Program} {w : World} {K : PySem.W.Frag} {mg : Str → Option Value} {base : Heap}
theorem inv_startS {N ps : List Str} {qual : Str} {scope : Scope} {f : Addr} {cd : Value} {cc : Addr} {A : Around} {outer : List Env} {s : Shared} {h1 : Heap} {tk : Nat} {H : Hp} {E : XK} {us : List Value} {vs : List V}
    (S : SupScope N ps scope) (hd : A.handled = none) (e0 : Env0 P w K mg base A outer s H) (hl : vs.length = ps.length) (r : Vals vs us)
    (hcc : ∃ o v, base.get? cc = some o ∧ o.data = .cell v)
    (hns : h1.Ns s.heap.objs.size fun x => (ps.zip us).reverse.lookup x) (hk : ∀ b o, s.heap.get? b = some o → h1.get? b = some o) :
    Inv (cxS CX P w K mg base N qual scope f cd cc A outer s H E) [] (L2.start N vs) H { s with heap := h1, toks := tk } := by
  have hpl : ps.length ≤ N.length := by have := congrArg List.length S.pre; rw [List.length_take] at this; omega
  have noA : ∀ b : Addr, b ∉ (cxS CX P w K mg base N qual scope f cd cc A outer s H E).ex := fun b z => absurd (show b ∈ ([] : List Addr) from z) (by simp)
  obtain ⟨oc, vc, hoc, hdc⟩ := hcc
  have lk : ∀ x c, (cxS CX P w K mg base N qual scope f cd cc A outer s H E).env.cells.lookup x = some c → x = "__class__" ∧ c = cc := fun x c h => by
    have h : List.lookup x [(("__class__" : Str), cc)] = some c := h
    rw [List.lookup_cons] at h
    cases hb : x == ("__class__" : Str) with
    | true =>
      rw [hb] at h
      exact ⟨by simpa using hb, (Option.some.inj h).symm⟩
    | false =>
      rw [hb] at h
      cases h
  refine ⟨⟨e0.mod, S.kind, rfl, rfl, Nat.le_refl _, fun y z c h1 h2 => ?_, fun y hy => ?_, fun y c h _ => (nomatch (show false = true from h)), fun _ => hd, Around.frames_deeper e0.frames, .inr ⟨rfl, rfl⟩, fun b z => absurd z (noA b), e0.bs, e0.bsz, fun b _ _ => noA b, fun b z => absurd z (noA b), e0.funs, e0.frf⟩,
    rfl, e0.bare, Un.kept hk, ⟨_, hns, fun i y v h1 h2 h3 => ?_⟩, fun y c h => ?_, e0.hok.fresh (Nat.le_refl _), fun y c h => ?_, fun p hp => absurd (show p ∈ ([] : List (Addr × Obj)) from hp) (by simp), e0.hok.kept hk, ?_⟩
  · rw [(lk _ _ h1).1, (lk _ _ h2).1]
  · have hy : scope.names.lookup y = some .cell ∨ scope.names.lookup y = some .free := hy
    rcases hy with hy | hy
    · exact absurd rfl (S.cell _ (PySem.mem_of_lookup hy))
    · have e := S.free _ (PySem.mem_of_lookup hy) rfl
      have e : y = "__class__" := e
      subst e
      exact ⟨cc, by show List.lookup _ [(("__class__" : Str), cc)] = some cc; simp [List.lookup]⟩
  · have hi : i < vs.length := by
      unfold L2.start at h2
      by_cases hi : i < vs.length
      · exact hi
      · rw [List.getElem?_append_right (by simpa using hi)] at h2
        rw [List.getElem?_replicate] at h2
        split at h2 <;> cases h2
    have ha : vs[i]? = some v := by
      unfold L2.start at h2
      rw [List.getElem?_append_left (by simpa using hi), List.getElem?_map] at h2
      cases e : vs[i]? with
      | none => rw [e] at h2; cases h2
      | some a => rw [e] at h2; cases h2; rfl
    obtain ⟨u, hu, rv⟩ := r.get ha
    have hp : ps[i]? = some y := by
      rw [← S.pre, List.getElem?_take_of_lt (by omega)]; exact h1
    have ndP : ps.Nodup := by rw [← S.pre]; exact S.nd.sublist (List.take_sublist _ _)
    refine ⟨u, rv, .inl ⟨S.par y (List.mem_of_getElem? hp), ?_⟩⟩
    have hz : (ps.zip us)[i]? = some (y, u) := by rw [List.getElem?_zip_eq_some]; exact ⟨hp, hu⟩
    have nz : ((ps.zip us).map (·.1)).Nodup := by
      have e1 : (ps.zip us).map (·.1) = ps := List.map_fst_zip (by rw [← r.length]; omega)
      rw [e1]
      exact ndP
    show (ps.zip us).reverse.lookup y = some u
    have hm : (y, u) ∈ (ps.zip us).reverse := List.mem_reverse.mpr (List.mem_of_getElem? hz)
    have nr : ((ps.zip us).reverse.map (·.1)).Nodup := by rw [List.map_reverse]; exact nodup_rev nz
    generalize (ps.zip us).reverse = l at hm nr
    clear hz nz
    induction l with
    | nil => cases hm
    | cons q l ih =>
      obtain ⟨a, b⟩ := q
      rw [List.map_cons, List.nodup_cons] at nr
      rw [List.lookup_cons]
      rcases List.mem_cons.mp hm with z | z
      · cases z
        simp
      · have : (y == a) = false := by
          rw [beq_eq_false_iff_ne]
          rintro rfl
          exact nr.1 (List.mem_map.mpr ⟨_, z, rfl⟩)
        rw [this]
        exact ih z nr.2
  · rw [(lk _ _ h).2]
    exact ⟨vc, oc, hk _ _ (e0.bs _ _ hoc).1, hdc⟩
  · rw [(lk _ _ h).2]
    exact (e0.bs _ _ hoc).2
  · unfold L2.start
    show _ = N.length
    rw [List.length_append, List.length_map, List.length_replicate]
    omega

/-- super().__init__(es) ahead, then the rest of the body -/
theorem fn_super {k : Nat} {f f2 C cda cc : Addr} {name qual : Str} {params : Arguments} {e : Expr} {es : List Expr} {rest : List Stmt} {scope : Scope} {fd fd2 : FuncData} {N ps ps2 : List Str} {sp sp2 : Sp} {p0 p1 p2 p4 p5 : Pos} {ar : Arg}
    (U : Sup P K mg name qual params (.Expr (.Call (.Attribute (.Call (.Name "super" p0) [] [] p1) "__init__" p2) (e :: es) [] p4) p5 :: rest) scope f fd C f2 cda cc)
    (S : SupScope N ps scope) (har : (params.posonlyargs ++ params.args).head? = some ar) (har0 : N[0]? = some ar.arg) (harl : scope.names.lookup ar.arg = some .local)
    (F2 : FnOk P w K mg base CX k f2 fd2 ps2 sp2) (hb2 : Binds K fd2 ps2 [])
    (len : ∀ vs H Q E, sp vs H Q E → vs.length = ps.length)
    (hbody : ∀ (A : Around) (outer : List Env) (s : Shared) (H : Hp) (vs : List V) (Q : VK) (E : XK), Room k (A.deeper (PySem.W.ksEnv qual scope s.heap.objs.size f (.ref cda) cc)) → sp vs H Q E →
      ∃ (t : TA) (t2 : TS) (x dx : Addr) (fs : List (Str × V)) (E2 : XK), PA (cxS CX P w K mg base N qual scope f (.ref cda) cc A outer s H E) (e :: es) t ∧ PSs (cxS CX P w K mg base N qual scope f (.ref cda) cc A outer s H E) rest t2 ∧
        Passes CX (cxS CX P w K mg base N qual scope f (.ref cda) cc A outer s H E) E2 ∧
        vs[0]? = some (.ref x) ∧ H x = some (.ins C dx fs) ∧ t (L2.start N vs) H fun ws H1 => H1 = H ∧ sp2 (.ref x :: ws) H1 (fun _ H2 => t2 { nx := fun _ H' => Q .non H', rt := Q } (L2.start N vs) H2) E2)
    (hst : ∀ L, starEach (e :: es) (PySem.W.ksEnv qual scope L f (.ref cda) cc) = (false, eval e (PySem.W.ksEnv qual scope L f (.ref cda) cc)) :: starEach es (PySem.W.ksEnv qual scope L f (.ref cda) cc) := by intro _; rfl)
    (hpl : ∀ L, (backTo p4 (starEach es (PySem.W.ksEnv qual scope L f (.ref cda) cc))).any (·.1) = false := by intro _; rfl)
    (hin : ∀ L, interactive (PySem.W.ksEnv qual scope L f (.ref cda) cc) = false := by intro _; rfl)
    (hsw : ∀ L, swapsWith (.Call (.Attribute (.Call (.Name "super" p0) [] [] p1) "__init__" p2) (e :: es) [] p4) none p5.line (PySem.W.ksEnv qual scope L f (.ref cda) cc) = pure false := by intro _; rfl)
    (hev : ∀ L (o : Expr), o = .Call (.Name "super" p0) [] [] p1 → eval (.Call (.Attribute o "__init__" p2) (e :: es) [] p4) (PySem.W.ksEnv qual scope L f (.ref cda) cc) = (do
      let ov ← attributeBase o "__init__" (PySem.W.ksEnv qual scope L f (.ref cda) cc) (eval o (PySem.W.ksEnv qual scope L f (.ref cda) cc))
      standAt p2.atName
      let (f', first) ← holding [ov] (getMethod ov "__init__" (pure false))
      callWith p4 f' first (backTo p4 (starEach (e :: es) (PySem.W.ksEnv qual scope L f (.ref cda) cc))) []) := by intro _ _ h; subst h; rfl) :
    FnOk P w K mg base CX (k + 1) f fd ps sp := by
  obtain ⟨oc, od, dV, kV, doc, pm, an, ct, osl, rfl, lk⟩ := U.fn
  obtain ⟨D, cl, cld, csl, cdD, lcc, hD, hmro, hsupIn⟩ := U.cell
  obtain ⟨ccl, cdd, cvs, ccs, file, tf, lcda, hvs, hfile⟩ := U.file
  refine ⟨len, fun A outer s H args us vs Q E hr e0 hb r hsp => ?_⟩
  have hl := len _ _ _ _ hsp
  have KX : K.In s.heap := e0.mod.kin.keeps fun b o e => (e0.bs b o e).1
  have lim : s.heap.NoLimit := e0.mod.nolimit.keeps fun b o e => (e0.bs b o e).1
  refine ks_codeAny_call_defAt (body := .Expr (.Call (.Attribute (.Call (.Name "super" p0) [] [] p1) "__init__" p2) (e :: es) [] p4) p5 :: rest) hr.depth (KX _ _ lk) rfl lim (PySem.W.codeRec_of KX U.code) rfl hb S.cell (fun y hy => S.par y.1 (List.of_mem_zip (show (y.1, y.2) ∈ ps.zip us from hy)).1) (fun h1 hns hk1 => ?_) S.co S.gen S.kind
  show _root_.PySem.wpAt (model P w) (A.deeper (PySem.W.ksEnv qual scope s.heap.objs.size f (.ref cda) cc)) (.func _ (PySem.W.ksEnv qual scope s.heap.objs.size f (.ref cda) cc)) (execs _ (PySem.W.ksEnv qual scope s.heap.objs.size f (.ref cda) cc)) _ _ _
  obtain ⟨t, t2, x, dx, fs, E2, hPA, hPS, hpass, hx0, hHx, hq⟩ := hbody A outer s H vs Q E (hr.deeper _) hsp
  have I0 : Inv (cxS CX P w K mg base N qual scope f (.ref cda) cc A outer s H E) [] (L2.start N vs) H { s with heap := h1, toks := s.toks + (ps.zip us).length } :=
    inv_startS S hr.hd e0 hl r ⟨_, _, e0.mod.kin _ _ lcc, rfl⟩ hns hk1
  -- the rest of the body, and how the def ends
  have fin : ∀ {σ' : L2.St} {H' : Hp} {v : V} {u : Value} {s' : Shared}, Inv (cxS CX P w K mg base N qual scope f (.ref cda) cc A outer s H E) [] σ' H' s' → RelV v u → Q v H' → CE outer P w H s Q u s' :=
    fun {σ' H' v u s'} J rv q => ⟨v, H', J.os, J.bare, J.base, J.hok, rv, q⟩
  refine ks_wpAt_execs_cons (PySem.ks_wpAt_mono (Q := fun fl s' => fl = .next ∧ ∃ H2, Inv (cxS CX P w K mg base N qual scope f (.ref cda) cc A outer s H E) [] (L2.start N vs) H2 s' ∧ t2 { nx := fun _ H' => Q .non H', rt := Q } (L2.start N vs) H2) ?_ (fun fl s' hs => ?_) fun _ _ z => z)
  · -- super().__init__(..)
    refine ks_wpAt_Expr_any (ks_wpAt_MethodCall (pl := pure false) ?_ (hev _ _ rfl)) (hin _) (hsw _)
    obtain ⟨oD, hD1, hD2⟩ : ∃ oD, h1.get? D = some oD ∧ oD.data = .cls cdD := by
      unfold PySem.W.clsIn at hD
      split at hD
      · rename_i c d cd' sl ho
        cases hD
        exact ⟨_, I0.kIn _ _ ho, rfl⟩
      · cases hD
    obtain ⟨mA, O, _, _, _, _⟩ := ins_get I0.hok hHx
    obtain ⟨odx, J, _⟩ := O.look
    refine ks_wpAt_super_base (env := PySem.W.ksEnv qual scope s.heap.objs.size f (.ref cda) cc) S.sup S.cls (by decide) rfl (I0.kIn _ _ lk) rfl har rfl (I0.kIn _ _ lcda) rfl hvs hfile U.top ?_
    refine PySem.W.ks_loadName_global S.kind S.sup ?_

    obtain ⟨mb, hb1, hb2'⟩ := I0.mod.blt
    refine Calls.loadGlobal_builtin (env := PySem.W.ksEnv qual scope s.heap.objs.size f (.ref cda) cc) (I0.mod.glob.keeps I0.bk) U.sup (hb1.keeps I0.bk) ((hb2' _ (by decide)).trans boot_super) ⟨rfl, ?_⟩
    refine wpAny_loadName_free S.kind S.cls rfl ⟨_, I0.kIn _ _ lcc, rfl⟩ ?_
    have hself : (ps.zip us).reverse.lookup ar.arg = some (.ref x) := by
      obtain ⟨m, hm1, hm2⟩ := I0.loc
      obtain ⟨u, ru, z⟩ := hm2 0 ar.arg (.ref x) har0 (by
        unfold L2.start
        have h0 : 0 < vs.length := (List.getElem?_eq_some_iff.mp hx0).1
        rw [List.getElem?_append_left (by simpa using h0), List.getElem?_map, hx0]
        rfl) (.inl harl)
      rcases z with ⟨_, z⟩ | ⟨z, _⟩
      · cases ru
        have e := hns.agree hm1 ar.arg
        rw [e]; exact z
      · have z' : scope.names.lookup ar.arg = some .cell ∨ scope.names.lookup ar.arg = some .free := z
        rw [harl] at z'
        rcases z' with z' | z' <;> cases z'
    refine wpAny_loadName_local S.kind harl hns hself ?_
    refine ks_wpAny_isType_cls hD1 hD2 ⟨rfl, ?_⟩
    refine ks_wpAny_call_super hD1 hD2 J.at_ J.cls (fun c e => ?_) (PySem.W.looks_mroIn I0.kIn hmro) (fun h2 e2 k2 => ?_)
    · have := J.no
      unfold PySem.W.notCls at this
      rw [e] at this
      exact Bool.noConfusion this
    · have I1 : Inv (cxS CX P w K mg base N qual scope f (.ref cda) cc A outer s H E) [] (L2.start N vs) H { s with heap := h2, toks := s.toks + (ps.zip us).length } := I0.kept k2
      cases hc : PySem.W.clsIn K C with
      | none => unfold PySem.W.ks_superIn at hsupIn; rw [hc] at hsupIn; cases hsupIn
      | some cd =>
        unfold PySem.W.ks_superIn at hsupIn
        rw [hc] at hsupIn
        obtain ⟨of, hof, hofc⟩ : ∃ of, h2.get? f2 = some of ∧ of.cls = .type "function" := by
          have ht' : (K.lookup f2).map (·.cls) = some (.type "function") := U.ty
          cases z : K.lookup f2 with
          | none => rw [z] at ht'; cases ht'
          | some of => rw [z] at ht'; exact ⟨of, I1.kIn _ _ z, Option.some.inj ht'⟩
        refine ks_wpAny_getMethod_super e2 (PySem.W.looks_opaque I1.kIn U.noOpaque) (l₀ := cd.mro) (fun A Q E s k q => wpAny_bind ((PySem.W.looks_clsIn I1.kIn hc) A _ E s k (wpAny_pure q))) rfl I1.kIn hsupIn hof hofc (PySem.W.ks_ne I0.kIn J hc) (by decide) ?_
        have I2 := ClX.pin_new (a := h2.objs.size) (o := PySem.W.methodObj (.ref f2) (.ref x)) (h' := h2.push (PySem.W.methodObj (.ref f2) (.ref x))) (t' := s.toks + (ps.zip us).length + 1) I1 (fun _ _ z => Heap.get?_push_of_some _ z) (Nat.le_refl _) (Heap.get?_push_size h2 rfl) (fun v z => nomatch z)
        refine ClX.callwith_cm I2 (ClX.base_none I1 (Nat.le_refl _)) U.fi (thn (hPA.run p4 _ _ (L2.start N vs) H _ I2 hq) fun ws s3 hh => ?_) (hst _) (hpl _)
        obtain ⟨zs, H3, I3, rv, e3, q3⟩ := hh
        rw [e3] at I3 q3
        refine ⟨⟨ClX.pin_at I3, I3.kIn⟩, ?_⟩
        have FR : FnR P w K mg base CX k f2 (fun vs H Q E => sp2 (vs ++ []) H Q E) := F2.raw hb2 .nil
        have z : wpAny (model P w) (A.deeper (PySem.W.ksEnv qual scope s.heap.objs.size f (.ref cda) cc)) (call (.ref h2.objs.size) ws) (EP (cxS CX P w K mg base N qual scope f (.ref cda) cc A outer s H E) ((h2.objs.size, PySem.W.methodObj (.ref f2) (.ref x)) :: []) (L2.start N vs) (fun _ H2 => t2 { nx := fun _ H' => Q .non H', rt := Q } (L2.start N vs) H2)) (cxS CX P w K mg base N qual scope f (.ref cda) cc A outer s H E).xe s3 :=
          wpAny_call (PySem.W.method_call (ClX.pin_at I3) (run_fnR (X := cxS CX P w K mg base N qual scope f (.ref cda) cc A outer s H E) (us := .ref x :: ws) (vs := .ref x :: zs) FR (hr.deeper _) hpass I3 (.cons rfl rv) (by rw [List.append_nil]; exact q3)))
        refine thn z fun u s4 ⟨v4, H4, I4, _, q4⟩ => ⟨rfl, H4, ClX.unpin I4, q4⟩
  · obtain ⟨rfl, H2, I2, q2⟩ := hs
    refine wpAt_of_wpAny (wpAny_mono (hPS.run [] s' (L2.start N vs) H2 _ I2 q2) (fun fl s'' hs => ?_) fun _ _ z => z)
    show CR CX outer P w H s Q E _ s''
    cases fl with
    | ret u =>
      obtain ⟨v, σ', H', J, rv, q⟩ := hs
      exact fin J rv q
    | next =>
      obtain ⟨σ', H', J, q⟩ := hs
      exact fin (v := V.non) (u := Value.none) J rfl q
    | brk =>
      obtain ⟨_, _, _, q⟩ := hs
      exact False.elim q
    | cont =>
      obtain ⟨_, _, _, q⟩ := hs
      exact False.elim q
end
end Tw
set_option maxRecDepth 100000
set_option maxHeartbeats 2000000
/-! Words for the walks: what is kept (Ex), a def with its promise (Gd), how sentences and readers lie in the heap. -/
namespace Tw
open PySem PySem.Spec PyProof.Rows L2

/-- all that stood stands; tables may have grown -/
structure Ex (H H' : Hp) : Prop where
  keep : ∀ b o, H b = some o → (∀ ps, o ≠ .tbl ps) → H' b = some o
  tab : ∀ b ps, H b = some (.tbl ps) → ∃ qs, H' b = some (.tbl qs) ∧ (TriplesOk ps.toList → TriplesOk qs.toList)
section
variable {H H1 H2 : Hp} {a p : Addr} {o : HO}
theorem Ex.refl (H : Hp) : Ex H H := ⟨fun _ _ h _ => h, fun _ ps h => ⟨ps, h, id⟩⟩
theorem Ex.trans (x : Ex H H1) (y : Ex H1 H2) : Ex H H2 := ⟨fun b o h n => y.keep b o (x.keep b o h n) n, fun b ps h => by
  obtain ⟨qs, e, t⟩ := x.tab b ps h
  obtain ⟨rs, e', t'⟩ := y.tab b qs e
  exact ⟨rs, e', fun z => t' (t z)⟩⟩
theorem Ex.free (x : Ex H H1) (h : H1 p = none) : H p = none := by
  cases e : H p with
  | none => rfl
  | some o =>
    by_cases n : ∃ ps, o = .tbl ps
    · obtain ⟨ps, rfl⟩ := n
      obtain ⟨qs, e', _⟩ := x.tab p ps e
      rw [h] at e'; cases e'
    · have := x.keep p o e fun ps z => n ⟨ps, z⟩
      rw [h] at this; cases this
theorem Ex.mut (x : Ex H H1) (h : H p = none) : Ex H (upd H1 p o) := ⟨fun b u e n => by rw [upd_ne (ne_of_none e h)]; exact x.keep b u e n, fun b ps e => by
  obtain ⟨qs, e', t⟩ := x.tab b ps e
  exact ⟨qs, by rw [upd_ne (ne_of_none e h)]; exact e', t⟩⟩
theorem Ex.new (x : Ex H H1) (h : H1 p = none) : Ex H (upd H1 p o) := x.mut (x.free h)
theorem Ex.add (h : H p = none) : Ex H (upd H p o) := (Ex.refl H).new h
theorem Ex.tabbed {P : Addr} (x : Ex H H1) (t : GxR.TabG H1 P) (y : GxR.Tabbed P H1 H2) : Ex H H2 := x.trans ⟨fun b u e n => by
  by_cases hb : b = P
  · obtain ⟨ps, e', _⟩ := t
    rw [hb, e'] at e
    exact absurd (Option.some.inj e).symm (n ps)
  · rw [y.2 b hb]; exact e, fun b ps e => by
  by_cases hb : b = P
  · obtain ⟨qs, e', t'⟩ := y.1
    exact ⟨qs, by rw [hb]; exact e', fun _ => t'⟩
  · exact ⟨ps, by rw [y.2 b hb]; exact e, id⟩⟩
theorem Ex.lst (x : Ex H H1) {xs : List V} (h : H a = some (.lst xs)) : H1 a = some (.lst xs) := x.keep _ _ h fun _ z => by cases z
theorem Ex.tup (x : Ex H H1) {xs : List V} (h : H a = some (.tup xs)) : H1 a = some (.tup xs) := x.keep _ _ h fun _ z => by cases z
theorem Ex.ins (x : Ex H H1) {C dx : Addr} {fs : List (Str × V)} (h : H a = some (.ins C dx fs)) : H1 a = some (.ins C dx fs) := x.keep _ _ h fun _ z => by cases z
theorem Ex.dn (x : Ex H H1) {w : World} {d : Addr} {kvs : List RowV} (h : H a = some (DN w d kvs)) : H1 a = some (DN w d kvs) := x.keep _ _ h fun _ z => by unfold DN at z; cases z
theorem Ex.key (x : Ex H H1) {k : NKey} {v : V} (h : KeyV H k v) : KeyV H1 k v := h.mono fun _ _ z => x.tup z
theorem Ex.keys (x : Ex H H1) {kvs : List RowV} (h : KeysV H kvs) : KeysV H1 kvs := h.mono fun _ _ z => x.tup z
theorem Ex.sqT (x : Ex H H1) {K : PySem.W.Frag} {xs : List V} (h : H a = some (.tup xs)) : SqT K H1 a xs := SqT.of (x.tup h)
theorem Ex.tabG (x : Ex H H1) {P : Addr} (h : GxR.TabG H P) : GxR.TabG H1 P := by
  obtain ⟨ps, e, t⟩ := h
  obtain ⟨qs, e', t'⟩ := x.tab _ _ e
  exact ⟨qs, e', t' t⟩
theorem Ex.any (x : Ex H H1) {C : Addr} (h : H C ≠ none) : H1 C ≠ none := fun e => h (x.free e)
end

theorem dep_nums : ∀ ns : List Int, NestedKey.depthAll (ns.map NestedKey.num) ≤ 1
  | [] => by simp [NestedKey.depthAll]
  | n :: ns => by
    have := dep_nums ns
    simp only [List.map_cons, NestedKey.depthAll, NestedKey.depth]
    omega
theorem dep_tup (ns : List Int) : NestedKey.depth (.tup (ns.map NestedKey.num)) ≤ 8 := by
  have := dep_nums ns
  simp only [NestedKey.depth]
  omega
/-- tuples stay -/
def TupK (H H' : Hp) : Prop := ∀ a vs, H a = some (.tup vs) → H' a = some (.tup vs)
theorem TupK.refl (H : Hp) : TupK H H := fun _ _ h => h
theorem TupK.trans {H H1 H2 : Hp} (x : TupK H H1) (y : TupK H1 H2) : TupK H H2 := fun a vs h => y a vs (x a vs h)
theorem Ex.tk {H H' : Hp} (x : Ex H H') : TupK H H' := fun _ _ h => x.tup h
theorem TupK.mut {H H1 : Hp} {p : Addr} {o : HO} (x : TupK H H1) (h : ∀ vs, H1 p ≠ some (.tup vs)) : TupK H (upd H1 p o) := fun a vs e => by
  have e1 := x a vs e
  by_cases ha : a = p
  · subst ha; exact absurd e1 (h vs)
  · rw [upd_ne ha]; exact e1
/-- H without what stands at t -/
def cut (H : Hp) (t : Addr) : Hp := fun b => if b = t then none else H b
theorem cut_at {H : Hp} {t : Addr} : cut H t t = none := by unfold cut; rw [if_pos rfl]
theorem cut_ne {H : Hp} {t b : Addr} (h : b ≠ t) : cut H t b = H b := by unfold cut; rw [if_neg h]
theorem Ex.cut {H : Hp} {t : Addr} : Ex (cut H t) H := by
  have k : ∀ b o, Tw.cut H t b = some o → H b = some o := fun b o e => by
    by_cases hb : b = t
    · rw [hb, cut_at] at e; cases e
    · rw [cut_ne hb] at e; exact e
  exact ⟨fun b o e _ => k b o e, fun b ps e => ⟨ps, k b _ e, id⟩⟩
/-- behind the making of an object -/
theorem Ex.made {H H' : Hp} {x dx : Addr} {o o' : HO} (nx : H x = none) (nd : H dx = none) (e : Ex (Tw.cut (upd (upd H dx o) x o') x) H') : Ex H H' := by
  refine Ex.trans ⟨fun b u h _ => ?_, fun b ps h => ⟨ps, ?_, id⟩⟩ e
  · rw [cut_ne (ne_of_none h nx), upd_ne (ne_of_none h nx), upd_ne (ne_of_none h nd)]; exact h
  · rw [cut_ne (ne_of_none h nx), upd_ne (ne_of_none h nx), upd_ne (ne_of_none h nd)]; exact h

/-! ### a def with its promise -/
def Gd (P : Program) (w : World) (K : PySem.W.Frag) (mg : Str → Option Value) (base : Heap) (CX : CXT) (k : Nat) (f : Addr) (ps : List Str) (sp : Sp) : Prop :=
  ∃ fd, FnOk P w K mg base CX k f fd ps sp ∧ Binds K fd ps [] ∧ PySem.W.keepIn K (.ref f) = true
section
variable {P : Program} {w : World} {K : PySem.W.Frag} {mg : Str → Option Value} {base : Heap} {CX : CXT} {j k : Nat} {f : Addr} {ps : List Str} {sp sp' : Sp}
theorem Gd.mono (G : Gd P w K mg base CX j f ps sp) (h : j ≤ k) : Gd P w K mg base CX k f ps sp := by
  obtain ⟨fd, F, b, kp⟩ := G
  exact ⟨fd, F.mono h, b, kp⟩
theorem Gd.imp (G : Gd P w K mg base CX k f ps sp) (h : ∀ vs H Q E, sp' vs H Q E → sp vs H Q E) : Gd P w K mg base CX k f ps sp' := by
  obtain ⟨fd, F, b, kp⟩ := G
  exact ⟨fd, F.imp h, b, kp⟩
/-- many promises of one def -/
theorem fnOk_all {ι : Sort _} {fd : FuncData} {sp : ι → Sp} (G : ∀ i, FnOk P w K mg base CX k f fd ps (sp i)) : FnOk P w K mg base CX k f fd ps fun vs H Q E => ∃ i, sp i vs H Q E :=
  ⟨fun vs H Q E ⟨i, h⟩ => (G i).len _ _ _ _ h, fun A outer s H args us vs Q E hr e0 hb r ⟨i, h⟩ => (G i).run A outer s H args us vs Q E hr e0 hb r h⟩
/-- a promise that is never asked -/
theorem fnOk_no {fd : FuncData} {sp : Sp} (h : ∀ vs H Q E, ¬ sp vs H Q E) : FnOk P w K mg base CX k f fd ps sp :=
  ⟨fun vs H Q E z => (h _ _ _ _ z).elim, fun A outer s H args us vs Q E hr e0 hb r z => (h _ _ _ _ z).elim⟩
end
section
variable {X : Cx} {CX : CXT} {k : Nat} {f C : Addr} {ps : List Str} {sp : Sp} {E : XK} {x m : Str} {p pos apos : Pos} {e o : Expr} {es : List Expr} {ta : TE} {t : TA}
abbrev GX (X : Cx) (CX : CXT) (k : Nat) (f : Addr) (ps : List Str) (sp : Sp) : Prop := Gd X.prog X.w X.K X.mg X.base CX k f ps sp
/-- f(e, ..) -/
theorem pe_cG (G : GX X CX k f ps sp) (hr : Room k X.A) (hg : Gl X x) (hm : X.mg x = some (.ref f)) (hx : Passes CX X E)
    (ha : PA X (e :: es) t) (hdb : (x == ("__debug__" : Str)) = false := by decide) (he : starEach (e :: es) X.env = (false, eval e X.env) :: starEach es X.env := by rfl) (hpl : (backTo pos (starEach es X.env)).any (·.1) = false := by rfl) :
    PE X (.Call (.Name x p) (e :: es) [] pos) (tCall sp [] E t) := by
  obtain ⟨fd, F, b, kp⟩ := G
  exact pe_call F hr hg hm kp b .nil hx ha hdb he hpl
/-- o.m(e, ..) -/
theorem pe_mG {pl : Sem Bool} (he : PE X o ta) (c : Cls X.K C) (hm : Meth X.K C m f) (G : GX X CX k f ps sp) (hr : Room k X.A) (hx : Passes CX X E) (ha : PA X (e :: es) t)
    (hst : starEach (e :: es) X.env = (false, eval e X.env) :: starEach es X.env := by rfl) (hpl : (backTo pos (starEach es X.env)).any (·.1) = false := by rfl)
    (ht : eval (.Call (.Attribute o m apos) (e :: es) [] pos) X.env = (do
      let ov ← eval o X.env
      standAt apos.atName
      let (f, first) ← holding [ov] (getMethod ov m pl)
      callWith pos f first (backTo pos (starEach (e :: es) X.env)) (backToKw pos (keywordEach [] X.env))) := by rfl) :
    PE X (.Call (.Attribute o m apos) (e :: es) [] pos) (tMeth C m sp [] E ta t) := by
  obtain ⟨fd, F, b, kp⟩ := G
  exact pe_meth he c hm F hr b .nil hx ha hst hpl ht
/-- o.m() -/
theorem pe_mG0 {pl : Sem Bool} (he : PE X o ta) (c : Cls X.K C) (hm : Meth X.K C m f) (G : GX X CX k f ps sp) (hr : Room k X.A) (hx : Passes CX X E)
    (ht : eval (.Call (.Attribute o m apos) [] [] pos) X.env = (do
      let ov ← eval o X.env
      standAt apos.atName
      let (f, first) ← holding [ov] (getMethod ov m pl)
      callWith pos f first (backTo pos (starEach [] X.env)) (backToKw pos (keywordEach [] X.env))) := by rfl) :
    PE X (.Call (.Attribute o m apos) [] [] pos) (tMeth C m sp [] E ta tNil) := by
  obtain ⟨fd, F, b, kp⟩ := G
  exact pe_meth0 he c hm F hr b .nil hx ht
/-- C(e, ..) -/
theorem pe_kG (M : Mk X.K C f) (G : GX X CX k f ps sp) (hr : Room (k + 1) X.A) (hg : Gl X x) (hm : X.mg x = some (.ref C)) (hx : Passes CX X E)
    (ha : PA X (e :: es) t) (hdb : (x == ("__debug__" : Str)) = false := by decide) (he : starEach (e :: es) X.env = (false, eval e X.env) :: starEach es X.env := by rfl) (hpl : (backTo pos (starEach es X.env)).any (·.1) = false := by rfl) :
    PE X (.Call (.Name x p) (e :: es) [] pos) (tMake C sp [] E t) := by
  obtain ⟨fd, F, b, kp⟩ := G
  exact pe_make M F hr hg hm b .nil hx ha hdb he hpl
end

/-! ### rules for a comprehension's block: K named -/
section
variable {X : Cx} {K : PySem.W.Frag} {e : Expr} {f : Str} {pos : Pos} {ta : TE} {tg l : Expr}
theorem ix_tupK (h : X.K = K := by rfl) : IxR X (rIxT K) := h ▸ ix_tup
theorem ix_listK (h : X.K = K := by rfl) : IxR X (rIxL K) := h ▸ ix_list
theorem pe_fldK (he : PE X e ta) (h : X.K = K := by rfl) (hb : attributeBase e f X.env (eval e X.env) = eval e X.env := by rfl) : PE X (.Attribute e f pos) (tFld K ta f) := h ▸ pe_fld he hb
theorem pi_tupK (he : PE X l ta) (h : X.K = K := by rfl) : PI X tg l (iTup K ta) := h ▸ pi_tup he
theorem pi_listK (he : PE X l ta) (h : X.K = K := by rfl) : PI X tg l (iList K ta) := h ▸ pi_list he
theorem pg_tupK {es : List Expr} {k : Nat} {t : TGs} {n : Nat} (hc : X.calm = true) (hh : PGs X es t) (h : X.K = K := by rfl)
    (hn : (assignEach es X.env).length = n := by rfl) (hst : (assignEach es X.env).findIdx? (·.1) = none := by rfl) : PG X (.Tuple es k pos) (gTup K n t) := h ▸ pg_tup hc hh hn hst
def rTupK (K : PySem.W.Frag) : List V → Hp → VK → Prop := fun xs H Q => ∃ p ys, xs = [.ref p] ∧ ((SqL K H p ys ∧ ∀ l, H l = none → Q (.ref l) (upd H l (.tup ys))) ∨ (SqT K H p ys ∧ Q (.ref p) H))
theorem call_tupK (h : X.K = K := by rfl) : CallR X (.type "tuple") (rTupK K) := h ▸ call_tuple_of
theorem op_in_seqK (h : X.K = K := by rfl) : OpR X (compareOp .In) (rIn K false) := h ▸ op_in_seq
theorem op_notIn_seqK (h : X.K = K := by rfl) : OpR X (compareOp .NotIn) (rIn K true) := h ▸ op_notIn_seq
end

/-! ### the dict's rules, w named -/
section
variable {X : Cx} {w : World}
theorem op_inNW (hu : X.A.units + 64 < cLine) (h : X.w = w := by rfl) : OpR X (compareOp .In) (rInN w false) := h ▸ op_inN hu
theorem op_notInNW (hu : X.A.units + 64 < cLine) (h : X.w = w := by rfl) : OpR X (compareOp .NotIn) (rInN w true) := h ▸ op_notInN hu
theorem pe_itemNW {o i : Expr} {td ty : TE} {pos : Pos} (hu : X.A.units + 64 < cLine) (ho : PE X o td) (hi : PE X i ty) (hs : NoSl i) (h : X.w = w := by rfl) : PE X (.Subscript o i pos) (tOp (rItemN w) td ty) := h ▸ pe_itemN hu ho hi hs
theorem set_dNW (hu : X.A.units + 64 < cLine) (h : X.w = w := by rfl) : PSet X (tSetN w) := h ▸ set_dN hu
theorem pe_newNW {pos : Pos} (h : X.w = w := by rfl) : PE X (.Dict [] [] pos) (tNewN w) := h ▸ pe_newN
def rLenN (w : World) : List V → Hp → VK → Prop := fun xs H Q => ∃ a kvs, xs = [V.ref a] ∧ H a = some (DN w a kvs) ∧ Q (.int kvs.length) H
theorem call_lenNW (h : X.w = w := by rfl) : CallR X (.builtin "len") (rLenN w) := h ▸ call_lenN
def rListN (w : World) : List V → Hp → VK → Prop := fun xs H Q => ∃ a kvs, xs = [V.ref a] ∧ H a = some (DN w a kvs) ∧ ∀ l, H l = none → Q (.ref l) (upd H l (.lst (kvs.map (·.2.1))))
theorem call_listNW (hc : X.calm = true) (h : X.w = w := by rfl) : CallR X (.type "list") (rListN w) := h ▸ call_listN hc
theorem pe_oneNW {k v : Expr} {tk tv : TE} {pos : Pos} (hu : X.A.units + 64 < cLine) (hk : PE X k tk) (hv : PE X v tv) (h : X.w = w := by rfl) : PE X (.Dict [some k] [v] pos) (tOneN w tk tv) := h ▸ pe_oneN hu hk hv
end
/-! ### ranges from 0 -/
theorem lc_rangeN {n : Nat} {j : Int} {g : TG} {tt : TT} {te : TE} {vs : List Nat} {σ : L2.St} {H1 : Hp} {D : Addr} {Qd : Hp → Prop} (hj : j.toNat = n) (Pv : Nat → Hp → Prop) (h0 : Pv 0 (upd H1 D (.lst [])))
    (hs : ∀ i H, i < n → Pv i H → g (.int (i : Nat)) (wipe σ vs) H fun σ2 H2 => wipe σ2 vs = wipe σ vs ∧ tt σ2 H2 fun b H3 =>
      if b = true then te σ2 H3 fun y H4 => ∃ acc, H4 D = some (.lst acc) ∧ acc.length < sizeLine ∧ Pv (i + 1) (upd H4 D (.lst (acc ++ [y]))) else Pv (i + 1) H3) (hd : ∀ H, Pv n H → Qd H) :
    ∃ W : Nat → Nat → Hp → Prop, (∃ m, W 0 m (upd H1 D (.lst []))) ∧ ∀ i m H, W i m H →
      ((Itr 0 j.toNat).stop i H ∧ Qd H) ∨ ((Itr 0 j.toNat).go i H ∧ ∃ Nx : Hp → Prop, (∀ H', Nx H' → ∃ m', m' < m ∧ W (i + 1) m' H') ∧ ∀ x H', (Itr 0 j.toNat).yld i H x H' → g x (wipe σ vs) H' fun σ2 H2 => wipe σ2 vs = wipe σ vs ∧ tt σ2 H2 fun b H3 =>
        if b = true then te σ2 H3 fun y H4 => ∃ acc, H4 D = some (.lst acc) ∧ acc.length < sizeLine ∧ Nx (upd H4 D (.lst (acc ++ [y]))) else Nx H3) := by
  subst hj
  refine lc_range (lo := 0) (n := j.toNat) Pv h0 (fun i H hi p => ?_) hd
  have e : (0 : Int) + (i : Int) = ((i : Nat) : Int) := by omega
  rw [e]
  exact hs i H hi p
theorem for_rangeN {n : Nat} {j : Int} {g : TG} {tb : TS} {D : Ends} {σ : L2.St} {H : Hp} (hj : j.toNat = n) (Pv : Nat → L2.St → Hp → Prop) (h0 : Pv 0 σ H)
    (hs : ∀ i σ H, i < n → Pv i σ H → g (.int (i : Nat)) σ H fun σ2 H2 => tb { D with nx := Pv (i + 1), ct := Pv (i + 1), bk := D.nx } σ2 H2) (hd : ∀ σ H, Pv n σ H → D.nx σ H) :
    ∃ W : Nat → Nat → L2.St → Hp → Prop, (∃ m, W 0 m σ H) ∧ ∀ i m σ H, W i m σ H →
      ((Itr 0 j.toNat).stop i H ∧ D.nx σ H) ∨ ((Itr 0 j.toNat).go i H ∧ ∃ N : L2.St → Hp → Prop, (∀ σ' H', N σ' H' → ∃ m', m' < m ∧ W (i + 1) m' σ' H') ∧ ∀ x H', (Itr 0 j.toNat).yld i H x H' → g x σ H' fun σ2 H2 => tb { D with nx := N, ct := N, bk := D.nx } σ2 H2) := by
  subst hj
  refine for_range (lo := 0) (n := j.toNat) Pv h0 (fun i σ H hi p => ?_) hd
  have e : (0 : Int) + (i : Int) = ((i : Nat) : Int) := by omega
  rw [e]
  exact hs i σ H hi p
/-! ### how the data lie -/
def lnV : Ln → List V
  | .set i => [.str "set", .int i]
  | .letter a => [.str "letter", .int a]
  | .not c => [.str "not", .int c]
  | .and c d => [.str "and", .int c, .int d]
  | .all c => [.str "all", .int c]
  | .next c d => [.str "next", .int c, .int d]
  | .first c => [.str "first", .int c]
  | .last c => [.str "last", .int c]
  | .nothing => [.str "nothing"]
  | .one i => [.str "one", .int i]
  | .denied f => [.str "denied", .int f]
  | .both f g => [.str "both", .int f, .int g]
  | .there f => [.str "there", .int f]
/-- the lines of S, at the addresses as -/
def LinesAt (H : Hp) (as : List Addr) (S : List Ln) : Prop := as.length = S.length ∧ ∀ (i : Nat) (a : Addr) (l : Ln), as[i]? = some a → S[i]? = some l → H a = some (.tup (lnV l))
/-- a sentence: a tuple of lines -/
def SenV (H : Hp) (a : Addr) (S : List Ln) : Prop := ∃ as, H a = some (.tup (as.map V.ref)) ∧ LinesAt H as S
/-- rows of numbers, at the addresses as -/
def RowsAt (H : Hp) (as : List Addr) (M : List (List Nat)) : Prop := as.length = M.length ∧ ∀ (i : Nat) (a : Addr) (r : List Nat), as[i]? = some a → M[i]? = some r → H a = some (.tup (r.map fun z => V.int (z : Nat)))
abbrev nV (l : List Nat) : List V := l.map fun z => V.int (z : Nat)
/-- a reader -/
def RdrV (H : Hp) (a : Addr) (R : Rd) : Prop := ∃ lt mt at_ as, H a = some (.tup [.int R.emp, .ref lt, .ref mt, .ref at_]) ∧ H lt = some (.tup (nV R.letters)) ∧ H mt = some (.tup (as.map V.ref)) ∧ RowsAt H as R.mul ∧ H at_ = some (.tup (nV R.acc))
section
variable {H H1 : Hp} {a : Addr}
theorem Ex.lines (x : Ex H H1) {as : List Addr} {S : List Ln} (h : LinesAt H as S) : LinesAt H1 as S := ⟨h.1, fun i a l e1 e2 => x.tup (h.2 i a l e1 e2)⟩
theorem Ex.sen (x : Ex H H1) {S : List Ln} (h : SenV H a S) : SenV H1 a S := by
  obtain ⟨as, e, l⟩ := h
  exact ⟨as, x.tup e, x.lines l⟩
theorem Ex.rows (x : Ex H H1) {as : List Addr} {M : List (List Nat)} (h : RowsAt H as M) : RowsAt H1 as M := ⟨h.1, fun i a l e1 e2 => x.tup (h.2 i a l e1 e2)⟩
theorem Ex.rdr (x : Ex H H1) {R : Rd} (h : RdrV H a R) : RdrV H1 a R := by
  obtain ⟨lt, mt, at_, as, h1, h2, h3, h4, h5⟩ := h
  exact ⟨lt, mt, at_, as, x.tup h1, x.tup h2, x.tup h3, x.rows h4, x.tup h5⟩
/-- a line of the sentence -/
theorem SenV.line {S : List Ln} (h : SenV H a S) {n : Nat} {l : Ln} (e : S[n]? = some l) : ∃ (xs : List V) (t : Addr), H a = some (.tup xs) ∧ atI xs (n : Nat) = some (.ref t) ∧ H t = some (.tup (lnV l)) ∧ xs.length = S.length := by
  obtain ⟨as, e1, hl, hr⟩ := h
  have hn := (List.getElem?_eq_some_iff.mp e).1
  obtain ⟨t, ht⟩ : ∃ t, as[n]? = some t := ⟨as[n]'(by omega), List.getElem?_eq_getElem _⟩
  exact ⟨_, t, e1, atI_nat (by rw [List.getElem?_map, ht]; rfl), hr n t l ht e, by rw [List.length_map, hl]⟩
theorem RdrV.row {R : Rd} {mt : Addr} {as : List Addr} (h : RowsAt H as R.mul) {x : Nat} {r : List Nat} (e : R.mul[x]? = some r) : ∃ t, atI (as.map V.ref) (x : Nat) = some (.ref t) ∧ H t = some (.tup (nV r)) := by
  obtain ⟨hl, hr⟩ := h
  have hn := (List.getElem?_eq_some_iff.mp e).1
  obtain ⟨t, ht⟩ : ∃ t, as[x]? = some t := ⟨as[x]'(by omega), List.getElem?_eq_getElem _⟩
  exact ⟨t, atI_nat (by rw [List.getElem?_map, ht]; rfl), hr x t r ht e⟩
theorem nV_at {l : List Nat} {i x : Nat} (e : l[i]? = some x) : atI (nV l) (i : Nat) = some (.int (x : Nat)) := atI_nat (by rw [List.getElem?_map, e]; rfl)
theorem nV_flat (l : List Nat) : (nV l).all flatV = true := by simp [nV, flatV]
theorem inV_nat (l : List Nat) (x : Nat) : inV (.int (x : Nat)) (nV l) = decide (x ∈ l) := by
  unfold inV
  rw [Bool.eq_iff_iff, List.any_eq_true, decide_eq_true_iff]
  constructor
  · rintro ⟨y, hy, e⟩
    obtain ⟨z, hz, rfl⟩ := List.mem_map.mp hy
    have e : ((z : Int) == (x : Int)) = true := e
    have e2 : (z : Int) = x := by simpa using e
    have : z = x := by omega
    exact this ▸ hz
  · intro h
    refine ⟨_, List.mem_map.mpr ⟨x, h, rfl⟩, ?_⟩
    show ((x : Int) == (x : Int)) = true
    simp
theorem sqT_of {K : PySem.W.Frag} {xs : List V} (h : H a = some (.tup xs)) : SqT K H a xs := SqT.of h
end
end Tw
set_option maxRecDepth 100000
set_option maxHeartbeats 2000000
/-! Walks: width, is_in, is_true_at, Part. -/
namespace Tw
open PySem PySem.Spec PyProof.Rows L2

/-! ### numbers that are not negative -/
section
variable {X : Cx}
theorem op_modNN : OpR X (binaryOp .Mod) (fun x y H Q => ∃ n m : Nat, x = .int (n : Int) ∧ y = .int (m : Int) ∧ 0 < m ∧ Q (.int ((n % m : Nat) : Int)) H) := by
  intro pins s σ H x y v u Q I rx ry h
  obtain ⟨n, m, rfl, rfl, hm, q⟩ := h
  refine op_mod pins s σ H _ _ v u Q I rx ry ⟨n, m, rfl, rfl, by omega, ?_⟩
  show Q (.int ((n : Int) % (m : Int))) H
  rw [← Int.natCast_emod]
  exact q
theorem iop_mulN : OpR X (inplaceOp .Mult) (fun x y H Q => ∃ n m : Nat, x = .int (n : Int) ∧ y = .int (m : Int) ∧ n ≤ 4294967296 ∧ Q (.int ((n * m : Nat) : Int)) H) := by
  intro pins s σ H x y v u Q I rx ry h
  obtain ⟨n, m, rfl, rfl, hn, q⟩ := h
  refine iop_mul pins s σ H _ _ v u Q I rx ry ⟨n, m, rfl, rfl, .inl ⟨by omega, by omega⟩, ?_⟩
  show Q (.int ((n : Int) * (m : Int))) H
  rw [← Int.natCast_mul]
  exact q
theorem op_ltN : OpR X (compareOp .Lt) (fun x y H Q => ∃ n m : Nat, x = .int (n : Int) ∧ y = .int (m : Int) ∧ Q (.bl (decide (n < m))) H) := by
  intro pins s σ H x y v u Q I rx ry h
  obtain ⟨n, m, rfl, rfl, q⟩ := h
  refine op_lt pins s σ H _ _ v u Q I rx ry ⟨n, m, rfl, rfl, ?_⟩
  have e : decide ((n : Int) < (m : Int)) = decide (n < m) := by simp
  show Q (.bl (decide ((n : Int) < (m : Int)))) H
  rw [e]; exact q
theorem op_eqNN : OpR X (compareOp .Eq) (fun x y H Q => ∃ n m : Nat, x = .int (n : Int) ∧ y = .int (m : Int) ∧ Q (.bl (decide (n = m))) H) := by
  intro pins s σ H x y v u Q I rx ry h
  obtain ⟨n, m, rfl, rfl, q⟩ := h
  refine op_eq pins s σ H _ _ v u Q I rx ry ⟨rfl, ?_⟩
  have e : decide (V.int (n : Int) = V.int (m : Int)) = decide (n = m) := by
    rw [dec_int, Bool.eq_iff_iff, beq_iff_eq, decide_eq_true_iff]
    omega
  rw [e]; exact q
end

/-! ### texts compared -/
theorem itT {x : Str} {A B : Prop} (h : A) : if decide (V.str x = V.str x) = true then A else B := by rw [decide_eq_true rfl]; exact iteT h
theorem itF {x y : Str} {A B : Prop} (h : x ≠ y) (hb : B) : if decide (V.str x = V.str y) = true then A else B := by
  rw [decide_eq_false fun e => h (by injection e)]; exact iteF hb
section
variable {P : Program} {w : World} {K : PySem.W.Frag} {mg : Str → Option Value} {base : Heap}
/-! ### width -/
def spWidth : Sp := fun vs H Q _ => ∃ k : Nat, vs = [.int (k : Int)] ∧ k ≤ 25 ∧ Q (.int ((2 ^ k : Nat) : Int)) H
theorem scWidth : FnScope ["sets", "codes", "_"] ["sets"] (defScope s_width) := ⟨rfl, rfl, rfl, by decide +kernel, rfl, by decide +kernel, by decide +kernel⟩
theorem ok_width (T : Tx w K mg) : Gd P w K mg base CX0 1 (He.ga K "width") ["sets"] spWidth := by
  obtain ⟨fd, F⟩ := T.f_width
  refine ⟨fd, F.ok scWidth (fun vs H Q E h => ?_) (fun cdv A outer s H vs Q E hr h => ?_), F.bindsN fun _ _ _ _ _ _ us hl => match us, hl with | [_], _ => rfl, F.kp⟩
  · obtain ⟨k, rfl, _⟩ := h
    rfl
  · obtain ⟨k, rfl, hk, q⟩ := h
    refine ⟨_, PSs.nox (pss_cons (ps_set (i := 1) scWidth.nd rfl (Or.inl rfl) pe_int)
      (pss_cons (ps_for PassesOwn.never rfl (pi_range1 rfl T.m_range (pa_cons (pv 0) pa_nil)) (pg_name (i := 2) scWidth.nd rfl (Or.inl rfl))
        (pss_one (ps_aug (i := 1) scWidth.nd rfl (Or.inl rfl) pe_int iop_mulN)))
      (pss_one (ps_ret (pv 1))))), ?_⟩
    refine ⟨_, rfl, (k : Int), rfl, by omega, by omega, ?_⟩
    refine for_range (lo := 0) (n := (k : Int).toNat) (fun i σ H2 => ∃ v, σ = [some (.int (k : Int)), some (.int ((2 ^ i : Nat) : Int)), v] ∧ H2 = H) ⟨_, rfl, rfl⟩ ?_ ?_
    · rintro i σ H2 hi ⟨v, rfl, rfl⟩
      have hi2 : i < k := by simpa using hi
      have hp : 2 ^ i ≤ 2 ^ 25 := Nat.pow_le_pow_right (by decide) (by omega)
      refine ⟨_, rfl, 2 ^ i, 2, rfl, rfl, by omega, ⟨some (.int (0 + (i : Int))), ?_, rfl⟩⟩
      show [some (V.int (k : Int)), some (V.int ((2 ^ i * 2 : Nat) : Int)), some (V.int (0 + (i : Int)))] = _
      rw [Nat.pow_succ]
    · rintro σ H2 ⟨v, rfl, rfl⟩
      have e : (k : Int).toNat = k := by simp
      rw [e]
      exact ⟨_, rfl, q⟩
/-! ### is_in -/
def spIsIn : Sp := fun vs H Q _ => ∃ i lab k : Nat, vs = [.int (i : Int), .int (lab : Int), .int (k : Int)] ∧ k ≤ 20 ∧ Q (.bl (decide (i < k) && lab.testBit i)) H
theorem scIsIn : FnScope ["number", "label", "sets"] ["number", "label", "sets"] (defScope s_is_in) := ⟨rfl, rfl, rfl, by decide +kernel, rfl, by decide +kernel, by decide +kernel⟩
theorem bit_of {i k lab : Nat} (h : i < k) : decide (lab % 2 ^ k / 2 ^ i % 2 = 1) = lab.testBit i := by
  rw [Nat.testBit_eq_decide_div_mod_eq]
  congr 1
  have e : 2 ^ k = 2 ^ i * 2 ^ (k - i) := by rw [← Nat.pow_add]; congr 1; omega
  rw [e, Nat.mod_mul_right_div_self]
  have e2 : 2 ^ (k - i) = 2 * 2 ^ (k - i - 1) := by rw [← Nat.pow_succ']; congr 1; omega
  rw [e2, Nat.mod_mul_right_mod]
theorem ok_is_in (T : Tx w K mg) : Gd P w K mg base CX0 2 (He.ga K "is_in") ["number", "label", "sets"] spIsIn := by
  obtain ⟨fd, F⟩ := T.f_is_in
  refine ⟨fd, F.ok scIsIn (fun vs H Q E h => ?_) (fun cdv A outer s H vs Q E hr h => ?_), F.bindsN fun _ _ _ _ _ _ us hl => match us, hl with | [_, _, _], _ => rfl, F.kp⟩
  · obtain ⟨i, lab, k, rfl, _⟩ := h
    rfl
  · obtain ⟨i, lab, k, rfl, hk, q⟩ := h
    have GW := ok_width (P := P) (base := base) T
    refine ⟨_, PSs.nox (pss_one (ps_ret (pe_and (pe_cmpR op_ltN (pv 0) (pv 2) (nomark _)) (pe_one (pe_cmpR op_eqNN
      (pe_op op_modNN (pe_op op_fdivNN (pe_op op_modNN (pv 1) (pe_cG GW hr rfl T.g_width pass0 (pa_cons (pv 2) pa_nil))) (pe_cG GW hr rfl T.g_width pass0 (pa_cons (pv 0) pa_nil))) pe_int) pe_int (nomark _)))))), ?_⟩
    refine ⟨_, rfl, _, rfl, i, k, rfl, rfl, _, rfl, ?_⟩
    by_cases c : i < k
    · rw [decide_eq_true c] at q ⊢
      have hp : 2 ^ i ≤ 2 ^ 20 := Nat.pow_le_pow_right (by decide) (by omega)
      have hp0 : 0 < 2 ^ i := Nat.two_pow_pos i
      refine iteT ⟨_, rfl, _, rfl, k, rfl, by omega, lab, 2 ^ k, rfl, rfl, Nat.two_pow_pos k, _, rfl, i, rfl, by omega, lab % 2 ^ k, 2 ^ i, rfl, rfl, ⟨by omega, by omega⟩, lab % 2 ^ k / 2 ^ i, 2, rfl, rfl, by decide, lab % 2 ^ k / 2 ^ i % 2, 1, rfl, rfl, ?_⟩
      rw [bit_of c]
      exact q
    · rw [decide_eq_false c] at q ⊢
      exact iteF q
/-! ### is_true_at -/
def spTrueAt (N : Nat) : Sp := fun vs H Q _ => ∃ (a : Addr) (S : List Ln) (n lab k : Nat), vs = [.ref a, .int (n : Int), .int (lab : Int), .int (k : Int)] ∧ n < N ∧ SenV H a S ∧ WF S ∧ KindAt S n true ∧ k ≤ 20 ∧ Q (.bl (plm S k lab n)) H
theorem scTrueAt : FnScope ["sentence", "number", "label", "sets", "line", "name"] ["sentence", "number", "label", "sets"] (defScope s_is_true_at) := ⟨rfl, rfl, rfl, by decide +kernel, rfl, by decide +kernel, by decide +kernel⟩
theorem plv_set {S : List Ln} {f : Nat → Bool} {lt n i : Nat} (e : S[n]? = some (.set i)) : plv S f lt n = f i := by unfold plv; rw [e]
theorem plv_letter {S : List Ln} {f : Nat → Bool} {lt n a : Nat} (e : S[n]? = some (.letter a)) : plv S f lt n = decide (lt = a) := by unfold plv; rw [e]
theorem plv_not {S : List Ln} {f : Nat → Bool} {lt n c : Nat} (e : S[n]? = some (.not c)) (h : c < n) : plv S f lt n = !plv S f lt c := by rw [plv, e]; simp [h]
theorem plv_and {S : List Ln} {f : Nat → Bool} {lt n c d : Nat} (e : S[n]? = some (.and c d)) (h : c < n) (h2 : d < n) : plv S f lt n = (plv S f lt c && plv S f lt d) := by rw [plv, e]; simp [h, h2]
theorem ok_is_true_at (T : Tx w K mg) : ∀ N, Gd P w K mg base CX0 (3 + N) (He.ga K "is_true_at") ["sentence", "number", "label", "sets"] (spTrueAt N) := by
  obtain ⟨fd, F⟩ := T.f_is_true_at
  have key : ∀ N, FnOk P w K mg base CX0 (3 + N) (He.ga K "is_true_at") fd ["sentence", "number", "label", "sets"] (spTrueAt N) := by
    intro N
    induction N with
    | zero => exact fnOk_no fun vs H Q E ⟨_, _, n, _, _, _, hn, _⟩ => absurd hn (Nat.not_lt_zero _)
    | succ N ih =>
      refine F.ok scTrueAt (fun vs H Q E h => ?_) (fun cdv A outer s H vs Q E hr h => ?_)
      · obtain ⟨a, S, n, lab, k, rfl, _⟩ := h
        rfl
      · obtain ⟨a, S, n, lab, k, rfl, hn, hS, W, ⟨l, hl, hp⟩, hk, q⟩ := h
        have G : Gd P w K mg base CX0 (3 + N) (He.ga K "is_true_at") ["sentence", "number", "label", "sets"] (spTrueAt N) := ⟨fd, ih, F.bindsN fun _ _ _ _ _ _ us hl => match us, hl with | [_, _, _, _], _ => rfl, F.kp⟩
        have GW := ok_width (P := P) (base := base) T
        have GI := ok_is_in (P := P) (base := base) T
        have hr0 : Room (3 + N) _ := hr
        have hr1 := hr0.mono (show 1 ≤ 3 + N by omega)
        have hr2 := hr0.mono (show 2 ≤ 3 + N by omega)
        refine ⟨_, PSs.nox (pss_cons (ps_set (i := 4) scTrueAt.nd rfl (Or.inl rfl) (pe_ix ix_tup (pv 0) (pv 1) (fun _ _ => rfl)))
          (pss_cons (ps_set (i := 5) scTrueAt.nd rfl (Or.inl rfl) (pe_ix ix_tup (pv 4) pe_int (fun _ _ => rfl)))
          (pss_cons (ps_if (pt_cmpR op_eq (pv 5) pe_str (nomark _)) (pss_one (ps_ret (pe_not (pe_cG G hr rfl T.g_is_true_at pass0 (pa_cons (pv 0) (pa_cons (pe_ix ix_tup (pv 4) pe_int (fun _ _ => rfl)) (pa_cons (pv 2) (pa_cons (pv 3) pa_nil)))))))) pss_nil)
          (pss_cons (ps_if (pt_cmpR op_eq (pv 5) pe_str (nomark _)) (pss_one (ps_ret (pe_and (pe_cG G hr rfl T.g_is_true_at pass0 (pa_cons (pv 0) (pa_cons (pe_ix ix_tup (pv 4) pe_int (fun _ _ => rfl)) (pa_cons (pv 2) (pa_cons (pv 3) pa_nil)))))
              (pe_one (pe_cG G hr rfl T.g_is_true_at pass0 (pa_cons (pv 0) (pa_cons (pe_ix ix_tup (pv 4) pe_int (fun _ _ => rfl)) (pa_cons (pv 2) (pa_cons (pv 3) pa_nil))))))))) pss_nil)
          (pss_cons (ps_if (pt_cmpR op_eq (pv 5) pe_str (nomark _)) (pss_one (ps_ret (pe_cG GI hr2 rfl T.g_is_in pass0 (pa_cons (pe_ix ix_tup (pv 4) pe_int (fun _ _ => rfl)) (pa_cons (pv 2) (pa_cons (pv 3) pa_nil)))))) pss_nil)
          (pss_one (ps_ret (pe_cmpR op_eqNN (pe_ix ix_tup (pv 4) pe_int (fun _ _ => rfl)) (pe_op op_fdivNN (pv 2) (pe_cG GW hr1 rfl T.g_width pass0 (pa_cons (pv 3) pa_nil))) (nomark _))))))))), ?_⟩
        obtain ⟨xs, t, h1, h2, h3, _⟩ := hS.line hl
        have h3' : ∀ x, atI (lnV l) 0 = some x → atI (lnV l) 0 = some x := fun _ h => h
        cases l with
        | not c =>
          have hc := (W n _ hl : c < n ∧ KindAt S c true)
          refine ⟨_, rfl, _, rfl, a, xs, n, _, rfl, rfl, sqT_of h1, h2, ⟨_, rfl, t, _, 0, _, rfl, rfl, sqT_of h3, rfl, ⟨_, rfl, rfl, _, rfl, itT ?_⟩⟩⟩
          refine ⟨_, rfl, _, rfl, t, _, 1, _, rfl, rfl, sqT_of h3, rfl, _, rfl, _, rfl, a, S, c, lab, k, rfl, (by have := hc.1; omega), hS, W, hc.2, hk, _, rfl, ?_⟩
          rw [plm, plv_not hl hc.1] at q
          exact q
        | and c d =>
          have hc := (W n _ hl : (c < n ∧ KindAt S c true) ∧ (d < n ∧ KindAt S d true))
          rw [plm, plv_and hl hc.1.1 hc.2.1] at q
          refine ⟨_, rfl, _, rfl, a, xs, n, _, rfl, rfl, sqT_of h1, h2, ⟨_, rfl, t, _, 0, _, rfl, rfl, sqT_of h3, rfl, ⟨_, rfl, rfl, _, rfl, itF (by decide +kernel) ?_⟩⟩⟩
          refine ⟨_, rfl, rfl, _, rfl, itT ⟨_, rfl, _, rfl, t, _, 1, _, rfl, rfl, sqT_of h3, rfl, _, rfl, _, rfl, a, S, c, lab, k, rfl, (by have := hc.1.1; omega), hS, W, hc.1.2, hk, _, rfl, ?_⟩⟩
          cases e : plm S k lab c with
          | false =>
            rw [plm] at e
            rw [e] at q
            exact iteF q
          | true =>
            rw [plm] at e
            rw [e] at q
            exact iteT ⟨_, rfl, _, rfl, t, _, 2, _, rfl, rfl, sqT_of h3, rfl, _, rfl, _, rfl, a, S, d, lab, k, rfl, (by have := hc.2.1; omega), hS, W, hc.2.2, hk, q⟩
        | set i =>
          rw [plm, plv_set hl] at q
          refine ⟨_, rfl, _, rfl, a, xs, n, _, rfl, rfl, sqT_of h1, h2, ⟨_, rfl, t, _, 0, _, rfl, rfl, sqT_of h3, rfl, ⟨_, rfl, rfl, _, rfl, itF (by decide +kernel) ?_⟩⟩⟩
          refine ⟨_, rfl, rfl, _, rfl, itF (by decide +kernel) ⟨_, rfl, rfl, _, rfl, itT ⟨_, rfl, t, _, 1, _, rfl, rfl, sqT_of h3, rfl, _, rfl, _, rfl, i, lab, k, rfl, hk, q⟩⟩⟩
        | letter b =>
          rw [plm, plv_letter hl] at q
          have hp2 : 2 ^ k ≤ 2 ^ 20 := Nat.pow_le_pow_right (by decide) (by omega)
          have hp0 : 0 < 2 ^ k := Nat.two_pow_pos k
          refine ⟨_, rfl, _, rfl, a, xs, n, _, rfl, rfl, sqT_of h1, h2, ⟨_, rfl, t, _, 0, _, rfl, rfl, sqT_of h3, rfl, ⟨_, rfl, rfl, _, rfl, itF (by decide +kernel) ?_⟩⟩⟩
          refine ⟨_, rfl, rfl, _, rfl, itF (by decide +kernel) ⟨_, rfl, rfl, _, rfl, itF (by decide +kernel) ⟨_, rfl, t, _, 1, _, rfl, rfl, sqT_of h3, rfl, _, rfl, _, rfl, k, rfl, by omega, lab, 2 ^ k, rfl, rfl, ⟨by omega, by omega⟩, b, lab / 2 ^ k, rfl, rfl, ?_⟩⟩⟩
          rw [show decide (b = lab / 2 ^ k) = decide (lab / 2 ^ k = b) from decide_eq_decide.mpr eq_comm]
          exact q
        | _ => cases hp
  exact fun N => ⟨fd, key N, F.bindsN fun _ _ _ _ _ _ us hl => match us, hl with | [_, _, _, _], _ => rfl, F.kp⟩
end
end Tw
set_option maxRecDepth 100000
set_option maxHeartbeats 2000000
/-! A class of tables, told once for all: Cl, ClOk; Part and the plain parts. -/
namespace Tw
open PySem PySem.Spec PyProof.Rows L2

/-- a table: its class, its values (with their keys), how its object and its values lie in the heap, the letters' number, the value of each word, what is accepted -/
structure Cl where
  C : Addr
  α : Type
  key : α → NKey
  Is : Hp → Addr → Prop
  rep : Hp → α → V → Prop
  cnt : Nat
  f : List Nat → α
  L : List Nat → Bool
def spEmp (c : Cl) : Sp := fun vs H Q _ => ∃ t, vs = [.ref t] ∧ c.Is H t ∧ ∀ v H', Ex H H' → c.rep H' (c.f []) v → Q v H'
def spLet (c : Cl) : Sp := fun vs H Q _ => ∃ (t : Addr) (a : Nat), vs = [.ref t, .int (a : Int)] ∧ c.Is H t ∧ a < c.cnt ∧ ∀ v H', Ex H H' → c.rep H' (c.f [a]) v → Q v H'
def spJoin (c : Cl) : Sp := fun vs H Q _ => ∃ (t : Addr) (x y : V) (u w : List Nat), vs = [.ref t, x, y] ∧ c.Is H t ∧ Wd c.cnt u ∧ Wd c.cnt w ∧ c.rep H (c.f u) x ∧ c.rep H (c.f w) y ∧ ∀ v H', Ex H H' → c.rep H' (c.f (u ++ w)) v → Q v H'
def spAcc (c : Cl) : Sp := fun vs H Q _ => ∃ (t : Addr) (x : V) (u : List Nat), vs = [.ref t, x] ∧ c.Is H t ∧ Wd c.cnt u ∧ c.rep H (c.f u) x ∧ ∀ H', Ex H H' → Q (.bl (c.L u)) H'
def LV : Nat := 72
structure ClOkL (P : Program) (w : World) (K : PySem.W.Frag) (mg : Str → Option Value) (base : Heap) (lv : Nat) (c : Cl) : Prop where
  cls : Cls K c.C
  inj : ∀ x y, c.key x = c.key y → x = y
  dep : ∀ x, (c.key x).depth ≤ 8
  is_ex : ∀ {H H' t}, Ex H H' → c.Is H t → c.Is H' t
  ins : ∀ {H t}, c.Is H t → ∃ dx fs, H t = some (.ins c.C dx fs) ∧ fs.lookup ("empty" : Str) = none ∧ fs.lookup ("letter" : Str) = none ∧ fs.lookup ("join" : Str) = none ∧ fs.lookup ("is_accepted" : Str) = none
  rep_ex : ∀ {H H' x v}, TupK H H' → c.rep H x v → c.rep H' x v
  rep_key : ∀ {H x v}, c.rep H x v → KeyV H (c.key x) v
  cong : ∀ u u' v v', Wd c.cnt u → Wd c.cnt u' → Wd c.cnt v → Wd c.cnt v' → c.f u = c.f u' → c.f v = c.f v' → c.f (u ++ v) = c.f (u' ++ v')
  acong : ∀ u u', Wd c.cnt u → Wd c.cnt u' → c.f u = c.f u' → c.L u = c.L u'
  mE : ∃ g, Meth K c.C "empty" g ∧ Gd P w K mg base CX0 lv g ["self"] (spEmp c)
  mL : ∃ g, Meth K c.C "letter" g ∧ Gd P w K mg base CX0 lv g ["self", "a"] (spLet c)
  mJ : ∃ g, Meth K c.C "join" g ∧ Gd P w K mg base CX0 lv g ["self", "x", "y"] (spJoin c)
  mA : ∃ g, Meth K c.C "is_accepted" g ∧ Gd P w K mg base CX0 lv g ["self", "x"] (spAcc c)

abbrev ClOk (P : Program) (w : World) (K : PySem.W.Frag) (mg : Str → Option Value) (base : Heap) (c : Cl) : Prop := ClOkL P w K mg base LV c
theorem ClOkL.mono {P : Program} {w : World} {K : PySem.W.Frag} {mg : Str → Option Value} {base : Heap} {j k : Nat} {c : Cl} (h : ClOkL P w K mg base j c) (hjk : j ≤ k) : ClOkL P w K mg base k c :=
  ⟨h.cls, h.inj, h.dep, h.is_ex, h.ins, h.rep_ex, h.rep_key, h.cong, h.acong, let ⟨g, m, G⟩ := h.mE; ⟨g, m, G.mono hjk⟩, let ⟨g, m, G⟩ := h.mL; ⟨g, m, G.mono hjk⟩, let ⟨g, m, G⟩ := h.mJ; ⟨g, m, G.mono hjk⟩, let ⟨g, m, G⟩ := h.mA; ⟨g, m, G.mono hjk⟩⟩
/-! ### Part -/
/-- a part's fields -/
def pf (a ln : Addr) (k : Nat) : List (Str × V) := [("sentence", .ref a), ("line", .ref ln), ("sets", .int (k : Int))]
/-- a part's sentence, its line, its sets -/
structure PLn (S : List Ln) (n k : Nat) (l : Ln) : Prop where
  wf : WF S
  len : S.length ≤ 64
  at_ : S[n]? = some l
  sets : k ≤ 20
def PIs (C a : Addr) (S : List Ln) (l : Ln) (k : Nat) (H : Hp) (t : Addr) : Prop := ∃ dx ln, H t = some (.ins C dx (pf a ln k)) ∧ SenV H a S ∧ H ln = some (.tup (lnV l))
theorem PIs.ex {C a : Addr} {S : List Ln} {l : Ln} {k : Nat} {H H' : Hp} {t : Addr} (x : Ex H H') (h : PIs C a S l k H t) : PIs C a S l k H' t := by
  obtain ⟨dx, ln, h1, h2, h3⟩ := h
  exact ⟨dx, ln, x.ins h1, x.sen h2, x.tup h3⟩
theorem PIs.ins {C a : Addr} {S : List Ln} {l : Ln} {k : Nat} {H : Hp} {t : Addr} (h : PIs C a S l k H t) :
    ∃ dx fs, H t = some (.ins C dx fs) ∧ fs.lookup ("empty" : Str) = none ∧ fs.lookup ("letter" : Str) = none ∧ fs.lookup ("join" : Str) = none ∧ fs.lookup ("is_accepted" : Str) = none := by
  obtain ⟨dx, ln, h1, _, _⟩ := h
  exact ⟨dx, _, h1, rfl, rfl, rfl, rfl⟩

section
variable {P : Program} {w : World} {K : PySem.W.Frag} {mg : Str → Option Value} {base : Heap}
/-! ### __init__, at (the same def for each class of parts) -/
def spPInit (C : Addr) : Sp := fun vs H Q _ => ∃ (p dx a : Addr) (n k : Nat) (S : List Ln) (l : Ln), vs = [.ref p, .ref a, .int (n : Int), .int (k : Int)] ∧ H p = some (.ins C dx []) ∧ SenV H a S ∧ S[n]? = some l ∧
  ∀ ln, H ln = some (.tup (lnV l)) → Q .non (upd H p (.ins C dx (pf a ln k)))
theorem scPInit : FnScope ["self", "sentence", "number", "sets"] ["self", "sentence", "number", "sets"] (defScope s_Part___init__) := ⟨rfl, rfl, rfl, by decide +kernel, rfl, by decide +kernel, by decide +kernel⟩
theorem ok_pinit {C f : Addr} (cC : Cls K C) (n1 : NoAttr K C "sentence") (n2 : NoAttr K C "line") (n3 : NoAttr K C "sets")
    (hF : ∃ fd, FunD K "__init__" "Part.__init__" (defArgs s_Part___init__) (defBody s_Part___init__) (defScope s_Part___init__) [] [] f fd) :
    Gd P w K mg base CX0 1 f ["self", "sentence", "number", "sets"] (spPInit C) := by
  obtain ⟨fd, F⟩ := hF
  refine ⟨fd, F.ok scPInit (fun vs H Q E h => ?_) (fun cdv A outer s H vs Q E hr h => ?_), F.bindsN fun _ _ _ _ _ _ us hl => match us, hl with | [_, _, _, _], _ => rfl, F.kp⟩
  · obtain ⟨p, dx, a, n, k, S, l, rfl, _⟩ := h
    rfl
  · obtain ⟨p, dx, a, n, k, S, l, rfl, hp, hS, hl, q⟩ := h
    refine ⟨_, PSs.nox (pss_cons (ps_fld (pv 0) (pv 1) rfl) (pss_cons (ps_fld (pv 0) (pe_ix ix_tup (pv 1) (pv 2) (fun _ _ => rfl)) rfl) (pss_one (ps_fld (pv 0) (pv 3) rfl)))), ?_⟩
    obtain ⟨xs, t, h1, h2, h3, _⟩ := hS.line hl
    have ne1 : a ≠ p := ne_of h1 hp (by intro z; cases z)
    have nt : t ≠ p := ne_of h3 hp (by intro z; cases z)
    refine ⟨_, rfl, _, rfl, p, C, dx, [], rfl, hp, cC, n1, (by show 0 < 1000; decide), ?_⟩
    refine ⟨_, rfl, _, rfl, a, xs, n, _, rfl, rfl, sqT_of (by rw [upd_ne ne1]; exact h1), h2, _, rfl, p, C, dx, _, rfl, upd_same, cC, n2, (by show 1 < 1000; decide), ?_⟩
    refine ⟨_, rfl, _, rfl, p, C, dx, _, rfl, upd_same, cC, n3, (by show 2 < 1000; decide), ?_⟩
    rw [upd_upd, upd_upd]
    exact q t h3
def spAt (C a : Addr) (S : List Ln) (l : Ln) (k : Nat) : Sp := fun vs H Q _ => ∃ (t : Addr) (j c lab : Nat), vs = [.ref t, .int (j : Int), .int (lab : Int)] ∧ PIs C a S l k H t ∧ (lnV l)[j]? = some (.int (c : Int)) ∧ c < 64 ∧ KindAt S c true ∧ Q (.bl (plm S k lab c)) H
theorem scAt : FnScope ["self", "k", "label"] ["self", "k", "label"] (defScope s_Part_at) := ⟨rfl, rfl, rfl, by decide +kernel, rfl, by decide +kernel, by decide +kernel⟩
theorem ok_at (T : Tx w K mg) {C f a : Addr} {S : List Ln} {l : Ln} {n k : Nat} (hp : PLn S n k l) (cC : Cls K C) (n1 : NoAttr K C "sentence") (n2 : NoAttr K C "line") (n3 : NoAttr K C "sets")
    (hF : ∃ fd, FunD K "at" "Part.at" (defArgs s_Part_at) (defBody s_Part_at) (defScope s_Part_at) [] [] f fd) :
    Gd P w K mg base CX0 68 f ["self", "k", "label"] (spAt C a S l k) := by
  obtain ⟨fd, F⟩ := hF
  refine ⟨fd, F.ok scAt (fun vs H Q E h => ?_) (fun cdv A outer s H vs Q E hr h => ?_), F.bindsN fun _ _ _ _ _ _ us hl => match us, hl with | [_, _, _], _ => rfl, F.kp⟩
  · obtain ⟨t, j, c, lab, rfl, _⟩ := h
    rfl
  · obtain ⟨t, j, c, lab, rfl, ⟨dx, ln, h1, h2, h3⟩, hj, hc, hk, q⟩ := h
    refine ⟨_, PSs.nox (pss_one (ps_ret (pe_cG (ok_is_true_at (P := P) (base := base) T 64) hr rfl T.g_is_true_at pass0
      (pa_cons (pe_fld (pv 0) rfl) (pa_cons (pe_ix ix_tup (pe_fld (pv 0) rfl) (pv 1) (fun _ _ => rfl)) (pa_cons (pv 2) (pa_cons (pe_fld (pv 0) rfl) pa_nil))))))), ?_⟩
    refine ⟨_, rfl, t, C, dx, _, _, rfl, h1, cC, n1, rfl, _, rfl, t, C, dx, _, _, rfl, h1, cC, n2, rfl, _, rfl, ln, _, j, _, rfl, rfl, sqT_of h3, atI_nat hj, _, rfl, _, rfl, t, C, dx, _, _, rfl, h1, cC, n3, rfl, ?_⟩
    exact ⟨a, S, c, lab, k, rfl, hc, h2, hp.wf, hk, hp.sets, q⟩

/-! ### AllPart -/
def pAll (S : List Ln) (l : Ln) (k lab : Nat) : Bool := match l with
  | .all c => plm S k lab c
  | _ => false
/-- the lines that AllPart serves -/
def isAll : Ln → Bool
  | .all _ => true
  | .nothing => true
  | _ => false
def clAll (K : PySem.W.Frag) (a : Addr) (S : List Ln) (n k : Nat) (l : Ln) (cnt : Nat) : Cl where
  C := He.ga K "AllPart"
  α := Bool
  key := fun b => .num (if b = true then 1 else 0)
  Is := PIs (He.ga K "AllPart") a S l k
  rep := fun _ b v => v = .bl b
  cnt := cnt
  f := fAll (pAll S l k)
  L := Lang S n k
theorem scA1 : FnScope ["self"] ["self"] (defScope s_AllPart_empty) := ⟨rfl, rfl, rfl, by decide +kernel, rfl, by decide +kernel, by decide +kernel⟩
theorem scA2 : FnScope ["self", "a"] ["self", "a"] (defScope s_AllPart_letter) := ⟨rfl, rfl, rfl, by decide +kernel, rfl, by decide +kernel, by decide +kernel⟩
theorem scA3 : FnScope ["self", "x", "y"] ["self", "x", "y"] (defScope s_AllPart_join) := ⟨rfl, rfl, rfl, by decide +kernel, rfl, by decide +kernel, by decide +kernel⟩
theorem scA4 : FnScope ["self", "x"] ["self", "x"] (defScope s_AllPart_is_accepted) := ⟨rfl, rfl, rfl, by decide +kernel, rfl, by decide +kernel, by decide +kernel⟩
theorem cl_all (T : Tx w K mg) {a : Addr} {S : List Ln} {n k cnt : Nat} {l : Ln} (hp : PLn S n k l) (hl : isAll l = true) : ClOk P w K mg base (clAll K a S n k l cnt) where
  cls := T.c_AllPart
  inj := fun x y h => by cases x <;> cases y <;> first | rfl | (simp [clAll] at h)
  dep := fun x => by simp [clAll, NestedKey.depth]
  is_ex := fun x h => h.ex x
  ins := fun h => h.ins
  rep_ex := fun _ h => h
  rep_key := fun h => by cases h; exact .bool rfl
  cong := fun u u' v v' _ _ _ _ e e' => by
    have e : fAll (pAll S l k) u = fAll (pAll S l k) u' := e
    have e' : fAll (pAll S l k) v = fAll (pAll S l k) v' := e'
    show fAll (pAll S l k) (u ++ v) = fAll (pAll S l k) (u' ++ v')
    rw [← fAll_app, ← fAll_app, e, e']
  acong := fun u u' _ _ e => by
    have e : fAll (pAll S l k) u = fAll (pAll S l k) u' := e
    have h : ∀ u, Lang S n k u = fAll (pAll S l k) u := fun u => by
      cases l with
      | all c => exact lang_all hp.at_ u
      | nothing => exact lang_nothing hp.at_ u
      | _ => cases hl
    show Lang S n k u = Lang S n k u'
    rw [h, h, e]
  mE := by
    refine ⟨_, T.k_AllPart_empty, ?_⟩
    obtain ⟨fd, F⟩ := T.f_AllPart_empty
    refine Gd.mono (j := 1) ⟨fd, F.ok scA1 (fun vs H Q E h => ?_) (fun cdv A outer s H vs Q E hr h => ?_), F.bindsN fun _ _ _ _ _ _ us hl => match us, hl with | [_], _ => rfl, F.kp⟩ (by decide)
    · obtain ⟨t, rfl, _⟩ := h
      rfl
    · obtain ⟨t, rfl, hI, q⟩ := h
      exact ⟨_, PSs.nox (pss_one (ps_ret pe_bl)), q _ H (Ex.refl H) rfl⟩
  mL := by
    refine ⟨_, T.k_AllPart_letter, ?_⟩
    obtain ⟨fd, F⟩ := T.f_AllPart_letter
    refine Gd.mono (j := 69) ⟨fd, F.ok scA2 (fun vs H Q E h => ?_) (fun cdv A outer s H vs Q E hr h => ?_), F.bindsN fun _ _ _ _ _ _ us hl => match us, hl with | [_, _], _ => rfl, F.kp⟩ (by decide)
    · obtain ⟨t, a, rfl, _⟩ := h
      rfl
    · obtain ⟨t, lab, rfl, hI, hlt, q⟩ := h
      have q2 := q (.bl (pAll S l k lab)) H (Ex.refl H) (by show _ = V.bl (fAll _ [lab]); rw [fAll_one])
      obtain ⟨dx, ln, h1, h2, h3⟩ := id hI
      refine ⟨_, PSs.nox (pss_one (ps_ret (pe_and (pe_cmpR op_eq (pe_ix ix_tup (pe_fld (pv 0) rfl) pe_int (fun _ _ => rfl)) pe_str (nomark _))
        (pe_one (pe_mG (pv 0) T.c_AllPart T.k_AllPart_at (ok_at (P := P) (base := base) (a := a) T hp T.c_AllPart T.n_AllPart_sentence T.n_AllPart_line T.n_AllPart_sets T.f_AllPart_at) hr pass0 (pa_cons pe_int (pa_cons (pv 1) pa_nil))))))), ?_⟩
      cases l with
      | all c =>
        have hc := (hp.wf n _ hp.at_ : c < n ∧ KindAt S c true)
        have hn := (List.getElem?_eq_some_iff.mp hp.at_).1
        refine ⟨_, rfl, t, _, dx, _, _, rfl, h1, T.c_AllPart, T.n_AllPart_line, rfl, ln, _, 0, _, rfl, rfl, sqT_of h3, rfl, rfl, _, rfl, itT ?_⟩
        exact ⟨_, rfl, t, dx, _, rfl, h1, rfl, _, rfl, t, 1, c, lab, rfl, hI, rfl, (by have := hp.len; have := hc.1; omega), hc.2, q2⟩
      | nothing =>
        refine ⟨_, rfl, t, _, dx, _, _, rfl, h1, T.c_AllPart, T.n_AllPart_line, rfl, ln, _, 0, _, rfl, rfl, sqT_of h3, rfl, rfl, _, rfl, ?_⟩
        rw [show decide (V.str "nothing" = V.str "all") = false by decide +kernel]
        exact iteF q2
      | _ => cases hl
  mJ := by
    refine ⟨_, T.k_AllPart_join, ?_⟩
    obtain ⟨fd, F⟩ := T.f_AllPart_join
    refine Gd.mono (j := 1) ⟨fd, F.ok scA3 (fun vs H Q E h => ?_) (fun cdv A outer s H vs Q E hr h => ?_), F.bindsN fun _ _ _ _ _ _ us hl => match us, hl with | [_, _, _], _ => rfl, F.kp⟩ (by decide)
    · obtain ⟨t, x, y, u, w, rfl, _⟩ := h
      rfl
    · obtain ⟨t, x, y, u, w, rfl, hI, hu, hw, rx, ry, q⟩ := h
      cases rx
      cases ry
      have q2 := q (.bl (fAll (pAll S l k) u && fAll (pAll S l k) w)) H (Ex.refl H) (by show _ = V.bl (fAll _ _); rw [fAll_app])
      refine ⟨_, PSs.nox (pss_one (ps_ret (pe_and (pv 1) (pe_one (pv 2))))), ?_⟩
      refine ⟨_, rfl, _, rfl, ?_⟩
      revert q2
      show _ → if fAll (pAll S l k) u = true then _ else _
      cases fAll (pAll S l k) u with
      | true => exact fun q2 => iteT ⟨_, rfl, q2⟩
      | false => exact fun q2 => iteF q2
  mA := by
    refine ⟨_, T.k_AllPart_is_accepted, ?_⟩
    obtain ⟨fd, F⟩ := T.f_AllPart_is_accepted
    refine Gd.mono (j := 1) ⟨fd, F.ok scA4 (fun vs H Q E h => ?_) (fun cdv A outer s H vs Q E hr h => ?_), F.bindsN fun _ _ _ _ _ _ us hl => match us, hl with | [_, _], _ => rfl, F.kp⟩ (by decide)
    · obtain ⟨t, x, u, rfl, _⟩ := h
      rfl
    · obtain ⟨t, x, u, rfl, hI, hu, rx, q⟩ := h
      cases rx
      have q2 := q H (Ex.refl H)
      refine ⟨_, PSs.nox (pss_one (ps_ret (pv 1))), ⟨_, rfl, ?_⟩⟩
      have e : Lang S n k u = fAll (pAll S l k) u := by
        cases l with
        | all c => exact lang_all hp.at_ u
        | nothing => exact lang_nothing hp.at_ u
        | _ => cases hl
      show Q (.bl (fAll (pAll S l k) u)) H
      rw [← e]
      exact q2
end
end Tw
set_option maxRecDepth 100000
set_option maxHeartbeats 2000000
/-! OnePart, NextPart, EndPart. -/
namespace Tw
open PySem PySem.Spec PyProof.Rows L2
section
variable {P : Program} {w : World} {K : PySem.W.Frag} {mg : Str → Option Value} {base : Heap}
theorem natKey_inj (x y : Nat) (h : (NestedKey.num (x : Int)) = NestedKey.num (y : Int)) : x = y := by
  injection h with h
  omega
/-! ### OnePart -/
def pOne (i k lab : Nat) : Bool := decide (i < k) && lab.testBit i
def clOne (K : PySem.W.Frag) (a : Addr) (S : List Ln) (n k i : Nat) (cnt : Nat) : Cl where
  C := He.ga K "OnePart"
  α := Nat
  key := fun x => .num (x : Int)
  Is := PIs (He.ga K "OnePart") a S (.one i) k
  rep := fun _ x v => v = .int (x : Int)
  cnt := cnt
  f := fOne (pOne i k)
  L := Lang S n k
theorem scO1 : FnScope ["self"] ["self"] (defScope s_OnePart_empty) := ⟨rfl, rfl, rfl, by decide +kernel, rfl, by decide +kernel, by decide +kernel⟩
theorem scO2 : FnScope ["self", "a"] ["self", "a"] (defScope s_OnePart_letter) := ⟨rfl, rfl, rfl, by decide +kernel, rfl, by decide +kernel, by decide +kernel⟩
theorem scO3 : FnScope ["self", "x", "y"] ["self", "x", "y"] (defScope s_OnePart_join) := ⟨rfl, rfl, rfl, by decide +kernel, rfl, by decide +kernel, by decide +kernel⟩
theorem scO4 : FnScope ["self", "x"] ["self", "x"] (defScope s_OnePart_is_accepted) := ⟨rfl, rfl, rfl, by decide +kernel, rfl, by decide +kernel, by decide +kernel⟩
theorem cl_one (T : Tx w K mg) {a : Addr} {S : List Ln} {n k i cnt : Nat} (hp : PLn S n k (.one i)) : ClOk P w K mg base (clOne K a S n k i cnt) where
  cls := T.c_OnePart
  inj := natKey_inj
  dep := fun x => by simp [clOne, NestedKey.depth]
  is_ex := fun x h => h.ex x
  ins := fun h => h.ins
  rep_ex := fun _ h => h
  rep_key := fun h => by cases h; exact .int _
  cong := fun u u' v v' _ _ _ _ e e' => by
    have e : fOne (pOne i k) u = fOne (pOne i k) u' := e
    have e' : fOne (pOne i k) v = fOne (pOne i k) v' := e'
    show fOne (pOne i k) (u ++ v) = fOne (pOne i k) (u' ++ v')
    rw [← fOne_app, ← fOne_app, e, e']
  acong := fun u u' _ _ e => by
    have e : fOne (pOne i k) u = fOne (pOne i k) u' := e
    show Lang S n k u = Lang S n k u'
    have h : ∀ u, Lang S n k u = decide (fOne (pOne i k) u = 1) := fun u => lang_one hp.at_ u
    rw [h, h, e]
  mE := by
    refine ⟨_, T.k_OnePart_empty, ?_⟩
    obtain ⟨fd, F⟩ := T.f_OnePart_empty
    refine Gd.mono (j := 1) ⟨fd, F.ok scO1 (fun vs H Q E h => ?_) (fun cdv A outer s H vs Q E hr h => ?_), F.bindsN fun _ _ _ _ _ _ us hl => match us, hl with | [_], _ => rfl, F.kp⟩ (by decide)
    · obtain ⟨t, rfl, _⟩ := h
      rfl
    · obtain ⟨t, rfl, hI, q⟩ := h
      exact ⟨_, PSs.nox (pss_one (ps_ret pe_int)), q _ H (Ex.refl H) rfl⟩
  mL := by
    refine ⟨_, T.k_OnePart_letter, ?_⟩
    obtain ⟨fd, F⟩ := T.f_OnePart_letter
    refine Gd.mono (j := 69) ⟨fd, F.ok scO2 (fun vs H Q E h => ?_) (fun cdv A outer s H vs Q E hr h => ?_), F.bindsN fun _ _ _ _ _ _ us hl => match us, hl with | [_, _], _ => rfl, F.kp⟩ (by decide)
    · obtain ⟨t, a, rfl, _⟩ := h
      rfl
    · obtain ⟨t, lab, rfl, hI, hlt, q⟩ := h
      have q2 : ∀ v, v = V.int ((if pOne i k lab = true then 1 else 0 : Nat) : Int) → Q v H := fun v hv => q v H (Ex.refl H) (by show _ = V.int ((fOne _ [lab] : Nat) : Int); rw [fOne_one]; exact hv)
      obtain ⟨dx, ln, h1, h2, h3⟩ := id hI
      have hr2 : Room 2 _ := hr.mono (by decide)
      refine ⟨_, PSs.nox (pss_one (ps_ret (pe_ifExp (pt_val (pe_cG (ok_is_in (P := P) (base := base) T) hr2 rfl T.g_is_in pass0
        (pa_cons (pe_ix ix_tup (pe_fld (pv 0) rfl) pe_int (fun _ _ => rfl)) (pa_cons (pv 1) (pa_cons (pe_fld (pv 0) rfl) pa_nil))))) pe_int pe_int))), ?_⟩
      refine ⟨_, rfl, t, _, dx, _, _, rfl, h1, T.c_OnePart, T.n_OnePart_line, rfl, ln, _, 1, _, rfl, rfl, sqT_of h3, rfl, _, rfl, _, rfl, t, _, dx, _, _, rfl, h1, T.c_OnePart, T.n_OnePart_sets, rfl, i, lab, k, rfl, hp.sets, _, rfl, ?_⟩
      show if pOne i k lab = true then _ else _
      cases e : pOne i k lab with
      | true => exact iteT (q2 _ (by rw [e]; rfl))
      | false => exact iteF (q2 _ (by rw [e]; rfl))
  mJ := by
    refine ⟨_, T.k_OnePart_join, ?_⟩
    obtain ⟨fd, F⟩ := T.f_OnePart_join
    refine Gd.mono (j := 1) ⟨fd, F.ok scO3 (fun vs H Q E h => ?_) (fun cdv A outer s H vs Q E hr h => ?_), F.bindsN fun _ _ _ _ _ _ us hl => match us, hl with | [_, _, _], _ => rfl, F.kp⟩ (by decide)
    · obtain ⟨t, x, y, u, w, rfl, _⟩ := h
      rfl
    · obtain ⟨t, x, y, u, w, rfl, hI, hu, hw, rx, ry, q⟩ := h
      cases rx
      cases ry
      have q2 := q (.int ((min 2 (fOne (pOne i k) u + fOne (pOne i k) w) : Nat) : Int)) H (Ex.refl H) (by show _ = V.int ((fOne _ _ : Nat) : Int); rw [← fOne_app, jOne])
      refine ⟨_, PSs.nox (pss_one (ps_ret (pe_callB (call_min2 rfl) rfl T.m_min (by decide +kernel) (pa_cons pe_int (pa_cons (pe_op op_addN (pv 1) (pv 2)) pa_nil))))), ?_⟩
      refine ⟨_, rfl, _, rfl, _, _, rfl, rfl, _, _, rfl, ?_⟩
      have e : (if (((fOne (pOne i k) u + fOne (pOne i k) w : Nat) : Int)) < 2 then (((fOne (pOne i k) u + fOne (pOne i k) w : Nat) : Int)) else 2) = ((min 2 (fOne (pOne i k) u + fOne (pOne i k) w) : Nat) : Int) := by
        by_cases c : fOne (pOne i k) u + fOne (pOne i k) w < 2
        · rw [if_pos (by omega)]; omega
        · rw [if_neg (by omega)]; omega
      show Q (.int (if (((fOne (pOne i k) u + fOne (pOne i k) w : Nat) : Int)) < 2 then (((fOne (pOne i k) u + fOne (pOne i k) w : Nat) : Int)) else 2)) H
      rw [e]
      exact q2
  mA := by
    refine ⟨_, T.k_OnePart_is_accepted, ?_⟩
    obtain ⟨fd, F⟩ := T.f_OnePart_is_accepted
    refine Gd.mono (j := 1) ⟨fd, F.ok scO4 (fun vs H Q E h => ?_) (fun cdv A outer s H vs Q E hr h => ?_), F.bindsN fun _ _ _ _ _ _ us hl => match us, hl with | [_, _], _ => rfl, F.kp⟩ (by decide)
    · obtain ⟨t, x, u, rfl, _⟩ := h
      rfl
    · obtain ⟨t, x, u, rfl, hI, hu, rx, q⟩ := h
      cases rx
      have q2 := q H (Ex.refl H)
      refine ⟨_, PSs.nox (pss_one (ps_ret (pe_cmpR op_eqNN (pv 1) pe_int (nomark _)))), ⟨_, rfl, _, 1, rfl, rfl, ?_⟩⟩
      have e : Lang S n k u = decide (fOne (pOne i k) u = 1) := lang_one hp.at_ u
      have e2 : (clOne K a S n k i cnt).L u = decide (fOne (pOne i k) u = 1) := e
      rw [e2] at q2
      exact q2

/-! ### NextPart -/
def repNx (H : Hp) (x : Nx) (v : V) : Prop := match x with
  | .none => v = .str "none"
  | .broken => v = .str "broken"
  | .pair d c => ∃ a, v = .ref a ∧ H a = some (.tup [.bl d, .bl c])
def b2n (b : Bool) : Int := if b = true then 1 else 0
def keyNx : Nx → NKey
  | .none => .text "none"
  | .broken => .text "broken"
  | .pair d c => .tup [.num (b2n d), .num (b2n c)]
def clNext (K : PySem.W.Frag) (a : Addr) (S : List Ln) (n k c d : Nat) (cnt : Nat) : Cl where
  C := He.ga K "NextPart"
  α := Nx
  key := keyNx
  Is := PIs (He.ga K "NextPart") a S (.next c d) k
  rep := repNx
  cnt := cnt
  f := fNx (fun lab => plm S k lab c) (fun lab => plm S k lab d)
  L := Lang S n k
def datNx : Nx → PyData
  | .none => .str "none"
  | .broken => .str "broken"
  | .pair d c => .tuple [.bool d, .bool c]
theorem repNx.dp {K : PySem.W.Frag} {H : Hp} {x : Nx} {v : V} (h : repNx H x v) : Dp K H v (datNx x) := by
  cases x with
  | none => cases h; exact .str _
  | broken => cases h; exact .str _
  | pair d c =>
    obtain ⟨a, rfl, ha⟩ := h
    exact .tup (sqT_of ha) (.cons (.bl d) (.cons (.bl c) .nil))
theorem shNx (x : Nx) : SeqAt.shaped (datNx x) = true := by
  rcases x with _ | _ | ⟨_ | _, _ | _⟩ <;> decide +kernel
theorem eqNx1 (x : Nx) : PyData.eqv (datNx x) (.str "none") = decide (x = .none) := by
  rcases x with _ | _ | ⟨_ | _, _ | _⟩ <;> decide +kernel
theorem eqNx2 (x : Nx) : PyData.eqv (datNx x) (.str "broken") = decide (x = .broken) := by
  rcases x with _ | _ | ⟨_ | _, _ | _⟩ <;> decide +kernel
theorem scN1 : FnScope ["self"] ["self"] (defScope s_NextPart_empty) := ⟨rfl, rfl, rfl, by decide +kernel, rfl, by decide +kernel, by decide +kernel⟩
theorem scN2 : FnScope ["self", "a"] ["self", "a"] (defScope s_NextPart_letter) := ⟨rfl, rfl, rfl, by decide +kernel, rfl, by decide +kernel, by decide +kernel⟩
theorem scN3 : FnScope ["self", "x", "y"] ["self", "x", "y"] (defScope s_NextPart_join) := ⟨rfl, rfl, rfl, by decide +kernel, rfl, by decide +kernel, by decide +kernel⟩
theorem scN4 : FnScope ["self", "x"] ["self", "x"] (defScope s_NextPart_is_accepted) := ⟨rfl, rfl, rfl, by decide +kernel, rfl, by decide +kernel, by decide +kernel⟩
theorem cl_next (T : Tx w K mg) {a : Addr} {S : List Ln} {n k c d cnt : Nat} (hp : PLn S n k (.next c d)) : ClOk P w K mg base (clNext K a S n k c d cnt) where
  cls := T.c_NextPart
  inj := fun x y h => by
    have h : keyNx x = keyNx y := h
    rcases x with _ | _ | ⟨_ | _, _ | _⟩ <;> rcases y with _ | _ | ⟨_ | _, _ | _⟩ <;> first | rfl | (exfalso; revert h; decide +kernel)
  dep := fun x => by
    show (keyNx x).depth ≤ 8
    rcases x with _ | _ | ⟨_ | _, _ | _⟩ <;> decide +kernel
  is_ex := fun x h => h.ex x
  ins := fun h => h.ins
  rep_ex := fun {H H' x v} e h => by
    cases x with
    | none => exact h
    | broken => exact h
    | pair d c =>
      obtain ⟨a, e1, e2⟩ := h
      exact ⟨a, e1, e _ _ e2⟩
  rep_key := fun {H x v} h => by
    cases x with
    | none => cases h; exact .text _
    | broken => cases h; exact .text _
    | pair d c =>
      obtain ⟨a, rfl, e2⟩ := h
      exact .tup e2 (.cons (.bool rfl) (.cons (.bool rfl) .nil))
  cong := fun u u' v v' _ _ _ _ e e' => by
    have e : fNx (fun lab => plm S k lab c) (fun lab => plm S k lab d) u = fNx (fun lab => plm S k lab c) (fun lab => plm S k lab d) u' := e
    have e' : fNx (fun lab => plm S k lab c) (fun lab => plm S k lab d) v = fNx (fun lab => plm S k lab c) (fun lab => plm S k lab d) v' := e'
    show fNx (fun lab => plm S k lab c) (fun lab => plm S k lab d) (u ++ v) = fNx (fun lab => plm S k lab c) (fun lab => plm S k lab d) (u' ++ v')
    rw [← fNx_app, ← fNx_app, e, e']
  acong := fun u u' _ _ e => by
    have e : fNx (fun lab => plm S k lab c) (fun lab => plm S k lab d) u = fNx (fun lab => plm S k lab c) (fun lab => plm S k lab d) u' := e
    show Lang S n k u = Lang S n k u'
    rw [lang_next hp.at_, lang_next hp.at_, e]
  mE := by
    refine ⟨_, T.k_NextPart_empty, ?_⟩
    obtain ⟨fd, F⟩ := T.f_NextPart_empty
    refine Gd.mono (j := 1) ⟨fd, F.ok scN1 (fun vs H Q E h => ?_) (fun cdv A outer s H vs Q E hr h => ?_), F.bindsN fun _ _ _ _ _ _ us hl => match us, hl with | [_], _ => rfl, F.kp⟩ (by decide)
    · obtain ⟨t, rfl, _⟩ := h
      rfl
    · obtain ⟨t, rfl, hI, q⟩ := h
      obtain ⟨tk, hN⟩ := T.g_NONE
      exact ⟨_, PSs.nox (pss_one (ps_ret (pe_glob (v := .str "none") rfl hN ⟨_, rfl⟩))), q _ H (Ex.refl H) rfl⟩
  mL := by
    refine ⟨_, T.k_NextPart_letter, ?_⟩
    obtain ⟨fd, F⟩ := T.f_NextPart_letter
    refine Gd.mono (j := 69) ⟨fd, F.ok scN2 (fun vs H Q E h => ?_) (fun cdv A outer s H vs Q E hr h => ?_), F.bindsN fun _ _ _ _ _ _ us hl => match us, hl with | [_, _], _ => rfl, F.kp⟩ (by decide)
    · obtain ⟨t, a, rfl, _⟩ := h
      rfl
    · obtain ⟨t, lab, rfl, hI, hlt, q⟩ := h
      obtain ⟨dx, ln, h1, h2, h3⟩ := id hI
      have hc := (hp.wf n _ hp.at_ : (c < n ∧ KindAt S c true) ∧ (d < n ∧ KindAt S d true))
      have hn := (List.getElem?_eq_some_iff.mp hp.at_).1
      have GA := ok_at (P := P) (base := base) (a := a) T hp T.c_NextPart T.n_NextPart_sentence T.n_NextPart_line T.n_NextPart_sets T.f_NextPart_at
      refine ⟨_, PSs.nox (pss_one (ps_ret (pe_tup (pa_cons (pe_mG (pv 0) T.c_NextPart T.k_NextPart_at GA hr pass0 (pa_cons pe_int (pa_cons (pv 1) pa_nil)))
        (pa_cons (pe_mG (pv 0) T.c_NextPart T.k_NextPart_at GA hr pass0 (pa_cons pe_int (pa_cons (pv 1) pa_nil))) pa_nil))))), ?_⟩
      refine ⟨_, rfl, t, dx, _, rfl, h1, rfl, _, rfl, t, 2, d, lab, rfl, hI, rfl, (by have := hp.len; have := hc.2.1; omega), hc.2.2, ?_⟩
      refine ⟨_, rfl, t, dx, _, rfl, h1, rfl, _, rfl, t, 1, c, lab, rfl, hI, rfl, (by have := hp.len; have := hc.1.1; omega), hc.1.2, (by show 2 ≤ sizeLine; decide), fun p np => ?_⟩
      exact q _ _ (Ex.add np) ⟨p, rfl, upd_same⟩
  mJ := by
    refine ⟨_, T.k_NextPart_join, ?_⟩
    obtain ⟨fd, F⟩ := T.f_NextPart_join
    refine Gd.mono (j := 1) ⟨fd, F.ok scN3 (fun vs H Q E h => ?_) (fun cdv A outer s H vs Q E hr h => ?_), F.bindsN fun _ _ _ _ _ _ us hl => match us, hl with | [_, _, _], _ => rfl, F.kp⟩ (by decide)
    · obtain ⟨t, x, y, u, w, rfl, _⟩ := h
      rfl
    · obtain ⟨t, x, y, u, w, rfl, hI, hu, hw, rx, ry, q⟩ := h
      obtain ⟨tN, hN⟩ := T.g_NONE
      obtain ⟨tB, hB⟩ := T.g_BROKEN
      have hu64 := hr.units
      refine ⟨_, PSs.nox (pss_cons (ps_if (pt_cmpR (op_eqD hu64) (pv 1) (pe_glob (v := .str "none") rfl hN ⟨_, rfl⟩) (nomark _)) (pss_one (ps_ret (pv 2))) pss_nil)
        (pss_cons (ps_if (pt_cmpR (op_eqD hu64) (pv 2) (pe_glob (v := .str "none") rfl hN ⟨_, rfl⟩) (nomark _)) (pss_one (ps_ret (pv 1))) pss_nil)
        (pss_cons (ps_if (PW.pt (pw_or (pt_cmpR (op_eqD hu64) (pv 1) (pe_glob (v := .str "broken") rfl hB ⟨_, rfl⟩) (nomark _)) (pw_or (pt_cmpR (op_eqD hu64) (pv 2) (pe_glob (v := .str "broken") rfl hB ⟨_, rfl⟩) (nomark _))
          (pw_or1 (PW.pt (pw_and (pt_val (pe_ix ix_tup (pv 1) pe_int (fun _ _ => rfl))) (pw_and1 (pt_not (pt_val (pe_ix ix_tup (pv 2) pe_int (fun _ _ => rfl)))))))))))
          (pss_one (ps_ret (pe_glob (v := .str "broken") rfl hB ⟨_, rfl⟩))) pss_nil)
        (pss_one (ps_ret (pe_tup (pa_cons (pe_ix ix_tup (pv 1) pe_int (fun _ _ => rfl)) (pa_cons (pe_ix ix_tup (pv 2) pe_int (fun _ _ => rfl)) pa_nil)))))))), ?_⟩
      have rx : repNx H (fNx (fun lab => plm S k lab c) (fun lab => plm S k lab d) u) x := rx
      have ry : repNx H (fNx (fun lab => plm S k lab c) (fun lab => plm S k lab d) w) y := ry
      have q : ∀ v H', Ex H H' → repNx H' (fNx (fun lab => plm S k lab c) (fun lab => plm S k lab d) (u ++ w)) v → Q v H' := q
      rw [← fNx_app] at q
      generalize fNx (fun lab => plm S k lab c) (fun lab => plm S k lab d) u = X at rx q
      generalize fNx (fun lab => plm S k lab c) (fun lab => plm S k lab d) w = Y at ry q
      refine ⟨_, rfl, _, _, rx.dp, .str _, shNx _, by decide +kernel, _, rfl, ?_⟩
      rw [eqNx1]
      refine ite2 (fun e => ?_) (fun n1 => ?_)
      · have e := of_decide_eq_true e
        subst e
        exact ⟨_, rfl, q y H (Ex.refl H) (by simpa only [jNx] using ry)⟩
      have n1 : X ≠ .none := fun e => n1 (decide_eq_true e)
      refine ⟨_, rfl, _, _, ry.dp, .str _, shNx _, by decide +kernel, _, rfl, ?_⟩
      rw [eqNx1]
      refine ite2 (fun e => ?_) (fun n2 => ?_)
      · have e := of_decide_eq_true e
        subst e
        exact ⟨_, rfl, q x H (Ex.refl H) (by rw [jNx_none]; exact rx)⟩
      have n2 : Y ≠ .none := fun e => n2 (decide_eq_true e)
      refine ⟨_, rfl, _, _, rx.dp, .str _, shNx _, by decide +kernel, _, rfl, ?_⟩
      rw [eqNx2]
      refine ite2 (fun e => ?_) (fun n3 => ?_)
      · have e := of_decide_eq_true e
        subst e
        refine iteT (q _ H (Ex.refl H) ?_)
        cases Y with
        | none => exact absurd rfl n2
        | broken => rfl
        | pair _ _ => rfl
      have n3 : X ≠ .broken := fun e => n3 (decide_eq_true e)
      refine ⟨_, rfl, _, _, ry.dp, .str _, shNx _, by decide +kernel, _, rfl, ?_⟩
      rw [eqNx2]
      refine ite2 (fun e => ?_) (fun n4 => ?_)
      · have e := of_decide_eq_true e
        subst e
        refine iteT (q _ H (Ex.refl H) ?_)
        cases X with
        | none => exact absurd rfl n1
        | broken => rfl
        | pair _ _ => rfl
      have n4 : Y ≠ .broken := fun e => n4 (decide_eq_true e)
      cases X with
      | none => exact absurd rfl n1
      | broken => exact absurd rfl n3
      | pair xd xc =>
        cases Y with
        | none => exact absurd rfl n2
        | broken => exact absurd rfl n4
        | pair yd yc =>
          obtain ⟨ax, rfl, hax⟩ := rx
          obtain ⟨ay, rfl, hay⟩ := ry
          have fin : ∀ p, H p = none → (xc && !yd) = false → Q (.ref p) (upd H p (.tup [.bl xd, .bl yc])) := fun p np e => q _ _ (Ex.add np) (by
            rw [show jNx (.pair xd xc) (.pair yd yc) = .pair xd yc by simp [jNx, e]]
            exact ⟨p, rfl, upd_same⟩)
          have brk : (xc && !yd) = true → Q (.str "broken") H := fun e => q _ _ (Ex.refl H) (by
            rw [show jNx (.pair xd xc) (.pair yd yc) = .broken by simp [jNx, e]]
            rfl)
          refine ⟨_, rfl, ax, _, 1, _, rfl, rfl, sqT_of hax, rfl, _, rfl, ?_⟩
          cases xc with
          | false => exact iteF (iteF ⟨_, rfl, ax, _, 0, _, rfl, rfl, sqT_of hax, rfl, _, rfl, ay, _, 1, _, rfl, rfl, sqT_of hay, rfl, (by show 2 ≤ sizeLine; decide), fun p np => fin p np rfl⟩)
          | true =>
            refine iteT ⟨_, rfl, ay, _, 0, _, rfl, rfl, sqT_of hay, rfl, _, rfl, ?_⟩
            cases yd with
            | true => exact iteF ⟨_, rfl, ax, _, 0, _, rfl, rfl, sqT_of hax, rfl, _, rfl, ay, _, 1, _, rfl, rfl, sqT_of hay, rfl, (by show 2 ≤ sizeLine; decide), fun p np => fin p np rfl⟩
            | false => exact iteT (brk rfl)
  mA := by
    refine ⟨_, T.k_NextPart_is_accepted, ?_⟩
    obtain ⟨fd, F⟩ := T.f_NextPart_is_accepted
    refine Gd.mono (j := 1) ⟨fd, F.ok scN4 (fun vs H Q E h => ?_) (fun cdv A outer s H vs Q E hr h => ?_), F.bindsN fun _ _ _ _ _ _ us hl => match us, hl with | [_, _], _ => rfl, F.kp⟩ (by decide)
    · obtain ⟨t, x, u, rfl, _⟩ := h
      rfl
    · obtain ⟨t, x, u, rfl, hI, hu, rx, q⟩ := h
      obtain ⟨tB, hB⟩ := T.g_BROKEN
      have q2 := q H (Ex.refl H)
      have rx : repNx H (fNx (fun lab => plm S k lab c) (fun lab => plm S k lab d) u) x := rx
      refine ⟨_, PSs.nox (pss_one (ps_ret (pe_cmpR (op_neD hr.units) (pv 1) (pe_glob (v := .str "broken") rfl hB ⟨_, rfl⟩) (nomark _)))), ⟨_, rfl, _, _, rx.dp, .str _, shNx _, by decide +kernel, ?_⟩⟩
      rw [eqNx2]
      have e : (clNext K a S n k c d cnt).L u = decide (fNx (fun lab => plm S k lab c) (fun lab => plm S k lab d) u ≠ .broken) := lang_next hp.at_ u
      rw [e] at q2
      rw [← decide_not]
      exact q2

/-! ### EndPart -/
def repEn (_ : Hp) (x : Option Bool) (v : V) : Prop := v = match x with
  | none => .str "none"
  | some b => .bl b
def keyEn : Option Bool → NKey
  | none => .text "none"
  | some b => .num (b2n b)
def lnEnd (fst : Bool) (c : Nat) : Ln := if fst = true then .first c else .last c
def clEnd (K : PySem.W.Frag) (a : Addr) (S : List Ln) (n k : Nat) (fst : Bool) (c : Nat) (cnt : Nat) : Cl where
  C := He.ga K "EndPart"
  α := Option Bool
  key := keyEn
  Is := PIs (He.ga K "EndPart") a S (lnEnd fst c) k
  rep := repEn
  cnt := cnt
  f := fEnd fst (fun lab => plm S k lab c)
  L := Lang S n k
theorem scE1 : FnScope ["self"] ["self"] (defScope s_EndPart_empty) := ⟨rfl, rfl, rfl, by decide +kernel, rfl, by decide +kernel, by decide +kernel⟩
theorem scE2 : FnScope ["self", "a"] ["self", "a"] (defScope s_EndPart_letter) := ⟨rfl, rfl, rfl, by decide +kernel, rfl, by decide +kernel, by decide +kernel⟩
theorem scE3 : FnScope ["self", "x", "y", "one", "two"] ["self", "x", "y"] (defScope s_EndPart_join) := ⟨rfl, rfl, rfl, by decide +kernel, rfl, by decide +kernel, by decide +kernel⟩
theorem scE4 : FnScope ["self", "x"] ["self", "x"] (defScope s_EndPart_is_accepted) := ⟨rfl, rfl, rfl, by decide +kernel, rfl, by decide +kernel, by decide +kernel⟩
theorem itB {b : Bool} {y : Str} {A B : Prop} (hb : B) : if decide (V.bl b = V.str y) = true then A else B := by
  rw [decide_eq_false fun e => nomatch e]; exact iteF hb
theorem cl_end (T : Tx w K mg) {a : Addr} {S : List Ln} {n k c cnt : Nat} {fst : Bool} (hp : PLn S n k (lnEnd fst c)) : ClOk P w K mg base (clEnd K a S n k fst c cnt) where
  cls := T.c_EndPart
  inj := fun x y h => by
    have h : keyEn x = keyEn y := h
    rcases x with _ | _ | _ <;> rcases y with _ | _ | _ <;> first | rfl | (exfalso; revert h; decide +kernel)
  dep := fun x => by
    show (keyEn x).depth ≤ 8
    rcases x with _ | _ | _ <;> decide +kernel
  is_ex := fun x h => h.ex x
  ins := fun h => h.ins
  rep_ex := fun _ h => h
  rep_key := fun {H x v} h => by
    rcases x with _ | b <;> cases h
    · exact .text _
    · exact .bool rfl
  cong := fun u u' v v' _ _ _ _ e e' => by
    have e : fEnd fst (fun lab => plm S k lab c) u = fEnd fst (fun lab => plm S k lab c) u' := e
    have e' : fEnd fst (fun lab => plm S k lab c) v = fEnd fst (fun lab => plm S k lab c) v' := e'
    show fEnd fst (fun lab => plm S k lab c) (u ++ v) = fEnd fst (fun lab => plm S k lab c) (u' ++ v')
    rw [← fEnd_app, ← fEnd_app, e, e']
  acong := fun u u' _ _ e => by
    have e : fEnd fst (fun lab => plm S k lab c) u = fEnd fst (fun lab => plm S k lab c) u' := e
    show Lang S n k u = Lang S n k u'
    have h : ∀ u, Lang S n k u = decide (fEnd fst (fun lab => plm S k lab c) u ≠ some false) := fun u => by
      cases fst
      · exact lang_last hp.at_ u
      · exact lang_first hp.at_ u
    rw [h, h, e]
  mE := by
    refine ⟨_, T.k_EndPart_empty, ?_⟩
    obtain ⟨fd, F⟩ := T.f_EndPart_empty
    refine Gd.mono (j := 1) ⟨fd, F.ok scE1 (fun vs H Q E h => ?_) (fun cdv A outer s H vs Q E hr h => ?_), F.bindsN fun _ _ _ _ _ _ us hl => match us, hl with | [_], _ => rfl, F.kp⟩ (by decide)
    · obtain ⟨t, rfl, _⟩ := h
      rfl
    · obtain ⟨t, rfl, hI, q⟩ := h
      obtain ⟨tk, hN⟩ := T.g_NONE
      exact ⟨_, PSs.nox (pss_one (ps_ret (pe_glob (v := .str "none") rfl hN ⟨_, rfl⟩))), q _ H (Ex.refl H) (by show _ = match (fEnd fst _ [] : Option Bool) with | none => _ | some b => _; rw [fEnd_nil])⟩
  mL := by
    refine ⟨_, T.k_EndPart_letter, ?_⟩
    obtain ⟨fd, F⟩ := T.f_EndPart_letter
    refine Gd.mono (j := 69) ⟨fd, F.ok scE2 (fun vs H Q E h => ?_) (fun cdv A outer s H vs Q E hr h => ?_), F.bindsN fun _ _ _ _ _ _ us hl => match us, hl with | [_, _], _ => rfl, F.kp⟩ (by decide)
    · obtain ⟨t, a, rfl, _⟩ := h
      rfl
    · obtain ⟨t, lab, rfl, hI, hlt, q⟩ := h
      obtain ⟨dx, ln, h1, h2, h3⟩ := id hI
      have hc : c < n ∧ KindAt S c true := by
        have := hp.wf n _ hp.at_
        cases fst <;> exact this
      have hl : (lnV (lnEnd fst c))[1]? = some (.int (c : Int)) := by cases fst <;> rfl
      have hn := (List.getElem?_eq_some_iff.mp hp.at_).1
      have GA := ok_at (P := P) (base := base) (a := a) T hp T.c_EndPart T.n_EndPart_sentence T.n_EndPart_line T.n_EndPart_sets T.f_EndPart_at
      refine ⟨_, PSs.nox (pss_one (ps_ret (pe_mG (pv 0) T.c_EndPart T.k_EndPart_at GA hr pass0 (pa_cons pe_int (pa_cons (pv 1) pa_nil))))), ?_⟩
      refine ⟨_, rfl, t, dx, _, rfl, h1, rfl, _, rfl, t, 1, c, lab, rfl, hI, hl, (by have := hp.len; have := hc.1; omega), hc.2, ?_⟩
      exact q _ _ (Ex.refl H) (by show _ = match (fEnd fst _ [lab] : Option Bool) with | none => _ | some b => _; rw [fEnd_one])
  mJ := by
    refine ⟨_, T.k_EndPart_join, ?_⟩
    obtain ⟨fd, F⟩ := T.f_EndPart_join
    refine Gd.mono (j := 1) ⟨fd, F.ok scE3 (fun vs H Q E h => ?_) (fun cdv A outer s H vs Q E hr h => ?_), F.bindsN fun _ _ _ _ _ _ us hl => match us, hl with | [_, _, _], _ => rfl, F.kp⟩ (by decide)
    · obtain ⟨t, x, y, u, w, rfl, _⟩ := h
      rfl
    · obtain ⟨t, x, y, u, w, rfl, hI, hu, hw, rx, ry, q⟩ := h
      obtain ⟨tN, hN⟩ := T.g_NONE
      obtain ⟨dx, ln, h1, h2, h3⟩ := id hI
      refine ⟨_, PSs.nox (pss_cons (ps_asg (pe_ifExp (pt_cmpR op_eq (pe_ix ix_tup (pe_fld (pv 0) rfl) pe_int (fun _ _ => rfl)) pe_str (nomark _)) (pe_tup (pa_cons (pv 1) (pa_cons (pv 2) pa_nil))) (pe_tup (pa_cons (pv 2) (pa_cons (pv 1) pa_nil))))
          (pg_tup rfl (pgs_cons (pg_name (i := 3) scE3.nd rfl (.inl rfl)) (pgs_cons (pg_name (i := 4) scE3.nd rfl (.inl rfl)) pgs_nil))))
        (pss_one (ps_ret (pe_ifExp (pt_cmpR op_eq (pv 3) (pe_glob (v := .str "none") rfl hN ⟨_, rfl⟩) (nomark _)) (pv 4) (pv 3))))), ?_⟩
      have rx1 : repEn H (fEnd fst (fun lab => plm S k lab c) u) x := rx
      have ry1 : repEn H (fEnd fst (fun lab => plm S k lab c) w) y := ry
      clear rx ry
      have q : ∀ v H', Ex H H' → repEn H' (fEnd fst (fun lab => plm S k lab c) (u ++ w)) v → Q v H' := q
      rw [← fEnd_app] at q
      generalize fEnd fst (fun lab => plm S k lab c) u = X at rx1 q
      generalize fEnd fst (fun lab => plm S k lab c) w = Y at ry1 q
      refine ⟨_, rfl, t, _, dx, _, _, rfl, h1, T.c_EndPart, T.n_EndPart_line, rfl, ln, _, 0, (if fst = true then .str "first" else .str "last"), rfl, rfl, sqT_of h3, (by cases fst <;> rfl), ?_⟩
      cases fst with
      | true =>
        refine ⟨rfl, _, rfl, itT ⟨_, rfl, _, rfl, (by show 2 ≤ sizeLine; decide), fun p np => ⟨p, _, rfl, sqT_of upd_same, rfl, _, _, rfl, _, _, rfl, rfl, ?_⟩⟩⟩
        have q2 := q
        refine ⟨_, rfl, ?_⟩
        cases X with
        | none =>
          cases rx1
          exact ⟨rfl, _, rfl, itT ⟨_, rfl, q _ _ (Ex.add np) (show repEn _ Y y from ry1)⟩⟩
        | some b =>
          cases rx1
          exact ⟨rfl, _, rfl, itB ⟨_, rfl, q _ _ (Ex.add np) rfl⟩⟩
      | false =>
        refine ⟨rfl, _, rfl, itF (by decide +kernel) ⟨_, rfl, _, rfl, (by show 2 ≤ sizeLine; decide), fun p np => ⟨p, _, rfl, sqT_of upd_same, rfl, _, _, rfl, _, _, rfl, rfl, ?_⟩⟩⟩
        refine ⟨_, rfl, ?_⟩
        cases Y with
        | none =>
          cases ry1
          exact ⟨rfl, _, rfl, itT ⟨_, rfl, q _ _ (Ex.add np) (show repEn _ X x from rx1)⟩⟩
        | some b =>
          cases ry1
          exact ⟨rfl, _, rfl, itB ⟨_, rfl, q _ _ (Ex.add np) rfl⟩⟩
  mA := by
    refine ⟨_, T.k_EndPart_is_accepted, ?_⟩
    obtain ⟨fd, F⟩ := T.f_EndPart_is_accepted
    refine Gd.mono (j := 1) ⟨fd, F.ok scE4 (fun vs H Q E h => ?_) (fun cdv A outer s H vs Q E hr h => ?_), F.bindsN fun _ _ _ _ _ _ us hl => match us, hl with | [_, _], _ => rfl, F.kp⟩ (by decide)
    · obtain ⟨t, x, u, rfl, _⟩ := h
      rfl
    · obtain ⟨t, x, u, rfl, hI, hu, rx, q⟩ := h
      obtain ⟨tN, hN⟩ := T.g_NONE
      have q2 := q H (Ex.refl H)
      have rx : repEn H (fEnd fst (fun lab => plm S k lab c) u) x := rx
      have e : (clEnd K a S n k fst c cnt).L u = decide (fEnd fst (fun lab => plm S k lab c) u ≠ some false) := by
        cases fst
        · exact lang_last hp.at_ u
        · exact lang_first hp.at_ u
      rw [e] at q2
      refine ⟨_, PSs.nox (pss_one (ps_ret (pe_or (pe_cmpR op_eq (pv 1) (pe_glob (v := .str "none") rfl hN ⟨_, rfl⟩) (nomark _)) (pe_one (pv 1))))), ?_⟩
      generalize fEnd fst (fun lab => plm S k lab c) u = X at rx q2
      refine ⟨_, rfl, ?_⟩
      cases X with
      | none =>
        cases rx
        exact ⟨rfl, _, rfl, iteT q2⟩
      | some b =>
        cases rx
        refine ⟨rfl, _, rfl, ?_⟩
        rw [decide_eq_false fun e => nomatch e]
        refine iteF ⟨_, rfl, ?_⟩
        cases b <;> exact q2
end
end Tw
set_option maxRecDepth 100000
set_option maxHeartbeats 2000000
/-! Table, Leaders, Pairs. -/
namespace Tw
open PySem PySem.Spec PyProof.Rows L2
theorem at_get {R : Rd} (sq : ∀ row ∈ R.mul, row.length = R.m) {x y : Nat} (hx : x < R.m) (hy : y < R.m) : ∃ row, R.mul[x]? = some row ∧ row[y]? = some (R.at x y) := by
  have e : R.mul[x]? = some (R.mul[x]'hx) := List.getElem?_eq_getElem _
  have hl := sq _ (List.mem_of_getElem? e)
  refine ⟨_, e, ?_⟩
  have hy2 : y < (R.mul[x]'hx).length := by omega
  unfold Rd.at
  rw [e, Option.getD_some, List.getElem?_eq_getElem hy2]
  rfl
section
variable {P : Program} {w : World} {K : PySem.W.Frag} {mg : Str → Option Value} {base : Heap}
/-! ### Table -/
def TIs (C : Addr) (R : Rd) (H : Hp) (t : Addr) : Prop := ∃ dx r, H t = some (.ins C dx [("reader", .ref r)]) ∧ RdrV H r R
theorem TIs.ex {C : Addr} {R : Rd} {H H' : Hp} {t : Addr} (x : Ex H H') (h : TIs C R H t) : TIs C R H' t := by
  obtain ⟨dx, r, h1, h2⟩ := h
  exact ⟨dx, r, x.ins h1, x.rdr h2⟩
/-- Table's __init__ (also by super) -/
def spTInit (C : Addr) : Sp := fun vs H Q _ => ∃ (t dx r : Addr), vs = [.ref t, .ref r] ∧ H t = some (.ins C dx []) ∧ Q .non (upd H t (.ins C dx [("reader", .ref r)]))
theorem scTI : FnScope ["self", "reader"] ["self", "reader"] (defScope s_Table___init__) := ⟨rfl, rfl, rfl, by decide +kernel, rfl, by decide +kernel, by decide +kernel⟩
theorem ok_tinit (T : Tx w K mg) {C : Addr} (cC : Cls K C) (n1 : NoAttr K C "reader") : Gd P w K mg base CX0 1 (He.fAd K ("Table", some "__init__")) ["self", "reader"] (spTInit C) := by
  obtain ⟨fd, F⟩ := T.f_Table___init__
  refine ⟨fd, F.ok scTI (fun vs H Q E h => ?_) (fun cdv A outer s H vs Q E hr h => ?_), F.bindsN fun _ _ _ _ _ _ us hl => match us, hl with | [_, _], _ => rfl, F.kp⟩
  · obtain ⟨t, dx, r, rfl, _⟩ := h
    rfl
  · obtain ⟨t, dx, r, rfl, ht, q⟩ := h
    exact ⟨_, PSs.nox (pss_one (ps_fld (pv 0) (pv 1) rfl)), ⟨_, rfl, _, rfl, t, C, dx, [], rfl, ht, cC, n1, (by show 0 < 1000; decide), q⟩⟩
def clTable (K : PySem.W.Frag) (R : Rd) (cnt : Nat) (L : List Nat → Bool) (v : List Nat → Nat) : Cl where
  C := He.ga K "Table"
  α := Nat
  key := fun x => .num (x : Int)
  Is := TIs (He.ga K "Table") R
  rep := fun _ x v => v = .int (x : Int)
  cnt := cnt
  f := v
  L := L
theorem scT1 : FnScope ["self"] ["self"] (defScope s_Table_empty) := ⟨rfl, rfl, rfl, by decide +kernel, rfl, by decide +kernel, by decide +kernel⟩
theorem scT2 : FnScope ["self", "a"] ["self", "a"] (defScope s_Table_letter) := ⟨rfl, rfl, rfl, by decide +kernel, rfl, by decide +kernel, by decide +kernel⟩
theorem scT3 : FnScope ["self", "x", "y"] ["self", "x", "y"] (defScope s_Table_join) := ⟨rfl, rfl, rfl, by decide +kernel, rfl, by decide +kernel, by decide +kernel⟩
theorem scT4 : FnScope ["self", "x"] ["self", "x"] (defScope s_Table_is_accepted) := ⟨rfl, rfl, rfl, by decide +kernel, rfl, by decide +kernel, by decide +kernel⟩
/-- is_accepted, of a Table and of a Leaders -/
def spTAcc (C : Addr) : Sp := fun vs H Q _ => ∃ (t dx r : Addr) (x : Nat) (R : Rd) (fs : List (Str × V)), vs = [.ref t, .int (x : Int)] ∧ H t = some (.ins C dx fs) ∧ fs.lookup ("reader" : Str) = some (.ref r) ∧ RdrV H r R ∧ Q (.bl (decide (x ∈ R.acc))) H
theorem ok_tacc {C f : Addr} (cC : Cls K C) (n1 : NoAttr K C "reader") (hF : ∃ fd, FunD K "is_accepted" "Table.is_accepted" (defArgs s_Table_is_accepted) (defBody s_Table_is_accepted) (defScope s_Table_is_accepted) [] [] f fd) :
    Gd P w K mg base CX0 1 f ["self", "x"] (spTAcc C) := by
  obtain ⟨fd, F⟩ := hF
  refine ⟨fd, F.ok scT4 (fun vs H Q E h => ?_) (fun cdv A outer s H vs Q E hr h => ?_), F.bindsN fun _ _ _ _ _ _ us hl => match us, hl with | [_, _], _ => rfl, F.kp⟩
  · obtain ⟨t, dx, r, x, R, fs, rfl, _⟩ := h
    rfl
  · obtain ⟨t, dx, r, x, R, fs, rfl, ht, hf, ⟨lt, mt, at_, as, h1, h2, h3, h4, h5⟩, q⟩ := h
    refine ⟨_, PSs.nox (pss_one (ps_ret (pe_cmpR op_in_seq (pv 1) (pe_ix ix_tup (pe_fld (pv 0) rfl) pe_int (fun _ _ => rfl)) (by rfl)))), ?_⟩
    refine ⟨_, rfl, _, rfl, t, C, dx, _, _, rfl, ht, cC, n1, hf, r, _, 3, _, rfl, rfl, sqT_of h1, rfl, at_, _, rfl, .inr (sqT_of h5), rfl, nV_flat _, ?_⟩
    show Q (.bl (inV (.int (x : Nat)) (nV R.acc))) H
    rw [inV_nat]
    exact q
theorem cl_tableL (T : Tx w K mg) {R : Rd} {cnt : Nat} {L : List Nat → Bool} {v : List Nat → Nat} (hh : Hom R cnt L v) (sq : ∀ row ∈ R.mul, row.length = R.m) : ClOkL P w K mg base 1 (clTable K R cnt L v) where
  cls := T.c_Table
  inj := natKey_inj
  dep := fun x => by simp [clTable, NestedKey.depth]
  is_ex := fun x h => h.ex x
  ins := fun h => by
    obtain ⟨dx, r, h1, _⟩ := h
    exact ⟨dx, _, h1, rfl, rfl, rfl, rfl⟩
  rep_ex := fun _ h => h
  rep_key := fun h => by cases h; exact .int _
  cong := fun u u' x x' hu hu' hx hx' e e' => by
    have e : v u = v u' := e
    have e' : v x = v x' := e'
    show v (u ++ x) = v (u' ++ x')
    rw [← hh.mul u x hu hx, ← hh.mul u' x' hu' hx', e, e']
  acong := fun u u' hu hu' e => by
    have e : v u = v u' := e
    show L u = L u'
    rw [Bool.eq_iff_iff, ← hh.acc u hu, ← hh.acc u' hu', e]
  mE := by
    refine ⟨_, T.k_Table_empty, ?_⟩
    obtain ⟨fd, F⟩ := T.f_Table_empty
    refine Gd.mono (j := 1) ⟨fd, F.ok scT1 (fun vs H Q E h => ?_) (fun cdv A outer s H vs Q E hr h => ?_), F.bindsN fun _ _ _ _ _ _ us hl => match us, hl with | [_], _ => rfl, F.kp⟩ (by decide)
    · obtain ⟨t, rfl, _⟩ := h
      rfl
    · obtain ⟨t, rfl, ⟨dx, r, ht, ⟨lt, mt, at_, as, h1, h2, h3, h4, h5⟩⟩, q⟩ := h
      refine ⟨_, PSs.nox (pss_one (ps_ret (pe_ix ix_tup (pe_fld (pv 0) rfl) pe_int (fun _ _ => rfl)))), ?_⟩
      refine ⟨_, rfl, t, _, dx, _, _, rfl, ht, T.c_Table, T.n_Table_reader, rfl, r, _, 0, _, rfl, rfl, sqT_of h1, rfl, q _ H (Ex.refl H) ?_⟩
      show V.int (R.emp : Int) = V.int ((v [] : Nat) : Int)
      rw [hh.emp]
  mL := by
    refine ⟨_, T.k_Table_letter, ?_⟩
    obtain ⟨fd, F⟩ := T.f_Table_letter
    refine Gd.mono (j := 1) ⟨fd, F.ok scT2 (fun vs H Q E h => ?_) (fun cdv A outer s H vs Q E hr h => ?_), F.bindsN fun _ _ _ _ _ _ us hl => match us, hl with | [_, _], _ => rfl, F.kp⟩ (by decide)
    · obtain ⟨t, a, rfl, _⟩ := h
      rfl
    · obtain ⟨t, a, rfl, ⟨dx, r, ht, ⟨lt, mt, at_, as, h1, h2, h3, h4, h5⟩⟩, ha, q⟩ := h
      refine ⟨_, PSs.nox (pss_one (ps_ret (pe_ix ix_tup (pe_ix ix_tup (pe_fld (pv 0) rfl) pe_int (fun _ _ => rfl)) (pv 1) (fun _ _ => rfl)))), ?_⟩
      refine ⟨_, rfl, t, _, dx, _, _, rfl, ht, T.c_Table, T.n_Table_reader, rfl, r, _, 1, _, rfl, rfl, sqT_of h1, rfl, _, rfl, lt, _, a, _, rfl, rfl, sqT_of h2, nV_at (hh.let_ a ha), q _ H (Ex.refl H) rfl⟩
  mJ := by
    refine ⟨_, T.k_Table_join, ?_⟩
    obtain ⟨fd, F⟩ := T.f_Table_join
    refine Gd.mono (j := 1) ⟨fd, F.ok scT3 (fun vs H Q E h => ?_) (fun cdv A outer s H vs Q E hr h => ?_), F.bindsN fun _ _ _ _ _ _ us hl => match us, hl with | [_, _, _], _ => rfl, F.kp⟩ (by decide)
    · obtain ⟨t, x, y, u, w, rfl, _⟩ := h
      rfl
    · obtain ⟨t, x, y, u, w, rfl, ⟨dx, r, ht, ⟨lt, mt, at_, as, h1, h2, h3, h4, h5⟩⟩, hu, hw, rx, ry, q⟩ := h
      cases rx
      cases ry
      refine ⟨_, PSs.nox (pss_one (ps_ret (pe_ix ix_tup (pe_ix ix_tup (pe_ix ix_tup (pe_fld (pv 0) rfl) pe_int (fun _ _ => rfl)) (pv 1) (fun _ _ => rfl)) (pv 2) (fun _ _ => rfl)))), ?_⟩
      obtain ⟨row, e1, e2⟩ := at_get sq (hh.lt u hu) (hh.lt w hw)
      rw [hh.mul u w hu hw] at e2
      obtain ⟨tr, e3, e4⟩ := RdrV.row (mt := mt) h4 e1
      refine ⟨_, rfl, t, _, dx, _, _, rfl, ht, T.c_Table, T.n_Table_reader, rfl, r, _, 2, _, rfl, rfl, sqT_of h1, rfl, _, rfl, mt, _, (v u : Nat), _, rfl, rfl, sqT_of h3, e3, _, rfl, tr, _, (v w : Nat), _, rfl, rfl, sqT_of e4, nV_at e2, q _ H (Ex.refl H) rfl⟩
  mA := by
    refine ⟨_, T.k_Table_is_accepted, ?_⟩
    refine Gd.mono (j := 1) (Gd.imp (ok_tacc T.c_Table T.n_Table_reader T.f_Table_is_accepted) fun vs H Q E h => ?_) (by decide)
    obtain ⟨t, x, u, rfl, ⟨dx, r, ht, hR⟩, hu, rx, q⟩ := h
    cases rx
    refine ⟨t, dx, r, v u, R, _, rfl, ht, rfl, hR, ?_⟩
    have e : decide (v u ∈ R.acc) = L u := by rw [Bool.eq_iff_iff, decide_eq_true_iff]; exact hh.acc u hu
    rw [e]
    exact q H (Ex.refl H)

theorem cl_table (T : Tx w K mg) {R : Rd} {cnt : Nat} {L : List Nat → Bool} {v : List Nat → Nat} (hh : Hom R cnt L v) (sq : ∀ row ∈ R.mul, row.length = R.m) : ClOk P w K mg base (clTable K R cnt L v) := (cl_tableL T hh sq).mono (by decide)
/-! ### Leaders -/
def lf (r lg : Addr) : List (Str × V) := [("reader", .ref r), ("leading", .ref lg)]
def LIs (C : Addr) (R : Rd) (cl : List Nat) (H : Hp) (t : Addr) : Prop := ∃ dx r lg, H t = some (.ins C dx (lf r lg)) ∧ RdrV H r R ∧ H lg = some (.lst (nV cl))
def clLead (K : PySem.W.Frag) (R : Rd) (cl : List Nat) (cnt : Nat) (L : List Nat → Bool) (v : List Nat → Nat) : Cl where
  C := He.ga K "Leaders"
  α := Nat
  key := fun x => .num (x : Int)
  Is := LIs (He.ga K "Leaders") R cl
  rep := fun _ x v => v = .int (x : Int)
  cnt := cnt
  f := fun u => gt cl (v u)
  L := L
theorem scL1 : FnScope ["self"] ["self"] (defScope s_Leaders_empty) := ⟨rfl, rfl, rfl, by decide +kernel, rfl, by decide +kernel, by decide +kernel⟩
theorem scL2 : FnScope ["self", "a"] ["self", "a"] (defScope s_Leaders_letter) := ⟨rfl, rfl, rfl, by decide +kernel, rfl, by decide +kernel, by decide +kernel⟩
theorem scL3 : FnScope ["self", "x", "y"] ["self", "x", "y"] (defScope s_Leaders_join) := ⟨rfl, rfl, rfl, by decide +kernel, rfl, by decide +kernel, by decide +kernel⟩
theorem gt_at {cl : List Nat} {x : Nat} (h : x < cl.length) : cl[x]? = some (gt cl x) := by
  unfold gt
  rw [List.getElem?_eq_getElem h]
  rfl
theorem cl_lead (T : Tx w K mg) {R : Rd} {cl : List Nat} {cnt : Nat} {L : List Nat → Bool} {v : List Nat → Nat} (hh : Hom R cnt L v) (sq : ∀ row ∈ R.mul, row.length = R.m) (cg : Cong R cl) : ClOk P w K mg base (clLead K R cl cnt L v) where
  cls := T.c_Leaders
  inj := natKey_inj
  dep := fun x => by simp [clLead, NestedKey.depth]
  is_ex := fun x h => by
    obtain ⟨dx, r, lg, h1, h2, h3⟩ := h
    exact ⟨dx, r, lg, x.ins h1, x.rdr h2, x.lst h3⟩
  ins := fun h => by
    obtain ⟨dx, r, lg, h1, _⟩ := h
    exact ⟨dx, _, h1, rfl, rfl, rfl, rfl⟩
  rep_ex := fun _ h => h
  rep_key := fun h => by cases h; exact .int _
  cong := fun u u' x x' hu hu' hx hx' e e' => by
    have e : gt cl (v u) = gt cl (v u') := e
    have e' : gt cl (v x) = gt cl (v x') := e'
    show gt cl (v (u ++ x)) = gt cl (v (u' ++ x'))
    rw [← cg.join hh hu hx, ← cg.join hh hu' hx', e, e']
  acong := fun u u' hu hu' e => by
    have e : gt cl (v u) = gt cl (v u') := e
    show L u = L u'
    rw [Bool.eq_iff_iff, ← cg.acc_iff hh hu, ← cg.acc_iff hh hu', e]
  mE := by
    refine ⟨_, T.k_Leaders_empty, ?_⟩
    obtain ⟨fd, F⟩ := T.f_Leaders_empty
    refine Gd.mono (j := 1) ⟨fd, F.ok scL1 (fun vs H Q E h => ?_) (fun cdv A outer s H vs Q E hr h => ?_), F.bindsN fun _ _ _ _ _ _ us hl => match us, hl with | [_], _ => rfl, F.kp⟩ (by decide)
    · obtain ⟨t, rfl, _⟩ := h
      rfl
    · obtain ⟨t, rfl, ⟨dx, r, lg, ht, ⟨lt, mt, at_, as, h1, h2, h3, h4, h5⟩, hg⟩, q⟩ := h
      refine ⟨_, PSs.nox (pss_one (ps_ret (pe_ix ix_list (pe_fld (pv 0) rfl) (pe_ix ix_tup (pe_fld (pv 0) rfl) pe_int (fun _ _ => rfl)) (fun _ _ => rfl)))), ?_⟩
      refine ⟨_, rfl, t, _, dx, _, _, rfl, ht, T.c_Leaders, T.n_Leaders_leading, rfl, _, rfl, t, _, dx, _, _, rfl, ht, T.c_Leaders, T.n_Leaders_reader, rfl, r, _, 0, _, rfl, rfl, sqT_of h1, rfl, lg, _, R.emp, _, rfl, rfl, SqL.of hg,
        nV_at (gt_at (by rw [cg.len, ← hh.emp]; exact hh.lt [] Wd.nil)), q _ H (Ex.refl H) ?_⟩
      show V.int ((gt cl R.emp : Nat) : Int) = V.int ((gt cl (v []) : Nat) : Int)
      rw [hh.emp]
  mL := by
    refine ⟨_, T.k_Leaders_letter, ?_⟩
    obtain ⟨fd, F⟩ := T.f_Leaders_letter
    refine Gd.mono (j := 1) ⟨fd, F.ok scL2 (fun vs H Q E h => ?_) (fun cdv A outer s H vs Q E hr h => ?_), F.bindsN fun _ _ _ _ _ _ us hl => match us, hl with | [_, _], _ => rfl, F.kp⟩ (by decide)
    · obtain ⟨t, a, rfl, _⟩ := h
      rfl
    · obtain ⟨t, a, rfl, ⟨dx, r, lg, ht, ⟨lt, mt, at_, as, h1, h2, h3, h4, h5⟩, hg⟩, ha, q⟩ := h
      refine ⟨_, PSs.nox (pss_one (ps_ret (pe_ix ix_list (pe_fld (pv 0) rfl) (pe_ix ix_tup (pe_ix ix_tup (pe_fld (pv 0) rfl) pe_int (fun _ _ => rfl)) (pv 1) (fun _ _ => rfl)) (fun _ _ => rfl)))), ?_⟩
      refine ⟨_, rfl, t, _, dx, _, _, rfl, ht, T.c_Leaders, T.n_Leaders_leading, rfl, _, rfl, t, _, dx, _, _, rfl, ht, T.c_Leaders, T.n_Leaders_reader, rfl, r, _, 1, _, rfl, rfl, sqT_of h1, rfl, _, rfl, lt, _, a, _, rfl, rfl, sqT_of h2, nV_at (hh.let_ a ha),
        lg, _, (v [a] : Nat), _, rfl, rfl, SqL.of hg, nV_at (gt_at (by rw [cg.len]; exact hh.lt [a] (Wd.one ha))), q _ H (Ex.refl H) rfl⟩
  mJ := by
    refine ⟨_, T.k_Leaders_join, ?_⟩
    obtain ⟨fd, F⟩ := T.f_Leaders_join
    refine Gd.mono (j := 1) ⟨fd, F.ok scL3 (fun vs H Q E h => ?_) (fun cdv A outer s H vs Q E hr h => ?_), F.bindsN fun _ _ _ _ _ _ us hl => match us, hl with | [_, _, _], _ => rfl, F.kp⟩ (by decide)
    · obtain ⟨t, x, y, u, w, rfl, _⟩ := h
      rfl
    · obtain ⟨t, x, y, u, w, rfl, ⟨dx, r, lg, ht, ⟨lt, mt, at_, as, h1, h2, h3, h4, h5⟩, hg⟩, hu, hw, rx, ry, q⟩ := h
      cases rx
      cases ry
      refine ⟨_, PSs.nox (pss_one (ps_ret (pe_ix ix_list (pe_fld (pv 0) rfl) (pe_ix ix_tup (pe_ix ix_tup (pe_ix ix_tup (pe_fld (pv 0) rfl) pe_int (fun _ _ => rfl)) (pv 1) (fun _ _ => rfl)) (pv 2) (fun _ _ => rfl)) (fun _ _ => rfl)))), ?_⟩
      have l1 := cg.toLead.lt (hh.lt u hu)
      have l2 := cg.toLead.lt (hh.lt w hw)
      obtain ⟨row, e1, e2⟩ := at_get sq l1 l2
      obtain ⟨tr, e3, e4⟩ := RdrV.row (mt := mt) h4 e1
      have l3 : R.at (gt cl (v u)) (gt cl (v w)) < R.m := by
        obtain ⟨u', hu', e⟩ := hh.onto _ l1
        obtain ⟨w', hw', e'⟩ := hh.onto _ l2
        rw [← e, ← e', hh.mul u' w' hu' hw']
        exact hh.lt _ (hu'.app hw')
      refine ⟨_, rfl, t, _, dx, _, _, rfl, ht, T.c_Leaders, T.n_Leaders_leading, rfl, _, rfl, t, _, dx, _, _, rfl, ht, T.c_Leaders, T.n_Leaders_reader, rfl, r, _, 2, _, rfl, rfl, sqT_of h1, rfl, _, rfl, mt, _, (gt cl (v u) : Nat), _, rfl, rfl, sqT_of h3, e3,
        _, rfl, tr, _, (gt cl (v w) : Nat), _, rfl, rfl, sqT_of e4, nV_at e2, lg, _, _, _, rfl, rfl, SqL.of hg, nV_at (gt_at (by rw [cg.len]; exact l3)), q _ H (Ex.refl H) ?_⟩
      show V.int ((gt cl _ : Nat) : Int) = V.int ((gt cl (v (u ++ w)) : Nat) : Int)
      rw [cg.join hh hu hw]
  mA := by
    refine ⟨_, T.k_Leaders_is_accepted, ?_⟩
    refine Gd.mono (j := 1) (Gd.imp (ok_tacc T.c_Leaders T.n_Leaders_reader T.f_Leaders_is_accepted) fun vs H Q E h => ?_) (by decide)
    obtain ⟨t, x, u, rfl, ⟨dx, r, lg, ht, hR, hg⟩, hu, rx, q⟩ := h
    cases rx
    refine ⟨t, dx, r, gt cl (v u), R, _, rfl, ht, rfl, hR, ?_⟩
    have e : decide (gt cl (v u) ∈ R.acc) = L u := by rw [Bool.eq_iff_iff, decide_eq_true_iff]; exact cg.acc_iff hh hu
    rw [e]
    exact q H (Ex.refl H)

/-! ### Pairs -/
def pfs (t1 t2 : Addr) : List (Str × V) := [("kind", .str "both"), ("first", .ref t1), ("second", .ref t2)]
def QIs (C CT : Addr) (R1 R2 : Rd) (H : Hp) (t : Addr) : Prop := ∃ dx t1 t2, H t = some (.ins C dx (pfs t1 t2)) ∧ TIs CT R1 H t1 ∧ TIs CT R2 H t2
def repPr (H : Hp) (x : Nat × Nat) (v : V) : Prop := ∃ a, v = .ref a ∧ H a = some (.tup [.int (x.1 : Int), .int (x.2 : Int)])
def clPairs (K : PySem.W.Frag) (R1 R2 : Rd) (cnt : Nat) (L1 L2 : List Nat → Bool) (v1 v2 : List Nat → Nat) : Cl where
  C := He.ga K "Pairs"
  α := Nat × Nat
  key := fun x => .tup [.num (x.1 : Int), .num (x.2 : Int)]
  Is := QIs (He.ga K "Pairs") (He.ga K "Table") R1 R2
  rep := repPr
  cnt := cnt
  f := fun u => (v1 u, v2 u)
  L := fun u => L1 u && L2 u
theorem scP1 : FnScope ["self"] ["self"] (defScope s_Pairs_empty) := ⟨rfl, rfl, rfl, by decide +kernel, rfl, by decide +kernel, by decide +kernel⟩
theorem scP2 : FnScope ["self", "a"] ["self", "a"] (defScope s_Pairs_letter) := ⟨rfl, rfl, rfl, by decide +kernel, rfl, by decide +kernel, by decide +kernel⟩
theorem scP3 : FnScope ["self", "x", "y"] ["self", "x", "y"] (defScope s_Pairs_join) := ⟨rfl, rfl, rfl, by decide +kernel, rfl, by decide +kernel, by decide +kernel⟩
theorem scP4 : FnScope ["self", "x", "one", "two"] ["self", "x"] (defScope s_Pairs_is_accepted) := ⟨rfl, rfl, rfl, by decide +kernel, rfl, by decide +kernel, by decide +kernel⟩
theorem cl_pairs (T : Tx w K mg) {R1 R2 : Rd} {cnt : Nat} {L1 L2 : List Nat → Bool} {v1 v2 : List Nat → Nat} (hh1 : Hom R1 cnt L1 v1) (sq1 : ∀ row ∈ R1.mul, row.length = R1.m) (hh2 : Hom R2 cnt L2 v2) (sq2 : ∀ row ∈ R2.mul, row.length = R2.m) :
    ClOk P w K mg base (clPairs K R1 R2 cnt L1 L2 v1 v2) := by
  have O1 : ClOkL P w K mg base 1 (clTable K R1 cnt L1 v1) := cl_tableL T hh1 sq1
  have O2 : ClOkL P w K mg base 1 (clTable K R2 cnt L2 v2) := cl_tableL T hh2 sq2
  obtain ⟨gE, kE, GE1⟩ := O1.mE
  obtain ⟨gE', kE', GE2⟩ := O2.mE
  obtain ⟨gL, kL, GL1⟩ := O1.mL
  obtain ⟨gL', kL', GL2⟩ := O2.mL
  obtain ⟨gJ, kJ, GJ1⟩ := O1.mJ
  obtain ⟨gJ', kJ', GJ2⟩ := O2.mJ
  obtain ⟨gA, kA, GA1⟩ := O1.mA
  obtain ⟨gA', kA', GA2⟩ := O2.mA
  refine { cls := T.c_Pairs, inj := fun x y h => ?_, dep := fun x => ?_, is_ex := fun x h => ?_, ins := fun h => ?_, rep_ex := fun x h => ?_, rep_key := fun h => ?_, cong := fun u u' x x' hu hu' hx hx' e e' => ?_, acong := fun u u' hu hu' e => ?_, mE := ?_, mL := ?_, mJ := ?_, mA := ?_ }
  · obtain ⟨x1, x2⟩ := x
    obtain ⟨y1, y2⟩ := y
    have h : NestedKey.tup [.num (x1 : Int), .num (x2 : Int)] = NestedKey.tup [.num (y1 : Int), .num (y2 : Int)] := h
    injection h with h
    injection h with h1 h2
    injection h2 with h2
    show (x1, x2) = (y1, y2)
    rw [natKey_inj _ _ h1, natKey_inj _ _ h2]
  · show NestedKey.depth (.tup [.num _, .num _]) ≤ 8
    exact dep_tup [_, _]
  · obtain ⟨dx, t1, t2, h1, h2, h3⟩ := h
    exact ⟨dx, t1, t2, x.ins h1, h2.ex x, h3.ex x⟩
  · obtain ⟨dx, t1, t2, h1, _⟩ := h
    exact ⟨dx, _, h1, rfl, rfl, rfl, rfl⟩
  · obtain ⟨a, e1, e2⟩ := h
    exact ⟨a, e1, x _ _ e2⟩
  · obtain ⟨a, rfl, e2⟩ := h
    exact .tup e2 (.cons (.int _) (.cons (.int _) .nil))
  · have e : (v1 u, v2 u) = (v1 u', v2 u') := e
    have e' : (v1 x, v2 x) = (v1 x', v2 x') := e'
    injection e with e1 e2
    injection e' with e3 e4
    show (v1 (u ++ x), v2 (u ++ x)) = (v1 (u' ++ x'), v2 (u' ++ x'))
    rw [← hh1.mul u x hu hx, ← hh1.mul u' x' hu' hx', ← hh2.mul u x hu hx, ← hh2.mul u' x' hu' hx', e1, e2, e3, e4]
  · have e : (v1 u, v2 u) = (v1 u', v2 u') := e
    injection e with e1 e2
    have h1 : L1 u = L1 u' := by rw [Bool.eq_iff_iff, ← hh1.acc u hu, ← hh1.acc u' hu', e1]
    have h2 : L2 u = L2 u' := by rw [Bool.eq_iff_iff, ← hh2.acc u hu, ← hh2.acc u' hu', e2]
    show (L1 u && L2 u) = (L1 u' && L2 u')
    rw [h1, h2]
  · refine ⟨_, T.k_Pairs_empty, ?_⟩
    obtain ⟨fd, F⟩ := T.f_Pairs_empty
    refine Gd.mono (j := 2) ⟨fd, F.ok scP1 (fun vs H Q E h => ?_) (fun cdv A outer s H vs Q E hr h => ?_), F.bindsN fun _ _ _ _ _ _ us hl => match us, hl with | [_], _ => rfl, F.kp⟩ (by decide)
    · obtain ⟨t, rfl, _⟩ := h
      rfl
    · obtain ⟨t, rfl, ⟨dx, t1, t2, ht, hT1, hT2⟩, q⟩ := h
      refine ⟨_, PSs.nox (pss_one (ps_ret (pe_tup (pa_cons (pe_mG0 (pe_fld (pv 0) rfl) O1.cls kE GE1 hr pass0) (pa_cons (pe_mG0 (pe_fld (pv 0) rfl) O2.cls kE' GE2 hr pass0) pa_nil))))), ?_⟩
      have I1 := hT1
      obtain ⟨d1, r1, hi1, _⟩ := hT1
      have I2 := hT2
      refine ⟨_, rfl, t, _, dx, _, _, rfl, ht, T.c_Pairs, T.n_Pairs_first, rfl, t1, d1, _, rfl, hi1, rfl, t1, rfl, I1, fun v H1 x1 e1 => ?_⟩
      cases e1
      obtain ⟨d2, r2, hi2, _⟩ := hT2.ex x1
      refine ⟨_, rfl, t, _, dx, _, _, rfl, x1.ins ht, T.c_Pairs, T.n_Pairs_second, rfl, t2, d2, _, rfl, hi2, rfl, t2, rfl, I2.ex x1, fun v H2 x2 e2 => ?_⟩
      cases e2
      exact ⟨(by show 2 ≤ sizeLine; decide), fun p np => q _ _ ((x1.trans x2).new np) ⟨p, rfl, upd_same⟩⟩
  · refine ⟨_, T.k_Pairs_letter, ?_⟩
    obtain ⟨fd, F⟩ := T.f_Pairs_letter
    refine Gd.mono (j := 2) ⟨fd, F.ok scP2 (fun vs H Q E h => ?_) (fun cdv A outer s H vs Q E hr h => ?_), F.bindsN fun _ _ _ _ _ _ us hl => match us, hl with | [_, _], _ => rfl, F.kp⟩ (by decide)
    · obtain ⟨t, a, rfl, _⟩ := h
      rfl
    · obtain ⟨t, a, rfl, ⟨dx, t1, t2, ht, hT1, hT2⟩, ha, q⟩ := h
      refine ⟨_, PSs.nox (pss_one (ps_ret (pe_tup (pa_cons (pe_mG (pe_fld (pv 0) rfl) O1.cls kL GL1 hr pass0 (pa_cons (pv 1) pa_nil)) (pa_cons (pe_mG (pe_fld (pv 0) rfl) O2.cls kL' GL2 hr pass0 (pa_cons (pv 1) pa_nil)) pa_nil))))), ?_⟩
      have I1 := hT1
      obtain ⟨d1, r1, hi1, _⟩ := hT1
      have I2 := hT2
      refine ⟨_, rfl, t, _, dx, _, _, rfl, ht, T.c_Pairs, T.n_Pairs_first, rfl, t1, d1, _, rfl, hi1, rfl, _, rfl, t1, a, rfl, I1, ha, fun v H1 x1 e1 => ?_⟩
      cases e1
      obtain ⟨d2, r2, hi2, _⟩ := hT2.ex x1
      refine ⟨_, rfl, t, _, dx, _, _, rfl, x1.ins ht, T.c_Pairs, T.n_Pairs_second, rfl, t2, d2, _, rfl, hi2, rfl, _, rfl, t2, a, rfl, I2.ex x1, ha, fun v H2 x2 e2 => ?_⟩
      cases e2
      exact ⟨(by show 2 ≤ sizeLine; decide), fun p np => q _ _ ((x1.trans x2).new np) ⟨p, rfl, upd_same⟩⟩
  · refine ⟨_, T.k_Pairs_join, ?_⟩
    obtain ⟨fd, F⟩ := T.f_Pairs_join
    refine Gd.mono (j := 2) ⟨fd, F.ok scP3 (fun vs H Q E h => ?_) (fun cdv A outer s H vs Q E hr h => ?_), F.bindsN fun _ _ _ _ _ _ us hl => match us, hl with | [_, _, _], _ => rfl, F.kp⟩ (by decide)
    · obtain ⟨t, x, y, u, w, rfl, _⟩ := h
      rfl
    · obtain ⟨t, x, y, u, w, rfl, ⟨dx, t1, t2, ht, hT1, hT2⟩, hu, hw, rx, ry, q⟩ := h
      obtain ⟨ax, rfl, hax⟩ := rx
      obtain ⟨ay, rfl, hay⟩ := ry
      refine ⟨_, PSs.nox (pss_one (ps_ret (pe_tup (pa_cons (pe_mG (pe_fld (pv 0) rfl) O1.cls kJ GJ1 hr pass0 (pa_cons (pe_ix ix_tup (pv 1) pe_int (fun _ _ => rfl)) (pa_cons (pe_ix ix_tup (pv 2) pe_int (fun _ _ => rfl)) pa_nil)))
        (pa_cons (pe_mG (pe_fld (pv 0) rfl) O2.cls kJ' GJ2 hr pass0 (pa_cons (pe_ix ix_tup (pv 1) pe_int (fun _ _ => rfl)) (pa_cons (pe_ix ix_tup (pv 2) pe_int (fun _ _ => rfl)) pa_nil))) pa_nil))))), ?_⟩
      have I1 := hT1
      obtain ⟨d1, r1, hi1, _⟩ := hT1
      have I2 := hT2
      refine ⟨_, rfl, t, _, dx, _, _, rfl, ht, T.c_Pairs, T.n_Pairs_first, rfl, t1, d1, _, rfl, hi1, rfl, _, rfl, ax, _, 0, _, rfl, rfl, sqT_of hax, rfl, _, rfl, ay, _, 0, _, rfl, rfl, sqT_of hay, rfl, t1, _, _, u, w, rfl, I1, hu, hw, rfl, rfl, fun v H1 x1 e1 => ?_⟩
      cases e1
      obtain ⟨d2, r2, hi2, _⟩ := hT2.ex x1
      refine ⟨_, rfl, t, _, dx, _, _, rfl, x1.ins ht, T.c_Pairs, T.n_Pairs_second, rfl, t2, d2, _, rfl, hi2, rfl, _, rfl, ax, _, 1, _, rfl, rfl, sqT_of (x1.tup hax), rfl, _, rfl, ay, _, 1, _, rfl, rfl, sqT_of (x1.tup hay), rfl, t2, _, _, u, w, rfl, I2.ex x1, hu, hw, rfl, rfl, fun v H2 x2 e2 => ?_⟩
      cases e2
      exact ⟨(by show 2 ≤ sizeLine; decide), fun p np => q _ _ ((x1.trans x2).new np) ⟨p, rfl, upd_same⟩⟩
  · refine ⟨_, T.k_Pairs_is_accepted, ?_⟩
    obtain ⟨fd, F⟩ := T.f_Pairs_is_accepted
    refine Gd.mono (j := 2) ⟨fd, F.ok scP4 (fun vs H Q E h => ?_) (fun cdv A outer s H vs Q E hr h => ?_), F.bindsN fun _ _ _ _ _ _ us hl => match us, hl with | [_, _], _ => rfl, F.kp⟩ (by decide)
    · obtain ⟨t, x, u, rfl, _⟩ := h
      rfl
    · obtain ⟨t, x, u, rfl, ⟨dx, t1, t2, ht, hT1, hT2⟩, hu, rx, q⟩ := h
      obtain ⟨ax, rfl, hax⟩ := rx
      refine ⟨_, PSs.nox (pss_cons (ps_set (i := 2) scP4.nd rfl (.inl rfl) (pe_mG (pe_fld (pv 0) rfl) O1.cls kA GA1 hr pass0 (pa_cons (pe_ix ix_tup (pv 1) pe_int (fun _ _ => rfl)) pa_nil)))
        (pss_cons (ps_set (i := 3) scP4.nd rfl (.inl rfl) (pe_mG (pe_fld (pv 0) rfl) O2.cls kA' GA2 hr pass0 (pa_cons (pe_ix ix_tup (pv 1) pe_int (fun _ _ => rfl)) pa_nil)))
        (pss_cons (ps_if (pt_cmpR op_eq (pe_fld (pv 0) rfl) pe_str (nomark _)) (pss_one (ps_ret (pe_and (pv 2) (pe_one (pv 3))))) pss_nil) pss_never))), ?_⟩
      have I1 := hT1
      obtain ⟨d1, r1, hi1, _⟩ := hT1
      have I2 := hT2
      refine ⟨_, rfl, t, _, dx, _, _, rfl, ht, T.c_Pairs, T.n_Pairs_first, rfl, t1, d1, _, rfl, hi1, rfl, _, rfl, ax, _, 0, _, rfl, rfl, sqT_of hax, rfl, t1, _, u, rfl, I1, hu, rfl, fun H1 x1 => ?_⟩
      obtain ⟨d2, r2, hi2, _⟩ := hT2.ex x1
      refine ⟨_, rfl, t, _, dx, _, _, rfl, x1.ins ht, T.c_Pairs, T.n_Pairs_second, rfl, t2, d2, _, rfl, hi2, rfl, _, rfl, ax, _, 1, _, rfl, rfl, sqT_of (x1.tup hax), rfl, t2, _, u, rfl, I2.ex x1, hu, rfl, fun H2 x2 => ?_⟩
      refine ⟨_, rfl, t, _, dx, _, _, rfl, (x1.trans x2).ins ht, T.c_Pairs, T.n_Pairs_kind, rfl, rfl, _, rfl, itT ⟨_, rfl, _, rfl, ?_⟩⟩
      have q2 : Q (.bl (L1 u && L2 u)) H2 := q H2 (x1.trans x2)
      show if L1 u = true then _ else _
      cases e : L1 u with
      | true =>
        rw [e] at q2
        exact iteT ⟨_, rfl, q2⟩
      | false =>
        rw [e] at q2
        exact iteF q2
/-- Pairs.__init__ -/
def spQInit (C CT : Addr) : Sp := fun vs H Q _ => ∃ (t dx r1 r2 : Addr) (R1 R2 : Rd), vs = [.ref t, .str "both", .ref r1, .ref r2] ∧ H t = some (.ins C dx []) ∧ RdrV H r1 R1 ∧ RdrV H r2 R2 ∧
  ∀ H', Ex (cut H t) H' → QIs C CT R1 R2 H' t → Q .non H'
theorem scQI : FnScope ["self", "kind", "first", "second"] ["self", "kind", "first", "second"] (defScope s_Pairs___init__) := ⟨rfl, rfl, rfl, by decide +kernel, rfl, by decide +kernel, by decide +kernel⟩
theorem RdrV.cut {H : Hp} {r t : Addr} {R : Rd} {C dx : Addr} {fs : List (Str × V)} (h : RdrV H r R) (ht : H t = some (.ins C dx fs)) : RdrV (Tw.cut H t) r R := by
  have k : ∀ b xs, H b = some (.tup xs) → Tw.cut H t b = some (.tup xs) := fun b xs e => by rw [cut_ne (ne_of e ht (by intro z; cases z))]; exact e
  obtain ⟨lt, mt, at_, as, h1, h2, h3, ⟨h4, h4'⟩, h5⟩ := h
  exact ⟨lt, mt, at_, as, k _ _ h1, k _ _ h2, k _ _ h3, ⟨h4, fun i a l e1 e2 => k _ _ (h4' i a l e1 e2)⟩, k _ _ h5⟩
theorem ok_qinit (T : Tx w K mg) : Gd P w K mg base CX0 3 (He.fAd K ("Pairs", some "__init__")) ["self", "kind", "first", "second"] (spQInit (He.ga K "Pairs") (He.ga K "Table")) := by
  obtain ⟨fd, F⟩ := T.f_Pairs___init__
  have GT := ok_tinit (P := P) (base := base) T T.c_Table T.n_Table_reader
  refine ⟨fd, F.ok scQI (fun vs H Q E h => ?_) (fun cdv A outer s H vs Q E hr h => ?_), F.bindsN fun _ _ _ _ _ _ us hl => match us, hl with | [_, _, _, _], _ => rfl, F.kp⟩
  · obtain ⟨t, dx, r1, r2, R1, R2, rfl, _⟩ := h
    rfl
  · obtain ⟨t, dx, r1, r2, R1, R2, rfl, ht, hR1, hR2, q⟩ := h
    refine ⟨_, PSs.nox (pss_cons (ps_fld (pv 0) (pv 1) rfl) (pss_cons (ps_fld (pv 0) (pe_kG T.m_Table GT hr rfl T.g_Table pass0 (pa_cons (pv 2) pa_nil)) rfl) (pss_one (ps_fld (pv 0) (pe_kG T.m_Table GT hr rfl T.g_Table pass0 (pa_cons (pv 3) pa_nil)) rfl)))), ?_⟩
    have e0 : Ex (cut H t) H := Ex.cut
    have c0 : cut H t t = none := cut_at
    refine ⟨_, rfl, _, rfl, t, _, dx, [], rfl, ht, T.c_Pairs, T.n_Pairs_kind, (by show 0 < 1000; decide), ?_⟩
    have e1 := e0.mut (o := .ins (He.ga K "Pairs") dx (putF "kind" (.str "both") [])) c0
    refine ⟨_, rfl, fun x1 d1 nx1 nd1 ne1 => ⟨x1, d1, r1, rfl, upd_same, rfl, ?_⟩⟩
    have e2 := (e1.new (o := .own x1) nd1).new (o := .ins (He.ga K "Table") d1 []) (by rw [upd_ne ne1.symm]; exact nx1)
    have e3 := e2.mut (p := x1) (o := .ins (He.ga K "Table") d1 [("reader", .ref r1)]) (e1.free nx1)
    have tx1 : t ≠ x1 := ne_of_none upd_same nx1
    have td1 : t ≠ d1 := ne_of_none upd_same nd1
    refine ⟨_, rfl, t, _, dx, _, rfl, (by rw [upd_ne tx1, upd_ne tx1, upd_ne td1]; exact upd_same), T.c_Pairs, T.n_Pairs_first, (by show 1 < 1000; decide), ?_⟩
    have e4 := e3.mut (o := .ins (He.ga K "Pairs") dx (putF "first" (.ref x1) (putF "kind" (.str "both") []))) c0
    refine ⟨_, rfl, fun x2 d2 nx2 nd2 ne2 => ⟨x2, d2, r2, rfl, upd_same, rfl, ?_⟩⟩
    have e5 := (e4.new (o := .own x2) nd2).new (o := .ins (He.ga K "Table") d2 []) (by rw [upd_ne ne2.symm]; exact nx2)
    have e6 := e5.mut (p := x2) (o := .ins (He.ga K "Table") d2 [("reader", .ref r2)]) (e4.free nx2)
    have tx2 : t ≠ x2 := ne_of_none upd_same nx2
    have td2 : t ≠ d2 := ne_of_none upd_same nd2
    refine ⟨_, rfl, t, _, dx, _, rfl, (by rw [upd_ne tx2, upd_ne tx2, upd_ne td2]; exact upd_same), T.c_Pairs, T.n_Pairs_second, (by show 2 < 1000; decide), ?_⟩
    have e7 := e6.mut (o := .ins (He.ga K "Pairs") dx (putF "second" (.ref x2) (putF "first" (.ref x1) (putF "kind" (.str "both") [])))) c0
    refine q _ e7 ⟨dx, x1, x2, upd_same, ⟨d1, r1, ?_, e7.rdr (hR1.cut ht)⟩, ⟨d2, r2, ?_, e7.rdr (hR2.cut ht)⟩⟩
    · have n12 : x1 ≠ x2 := ne_of_none (by rw [upd_ne tx1.symm]; exact upd_same) nx2
      have n1d : x1 ≠ d2 := ne_of_none (by rw [upd_ne tx1.symm]; exact upd_same) nd2
      rw [upd_ne tx1.symm, upd_ne n12, upd_ne n12, upd_ne n1d, upd_ne tx1.symm]
      exact upd_same
    · rw [upd_ne tx2.symm]
      exact upd_same
end
end Tw
set_option maxRecDepth 100000
set_option maxHeartbeats 2000000
/-! TherePart. -/
namespace Tw
open PySem PySem.Spec PyProof.Rows L2
/-! ### sets of small numbers, told by a list -/
def setN (l : List Nat) : Int → Bool := fun j => decide (j ∈ l.map fun n : Nat => (n : Int))
theorem setN_nat (l : List Nat) (x : Nat) : setN l (x : Int) = decide (x ∈ l) := by
  unfold setN
  rw [decide_eq_decide]
  constructor
  · intro h
    obtain ⟨y, hy, e⟩ := List.mem_map.mp h
    have : y = x := by omega
    exact this ▸ hy
  · exact fun h => List.mem_map.mpr ⟨x, h, rfl⟩
abbrev SetL (w : World) (D : Addr) (l : List Nat) : HO := SetO w D (setN l) l.length
theorem setL_nil (w : World) (D : Addr) : SetO w D (fun _ => false) 0 = SetL w D [] := by
  have e : (fun _ => false : Int → Bool) = setN [] := by funext j; simp [setN]
  rw [e]
  rfl
theorem setL_add (w : World) (D : Addr) {l : List Nat} (nd : l.Nodup) (c : Nat) :
    ∃ l', l'.Nodup ∧ (∀ x, x ∈ l' ↔ x ∈ l ∨ x = c) ∧ SetO w D (fun j => setN l j || decide (j = (c : Int))) (if setN l (c : Int) = true then l.length else l.length + 1) = SetL w D l' := by
  by_cases h : c ∈ l
  · refine ⟨l, nd, fun x => ⟨.inl, fun e => e.elim id fun e => e ▸ h⟩, ?_⟩
    rw [setN_nat, decide_eq_true h, if_pos rfl]
    have e : (fun j => setN l j || decide (j = (c : Int))) = setN l := by
      funext j
      by_cases e : j = (c : Int)
      · subst e
        rw [setN_nat, decide_eq_true h]
        simp
      · simp [e]
    rw [e]
  · refine ⟨l ++ [c], ?_, fun x => by simp, ?_⟩
    · rw [List.nodup_append]
      exact ⟨nd, by simp, fun a ha b hb => by simp at hb; subst hb; intro e; subst e; exact h ha⟩
    · rw [setN_nat, decide_eq_false h]
      have e : (fun j => setN l j || decide (j = (c : Int))) = setN (l ++ [c]) := by
        funext j
        unfold setN
        rw [Bool.eq_iff_iff]
        simp
      rw [e]
      unfold SetL
      rw [List.length_append]
      rfl
/-- sorted, as numbers that are not negative -/
theorem rising_of {ns : List Int} {l : List Nat} (hp : ns.Pairwise (· < ·)) (hm : ∀ k : Int, k ∈ ns ↔ setN l k = true) : ∃ ms : List Nat, ns.map V.int = nV ms ∧ RisingOf (· ∈ l) ms := by
  have key : ∀ ns : List Int, ns.Pairwise (· < ·) → (∀ k ∈ ns, ∃ x : Nat, k = (x : Int)) → ∃ ms : List Nat, ns = ms.map (fun n : Nat => (n : Int)) ∧ ms.Pairwise (· < ·) := by
    intro ns
    induction ns with
    | nil => exact fun _ _ => ⟨[], rfl, .nil⟩
    | cons a ns ih =>
      intro hp hx
      rw [List.pairwise_cons] at hp
      obtain ⟨ms, e, hr⟩ := ih hp.2 fun k hk => hx k (List.mem_cons_of_mem _ hk)
      obtain ⟨x, rfl⟩ := hx a (by simp)
      refine ⟨x :: ms, by rw [e]; rfl, ?_⟩
      rw [List.pairwise_cons]
      refine ⟨fun y hy => ?_, hr⟩
      have := hp.1 (y : Int) (by rw [e]; exact List.mem_map.mpr ⟨y, hy, rfl⟩)
      omega
  obtain ⟨ms, e, hr⟩ := key ns hp fun k hk => by
    have h := (hm k).mp hk
    unfold setN at h
    obtain ⟨x, _, e⟩ := List.mem_map.mp (of_decide_eq_true h)
    exact ⟨x, e.symm⟩
  refine ⟨ms, by rw [e, List.map_map]; rfl, hr, fun x => ?_⟩
  have h := hm (x : Int)
  rw [setN_nat, decide_eq_true_iff] at h
  rw [← h, e]
  constructor
  · exact fun hx => List.mem_map.mpr ⟨x, hx, rfl⟩
  · intro hx
    obtain ⟨y, hy, e⟩ := List.mem_map.mp hx
    have : y = x := by omega
    exact this ▸ hy
/-! ### the loops of set comprehensions over tuples -/
theorem sc1_tup {w : World} {K : PySem.W.Frag} {a : Addr} {xs : List V} {g : TG} {te : TE} {vs : List Nat} {σ : L2.St} {H1 : Hp} {D : Addr} {Qd : Hp → Prop} (Pv : Nat → Hp → Prop) (h0 : Pv 0 (upd H1 D (SetO w D (fun _ => false) 0))) (hl : ∀ i H, i ≤ xs.length → Pv i H → SqT K H a xs)
    (hs : ∀ i x H, xs[i]? = some x → Pv i H → g x (wipe σ vs) H fun σ2 H2 => wipe σ2 vs = wipe σ vs ∧ te σ2 H2 fun y H3 =>
      ∃ (c : Int) (S : Int → Bool) (n : Nat), y = .int c ∧ H3 D = some (SetO w D S n) ∧ n + 1 < scanBound ∧ Pv (i + 1) (upd H3 D (SetO w D (fun j => S j || decide (j = c)) (if S c = true then n else n + 1)))) (hd : ∀ H, Pv xs.length H → Qd H) :
    ∃ W : Nat → Nat → Hp → Prop, (∃ m, W 0 m (upd H1 D (SetO w D (fun _ => false) 0))) ∧ ∀ i m H, W i m H →
      ((Itt K a).stop i H ∧ Qd H) ∨ ((Itt K a).go i H ∧ ∃ Nx : Hp → Prop, (∀ H', Nx H' → ∃ m', m' < m ∧ W (i + 1) m' H') ∧ ∀ x H', (Itt K a).yld i H x H' → g x (wipe σ vs) H' fun σ2 H2 => wipe σ2 vs = wipe σ vs ∧ te σ2 H2 fun y H3 =>
        ∃ (c : Int) (S : Int → Bool) (n : Nat), y = .int c ∧ H3 D = some (SetO w D S n) ∧ n + 1 < scanBound ∧ Nx (upd H3 D (SetO w D (fun j => S j || decide (j = c)) (if S c = true then n else n + 1)))) := by
  refine ⟨fun i m H => m = xs.length - i ∧ i ≤ xs.length ∧ Pv i H, ⟨xs.length, by simp, Nat.zero_le _, h0⟩, ?_⟩
  rintro i m H ⟨rfl, hi, p⟩
  have q := hl i H hi p
  by_cases hlt : i < xs.length
  · refine .inr ⟨⟨xs, xs[i], q, by simp [hlt]⟩, Pv (i + 1), fun H' p' => ⟨xs.length - (i + 1), by omega, rfl, hlt, p'⟩, fun x H' y => ?_⟩
    obtain ⟨e, y⟩ := y
    subst e
    exact hs i x _ (y xs q) p
  · have e : i = xs.length := by omega
    subst e
    exact .inl ⟨⟨xs, q, Nat.le_refl _⟩, hd H p⟩
/-- a walk over a tuple: the outer one of two -/
theorem wk_tup {K : PySem.W.Frag} {a : Addr} {xs : List V} {H1 : Hp} {Qd : Hp → Prop} {B : (Hp → Prop) → V → Hp → Prop} (Pv : Nat → Hp → Prop) (h0 : Pv 0 H1) (hl : ∀ i H, i ≤ xs.length → Pv i H → SqT K H a xs)
    (hs : ∀ i x H, xs[i]? = some x → Pv i H → B (Pv (i + 1)) x H) (hd : ∀ H, Pv xs.length H → Qd H) :
    ∃ W : Nat → Nat → Hp → Prop, (∃ m, W 0 m H1) ∧ ∀ i m H, W i m H →
      ((Itt K a).stop i H ∧ Qd H) ∨ ((Itt K a).go i H ∧ ∃ Nx : Hp → Prop, (∀ H', Nx H' → ∃ m', m' < m ∧ W (i + 1) m' H') ∧ ∀ x H', (Itt K a).yld i H x H' → B Nx x H') := by
  refine ⟨fun i m H => m = xs.length - i ∧ i ≤ xs.length ∧ Pv i H, ⟨xs.length, by simp, Nat.zero_le _, h0⟩, ?_⟩
  rintro i m H ⟨rfl, hi, p⟩
  have q := hl i H hi p
  by_cases hlt : i < xs.length
  · refine .inr ⟨⟨xs, xs[i], q, by simp [hlt]⟩, Pv (i + 1), fun H' p' => ⟨xs.length - (i + 1), by omega, rfl, hlt, p'⟩, fun x H' y => ?_⟩
    obtain ⟨e, y⟩ := y
    subst e
    exact hs i x _ (y xs q) p
  · have e : i = xs.length := by omega
    subst e
    exact .inl ⟨⟨xs, q, Nat.le_refl _⟩, hd H p⟩

section
variable {P : Program} {w : World} {K : PySem.W.Frag} {mg : Str → Option Value} {base : Heap}
def thf (r : Addr) (k : Nat) : List (Str × V) := [("inner", .ref r), ("codes", .int ((2 ^ k : Nat) : Int))]
abbrev cP (K : PySem.W.Frag) : Addr × Addr := He.cT K ("TherePart", some "is_accepted")
abbrev cQ (K : PySem.W.Frag) : Addr × Addr := He.cT K ("collect", none)
def ThIs (K : PySem.W.Frag) (R : Rd) (k : Nat) (H : Hp) (t : Addr) : Prop := ∃ dx r, H t = some (.ins (He.ga K "TherePart") dx (thf r k)) ∧ RdrV H r R ∧ GxR.TabG H (cP K).2
theorem ThIs.ex {R : Rd} {k : Nat} {H H' : Hp} {t : Addr} (x : Ex H H') (h : ThIs K R k H t) : ThIs K R k H' t := by
  obtain ⟨dx, r, h1, h2, h3⟩ := h
  exact ⟨dx, r, x.ins h1, x.rdr h2, x.tabG h3⟩
def repTh (H : Hp) (l : List Nat) (v : V) : Prop := ∃ a, v = .ref a ∧ H a = some (.tup (nV l))
noncomputable def clThere (K : PySem.W.Frag) (R : Rd) (k cnt : Nat) (L' : List Nat → Bool) (v : List Nat → Nat) : Cl where
  C := He.ga K "TherePart"
  α := List Nat
  key := fun l => .tup (l.map fun x : Nat => NestedKey.num (x : Int))
  Is := ThIs K R k
  rep := repTh
  cnt := cnt * 2 ^ k
  f := fTh k R.m v
  L := L'
/-! ### __init__ -/
def spHInit (K : PySem.W.Frag) : Sp := fun vs H Q _ => ∃ (t dx r : Addr) (k : Nat), vs = [.ref t, .ref r, .int (k : Int)] ∧ k ≤ 20 ∧ H t = some (.ins (He.ga K "TherePart") dx []) ∧ Q .non (upd H t (.ins (He.ga K "TherePart") dx (thf r k)))
theorem scHI : FnScope ["self", "inner", "sets"] ["self", "inner", "sets"] (defScope s_TherePart___init__) := ⟨rfl, rfl, rfl, by decide +kernel, rfl, by decide +kernel, by decide +kernel⟩
theorem ok_hinit (T : Tx w K mg) : Gd P w K mg base CX0 2 (He.fAd K ("TherePart", some "__init__")) ["self", "inner", "sets"] (spHInit K) := by
  obtain ⟨fd, F⟩ := T.f_TherePart___init__
  refine ⟨fd, F.ok scHI (fun vs H Q E h => ?_) (fun cdv A outer s H vs Q E hr h => ?_), F.bindsN fun _ _ _ _ _ _ us hl => match us, hl with | [_, _, _], _ => rfl, F.kp⟩
  · obtain ⟨t, dx, r, k, rfl, _⟩ := h
    rfl
  · obtain ⟨t, dx, r, k, rfl, hk, ht, q⟩ := h
    refine ⟨_, PSs.nox (pss_cons (ps_fld (pv 0) (pv 1) rfl) (pss_one (ps_fld (pv 0) (pe_cG (ok_width (P := P) (base := base) T) hr rfl T.g_width pass0 (pa_cons (pv 2) pa_nil)) rfl))), ?_⟩
    refine ⟨_, rfl, _, rfl, t, _, dx, [], rfl, ht, T.c_TherePart, T.n_TherePart_inner, (by show 0 < 1000; decide), ?_⟩
    refine ⟨_, rfl, k, rfl, by omega, _, rfl, t, _, dx, _, rfl, upd_same, T.c_TherePart, T.n_TherePart_codes, (by show 1 < 1000; decide), ?_⟩
    rw [upd_upd]
    exact q
/-! ### labels_of -/
def spLabels (K : PySem.W.Frag) (k : Nat) : Sp := fun vs H Q _ => ∃ (t dx r : Addr) (lab : Nat), vs = [.ref t, .int (lab : Int)] ∧ lab ≤ 2 ^ 24 ∧ H t = some (.ins (He.ga K "TherePart") dx (thf r k)) ∧
  ∀ p, H p = none → Q (.ref p) (upd H p (.tup [.int (lo k lab : Int), .int (hi k lab : Int)]))
theorem scHL : FnScope ["self", "label", "base"] ["self", "label"] (defScope s_TherePart_labels_of) := ⟨rfl, rfl, rfl, by decide +kernel, rfl, by decide +kernel, by decide +kernel⟩
theorem ok_labels (T : Tx w K mg) {k : Nat} (hk : k ≤ 20) : Gd P w K mg base CX0 1 (He.fAd K ("TherePart", some "labels_of")) ["self", "label"] (spLabels K k) := by
  obtain ⟨fd, F⟩ := T.f_TherePart_labels_of
  refine ⟨fd, F.ok scHL (fun vs H Q E h => ?_) (fun cdv A outer s H vs Q E hr h => ?_), F.bindsN fun _ _ _ _ _ _ us hl => match us, hl with | [_, _], _ => rfl, F.kp⟩
  · obtain ⟨t, dx, r, lab, rfl, _⟩ := h
    rfl
  · obtain ⟨t, dx, r, lab, rfl, hb, ht, q⟩ := h
    refine ⟨_, PSs.nox (pss_cons (ps_set (i := 2) scHL.nd rfl (.inl rfl) (pe_op op_addN (pe_op op_mulN (pe_op op_mulN (pe_op op_fdivNN (pv 1) (pe_fld (pv 0) rfl)) pe_int) (pe_fld (pv 0) rfl)) (pe_op op_modNN (pv 1) (pe_fld (pv 0) rfl))))
      (pss_one (ps_ret (pe_tup (pa_cons (pv 2) (pa_cons (pe_op op_addN (pv 2) (pe_fld (pv 0) rfl)) pa_nil)))))), ?_⟩
    have hp2 : 2 ^ k ≤ 2 ^ 20 := Nat.pow_le_pow_right (by decide) (by omega)
    have hp0 : 0 < 2 ^ k := Nat.two_pow_pos k
    have hd : lab / 2 ^ k ≤ lab := Nat.div_le_self _ _
    refine ⟨_, rfl, _, rfl, t, _, dx, _, _, rfl, ht, T.c_TherePart, T.n_TherePart_codes, rfl, lab, 2 ^ k, rfl, rfl, ⟨by omega, by omega⟩, lab / 2 ^ k, 2, rfl, rfl, by omega, _, rfl, t, _, dx, _, _, rfl, ht, T.c_TherePart, T.n_TherePart_codes, rfl,
      lab / 2 ^ k * 2, 2 ^ k, rfl, rfl, by omega, _, rfl, _, rfl, t, _, dx, _, _, rfl, ht, T.c_TherePart, T.n_TherePart_codes, rfl, lab, 2 ^ k, rfl, rfl, hp0, lab / 2 ^ k * 2 * 2 ^ k, lab % 2 ^ k, rfl, rfl, ?_⟩
    exact ⟨_, rfl, _, rfl, _, rfl, t, _, dx, _, _, rfl, ht, T.c_TherePart, T.n_TherePart_codes, rfl, _, _, rfl, rfl, (by show 2 ≤ sizeLine; decide), fun p np => q p np⟩
/-! ### empty, letter, join -/
theorem scH1 : FnScope ["self"] ["self"] (defScope s_TherePart_empty) := ⟨rfl, rfl, rfl, by decide +kernel, rfl, by decide +kernel, by decide +kernel⟩
theorem scH2 : FnScope ["self", "a", "label"] ["self", "a"] (defScope s_TherePart_letter) := ⟨rfl, rfl, rfl, by decide +kernel, rfl, by decide +kernel, by decide +kernel⟩
theorem scH3 : FnScope ["self", "x", "y", "mul", "one", "two"] ["self", "x", "y"] (defScope s_TherePart_join) := ⟨rfl, rfl, rfl, by decide +kernel, rfl, by decide +kernel, by decide +kernel⟩
theorem scH4 : FnScope ["self", "x", "one"] ["self", "x"] (defScope s_TherePart_is_accepted) := ⟨rfl, rfl, rfl, by decide +kernel, rfl, by decide +kernel, by decide +kernel⟩
theorem bound_of {l : List Nat} {m : Nat} (nd : l.Nodup) (h : ∀ x ∈ l, x < m) : l.length ≤ m := by
  have := nodup_le l (List.range m) nd fun x hx => List.mem_range.mpr (h x hx)
  rwa [List.length_range] at this
theorem ok_hempty (T : Tx w K mg) {R : Rd} {cnt k : Nat} {L L' : List Nat → Bool} {v : List Nat → Nat} (hh : Hom R (cnt * 2 ^ (k + 1)) L v) :
    Gd P w K mg base CX0 1 (He.fAd K ("TherePart", some "empty")) ["self"] (spEmp (clThere K R k cnt L' v)) := by
  obtain ⟨fd, F⟩ := T.f_TherePart_empty
  refine ⟨fd, F.ok scH1 (fun vs H Q E h => ?_) (fun cdv A outer s H vs Q E hr h => ?_), F.bindsN fun _ _ _ _ _ _ us hl => match us, hl with | [_], _ => rfl, F.kp⟩
  · obtain ⟨t, rfl, _⟩ := h
    rfl
  · obtain ⟨t, rfl, ⟨dx, r, ht, ⟨lt, mt, at_, as, h1, h2, h3, h4, h5⟩, hT⟩, q⟩ := h
    refine ⟨_, PSs.nox (pss_one (ps_ret (pe_tup (pa_cons (pe_ix ix_tup (pe_fld (pv 0) rfl) pe_int (fun _ _ => rfl)) pa_nil)))), ?_⟩
    refine ⟨_, rfl, t, _, dx, _, _, rfl, ht, T.c_TherePart, T.n_TherePart_inner, rfl, r, _, 0, _, rfl, rfl, sqT_of h1, rfl, (by show 1 ≤ sizeLine; decide), fun p np => q _ _ (Ex.add np) ⟨p, rfl, ?_⟩⟩
    show upd H p (.tup [V.int (R.emp : Int)]) p = some (.tup (nV (fTh k R.m v [])))
    rw [fTh_nil hh]
    exact upd_same
theorem ok_hletter (T : Tx w K mg) {R : Rd} {cnt k : Nat} {L L' : List Nat → Bool} {v : List Nat → Nat} (hh : Hom R (cnt * 2 ^ (k + 1)) L v) (hk : k ≤ 20) (hc : cnt * 2 ^ k ≤ 2 ^ 24) (hm : R.m ≤ 300) :
    Gd P w K mg base CX0 2 (He.fAd K ("TherePart", some "letter")) ["self", "a"] (spLet (clThere K R k cnt L' v)) := by
  obtain ⟨fd, F⟩ := T.f_TherePart_letter
  refine ⟨fd, F.ok scH2 (fun vs H Q E h => ?_) (fun cdv A outer s H vs Q E hr h => ?_), F.bindsN fun _ _ _ _ _ _ us hl => match us, hl with | [_, _], _ => rfl, F.kp⟩
  · obtain ⟨t, a, rfl, _⟩ := h
    rfl
  · obtain ⟨t, a, rfl, ⟨dx, r, ht, ⟨lt, mt, at_, as, h1, h2, h3, h4, h5⟩, hT⟩, ha, q⟩ := h
    have ha : a < cnt * 2 ^ k := ha
    refine ⟨_, PSs.nox (pss_one (ps_ret (pe_callTy call_tuple_of rfl T.m_tuple (by decide +kernel) (pa_cons (pe_callB (cr_sortedSetA rfl) rfl T.m_sorted (by decide +kernel) (pa_cons
      (pe_sc1 (own := [("label", 2)]) (g := gName 2) rfl scH2.nd (pi_tup (pe_mG (pv 0) T.c_TherePart T.k_TherePart_labels_of (ok_labels (P := P) (base := base) T hk) hr pass0 (pa_cons (pv 1) pa_nil)))
        (blkOk_by (own := [("label", 2)]) (N := ["self", "a", "label"]) (sc := defScope s_TherePart_letter) (by decide +kernel))
        (fun _ _ _ _ _ => pg_name (i := 2) scH2.nd rfl (Or.inl rfl))
        (fun _ _ _ _ _ => pe_ix (ix_tupK (K := K)) (pe_ix (ix_tupK (K := K)) (pe_fldK (K := K) (pv 0)) pe_int (fun _ _ => rfl)) (pv 2) (fun _ _ => rfl))) pa_nil)) pa_nil)))), ?_⟩
    refine ⟨_, rfl, t, dx, _, rfl, ht, rfl, _, rfl, t, dx, r, a, rfl, by omega, ht, fun p np => ?_⟩
    have x1 : Ex H (upd H p (.tup [.int (lo k a : Int), .int (hi k a : Int)])) := Ex.add np
    refine ⟨p, rfl, ⟨_, sqT_of upd_same⟩, fun D nD => ?_⟩
    have pD : p ≠ D := ne_of_none upd_same nD
    have wlo : lo k a < cnt * 2 ^ (k + 1) := lo_lt ha
    have whi : hi k a < cnt * 2 ^ (k + 1) := hi_lt ha
    refine sc1_tup (K := K) (a := p) (xs := [.int (lo k a : Int), .int (hi k a : Int)]) (fun i H2 => Ex H H2 ∧ H2 p = some (.tup [.int (lo k a : Int), .int (hi k a : Int)]) ∧ ∃ l : List Nat, l.Nodup ∧ H2 D = some (SetL w D l) ∧ (∀ x, x ∈ l ↔ (0 < i ∧ x = v [lo k a]) ∨ (1 < i ∧ x = v [hi k a])))
      ⟨x1.new nD, by rw [upd_ne pD]; exact upd_same, [], List.nodup_nil, by rw [setL_nil]; exact upd_same, fun x => by simp⟩ (fun i H2 _ hv => sqT_of hv.2.1) ?_ ?_
    · rintro i y H2 hi ⟨x2, hp2, l, nd, hD, hmem⟩
      have hb : l.length ≤ 300 := Nat.le_trans (bound_of (m := R.m) nd fun x hx => by
        rcases (hmem x).mp hx with ⟨_, e⟩ | ⟨_, e⟩
        · rw [e]; exact hh.lt _ (Wd.one wlo)
        · rw [e]; exact hh.lt _ (Wd.one whi)) hm
      obtain ⟨z, hz, ey⟩ : ∃ z : Nat, (z < cnt * 2 ^ (k + 1)) ∧ y = V.int (z : Int) ∧ ((i = 0 ∧ z = lo k a) ∨ (i = 1 ∧ z = Tw.hi k a)) := by
        match i, hi with
        | 0, hi => exact ⟨lo k a, wlo, (by simpa using hi.symm), .inl ⟨rfl, rfl⟩⟩
        | 1, hi => exact ⟨Tw.hi k a, whi, (by simpa using hi.symm), .inr ⟨rfl, rfl⟩⟩
        | i + 2, hi => simp at hi
      obtain ⟨rfl, ez⟩ := ey
      refine ⟨rfl, _, rfl, t, _, dx, _, _, rfl, x2.ins ht, T.c_TherePart, T.n_TherePart_inner, rfl, r, _, 1, _, rfl, rfl, sqT_of (x2.tup h1), rfl, _, rfl, lt, _, z, _, rfl, rfl, sqT_of (x2.tup h2), nV_at (hh.let_ z hz), (v [z] : Nat), setN l, l.length, rfl, hD, (by unfold scanBound; omega), ?_⟩
      obtain ⟨l', nd', hm', e'⟩ := setL_add w D nd (v [z])
      erw [e']
      have nH : H D = none := x1.free nD
      refine ⟨x2.mut nH, by rw [upd_ne pD]; exact hp2, l', nd', upd_same, fun x => ?_⟩
      rw [hm', hmem]
      rcases ez with ⟨rfl, rfl⟩ | ⟨rfl, rfl⟩
      · constructor
        · rintro ((⟨h, _⟩ | ⟨h, _⟩) | e)
          · omega
          · omega
          · exact .inl ⟨by omega, e⟩
        · rintro (⟨_, e⟩ | ⟨h, _⟩)
          · exact .inr e
          · omega
      · constructor
        · rintro ((⟨_, e⟩ | ⟨h, _⟩) | e)
          · exact .inl ⟨by omega, e⟩
          · omega
          · exact .inr ⟨by omega, e⟩
        · rintro (⟨_, e⟩ | ⟨_, e⟩)
          · exact .inl (.inl ⟨by omega, e⟩)
          · exact .inr e
    · rintro H2 ⟨x2, hp2, l, nd, hD, hmem⟩
      refine ⟨D, _, _, rfl, hD, fun ns q1 hp hn _ _ nq => ?_⟩
      obtain ⟨ms, ems, hR⟩ := rising_of hp hn
      rw [ems]
      refine ⟨q1, _, rfl, .inl ⟨SqL.of upd_same, fun q2 nq2 => q _ _ ((x2.new nq).new nq2) ⟨q2, rfl, ?_⟩⟩⟩
      rw [upd_same]
      show some (HO.tup (nV ms)) = some (HO.tup (nV (fTh k R.m v [a])))
      rw [fTh_one hh ha (l := ms) ⟨hR.rise, fun x => by rw [hR.mem, hmem]; show (0 < 2 ∧ _) ∨ (1 < 2 ∧ _) ↔ _; simp⟩]
theorem ok_hjoin (T : Tx w K mg) {R : Rd} {cnt k : Nat} {L L' : List Nat → Bool} {v : List Nat → Nat} (hh : Hom R (cnt * 2 ^ (k + 1)) L v) (sq : ∀ row ∈ R.mul, row.length = R.m) (hm : R.m ≤ 300) :
    Gd P w K mg base CX0 1 (He.fAd K ("TherePart", some "join")) ["self", "x", "y"] (spJoin (clThere K R k cnt L' v)) := by
  obtain ⟨fd, F⟩ := T.f_TherePart_join
  refine ⟨fd, F.ok scH3 (fun vs H Q E h => ?_) (fun cdv A outer s H vs Q E hr h => ?_), F.bindsN fun _ _ _ _ _ _ us hl => match us, hl with | [_, _, _], _ => rfl, F.kp⟩
  · obtain ⟨t, x, y, u, w, rfl, _⟩ := h
    rfl
  · obtain ⟨t, x, y, u, u2, rfl, ⟨dx, r, ht, ⟨lt, mt, at_, as, h1, h2, h3, h4, h5⟩, hT⟩, hu, hw, ⟨ax, rfl, hax⟩, ⟨ay, rfl, hay⟩, q⟩ := h
    have hu : Wd (cnt * 2 ^ k) u := hu
    have hw : Wd (cnt * 2 ^ k) u2 := hw
    have hax : H ax = some (.tup (nV (fTh k R.m v u))) := hax
    have hay : H ay = some (.tup (nV (fTh k R.m v u2))) := hay
    refine ⟨_, PSs.nox (pss_cons (ps_set (i := 3) scH3.nd rfl (.inr rfl) (pe_ix ix_tup (pe_fld (pv 0) rfl) pe_int (fun _ _ => rfl))) (pss_one (ps_ret (pe_callTy call_tuple_of rfl T.m_tuple (by decide +kernel) (pa_cons (pe_callB (cr_sortedSetA rfl) rfl T.m_sorted (by decide +kernel) (pa_cons
      (pe_sc2 (own := [("one", 4), ("two", 5)]) (vs1 := [5]) (g := gName 4) (g1 := gName 5) rfl scH3.nd (pi_tup (pv 1))
        (blkOk_by (own := [("one", 4), ("two", 5)]) (N := ["self", "x", "y", "mul", "one", "two"]) (sc := defScope s_TherePart_join) (by decide +kernel)) (by decide)
        (fun _ _ _ _ _ => pg_name (i := 4) scH3.nd rfl (Or.inl rfl)) (fun _ _ _ _ _ => pi_tupK (K := K) (pv 2)) (fun _ _ _ _ _ => pg_name (i := 5) scH3.nd rfl (Or.inl rfl))
        (fun _ _ _ _ _ => pe_ix (ix_tupK (K := K)) (pe_ix (ix_tupK (K := K)) (pv 3) (pv 4) (fun _ _ => rfl)) (pv 5) (fun _ _ => rfl))) pa_nil)) pa_nil))))), ?_⟩
    refine ⟨_, rfl, t, _, dx, _, _, rfl, ht, T.c_TherePart, T.n_TherePart_inner, rfl, r, _, 2, _, rfl, rfl, sqT_of h1, rfl, ?_⟩
    refine ⟨_, rfl, ax, rfl, ⟨_, sqT_of hax⟩, fun D nD => ?_⟩
    have lt1 : ∀ z ∈ fTh k R.m v u, z < R.m := fun z hz => (mem_fTh.mp hz).1
    have lt2 : ∀ z ∈ fTh k R.m v u2, z < R.m := fun z hz => (mem_fTh.mp hz).1
    have atlt : ∀ x y, x < R.m → y < R.m → R.at x y < R.m := fun x y hx hy => by
      obtain ⟨u', hu', e⟩ := hh.onto _ hx
      obtain ⟨w', hw', e'⟩ := hh.onto _ hy
      rw [← e, ← e', hh.mul u' w' hu' hw']
      exact hh.lt _ (hu'.app hw')
    -- members so far: of the first i, all; of the i-th, the first j
    refine wk_tup (K := K) (a := ax) (xs := nV (fTh k R.m v u)) (fun i H2 => Ex H H2 ∧ ∃ l : List Nat, l.Nodup ∧ (∀ z ∈ l, z < R.m) ∧ H2 D = some (SetL w D l) ∧ ∀ x, x ∈ l ↔ ∃ a, ∃ b ∈ fTh k R.m v u2, (∃ i', i' < i ∧ (fTh k R.m v u)[i']? = some a) ∧ R.at a b = x)
      ⟨Ex.add nD, [], List.nodup_nil, fun z hz => (by cases hz), by rw [setL_nil]; exact upd_same, fun x => by simp⟩ (fun i H2 _ hv => sqT_of (hv.1.tup hax)) ?_ ?_
    · rintro i yv H2 hi ⟨x2, l, nd, hlt, hD, hmem⟩
      obtain ⟨a, hia, rfl⟩ : ∃ a, (fTh k R.m v u)[i]? = some a ∧ yv = V.int (a : Nat) := by
        rw [List.getElem?_map] at hi
        cases e : (fTh k R.m v u)[i]? with
        | none => rw [e] at hi; cases hi
        | some a => rw [e] at hi; exact ⟨a, rfl, (Option.some.inj hi).symm⟩
      have ha := lt1 a (List.mem_of_getElem? hia)
      refine ⟨rfl, _, rfl, ay, rfl, ⟨_, sqT_of (x2.tup hay)⟩, ?_⟩
      refine wk_tup (K := K) (a := ay) (xs := nV (fTh k R.m v u2)) (fun j H3 => Ex H H3 ∧ ∃ l : List Nat, l.Nodup ∧ (∀ z ∈ l, z < R.m) ∧ H3 D = some (SetL w D l) ∧ ∀ x, x ∈ l ↔ (∃ a, ∃ b ∈ fTh k R.m v u2, (∃ i', i' < i ∧ (fTh k R.m v u)[i']? = some a) ∧ R.at a b = x) ∨ ∃ b, (∃ j', j' < j ∧ (fTh k R.m v u2)[j']? = some b) ∧ R.at a b = x)
        ⟨x2, l, nd, hlt, hD, fun x => by rw [hmem]; simp⟩ (fun j H3 _ hv => sqT_of (hv.1.tup hay)) ?_ ?_
      · rintro j yv H3 hj ⟨x3, l3, nd3, hlt3, hD3, hmem3⟩
        obtain ⟨b, hjb, rfl⟩ : ∃ b, (fTh k R.m v u2)[j]? = some b ∧ yv = V.int (b : Nat) := by
          rw [List.getElem?_map] at hj
          cases e : (fTh k R.m v u2)[j]? with
          | none => rw [e] at hj; cases hj
          | some a => rw [e] at hj; exact ⟨a, rfl, (Option.some.inj hj).symm⟩
        have hbm := List.mem_of_getElem? hjb
        have hb := lt2 b hbm
        obtain ⟨row, e1, e2⟩ := at_get sq ha hb
        obtain ⟨tr, e3, e4⟩ := RdrV.row (mt := mt) (x3.rows h4) e1
        have hb3 : l3.length ≤ 300 := Nat.le_trans (bound_of nd3 hlt3) hm
        refine ⟨rfl, _, rfl, _, rfl, mt, _, a, _, rfl, rfl, sqT_of (x3.tup h3), e3, _, rfl, tr, _, b, _, rfl, rfl, sqT_of e4, nV_at e2, (R.at a b : Nat), setN l3, l3.length, rfl, hD3, (by unfold scanBound; omega), ?_⟩
        obtain ⟨l', nd', hm', e'⟩ := setL_add w D nd3 (R.at a b)
        erw [e']
        refine ⟨x3.mut nD, l', nd', fun z hz => ?_, upd_same, fun x => ?_⟩
        · rcases (hm' z).mp hz with h | h
          · exact hlt3 z h
          · rw [h]; exact atlt a b ha hb
        · rw [hm', hmem3]
          constructor
          · rintro ((h | ⟨b', ⟨j', hj', e⟩, e5⟩) | e)
            · exact .inl h
            · exact .inr ⟨b', ⟨j', by omega, e⟩, e5⟩
            · exact .inr ⟨b, ⟨j, by omega, hjb⟩, e.symm⟩
          · rintro (h | ⟨b', ⟨j', hj', e⟩, e5⟩)
            · exact .inl (.inl h)
            · by_cases hjj : j' = j
              · subst hjj
                rw [hjb] at e
                cases e
                exact .inr e5.symm
              · exact .inl (.inr ⟨b', ⟨j', by omega, e⟩, e5⟩)
      · rintro H3 ⟨x3, l3, nd3, hlt3, hD3, hmem3⟩
        refine ⟨x3, l3, nd3, hlt3, hD3, fun x => ?_⟩
        rw [hmem3]
        constructor
        · rintro (⟨a', b', hb', ⟨i', hi', e⟩, e5⟩ | ⟨b', ⟨j', hj', e⟩, e5⟩)
          · exact ⟨a', b', hb', ⟨i', by omega, e⟩, e5⟩
          · exact ⟨a, b', List.mem_of_getElem? e, ⟨i, by omega, hia⟩, e5⟩
        · rintro ⟨a', b', hb', ⟨i', hi', e⟩, e5⟩
          by_cases hii : i' = i
          · subst hii
            rw [hia] at e
            cases e
            obtain ⟨j', hj', ej⟩ := List.getElem_of_mem hb'
            exact .inr ⟨b', ⟨j', by rw [List.length_map]; exact hj', by rw [List.getElem?_eq_getElem hj', ej]⟩, e5⟩
          · exact .inl ⟨a', b', hb', ⟨i', by omega, e⟩, e5⟩
    · rintro H2 ⟨x2, l, nd, hlt, hD, hmem⟩
      refine ⟨D, _, _, rfl, hD, fun ns q1 hp hn _ _ nq => ?_⟩
      obtain ⟨ms, ems, hR⟩ := rising_of hp hn
      rw [ems]
      refine ⟨q1, _, rfl, .inl ⟨SqL.of upd_same, fun q2 nq2 => q _ _ ((x2.new nq).new nq2) ⟨q2, rfl, ?_⟩⟩⟩
      rw [upd_same]
      show some (HO.tup (nV ms)) = some (HO.tup (nV (fTh k R.m v (u ++ u2))))
      rw [fTh_app hh hu hw (l := ms) ⟨hR.rise, fun x => by
        rw [hR.mem, hmem, List.length_map]
        constructor
        · rintro ⟨a, b, hb, ⟨i', hi', e⟩, e5⟩
          exact ⟨a, List.mem_of_getElem? e, b, hb, e5⟩
        · rintro ⟨a, ha, b, hb, e5⟩
          obtain ⟨i', hi', ei⟩ := List.getElem_of_mem ha
          exact ⟨a, b, hb, ⟨i', hi', by rw [List.getElem?_eq_getElem hi', ei]⟩, e5⟩⟩]
end
end Tw
set_option maxRecDepth 100000
set_option maxHeartbeats 2000000
/-! Defs that make generator expressions (their code object known); TherePart.is_accepted. -/
namespace Tw
open PySem PySem.Spec PyProof.Rows L2
section
variable {P : Program} {w : World} {K : PySem.W.Frag} {mg : Str → Option Value} {base : Heap}
/-- as FunD.ok, the code object named -/
theorem funD_okC {CX : CXT} {x qual : Str} {params : Arguments} {body : List Stmt} {scope : Scope} {p : He.Defn} {fd : FuncData} {N ps : List Str} {k : Nat} {sp : Sp} (F : FunD K x qual params body scope [] [] (He.fAd K p) fd) (S : FnScope N ps scope) (len : ∀ vs H Q E, sp vs H Q E → vs.length = ps.length)
    (hbody : ∀ (A : Around) (outer : List Env) (s : Shared) (H : Hp) (vs : List V) (Q : VK) (E : XK), Room k (A.deeper (envOfC qual scope s.heap.objs.size (He.fAd K p) (.ref (He.codeOf K p)))) → sp vs H Q E →
      ∃ t, PSs (cxOf CX P w K mg base N qual scope (He.fAd K p) (.ref (He.codeOf K p)) A outer s H E) body t ∧ t { nx := fun _ H' => Q .non H', rt := Q } (L2.start N vs) H) : FnOk P w K mg base CX (k + 1) (He.fAd K p) fd ps sp := by
  obtain ⟨oc, od, dV, kV, doc, pm, an, cdv, ct, osl, rfl, lk, hcd, _, _⟩ := F.ex
  obtain ⟨c, rfl⟩ := He.codeIn_ref hcd
  have e : He.codeOf K p = c := He.codeOf_eq lk rfl
  subst e
  exact fn_of lk hcd S len fun A outer s H vs Q E hr hsp => hbody A outer s H vs Q E hr hsp
/-- a generator expression's scope, in a def's frame -/
theorem genS_of {qual : Str} {sc scope : Scope} {L f : Addr} {cd : Value} {x : Str} (h1 : scope.kind = .function) (h2 : scope.isCoroutine = false) (h3 : ∀ y ∈ scope.names, y.2 ≠ .cell) (h4 : scope.names.lookup (".0" : Str) = some NameKind.local) (h5 : scope.names.lookup x = some .local)
    (h6 : ∀ y ∈ scope.names, y.2 = .free → sc.names.lookup y.1 = some .cell) : GxR.GenS (envOfC qual sc L f cd) scope x :=
  ⟨h1, h2, h3, h4, h5, fun y hy e => cell_has (h6 y hy e)⟩
theorem any_acc {R : Rd} {l : List Nat} : ((nV l).any fun y => inV y (nV R.acc)) = decide (∃ x ∈ l, x ∈ R.acc) := by
  rw [Bool.eq_iff_iff, List.any_eq_true, decide_eq_true_iff]
  constructor
  · rintro ⟨y, hy, e⟩
    obtain ⟨x, hx, rfl⟩ := List.mem_map.mp hy
    rw [inV_nat, decide_eq_true_iff] at e
    exact ⟨x, hx, e⟩
  · rintro ⟨x, hx, e⟩
    exact ⟨_, List.mem_map.mpr ⟨x, hx, rfl⟩, by rw [inV_nat, decide_eq_true_iff]; exact e⟩
theorem ok_hacc (T : Tx w K mg) (TB : GxR.TabB base mg (cP K).1 (cP K).2) {R : Rd} {cnt k : Nat} {L L' : List Nat → Bool} {v : List Nat → Nat} (hh : Hom R (cnt * 2 ^ (k + 1)) L v) (hL : ∀ u, Wd (cnt * 2 ^ k) u → (L' u = true ↔ ∃ g, L (lift k g u) = true)) :
    Gd P w K mg base CX0 5 (He.fAd K ("TherePart", some "is_accepted")) ["self", "x"] (spAcc (clThere K R k cnt L' v)) := by
  obtain ⟨fd, F⟩ := T.f_TherePart_is_accepted
  refine ⟨fd, funD_okC F scH4 (fun vs H Q E h => ?_) (fun A outer s H vs Q E hr h => ?_), F.bindsN fun _ _ _ _ _ _ us hl => match us, hl with | [_, _], _ => rfl, F.kp⟩
  · obtain ⟨t, x, u, rfl, _⟩ := h
    rfl
  · obtain ⟨t, x, u, rfl, ⟨dx, r, ht, ⟨lt, mt, at_, as, h1, h2, h3, h4, h5⟩, hT⟩, hu, ⟨ax, rfl, hax⟩, q⟩ := h
    have hu : Wd (cnt * 2 ^ k) u := hu
    have hax : H ax = some (.tup (nV (fTh k R.m v u))) := hax
    refine ⟨_, PSs.nox (pss_one (ps_ret (pe_anyQ (rd := rdIn K 0 "inner" 3) hr rfl T.m_any TB rfl (genS_of rfl rfl (by decide +kernel) rfl rfl (by decide +kernel)) (pv 1)
      (elt_in (i := 0) (n := "inner") (m := 3) rfl rfl rfl (by decide +kernel) rfl rfl) (fun _ => rfl)))), ?_⟩
    refine ⟨_, rfl, ax, _, (fun y => inV y (nV R.acc)), rfl, .inr hax, hT, fun H2 hT2 => ⟨fun y hy => ?_, ?_⟩⟩
    · have x2 : Ex H H2 := (Ex.refl H).tabbed hT hT2
      obtain ⟨z, hz, rfl⟩ := List.mem_map.mp hy
      exact ⟨t, _, dx, _, r, _, at_, _, rfl, x2.ins ht, T.c_TherePart, T.n_TherePart_inner, rfl, x2.tup h1, rfl, x2.tup h5, rfl, nV_flat _, rfl⟩
    · rw [any_acc]
      have e : decide (∃ x ∈ fTh k R.m v u, x ∈ R.acc) = L' u := by
        rw [Bool.eq_iff_iff, decide_eq_true_iff, hL u hu]
        exact fTh_acc hh hu
      rw [e]
      exact q H2 ((Ex.refl H).tabbed hT hT2)
open Classical in
theorem fTh_app_r {R : Rd} {cnt k : Nat} {L : List Nat → Bool} {v : List Nat → Nat} (hh : Hom R (cnt * 2 ^ (k + 1)) L v) {u x : List Nat} (hu : Wd (cnt * 2 ^ k) u) (hx : Wd (cnt * 2 ^ k) x) :
    RisingOf (fun z => ∃ a ∈ fTh k R.m v u, ∃ b ∈ fTh k R.m v x, R.at a b = z) (fTh k R.m v (u ++ x)) := by
  have r : RisingOf (fun z => ∃ a ∈ fTh k R.m v u, ∃ b ∈ fTh k R.m v x, R.at a b = z) ((List.range R.m).filter fun z => decide (∃ a ∈ fTh k R.m v u, ∃ b ∈ fTh k R.m v x, R.at a b = z)) := by
    refine ⟨List.Pairwise.filter _ (rising_range _), fun z => ?_⟩
    rw [List.mem_filter, List.mem_range, decide_eq_true_iff]
    refine ⟨fun h => h.2, fun h => ⟨?_, h⟩⟩
    obtain ⟨a, ha, b, hb, e⟩ := h
    obtain ⟨_, g, e1⟩ := mem_fTh.mp ha
    obtain ⟨_, g', e2⟩ := mem_fTh.mp hb
    rw [← e, ← e1, ← e2, hh.mul _ _ (lift_wd u g hu) (lift_wd x g' hx)]
    exact hh.lt _ ((lift_wd u g hu).app (lift_wd x g' hx))
  rw [fTh_app hh hu hx r]
  exact r
theorem keyTh_dep (l : List Nat) : NestedKey.depth (.tup (l.map fun x : Nat => NestedKey.num (x : Int))) ≤ 8 := by
  have h := dep_tup (l.map fun z : Nat => (z : Int))
  rw [List.map_map] at h
  exact h
theorem keyTh_vs (H : Hp) (l : List Nat) : KeyVs H (l.map fun x : Nat => NestedKey.num (x : Int)) (nV l) := by
  have h := keyVs_ints (H := H) (l.map fun z : Nat => (z : Int))
  rw [List.map_map, List.map_map] at h
  exact h
theorem cl_there (T : Tx w K mg) (TB : GxR.TabB base mg (cP K).1 (cP K).2) {R : Rd} {cnt k : Nat} {L L' : List Nat → Bool} {v : List Nat → Nat} (hh : Hom R (cnt * 2 ^ (k + 1)) L v) (sq : ∀ row ∈ R.mul, row.length = R.m) (hm : R.m ≤ 300) (hk : k ≤ 20) (hc : cnt * 2 ^ k ≤ 2 ^ 24)
    (hL : ∀ u, Wd (cnt * 2 ^ k) u → (L' u = true ↔ ∃ g, L (lift k g u) = true)) : ClOk P w K mg base (clThere K R k cnt L' v) where
  cls := T.c_TherePart
  inj := fun x y h => by
    have h : NestedKey.tup (x.map fun z : Nat => NestedKey.num (z : Int)) = NestedKey.tup (y.map fun z : Nat => NestedKey.num (z : Int)) := h
    injection h with h
    show (x : List Nat) = y
    have key : ∀ x y : List Nat, x.map (fun z : Nat => NestedKey.num (z : Int)) = y.map (fun z : Nat => NestedKey.num (z : Int)) → x = y := by
      intro x
      induction x with
      | nil => intro y h; cases y with
        | nil => rfl
        | cons b y => cases h
      | cons a x ih => intro y h; cases y with
        | nil => cases h
        | cons b y =>
          rw [List.map_cons, List.map_cons] at h
          injection h with h1 h2
          rw [natKey_inj _ _ h1, ih y h2]
    exact key x y h
  dep := fun x => keyTh_dep x
  is_ex := fun x h => h.ex x
  ins := fun h => by
    obtain ⟨dx, r, h1, _⟩ := h
    exact ⟨dx, _, h1, rfl, rfl, rfl, rfl⟩
  rep_ex := fun x h => by
    obtain ⟨a, e1, e2⟩ := h
    exact ⟨a, e1, x _ _ e2⟩
  rep_key := fun {H x v} h => by
    obtain ⟨a, rfl, e2⟩ := h
    exact .tup e2 (keyTh_vs H x)
  cong := fun u u' x x' hu hu' hx hx' e e' => by
    have e : fTh k R.m v u = fTh k R.m v u' := e
    have e' : fTh k R.m v x = fTh k R.m v x' := e'
    show fTh k R.m v (u ++ x) = fTh k R.m v (u' ++ x')
    refine fTh_app hh hu hx ?_
    rw [e, e']
    exact fTh_app_r hh hu' hx'
  acong := fun u u' hu hu' e => by
    have e : fTh k R.m v u = fTh k R.m v u' := e
    show L' u = L' u'
    rw [Bool.eq_iff_iff, hL u hu, hL u' hu', ← fTh_acc hh hu, ← fTh_acc hh hu', e]
  mE := ⟨_, T.k_TherePart_empty, (ok_hempty (L := L) T hh).mono (by decide)⟩
  mL := ⟨_, T.k_TherePart_letter, (ok_hletter (L := L) T hh hk hc hm).mono (by decide)⟩
  mJ := ⟨_, T.k_TherePart_join, (ok_hjoin (L := L) T hh sq hm).mono (by decide)⟩
  mA := ⟨_, T.k_TherePart_is_accepted, (ok_hacc T TB hh hL).mono (by decide)⟩
end
end Tw
set_option maxRecDepth 100000
set_option maxHeartbeats 2000000
/-! collect. -/
namespace Tw
open PySem PySem.Spec PyProof.Rows L2
theorem room80 {k : Nat} {A : Around} (hr : Room k A) : A.units + 80 < cLine := by have := hr.un; omega
/-! ### enumerate -/
theorem for_enum {K : PySem.W.Frag} {a : Addr} {xs : List V} {g : TG} {tb : TS} {D : Ends} {σ : L2.St} {H : Hp} (Pv : Nat → L2.St → Hp → Prop) (h0 : Pv 0 σ H) (hl : ∀ i σ H, i ≤ xs.length → Pv i σ H → SqL K H a xs)
    (hs : ∀ (i : Nat) (x : V) (T : Addr) (σ : L2.St) (H : Hp), xs[i]? = some x → Pv i σ H → H T = none → g (.ref T) σ (upd H T (.tup [.int (i : Nat), x])) fun σ2 H2 => tb { D with nx := Pv (i + 1), ct := Pv (i + 1), bk := D.nx } σ2 H2) (hd : ∀ σ H, Pv xs.length σ H → D.nx σ H) :
    ∃ W : Nat → Nat → L2.St → Hp → Prop, (∃ m, W 0 m σ H) ∧ ∀ i m σ H, W i m σ H →
      ((Ite K a).stop i H ∧ D.nx σ H) ∨ ((Ite K a).go i H ∧ ∃ N : L2.St → Hp → Prop, (∀ σ' H', N σ' H' → ∃ m', m' < m ∧ W (i + 1) m' σ' H') ∧ ∀ v H', (Ite K a).yld i H v H' → g v σ H' fun σ2 H2 => tb { D with nx := N, ct := N, bk := D.nx } σ2 H2) := by
  refine ⟨fun i m σ H => m = xs.length - i ∧ i ≤ xs.length ∧ Pv i σ H, ⟨xs.length, rfl, Nat.zero_le _, h0⟩, ?_⟩
  rintro i m σ H ⟨rfl, hi, p⟩
  have qx := hl i σ H hi p
  by_cases hlt : i < xs.length
  · refine .inr ⟨⟨xs, xs[i], qx, List.getElem?_eq_getElem hlt⟩, Pv (i + 1), fun σ' H' p' => ⟨xs.length - (i + 1), by omega, rfl, hlt, p'⟩, fun v H' y => ?_⟩
    obtain ⟨T, x', rfl, hT, rfl, f1⟩ := y
    exact hs i x' T σ H (f1 xs qx) p hT
  · have e : i = xs.length := by omega
    subst e
    exact .inl ⟨⟨xs, qx, Nat.le_refl _⟩, hd σ H p⟩
/-! ### lists of values -/
section
variable {c : Cl} {H H' : Hp}
/-- the values zs lie as ys -/
abbrev Reps (c : Cl) (H : Hp) (zs : List c.α) (ys : List V) : Prop := Paired (c.rep H) zs ys
theorem Paired.at {α β : Type} {F : α → β → Prop} : ∀ {xs : List α} {ys : List β} {i : Nat} {y : β}, Paired F xs ys → ys[i]? = some y → ∃ x, xs[i]? = some x ∧ F x y
  | _, _, _, _, .nil, e => by simp at e
  | x :: xs, _, 0, y, .cons r _, e => by simp at e; subst e; exact ⟨x, rfl, r⟩
  | x :: xs, _, i + 1, y, .cons _ t, e => by
    obtain ⟨z, h1, h2⟩ := Paired.at (i := i) (y := y) t (by simpa using e)
    exact ⟨z, by simpa using h1, h2⟩
theorem Paired.at' {α β : Type} {F : α → β → Prop} : ∀ {xs : List α} {ys : List β} {i : Nat} {x : α}, Paired F xs ys → xs[i]? = some x → ∃ y, ys[i]? = some y ∧ F x y
  | _, _, _, _, .nil, e => by simp at e
  | _, y :: ys, 0, x, .cons r _, e => by simp at e; subst e; exact ⟨y, rfl, r⟩
  | _, y :: ys, i + 1, x, .cons _ t, e => by
    obtain ⟨z, h1, h2⟩ := Paired.at' (i := i) (x := x) t (by simpa using e)
    exact ⟨z, by simpa using h1, h2⟩
theorem Paired.app {α β : Type} {F : α → β → Prop} : ∀ {xs xs' : List α} {ys ys' : List β}, Paired F xs ys → Paired F xs' ys' → Paired F (xs ++ xs') (ys ++ ys')
  | _, _, _, _, .nil, s => s
  | _, _, _, _, .cons r t, s => .cons r (Paired.app t s)
theorem Paired.dropP {α β : Type} {F : α → β → Prop} : ∀ {xs : List α} {ys : List β} (n : Nat), Paired F xs ys → Paired F (xs.drop n) (ys.drop n)
  | _, _, 0, r => r
  | _, _, _ + 1, .nil => .nil
  | _, _, n + 1, .cons _ t => Paired.dropP n t
/-- the dict of what is found -/
def FD (c : Cl) (w : World) (H : Hp) (d : Addr) (xs : List c.α) : Prop := ∃ kvs : List RowV, H d = some (DN w d kvs) ∧ kvs.map (·.1) = xs.map c.key ∧ Reps c H xs (kvs.map (·.2.1))
/-- a list of values -/
def MD (c : Cl) (H : Hp) (m : Addr) (zs : List c.α) : Prop := ∃ ys, H m = some (.lst ys) ∧ Reps c H zs ys
variable {P : Program} {w : World} {K : PySem.W.Frag} {mg : Str → Option Value} {base : Heap} {lv : Nat}
theorem Reps.mono (O : ClOkL P w K mg base lv c) {zs : List c.α} {ys : List V} (t : TupK H H') (h : Reps c H zs ys) : Reps c H' zs ys := Paired.mapP h fun _ _ r => O.rep_ex t r
theorem FD.keys (O : ClOkL P w K mg base lv c) {kvs : List RowV} {xs : List c.α} (h1 : kvs.map (·.1) = xs.map c.key) (h2 : Reps c H xs (kvs.map (·.2.1))) : KeysV H kvs := fun x hx => by
  obtain ⟨i, hi, e⟩ := List.getElem_of_mem hx
  have e0 : kvs[i]? = some x := by rw [List.getElem?_eq_getElem hi, e]
  obtain ⟨z, e1, r⟩ := Paired.at h2 (i := i) (y := x.2.1) (by rw [List.getElem?_map, e0]; rfl)
  have e2 : (kvs.map (·.1))[i]? = some x.1 := by rw [List.getElem?_map, e0]; rfl
  rw [h1, List.getElem?_map, e1] at e2
  have e3 : c.key z = x.1 := Option.some.inj e2
  rw [← e3]
  exact ⟨O.rep_key r, O.dep z⟩
theorem FD.len (h : FD c w H d xs) : ∃ kvs : List RowV, H d = some (DN w d kvs) ∧ kvs.length = xs.length := by
  obtain ⟨kvs, h1, h2, _⟩ := h
  exact ⟨kvs, h1, by have := congrArg List.length h2; simpa using this⟩
mutual
theorem KeyV.det {H : Hp} : ∀ (k k' : NKey) (v : V), KeyV H k v → KeyV H k' v → k = k'
  | _, _, _, .bool e, .bool e' => by rw [e, e']
  | _, _, _, .int _, .int _ => rfl
  | _, _, _, .text _, .text _ => rfl
  | _, _, _, .tup h1 h2, .tup h1' h2' => by
    rw [h1] at h1'
    cases h1'
    rw [KeyVs.det _ _ _ h2 h2']
theorem KeyVs.det {H : Hp} : ∀ (ks ks' : List NKey) (vs : List V), KeyVs H ks vs → KeyVs H ks' vs → ks = ks'
  | _, _, _, .nil, .nil => rfl
  | _, _, _, .cons h1 h2, .cons h1' h2' => by rw [KeyV.det _ _ _ h1 h1', KeyVs.det _ _ _ h2 h2']
end
theorem key_mem (O : ClOkL P w K mg base lv c) {xs : List c.α} {x : c.α} : c.key x ∈ xs.map c.key ↔ x ∈ xs := by
  constructor
  · intro h
    obtain ⟨y, hy, e⟩ := List.mem_map.mp h
    exact O.inj _ _ e ▸ hy
  · exact fun h => List.mem_map.mpr ⟨x, h, rfl⟩
end

theorem enter {α : Sort _} {R : α} {F : α → Prop} (h : ∀ R', R' = R → F R') : F R := h R rfl
theorem cutV_drop (xs : List V) {k : Nat} (h : k ≤ xs.length) : cutV xs (some (k : Int)) none = xs.drop k := by
  have e1 : HT.sIx xs.length 0 (some (k : Int)) = k := by
    rw [HT.sIx_nat, Nat.min_eq_left h]
  have e2 : HT.sIx xs.length xs.length none = xs.length := rfl
  unfold cutV
  rw [e1, e2]
  exact List.take_of_length_le (by rw [List.length_drop]; omega)
section
variable {P : Program} {w : World} {K : PySem.W.Frag} {mg : Str → Option Value} {base : Heap}
def spCollect (K : PySem.W.Frag) (c : Cl) : Sp := fun vs H Q _ => ∃ t, vs = [.ref t, .int (c.cnt : Int), .int 300] ∧ c.Is H t ∧ GxR.TabG H (cQ K).2 ∧ c.cnt ≤ 4096 ∧ (∀ H', Ex H H' → Many c.f c.cnt → Q .non H') ∧
  ∀ H' l xs ws, Ex H H' → H' l = some (.lst ws) → Found c.f c.cnt xs → Reps c H' xs ws → xs.length ≤ 300 → Q (.ref l) H'
/-- what holds at the while's test: xs found, zs made -/
structure ColP (c : Cl) (xs zs : List c.α) (old : Nat) (more : Bool) : Prop where
  nd : xs.Nodup
  rx : ∀ x ∈ xs, ∃ u, Wd c.cnt u ∧ c.f u = x
  rz : ∀ x ∈ zs, ∃ u, Wd c.cnt u ∧ c.f u = x
  emp : c.f [] ∈ xs
  let_ : ∀ a, a < c.cnt → c.f [a] ∈ xs ∨ c.f [a] ∈ zs
  le : old ≤ xs.length
  joins : ∀ i j u v, i < old → j < old → Wd c.cnt u → Wd c.cnt v → xs[i]? = some (c.f u) → xs[j]? = some (c.f v) → c.f (u ++ v) ∈ xs ∨ c.f (u ++ v) ∈ zs
  small : xs.length ≤ 300
  szs : zs.length ≤ 90000
  mo : old = 0 ∨ (more = true → ∃ z ∈ zs, z ∉ xs)
  fin : more = false → old = xs.length ∧ ∀ z ∈ zs, z ∈ xs
theorem ColP.found {c : Cl} {xs zs : List c.α} {old : Nat} (p : ColP c xs zs old false) : Found c.f c.cnt xs := by
  obtain ⟨e, hz⟩ := p.fin rfl
  refine Found.mk' p.nd p.rx p.emp (fun a ha => (p.let_ a ha).elim id (hz _)) fun u v hu hv h1 h2 => ?_
  obtain ⟨i, hi, e1⟩ := List.getElem_of_mem h1
  obtain ⟨j, hj, e2⟩ := List.getElem_of_mem h2
  exact (p.joins i j u v (by omega) (by omega) hu hv (by rw [List.getElem?_eq_getElem hi, e1]) (by rw [List.getElem?_eq_getElem hj, e2])).elim id (hz _)
theorem scCol : FnScope ["table", "count", "most", "made", "old", "more", "x", "known", "number", "found", "a", "y"] ["table", "count", "most"] (defScope s_collect) := ⟨rfl, rfl, rfl, by decide +kernel, rfl, by decide +kernel, by decide +kernel⟩
open Classical in
theorem ok_collect (T : Tx w K mg) (TB : GxR.TabB base mg (cQ K).1 (cQ K).2) (c : Cl) (O : ClOk P w K mg base c) : Gd P w K mg base CX0 (LV + 1) (He.ga K "collect") ["table", "count", "most"] (spCollect K c) := by
  obtain ⟨fd, F⟩ := T.f_collect
  obtain ⟨gE, kE, GE⟩ := O.mE
  obtain ⟨gL, kL, GL⟩ := O.mL
  obtain ⟨gJ, kJ, GJ⟩ := O.mJ
  refine ⟨fd, funD_okC (p := ("collect", none)) F scCol (fun vs H Q E h => ?_) (fun A outer s H vs Q E hr h => ?_), F.bindsN fun _ _ _ _ _ _ us hl => match us, hl with | [_, _, _], _ => rfl, F.kp⟩
  · obtain ⟨t, rfl, _⟩ := h
    rfl
  · obtain ⟨t, rfl, hI, hT, hc, qM, qF⟩ := h
    have hu := room80 hr
    have hu64 := hr.units
    refine ⟨_, PSs.nox (pss_cons (ps_set (i := 9) scCol.nd rfl (.inr rfl) (pe_oneNW (w := w) hu64 (pe_mG0 (pv 0) O.cls kE GE hr pass0) pe_int))
      (pss_cons (ps_setLc (i := 3) (own := [("a", 10)]) (g := gName 10) (tt := tYes) rfl scCol.nd rfl rfl (sw_true rfl rfl rfl (by decide +kernel)) (pi_range1 rfl T.m_range (pa_cons (pv 1) pa_nil))
        (blkOk_by (own := [("a", 10)]) (N := ["table", "count", "most", "made", "old", "more", "x", "known", "number", "found", "a", "y"]) (sc := defScope s_collect) (by decide +kernel))
        (fun _ _ _ _ _ => pg_name (i := 10) scCol.nd rfl (Or.inl rfl)) (fun _ _ _ _ _ => pts_nil) (fun _ _ _ _ _ => pe_mG (pv 0) O.cls kL GL hr pass0 (pa_cons (pv 10) pa_nil)))
      (pss_cons (ps_set (i := 4) scCol.nd rfl (.inl rfl) pe_int)
      (pss_cons (ps_set (i := 5) scCol.nd rfl (.inl rfl) pe_bl)
      (pss_cons (ps_while PassesOwn.never (pt_val (pv 5))
        (pss_cons (ps_for PassesOwn.never rfl (pi_list (pv 3)) (pg_name (i := 6) scCol.nd rfl (.inr rfl))
          (pss_one (ps_if (pt_cmpR (op_notInNW (w := w) hu64) (pv 6) (pv 9) (by rfl)) (pss_one (ps_asg (pe_callB (call_lenNW (w := w)) rfl T.m_len PySem.boot_len (pa_cons (pv 9) pa_nil)) (pg_sub (pv 9) (pv 6) (set_dNW (w := w) hu64)))) pss_nil)))
        (pss_cons (ps_if (pt_cmpR op_gt (pe_callB (call_lenNW (w := w)) rfl T.m_len PySem.boot_len (pa_cons (pv 9) pa_nil)) (pv 2) (nomark _)) (pss_one (ps_ret pe_non)) pss_nil)
        (pss_cons (ps_set (i := 7) scCol.nd rfl (.inl rfl) (pe_callTy (call_listNW (w := w) rfl) rfl T.m_list (by decide +kernel) (pa_cons (pv 9) pa_nil)))
        (pss_cons (ps_set (i := 3) scCol.nd rfl (.inl rfl) (pe_lst pa_nil))
        (pss_cons (ps_for PassesOwn.never rfl (pi_enum rfl T.m_enumerate (pa_cons (pv 7) pa_nil)) (pg_tup rfl (pgs_cons (pg_name (i := 8) scCol.nd rfl (.inl rfl)) (pgs_cons (pg_name (i := 6) scCol.nd rfl (.inr rfl)) pgs_nil)))
          (pss_one (ps_aug (i := 3) scCol.nd rfl (.inl rfl)
            (pe_lc (own := [("y", 11)]) (g := gName 11) (tt := tYes) rfl scCol.nd (pi_list (pe_ifExp (pt_cmpR op_ltN (pv 8) (pv 4) (nomark _)) (pe_slice sl_list (pv 7) (po_some (pv 4)) po_none) (pv 7)))
              (blkOk_by (own := [("y", 11)]) (N := ["table", "count", "most", "made", "old", "more", "x", "known", "number", "found", "a", "y"]) (sc := defScope s_collect) (by decide +kernel))
              (fun _ _ _ _ _ => pg_name (i := 11) scCol.nd rfl (Or.inl rfl)) (fun _ _ _ _ _ => pts_nil) (fun _ _ _ _ _ => pe_mG (pv 0) O.cls kJ GJ hr pass0 (pa_cons (pv 6) (pa_cons (pv 11) pa_nil))))
            iop_ext)))
        (pss_cons (ps_set (i := 4) scCol.nd rfl (.inl rfl) (pe_callB call_len_seq rfl T.m_len PySem.boot_len (pa_cons (pv 7) pa_nil)))
        (pss_one (ps_set (i := 5) scCol.nd rfl (.inl rfl) (pe_anyQ (rd := rdNot w 9) hr rfl T.m_any TB rfl (genS_of rfl rfl (by decide +kernel) rfl rfl (by decide +kernel)) (pv 3)
          (elt_not (i := 9) hu rfl rfl rfl (by decide +kernel) rfl rfl) (fun _ => rfl)))))))))))
      (pss_one (ps_ret (pe_callTy (call_listNW (w := w) rfl) rfl T.m_list (by decide +kernel) (pa_cons (pv 9) pa_nil))))))))), ?_⟩
    obtain ⟨dx, fs, hIt, n1, n2, n3, n4⟩ := O.ins hI
    have nt : ∀ {p o}, H p = none → (∀ C d f, o ≠ HO.ins C d f) → True := fun _ _ => trivial
    intro d nd
    -- found = {table.empty(): 0}
    refine ⟨_, rfl, t, dx, fs, rfl, (Ex.add nd).ins hIt, n1, t, rfl, O.is_ex (Ex.add nd) hI, fun v0 H1 x1 r0 => ⟨_, ?_, O.rep_key r0, O.dep _, ?_⟩⟩
    · exact x1.dn upd_same
    have x2 : Ex H (upd H1 d (DN w d [(c.key (c.f []), v0, .int 0)])) := ((Ex.add nd).trans x1).mut nd
    have t2 : TupK H1 (upd H1 d (DN w d [(c.key (c.f []), v0, .int 0)])) := (TupK.refl H1).mut fun vs e => by rw [x1.dn upd_same] at e; cases e
    have fd2 : FD c w (upd H1 d (DN w d [(c.key (c.f []), v0, .int 0)])) d [c.f []] := ⟨_, upd_same, rfl, .cons (O.rep_ex t2 r0) .nil⟩
    generalize upd H1 d (DN w d [(c.key (c.f []), v0, .int 0)]) = H2 at x2 t2 fd2
    -- made = [table.letter(a) for a in range(count)]
    refine ⟨_, rfl, (c.cnt : Int), rfl, by omega, by omega, fun m nm => ?_⟩
    refine lc_rangeN (n := c.cnt) (by simp) (fun i H3 => Ex H2 H3 ∧ ∃ ys, H3 m = some (.lst ys) ∧ ys.length = i ∧ Reps c H3 ((List.range i).map fun a => c.f [a]) ys) ⟨Ex.add nm, [], upd_same, rfl, .nil⟩ ?_ ?_
    · rintro i H3 hi ⟨x3, ys, hm, hl, hr⟩
      have hi2 := hi
      refine ⟨rfl, _, rfl, t, dx, fs, rfl, (x2.trans x3).ins hIt, n2, _, rfl, t, i, rfl, O.is_ex (x2.trans x3) hI, hi2, fun v H4 x4 r => ⟨ys, x4.lst hm, ?_, ?_⟩⟩
      · rw [hl, sizeLine_eq]; omega
      · have t4 : TupK H4 (upd H4 m (.lst (ys ++ [v]))) := (TupK.refl H4).mut fun vs e => by rw [x4.lst hm] at e; cases e
        refine ⟨(x3.trans x4).mut nm, _, upd_same, by rw [List.length_append, hl]; rfl, ?_⟩
        rw [List.range_succ, List.map_append]
        exact Paired.app (Reps.mono O (x4.tk.trans t4) hr) (.cons (O.rep_ex t4 r) .nil)
    · rintro H3 ⟨x3, ys, hm, hl, hr⟩
      have X3 : Ex H H3 := x2.trans x3
      have nm0 : H m = none := x2.free nm
      obtain ⟨kvs0, fd0, fk0, fr0⟩ := fd2
      have fd3 : FD c w H3 d [c.f []] := ⟨kvs0, x3.dn fd0, fk0, Reps.mono O x3.tk fr0⟩
      have md3 : MD c H3 m ((List.range c.cnt).map fun a => c.f [a]) := ⟨ys, hm, hr⟩
      have p3 : ColP c [c.f []] ((List.range c.cnt).map fun a => c.f [a]) 0 true :=
        { nd := by simp, rx := fun x hx => ⟨[], Wd.nil, (List.mem_singleton.mp hx).symm⟩,
          rz := fun z hz => by
            obtain ⟨a, ha, rfl⟩ := List.mem_map.mp hz
            exact ⟨[a], Wd.one (List.mem_range.mp ha), rfl⟩
          emp := by simp, let_ := fun a ha => .inr (List.mem_map.mpr ⟨a, List.mem_range.mpr ha, rfl⟩), le := Nat.zero_le _, joins := fun i _ _ _ hi => absurd hi (Nat.not_lt_zero _),
          small := by show 1 ≤ 300; decide, szs := by rw [List.length_map, List.length_range]; omega, mo := .inl rfl, fin := fun h => by cases h }
      clear fd0 fk0 fr0 hm hr x3 x2 t2 nm
      -- old = 0; more = True; while more
      refine ⟨fun μ σ H4 => ∃ (xs zs : List c.α) (m : Addr) (old : Nat) (more : Bool) (v6 v7 v8 v10 v11 : Option V), σ = [some (.ref t), some (.int (c.cnt : Int)), some (.int 300), some (.ref m), some (.int (old : Int)), some (.bl more), v6, v7, v8, some (.ref d), v10, v11] ∧
        Ex H H4 ∧ H m = none ∧ FD c w H4 d xs ∧ MD c H4 m zs ∧ ColP c xs zs old more ∧ μ = 2 * (301 - xs.length) + (if old = 0 then 1 else 0), ⟨_, _, _, m, 0, true, none, none, none, none, none, rfl, X3, nm0, fd3, md3, p3, rfl⟩, ?_⟩
      rintro μ σ H4 ⟨xs, zs, m, old, more, v6, v7, v8, v10, v11, rfl, x4, nm, fd4, md4, p4, rfl⟩
      refine ⟨_, rfl, more, rfl, ?_⟩
      cases more with
      | false =>
        -- return list(found)
        refine iteF ?_
        obtain ⟨kvs, h1, h2, h3⟩ := fd4
        refine ⟨_, rfl, d, kvs, rfl, h1, fun l nl => ?_⟩
        have t5 : TupK H4 (upd H4 l (.lst (kvs.map (·.2.1)))) := (Ex.add nl).tk
        exact qF _ l xs _ (x4.new nl) upd_same p4.found (Reps.mono O t5 h3) p4.small
      | true =>
        refine iteT ⟨(fun σ' H' => ∃ μ', μ' < 2 * (301 - xs.length) + (if old = 0 then 1 else 0) ∧ ∃ (xs' zs' : List c.α) (m' : Addr) (old' : Nat) (more' : Bool) (v6 v7 v8 v10 v11 : Option V), σ' = [some (.ref t), some (.int (c.cnt : Int)), some (.int 300), some (.ref m'), some (.int (old' : Int)), some (.bl more'), v6, v7, v8, some (.ref d), v10, v11] ∧
          Ex H H' ∧ H m' = none ∧ FD c w H' d xs' ∧ MD c H' m' zs' ∧ ColP c xs' zs' old' more' ∧ μ' = 2 * (301 - xs'.length) + (if old' = 0 then 1 else 0)), fun σ' H' h => h, ?_⟩
        obtain ⟨ys, hm, hr⟩ := md4
        have hlen : ys.length = zs.length := (Paired.length hr).symm
        -- for x in made: if x not in found: found[x] = len(found)
        refine ⟨_, rfl, m, rfl, ⟨_, SqL.of hm⟩, for_list (K := K) (a := m) (xs := ys) (fun i σ H5 => ∃ (xs1 : List c.α) (v6 : Option V), σ = [some (.ref t), some (.int (c.cnt : Int)), some (.int 300), some (.ref m), some (.int (old : Int)), some (.bl true), v6, v7, v8, some (.ref d), v10, v11] ∧
          Ex H H5 ∧ FD c w H5 d xs1 ∧ H5 m = some (.lst ys) ∧ Reps c H5 zs ys ∧ xs1.Nodup ∧ (∃ ts, xs1 = xs ++ ts) ∧ (∀ x, x ∈ xs1 ↔ x ∈ xs ∨ ∃ i', i' < i ∧ zs[i']? = some x) ∧ xs1.length ≤ xs.length + i)
          ⟨xs, v6, rfl, x4, fd4, hm, hr, p4.nd, ⟨[], by simp⟩, fun x => by simp, Nat.le_add_right _ _⟩ (fun i σ H5 _ ⟨_, _, _, _, _, h, _⟩ => SqL.of h) ?_ ?_⟩
        · rintro i y σ H5 hi ⟨xs1, v6, rfl, x5, fd5, hm5, hr5, nd5, ⟨ts, ets⟩, mem5, len5⟩
          obtain ⟨z, hz, rz⟩ := Paired.at hr5 hi
          have hil : i < ys.length := (List.getElem?_eq_some_iff.mp hi).1
          have hsz := p4.szs
          have hsm := p4.small
          obtain ⟨kvs, f1, f2, f3⟩ := id fd5
          have fK := FD.keys O f2 f3
          have next : ∀ xs2 : List c.α, xs2 = xs1 → z ∈ xs2 → ∃ (xs1 : List c.α) (v6 : Option V), [some (V.ref t), some (.int (c.cnt : Int)), some (.int 300), some (.ref m), some (.int (old : Int)), some (.bl true), some y, v7, v8, some (.ref d), v10, v11] = [some (V.ref t), some (.int (c.cnt : Int)), some (.int 300), some (.ref m), some (.int (old : Int)), some (.bl true), v6, v7, v8, some (.ref d), v10, v11] ∧
              Ex H H5 ∧ FD c w H5 d xs1 ∧ H5 m = some (.lst ys) ∧ Reps c H5 zs ys ∧ xs1.Nodup ∧ (∃ ts, xs1 = xs ++ ts) ∧ (∀ x, x ∈ xs1 ↔ x ∈ xs ∨ ∃ i', i' < i + 1 ∧ zs[i']? = some x) ∧ xs1.length ≤ xs.length + (i + 1) := by
            rintro xs2 rfl hin
            refine ⟨_, some y, rfl, x5, fd5, hm5, hr5, nd5, ⟨ts, ets⟩, fun x => ?_, by omega⟩
            rw [mem5]
            constructor
            · rintro (h | ⟨i', h1, h2⟩)
              · exact .inl h
              · exact .inr ⟨i', by omega, h2⟩
            · rintro (h | ⟨i', h1, h2⟩)
              · exact .inl h
              · by_cases e : i' = i
                · subst e
                  rw [hz] at h2
                  cases h2
                  exact (mem5 _).mp hin
                · exact .inr ⟨i', by omega, h2⟩
          refine ⟨_, rfl, _, rfl, d, kvs, c.key z, rfl, f1, fK, O.rep_key rz, O.dep z, _, rfl, ?_⟩
          rw [f2]
          by_cases hin : z ∈ xs1
          · rw [decide_eq_true ((key_mem O).mpr hin)]
            exact iteF (next _ rfl hin)
          · have hnk : c.key z ∉ xs1.map c.key := fun h => hin ((key_mem O).mp h)
            rw [decide_eq_false hnk]
            refine iteT ⟨_, rfl, d, kvs, rfl, f1, ?_⟩
            have hkl : kvs.length = xs1.length := by have := congrArg List.length f2; simpa using this
            refine ⟨_, rfl, _, rfl, d, kvs, c.key z, rfl, f1, fK, O.rep_key rz, O.dep z, (by rw [f2]; exact hnk), (by rw [hkl, sizeLine_eq]; omega), ?_⟩
            have md : m ≠ d := ne_of hm5 f1 (by unfold DN; intro q; cases q)
            have t6 : TupK H5 (upd H5 d (DN w d (kvs ++ [(c.key z, y, V.int kvs.length)]))) := (TupK.refl H5).mut fun vs e => by rw [f1] at e; unfold DN at e; cases e
            refine ⟨xs1 ++ [z], some y, rfl, x5.mut nd, ⟨_, upd_same, by rw [List.map_append, List.map_append, f2]; rfl, ?_⟩, by rw [upd_ne md]; exact hm5, Reps.mono O t6 hr5, ?_, ⟨ts ++ [z], by rw [ets, List.append_assoc]⟩, fun x => ?_, by rw [List.length_append]; show xs1.length + 1 ≤ _; omega⟩
            · rw [List.map_append]
              exact Paired.app (Reps.mono O t6 f3) (.cons (O.rep_ex t6 rz) .nil)
            · rw [List.nodup_append]
              exact ⟨nd5, by simp, fun a ha b hb => by simp at hb; subst hb; intro e; subst e; exact hin ha⟩
            · rw [List.mem_append, List.mem_singleton, mem5]
              constructor
              · rintro ((h | ⟨i', h1, h2⟩) | e)
                · exact .inl h
                · exact .inr ⟨i', by omega, h2⟩
                · exact .inr ⟨i, by omega, by rw [hz, e]⟩
              · rintro (h | ⟨i', h1, h2⟩)
                · exact .inl (.inl h)
                · by_cases e : i' = i
                  · subst e
                    rw [hz] at h2
                    cases h2
                    exact .inr rfl
                  · exact .inl (.inr ⟨i', by omega, h2⟩)
        · rintro σ H5 ⟨xs1, v6, rfl, x5, fd5, hm5, hr5, nd5, ⟨ts, ets⟩, mem5, len5⟩
          have mem6 : ∀ x, x ∈ xs1 ↔ x ∈ xs ∨ x ∈ zs := fun x => by
            rw [mem5, hlen]
            constructor
            · rintro (h | ⟨i', h1, h2⟩)
              · exact .inl h
              · exact .inr (List.mem_of_getElem? h2)
            · rintro (h | h)
              · exact .inl h
              · obtain ⟨i', h1, h2⟩ := List.getElem_of_mem h
                exact .inr ⟨i', h1, by rw [List.getElem?_eq_getElem h1, h2]⟩
          have rx6 : ∀ x ∈ xs1, ∃ u, Wd c.cnt u ∧ c.f u = x := fun x hx => ((mem6 x).mp hx).elim (p4.rx x) (p4.rz x)
          obtain ⟨kvs, f1, f2, f3⟩ := id fd5
          have hkl : kvs.length = xs1.length := by have := congrArg List.length f2; simpa using this
          -- if len(found) > most: return None
          refine ⟨_, rfl, d, kvs, rfl, f1, _, rfl, _, _, rfl, rfl, _, rfl, ite2 (fun big => ?_) (fun small => ?_)⟩
          · have big := of_decide_eq_true big
            exact qM H5 x5 ⟨xs1, nd5, by omega, rx6⟩
          have small : xs1.length ≤ 300 := by
            have h1 : ¬ ((300 : Int) < (kvs.length : Int)) := fun h => small (decide_eq_true h)
            omega
          -- known = list(found); made = []
          refine ⟨_, rfl, d, kvs, rfl, f1, fun kn nkn => ?_⟩
          have x7 : Ex H5 (upd H5 kn (.lst (kvs.map (·.2.1)))) := Ex.add nkn
          have f7 := x7.dn f1
          have r7 : Reps c (upd H5 kn (.lst (kvs.map (·.2.1)))) xs1 (kvs.map (·.2.1)) := Reps.mono O x7.tk f3
          have k7 : upd H5 kn (.lst (kvs.map (·.2.1))) kn = some (.lst (kvs.map (·.2.1))) := upd_same
          have X7 : Ex H (upd H5 kn (.lst (kvs.map (·.2.1)))) := x5.trans x7
          generalize upd H5 kn (.lst (kvs.map (·.2.1))) = H7 at x7 f7 r7 k7 X7
          refine ⟨(by show 0 ≤ sizeLine; decide), fun m2 nm2 => ?_⟩
          have mk : kn ≠ m2 := ne_of_none k7 nm2
          have x8 : Ex H7 (upd H7 m2 (.lst [])) := Ex.add nm2
          have f8 := x8.dn f7
          have r8 := Reps.mono O x8.tk r7
          have k8 := x8.lst k7
          have X8 : Ex H (upd H7 m2 (.lst [])) := X7.trans x8
          have m8 : upd H7 m2 (.lst []) m2 = some (.lst []) := upd_same
          have nm20 : H m2 = none := X7.free nm2
          generalize upd H7 m2 (.lst []) = H8 at x8 f8 r8 k8 X8 m8
          clear x7 f7 r7 k7 X7
          have kl : (kvs.map (·.2.1)).length = xs1.length := by rw [List.length_map, hkl]
          generalize hvs : kvs.map (·.2.1) = vs at r8 k8 kl
          -- for number, x in enumerate(known)
          refine ⟨_, rfl, kn, _, rfl, SqL.of k8, for_enum (K := K) (a := kn) (xs := vs) (fun i σ H9 => ∃ (zs2 : List c.α) (ys2 : List V) (v6 v8 : Option V), σ = [some (.ref t), some (.int (c.cnt : Int)), some (.int 300), some (.ref m2), some (.int (old : Int)), some (.bl true), v6, some (.ref kn), v8, some (.ref d), v10, v11] ∧
            Ex H H9 ∧ H9 d = some (DN w d kvs) ∧ H9 kn = some (.lst vs) ∧ Reps c H9 xs1 vs ∧ H9 m2 = some (.lst ys2) ∧ Reps c H9 zs2 ys2 ∧ zs2.length ≤ i * 300 ∧ (∀ z ∈ zs2, ∃ u, Wd c.cnt u ∧ c.f u = z) ∧
            (∀ i' j u v, i' < i → j < xs1.length → (old ≤ i' ∨ old ≤ j) → Wd c.cnt u → Wd c.cnt v → xs1[i']? = some (c.f u) → xs1[j]? = some (c.f v) → c.f (u ++ v) ∈ zs2))
            ⟨[], [], v6, v8, rfl, X8, f8, k8, r8, m8, .nil, Nat.zero_le _, fun z hz => (by cases hz), fun i' _ _ _ h => absurd h (Nat.not_lt_zero _)⟩ (fun i σ H9 _ ⟨_, _, _, _, _, _, _, h, _⟩ => SqL.of h) ?_ ?_⟩
          · rintro i y TT σ H9 hi ⟨zs2, ys2, v6, v8, rfl, x9, f9, k9, r9, m9, q9, l9, rz9, j9⟩ nT
            have hil : i < vs.length := (List.getElem?_eq_some_iff.mp hi).1
            refine ⟨TT, _, rfl, sqT_of upd_same, rfl, _, _, rfl, _, _, rfl, rfl, ?_⟩
            obtain ⟨xi, hxi, rxi⟩ := Paired.at r9 hi
            obtain ⟨u0, hu0, eu0⟩ := rx6 xi (List.mem_of_getElem? hxi)
            have xT : Ex H9 (upd H9 TT (.tup [.int (i : Nat), y])) := Ex.add nT
            have X10 : Ex H (upd H9 TT (.tup [.int (i : Nat), y])) := x9.trans xT
            have f10 := xT.dn f9
            have k10 := xT.lst k9
            have r10 := Reps.mono O xT.tk r9
            have m10 := xT.lst m9
            have q10 := Reps.mono O xT.tk q9
            have rx10 := O.rep_ex xT.tk rxi
            generalize upd H9 TT (.tup [.int (i : Nat), y]) = H10 at xT X10 f10 k10 r10 m10 q10 rx10
            clear xT f9 k9 r9 m9 q9 x9 rxi nT
            -- made += [table.join(x, y) for y in (known[old:] if number < old else known)]
            refine ⟨_, rfl, ?_⟩
            refine enter (F := iList K _ _ _) (fun R hR => ?_)
            have core : ∀ (p : Addr) (k0 : Nat) (H11 : Hp), Ex H10 H11 → H11 p = some (.lst (vs.drop k0)) → (k0 = 0 ∨ (k0 = old ∧ i < old)) → R (Itl K p) H11 := by
              subst hR
              intro p k0 H11 x11 hp hk0 D nD
              have pD : p ≠ D := ne_of_none hp nD
              have X11 : Ex H H11 := X10.trans x11
              refine lc_list (K := K) (a := p) (xs := vs.drop k0) (fun j H12 => ∃ (acc : List V) (zsD : List c.α), Ex H11 H12 ∧ H12 D = some (.lst acc) ∧ H12 p = some (.lst (vs.drop k0)) ∧ Reps c H12 zsD acc ∧ zsD.length = j ∧ (∀ z ∈ zsD, ∃ u, Wd c.cnt u ∧ c.f u = z) ∧
                ∀ j' u v, j' < j → Wd c.cnt u → Wd c.cnt v → xs1[i]? = some (c.f u) → xs1[k0 + j']? = some (c.f v) → c.f (u ++ v) ∈ zsD)
                ⟨[], [], Ex.add nD, upd_same, by rw [upd_ne pD]; exact hp, .nil, rfl, fun z hz => (by cases hz), fun j' _ _ h => absurd h (Nat.not_lt_zero _)⟩ (fun j H12 _ ⟨_, _, _, _, h, _⟩ => SqL.of h) ?_ ?_
              · rintro j yj H12 hj ⟨acc, zsD, x12, hD, hp12, rD, lD, rzD, jD⟩
                have hjl : j < (vs.drop k0).length := (List.getElem?_eq_some_iff.mp hj).1
                have hvl : vs.length = xs1.length := kl
                rw [List.length_drop] at hjl
                have hjv : vs[k0 + j]? = some yj := by rw [List.getElem?_drop] at hj; exact hj
                obtain ⟨zj, hzj, rj⟩ := Paired.at r10 hjv
                obtain ⟨w0, hw0, ew0⟩ := rx6 zj (List.mem_of_getElem? hzj)
                have X12 : Ex H H12 := X11.trans x12
                refine ⟨rfl, _, rfl, t, dx, fs, rfl, X12.ins hIt, n3, _, rfl, _, rfl, t, _, _, u0, w0, rfl, O.is_ex X12 hI, hu0, hw0, ?_, ?_, fun v H13 x13 r13 => ?_⟩
                · rw [eu0]; exact O.rep_ex (x11.trans x12).tk rx10
                · rw [ew0]; exact O.rep_ex (x11.trans x12).tk rj
                · have tD : TupK H13 (upd H13 D (.lst (acc ++ [v]))) := (TupK.refl H13).mut fun vs e => by rw [x13.lst hD] at e; cases e
                  have la : acc.length = zsD.length := (Paired.length rD).symm
                  refine ⟨acc, x13.lst hD, by rw [la, lD, sizeLine_eq]; omega, acc ++ [v], zsD ++ [c.f (u0 ++ w0)], (x12.trans x13).mut nD, upd_same, by rw [upd_ne pD]; exact x13.lst hp12, Paired.app (Reps.mono O (x13.tk.trans tD) rD) (.cons (O.rep_ex tD r13) .nil), by rw [List.length_append, lD]; rfl, fun z hz => ?_, fun j' u v' hj' hu hv e1 e2 => ?_⟩
                  · rcases List.mem_append.mp hz with h | h
                    · exact rzD z h
                    · exact ⟨u0 ++ w0, hu0.app hw0, (List.mem_singleton.mp h).symm⟩
                  · by_cases e : j' = j
                    · subst e
                      rw [hzj] at e2
                      rw [hxi] at e1
                      cases e1
                      cases e2
                      rw [O.cong u u0 v' w0 hu hu0 hv hw0 eu0.symm ew0.symm]
                      simp
                    · exact List.mem_append_left _ (jD j' u v' (by omega) hu hv e1 e2)
              · rintro H12 ⟨acc, zsD, x12, hD, hp12, rD, lD, rzD, jD⟩
                have la : acc.length = zsD.length := (Paired.length rD).symm
                have l2 : ys2.length = zs2.length := (Paired.length q10).symm
                have hvl : vs.length = xs1.length := kl
                rw [List.length_drop] at lD jD
                have m12 := x12.lst (x11.lst m10)
                have q12 := Reps.mono O (x11.trans x12).tk q10
                have szi : i * 300 ≤ 300 * 300 := Nat.mul_le_mul_right _ (by omega)
                refine ⟨m2, D, ys2, acc, rfl, rfl, m12, hD, by rw [l2, la, lD, sizeLine_eq]; omega, ?_⟩
                have t13 : TupK H12 (upd H12 m2 (.lst (ys2 ++ acc))) := (TupK.refl H12).mut fun vs e => by rw [m12] at e; cases e
                have X12 : Ex H H12 := X11.trans x12
                have md : d ≠ m2 := fun e => by subst e; have := x12.dn (x11.dn f10); rw [m12] at this; unfold DN at this; cases this
                refine ⟨zs2 ++ zsD, ys2 ++ acc, some y, some (.int (i : Nat)), rfl, X12.mut nm20, by rw [upd_ne md]; exact x12.dn (x11.dn f10), by rw [upd_ne mk]; exact x12.lst (x11.lst k10), Reps.mono O ((x11.trans x12).tk.trans t13) r10, upd_same, Paired.app (Reps.mono O t13 q12) (Reps.mono O t13 rD),
                  by rw [List.length_append, lD, Nat.add_mul]; omega, fun z hz => (List.mem_append.mp hz).elim (rz9 z) (rzD z), fun i' j u v hi' hj hor hu hv e1 e2 => ?_⟩
                by_cases e : i' = i
                · subst e
                  rcases hk0 with rfl | ⟨rfl, hlt⟩
                  · exact List.mem_append_right _ (jD j u v (by omega) hu hv e1 (by rw [Nat.zero_add]; exact e2))
                  · have hj2 : k0 ≤ j := hor.elim (fun h => absurd hlt (by omega)) id
                    exact List.mem_append_right _ (jD (j - k0) u v (by omega) hu hv e1 (by rw [show k0 + (j - k0) = j by omega]; exact e2))
                · exact List.mem_append_left _ (j9 i' j u v (by omega) hj hor hu hv e1 e2)
            refine ⟨_, rfl, _, rfl, i, old, rfl, rfl, _, rfl, ite2 (fun lt => ?_) (fun ge => ?_)⟩
            · have lt := of_decide_eq_true lt
              refine ⟨_, rfl, _, rfl, (old : Int), rfl, kn, vs, rfl, SqL.of k10, fun p np => ?_⟩
              rw [cutV_drop vs (by have := p4.le; rw [kl, ets, List.length_append]; omega)]
              exact ⟨p, rfl, ⟨_, SqL.of upd_same⟩, core p old _ (Ex.add np) upd_same (.inr ⟨rfl, lt⟩)⟩
            · exact ⟨_, rfl, kn, rfl, ⟨_, SqL.of k10⟩, core kn 0 H10 (Ex.refl _) (by rw [List.drop_zero]; exact k10) (.inl rfl)⟩
          · rintro σ H9 ⟨zs2, ys2, v6, v8, rfl, x9, f9, k9, r9, m9, q9, l9, rz9, j9⟩
            have hvl : vs.length = xs1.length := kl
            -- old = len(known); more = any(x not in found for x in made)
            refine ⟨_, rfl, kn, vs, rfl, .inl (SqL.of k9), ?_⟩
            have fK9 : KeysV H9 kvs := FD.keys O f2 (by rw [hvs]; exact r9)
            have pbk : ∀ z y, c.rep H9 z y → ((∃ k, KeyV H9 k y ∧ k ∈ kvs.map (·.1)) ↔ z ∈ xs1) := fun z y r => by
              rw [f2]
              constructor
              · rintro ⟨k, h1, h2⟩
                rw [KeyV.det _ _ _ h1 (O.rep_key r)] at h2
                exact (key_mem O).mp h2
              · exact fun h => ⟨_, O.rep_key r, (key_mem O).mpr h⟩
            refine ⟨_, rfl, m2, ys2, (fun y => !decide (∃ k, KeyV H9 k y ∧ k ∈ kvs.map (·.1))), rfl, .inl m9, x9.tabG hT, fun H10 hT10 => ⟨fun y hy => ?_, ?_⟩⟩
            · have x10 : Ex H9 H10 := (Ex.refl H9).tabbed (x9.tabG hT) hT10
              obtain ⟨iy, hiy, ey⟩ := List.getElem_of_mem hy
              obtain ⟨z, _, rz⟩ := Paired.at q9 (i := iy) (y := y) (by rw [List.getElem?_eq_getElem hiy, ey])
              refine ⟨d, kvs, c.key z, rfl, x10.dn f9, x10.keys fK9, x10.key (O.rep_key rz), O.dep z, ?_⟩
              show (!decide _) = !decide _
              congr 1
              rw [decide_eq_decide, pbk z y rz, f2, key_mem O]
            · have x10 : Ex H9 H10 := (Ex.refl H9).tabbed (x9.tabG hT) hT10
              have anyT : (ys2.any fun y => !decide (∃ k, KeyV H9 k y ∧ k ∈ kvs.map (·.1))) = true ↔ ∃ z ∈ zs2, z ∉ xs1 := by
                rw [List.any_eq_true]
                constructor
                · rintro ⟨y, hy, e⟩
                  obtain ⟨iy, hiy, ey⟩ := List.getElem_of_mem hy
                  obtain ⟨z, hz, rz⟩ := Paired.at q9 (i := iy) (y := y) (by rw [List.getElem?_eq_getElem hiy, ey])
                  refine ⟨z, List.mem_of_getElem? hz, fun hin => ?_⟩
                  rw [decide_eq_true ((pbk z y rz).mpr hin)] at e
                  cases e
                · rintro ⟨z, hz, hn⟩
                  obtain ⟨iz, hiz, ez⟩ := List.getElem_of_mem hz
                  obtain ⟨y, hy, rz⟩ := Paired.at' q9 (i := iz) (x := z) (by rw [List.getElem?_eq_getElem hiz, ez])
                  refine ⟨y, List.mem_of_getElem? hy, ?_⟩
                  rw [decide_eq_false fun h => hn ((pbk z y rz).mp h)]
                  rfl
              have hpos : 0 < xs1.length := List.length_pos_of_mem ((mem6 _).mpr (.inl p4.emp))
              have hge : xs.length ≤ xs1.length := by rw [ets, List.length_append]; omega
              refine ⟨2 * (301 - xs1.length) + (if xs1.length = 0 then 1 else 0), ?_, xs1, zs2, m2, xs1.length, _, v6, _, v8, v10, v11, by rw [← hvl]; rfl, x9.trans x10, nm20, ⟨kvs, x10.dn f9, f2, by rw [hvs]; exact Reps.mono O x10.tk r9⟩, ⟨ys2, x10.lst m9, Reps.mono O x10.tk q9⟩, ?_, rfl⟩
              · rw [if_neg (by omega)]
                by_cases h0 : old = 0
                · rw [if_pos h0]; omega
                · rw [if_neg h0]
                  have : xs.length < xs1.length := by
                    rcases p4.mo with h | h
                    · exact absurd h h0
                    · obtain ⟨z, hz, hn⟩ := h rfl
                      have hz1 : z ∈ xs1 := (mem6 z).mpr (.inr hz)
                      rw [ets] at hz1 ⊢
                      rcases List.mem_append.mp hz1 with h | h
                      · exact absurd h hn
                      · have := List.length_pos_of_mem h
                        rw [List.length_append]; omega
                  have := p4.small
                  omega
              · exact { nd := nd5, rx := rx6, rz := rz9, emp := (mem6 _).mpr (.inl p4.emp), let_ := fun a ha => .inl ((mem6 _).mpr (p4.let_ a ha)), le := Nat.le_refl _,
                        joins := fun i j u v hi hj hu hv e1 e2 => by
                          by_cases h : i < old ∧ j < old
                          · have hle := p4.le
                            rw [ets, List.getElem?_append_left (by omega)] at e1 e2
                            exact .inl ((mem6 _).mpr (p4.joins i j u v h.1 h.2 hu hv e1 e2))
                          · exact .inr (j9 i j u v (by rw [hvl]; exact hi) hj (by omega) hu hv e1 e2),
                        small := small, szs := by have : vs.length * 300 ≤ 300 * 300 := Nat.mul_le_mul_right _ (by omega); omega, mo := .inr fun h => anyT.mp h,
                        fin := fun h => ⟨rfl, fun z hz => Classical.byContradiction fun hn => by rw [anyT.mpr ⟨z, hz, hn⟩] at h; cases h⟩ }
end
end Tw
set_option maxRecDepth 100000
set_option maxHeartbeats 2000000
/-! tabled, made_reader. -/
namespace Tw
open PySem PySem.Spec PyProof.Rows L2
/-- a comprehension over enumerate(list) -/
theorem lc_enum {K : PySem.W.Frag} {a : Addr} {xs : List V} {g : TG} {tt : TT} {te : TE} {vs : List Nat} {σ : L2.St} {H1 : Hp} {D : Addr} {Qd : Hp → Prop} (Pv : Nat → Hp → Prop) (h0 : Pv 0 (upd H1 D (.lst []))) (hl : ∀ i H, i ≤ xs.length → Pv i H → SqL K H a xs)
    (hs : ∀ (i : Nat) (x : V) (T : Addr) (H : Hp), xs[i]? = some x → Pv i H → H T = none → g (.ref T) (wipe σ vs) (upd H T (.tup [.int (i : Nat), x])) fun σ2 H2 => wipe σ2 vs = wipe σ vs ∧ tt σ2 H2 fun b H3 =>
      if b = true then te σ2 H3 fun y H4 => ∃ acc, H4 D = some (.lst acc) ∧ acc.length < sizeLine ∧ Pv (i + 1) (upd H4 D (.lst (acc ++ [y]))) else Pv (i + 1) H3) (hd : ∀ H, Pv xs.length H → Qd H) :
    ∃ W : Nat → Nat → Hp → Prop, (∃ m, W 0 m (upd H1 D (.lst []))) ∧ ∀ i m H, W i m H →
      ((Ite K a).stop i H ∧ Qd H) ∨ ((Ite K a).go i H ∧ ∃ Nx : Hp → Prop, (∀ H', Nx H' → ∃ m', m' < m ∧ W (i + 1) m' H') ∧ ∀ x H', (Ite K a).yld i H x H' → g x (wipe σ vs) H' fun σ2 H2 => wipe σ2 vs = wipe σ vs ∧ tt σ2 H2 fun b H3 =>
        if b = true then te σ2 H3 fun y H4 => ∃ acc, H4 D = some (.lst acc) ∧ acc.length < sizeLine ∧ Nx (upd H4 D (.lst (acc ++ [y]))) else Nx H3) := by
  refine ⟨fun i m H => m = xs.length - i ∧ i ≤ xs.length ∧ Pv i H, ⟨xs.length, by simp, Nat.zero_le _, h0⟩, ?_⟩
  rintro i m H ⟨rfl, hi, p⟩
  have qx := hl i H hi p
  by_cases hlt : i < xs.length
  · refine .inr ⟨⟨xs, xs[i], qx, List.getElem?_eq_getElem hlt⟩, Pv (i + 1), fun H' p' => ⟨xs.length - (i + 1), by omega, rfl, hlt, p'⟩, fun v H' y => ?_⟩
    obtain ⟨T, x', rfl, hT, rfl, f1⟩ := y
    exact hs i x' T H (f1 xs qx) p hT
  · have e : i = xs.length := by omega
    subst e
    exact .inl ⟨⟨xs, qx, Nat.le_refl _⟩, hd H p⟩

/-! ### the numbered reader of a list of values -/
section
open Classical
noncomputable def pos {α : Type} (xs : List α) (z : α) : Nat := xs.findIdx fun y => decide (y = z)
theorem pos_at {α : Type} {xs : List α} {z : α} (h : z ∈ xs) : xs[pos xs z]? = some z := by
  have hlt : pos xs z < xs.length := List.findIdx_lt_length_of_exists ⟨z, h, by simp⟩
  have h2 := List.findIdx_getElem (w := hlt)
  rw [List.getElem?_eq_getElem hlt]
  exact congrArg some (of_decide_eq_true h2)
noncomputable def wdOf (c : Cl) (x : c.α) : List Nat := if h : ∃ u, Wd c.cnt u ∧ c.f u = x then h.choose else []
theorem wdOf_ok {c : Cl} {x : c.α} (h : ∃ u, Wd c.cnt u ∧ c.f u = x) : Wd c.cnt (wdOf c x) ∧ c.f (wdOf c x) = x := by
  unfold wdOf
  rw [dif_pos h]
  exact h.choose_spec
noncomputable def accB (c : Cl) (xs : List c.α) (i : Nat) : Bool := match xs[i]? with
  | some x => c.L (wdOf c x)
  | none => false
noncomputable def tabR (c : Cl) (xs : List c.α) : Rd where
  emp := pos xs (c.f [])
  letters := (List.range c.cnt).map fun a => pos xs (c.f [a])
  mul := xs.map fun x => xs.map fun y => pos xs (c.f (wdOf c x ++ wdOf c y))
  acc := (List.range xs.length).filter (accB c xs)
theorem tabR_ok {P : Program} {w : World} {K : PySem.W.Frag} {mg : Str → Option Value} {base : Heap} {lv : Nat} {c : Cl} (O : ClOkL P w K mg base lv c) {xs : List c.α} (F : Found c.f c.cnt xs) : RTab c.f c.cnt c.L xs (tabR c xs) where
  emp := pos_at (F.all_ [] Wd.nil)
  lenL := by simp [tabR]
  let_ := fun a ha => ⟨pos xs (c.f [a]), by simp only [tabR]; rw [List.getElem?_map, List.getElem?_range ha]; rfl, pos_at (F.all_ [a] (Wd.one ha))⟩
  len := by simp [tabR]
  sq := fun row hr => by
    obtain ⟨x, _, rfl⟩ := List.mem_map.mp hr
    simp
  mul := fun i j u v hu hv e1 e2 => by
    have h1 := wdOf_ok (F.some_ _ (List.mem_of_getElem? e1))
    have h2 := wdOf_ok (F.some_ _ (List.mem_of_getElem? e2))
    have e : (tabR c xs).at i j = pos xs (c.f (wdOf c (c.f u) ++ wdOf c (c.f v))) := by
      unfold Rd.at tabR
      simp only
      rw [List.getElem?_map, e1]
      simp only [Option.map_some, Option.getD_some]
      rw [List.getElem?_map, e2]
      rfl
    rw [e, O.cong _ u _ v h1.1 hu h2.1 hv h1.2 h2.2]
    exact pos_at (F.all_ _ (hu.app hv))
  acc := fun i u hu e => by
    have h1 := wdOf_ok (F.some_ _ (List.mem_of_getElem? e))
    have hi := (List.getElem?_eq_some_iff.mp e).1
    unfold tabR
    simp only [List.mem_filter, List.mem_range, accB, e]
    rw [O.acong _ u h1.1 hu h1.2]
    exact ⟨fun h => h.2, fun h => ⟨hi, h⟩⟩
end

section
variable {P : Program} {w : World} {K : PySem.W.Frag} {mg : Str → Option Value} {base : Heap}
/-- the dict of numbers -/
def ND (c : Cl) (w : World) (H : Hp) (d : Addr) (xs : List c.α) : Prop := ∃ kvs : List RowV, H d = some (DN w d kvs) ∧ kvs.map (·.1) = xs.map c.key ∧ Reps c H xs (kvs.map (·.2.1)) ∧ ∀ (i : Nat) (r : RowV), kvs[i]? = some r → r.2.2 = V.int (i : Nat)
theorem ND.mono {lv : Nat} {c : Cl} {H H' : Hp} {d : Addr} {xs : List c.α} (O : ClOkL P w K mg base lv c) (x : Ex H H') (h : ND c w H d xs) : ND c w H' d xs := by
  obtain ⟨kvs, h1, h2, h3, h4⟩ := h
  exact ⟨kvs, x.dn h1, h2, Reps.mono O x.tk h3, h4⟩
/-- numbers[v], v the value z -/
theorem ND.item {lv : Nat} {c : Cl} {H : Hp} {d : Addr} {xs : List c.α} {z : c.α} {v : V} {Q : VK} (O : ClOkL P w K mg base lv c) (h : ND c w H d xs) (hz : z ∈ xs) (r : c.rep H z v) (q : Q (.int (pos xs z : Nat)) H) : rItemN w (.ref d) v H Q := by
  obtain ⟨kvs, h1, h2, h3, h4⟩ := h
  have hp := pos_at hz
  have e1 : (kvs.map (·.1))[pos xs z]? = some (c.key z) := by rw [h2, List.getElem?_map, hp]; rfl
  rw [List.getElem?_map] at e1
  cases e : kvs[pos xs z]? with
  | none => rw [e] at e1; cases e1
  | some row =>
    rw [e] at e1
    have e2 : row.1 = c.key z := Option.some.inj e1
    refine ⟨d, kvs, c.key z, row.2.1, .int (pos xs z : Nat), rfl, h1, FD.keys O h2 h3, O.rep_key r, O.dep z, ?_, q⟩
    have e3 := h4 _ _ e
    have : row = (c.key z, row.2.1, .int (pos xs z : Nat)) := by
      obtain ⟨a, b, cc⟩ := row
      simp only at e2 e3 ⊢
      rw [e2, e3]
    rw [← this]
    exact List.mem_of_getElem? e
def spTabled (c : Cl) : Sp := fun vs H Q _ => ∃ t l xs ws, vs = [.ref t, .int (c.cnt : Int), .ref l] ∧ c.Is H t ∧ c.cnt ≤ 4096 ∧ Found c.f c.cnt xs ∧ xs.length ≤ 300 ∧ H l = some (.lst ws) ∧ Reps c H xs ws ∧
  ∀ H' a R, Ex H H' → RdrV H' a R → RTab c.f c.cnt c.L xs R → Q (.ref a) H'
abbrev nTab : List Str := ["table", "count", "found", "numbers", "number", "x", "letters", "mul", "accepted", "a", "y"]
theorem scTab : FnScope nTab ["table", "count", "found"] (defScope s_tabled) := ⟨rfl, rfl, rfl, by decide +kernel, rfl, by decide +kernel, by decide +kernel⟩
theorem ok_tabled (T : Tx w K mg) (c : Cl) (O : ClOk P w K mg base c) : Gd P w K mg base CX0 (LV + 1) (He.ga K "tabled") ["table", "count", "found"] (spTabled c) := by
  obtain ⟨fd, F⟩ := T.f_tabled
  obtain ⟨gE, kE, GE⟩ := O.mE
  obtain ⟨gL, kL, GL⟩ := O.mL
  obtain ⟨gJ, kJ, GJ⟩ := O.mJ
  obtain ⟨gA, kA, GA⟩ := O.mA
  refine ⟨fd, F.ok scTab (fun vs H Q E h => ?_) (fun cdv A outer s H vs Q E hr h => ?_), F.bindsN fun _ _ _ _ _ _ us hl => match us, hl with | [_, _, _], _ => rfl, F.kp⟩
  · obtain ⟨t, l, xs, ws, rfl, _⟩ := h
    rfl
  · obtain ⟨t, l, xs, ws, rfl, hI, hc, hF, hsm, hl, hr0, q⟩ := h
    have hu64 := hr.units
    refine ⟨_, PSs.nox (pss_cons (ps_set (i := 3) scTab.nd rfl (.inr rfl) (pe_newNW (w := w)))
      (pss_cons (ps_for PassesOwn.never rfl (pi_enum rfl T.m_enumerate (pa_cons (pv 2) pa_nil)) (pg_tup rfl (pgs_cons (pg_name (i := 4) scTab.nd rfl (.inl rfl)) (pgs_cons (pg_name (i := 5) scTab.nd rfl (.inl rfl)) pgs_nil)))
          (pss_one (ps_asg (pv 4) (pg_sub (pv 3) (pv 5) (set_dNW (w := w) hu64)))))
      (pss_cons (ps_set (i := 6) scTab.nd rfl (.inl rfl) (pe_callTy call_tuple_of rfl T.m_tuple (by decide +kernel) (pa_cons
        (pe_lc (own := [("a", 9)]) (g := gName 9) (tt := tYes) rfl scTab.nd (pi_range1 rfl T.m_range (pa_cons (pv 1) pa_nil)) (blkOk_by (own := [("a", 9)]) (N := nTab) (sc := defScope s_tabled) (by decide +kernel))
          (fun _ _ _ _ _ => pg_name (i := 9) scTab.nd rfl (Or.inl rfl)) (fun _ _ _ _ _ => pts_nil) (fun _ _ _ _ _ => pe_itemNW (w := w) hu64 (pv 3) (pe_mG (pv 0) O.cls kL GL hr pass0 (pa_cons (pv 9) pa_nil)) (fun _ _ => rfl))) pa_nil)))
      (pss_cons (ps_set (i := 7) scTab.nd rfl (.inl rfl) (pe_callTy call_tuple_of rfl T.m_tuple (by decide +kernel) (pa_cons
        (pe_lc (own := [("x", 5)]) (g := gName 5) (tt := tYes) rfl scTab.nd (pi_list (pv 2)) (blkOk_by (own := [("x", 5)]) (N := nTab) (sc := defScope s_tabled) (by decide +kernel))
          (fun _ _ _ _ _ => pg_name (i := 5) scTab.nd rfl (Or.inr rfl)) (fun _ _ _ _ _ => pts_nil)
          (fun _ _ _ _ _ => pe_callTy (T := "tuple") (call_tupK (K := K)) rfl T.m_tuple (by decide +kernel) (pa_cons
            (pe_lc (own := [("y", 10)]) (g := gName 10) (tt := tYes) rfl scTab.nd (pi_listK (K := K) (pv 2)) (blkOk_by (own := [("y", 10)]) (N := nTab) (by rfl))
              (fun _ _ _ _ _ => pg_name (i := 10) scTab.nd rfl (Or.inl rfl)) (fun _ _ _ _ _ => pts_nil)
              (fun _ _ _ _ _ => pe_itemNW (w := w) hu64 (pv 3) (pe_mG (pv 0) O.cls kJ GJ hr pass0 (pa_cons (pv 5) (pa_cons (pv 10) pa_nil))) (fun _ _ => rfl))) pa_nil))) pa_nil)))
      (pss_cons (ps_set (i := 8) scTab.nd rfl (.inl rfl) (pe_callTy call_tuple_of rfl T.m_tuple (by decide +kernel) (pa_cons
        (pe_lc (own := [("number", 4), ("x", 5)]) (g := gTup K 2 (gCons (gName 4) (gCons (gName 5) gNil))) rfl scTab.nd (pi_enum rfl T.m_enumerate (pa_cons (pv 2) pa_nil)) (blkOk_by (own := [("number", 4), ("x", 5)]) (N := nTab) (sc := defScope s_tabled) (by decide +kernel))
          (fun _ _ _ _ _ => pg_tupK (K := K) rfl (pgs_cons (pg_name (i := 4) scTab.nd rfl (.inl rfl)) (pgs_cons (pg_name (i := 5) scTab.nd rfl (.inl rfl)) pgs_nil)))
          (fun _ _ _ _ _ => pts_one (pt_val (pe_mG (pv 0) O.cls kA GA hr pass0 (pa_cons (pv 5) pa_nil)))) (fun _ _ _ _ _ => pv 4)) pa_nil)))
      (pss_one (ps_ret (pe_tup (pa_cons (pe_itemNW (w := w) hu64 (pv 3) (pe_mG0 (pv 0) O.cls kE GE hr pass0) (fun _ _ => rfl)) (pa_cons (pv 6) (pa_cons (pv 7) (pa_cons (pv 8) pa_nil)))))))))))), ?_⟩
    obtain ⟨dx, fs, hIt, n1, n2, n3, n4⟩ := O.ins hI
    have hwl : ws.length = xs.length := (Paired.length hr0).symm
    -- numbers = {}; for number, x in enumerate(found): numbers[x] = number
    intro d nd
    have dl : d ≠ l := fun e => by subst e; rw [hl] at nd; cases nd
    refine ⟨_, rfl, l, ws, rfl, SqL.of ((Ex.add nd).lst hl), for_enum (K := K) (a := l) (xs := ws) (fun i σ H2 => ∃ v4 v5, σ = [some (.ref t), some (.int (c.cnt : Int)), some (.ref l), some (.ref d), v4, v5, none, none, none, none, none] ∧
      Ex H H2 ∧ ∃ kvs : List RowV, H2 d = some (DN w d kvs) ∧ kvs.map (·.1) = (xs.take i).map c.key ∧ Reps c H2 (xs.take i) (kvs.map (·.2.1)) ∧ ∀ (j : Nat) (r : RowV), kvs[j]? = some r → r.2.2 = V.int (j : Nat))
      ⟨none, none, rfl, Ex.add nd, [], upd_same, by simp, by rw [List.take_zero]; exact .nil, fun j r h => by simp at h⟩ (fun i σ H2 _ ⟨_, _, _, x, _⟩ => SqL.of (x.lst hl)) ?_ ?_⟩
    · rintro i y TT σ H2 hi ⟨v4, v5, rfl, x2, kvs, f1, f2, f3, f4⟩ nT
      obtain ⟨z, hz, rz⟩ := Paired.at (Reps.mono O x2.tk hr0) hi
      have hil : i < xs.length := (List.getElem?_eq_some_iff.mp hz).1
      have xT : Ex H2 (upd H2 TT (.tup [.int (i : Nat), y])) := Ex.add nT
      have hkl : kvs.length = i := by
        have := congrArg List.length f2
        rw [List.length_map, List.length_map, List.length_take] at this
        omega
      have f1T := xT.dn f1
      have f3T := Reps.mono O xT.tk f3
      have rzT := O.rep_ex xT.tk rz
      have nin : c.key z ∉ kvs.map (·.1) := fun h => by
        rw [f2] at h
        have hzt := (key_mem O).mp h
        obtain ⟨i', hi', e⟩ := List.getElem_of_mem hzt
        have e2 : (xs.take i)[i']? = some z := by rw [List.getElem?_eq_getElem hi', e]
        rw [List.length_take] at hi'
        rw [List.getElem?_take_of_lt (by omega)] at e2
        have := nodup_ix hF.nd e2 hz
        omega
      refine ⟨TT, _, rfl, sqT_of upd_same, rfl, _, _, rfl, _, _, rfl, rfl, ?_⟩
      refine ⟨_, rfl, _, rfl, _, rfl, d, kvs, c.key z, rfl, f1T, FD.keys O f2 f3T, O.rep_key rzT, O.dep z, nin, by rw [hkl, sizeLine_eq]; omega, ?_⟩
      have t6 : TupK (upd H2 TT (.tup [.int (i : Nat), y])) (upd (upd H2 TT (.tup [.int (i : Nat), y])) d (DN w d (kvs ++ [(c.key z, y, V.int (i : Nat))]))) := (TupK.refl _).mut fun vs e => by rw [f1T] at e; unfold DN at e; cases e
      have et : xs.take (i + 1) = xs.take i ++ [z] := by rw [List.take_add_one, hz]; rfl
      refine ⟨some (.int (i : Nat)), some y, rfl, (x2.trans xT).mut nd, _, upd_same, by rw [et, List.map_append, List.map_append, f2]; rfl, ?_, fun j r hj => ?_⟩
      · rw [et, List.map_append]
        exact Paired.app (Reps.mono O t6 f3T) (.cons (O.rep_ex t6 rzT) .nil)
      · by_cases h : j < kvs.length
        · rw [List.getElem?_append_left h] at hj
          exact f4 j r hj
        · rw [List.getElem?_append_right (by omega)] at hj
          have h0 : j - kvs.length = 0 := by
            have := (List.getElem?_eq_some_iff.mp hj).1
            simp at this
            omega
          rw [h0] at hj
          have e : j = i := by omega
          subst e
          have e3 := Option.some.inj hj
          rw [← e3]
    · rintro σ H2 ⟨v4, v5, rfl, x2, kvs, f1, f2, f3, f4⟩
      rw [hwl, List.take_length] at f2 f3
      have nd2 : ND c w H2 d xs := ⟨kvs, f1, f2, f3, f4⟩
      clear f1 f2 f3 f4
      -- letters
      refine ⟨_, rfl, (c.cnt : Int), rfl, by omega, by omega, fun D nD => ?_⟩
      refine lc_rangeN (n := c.cnt) (by simp) (fun i H3 => Ex H2 H3 ∧ H3 D = some (.lst (nV ((List.range i).map fun a => pos xs (c.f [a]))))) ⟨Ex.add nD, upd_same⟩ ?_ ?_
      · rintro i H3 hi ⟨x3, hD⟩
        refine ⟨rfl, _, rfl, _, rfl, t, dx, fs, rfl, (x2.trans x3).ins hIt, n2, _, rfl, t, i, rfl, O.is_ex (x2.trans x3) hI, hi, fun v H4 x4 r => ?_⟩
        refine ND.item O ((nd2.mono O x3).mono O x4) (hF.all_ [i] (Wd.one hi)) r ⟨_, x4.lst hD, by rw [List.length_map, List.length_map, List.length_range, sizeLine_eq]; omega, (x3.trans x4).mut nD, ?_⟩
        rw [upd_same, List.range_succ, List.map_append, nV, nV, List.map_append]
        rfl
      rintro H3 ⟨x3, hD⟩
      refine ⟨D, _, rfl, .inl ⟨SqL.of hD, fun lt nlt => ?_⟩⟩
      have X4 : Ex H (upd H3 lt (.tup (nV ((List.range c.cnt).map fun a => pos xs (c.f [a]))))) := (x2.trans x3).new nlt
      have nd4 := (nd2.mono O x3).mono O (Ex.add (o := .tup (nV ((List.range c.cnt).map fun a => pos xs (c.f [a])))) nlt)
      have lt4 : upd H3 lt (.tup (nV ((List.range c.cnt).map fun a => pos xs (c.f [a])))) lt = some (.tup (nV (tabR c xs).letters)) := upd_same
      generalize upd H3 lt (.tup (nV ((List.range c.cnt).map fun a => pos xs (c.f [a])))) = H4 at X4 nd4 lt4
      clear nd2 x2 x3 hD nD nlt
      -- mul
      have rowOf : ∀ x, (fun y => pos xs (c.f (wdOf c x ++ wdOf c y))) = fun y => pos xs (c.f (wdOf c x ++ wdOf c y)) := fun _ => rfl
      refine ⟨_, rfl, l, rfl, ⟨_, SqL.of (X4.lst hl)⟩, fun D nD => ?_⟩
      refine lc_list (K := K) (a := l) (xs := ws) (fun i H5 => Ex H4 H5 ∧ ∃ as : List Addr, H5 D = some (.lst (as.map V.ref)) ∧ RowsAt H5 as ((xs.take i).map fun x => xs.map fun y => pos xs (c.f (wdOf c x ++ wdOf c y)))) ⟨Ex.add nD, [], upd_same, by simp, fun i a r h => by simp at h⟩ (fun i H5 _ h => SqL.of ((X4.trans h.1).lst hl)) ?_ ?_
      · rintro i y H5 hi ⟨x5, as, hD, hrows⟩
        obtain ⟨z, hz, rz⟩ := Paired.at (Reps.mono O (X4.trans x5).tk hr0) hi
        have hil : i < xs.length := (List.getElem?_eq_some_iff.mp hz).1
        obtain ⟨hw1, hw2⟩ := wdOf_ok (hF.some_ z (List.mem_of_getElem? hz))
        refine ⟨rfl, _, rfl, l, rfl, ⟨_, SqL.of ((X4.trans x5).lst hl)⟩, fun D2 nD2 => ?_⟩
        refine lc_list (K := K) (a := l) (xs := ws) (fun j H6 => Ex H5 H6 ∧ H6 D2 = some (.lst (nV ((xs.take j).map fun y => pos xs (c.f (wdOf c z ++ wdOf c y)))))) ⟨Ex.add nD2, upd_same⟩ (fun j H6 _ h => SqL.of (((X4.trans x5).trans h.1).lst hl)) ?_ ?_
        · rintro j y2 H6 hj ⟨x6, hD2⟩
          have X6 := (X4.trans x5).trans x6
          obtain ⟨z2, hz2, rz2⟩ := Paired.at (Reps.mono O X6.tk hr0) hj
          obtain ⟨hv1, hv2⟩ := wdOf_ok (hF.some_ z2 (List.mem_of_getElem? hz2))
          refine ⟨rfl, _, rfl, _, rfl, t, dx, fs, rfl, X6.ins hIt, n3, _, rfl, _, rfl, t, _, _, wdOf c z, wdOf c z2, rfl, O.is_ex X6 hI, hw1, hv1, by rw [hw2]; exact O.rep_ex x6.tk rz, by rw [hv2]; exact rz2, fun v H7 x7 r => ?_⟩
          refine ND.item O (((nd4.mono O x5).mono O x6).mono O x7) (hF.all_ _ (hw1.app hv1)) r ⟨_, x7.lst hD2, by rw [List.length_map, List.length_map, List.length_take, sizeLine_eq]; omega, (x6.trans x7).mut nD2, ?_⟩
          rw [upd_same, List.take_add_one, hz2, List.map_append, nV, nV, List.map_append]
          rfl
        · rintro H6 ⟨x6, hD2⟩
          rw [hwl, List.take_length] at hD2
          refine ⟨D2, _, rfl, .inl ⟨SqL.of hD2, fun rt nrt => ⟨_, ((x6.new nrt).lst hD), ?_, ?_⟩⟩⟩
          · rw [List.length_map, hrows.1, List.length_map, List.length_take, sizeLine_eq]; omega
          · have x7 : Ex H5 (upd H6 rt (.tup (nV (xs.map fun y => pos xs (c.f (wdOf c z ++ wdOf c y)))))) := x6.new nrt
            have hrt : upd H6 rt (.tup (nV (xs.map fun y => pos xs (c.f (wdOf c z ++ wdOf c y))))) rt = some (.tup (nV (xs.map fun y => pos xs (c.f (wdOf c z ++ wdOf c y))))) := upd_same
            generalize upd H6 rt (.tup (nV (xs.map fun y => pos xs (c.f (wdOf c z ++ wdOf c y))))) = H7 at x7 hrt
            have t8 : TupK H7 (upd H7 D (.lst (as.map V.ref ++ [.ref rt]))) := (TupK.refl H7).mut fun vs e => by rw [x7.lst hD] at e; cases e
            refine ⟨(x5.trans x7).mut nD, as ++ [rt], by rw [upd_same, List.map_append]; rfl, ?_, fun i' a r e1 e2 => ?_⟩
            · rw [List.length_append, hrows.1, List.length_map, List.length_map, List.length_take, List.length_take]
              show min i xs.length + 1 = _
              omega
            · rw [List.take_add_one, hz, List.map_append] at e2
              have la : as.length = ((xs.take i).map fun x => xs.map fun y => pos xs (c.f (wdOf c x ++ wdOf c y))).length := hrows.1
              by_cases h : i' < as.length
              · rw [List.getElem?_append_left h] at e1
                rw [List.getElem?_append_left (by omega)] at e2
                exact t8 _ _ (x7.tup (hrows.2 i' a r e1 e2))
              · rw [List.getElem?_append_right (by omega)] at e1
                rw [List.getElem?_append_right (by omega)] at e2
                have h0 : i' - as.length = 0 := by
                  have := (List.getElem?_eq_some_iff.mp e1).1
                  simp at this
                  omega
                rw [h0] at e1
                rw [← la, h0] at e2
                have e1 := Option.some.inj e1
                have e2 := Option.some.inj e2
                rw [← e1, ← e2]
                exact t8 _ _ hrt
      rintro H5 ⟨x5, as, hD, hrows⟩
      rw [hwl, List.take_length] at hrows
      refine ⟨D, _, rfl, .inl ⟨SqL.of hD, fun mt nmt => ?_⟩⟩
      have x6 : Ex H4 (upd H5 mt (.tup (as.map V.ref))) := x5.new nmt
      have hmt : upd H5 mt (.tup (as.map V.ref)) mt = some (.tup (as.map V.ref)) := upd_same
      have hrows6 : RowsAt (upd H5 mt (.tup (as.map V.ref))) as (tabR c xs).mul := (Ex.add nmt).rows hrows
      generalize upd H5 mt (.tup (as.map V.ref)) = H6 at x6 hmt hrows6
      have X6 := X4.trans x6
      have nd6 := nd4.mono O x6
      have lt6 := x6.tup lt4
      clear hD nD nmt hrows x5
      -- accepted
      refine ⟨_, rfl, l, ws, rfl, SqL.of (X6.lst hl), fun D nD => ?_⟩
      refine lc_enum (K := K) (a := l) (xs := ws) (fun i H7 => Ex H6 H7 ∧ H7 D = some (.lst (nV ((List.range i).filter (accB c xs))))) ⟨Ex.add nD, upd_same⟩ (fun i H7 _ h => SqL.of ((X6.trans h.1).lst hl)) ?_ ?_
      · rintro i y TT H7 hi ⟨x7, hD⟩ nT
        have xT : Ex H7 (upd H7 TT (.tup [.int (i : Nat), y])) := Ex.add nT
        have X8 := (X6.trans x7).trans xT
        obtain ⟨z, hz, rz⟩ := Paired.at (Reps.mono O X8.tk hr0) hi
        obtain ⟨hw1, hw2⟩ := wdOf_ok (hF.some_ z (List.mem_of_getElem? hz))
        refine ⟨TT, _, rfl, sqT_of upd_same, rfl, _, _, rfl, _, _, rfl, rfl, rfl, ?_⟩
        refine ⟨_, rfl, t, dx, fs, rfl, X8.ins hIt, n4, _, rfl, t, _, wdOf c z, rfl, O.is_ex X8 hI, hw1, by rw [hw2]; exact rz, fun H9 x9 => ⟨_, rfl, ?_⟩⟩
        have hD9 := x9.lst (xT.lst hD)
        have step : (List.range (i + 1)).filter (accB c xs) = (List.range i).filter (accB c xs) ++ (if c.L (wdOf c z) = true then [i] else []) := by
          rw [List.range_succ, List.filter_append]
          congr 1
          simp only [List.filter_cons, List.filter_nil, accB, hz]
        cases e : c.L (wdOf c z) with
        | true =>
          refine iteT ⟨_, rfl, _, hD9, ?_, ((x7.trans xT).trans x9).mut nD, ?_⟩
          · rw [List.length_map, sizeLine_eq]
            have := List.length_filter_le (accB c xs) (List.range i)
            rw [List.length_range] at this
            have := (List.getElem?_eq_some_iff.mp hz).1
            omega
          · rw [upd_same, step, e, nV, nV, List.map_append]
            rfl
        | false =>
          refine iteF ⟨(x7.trans xT).trans x9, ?_⟩
          rw [step, e]
          simpa using hD9
      rintro H7 ⟨x7, hD⟩
      rw [hwl] at hD
      refine ⟨D, _, rfl, .inl ⟨SqL.of hD, fun ac nac => ?_⟩⟩
      have x8 : Ex H6 (upd H7 ac (.tup (nV ((List.range xs.length).filter (accB c xs))))) := x7.new nac
      have hac : upd H7 ac (.tup (nV ((List.range xs.length).filter (accB c xs)))) ac = some (.tup (nV (tabR c xs).acc)) := upd_same
      generalize upd H7 ac (.tup (nV ((List.range xs.length).filter (accB c xs)))) = H8 at x8 hac
      have X8 := X6.trans x8
      -- return (numbers[table.empty()], letters, mul, accepted)
      refine ⟨_, rfl, _, rfl, t, dx, fs, rfl, X8.ins hIt, n1, t, rfl, O.is_ex X8 hI, fun v H9 x9 r => ?_⟩
      refine ND.item O ((nd6.mono O x8).mono O x9) (hF.all_ [] Wd.nil) r ⟨_, rfl, _, rfl, _, rfl, (by show 4 ≤ sizeLine; decide), fun p np => ?_⟩
      have xp : Ex H9 (upd H9 p (.tup [.int (pos xs (c.f []) : Nat), .ref lt, .ref mt, .ref ac])) := Ex.add np
      have x69 := (x8.trans x9).trans xp
      exact q _ p (tabR c xs) (X6.trans x69) ⟨lt, mt, ac, as, upd_same, x69.tup lt6, x69.tup hmt, x69.rows hrows6, (x9.trans xp).tup hac⟩ (tabR_ok O hF)
end
end Tw
set_option maxRecDepth 100000
set_option maxHeartbeats 2000000
/-! made_reader, numbered, denied, joint. -/
namespace Tw
open PySem PySem.Spec PyProof.Rows L2
section
variable {P : Program} {w : World} {K : PySem.W.Frag} {mg : Str → Option Value} {base : Heap}
/-- the error's class -/
abbrev CM (K : PySem.W.Frag) : Addr := He.ga K "TooManyValues"
structure Exc (K : PySem.W.Frag) : Prop where
  xC : PySem.W.excIn K (CM K) He.veBase "ValueError.__new__" = true
  kC : PySem.W.keepIn K (.ref (CM K)) = true
  sC : PySem.W.subIn K (.ref (CM K)) (.type "BaseException") = some true
  tC : PySem.W.typeIn K (.ref (CM K)) = some (.type "type")
def spMade (K : PySem.W.Frag) (c : Cl) : Sp := fun vs H Q E => ∃ t, vs = [.ref t, .int (c.cnt : Int)] ∧ c.Is H t ∧ GxR.TabG H (cQ K).2 ∧ c.cnt ≤ 4096 ∧ (∀ H', Ex H H' → Many c.f c.cnt → E (.ref (CM K)) none H') ∧
  ∀ H' a R, Ex H H' → RdrV H' a R → RInv R c.cnt c.L → (∃ xs, Found c.f c.cnt xs ∧ R.m = xs.length) → Q (.ref a) H'
theorem scMade : FnScope ["table", "count", "found"] ["table", "count"] (defScope s_made_reader) := ⟨rfl, rfl, rfl, by decide +kernel, rfl, by decide +kernel, by decide +kernel⟩
theorem ok_made (T : Tx w K mg) (X : Exc K) (TB : GxR.TabB base mg (cQ K).1 (cQ K).2) (c : Cl) (O : ClOk P w K mg base c) : ∀ fd, FunD K "made_reader" "made_reader" (defArgs s_made_reader) (defBody s_made_reader) (defScope s_made_reader) [] [] (He.ga K "made_reader") fd →
    FnOk P w K mg base (L2.CX P w) (LV + 2) (He.ga K "made_reader") fd ["table", "count"] (spMade K c) := by
  intro fd F
  have GC := ok_collect (P := P) T TB c O
  have GT := ok_tabled (P := P) T c O
  refine F.ok scMade (fun vs H Q E h => ?_) (fun cdv A outer s H vs Q E hr h => ?_)
  · obtain ⟨t, rfl, _⟩ := h
    rfl
  · obtain ⟨t, rfl, hI, hT, hc, qM, qR⟩ := h
    obtain ⟨tk, hN⟩ := T.g_MOST
    refine ⟨_, pss_cons (ps_set (i := 2) scMade.nd rfl (.inl rfl) (pe_cG GC hr rfl T.g_collect pass0 (pa_cons (pv 0) (pa_cons (pv 1) (pa_cons (pe_glob (v := .int 300) rfl hN ⟨_, rfl⟩) pa_nil)))))
      (pss_cons (ps_if (pt_cmpR op_isN (pv 2) pe_non (nomark _)) (pss_one (ps_raise rfl (takes_of rfl rfl rfl rfl) (pmk_own PySem.F.excBase_ValueError X.xC T.g_TooManyValues X.kC (raises_own X.sC X.tC) rfl))) pss_nil)
      (pss_one (ps_ret (pe_cG GT hr rfl T.g_tabled pass0 (pa_cons (pv 0) (pa_cons (pv 1) (pa_cons (pv 2) pa_nil))))))), ?_⟩
    refine ⟨_, rfl, _, rfl, t, rfl, hI, hT, hc, fun H1 x1 hm => ?_, fun H1 l xs ws x1 hl hF hr1 hs => ?_⟩
    · refine ⟨_, rfl, rfl, _, rfl, ?_⟩
      rw [decide_eq_true rfl]
      exact iteT (qM H1 x1 hm)
    · refine ⟨_, rfl, rfl, _, rfl, ?_⟩
      rw [decide_eq_false (fun e => nomatch e)]
      refine iteF ⟨_, rfl, _, rfl, _, rfl, t, l, xs, ws, rfl, O.is_ex x1 hI, hc, hF, hs, hl, hr1, fun H2 a R x2 hR hT2 => ?_⟩
      exact qR H2 a R (x1.trans x2) hR (RTab.inv hF hT2 hs) ⟨xs, hF, hT2.len⟩
end
end Tw
set_option maxRecDepth 100000
set_option maxHeartbeats 2000000
/-! numbered, denied, joint. -/
namespace Tw
open PySem PySem.Spec PyProof.Rows L2
section
variable {P : Program} {w : World} {K : PySem.W.Frag} {mg : Str → Option Value} {base : Heap}
theorem gd_made (T : Tx w K mg) (X : Exc K) (TB : GxR.TabB base mg (cQ K).1 (cQ K).2) (c : Cl) (O : ClOk P w K mg base c) : Gd P w K mg base (L2.CX P w) (LV + 2) (He.ga K "made_reader") ["table", "count"] (spMade K c) := by
  obtain ⟨fd, F⟩ := T.f_made_reader
  exact ⟨fd, ok_made T X TB c O fd F, F.bindsN fun _ _ _ _ _ _ us hl => match us, hl with | [_, _], _ => rfl, F.kp⟩
/-! ### numbered -/
def spNum (K : PySem.W.Frag) : Sp := fun vs H Q _ => ∃ (r : Addr) (R : Rd) (cnt : Nat) (L : List Nat → Bool), vs = [.ref r] ∧ RdrV H r R ∧ RInv R cnt L ∧ GxR.TabG H (cQ K).2 ∧ cnt ≤ 4096 ∧
  ∀ H' a R', Ex H H' → RdrV H' a R' → RInv R' cnt L → R'.m ≤ R.m → Q (.ref a) H'
theorem scNum : FnScope ["reader"] ["reader"] (defScope s_numbered) := ⟨rfl, rfl, rfl, by decide +kernel, rfl, by decide +kernel, by decide +kernel⟩
theorem in_range {R : Rd} {cnt : Nat} {L : List Nat → Bool} {v : List Nat → Nat} (hh : Hom R cnt L v) : ∀ u, Wd cnt u → v u ∈ List.range R.m := fun u hu => List.mem_range.mpr (hh.lt u hu)
theorem ok_numbered (T : Tx w K mg) (X : Exc K) (TB : GxR.TabB base mg (cQ K).1 (cQ K).2) : Gd P w K mg base (L2.CX P w) (LV + 3) (He.ga K "numbered") ["reader"] (spNum K) := by
  obtain ⟨fd, F⟩ := T.f_numbered
  refine ⟨fd, F.ok scNum (fun vs H Q E h => ?_) (fun cdv A outer s H vs Q E hr h => ?_), F.bindsN fun _ _ _ _ _ _ us hl => match us, hl with | [_], _ => rfl, F.kp⟩
  · obtain ⟨r, R, cnt, L, rfl, _⟩ := h
    rfl
  · obtain ⟨r, R, cnt, L, rfl, hR, hI, hT, hc, q⟩ := h
    obtain ⟨v, hh⟩ := hI.hom
    have sq : ∀ row ∈ R.mul, row.length = R.m := hI.sq
    have O : ClOk P w K mg base (clTable K R cnt L v) := cl_table T hh sq
    have GM := gd_made T X TB _ O
    have GI := ok_tinit (P := P) (base := base) T T.c_Table T.n_Table_reader
    have hr1 : Room 2 _ := hr.mono (by decide)
    refine ⟨_, pss_one (ps_ret (pe_cG GM hr rfl T.g_made_reader (passes_call (takes_of rfl rfl rfl rfl) (fun _ _ _ _ h => h)) (pa_cons (pe_kG T.m_Table GI hr1 rfl T.g_Table pass0 (pa_cons (pv 0) pa_nil))
      (pa_cons (pe_callB call_len_seq rfl T.m_len PySem.boot_len (pa_cons (pe_ix ix_tup (pv 0) pe_int (fun _ _ => rfl)) pa_nil)) pa_nil)))), ?_⟩
    obtain ⟨lt, mt, at_, as, h1, h2, h3, h4, h5⟩ := id hR
    refine ⟨_, rfl, fun x dx nx nd ne => ⟨x, dx, r, rfl, upd_same, rfl, ?_⟩⟩
    rw [upd_upd]
    have x1 : Ex H (upd (upd H dx (.own x)) x (.ins (He.ga K "Table") dx [("reader", .ref r)])) := (Ex.add nd).new (by rw [upd_ne ne.symm]; exact nx)
    have hx : upd (upd H dx (.own x)) x (.ins (He.ga K "Table") dx [("reader", .ref r)]) x = some (.ins (He.ga K "Table") dx [("reader", .ref r)]) := upd_same
    generalize upd (upd H dx (.own x)) x (.ins (He.ga K "Table") dx [("reader", .ref r)]) = H1 at x1 hx
    have hll : (nV R.letters).length = cnt := by rw [List.length_map]; exact hI.lenL
    refine ⟨_, rfl, r, _, 1, _, rfl, rfl, sqT_of (x1.tup h1), rfl, lt, _, rfl, .inr (sqT_of (x1.tup h2)), ?_⟩
    refine ⟨x, by rw [hll]; rfl, ⟨dx, r, hx, x1.rdr hR⟩, x1.tabG hT, hc, fun H2 _ hm => ?_, fun H2 a R2 x2 hR2 hI2 hF => ?_⟩
    · have := many_le (D := List.range R.m) (in_range hh) hm
      rw [List.length_range] at this
      have := hI.small
      omega
    · obtain ⟨xs, hF, e⟩ := hF
      have hle : (xs : List Nat).length ≤ (List.range R.m).length := found_le (f := v) (cnt := cnt) (in_range hh) hF
      rw [List.length_range] at hle
      exact q H2 a R2 (x1.trans x2) hR2 hI2 (by rw [e]; exact hle)
/-! ### joint -/
def spJoint (K : PySem.W.Frag) : Sp := fun vs H Q E => ∃ (r1 r2 : Addr) (R1 R2 : Rd) (cnt : Nat) (L1 L2 : List Nat → Bool), vs = [.str "both", .ref r1, .ref r2] ∧ RdrV H r1 R1 ∧ RdrV H r2 R2 ∧ RInv R1 cnt L1 ∧ RInv R2 cnt L2 ∧ GxR.TabG H (cQ K).2 ∧ cnt ≤ 4096 ∧
  (∀ H', Ex H H' → 300 < R1.m * R2.m → E (.ref (CM K)) none H') ∧ ∀ H' a R', Ex H H' → RdrV H' a R' → RInv R' cnt (fun u => L1 u && L2 u) → R'.m ≤ R1.m * R2.m → Q (.ref a) H'
theorem scJoint : FnScope ["kind", "first", "second"] ["kind", "first", "second"] (defScope s_joint) := ⟨rfl, rfl, rfl, by decide +kernel, rfl, by decide +kernel, by decide +kernel⟩
theorem ok_joint (T : Tx w K mg) (X : Exc K) (TB : GxR.TabB base mg (cQ K).1 (cQ K).2) : Gd P w K mg base (L2.CX P w) (LV + 3) (He.ga K "joint") ["kind", "first", "second"] (spJoint K) := by
  obtain ⟨fd, F⟩ := T.f_joint
  refine ⟨fd, F.ok scJoint (fun vs H Q E h => ?_) (fun cdv A outer s H vs Q E hr h => ?_), F.bindsN fun _ _ _ _ _ _ us hl => match us, hl with | [_, _, _], _ => rfl, F.kp⟩
  · obtain ⟨r1, r2, R1, R2, cnt, L1, L2, rfl, _⟩ := h
    rfl
  · obtain ⟨r1, r2, R1, R2, cnt, L1, L2, rfl, hR1, hR2, hI1, hI2, hT, hc, qE, q⟩ := h
    obtain ⟨v1, hh1⟩ := hI1.hom
    obtain ⟨v2, hh2⟩ := hI2.hom
    have O : ClOk P w K mg base (clPairs K R1 R2 cnt L1 L2 v1 v2) := cl_pairs T hh1 hI1.sq hh2 hI2.sq
    have GM := gd_made T X TB _ O
    have GI := ok_qinit (P := P) (base := base) T
    have hr1 : Room 4 _ := hr.mono (by decide)
    have D : ∀ u, Wd cnt u → (v1 u, v2 u) ∈ (List.range R1.m).flatMap fun a => (List.range R2.m).map fun b => (a, b) := fun u hu => pairs_list _ _ _ _ (hh1.lt u hu) (hh2.lt u hu)
    refine ⟨_, pss_one (ps_ret (pe_cG GM hr rfl T.g_made_reader (passes_call (takes_of rfl rfl rfl rfl) (fun _ _ _ _ h => h)) (pa_cons (pe_kG T.m_Pairs GI hr1 rfl T.g_Pairs pass0 (pa_cons (pv 0) (pa_cons (pv 1) (pa_cons (pv 2) pa_nil))))
      (pa_cons (pe_callB call_len_seq rfl T.m_len PySem.boot_len (pa_cons (pe_ix ix_tup (pv 1) pe_int (fun _ _ => rfl)) pa_nil)) pa_nil)))), ?_⟩
    obtain ⟨lt, mt, at_, as, h1, h2, h3, h4, h5⟩ := id hR1
    have hll : (nV R1.letters).length = cnt := by rw [List.length_map]; exact hI1.lenL
    refine ⟨_, rfl, _, rfl, _, rfl, fun x dx nx nd ne => ?_⟩
    have x1 : Ex H (upd (upd H dx (.own x)) x (.ins (He.ga K "Pairs") dx [])) := (Ex.add nd).new (by rw [upd_ne ne.symm]; exact nx)
    refine ⟨x, dx, r1, r2, R1, R2, rfl, upd_same, x1.rdr hR1, x1.rdr hR2, fun H1 c1 hq => ⟨rfl, ?_⟩⟩
    have X1 : Ex H H1 := Ex.made nx nd c1
    refine ⟨_, rfl, r1, _, 1, _, rfl, rfl, sqT_of (X1.tup h1), rfl, lt, _, rfl, .inr (sqT_of (X1.tup h2)), ?_⟩
    refine ⟨x, by rw [hll]; rfl, hq, X1.tabG hT, hc, fun H2 x2 hm => ?_, fun H2 a R' x2 hR' hI' hF => ?_⟩
    · have := many_le (f := fun u => (v1 u, v2 u)) D hm
      rw [pairs_len] at this
      exact qE H2 (X1.trans x2) this
    · obtain ⟨xs, hF, e⟩ := hF
      have hle : (xs : List (Nat × Nat)).length ≤ _ := found_le (f := fun u => (v1 u, v2 u)) (cnt := cnt) D hF
      rw [pairs_len] at hle
      exact q H2 a R' (X1.trans x2) hR' hI' (by rw [e]; exact hle)
/-! ### denied -/
def spDenied : Sp := fun vs H Q _ => ∃ (r : Addr) (R : Rd), vs = [.ref r] ∧ RdrV H r R ∧ R.m ≤ 300 ∧ ∀ H' a, Ex H H' → RdrV H' a R.deny → Q (.ref a) H'
abbrev nDen : List Str := ["reader", "empty", "letters", "mul", "accepted", "x"]
theorem scDen : FnScope nDen ["reader"] (defScope s_denied) := ⟨rfl, rfl, rfl, by decide +kernel, rfl, by decide +kernel, by decide +kernel⟩
theorem ok_denied (T : Tx w K mg) : Gd P w K mg base CX0 1 (He.ga K "denied") ["reader"] spDenied := by
  obtain ⟨fd, F⟩ := T.f_denied
  refine ⟨fd, F.ok scDen (fun vs H Q E h => ?_) (fun cdv A outer s H vs Q E hr h => ?_), F.bindsN fun _ _ _ _ _ _ us hl => match us, hl with | [_], _ => rfl, F.kp⟩
  · obtain ⟨r, R, rfl, _⟩ := h
    rfl
  · obtain ⟨r, R, rfl, ⟨lt, mt, at_, as, h1, h2, h3, h4, h5⟩, hm, q⟩ := h
    refine ⟨_, PSs.nox (pss_cons (ps_asg (pv 0) (pg_tup rfl (pgs_cons (pg_name (i := 1) scDen.nd rfl (.inl rfl)) (pgs_cons (pg_name (i := 2) scDen.nd rfl (.inl rfl)) (pgs_cons (pg_name (i := 3) scDen.nd rfl (.inl rfl)) (pgs_cons (pg_name (i := 4) scDen.nd rfl (.inr rfl)) pgs_nil))))))
      (pss_one (ps_ret (pe_tup (pa_cons (pv 1) (pa_cons (pv 2) (pa_cons (pv 3) (pa_cons (pe_callTy call_tuple_of rfl T.m_tuple (by decide +kernel) (pa_cons
        (pe_lc (own := [("x", 5)]) (g := gName 5) rfl scDen.nd (pi_range1 rfl T.m_range (pa_cons (pe_callB call_len_seq rfl T.m_len PySem.boot_len (pa_cons (pv 3) pa_nil)) pa_nil)) (blkOk_by (own := [("x", 5)]) (N := nDen) (sc := defScope s_denied) (by decide +kernel))
          (fun _ _ _ _ _ => pg_name (i := 5) scDen.nd rfl (Or.inl rfl)) (fun _ _ _ _ _ => pts_one (pt_cmpR (op_notIn_seqK (K := K)) (pv 5) (pv 4) (by rfl))) (fun _ _ _ _ _ => pv 5)) pa_nil)) pa_nil)))))))), ?_⟩
    have hml : as.length = R.m := h4.1
    refine ⟨_, rfl, r, _, rfl, sqT_of h1, rfl, _, _, rfl, _, _, rfl, _, _, rfl, _, _, rfl, rfl, ?_⟩
    refine ⟨_, rfl, _, rfl, _, rfl, _, rfl, mt, _, rfl, .inr (sqT_of h3), ((as.map V.ref).length : Int), rfl, by rw [List.length_map, hml]; omega, by rw [List.length_map, hml]; omega, fun D nD => ?_⟩
    refine lc_rangeN (n := R.m) (by rw [List.length_map, hml]; simp) (fun i H2 => Ex H H2 ∧ H2 D = some (.lst (nV ((List.range i).filter fun x => !R.acc.contains x)))) ⟨Ex.add nD, upd_same⟩ ?_ ?_
    · rintro i H2 hi ⟨x2, hD⟩
      refine ⟨rfl, _, rfl, _, rfl, at_, _, rfl, .inr (sqT_of (x2.tup h5)), rfl, nV_flat _, _, rfl, ?_⟩
      have e1 : (if true = true then !inV (.int (i : Nat)) (nV R.acc) else inV (.int (i : Nat)) (nV R.acc)) = !R.acc.contains i := by
        rw [if_pos rfl, inV_nat]
        simp
      rw [e1]
      have step : (List.range (i + 1)).filter (fun x => !R.acc.contains x) = (List.range i).filter (fun x => !R.acc.contains x) ++ (if (!R.acc.contains i) = true then [i] else []) := by
        rw [List.range_succ, List.filter_append]
        congr 1
        simp only [List.filter_cons, List.filter_nil]
      cases e : !R.acc.contains i with
      | true =>
        refine iteT ⟨_, rfl, _, hD, ?_, x2.mut nD, ?_⟩
        · rw [List.length_map, sizeLine_eq]
          have := List.length_filter_le (fun x => !R.acc.contains x) (List.range i)
          rw [List.length_range] at this
          omega
        · rw [upd_same, step, e, nV, nV, List.map_append]
          rfl
      | false =>
        refine iteF ⟨x2, ?_⟩
        rw [step, e]
        simpa using hD
    · rintro H2 ⟨x2, hD⟩
      refine ⟨D, _, rfl, .inl ⟨SqL.of hD, fun ac nac => ⟨(by show 4 ≤ sizeLine; decide), fun p np => ?_⟩⟩⟩
      have x3 := (x2.new (o := .tup (nV ((List.range R.m).filter fun x => !R.acc.contains x))) nac).new (o := .tup [.int R.emp, .ref lt, .ref mt, .ref ac]) np
      have hac : (upd (upd H2 ac (.tup (nV ((List.range R.m).filter fun x => !R.acc.contains x)))) p (.tup [.int R.emp, .ref lt, .ref mt, .ref ac])) ac = some (.tup (nV ((List.range R.m).filter fun x => !R.acc.contains x))) := (Ex.add np).tup upd_same
      exact q _ p x3 ⟨lt, mt, ac, as, upd_same, x3.tup h2, x3.tup h3, x3.rows h4, hac⟩
end
end Tw
set_option maxRecDepth 100000
set_option maxHeartbeats 2000000
/-! split. -/
namespace Tw
open PySem PySem.Spec PyProof.Rows L2
/-! ### the dict of first numbers by their keys -/
section
variable {κ : Type} [DecidableEq κ]
structure FI (w : World) (H : Hp) (d : Addr) (m i : Nat) (key : Nat → κ) (kk : κ → NKey) (kvs : List RowV) : Prop where
  at_ : H d = some (DN w d kvs)
  ks : KeysV H kvs
  rows : ∀ row ∈ kvs, ∃ y, y < i ∧ row.1 = kk (key y) ∧ row.2.2 = V.int (fstOf m key y : Nat)
  has : ∀ y, y < i → kk (key y) ∈ kvs.map (·.1)
  len : kvs.length ≤ i
variable {w : World} {H H' : Hp} {d : Addr} {m i : Nat} {key : Nat → κ} {kk : κ → NKey} {kvs : List RowV}
theorem FI.mono (x : Ex H H') (h : FI w H d m i key kk kvs) : FI w H' d m i key kk kvs := ⟨x.dn h.at_, x.keys h.ks, h.rows, h.has, h.len⟩
theorem FI.mem (inj : ∀ a b, kk a = kk b → a = b) (h : FI w H d m i key kk kvs) {x : Nat} : kk (key x) ∈ kvs.map (·.1) ↔ ∃ y, y < i ∧ key y = key x := by
  constructor
  · intro hm
    obtain ⟨row, hr, e⟩ := List.mem_map.mp hm
    obtain ⟨y, hy, e2, _⟩ := h.rows row hr
    exact ⟨y, hy, inj _ _ (e2.symm.trans e)⟩
  · rintro ⟨y, hy, e⟩
    rw [← e]
    exact h.has y hy
theorem fstOf_key {x y : Nat} (e : key y = key x) : fstOf m key y = fstOf m key x := by
  unfold fstOf
  rw [e]
theorem FI.item (inj : ∀ a b, kk a = kk b → a = b) (h : FI w H d m i key kk kvs) {x : Nat} (hx : kk (key x) ∈ kvs.map (·.1)) : ∃ kv, (kk (key x), kv, V.int (fstOf m key x : Nat)) ∈ kvs := by
  obtain ⟨row, hr, e⟩ := List.mem_map.mp hx
  obtain ⟨y, hy, e2, e3⟩ := h.rows row hr
  have ek : key y = key x := inj _ _ (e2.symm.trans e)
  refine ⟨row.2.1, ?_⟩
  rw [← fstOf_key ek, ← e, ← e3]
  exact hr
theorem FI.keep (h : FI w H d m i key kk kvs) (hx : kk (key i) ∈ kvs.map (·.1)) : FI w H d m (i + 1) key kk kvs :=
  ⟨h.at_, h.ks, fun row hr => let ⟨y, hy, e⟩ := h.rows row hr; ⟨y, by omega, e⟩, fun y hy => if e : y = i then e ▸ hx else h.has y (by omega), by have := h.len; omega⟩
theorem FI.add (inj : ∀ a b, kk a = kk b → a = b) (h : FI w H d m i key kk kvs) (hi : i < m) (hx : kk (key i) ∉ kvs.map (·.1)) {kv : V} (hk : KeyV H (kk (key i)) kv) (hd : (kk (key i)).depth ≤ 8) :
    FI w (upd H d (DN w d (kvs ++ [(kk (key i), kv, .int (i : Nat))]))) d m (i + 1) key kk (kvs ++ [(kk (key i), kv, .int (i : Nat))]) := by
  have t : TupK H (upd H d (DN w d (kvs ++ [(kk (key i), kv, .int (i : Nat))]))) := (TupK.refl H).mut fun vs e => by rw [h.at_] at e; unfold DN at e; cases e
  have efi : fstOf m key i = i := by
    have h1 := fstOf_spec (key := key) hi
    have h2 := fstOf_le (key := key) hi
    by_cases e : fstOf m key i = i
    · exact e
    · exact absurd ((h.mem inj).mpr ⟨_, by omega, h1.2.1⟩) hx
  refine ⟨upd_same, (KeysV.snoc (x := (kk (key i), kv, .int (i : Nat))) h.ks hk hd).mono t, fun row hr => ?_, fun y hy => ?_, by rw [List.length_append]; have := h.len; show kvs.length + 1 ≤ _; omega⟩
  · rcases List.mem_append.mp hr with hr | hr
    · obtain ⟨y, hy, e⟩ := h.rows row hr
      exact ⟨y, by omega, e⟩
    · rw [List.mem_singleton.mp hr]
      exact ⟨i, by omega, rfl, by rw [efi]⟩
  · rw [List.map_append, List.mem_append]
    by_cases e : y = i
    · right; rw [e]; simp
    · exact .inl (h.has y (by omega))
end
/-! ### keys of split -/
def keyP (p : Nat × List Nat) : NKey := .tup [.num (p.1 : Int), .tup (p.2.map fun x : Nat => NestedKey.num (x : Int))]
theorem nums_inj : ∀ x y : List Nat, x.map (fun z : Nat => NestedKey.num (z : Int)) = y.map (fun z : Nat => NestedKey.num (z : Int)) → x = y
  | [], [], _ => rfl
  | [], _ :: _, h => by cases h
  | _ :: _, [], h => by cases h
  | a :: x, b :: y, h => by
    rw [List.map_cons, List.map_cons] at h
    injection h with h1 h2
    rw [natKey_inj _ _ h1, nums_inj x y h2]
theorem keyP_inj (a b : Nat × List Nat) (h : keyP a = keyP b) : a = b := by
  obtain ⟨a1, a2⟩ := a
  obtain ⟨b1, b2⟩ := b
  unfold keyP at h
  injection h with h
  injection h with h1 h2
  injection h2 with h2
  injection h2 with h2
  have e1 : a1 = b1 := natKey_inj _ _ h1
  have e2 : a2 = b2 := nums_inj _ _ h2
  rw [e1, e2]
theorem keyP_dep (a : Nat × List Nat) : (keyP a).depth ≤ 8 := by
  have h := dep_nums (a.2.map fun z : Nat => (z : Int))
  rw [List.map_map] at h
  unfold keyP
  simp only [NestedKey.depth, NestedKey.depthAll]
  have h : NestedKey.depthAll (a.2.map fun x : Nat => NestedKey.num (x : Int)) ≤ 1 := h
  omega
section
variable {P : Program} {w : World} {K : PySem.W.Frag} {mg : Str → Option Value} {base : Heap}
/-- what split, leaders lean on -/
structure Cls0 (R : Rd) : Prop where
  sq : ∀ row ∈ R.mul, row.length = R.m
  small : R.m ≤ 300
  lets : ∀ z ∈ R.letters, z < R.m
  ll : R.letters.length ≤ 4000
  atl : ∀ x y, x < R.m → y < R.m → R.at x y < R.m
theorem RInv.cls0 {R : Rd} {cnt : Nat} {L : List Nat → Bool} (h : RInv R cnt L) (hc : cnt ≤ 4000) : Cls0 R := by
  obtain ⟨v, hh⟩ := h.hom
  refine ⟨h.sq, h.small, fun z hz => ?_, by rw [h.lenL]; exact hc, fun x y hx hy => ?_⟩
  · obtain ⟨a, ha, e⟩ := List.getElem_of_mem hz
    have hl := h.lenL
    have e2 := hh.let_ a (by omega)
    rw [List.getElem?_eq_getElem ha, e] at e2
    rw [Option.some.inj e2]
    exact hh.lt _ (Wd.one (by omega))
  · obtain ⟨u, hu, e⟩ := hh.onto x hx
    obtain ⟨u', hu', e'⟩ := hh.onto y hy
    rw [← e, ← e', hh.mul u u' hu hu']
    exact hh.lt _ (hu.app hu')
def spSplit : Sp := fun vs H Q _ => ∃ (r cls : Addr) (R : Rd) (cl : List Nat), vs = [.ref r, .ref cls] ∧ RdrV H r R ∧ Cls0 R ∧ H cls = some (.lst (nV cl)) ∧ cl.length = R.m ∧
  ∀ H' l steps, Ex H H' → (∀ z ∈ R.letters, z ∈ steps) → H' l = some (.lst (nV (fsts R.m (keyS R steps cl)))) → Q (.ref l) H'
abbrev nSpl : List Str := ["reader", "classes", "empty", "letters", "mul", "_", "steps", "found", "finer", "x", "around", "key", "z"]
theorem scSpl : FnScope nSpl ["reader", "classes"] (defScope s_split) := ⟨rfl, rfl, rfl, by decide +kernel, rfl, by decide +kernel, by decide +kernel⟩
theorem ok_split (T : Tx w K mg) : Gd P w K mg base CX0 1 (He.ga K "split") ["reader", "classes"] spSplit := by
  obtain ⟨fd, F⟩ := T.f_split
  refine ⟨fd, F.ok scSpl (fun vs H Q E h => ?_) (fun cdv A outer s H vs Q E hr h => ?_), F.bindsN fun _ _ _ _ _ _ us hl => match us, hl with | [_, _], _ => rfl, F.kp⟩
  · obtain ⟨r, cls, R, cl, rfl, _⟩ := h
    rfl
  · obtain ⟨r, cls, R, cl, rfl, hR, C0, hcls, hcl, q⟩ := h
    have hu64 := hr.units
    refine ⟨_, PSs.nox (pss_cons (ps_asg (pv 0) (pg_tup rfl (pgs_cons (pg_name (i := 2) scSpl.nd rfl (.inl rfl)) (pgs_cons (pg_name (i := 3) scSpl.nd rfl (.inl rfl)) (pgs_cons (pg_name (i := 4) scSpl.nd rfl (.inr rfl)) (pgs_cons (pg_name (i := 5) scSpl.nd rfl (.inl rfl)) pgs_nil))))))
      (pss_cons (ps_set (i := 6) scSpl.nd rfl (.inl rfl) (pe_callB (cr_sortedSetA rfl) rfl T.m_sorted (by decide +kernel) (pa_cons (pe_callTy (cr_setT rfl) rfl T.m_set (by decide +kernel) (pa_cons (pv 3) pa_nil)) pa_nil)))
      (pss_cons (ps_set (i := 7) scSpl.nd rfl (.inl rfl) (pe_newNW (w := w)))
      (pss_cons (ps_set (i := 8) scSpl.nd rfl (.inl rfl) (pe_lst pa_nil))
      (pss_cons (ps_for PassesOwn.never rfl (pi_range1 rfl T.m_range (pa_cons (pe_callB call_len_seq rfl T.m_len PySem.boot_len (pa_cons (pv 4) pa_nil)) pa_nil)) (pg_name (i := 9) scSpl.nd rfl (.inr rfl))
        (pss_cons (ps_set (i := 10) scSpl.nd rfl (.inl rfl) (pe_op op_cat
          (pe_lc (own := [("z", 12)]) (g := gName 12) (tt := tYes) rfl scSpl.nd (pi_list (pv 6)) (blkOk_by (own := [("z", 12)]) (N := nSpl) (sc := defScope s_split) (by decide +kernel)) (fun _ _ _ _ _ => pg_name (i := 12) scSpl.nd rfl (Or.inl rfl)) (fun _ _ _ _ _ => pts_nil)
            (fun _ _ _ _ _ => pe_ix (ix_listK (K := K)) (pv 1) (pe_ix (ix_tupK (K := K)) (pe_ix (ix_tupK (K := K)) (pv 4) (pv 12) (fun _ _ => rfl)) (pv 9) (fun _ _ => rfl)) (fun _ _ => rfl)))
          (pe_lc (own := [("z", 12)]) (g := gName 12) (tt := tYes) rfl scSpl.nd (pi_list (pv 6)) (blkOk_by (own := [("z", 12)]) (N := nSpl) (sc := defScope s_split) (by decide +kernel)) (fun _ _ _ _ _ => pg_name (i := 12) scSpl.nd rfl (Or.inl rfl)) (fun _ _ _ _ _ => pts_nil)
            (fun _ _ _ _ _ => pe_ix (ix_listK (K := K)) (pv 1) (pe_ix (ix_tupK (K := K)) (pe_ix (ix_tupK (K := K)) (pv 4) (pv 9) (fun _ _ => rfl)) (pv 12) (fun _ _ => rfl)) (fun _ _ => rfl)))))
        (pss_cons (ps_set (i := 11) scSpl.nd rfl (.inl rfl) (pe_tup (pa_cons (pe_ix ix_list (pv 1) (pv 9) (fun _ _ => rfl)) (pa_cons (pe_callTy call_tuple_of rfl T.m_tuple (by decide +kernel) (pa_cons (pv 10) pa_nil)) pa_nil))))
        (pss_cons (ps_if (pt_cmpR (op_notInNW (w := w) hu64) (pv 11) (pv 7) (by rfl)) (pss_one (ps_asg (pv 9) (pg_sub (pv 7) (pv 11) (set_dNW (w := w) hu64)))) pss_nil)
        (pss_one (ps_expr (pe_bm PySem.F.plainAttrs_list PySem.F.slot_list_append PySem.F.type_list_append mt_append (pv 8) (pa_cons (pe_itemNW (w := w) hu64 (pv 7) (pv 11) (fun _ _ => rfl)) pa_nil))))))))
      (pss_one (ps_ret (pv 8)))))))), ?_⟩
    obtain ⟨lt, mt, at_, as, h1, h2, h3, h4, h5⟩ := id hR
    have hml : as.length = R.m := h4.1
    refine ⟨_, rfl, r, _, rfl, sqT_of h1, rfl, _, _, rfl, _, _, rfl, _, _, rfl, _, _, rfl, rfl, ?_⟩
    -- steps = sorted(set(letters))
    refine ⟨_, rfl, lt, R.letters.map (fun n : Nat => (n : Int)), rfl, sqT_of (by rw [List.map_map]; exact h2), by rw [List.length_map]; have := C0.ll; unfold scanBound; omega, fun sq c nsq => ?_⟩
    refine ⟨sq, setN R.letters, c, rfl, upd_same, fun ns st hp hmem _ _ nst => ?_⟩
    obtain ⟨steps, es, hst⟩ := rising_of hp hmem
    rw [es]
    have x1 : Ex H (upd (upd H sq (SetO w sq (setN R.letters) c)) st (.lst (nV steps))) := (Ex.add nsq).new nst
    have hst1 : upd (upd H sq (SetO w sq (setN R.letters) c)) st (.lst (nV steps)) st = some (.lst (nV steps)) := upd_same
    show gName 6 _ _ (upd (upd H sq (SetO w sq (setN R.letters) c)) st (.lst (nV steps))) _
    generalize upd (upd H sq (SetO w sq (setN R.letters) c)) st (.lst (nV steps)) = H1 at x1 hst1
    have hsz : steps.length ≤ 300 := by
      refine Nat.le_trans (bound_of (m := R.m) (hst.rise.imp fun h => Nat.ne_of_lt h) fun z hz => C0.lets z ((hst.mem z).mp hz)) C0.small
    -- found = {}; finer = []
    intro d nd
    refine ⟨(by show 0 ≤ sizeLine; decide), fun fl nfl => ?_⟩
    have ndl : d ≠ fl := ne_of_none upd_same nfl
    have x2 : Ex H1 (upd (upd H1 d (DN w d [])) fl (.lst [])) := (Ex.add nd).new nfl
    have nd0 : H d = none := x1.free nd
    have nfl0 : H fl = none := (x1.trans (Ex.add nd)).free nfl
    let key := keyS R steps cl
    refine ⟨_, rfl, mt, _, rfl, .inr (sqT_of ((x1.trans x2).tup h3)), ((as.map V.ref).length : Int), rfl, by rw [List.length_map, hml]; have := C0.small; omega, by rw [List.length_map, hml]; have := C0.small; omega, ?_⟩
    refine for_rangeN (n := R.m) (by rw [List.length_map, hml]; simp) (fun i σ H2 => ∃ v9 v10 v11, σ = [some (.ref r), some (.ref cls), some (.int R.emp), some (.ref lt), some (.ref mt), some (.ref at_), some (.ref st), some (.ref d), some (.ref fl), v9, v10, v11, none] ∧
      Ex H H2 ∧ H2 st = some (.lst (nV steps)) ∧ H2 fl = some (.lst (nV ((List.range i).map (fstOf R.m key)))) ∧ ∃ kvs, FI w H2 d R.m i key keyP kvs)
      ⟨none, none, none, rfl, x1.trans x2, x2.lst hst1, upd_same, [], by rw [upd_ne ndl]; exact upd_same, KeysV.nil, fun row h => (by cases h), fun y h => absurd h (Nat.not_lt_zero _), Nat.le_refl _⟩ ?_ ?_
    · rintro i σ H2 hi ⟨v9, v10, v11, rfl, x2, hst2, hfl, kvs, hFI⟩
      -- [classes[mul[z][x]] for z in steps]
      have cell1 : ∀ {H3 : Hp}, Ex H H3 → ∀ x y, x < R.m → y < R.m → ∃ tr, atI (as.map V.ref) (x : Nat) = some (.ref tr) ∧ H3 tr = some (.tup (nV ((R.mul[x]?).getD []))) ∧ atI (nV ((R.mul[x]?).getD [])) (y : Nat) = some (.int (R.at x y : Nat)) ∧ atI (nV cl) (R.at x y : Nat) = some (.int (gt cl (R.at x y) : Nat)) := fun {H3} x3 x y hx hy => by
        obtain ⟨row, e1, e2⟩ := at_get C0.sq hx hy
        obtain ⟨tr, e3, e4⟩ := RdrV.row (mt := mt) (x3.rows h4) e1
        refine ⟨tr, e3, by rw [e1]; exact e4, by rw [e1]; exact nV_at e2, nV_at (gt_at (by rw [hcl]; exact C0.atl x y hx hy))⟩
      refine ⟨_, rfl, st, rfl, ⟨_, SqL.of hst2⟩, fun D1 nD1 => ?_⟩
      refine lc_list (K := K) (a := st) (xs := nV steps) (fun j H3 => Ex H2 H3 ∧ H3 D1 = some (.lst (nV ((steps.take j).map fun z => gt cl (R.at z i))))) ⟨Ex.add nD1, upd_same⟩ (fun j H3 _ h => SqL.of (h.1.lst hst2)) ?_ ?_
      · rintro j y H3 hj ⟨x3, hD1⟩
        obtain ⟨z, hz, rfl⟩ : ∃ z, steps[j]? = some z ∧ y = V.int (z : Nat) := by
          rw [List.getElem?_map] at hj
          cases e : steps[j]? with
          | none => rw [e] at hj; cases hj
          | some z => rw [e] at hj; exact ⟨z, rfl, (Option.some.inj hj).symm⟩
        have hzl := C0.lets z ((hst.mem z).mp (List.mem_of_getElem? hz))
        obtain ⟨tr, a1, a2, a3, a4⟩ := cell1 (x2.trans x3) z i hzl hi
        refine ⟨rfl, _, rfl, _, rfl, _, rfl, mt, _, z, _, rfl, rfl, sqT_of ((x2.trans x3).tup h3), a1, _, rfl, tr, _, i, _, rfl, rfl, sqT_of a2, a3, cls, _, _, _, rfl, rfl, SqL.of ((x2.trans x3).lst hcls), a4, _, hD1, by rw [List.length_map, List.length_map, List.length_take, sizeLine_eq]; omega, x3.mut nD1, ?_⟩
        rw [upd_same, List.take_add_one, hz, nV, nV, List.map_append, List.map_append]
        rfl
      rintro H3 ⟨x3, hD1⟩
      rw [List.length_map, List.take_length] at hD1
      refine ⟨_, rfl, st, rfl, ⟨_, SqL.of (x3.lst hst2)⟩, fun D2 nD2 => ?_⟩
      refine lc_list (K := K) (a := st) (xs := nV steps) (fun j H4 => Ex H3 H4 ∧ H4 D2 = some (.lst (nV ((steps.take j).map fun z => gt cl (R.at i z))))) ⟨Ex.add nD2, upd_same⟩ (fun j H4 _ h => SqL.of (h.1.lst (x3.lst hst2))) ?_ ?_
      · rintro j y H4 hj ⟨x4, hD2⟩
        obtain ⟨z, hz, rfl⟩ : ∃ z, steps[j]? = some z ∧ y = V.int (z : Nat) := by
          rw [List.getElem?_map] at hj
          cases e : steps[j]? with
          | none => rw [e] at hj; cases hj
          | some z => rw [e] at hj; exact ⟨z, rfl, (Option.some.inj hj).symm⟩
        have hzl := C0.lets z ((hst.mem z).mp (List.mem_of_getElem? hz))
        have X4 := (x2.trans x3).trans x4
        obtain ⟨tr, a1, a2, a3, a4⟩ := cell1 X4 i z hi hzl
        refine ⟨rfl, _, rfl, _, rfl, _, rfl, mt, _, i, _, rfl, rfl, sqT_of (X4.tup h3), a1, _, rfl, tr, _, z, _, rfl, rfl, sqT_of a2, a3, cls, _, _, _, rfl, rfl, SqL.of (X4.lst hcls), a4, _, hD2, by rw [List.length_map, List.length_map, List.length_take, sizeLine_eq]; omega, x4.mut nD2, ?_⟩
        rw [upd_same, List.take_add_one, hz, nV, nV, List.map_append, List.map_append]
        rfl
      rintro H4 ⟨x4, hD2⟩
      rw [List.length_map, List.take_length] at hD2
      -- around, key
      refine ⟨D1, D2, _, _, rfl, rfl, x4.lst hD1, hD2, by rw [List.length_map, List.length_map, List.length_map, List.length_map, sizeLine_eq]; omega, fun ar nar => ?_⟩
      have ear : nV (steps.map fun z => gt cl (R.at z i)) ++ nV (steps.map fun z => gt cl (R.at i z)) = nV (key i).2 := by
        show _ = nV ((steps.map fun z => gt cl (R.at z i)) ++ steps.map fun z => gt cl (R.at i z))
        rw [nV, nV, nV, List.map_append]
      rw [ear]
      have x5 : Ex H2 (upd H4 ar (.lst (nV (key i).2))) := (x3.trans x4).new nar
      refine ⟨_, rfl, _, rfl, cls, _, i, _, rfl, rfl, SqL.of ((x2.trans x5).lst hcls), nV_at (gt_at (by rw [hcl]; exact hi)), ?_⟩
      refine ⟨_, rfl, ar, _, rfl, .inl ⟨SqL.of upd_same, fun at2 nat2 => ⟨(by show 2 ≤ sizeLine; decide), fun kp nkp => ?_⟩⟩⟩
      have x6 : Ex H2 (upd (upd (upd H4 ar (.lst (nV (key i).2))) at2 (.tup (nV (key i).2))) kp (.tup [.int (gt cl i : Nat), .ref at2])) := (x5.new nat2).new nkp
      have kv6 : KeyV (upd (upd (upd H4 ar (.lst (nV (key i).2))) at2 (.tup (nV (key i).2))) kp (.tup [.int (gt cl i : Nat), .ref at2])) (keyP (key i)) (.ref kp) :=
        .tup upd_same (.cons (.int _) (.cons (.tup ((Ex.add nkp).tup upd_same) (keyTh_vs _ _)) .nil))
      generalize upd (upd (upd H4 ar (.lst (nV (key i).2))) at2 (.tup (nV (key i).2))) kp (.tup [.int (gt cl i : Nat), .ref at2]) = H6 at x6 kv6
      have hFI6 := hFI.mono x6
      have hfl6 := x6.lst hfl
      have X6 := x2.trans x6
      have last : ∀ (H7 : Hp) (kvs7 : List RowV), Ex H H7 → H7 st = some (.lst (nV steps)) → H7 fl = some (.lst (nV ((List.range i).map (fstOf R.m key)))) → FI w H7 d R.m (i + 1) key keyP kvs7 → KeyV H7 (keyP (key i)) (.ref kp) →
          ∃ l xs y, V.ref fl = .ref l ∧ [V.int (fstOf R.m key i : Nat)] = [y] ∧ H7 l = some (.lst xs) ∧ xs.length < sizeLine ∧ ∃ v9 v10 v11, [some (V.ref r), some (.ref cls), some (.int R.emp), some (.ref lt), some (.ref mt), some (.ref at_), some (.ref st), some (.ref d), some (.ref fl), some (.int (i : Nat)), some (.ref ar), some (.ref kp), none] = [some (V.ref r), some (.ref cls), some (.int R.emp), some (.ref lt), some (.ref mt), some (.ref at_), some (.ref st), some (.ref d), some (.ref fl), v9, v10, v11, none] ∧
            Ex H (upd H7 l (.lst (xs ++ [y]))) ∧ upd H7 l (.lst (xs ++ [y])) st = some (.lst (nV steps)) ∧ upd H7 l (.lst (xs ++ [y])) fl = some (.lst (nV ((List.range (i + 1)).map (fstOf R.m key)))) ∧ ∃ kvs, FI w (upd H7 l (.lst (xs ++ [y]))) d R.m (i + 1) key keyP kvs := by
        intro H7 kvs7 x7 hst7 hfl7 hF7 hk7
        have nst : st ≠ fl := fun e => by
          subst e
          have := x1.free nd
          exact absurd hst1 (by rw [show H1 st = none from (Ex.add nd).free nfl]; simp)
        have ndf : d ≠ fl := ne_of hF7.at_ hfl7 (by unfold DN; intro q; cases q)
        have t7 : TupK H7 (upd H7 fl (.lst (nV ((List.range i).map (fstOf R.m key)) ++ [.int (fstOf R.m key i : Nat)]))) := (TupK.refl H7).mut fun vs e => by rw [hfl7] at e; cases e
        refine ⟨fl, _, _, rfl, rfl, hfl7, by rw [List.length_map, List.length_map, List.length_range, sizeLine_eq]; have := C0.small; omega, _, _, _, rfl, x7.mut nfl0, by rw [upd_ne nst]; exact hst7, ?_, kvs7, by rw [upd_ne ndf]; exact hF7.at_, hF7.ks.mono t7, hF7.rows, hF7.has, hF7.len⟩
        rw [upd_same, List.range_succ, List.map_append, nV, nV, List.map_append]
        rfl
      have hst6 := x6.lst hst2
      refine ⟨_, rfl, _, rfl, d, kvs, keyP (key i), rfl, hFI6.at_, hFI6.ks, kv6, keyP_dep _, _, rfl, ?_⟩
      by_cases hin : keyP (key i) ∈ kvs.map (·.1)
      · rw [decide_eq_true hin]
        refine iteF ?_
        obtain ⟨kv, hit⟩ := hFI6.item keyP_inj hin
        exact ⟨_, rfl, .inl ⟨rfl, _, SqL.of hfl6⟩, _, rfl, _, rfl, d, kvs, keyP (key i), kv, _, rfl, hFI6.at_, hFI6.ks, kv6, keyP_dep _, hit, last H6 kvs X6 hst6 hfl6 (hFI6.keep hin) kv6⟩
      · rw [decide_eq_false hin]
        refine iteT ⟨_, rfl, _, rfl, _, rfl, d, kvs, keyP (key i), rfl, hFI6.at_, hFI6.ks, kv6, keyP_dep _, hin, by have := hFI6.len; have := C0.small; rw [sizeLine_eq]; omega, ?_⟩
        have hF7 := hFI6.add keyP_inj hi hin kv6 (keyP_dep _)
        have t7 : TupK H6 (upd H6 d (DN w d (kvs ++ [(keyP (key i), .ref kp, .int (i : Nat))]))) := (TupK.refl H6).mut fun vs e => by rw [hFI6.at_] at e; unfold DN at e; cases e
        have nfd : fl ≠ d := ne_of hfl6 hFI6.at_ (by unfold DN; intro q; cases q)
        have nsd : st ≠ d := ne_of hst6 hFI6.at_ (by unfold DN; intro q; cases q)
        have kv7 := kv6.mono t7
        have hin7 : keyP (key i) ∈ (kvs ++ [(keyP (key i), V.ref kp, V.int (i : Nat))]).map (·.1) := by simp
        obtain ⟨kv, hit⟩ := hF7.item keyP_inj (x := i) hin7
        have hfl7 : upd H6 d (DN w d (kvs ++ [(keyP (key i), .ref kp, .int (i : Nat))])) fl = some (.lst (nV ((List.range i).map (fstOf R.m key)))) := by rw [upd_ne nfd]; exact hfl6
        exact ⟨_, rfl, .inl ⟨rfl, _, SqL.of hfl7⟩, _, rfl, _, rfl, d, _, keyP (key i), kv, _, rfl, hF7.at_, hF7.ks, kv7, keyP_dep _, hit, last _ _ (X6.mut nd0) (by rw [upd_ne nsd]; exact hst6) hfl7 hF7 kv7⟩
    · rintro σ H2 ⟨v9, v10, v11, rfl, x2, hst2, hfl, kvs, hFI⟩
      exact ⟨_, rfl, q H2 fl steps x2 (fun z hz => (hst.mem z).mpr hz) hfl⟩
end
end Tw
set_option maxRecDepth 100000
set_option maxHeartbeats 2000000
/-! leaders. -/
namespace Tw
open PySem PySem.Spec PyProof.Rows L2
/-! ### lists of numbers compared -/
def intsD (l : List Nat) : PyData := .list (l.map fun z : Nat => PyData.int (z : Int))
theorem intsD_all (l : List Nat) : PyData.canLayAll0 (l.map fun z : Nat => PyData.int (z : Int)) = true ∧ PyData.depthAll (l.map fun z : Nat => PyData.int (z : Int)) ≤ 1 := by
  induction l with
  | nil => exact ⟨rfl, by simp [PyData.depthAll]⟩
  | cons a l ih =>
    refine ⟨?_, ?_⟩
    · simp only [List.map_cons, PyData.canLayAll0, Bool.and_eq_true]
      exact ⟨rfl, ih.1⟩
    · simp only [List.map_cons, PyData.depthAll, PyData.depth]
      have := ih.2
      omega
theorem intsD_shaped (l : List Nat) : SeqAt.shaped (intsD l) = true := by
  obtain ⟨h1, h2⟩ := intsD_all l
  have h3 : PyData.depth (intsD l) ≤ 64 := by
    unfold intsD
    simp only [PyData.depth]
    omega
  show (PyData.canLay0 (intsD l) && decide (PyData.depth (intsD l) ≤ 64)) = true
  rw [Bool.and_eq_true]
  exact ⟨by unfold intsD; simp only [PyData.canLay0]; exact h1, decide_eq_true h3⟩
theorem intsD_eqvAll : ∀ a b : List Nat, PyData.eqvAll (a.map fun z : Nat => PyData.int (z : Int)) (b.map fun z : Nat => PyData.int (z : Int)) = decide (a = b)
  | [], [] => by simp [PyData.eqvAll]
  | [], _ :: _ => by simp [PyData.eqvAll]
  | _ :: _, [] => by simp [PyData.eqvAll]
  | x :: a, y :: b => by
    have ih := intsD_eqvAll a b
    simp only [List.map_cons, PyData.eqvAll, PyData.eqv, ih]
    rw [Bool.eq_iff_iff]
    simp only [Bool.and_eq_true, beq_iff_eq, decide_eq_true_eq, List.cons.injEq]
    exact ⟨fun h => ⟨Int.ofNat.inj h.1, h.2⟩, fun h => ⟨congrArg _ h.1, h.2⟩⟩
theorem intsD_eqv (a b : List Nat) : PyData.eqv (intsD a) (intsD b) = decide (a = b) := by
  unfold intsD
  simp only [PyData.eqv]
  exact intsD_eqvAll a b
theorem intsD_dp {K : PySem.W.Frag} {H : Hp} {l : Addr} {a : List Nat} (h : H l = some (.lst (nV a))) : Dp K H (.ref l) (intsD a) := by
  refine .lst (SqL.of h) ?_
  clear h
  induction a with
  | nil => exact .nil
  | cons x a ih => exact .cons (.int _) ih

section
variable {P : Program} {w : World} {K : PySem.W.Frag} {mg : Str → Option Value} {base : Heap}
def spLeaders : Sp := fun vs H Q _ => ∃ (r ks : Addr) (R : Rd), vs = [.ref r, .ref ks] ∧ RdrV H r R ∧ Cls0 R ∧ H ks = some (.lst ((List.range R.m).map fun x => V.bl (decide (x ∈ R.acc)))) ∧
  ∀ H' l cl, Ex H H' → Cong R cl → H' l = some (.lst (nV cl)) → Q (.ref l) H'
def kkB (b : Bool) : NKey := .num (b2n b)
theorem kkB_inj (a b : Bool) (h : kkB a = kkB b) : a = b := by
  cases a <;> cases b <;> first | rfl | (exfalso; revert h; decide +kernel)
theorem kkB_dep (b : Bool) : (kkB b).depth ≤ 8 := by cases b <;> decide +kernel
abbrev nLed : List Str := ["reader", "keys", "first", "classes", "x", "key", "finer"]
theorem scLed : FnScope nLed ["reader", "keys"] (defScope s_leaders) := ⟨rfl, rfl, rfl, by decide +kernel, rfl, by decide +kernel, by decide +kernel⟩
theorem ok_leaders (T : Tx w K mg) : Gd P w K mg base CX0 2 (He.ga K "leaders") ["reader", "keys"] spLeaders := by
  obtain ⟨fd, F⟩ := T.f_leaders
  have GS := ok_split (P := P) (base := base) T
  refine ⟨fd, F.ok scLed (fun vs H Q E h => ?_) (fun cdv A outer s H vs Q E hr h => ?_), F.bindsN fun _ _ _ _ _ _ us hl => match us, hl with | [_, _], _ => rfl, F.kp⟩
  · obtain ⟨r, ks, R, rfl, _⟩ := h
    rfl
  · obtain ⟨r, ks, R, rfl, hR, C0, hks, q⟩ := h
    have hu64 := hr.units
    refine ⟨_, PSs.nox (pss_cons (ps_set (i := 2) scLed.nd rfl (.inl rfl) (pe_newNW (w := w)))
      (pss_cons (ps_set (i := 3) scLed.nd rfl (.inl rfl) (pe_lst pa_nil))
      (pss_cons (ps_for PassesOwn.never rfl (pi_enum rfl T.m_enumerate (pa_cons (pv 1) pa_nil)) (pg_tup rfl (pgs_cons (pg_name (i := 4) scLed.nd rfl (.inl rfl)) (pgs_cons (pg_name (i := 5) scLed.nd rfl (.inl rfl)) pgs_nil)))
        (pss_cons (ps_if (pt_cmpR (op_notInNW (w := w) hu64) (pv 5) (pv 2) (by rfl)) (pss_one (ps_asg (pv 4) (pg_sub (pv 2) (pv 5) (set_dNW (w := w) hu64)))) pss_nil)
        (pss_one (ps_expr (pe_bm PySem.F.plainAttrs_list PySem.F.slot_list_append PySem.F.type_list_append mt_append (pv 3) (pa_cons (pe_itemNW (w := w) hu64 (pv 2) (pv 5) (fun _ _ => rfl)) pa_nil))))))
      (pss_cons (ps_set (i := 6) scLed.nd rfl (.inl rfl) (pe_cG GS hr rfl T.g_split pass0 (pa_cons (pv 0) (pa_cons (pv 3) pa_nil))))
      (pss_cons (ps_while PassesOwn.never (pt_cmpR (op_neD hu64) (pv 6) (pv 3) (nomark _))
        (pss_cons (ps_set (i := 3) scLed.nd rfl (.inl rfl) (pv 6)) (pss_one (ps_set (i := 6) scLed.nd rfl (.inl rfl) (pe_cG GS hr rfl T.g_split pass0 (pa_cons (pv 0) (pa_cons (pv 3) pa_nil)))))))
      (pss_one (ps_ret (pv 3)))))))), ?_⟩
    -- first = {}; classes = []
    intro d nd
    refine ⟨(by show 0 ≤ sizeLine; decide), fun fl nfl => ?_⟩
    have ndl : d ≠ fl := ne_of_none upd_same nfl
    have x2 : Ex H (upd (upd H d (DN w d [])) fl (.lst [])) := (Ex.add nd).new nfl
    have nfl0 : H fl = none := (Ex.add nd).free nfl
    let key : Nat → Bool := fun x => decide (x ∈ R.acc)
    have hkl : ((List.range R.m).map fun x => V.bl (decide (x ∈ R.acc))).length = R.m := by rw [List.length_map, List.length_range]
    refine ⟨_, rfl, ks, _, rfl, SqL.of (x2.lst hks), for_enum (K := K) (a := ks) (xs := (List.range R.m).map fun x => V.bl (decide (x ∈ R.acc))) (fun i σ H2 => ∃ v4 v5, σ = [some (.ref r), some (.ref ks), some (.ref d), some (.ref fl), v4, v5, none] ∧
      Ex H H2 ∧ H2 fl = some (.lst (nV ((List.range i).map (fstOf R.m key)))) ∧ ∃ kvs, FI w H2 d R.m i key kkB kvs)
      ⟨none, none, rfl, x2, upd_same, [], by rw [upd_ne ndl]; exact upd_same, KeysV.nil, fun row h => (by cases h), fun y h => absurd h (Nat.not_lt_zero _), Nat.le_refl _⟩ (fun i σ H2 _ ⟨_, _, _, x, _⟩ => SqL.of (x.lst hks)) ?_ ?_⟩
    · rintro i y TT σ H2 hi ⟨v4, v5, rfl, x2, hfl, kvs, hFI⟩ nT
      have hil : i < R.m := by rw [← hkl]; exact (List.getElem?_eq_some_iff.mp hi).1
      have ey : y = V.bl (key i) := by
        rw [List.getElem?_map, List.getElem?_range hil] at hi
        exact (Option.some.inj hi).symm
      subst ey
      have xT : Ex H2 (upd H2 TT (.tup [.int (i : Nat), .bl (key i)])) := Ex.add nT
      refine ⟨TT, _, rfl, sqT_of upd_same, rfl, _, _, rfl, _, _, rfl, rfl, ?_⟩
      have hFI6 := hFI.mono xT
      have hfl6 := xT.lst hfl
      have X6 := x2.trans xT
      generalize upd H2 TT (.tup [.int (i : Nat), .bl (key i)]) = H6 at hFI6 hfl6 X6
      have kv6 : ∀ H : Hp, KeyV H (kkB (key i)) (.bl (key i)) := fun H => .bool rfl
      have last : ∀ (H7 : Hp) (kvs7 : List RowV), Ex H H7 → H7 fl = some (.lst (nV ((List.range i).map (fstOf R.m key)))) → FI w H7 d R.m (i + 1) key kkB kvs7 →
          ∃ l xs y, V.ref fl = .ref l ∧ [V.int (fstOf R.m key i : Nat)] = [y] ∧ H7 l = some (.lst xs) ∧ xs.length < sizeLine ∧ ∃ v4 v5, [some (V.ref r), some (.ref ks), some (.ref d), some (.ref fl), some (.int (i : Nat)), some (.bl (key i)), none] = [some (V.ref r), some (.ref ks), some (.ref d), some (.ref fl), v4, v5, none] ∧
            Ex H (upd H7 l (.lst (xs ++ [y]))) ∧ upd H7 l (.lst (xs ++ [y])) fl = some (.lst (nV ((List.range (i + 1)).map (fstOf R.m key)))) ∧ ∃ kvs, FI w (upd H7 l (.lst (xs ++ [y]))) d R.m (i + 1) key kkB kvs := by
        intro H7 kvs7 x7 hfl7 hF7
        have ndf : d ≠ fl := ne_of hF7.at_ hfl7 (by unfold DN; intro q; cases q)
        have t7 : TupK H7 (upd H7 fl (.lst (nV ((List.range i).map (fstOf R.m key)) ++ [.int (fstOf R.m key i : Nat)]))) := (TupK.refl H7).mut fun vs e => by rw [hfl7] at e; cases e
        refine ⟨fl, _, _, rfl, rfl, hfl7, by rw [List.length_map, List.length_map, List.length_range, sizeLine_eq]; have := C0.small; omega, _, _, rfl, x7.mut nfl0, ?_, kvs7, by rw [upd_ne ndf]; exact hF7.at_, hF7.ks.mono t7, hF7.rows, hF7.has, hF7.len⟩
        rw [upd_same, List.range_succ, List.map_append, nV, nV, List.map_append]
        rfl
      refine ⟨_, rfl, _, rfl, d, kvs, kkB (key i), rfl, hFI6.at_, hFI6.ks, kv6 _, kkB_dep _, _, rfl, ?_⟩
      by_cases hin : kkB (key i) ∈ kvs.map (·.1)
      · rw [decide_eq_true hin]
        refine iteF ?_
        obtain ⟨kv, hit⟩ := hFI6.item kkB_inj hin
        exact ⟨_, rfl, .inl ⟨rfl, _, SqL.of hfl6⟩, _, rfl, _, rfl, d, kvs, kkB (key i), kv, _, rfl, hFI6.at_, hFI6.ks, kv6 _, kkB_dep _, hit, last H6 kvs X6 hfl6 (hFI6.keep hin)⟩
      · rw [decide_eq_false hin]
        refine iteT ⟨_, rfl, _, rfl, _, rfl, d, kvs, kkB (key i), rfl, hFI6.at_, hFI6.ks, kv6 _, kkB_dep _, hin, by have := hFI6.len; have := C0.small; rw [sizeLine_eq]; omega, ?_⟩
        have hF7 := hFI6.add kkB_inj hil hin (kv6 _) (kkB_dep _)
        have nfd : fl ≠ d := ne_of hfl6 hFI6.at_ (by unfold DN; intro q; cases q)
        have hin7 : kkB (key i) ∈ (kvs ++ [(kkB (key i), V.bl (key i), V.int (i : Nat))]).map (·.1) := by simp
        obtain ⟨kv, hit⟩ := hF7.item kkB_inj (x := i) hin7
        have hfl7 : upd H6 d (DN w d (kvs ++ [(kkB (key i), .bl (key i), .int (i : Nat))])) fl = some (.lst (nV ((List.range i).map (fstOf R.m key)))) := by rw [upd_ne nfd]; exact hfl6
        exact ⟨_, rfl, .inl ⟨rfl, _, SqL.of hfl7⟩, _, rfl, _, rfl, d, _, kkB (key i), kv, _, rfl, hF7.at_, hF7.ks, kv6 _, kkB_dep _, hit, last _ _ (X6.mut nd) hfl7 hF7⟩
    · rintro σ H2 ⟨v4, v5, rfl, x2, hfl, kvs, hFI⟩
      rw [hkl] at hfl
      have L1 : Lead R (fsts R.m key) := Lead.first
      -- finer = split(reader, classes)
      refine ⟨_, rfl, _, rfl, r, fl, R, fsts R.m key, rfl, x2.rdr hR, C0, hfl, fsts_len _ _, fun H3 l3 steps x3 hs3 hl3 => ?_⟩
      refine ⟨fun μ σ H4 => ∃ (c1 c2 : Addr) (cl steps : List Nat), σ = [some (.ref r), some (.ref ks), some (.ref d), some (.ref c1), v4, v5, some (.ref c2)] ∧ Ex H H4 ∧ H4 c1 = some (.lst (nV cl)) ∧ H4 c2 = some (.lst (nV (fsts R.m (keyS R steps cl)))) ∧ Lead R cl ∧ (∀ z ∈ R.letters, z ∈ steps) ∧ μ = slack R.m cl,
        ⟨_, fl, l3, _, steps, rfl, x2.trans x3, x3.lst hfl, hl3, L1, hs3, rfl⟩, ?_⟩
      rintro μ σ H4 ⟨c1, c2, cl, steps, rfl, x4, h1, h2, L4, hs4, rfl⟩
      refine ⟨_, rfl, _, rfl, intsD _, intsD _, intsD_dp h2, intsD_dp h1, intsD_shaped _, intsD_shaped _, _, rfl, ?_⟩
      rw [intsD_eqv]
      by_cases e : fsts R.m (keyS R steps cl) = cl
      · rw [decide_eq_true e]
        exact iteF ⟨_, rfl, q H4 c1 cl x4 (L4.cong hs4 e) h1⟩
      · rw [decide_eq_false e]
        refine iteT ⟨fun σ H5 => ∃ μ', μ' < slack R.m cl ∧ ∃ (c1 c2 : Addr) (cl steps : List Nat), σ = [some (.ref r), some (.ref ks), some (.ref d), some (.ref c1), v4, v5, some (.ref c2)] ∧ Ex H H5 ∧ H5 c1 = some (.lst (nV cl)) ∧ H5 c2 = some (.lst (nV (fsts R.m (keyS R steps cl)))) ∧ Lead R cl ∧ (∀ z ∈ R.letters, z ∈ steps) ∧ μ' = slack R.m cl, fun _ _ h => h, ?_⟩
        have L5 : Lead R (fsts R.m (keyS R steps cl)) := L4.split
        refine ⟨_, rfl, _, rfl, _, rfl, r, c2, R, _, rfl, x4.rdr hR, C0, h2, fsts_len _ _, fun H5 l5 steps5 x5 hs5 hl5 => ?_⟩
        refine ⟨_, slack_lt R.m cl (fsts R.m (keyS R steps cl)) (by rw [L4.len, L5.len]) (fun x hx => L4.ge (by rw [← L4.len]; exact hx)) (fun x hx => ?_) (fun h => e h.symm), c2, l5, _, steps5, rfl, x4.trans x5, x5.lst h2, hl5, L5, hs5, rfl⟩
        obtain ⟨y, hy, rfl⟩ := List.mem_map.mp hx
        exact (fstOf_spec (List.mem_range.mp hy)).1
end
end Tw
set_option maxRecDepth 100000
set_option maxHeartbeats 2000000
/-! Leaders.__init__, least. -/
namespace Tw
open PySem PySem.Spec PyProof.Rows L2
section
variable {P : Program} {w : World} {K : PySem.W.Frag} {mg : Str → Option Value} {base : Heap}
/-- what of the program itself is asked -/
structure PrOk (P : Program) : Prop where
  file : P.main.file = mainFile
  top : (P.main.scope.names.lookup ("super" : Str)).isSome = false
theorem Tx.supB (T : Tx w K mg) : supB K = true := by
  have h := T.more
  unfold ex at h
  obtain ⟨_, h⟩ := He.ba h
  obtain ⟨_, h⟩ := He.ba h
  obtain ⟨_, h⟩ := He.ba h
  obtain ⟨_, h⟩ := He.ba h
  obtain ⟨_, h⟩ := He.ba h
  exact (He.ba h).2
theorem Tx.exc (T : Tx w K mg) : Exc K := by
  have h := T.more
  unfold ex at h
  obtain ⟨h1, h⟩ := He.ba h
  obtain ⟨h2, h⟩ := He.ba h
  obtain ⟨h3, h⟩ := He.ba h
  obtain ⟨h4, h⟩ := He.ba h
  exact ⟨h1, h2, of_decide_eq_true h3, of_decide_eq_true h4⟩
theorem Tx.sup (T : Tx w K mg) (hP : PrOk P) : ∃ fd, Sup P K mg "__init__" "Leaders.__init__" (defArgs s_Leaders___init__) (defBody s_Leaders___init__) (defScope s_Leaders___init__) (He.fAd K ("Leaders", some "__init__")) fd (He.ga K "Leaders") (He.fAd K ("Table", some "__init__")) (codeL K) (cellOf K) ∧
    (∃ kV doc pm an ct, fd = PySem.W.ksFn "__init__" "Leaders.__init__" (defArgs s_Leaders___init__) (defBody s_Leaders___init__) (defScope s_Leaders___init__) .none kV doc pm an (.ref (codeL K)) ct (cellOf K)) := by
  have h := T.supB
  unfold Tw.supB at h
  obtain ⟨h0, h⟩ := He.ba h
  obtain ⟨hd, hcode⟩ := He.ba h0
  obtain ⟨hfile, h⟩ := He.ba h
  obtain ⟨hcell, h⟩ := He.ba h
  obtain ⟨hcls, h⟩ := He.ba h
  obtain ⟨hmro, h⟩ := He.ba h
  obtain ⟨hsup, h⟩ := He.ba h
  obtain ⟨hop, h⟩ := He.ba h
  obtain ⟨hty, hfi⟩ := He.ba h
  have hy := T.y
  unfold fnY at hy
  unfold dflN at hd
  cases q : K.lookup (He.fAd K ("Leaders", some "__init__")) with
  | none => rw [q] at hd; cases hd
  | some o =>
    obtain ⟨oc, od, dt, osl⟩ := o
    rw [q] at hd hy
    cases dt with
    | func fd =>
      obtain ⟨n1, n2, n3, n4, n5, n6, n7, n8, n9, n10, n11, n12, n13, n14, n15⟩ := fd
      have hy2 : (some (n1, n2, n3, n4, n5, n6, n7.map (·.1), n15) : FnY) = some (("__init__" : Str), ("Leaders.__init__" : Str), defArgs s_Leaders___init__, FuncBody.stmts (defBody s_Leaders___init__), defScope s_Leaders___init__, mainGlobals, [("__class__" : Str)], builtinsNs) := hy
      simp only [Option.some.injEq, Prod.mk.injEq] at hy2
      obtain ⟨e1, e2, e3, e4, e5, e6, e7, e8⟩ := hy2
      subst e1 e2 e3 e4 e5 e6 e8
      have hn8 : n8 = .none := by
        clear hy q
        cases n8 <;> first | rfl | (exfalso; revert hd; cases n13 <;> intro hd <;> cases hd)
      subst hn8
      obtain ⟨c, rfl⟩ : ∃ c, n13 = .ref c := by
        clear hy q
        cases n13 <;> first | exact ⟨_, rfl⟩ | (exfalso; cases hd)
      obtain ⟨cc, rfl⟩ : ∃ cc, n7 = [(("__class__" : Str), cc)] := by
        match n7, e7 with
        | [(a, b)], e7 =>
          have e7 : [a] = [("__class__" : Str)] := e7
          injection e7 with e7
          exact ⟨b, by rw [e7]⟩
      have ec : codeL K = c := by
        unfold codeL
        exact He.codeOf_eq q rfl
      have ecc : cellOf K = cc := by
        unfold cellOf
        rw [q]
      refine ⟨_, ⟨⟨oc, od, .none, n9, n10, n11, n12, n14, osl, rfl, by rw [q, ec, ecc]⟩, hcode, ?_, ?_, T.m_super, hP.top, He.eqO_ok hop, of_decide_eq_true hty, hfi⟩, n9, n10, n11, n12, n14, rfl⟩
      · cases q2 : K.lookup (codeL K) with
        | none => rw [q2] at hfile; cases hfile
        | some o2 =>
          obtain ⟨a, b, dt2, sl⟩ := o2
          rw [q2] at hfile
          cases dt2 with
          | fields vs =>
            have hf2 : (match (vs[2]? : Option Value) with | some (.str fi _) => mainFile == fi | _ => false) = true := hfile
            cases q3 : (vs[2]? : Option Value) with
            | none => rw [q3] at hf2; cases hf2
            | some v =>
              rw [q3] at hf2
              cases v with
              | str fi tf => exact ⟨a, b, vs, sl, fi, tf, rfl, q3, by rw [hP.file]; exact hf2⟩
              | _ => cases hf2
          | _ => cases hfile
      · cases q2 : K.lookup (cellOf K) with
        | none => rw [q2] at hcell; cases hcell
        | some o2 =>
          obtain ⟨a, b, dt2, sl⟩ := o2
          rw [q2] at hcell
          cases dt2 with
          | cell v =>
            cases v with
            | none => cases hcell
            | some v =>
              cases v with
              | ref D =>
                have eD : D = He.ga K "Leaders" := of_decide_eq_true hcell
                subst eD
                obtain ⟨cd, hcd⟩ := Option.isSome_iff_exists.mp hcls
                exact ⟨_, a, b, sl, cd, rfl, hcd, of_decide_eq_true hmro, He.eqO_ok hsup⟩
              | _ => cases hcell
          | _ => cases hcell
    | _ => cases hd
/-! ### Leaders.__init__ -/
def spLInit (K : PySem.W.Frag) : Sp := fun vs H Q _ => ∃ (t dx r lg : Addr), vs = [.ref t, .ref r, .ref lg] ∧ H t = some (.ins (He.ga K "Leaders") dx []) ∧ Q .non (upd H t (.ins (He.ga K "Leaders") dx (lf r lg)))
theorem scLI : SupScope ["self", "reader", "leading"] ["self", "reader", "leading"] (defScope s_Leaders___init__) := ⟨by decide +kernel, rfl, rfl, rfl, rfl, by decide +kernel, by decide +kernel, by decide +kernel, rfl, rfl⟩
theorem ok_linit (T : Tx w K mg) (hP : PrOk P) : Gd P w K mg base CX0 2 (He.fAd K ("Leaders", some "__init__")) ["self", "reader", "leading"] (spLInit K) := by
  obtain ⟨fd, U, kV, doc, pm, an, ct, efd⟩ := T.sup hP
  obtain ⟨fd2, F2, b2, _⟩ := ok_tinit (P := P) (base := base) T T.c_Leaders T.n_Leaders_reader
  have hkp : PySem.W.keepIn K (.ref (He.fAd K ("Leaders", some "__init__"))) = true := by
    obtain ⟨oc, od, dV, kV, doc, pm, an, ct, osl, rfl, lk⟩ := U.fn
    have lk2 : List.lookup (He.fAd K ("Leaders", some "__init__")) K = _ := lk
    simp only [PySem.W.keepIn, lk2]
  refine ⟨fd, ?_, ?_, hkp⟩
  · refine fn_super (k := 1) U scLI rfl rfl rfl F2 b2 (fun vs H Q E h => ?_) (fun A outer s H vs Q E hr h => ?_)
    · obtain ⟨t, dx, r, lg, rfl, _⟩ := h
      rfl
    · obtain ⟨t, dx, r, lg, rfl, ht, q⟩ := h
      refine ⟨_, _, t, dx, [], E0, pa_cons (pv 1) pa_nil, PSs.nox (pss_one (ps_fld (pv 0) (pv 2) rfl)), pass0, rfl, ht, ?_⟩
      refine ⟨_, rfl, rfl, t, dx, r, rfl, ht, ?_⟩
      refine ⟨_, rfl, _, rfl, t, _, dx, _, rfl, upd_same, T.c_Leaders, T.n_Leaders_leading, (by show 1 < 1000; decide), ?_⟩
      rw [upd_upd]
      exact q
  · subst efd
    exact Binds.all fun us hl => match us, hl with | [_, _, _], _ => rfl
end
end Tw
set_option maxRecDepth 100000
set_option maxHeartbeats 2000000
/-! least. -/
namespace Tw
open PySem PySem.Spec PyProof.Rows L2
section
variable {P : Program} {w : World} {K : PySem.W.Frag} {mg : Str → Option Value} {base : Heap}
/-- made_reader of any Leaders -/
structure LdI where
  R : Rd
  cl : List Nat
  cnt : Nat
  L : List Nat → Bool
  v : List Nat → Nat
  hh : Hom R cnt L v
  sq : ∀ row ∈ R.mul, row.length = R.m
  cg : Cong R cl
theorem gd_madeLead (T : Tx w K mg) (TB : GxR.TabB base mg (cQ K).1 (cQ K).2) : Gd P w K mg base (L2.CX P w) (LV + 2) (He.ga K "made_reader") ["table", "count"] fun vs H Q E => ∃ i : LdI, spMade K (clLead K i.R i.cl i.cnt i.L i.v) vs H Q E := by
  obtain ⟨fd, F⟩ := T.f_made_reader
  exact ⟨fd, fnOk_all fun i : LdI => ok_made T T.exc TB _ (cl_lead T i.hh i.sq i.cg) fd F, F.bindsN fun _ _ _ _ _ _ us hl => match us, hl with | [_, _], _ => rfl, F.kp⟩
def spLeast (K : PySem.W.Frag) : Sp := fun vs H Q _ => ∃ (r : Addr) (R : Rd) (cnt : Nat) (L : List Nat → Bool), vs = [.ref r] ∧ RdrV H r R ∧ RInv R cnt L ∧ GxR.TabG H (cQ K).2 ∧ cnt ≤ 4000 ∧
  ∀ H' a R', Ex H H' → RdrV H' a R' → RInv R' cnt L → R'.m ≤ R.m → Q (.ref a) H'
abbrev nLst : List Str := ["reader", "small", "keys", "x"]
theorem scLst : FnScope nLst ["reader"] (defScope s_least) := ⟨rfl, rfl, rfl, by decide +kernel, rfl, by decide +kernel, by decide +kernel⟩
theorem ok_least (T : Tx w K mg) (hP : PrOk P) (TB : GxR.TabB base mg (cQ K).1 (cQ K).2) : Gd P w K mg base (L2.CX P w) (LV + 4) (He.ga K "least") ["reader"] (spLeast K) := by
  obtain ⟨fd, F⟩ := T.f_least
  have GN := ok_numbered (P := P) T T.exc TB
  have GM := gd_madeLead (P := P) T TB
  have GL := ok_linit (P := P) (base := base) T hP
  have GD := ok_leaders (P := P) (base := base) T
  refine ⟨fd, F.ok scLst (fun vs H Q E h => ?_) (fun cdv A outer s H vs Q E hr h => ?_), F.bindsN fun _ _ _ _ _ _ us hl => match us, hl with | [_], _ => rfl, F.kp⟩
  · obtain ⟨r, R, cnt, L, rfl, _⟩ := h
    rfl
  · obtain ⟨r, R, cnt, L, rfl, hR, hI, hT, hc, q⟩ := h
    have hr2 : Room 2 _ := hr.mono (by decide)
    have hr3 : Room 3 _ := hr.mono (by decide)
    have hrM : Room (LV + 2) _ := hr.mono (by decide)
    refine ⟨_, pss_cons (ps_set (i := 1) scLst.nd rfl (.inr rfl) (pe_cG GN hr rfl T.g_numbered (passes_call (takes_of rfl rfl rfl rfl) (fun _ _ _ _ h => h)) (pa_cons (pv 0) pa_nil)))
      (pss_cons (ps_setLc (i := 2) (own := [("x", 3)]) (g := gName 3) (tt := tYes) rfl scLst.nd rfl rfl (sw_true rfl rfl rfl (by decide +kernel)) (pi_range1 rfl T.m_range (pa_cons (pe_callB call_len_seq rfl T.m_len PySem.boot_len (pa_cons (pe_ix ix_tup (pv 1) pe_int (fun _ _ => rfl)) pa_nil)) pa_nil))
        (blkOk_by (own := [("x", 3)]) (N := nLst) (sc := defScope s_least) (by decide +kernel)) (fun _ _ _ _ _ => pg_name (i := 3) scLst.nd rfl (Or.inl rfl)) (fun _ _ _ _ _ => pts_nil)
        (fun _ _ _ _ _ => pe_cmpR (op_in_seqK (K := K)) (pv 3) (pe_ix (ix_tupK (K := K)) (pv 1) pe_int (fun _ _ => rfl)) (by rfl)))
      (pss_one (ps_ret (pe_cG GM hrM rfl T.g_made_reader (passes_call (takes_of rfl rfl rfl rfl) (fun _ _ _ _ h => h)) (pa_cons (pe_kG T.m_Leaders GL hr3 rfl T.g_Leaders pass0 (pa_cons (pv 1) (pa_cons (pe_cG GD hr2 rfl T.g_leaders pass0 (pa_cons (pv 1) (pa_cons (pv 2) pa_nil))) pa_nil)))
        (pa_cons (pe_callB call_len_seq rfl T.m_len PySem.boot_len (pa_cons (pe_ix ix_tup (pv 0) pe_int (fun _ _ => rfl)) pa_nil)) pa_nil)))))), ?_⟩
    -- small = numbered(reader)
    refine ⟨_, rfl, r, R, cnt, L, rfl, hR, hI, hT, by omega, fun H1 r1 R1 x1 hR1 hI1 hm1 => ?_⟩
    obtain ⟨lt1, mt1, at1, as1, h1, h2, h3, h4, h5⟩ := id hR1
    have hml : as1.length = R1.m := h4.1
    have sm := hI1.small
    -- keys
    refine ⟨_, rfl, r1, _, 2, _, rfl, rfl, sqT_of h1, rfl, mt1, _, rfl, .inr (sqT_of h3), ((as1.map V.ref).length : Int), rfl, by rw [List.length_map, hml]; omega, by rw [List.length_map, hml]; omega, fun D nD => ?_⟩
    refine lc_rangeN (n := R1.m) (by rw [List.length_map, hml]; simp) (fun i H2 => Ex H1 H2 ∧ H2 D = some (.lst ((List.range i).map fun x => V.bl (decide (x ∈ R1.acc))))) ⟨Ex.add nD, upd_same⟩ ?_ ?_
    · rintro i H2 hi ⟨x2, hD⟩
      refine ⟨rfl, _, rfl, _, rfl, r1, _, 3, _, rfl, rfl, sqT_of (x2.tup h1), rfl, at1, _, rfl, .inr (sqT_of (x2.tup h5)), rfl, nV_flat _, ?_⟩
      have e1 : (if false = true then !inV (.int (i : Nat)) (nV R1.acc) else inV (.int (i : Nat)) (nV R1.acc)) = decide (i ∈ R1.acc) := by
        rw [if_neg Bool.false_ne_true, inV_nat]
      rw [e1]
      refine ⟨_, hD, by rw [List.length_map, List.length_range, sizeLine_eq]; omega, x2.mut nD, ?_⟩
      rw [upd_same, List.range_succ, List.map_append]
      rfl
    rintro H2 ⟨x2, hD⟩
    -- Leaders(small, leaders(small, keys))
    have X2 := x1.trans x2
    refine ⟨_, rfl, _, rfl, _, rfl, r1, D, R1, rfl, x2.rdr hR1, hI1.cls0 hc, hD, fun H3 lg cl x3 cg hlg => ?_⟩
    obtain ⟨v1, hh1⟩ := hI1.hom
    intro x dx nx nd ne
    refine ⟨x, dx, r1, lg, rfl, upd_same, rfl, ?_⟩
    rw [upd_upd]
    have x4 : Ex H3 (upd (upd H3 dx (.own x)) x (.ins (He.ga K "Leaders") dx (lf r1 lg))) := (Ex.add nd).new (by rw [upd_ne ne.symm]; exact nx)
    have hx4 : upd (upd H3 dx (.own x)) x (.ins (He.ga K "Leaders") dx (lf r1 lg)) x = some (.ins (He.ga K "Leaders") dx (lf r1 lg)) := upd_same
    generalize upd (upd H3 dx (.own x)) x (.ins (He.ga K "Leaders") dx (lf r1 lg)) = H4 at x4 hx4
    have X4 := (X2.trans x3).trans x4
    obtain ⟨lt0, mt0, at0, as0, g1, g2, g3, g4, g5⟩ := id hR
    have hll : (nV R.letters).length = cnt := by rw [List.length_map]; exact hI.lenL
    refine ⟨_, rfl, r, _, 1, _, rfl, rfl, sqT_of (X4.tup g1), rfl, lt0, _, rfl, .inr (sqT_of (X4.tup g2)), ?_⟩
    have vD : ∀ u, Wd cnt u → gt cl (v1 u) ∈ List.range R1.m := fun u hu => List.mem_range.mpr (cg.toLead.lt (hh1.lt u hu))
    refine ⟨⟨R1, cl, cnt, L, v1, hh1, hI1.sq, cg⟩, x, by rw [hll]; rfl, ⟨dx, r1, lg, hx4, ((x2.trans x3).trans x4).rdr hR1, x4.lst hlg⟩, X4.tabG hT, by show cnt ≤ 4096; omega, fun H5 _ hm => ?_, fun H5 a R2 x5 hR2 hI2 hF => ?_⟩
    · have := many_le (f := fun u => gt cl (v1 u)) (cnt := cnt) (D := List.range R1.m) vD hm
      rw [List.length_range] at this
      omega
    · obtain ⟨xs, hF, e⟩ := hF
      have hle : (xs : List Nat).length ≤ (List.range R1.m).length := found_le (f := fun u => gt cl (v1 u)) (cnt := cnt) vD hF
      rw [List.length_range] at hle
      exact q H5 a R2 (X4.trans x5) hR2 hI2 (by rw [e]; exact Nat.le_trans hle hm1)
end
end Tw
set_option maxRecDepth 100000
set_option maxHeartbeats 2000000
/-! plain_part, part_reader. -/
namespace Tw
open PySem PySem.Spec PyProof.Rows L2
section
variable {P : Program} {w : World} {K : PySem.W.Frag} {mg : Str → Option Value} {base : Heap}
theorem if_false_of {c : Bool} {A B : Prop} (hc : c = false) (h : B) : if c = true then A else B := by rw [hc]; exact iteF h
def clsOf : Ln → Str
  | .one _ => "OnePart"
  | .next _ _ => "NextPart"
  | .first _ => "EndPart"
  | .last _ => "EndPart"
  | _ => "AllPart"
def spPlain (K : PySem.W.Frag) : Sp := fun vs H Q _ => ∃ (sa : Addr) (S : List Ln) (n k : Nat) (l : Ln), vs = [.ref sa, .int (n : Int), .int (k : Int)] ∧ SenV H sa S ∧ S[n]? = some l ∧
  ∀ H' t, Ex H H' → PIs (He.ga K (clsOf l)) sa S l k H' t → Q (.ref t) H'
theorem scPlain : FnScope ["sentence", "number", "sets", "name"] ["sentence", "number", "sets"] (defScope s_plain_part) := ⟨rfl, rfl, rfl, by decide +kernel, rfl, by decide +kernel, by decide +kernel⟩
theorem PIs.made {C sa x dx ln : Addr} {S : List Ln} {l : Ln} {k : Nat} {H : Hp} (hS : SenV H sa S) (hln : H ln = some (.tup (lnV l))) (nx : H x = none) (nd : H dx = none) (ne : dx ≠ x) :
    Ex H (upd (upd (upd H dx (.own x)) x (.ins C dx [])) x (.ins C dx (pf sa ln k))) ∧ PIs C sa S l k (upd (upd (upd H dx (.own x)) x (.ins C dx [])) x (.ins C dx (pf sa ln k))) x := by
  have e1 : Ex H (upd (upd H dx (.own x)) x (.ins C dx [])) := (Ex.add nd).new (by rw [upd_ne ne.symm]; exact nx)
  have e2 := e1.mut (p := x) (o := .ins C dx (pf sa ln k)) nx
  exact ⟨e2, dx, ln, upd_same, e2.sen hS, e2.tup hln⟩
theorem ok_plain (T : Tx w K mg) : Gd P w K mg base CX0 3 (He.ga K "plain_part") ["sentence", "number", "sets"] (spPlain K) := by
  obtain ⟨fd, F⟩ := T.f_plain_part
  have I1 := ok_pinit (P := P) (w := w) (mg := mg) (base := base) T.c_AllPart T.n_AllPart_sentence T.n_AllPart_line T.n_AllPart_sets T.f_AllPart___init__
  have I2 := ok_pinit (P := P) (w := w) (mg := mg) (base := base) T.c_OnePart T.n_OnePart_sentence T.n_OnePart_line T.n_OnePart_sets T.f_OnePart___init__
  have I3 := ok_pinit (P := P) (w := w) (mg := mg) (base := base) T.c_NextPart T.n_NextPart_sentence T.n_NextPart_line T.n_NextPart_sets T.f_NextPart___init__
  have I4 := ok_pinit (P := P) (w := w) (mg := mg) (base := base) T.c_EndPart T.n_EndPart_sentence T.n_EndPart_line T.n_EndPart_sets T.f_EndPart___init__
  refine ⟨fd, F.ok scPlain (fun vs H Q E h => ?_) (fun cdv A outer s H vs Q E hr h => ?_), F.bindsN fun _ _ _ _ _ _ us hl => match us, hl with | [_, _, _], _ => rfl, F.kp⟩
  · obtain ⟨sa, S, n, k, l, rfl, _⟩ := h
    rfl
  · obtain ⟨sa, S, n, k, l, rfl, hS, hl, q⟩ := h
    refine ⟨_, PSs.nox (pss_cons (ps_set (i := 3) scPlain.nd rfl (.inl rfl) (pe_ix ix_tup (pe_ix ix_tup (pv 0) (pv 1) (fun _ _ => rfl)) pe_int (fun _ _ => rfl)))
      (pss_cons (ps_if (pt_cmpR op_eq (pv 3) pe_str (nomark _)) (pss_one (ps_ret (pe_kG T.m_OnePart I2 hr rfl T.g_OnePart pass0 (pa_cons (pv 0) (pa_cons (pv 1) (pa_cons (pv 2) pa_nil)))))) pss_nil)
      (pss_cons (ps_if (pt_cmpR op_eq (pv 3) pe_str (nomark _)) (pss_one (ps_ret (pe_kG T.m_NextPart I3 hr rfl T.g_NextPart pass0 (pa_cons (pv 0) (pa_cons (pv 1) (pa_cons (pv 2) pa_nil)))))) pss_nil)
      (pss_cons (ps_if (pt_cmpR op_in_seq (pv 3) (pe_tup (pa_cons pe_str (pa_cons pe_str pa_nil))) (by rfl)) (pss_one (ps_ret (pe_kG T.m_EndPart I4 hr rfl T.g_EndPart pass0 (pa_cons (pv 0) (pa_cons (pv 1) (pa_cons (pv 2) pa_nil)))))) pss_nil)
      (pss_one (ps_ret (pe_kG T.m_AllPart I1 hr rfl T.g_AllPart pass0 (pa_cons (pv 0) (pa_cons (pv 1) (pa_cons (pv 2) pa_nil)))))))))), ?_⟩
    obtain ⟨xs, t, h1, h2, h3, _⟩ := hS.line hl
    -- how each ends
    have fin : ∀ {H1 : Hp} (x1 : Ex H H1) (C : Addr) (_ : C = He.ga K (clsOf l)), ∀ x dx, H1 x = none → H1 dx = none → dx ≠ x → spPInit C (V.ref x :: ([V.ref sa, V.int (n : Int), V.int (k : Int)] ++ [])) (upd (upd H1 dx (.own x)) x (.ins C dx [])) (fun v H2 => v = .non ∧ Q (.ref x) H2) E0 := by
      intro H1 x1 C eC x dx nx nd ne
      have hS1 := x1.sen hS
      have x2 : Ex H1 (upd (upd H1 dx (.own x)) x (.ins C dx [])) := (Ex.add nd).new (by rw [upd_ne ne.symm]; exact nx)
      refine ⟨x, dx, sa, n, k, S, l, rfl, upd_same, x2.sen hS1, hl, fun ln hln => ⟨rfl, ?_⟩⟩
      have x3 := x2.mut (p := x) (o := .ins C dx (pf sa ln k)) nx
      have nlx : ln ≠ x := ne_of hln upd_same (by intro q; cases q)
      subst eC
      exact q _ x (x1.trans x3) ⟨dx, ln, upd_same, x3.sen hS1, by rw [upd_ne nlx]; exact hln⟩
    cases l with
    | one i =>
      refine ⟨_, rfl, _, rfl, sa, xs, n, _, rfl, rfl, sqT_of h1, h2, t, _, 0, _, rfl, rfl, sqT_of h3, rfl, ?_⟩
      refine ⟨_, rfl, rfl, _, rfl, itT ⟨_, rfl, _, rfl, _, rfl, fin (Ex.refl H) _ rfl⟩⟩
    | next c d =>
      refine ⟨_, rfl, _, rfl, sa, xs, n, _, rfl, rfl, sqT_of h1, h2, t, _, 0, _, rfl, rfl, sqT_of h3, rfl, ?_⟩
      refine ⟨_, rfl, rfl, _, rfl, itF (by decide +kernel) ⟨_, rfl, rfl, _, rfl, itT ⟨_, rfl, _, rfl, _, rfl, fin (Ex.refl H) _ rfl⟩⟩⟩
    | first c =>
      refine ⟨_, rfl, _, rfl, sa, xs, n, _, rfl, rfl, sqT_of h1, h2, t, _, 0, _, rfl, rfl, sqT_of h3, rfl, ?_⟩
      refine ⟨_, rfl, rfl, _, rfl, itF (by decide +kernel) ⟨_, rfl, rfl, _, rfl, itF (by decide +kernel) ⟨_, rfl, (by show 2 ≤ sizeLine; decide), fun p np => ⟨p, _, rfl, .inr (sqT_of upd_same), rfl, rfl, _, rfl, ?_⟩⟩⟩⟩
      have e : inV (.str "first") [.str "first", .str "last"] = true := by decide +kernel
      show if inV (.str "first") [.str "first", .str "last"] = true then _ else _
      rw [e]
      exact iteT ⟨_, rfl, _, rfl, _, rfl, fin (Ex.add np) _ rfl⟩
    | last c =>
      refine ⟨_, rfl, _, rfl, sa, xs, n, _, rfl, rfl, sqT_of h1, h2, t, _, 0, _, rfl, rfl, sqT_of h3, rfl, ?_⟩
      refine ⟨_, rfl, rfl, _, rfl, itF (by decide +kernel) ⟨_, rfl, rfl, _, rfl, itF (by decide +kernel) ⟨_, rfl, (by show 2 ≤ sizeLine; decide), fun p np => ⟨p, _, rfl, .inr (sqT_of upd_same), rfl, rfl, _, rfl, ?_⟩⟩⟩⟩
      have e : inV (.str "last") [.str "first", .str "last"] = true := by decide +kernel
      show if inV (.str "last") [.str "first", .str "last"] = true then _ else _
      rw [e]
      exact iteT ⟨_, rfl, _, rfl, _, rfl, fin (Ex.add np) _ rfl⟩
    | _ =>
      refine ⟨_, rfl, _, rfl, sa, xs, n, _, rfl, rfl, sqT_of h1, h2, t, _, 0, _, rfl, rfl, sqT_of h3, rfl, ?_⟩
      refine ⟨_, rfl, rfl, _, rfl, itF (by decide +kernel) ⟨_, rfl, rfl, _, rfl, itF (by decide +kernel) ⟨_, rfl, (by show 2 ≤ sizeLine; decide), fun p np => ⟨p, _, rfl, .inr (sqT_of upd_same), rfl, rfl, _, rfl, ?_⟩⟩⟩⟩
      refine if_false_of (by decide +kernel) ⟨_, rfl, _, rfl, _, rfl, fin (Ex.add np) _ rfl⟩
/-! ### part_reader -/
def keyNK (p : Nat × Nat) : NKey := .tup [.num (p.1 : Int), .num (p.2 : Int)]
theorem keyNK_inj (a b : Nat × Nat) (h : keyNK a = keyNK b) : a = b := by
  obtain ⟨a1, a2⟩ := a
  obtain ⟨b1, b2⟩ := b
  unfold keyNK at h
  injection h with h
  injection h with h1 h2
  injection h2 with h2
  have e1 : a1 = b1 := natKey_inj _ _ h1
  have e2 : a2 = b2 := natKey_inj _ _ h2
  rw [e1, e2]
theorem keyNK_dep (a : Nat × Nat) : (keyNK a).depth ≤ 8 := dep_tup [_, _]
/-- the readers made so far, of the lines ps -/
def MdV (w : World) (H : Hp) (md : Addr) (S : List Ln) (cnt : Nat) (ps : List (Nat × Nat)) : Prop := ∃ kvs : List RowV, H md = some (DN w md kvs) ∧ KeysV H kvs ∧ kvs.map (·.1) = ps.map keyNK ∧
  ∀ row ∈ kvs, ∃ n k a R, row.1 = keyNK (n, k) ∧ row.2.2 = V.ref a ∧ RdrV H a R ∧ RInv R (cnt * 2 ^ k) (Lang S n k) ∧ R.m ≤ bnd S n
theorem MdV.mono {H H' : Hp} {md : Addr} {S : List Ln} {cnt : Nat} {ps : List (Nat × Nat)} (x : Ex H H') (h : MdV w H md S cnt ps) : MdV w H' md S cnt ps := by
  obtain ⟨kvs, h1, h2, h3, h4⟩ := h
  exact ⟨kvs, x.dn h1, x.keys h2, h3, fun row hr => let ⟨n, k, a, R, e1, e2, e3, e4⟩ := h4 row hr; ⟨n, k, a, R, e1, e2, x.rdr e3, e4⟩⟩
/-- made[(n, k)] -/
theorem MdV.item {H : Hp} {md kp : Addr} {S : List Ln} {cnt n k : Nat} {ps : List (Nat × Nat)} (h : MdV w H md S cnt ps) (hp : (n, k) ∈ ps) (hk : H kp = some (.tup [.int (n : Int), .int (k : Int)])) :
    ∃ a R, RdrV H a R ∧ RInv R (cnt * 2 ^ k) (Lang S n k) ∧ R.m ≤ bnd S n ∧ ∀ Q : VK, Q (.ref a) H → rItemN w (.ref md) (.ref kp) H Q := by
  obtain ⟨kvs, h1, h2, h3, h4⟩ := h
  have hm : keyNK (n, k) ∈ kvs.map (·.1) := by rw [h3]; exact List.mem_map.mpr ⟨_, hp, rfl⟩
  obtain ⟨row, hr, e⟩ := List.mem_map.mp hm
  obtain ⟨n', k', a, R, e1, e2, e3, e4, e5⟩ := h4 row hr
  have eq := keyNK_inj _ _ (e1.symm.trans e)
  cases eq
  refine ⟨a, R, e3, e4, e5, fun Q q => ⟨md, kvs, keyNK (n, k), row.2.1, .ref a, rfl, h1, h2, .tup hk (.cons (.int _) (.cons (.int _) .nil)), keyNK_dep _, ?_, q⟩⟩
  rw [← e, ← e2]
  exact hr
theorem at0 (v : V) (xs : List V) : atI (v :: xs) 0 = some v := atI_nat (j := 0) rfl
theorem few_of {α : Type} [BEq α] [LawfulBEq α] {f : List Nat → α} {cnt m : Nat} {D : List α} (h : ∀ u, Wd cnt u → f u ∈ D) (hD : D.length = m) (hm : m ≤ 300) : ¬ Many f cnt ∧ ∀ xs, Found f cnt xs → xs.length ≤ m :=
  ⟨fun q => by have := many_le h q; omega, fun xs F => hD ▸ found_le h F⟩
/-- the plain lines, each with its class -/
def isPlain : Ln → Bool
  | .all _ => true
  | .next _ _ => true
  | .first _ => true
  | .last _ => true
  | .nothing => true
  | .one _ => true
  | _ => false
theorem plain_cl (T : Tx w K mg) {sa : Addr} {S : List Ln} {n k cnt : Nat} {l : Ln} (hp : PLn S n k l) (hl : isPlain l = true) : ∃ c : Cl, ClOk P w K mg base c ∧ (∀ H t, PIs (He.ga K (clsOf l)) sa S l k H t → c.Is H t) ∧ c.cnt = cnt ∧ c.L = Lang S n k ∧ ¬ Many c.f c.cnt ∧ ∀ xs, Found c.f c.cnt xs → xs.length ≤ bnd S n := by
  have e := hp.at_
  cases l with
  | all c =>
    have D : ∀ u, Wd cnt u → fAll (pAll S (.all c) k) u ∈ [true, false] := fun u _ => by cases fAll (pAll S (.all c) k) u <;> simp
    exact ⟨clAll K sa S n k (.all c) cnt, cl_all T hp rfl, fun _ _ h => h, rfl, rfl, (few_of D rfl (by decide)).1, fun xs hF => by
      rw [bnd, e]; exact (few_of D rfl (by decide)).2 xs hF⟩
  | nothing =>
    have D : ∀ u, Wd cnt u → fAll (pAll S .nothing k) u ∈ [true, false] := fun u _ => by cases fAll (pAll S .nothing k) u <;> simp
    exact ⟨clAll K sa S n k .nothing cnt, cl_all T hp rfl, fun _ _ h => h, rfl, rfl, (few_of D rfl (by decide)).1, fun xs hF => by
      rw [bnd, e]; exact (few_of D rfl (by decide)).2 xs hF⟩
  | one i =>
    have D : ∀ u, Wd cnt u → fOne (pOne i k) u ∈ [0, 1, 2] := fun u _ => fOne_mem _ u
    exact ⟨clOne K sa S n k i cnt, cl_one T hp, fun _ _ h => h, rfl, rfl, (few_of D rfl (by decide)).1, fun xs hF => by
      rw [bnd, e]; exact (few_of D rfl (by decide)).2 xs hF⟩
  | next c d =>
    have D : ∀ u, Wd cnt u → fNx (fun lab => plm S k lab c) (fun lab => plm S k lab d) u ∈ [Nx.none, .broken, .pair false false, .pair false true, .pair true false, .pair true true] := fun u _ => nx_mem _
    exact ⟨clNext K sa S n k c d cnt, cl_next T hp, fun _ _ h => h, rfl, rfl, (few_of D rfl (by decide)).1, fun xs hF => by
      rw [bnd, e]; exact (few_of D rfl (by decide)).2 xs hF⟩
  | first c =>
    have D : ∀ u, Wd cnt u → fEnd true (fun lab => plm S k lab c) u ∈ [none, some false, some true] := fun u _ => ob_mem _
    exact ⟨clEnd K sa S n k true c cnt, cl_end T hp, fun _ _ h => h, rfl, rfl, (few_of D rfl (by decide)).1, fun xs hF => by
      rw [bnd, e]; exact (few_of D rfl (by decide)).2 xs hF⟩
  | last c =>
    have D : ∀ u, Wd cnt u → fEnd false (fun lab => plm S k lab c) u ∈ [none, some false, some true] := fun u _ => ob_mem _
    exact ⟨clEnd K sa S n k false c cnt, cl_end T hp, fun _ _ h => h, rfl, rfl, (few_of D rfl (by decide)).1, fun xs hF => by
      rw [bnd, e]; exact (few_of D rfl (by decide)).2 xs hF⟩
  | _ => cases hl
/-- the lines about words that a line names -/
def Deps (S : List Ln) (ps : List (Nat × Nat)) (n k : Nat) : Prop := match S[n]? with
  | some (.denied f) => (f, k) ∈ ps
  | some (.both f g) => (f, k) ∈ ps ∧ (g, k) ∈ ps
  | some (.there f) => (f, k + 1) ∈ ps
  | _ => True
def spPart (w : World) (K : PySem.W.Frag) : Sp := fun vs H Q E => ∃ (cnt : Nat) (sa : Addr) (S : List Ln) (n k : Nat) (md : Addr) (ps : List (Nat × Nat)), vs = [.int (cnt : Int), .ref sa, .int (n : Int), .int (k : Int), .ref md] ∧
  SenV H sa S ∧ WF S ∧ S.length ≤ 64 ∧ KindAt S n false ∧ k ≤ 6 ∧ cnt ≤ 60 ∧ MdV w H md S cnt ps ∧ Deps S ps n k ∧ GxR.TabG H (cQ K).2 ∧ GxR.TabG H (cP K).2 ∧
  (∀ H', Ex H H' → 300 < bnd S n → E (.ref (CM K)) none H') ∧ ∀ H' a R, Ex H H' → RdrV H' a R → RInv R (cnt * 2 ^ k) (Lang S n k) → R.m ≤ bnd S n → Q (.ref a) H'
theorem scPart : FnScope ["count", "sentence", "number", "sets", "made", "line", "part"] ["count", "sentence", "number", "sets", "made"] (defScope s_part_reader) := ⟨rfl, rfl, rfl, by decide +kernel, rfl, by decide +kernel, by decide +kernel⟩
theorem ok_part (T : Tx w K mg) (hP : PrOk P) (TB : GxR.TabB base mg (cQ K).1 (cQ K).2) (TP : GxR.TabB base mg (cP K).1 (cP K).2) : Gd P w K mg base (L2.CX P w) (LV + 5) (He.ga K "part_reader") ["count", "sentence", "number", "sets", "made"] (spPart w K) := by
  obtain ⟨fd, F⟩ := T.f_part_reader
  have GD := ok_denied (P := P) (base := base) T
  have GJ := ok_joint (P := P) T T.exc TB
  have GL := ok_least (P := P) T hP TB
  have GP := ok_plain (P := P) (base := base) T
  have GH := ok_hinit (P := P) (base := base) T
  have GW := ok_width (P := P) (base := base) T
  refine ⟨fd, F.ok scPart (fun vs H Q E h => ?_) (fun cdv A outer s H vs Q E hr h => ?_), F.bindsN fun _ _ _ _ _ _ us hl => match us, hl with | [_, _, _, _, _], _ => rfl, F.kp⟩
  · obtain ⟨cnt, sa, S, n, k, md, ps, rfl, _⟩ := h
    rfl
  · obtain ⟨cnt, sa, S, n, k, md, ps, rfl, hS, W, hlen, ⟨l, hl, hpl⟩, hk, hc, hM, hdep, hTQ, hTP, qE, q⟩ := h
    have hu64 := hr.units
    have hr1 : Room 1 _ := hr.mono (by decide)
    have hr3 : Room 3 _ := hr.mono (by decide)
    have hrM : Room (LV + 2) _ := hr.mono (by decide)
    have hrJ : Room (LV + 3) _ := hr.mono (by decide)
    obtain ⟨xs, t, h1, h2, h3, _⟩ := hS.line hl
    have hp6 : 2 ^ k ≤ 2 ^ 6 := Nat.pow_le_pow_right (by decide) hk
    have hp0 : 0 < 2 ^ k := Nat.two_pow_pos k
    have hcnt : cnt * 2 ^ k ≤ 60 * 64 := Nat.mul_le_mul hc hp6
    have PL : ∀ l, S[n]? = some l → PLn S n k l := fun l e => ⟨W, hlen, e, by omega⟩
    have tu : {X : Cx} → {σ : L2.St} → True := trivial
    -- the last line: least(made_reader(part, count * width(sets)))
    have dep : ∀ l', S[n]? = some l' → l' = l := fun l' e => by rw [hl] at e; exact (Option.some.inj e).symm
    unfold Deps at hdep
    rw [hl] at hdep
    have plain : isPlain l = true → ∃ t, PSs (cxOf (L2.CX P w) P w K mg base ["count", "sentence", "number", "sets", "made", "line", "part"] "part_reader" (defScope s_part_reader) (He.fAd K ("part_reader", none)) cdv A outer s H E) (defBody s_part_reader) t ∧
        t { nx := fun _ H' => Q .non H', rt := Q } (L2.start ["count", "sentence", "number", "sets", "made", "line", "part"] [.int (cnt : Int), .ref sa, .int (n : Int), .int (k : Int), .ref md]) H := by
      intro hpp
      obtain ⟨c, O, hIs, ec, eL, hNo, hF⟩ := plain_cl (P := P) (base := base) (cnt := cnt * 2 ^ k) (sa := sa) T (PL l hl) hpp
      have GM := gd_made T T.exc TB c O
      refine ⟨_, pss_cons (ps_set (i := 5) scPart.nd rfl (.inl rfl) (pe_ix ix_tup (pv 1) (pv 2) (fun _ _ => rfl)))
        (pss_cons (ps_if (pt_cmpR op_eq (pe_ix ix_tup (pv 5) pe_int (fun _ _ => rfl)) pe_str (nomark _)) pss_never pss_nil)
        (pss_cons (ps_if (pt_cmpR op_eq (pe_ix ix_tup (pv 5) pe_int (fun _ _ => rfl)) pe_str (nomark _)) pss_never pss_nil)
        (pss_cons (ps_if (pt_cmpR op_eq (pe_ix ix_tup (pv 5) pe_int (fun _ _ => rfl)) pe_str (nomark _)) pss_never
          (pss_one (ps_set (i := 6) scPart.nd rfl (.inl rfl) (pe_cG GP hr3 rfl T.g_plain_part pass0 (pa_cons (pv 1) (pa_cons (pv 2) (pa_cons (pv 3) pa_nil)))))))
        (pss_one (ps_ret (pe_cG GL hr rfl T.g_least (passes_call (takes_of rfl rfl rfl rfl) (fun _ _ _ _ h => h)) (pa_cons (pe_cG GM hrM rfl T.g_made_reader (passes_call (takes_of rfl rfl rfl rfl) (fun _ _ _ _ h => h)) (pa_cons (pv 6) (pa_cons
          (pe_op op_mulN (pv 0) (pe_cG GW hr1 rfl T.g_width pass0 (pa_cons (pv 3) pa_nil))) pa_nil))) pa_nil))))))), ?_⟩
      have ne : ∃ x xs', lnV l = .str x :: xs' ∧ x ≠ "denied" ∧ x ≠ "both" ∧ x ≠ "there" := by
        cases l <;> first | (exact ⟨_, _, rfl, by decide +kernel, by decide +kernel, by decide +kernel⟩) | cases hpp
      obtain ⟨x, xs', ex, n1, n2, n3⟩ := ne
      rw [ex] at h3
      refine ⟨_, rfl, _, rfl, sa, xs, n, _, rfl, rfl, sqT_of h1, h2, ?_⟩
      refine ⟨_, rfl, t, _, 0, _, rfl, rfl, sqT_of h3, (by exact at0 _ _), rfl, _, rfl, itF n1 ?_⟩
      refine ⟨_, rfl, t, _, 0, _, rfl, rfl, sqT_of h3, (by exact at0 _ _), rfl, _, rfl, itF n2 ?_⟩
      refine ⟨_, rfl, t, _, 0, _, rfl, rfl, sqT_of h3, (by exact at0 _ _), rfl, _, rfl, itF n3 ?_⟩
      refine ⟨_, rfl, _, rfl, _, rfl, sa, S, n, k, l, rfl, hS, hl, fun H1 pt x1 hpt => ?_⟩
      refine ⟨_, rfl, _, rfl, _, rfl, k, rfl, by omega, cnt, 2 ^ k, rfl, rfl, by omega, ?_⟩
      refine ⟨pt, by rw [ec]; rfl, hIs _ _ hpt, x1.tabG hTQ, by rw [ec]; omega, fun H2 _ hm => absurd hm hNo, fun H2 a R x2 hR hI hFd => ?_⟩
      obtain ⟨ys, hFy, em⟩ := hFd
      rw [ec, eL] at hI
      refine ⟨a, R, cnt * 2 ^ k, Lang S n k, rfl, hR, hI, (x1.trans x2).tabG hTQ, by omega, fun H3 a3 R3 x3 hR3 hI3 hle => ?_⟩
      exact q H3 a3 R3 ((x1.trans x2).trans x3) hR3 hI3 (Nat.le_trans hle (by rw [em]; exact hF ys hFy))
    cases l with
    | denied f =>
      have hf := (W n _ hl : f < n ∧ KindAt S f false)
      refine ⟨_, pss_cons (ps_set (i := 5) scPart.nd rfl (.inl rfl) (pe_ix ix_tup (pv 1) (pv 2) (fun _ _ => rfl)))
        (pss_cons (ps_if (pt_cmpR op_eq (pe_ix ix_tup (pv 5) pe_int (fun _ _ => rfl)) pe_str (nomark _))
          (pss_one (ps_ret (pe_cG GD hr1 rfl T.g_denied pass0 (pa_cons (pe_itemNW (w := w) hu64 (pv 4) (pe_tup (pa_cons (pe_ix ix_tup (pv 5) pe_int (fun _ _ => rfl)) (pa_cons (pv 3) pa_nil))) (fun _ _ => rfl)) pa_nil)))) pss_nil) pss_never), ?_⟩
      refine ⟨_, rfl, _, rfl, sa, xs, n, _, rfl, rfl, sqT_of h1, h2, ?_⟩
      refine ⟨_, rfl, t, _, 0, _, rfl, rfl, sqT_of h3, rfl, rfl, _, rfl, itT ?_⟩
      refine ⟨_, rfl, _, rfl, t, _, 1, _, rfl, rfl, sqT_of h3, rfl, _, rfl, (by show 2 ≤ sizeLine; decide), fun kp nkp => ?_⟩
      have x1 : Ex H (upd H kp (.tup [.int (f : Int), .int (k : Int)])) := Ex.add nkp
      obtain ⟨a, R, hR, hI, hm, hit⟩ := (hM.mono x1).item (n := f) (k := k) hdep upd_same
      refine hit _ ⟨a, R, rfl, hR, hI.small, fun H2 a2 x2 hR2 => ?_⟩
      exact q H2 a2 R.deny (x1.trans x2) hR2 (hI.deny.congr fun u _ => (lang_denied hl hf.1 u).symm) (by rw [bnd_denied hl hf.1]; exact hm)
    | both f g =>
      have hfg := (W n _ hl : (f < n ∧ KindAt S f false) ∧ (g < n ∧ KindAt S g false))
      refine ⟨_, pss_cons (ps_set (i := 5) scPart.nd rfl (.inl rfl) (pe_ix ix_tup (pv 1) (pv 2) (fun _ _ => rfl)))
        (pss_cons (ps_if (pt_cmpR op_eq (pe_ix ix_tup (pv 5) pe_int (fun _ _ => rfl)) pe_str (nomark _)) pss_never pss_nil)
        (pss_cons (ps_if (pt_cmpR op_eq (pe_ix ix_tup (pv 5) pe_int (fun _ _ => rfl)) pe_str (nomark _))
          (pss_one (ps_ret (pe_cG GL hr rfl T.g_least (passes_call (takes_of rfl rfl rfl rfl) (fun _ _ _ _ h => h)) (pa_cons (pe_cG GJ hrJ rfl T.g_joint (passes_call (takes_of rfl rfl rfl rfl) (fun _ _ _ _ h => h)) (pa_cons pe_str
            (pa_cons (pe_itemNW (w := w) hu64 (pv 4) (pe_tup (pa_cons (pe_ix ix_tup (pv 5) pe_int (fun _ _ => rfl)) (pa_cons (pv 3) pa_nil))) (fun _ _ => rfl))
            (pa_cons (pe_itemNW (w := w) hu64 (pv 4) (pe_tup (pa_cons (pe_ix ix_tup (pv 5) pe_int (fun _ _ => rfl)) (pa_cons (pv 3) pa_nil))) (fun _ _ => rfl)) pa_nil)))) pa_nil)))) pss_nil) pss_never)), ?_⟩
      refine ⟨_, rfl, _, rfl, sa, xs, n, _, rfl, rfl, sqT_of h1, h2, ?_⟩
      refine ⟨_, rfl, t, _, 0, _, rfl, rfl, sqT_of h3, rfl, rfl, _, rfl, itF (by decide +kernel) ?_⟩
      refine ⟨_, rfl, t, _, 0, _, rfl, rfl, sqT_of h3, rfl, rfl, _, rfl, itT ?_⟩
      refine ⟨_, rfl, _, rfl, t, _, 1, _, rfl, rfl, sqT_of h3, rfl, _, rfl, (by show 2 ≤ sizeLine; decide), fun kp nkp => ?_⟩
      have x1 : Ex H (upd H kp (.tup [.int (f : Int), .int (k : Int)])) := Ex.add nkp
      obtain ⟨a, R, hR, hI, hm, hit⟩ := (hM.mono x1).item (n := f) (k := k) hdep.1 upd_same
      refine hit _ ?_
      generalize upd H kp (.tup [.int (f : Int), .int (k : Int)]) = H1 at x1 hR hit
      refine ⟨_, rfl, _, rfl, t, _, 2, _, rfl, rfl, sqT_of (x1.tup h3), rfl, _, rfl, (by show 2 ≤ sizeLine; decide), fun kp2 nkp2 => ?_⟩
      have x2 : Ex H1 (upd H1 kp2 (.tup [.int (g : Int), .int (k : Int)])) := Ex.add nkp2
      obtain ⟨a2, R2, hR2, hI2, hm2, hit2⟩ := ((hM.mono x1).mono x2).item (n := g) (k := k) hdep.2 upd_same
      refine hit2 _ ?_
      have X2 := x1.trans x2
      have big : 300 < R.m * R2.m → 300 < bnd S n := fun h => by
        rw [bnd_both hl hfg.1.1 hfg.2.1]
        have : R.m * R2.m ≤ bnd S f * bnd S g := Nat.mul_le_mul hm hm2
        omega
      refine ⟨a, a2, R, R2, cnt * 2 ^ k, Lang S f k, Lang S g k, rfl, x2.rdr hR, hR2, hI, hI2, X2.tabG hTQ, by omega, fun H3 x3 hb => qE H3 (X2.trans x3) (big hb), fun H3 a3 R3 x3 hR3 hI3 hm3 => ?_⟩
      refine ⟨a3, R3, cnt * 2 ^ k, Lang S n k, rfl, hR3, hI3.congr fun u _ => (lang_both hl hfg.1.1 hfg.2.1 u).symm, (X2.trans x3).tabG hTQ, by omega, fun H4 a4 R4 x4 hR4 hI4 hm4 => ?_⟩
      refine q H4 a4 R4 ((X2.trans x3).trans x4) hR4 hI4 ?_
      rw [bnd_both hl hfg.1.1 hfg.2.1]
      have : R.m * R2.m ≤ bnd S f * bnd S g := Nat.mul_le_mul hm hm2
      have := hI4.small
      omega
    | there f =>
      have hf := (W n _ hl : f < n ∧ KindAt S f false)
      obtain ⟨kvs, m1, m2, m3, m4⟩ := id hM
      have hm : keyNK (f, k + 1) ∈ kvs.map (·.1) := by rw [m3]; exact List.mem_map.mpr ⟨_, hdep, rfl⟩
      obtain ⟨row, hr_, e_⟩ := List.mem_map.mp hm
      obtain ⟨n', k', ar, R, e1, e2, hR, hI, hmR⟩ := m4 row hr_
      have eq := keyNK_inj _ _ (e1.symm.trans e_)
      cases eq
      have hp7 : 2 ^ (k + 1) = 2 * 2 ^ k := by rw [Nat.pow_succ]; omega
      obtain ⟨v, hh⟩ := hI.hom
      have O := cl_there (P := P) (base := base) (L' := Lang S n k) T TP hh hI.sq hI.small (by omega) (by omega) (fun u _ => lang_there hl hf.1 u)
      have GM := gd_made T T.exc TB _ O
      refine ⟨_, pss_cons (ps_set (i := 5) scPart.nd rfl (.inl rfl) (pe_ix ix_tup (pv 1) (pv 2) (fun _ _ => rfl)))
        (pss_cons (ps_if (pt_cmpR op_eq (pe_ix ix_tup (pv 5) pe_int (fun _ _ => rfl)) pe_str (nomark _)) pss_never pss_nil)
        (pss_cons (ps_if (pt_cmpR op_eq (pe_ix ix_tup (pv 5) pe_int (fun _ _ => rfl)) pe_str (nomark _)) pss_never pss_nil)
        (pss_cons (ps_if (pt_cmpR op_eq (pe_ix ix_tup (pv 5) pe_int (fun _ _ => rfl)) pe_str (nomark _))
          (pss_one (ps_set (i := 6) scPart.nd rfl (.inl rfl) (pe_kG T.m_TherePart GH hr3 rfl T.g_TherePart pass0 (pa_cons (pe_itemNW (w := w) hu64 (pv 4) (pe_tup (pa_cons (pe_ix ix_tup (pv 5) pe_int (fun _ _ => rfl)) (pa_cons (pe_op op_addN (pv 3) pe_int) pa_nil))) (fun _ _ => rfl)) (pa_cons (pv 3) pa_nil)))))
          pss_never)
        (pss_one (ps_ret (pe_cG GL hr rfl T.g_least (passes_call (takes_of rfl rfl rfl rfl) (fun _ _ _ _ h => h)) (pa_cons (pe_cG GM hrM rfl T.g_made_reader (passes_call (takes_of rfl rfl rfl rfl) (fun _ _ _ _ h => h)) (pa_cons (pv 6) (pa_cons
          (pe_op op_mulN (pv 0) (pe_cG GW hr1 rfl T.g_width pass0 (pa_cons (pv 3) pa_nil))) pa_nil))) pa_nil))))))), ?_⟩
      refine ⟨_, rfl, _, rfl, sa, xs, n, _, rfl, rfl, sqT_of h1, h2, ?_⟩
      refine ⟨_, rfl, t, _, 0, _, rfl, rfl, sqT_of h3, rfl, rfl, _, rfl, itF (by decide +kernel) ?_⟩
      refine ⟨_, rfl, t, _, 0, _, rfl, rfl, sqT_of h3, rfl, rfl, _, rfl, itF (by decide +kernel) ?_⟩
      refine ⟨_, rfl, t, _, 0, _, rfl, rfl, sqT_of h3, rfl, rfl, _, rfl, itT ?_⟩
      refine ⟨_, rfl, _, rfl, t, _, 1, _, rfl, rfl, sqT_of h3, rfl, _, rfl, ?_⟩
      refine ⟨k, 1, rfl, rfl, (by show 2 ≤ sizeLine; decide), fun kp nkp => ?_⟩
      have x1 : Ex H (upd H kp (.tup [.int (f : Int), .int ((k + 1 : Nat) : Int)])) := Ex.add nkp
      have hkp : upd H kp (.tup [.int (f : Int), .int ((k + 1 : Nat) : Int)]) kp = some (.tup [.int (f : Int), .int ((k + 1 : Nat) : Int)]) := upd_same
      refine ⟨md, kvs, keyNK (f, k + 1), row.2.1, .ref ar, rfl, x1.dn m1, x1.keys m2, .tup hkp (.cons (.int _) (.cons (.int _) .nil)), keyNK_dep _, by rw [← e_, ← e2]; exact hr_, ?_⟩
      generalize upd H kp (.tup [.int (f : Int), .int ((k + 1 : Nat) : Int)]) = H1 at x1 hkp
      refine ⟨_, rfl, fun x dx nx nd ne => ?_⟩
      have x2 : Ex H1 (upd (upd H1 dx (.own x)) x (.ins (He.ga K "TherePart") dx [])) := (Ex.add nd).new (by rw [upd_ne ne.symm]; exact nx)
      have x3 := x2.mut (p := x) (o := .ins (He.ga K "TherePart") dx (thf ar k)) nx
      refine ⟨x, dx, ar, k, rfl, by omega, upd_same, rfl, ?_⟩
      generalize hH3 : upd (upd (upd H1 dx (.own x)) x (.ins (He.ga K "TherePart") dx [])) x (.ins (He.ga K "TherePart") dx (thf ar k)) = H3 at x3
      have X3 := x1.trans x3
      have hth : ThIs K R k H3 x := ⟨dx, ar, by rw [← hH3]; exact upd_same, X3.rdr hR, X3.tabG hTP⟩
      refine ⟨_, rfl, _, rfl, _, rfl, k, rfl, by omega, cnt, 2 ^ k, rfl, rfl, by omega, ?_⟩
      have D : ∀ u, Wd (cnt * 2 ^ k) u → fTh k R.m v u ∈ pw R.m := fun u _ => fTh_pw u
      refine ⟨x, rfl, hth, X3.tabG hTQ, by show cnt * 2 ^ k ≤ 4096; omega, fun H4 x4 hM4 => ?_, fun H4 a4 R4 x4 hR4 hI4 hF4 => ?_⟩
      · refine qE H4 (X3.trans x4) ?_
        have hM4 : Many (fTh k R.m v) (cnt * 2 ^ k) := hM4
        have h9 := many_le D hM4
        rw [pw_length] at h9
        have h8 : 8 < bnd S f := by
          rcases Nat.lt_or_ge 8 R.m with h | h
          · omega
          · have := Nat.pow_le_pow_right (n := 2) (by decide) h
            omega
        rw [bnd_there hl hf.1, if_pos h8]
        decide
      · obtain ⟨ys, hFy, em⟩ := hF4
        have hFy : Found (fTh k R.m v) (cnt * 2 ^ k) ys := hFy
        have hI4 : RInv R4 (cnt * 2 ^ k) (Lang S n k) := hI4
        refine ⟨a4, R4, cnt * 2 ^ k, Lang S n k, rfl, hR4, hI4, (X3.trans x4).tabG hTQ, by omega, fun H5 a5 R5 x5 hR5 hI5 hle => ?_⟩
        refine q H5 a5 R5 ((X3.trans x4).trans x5) hR5 hI5 (Nat.le_trans hle ?_)
        have h9 := found_le D hFy
        rw [pw_length] at h9
        have := hI4.small
        rw [bnd_there hl hf.1]
        by_cases h8 : 8 < bnd S f
        · rw [if_pos h8]; omega
        · rw [if_neg h8, em]
          exact Nat.le_trans h9 (Nat.pow_le_pow_right (by decide) hmR)
    | all c => exact plain rfl
    | next c d => exact plain rfl
    | first c => exact plain rfl
    | last c => exact plain rfl
    | nothing => exact plain rfl
    | one i => exact plain rfl
    | _ => cases hpl
end
end Tw
set_option maxRecDepth 100000
set_option maxHeartbeats 2000000
/-! uses. -/
namespace Tw
open PySem PySem.Spec PyProof.Rows L2
/-! ### d.get(z, x) of a dict of the module -/
def tKGet (K : PySem.W.Frag) (d : Addr) (td ty tx : TE) : TE := fun σ H Q => td σ H fun x H1 => x = .ref d ∧ ty σ H1 fun y H2 => ∃ z r, y = .str z ∧ PySem.W.nsIn K d z = some r ∧ tx σ H2 fun dv H3 => ∃ v, (match r with | some u => RelV v u | none => v = dv) ∧ Q v H3
section
variable {X : Cx} {o e f : Expr} {apos cpos : Pos} {td ty tx : TE} {d : Addr} {es : Array DictEntry} {n : Nat}
theorem pe_kdget (D : KDict X.K X.w d es n) (ho : PE X o td) (he : PE X e ty) (hf : PE X f tx) (m : M2 X o "get" apos e f cpos) : PE X (.Call (.Attribute o "get" apos) [e, f] [] cpos) (tKGet X.K d td ty tx) := by
  refine ⟨fun pins s σ H Q I h => ?_⟩
  refine wpAny_Call_method m.base m.few m.line PySem.F.plainAttrs_dict PySem.F.slot_dict_get PySem.F.type_dict_get (thn (ho.run pins s σ H _ I h) fun u s1 ⟨x, H1, I1, rx, ex, q1⟩ => ?_)
  subst ex
  obtain rfl : u = Value.ref d := rx
  refine ⟨kd_type D I1, fun b q => ?_, ?_⟩
  · cases q
    exact ⟨_, I1.kIn _ _ D.at_, rfl⟩
  rw [m.trees]
  refine Calls.callWith_builtin rfl (Calls.evalArgs_plain (Calls.spliced_cons (thn (he.run pins s1 σ H1 _ I1 q1) fun iv s2 ⟨y, H2, I2, ry, z, r, ey, e1, q2⟩ =>
    Calls.spliced_cons (thn (hf.run pins s2 σ H2 _ I2 q2) fun fv s3 ⟨dv, H3, I3, rz, v, hv, q3⟩ => Calls.spliced_nil ?_))))
  subst ey
  obtain ⟨t, rfl⟩ := ry
  refine call_meetsIn PySem.F.slot_dict_get (kd_type D I3) PySem.F.entry_dict_get (PySem.F.args_dict_get_3 _ _ _) (meets_dict_get_default (PySem.strKind X.prog X.w) d (PySem.strKind_is X.prog X.w z t) D.low fv) ⟨_, PySem.W.mapOf_K (prog := X.prog) I3.kIn D.at_ D.lit, ?_⟩
  refine ⟨v, H3, I3.tok _, ?_, q3⟩
  rw [PySem.W.find_K D.at_ e1]
  cases r with
  | none => subst hv; exact rz
  | some u => exact hv
end
/-! ### what PARTS says of a line -/
def lnName : Ln → Str
  | .set _ => "set"
  | .letter _ => "letter"
  | .not _ => "not"
  | .and _ _ => "and"
  | .all _ => "all"
  | .next _ _ => "next"
  | .first _ => "first"
  | .last _ => "last"
  | .nothing => "nothing"
  | .one _ => "one"
  | .denied _ => "denied"
  | .both _ _ => "both"
  | .there _ => "there"
def nPt : Ln → Nat
  | .denied _ => 1
  | .both _ _ => 2
  | .there _ => 1
  | _ => 0
/-- the lines about words named by one, with the number of sets -/
def depL : Ln → Nat → List (Nat × Nat)
  | .denied f, k => [(f, k)]
  | .both f g, k => [(f, k), (g, k)]
  | .there f, k => [(f, k + 1)]
  | _, _ => []
theorem depL_len (l : Ln) (k : Nat) : (depL l k).length = nPt l := by cases l <;> rfl
theorem lnV_name (l : Ln) : (lnV l)[0]? = some (.str (lnName l)) := by cases l <;> rfl
/-- how many more -/
def moreN : Ln → Nat
  | .there _ => 1
  | _ => 0
theorem depL_at {l : Ln} {k j : Nat} {p : Nat × Nat} (h : (depL l k)[j]? = some p) : (lnV l)[j + 1]? = some (.int (p.1 : Int)) ∧ p.2 = k + moreN l := by
  cases l with
  | denied f =>
    cases j with
    | zero => cases h; exact ⟨rfl, rfl⟩
    | succ j => cases h
  | both f g =>
    cases j with
    | zero => cases h; exact ⟨rfl, rfl⟩
    | succ j => cases j with
      | zero => cases h; exact ⟨rfl, rfl⟩
      | succ j => cases h
  | there f =>
    cases j with
    | zero => cases h; exact ⟨rfl, rfl⟩
    | succ j => cases h
  | _ => cases h
theorem depL_us {S : List Ln} {t p q : Nat × Nat} {l : Ln} (h : Us S t p) (e : S[p.1]? = some l) (hq : q ∈ depL l p.2) : Us S t q := by
  obtain ⟨n, k⟩ := p
  cases l with
  | denied f =>
    obtain rfl := List.mem_singleton.mp hq
    exact .denied h e
  | both f g =>
    rcases List.mem_cons.mp hq with rfl | hq
    · exact .both1 h e
    · obtain rfl := List.mem_singleton.mp hq
      exact .both2 h e
  | there f =>
    obtain rfl := List.mem_singleton.mp hq
    exact .there h e
  | _ => cases hq
section
variable {P : Program} {w : World} {K : PySem.W.Frag} {mg : Str → Option Value} {base : Heap}
theorem Tx.parts (T : Tx w K mg) (l : Ln) : ∃ r, PySem.W.nsIn K (He.ga K "PARTS") (lnName l) = some r ∧ (match r with | some u => RelV (.int (nPt l : Int)) u | none => nPt l = 0) := by
  have h := T.more
  unfold ex at h
  obtain ⟨_, h⟩ := He.ba h
  obtain ⟨_, h⟩ := He.ba h
  obtain ⟨_, h⟩ := He.ba h
  obtain ⟨_, h⟩ := He.ba h
  obtain ⟨hv, h⟩ := He.ba h
  obtain ⟨ho, _⟩ := He.ba h
  have oth : ∀ z ∈ others, PySem.W.nsIn K (He.ga K "PARTS") z = some none := fun z hz => He.eqO_ok (List.all_eq_true.mp ho z hz)
  have val : ∀ q ∈ Tw.parts, ∃ u, PySem.W.nsIn K (He.ga K "PARTS") q.1 = some (some u) ∧ RelV (q.2.v K) u := fun q hq => He.valsB_ok hv hq
  cases l with
  | denied f => obtain ⟨u, h1, h2⟩ := val ("denied", .int 1) (.head _); exact ⟨_, h1, h2⟩
  | both f g => obtain ⟨u, h1, h2⟩ := val ("both", .int 2) (.tail _ (.head _)); exact ⟨_, h1, h2⟩
  | there f => obtain ⟨u, h1, h2⟩ := val ("there", .int 1) (.tail _ (.tail _ (.head _))); exact ⟨_, h1, h2⟩
  | _ => exact ⟨_, oth _ (by dsimp only [lnName]; decide +kernel), rfl⟩
/-! ### lists of pairs -/
/-- the pair's tuple -/
def prR (H : Hp) (p : Nat × Nat) (v : V) : Prop := ∃ t, v = .ref t ∧ H t = some (.tup [.int (p.1 : Int), .int (p.2 : Int)])
def PrsV (H : Hp) (a : Addr) (ps : List (Nat × Nat)) : Prop := ∃ ys, H a = some (.lst ys) ∧ Paired (prR H) ps ys
theorem prR.mono {H H' : Hp} (x : TupK H H') {p : Nat × Nat} {v : V} (h : prR H p v) : prR H' p v := by
  obtain ⟨t, e1, e2⟩ := h
  exact ⟨t, e1, x _ _ e2⟩
theorem PrsV.ex {H H' : Hp} (x : Ex H H') {a : Addr} {ps : List (Nat × Nat)} (h : PrsV H a ps) : PrsV H' a ps := by
  obtain ⟨ys, e1, e2⟩ := h
  exact ⟨ys, x.lst e1, Paired.mapP e2 fun _ _ r => r.mono x.tk⟩
theorem Paired.snoc {α β : Type} {F : α → β → Prop} : ∀ {xs : List α} {x : α} {ys : List β}, Paired F (xs ++ [x]) ys → ∃ ys' y, ys = ys' ++ [y] ∧ Paired F xs ys' ∧ F x y
  | [], x, _, .cons r .nil => ⟨[], _, rfl, .nil, r⟩
  | a :: xs, x, _, .cons r t => by
    obtain ⟨ys', y, e, h, q⟩ := Paired.snoc t
    exact ⟨_ :: ys', y, by rw [e]; rfl, .cons r h, q⟩
theorem Paired.leng {α β : Type} {F : α → β → Prop} : ∀ {xs : List α} {ys : List β}, Paired F xs ys → xs.length = ys.length
  | _, _, .nil => rfl
  | _, _, .cons _ t => by rw [List.length_cons, List.length_cons, Paired.leng t]
theorem Paired.perm {α β : Type} {F : α → β → Prop} : ∀ {ys ys' : List β}, ys'.Perm ys → ∀ {xs : List α}, Paired F xs ys → ∃ xs', xs'.Perm xs ∧ Paired F xs' ys' := by
  intro ys ys' hp
  induction hp with
  | nil => intro xs h; exact ⟨xs, .refl _, h⟩
  | cons y _ ih =>
    intro xs h
    cases h with
    | cons r t =>
      obtain ⟨zs, p, q⟩ := ih t
      exact ⟨_ :: zs, p.cons _, .cons r q⟩
  | swap y z l =>
    intro xs h
    cases h with
    | cons r t => cases t with
      | cons r2 t2 => exact ⟨_ :: _ :: _, .swap _ _ _, .cons r2 (.cons r t2)⟩
  | trans _ _ ih1 ih2 =>
    intro xs h
    obtain ⟨zs, p, q⟩ := ih2 h
    obtain ⟨us, p2, q2⟩ := ih1 q
    exact ⟨us, p2.trans p, q2⟩
/-- as data -/
def pD (p : Nat × Nat) : PyData := .tuple [.int p.1, .int p.2]
theorem pD_lay (p : Nat × Nat) : (pD p).canLay0 = true := by simp [pD, PyData.canLay0, PyData.canLayAll0]
theorem pD_depth (p : Nat × Nat) : (pD p).depth = 1 := by simp [pD, PyData.depth, PyData.depthAll]
theorem pDs_lay : ∀ ps : List (Nat × Nat), PyData.canLayAll0 (ps.map pD) = true
  | [] => by simp [PyData.canLayAll0]
  | z :: zs => by simp [PyData.canLayAll0, pD_lay z, pDs_lay zs]
theorem pDs_depth : ∀ ps : List (Nat × Nat), PyData.depthAll (ps.map pD) ≤ 1
  | [] => by simp [PyData.depthAll]
  | z :: zs => by
    have h1 := pDs_depth zs
    have h2 := pD_depth z
    simp only [List.map_cons, PyData.depthAll]
    omega
theorem pD_shaped (p : Nat × Nat) : SeqAt.shaped (pD p) = true := by
  have h := pD_depth p
  show ((pD p).canLay0 && decide ((pD p).depth ≤ 64)) = true
  rw [Bool.and_eq_true]
  exact ⟨pD_lay p, decide_eq_true (by omega)⟩
theorem pDs_shaped (ps : List (Nat × Nat)) : SeqAt.shaped (.list (ps.map pD)) = true := by
  have h1 := pDs_depth ps
  have h2 : PyData.depth (.list (ps.map pD)) ≤ 64 := by
    simp only [PyData.depth]
    omega
  show (PyData.canLay0 (.list (ps.map pD)) && decide (PyData.depth (.list (ps.map pD)) ≤ 64)) = true
  rw [Bool.and_eq_true]
  exact ⟨by simp only [PyData.canLay0]; exact pDs_lay ps, decide_eq_true h2⟩
theorem pD_eqv (p q : Nat × Nat) : PyData.eqv (pD p) (pD q) = decide (p = q) := by
  obtain ⟨a, b⟩ := p
  obtain ⟨c, d⟩ := q
  have e : PyData.eqv (pD (a, b)) (pD (c, d)) = (((a : Int) == (c : Int)) && (((b : Int) == (d : Int)) && true)) := by simp only [pD, PyData.eqv, PyData.eqvAll]
  rw [e]
  by_cases h : ((a, b) : Nat × Nat) = (c, d)
  · cases h
    simp
  · rw [decide_eq_false h]
    by_cases h1 : a = c
    · by_cases h2 : b = d
      · exact absurd (by rw [h1, h2]) h
      · have q : ((b : Int) == (d : Int)) = false := beq_eq_false_iff_ne.mpr (by omega)
        rw [q, Bool.false_and, Bool.and_false]
    · have q : ((a : Int) == (c : Int)) = false := beq_eq_false_iff_ne.mpr (by omega)
      rw [q, Bool.false_and]
theorem any_pD (ps : List (Nat × Nat)) (p : Nat × Nat) : ((ps.map pD).any fun z => PyData.eqv z (pD p)) = decide (p ∈ ps) := by
  rw [Bool.eq_iff_iff, List.any_eq_true, decide_eq_true_iff]
  constructor
  · rintro ⟨z, hz, e⟩
    obtain ⟨q, hq, rfl⟩ := List.mem_map.mp hz
    rw [pD_eqv, decide_eq_true_iff] at e
    exact e ▸ hq
  · exact fun h => ⟨_, List.mem_map.mpr ⟨p, h, rfl⟩, by rw [pD_eqv]; exact decide_eq_true rfl⟩
theorem dp_pair {H : Hp} {p : Nat × Nat} {v : V} (h : prR H p v) : Dp K H v (pD p) := by
  obtain ⟨t, rfl, e⟩ := h
  exact .tup (SqT.of e) (.cons (.int _) (.cons (.int _) .nil))
theorem dp_pairs {H : Hp} : ∀ {ps : List (Nat × Nat)} {ys : List V}, Paired (prR H) ps ys → DpAll K H ys (ps.map pD)
  | _, _, .nil => .nil
  | _, _, .cons r t => .cons (dp_pair r) (dp_pairs t)
/-! ### the walk's plain side -/
structure UP (S : List Ln) (t : Nat × Nat) (wt fd : List (Nat × Nat)) : Prop where
  usw : ∀ q ∈ wt, Us S t q
  usf : ∀ q ∈ fd, Us S t q
  nd : fd.Nodup
  top : t ∈ fd ∨ t ∈ wt
  cl : ∀ p ∈ fd, ∀ l, S[p.1]? = some l → ∀ q ∈ depL l p.2, q ∈ fd ∨ q ∈ wt
theorem UP.pop {S : List Ln} {t p : Nat × Nat} {wt fd : List (Nat × Nat)} (h : UP S t (wt ++ [p]) fd) (hp : p ∈ fd) : UP S t wt fd := by
  have mv : ∀ q, q ∈ fd ∨ q ∈ wt ++ [p] → q ∈ fd ∨ q ∈ wt := fun q e => by
    rcases e with e | e
    · exact .inl e
    · rcases List.mem_append.mp e with e | e
      · exact .inr e
      · obtain rfl := List.mem_singleton.mp e
        exact .inl hp
  exact ⟨fun q hq => h.usw q (List.mem_append.mpr (.inl hq)), h.usf, h.nd, mv _ h.top, fun p' hp' l e q hq => mv _ (h.cl p' hp' l e q hq)⟩
theorem UP.add {S : List Ln} {t p : Nat × Nat} {wt fd : List (Nat × Nat)} {l : Ln} (h : UP S t (wt ++ [p]) fd) (hp : p ∉ fd) (e : S[p.1]? = some l) : UP S t (wt ++ depL l p.2) (fd ++ [p]) := by
  have up : Us S t p := h.usw p (by simp)
  have mv : ∀ q, q ∈ fd ∨ q ∈ wt ++ [p] → q ∈ fd ++ [p] ∨ q ∈ wt ++ depL l p.2 := fun q e => by
    rcases e with e | e
    · exact .inl (List.mem_append.mpr (.inl e))
    · rcases List.mem_append.mp e with e | e
      · exact .inr (List.mem_append.mpr (.inl e))
      · exact .inl (List.mem_append.mpr (.inr e))
  refine ⟨fun q hq => ?_, fun q hq => ?_, ?_, mv _ h.top, fun p' hp' l' e' q hq => ?_⟩
  · rcases List.mem_append.mp hq with hq | hq
    · exact h.usw q (List.mem_append.mpr (.inl hq))
    · exact depL_us up e hq
  · rcases List.mem_append.mp hq with hq | hq
    · exact h.usf q hq
    · obtain rfl := List.mem_singleton.mp hq
      exact up
  · rw [List.nodup_append]
    exact ⟨h.nd, by simp, fun a ha b hb q => by obtain rfl := List.mem_singleton.mp hb; exact hp (q ▸ ha)⟩
  · rcases List.mem_append.mp hp' with hp' | hp'
    · exact mv _ (h.cl p' hp' l' e' q hq)
    · obtain rfl := List.mem_singleton.mp hp'
      rw [e] at e'
      cases e'
      exact .inr (List.mem_append.mpr (.inr hq))
/-- how many there can be -/
def uB (S : List Ln) (t : Nat × Nat) : Nat := S.length * (t.2 + thd S t.1 + 1)
theorem us_bound {S : List Ln} (W : WF S) {t : Nat × Nat} (ht : t.1 < S.length) {fd : List (Nat × Nat)} (nd : fd.Nodup) (h : ∀ q ∈ fd, Us S t q) : fd.length ≤ uB S t := by
  have e : ((List.range (uB S t)).map fun i => (i / (t.2 + thd S t.1 + 1), i % (t.2 + thd S t.1 + 1))).length = uB S t := by rw [List.length_map, List.length_range]
  rw [← e]
  refine nodup_le fd _ nd fun q hq => ?_
  obtain ⟨n, k⟩ := q
  have h1 := us_le W (h _ hq)
  have h2 := us_depth W (h _ hq)
  dsimp only at h1 h2
  have hk : k < t.2 + thd S t.1 + 1 := by omega
  refine List.mem_map.mpr ⟨n * (t.2 + thd S t.1 + 1) + k, List.mem_range.mpr ?_, ?_⟩
  · have : (n + 1) * (t.2 + thd S t.1 + 1) ≤ S.length * (t.2 + thd S t.1 + 1) := Nat.mul_le_mul_right _ (by omega)
    rw [Nat.succ_mul] at this
    unfold uB
    omega
  · rw [Nat.mul_comm, Nat.mul_add_div (by omega), Nat.div_eq_of_lt hk, Nat.mul_add_mod, Nat.mod_eq_of_lt hk]
    rfl
end
end Tw
set_option maxRecDepth 100000
set_option maxHeartbeats 2000000
/-! uses: the walk. -/
namespace Tw
open PySem PySem.Spec PyProof.Rows L2
section
variable {P : Program} {w : World} {K : PySem.W.Frag} {mg : Str → Option Value} {base : Heap}
/-- what uses gives -/
structure UsL (S : List Ln) (t : Nat × Nat) (ps : List (Nat × Nat)) : Prop where
  us : ∀ q ∈ ps, Us S t q
  top : t ∈ ps
  cl : ∀ p ∈ ps, ∀ l, S[p.1]? = some l → ∀ q ∈ depL l p.2, q ∈ ps
  nd : ps.Nodup
  up : ps.Pairwise fun p q => p.1 ≤ q.1
theorem UsL.of {S : List Ln} {t : Nat × Nat} {ps fd : List (Nat × Nat)} (h : UP S t [] fd) (hp : ps.Perm fd) (up : ps.Pairwise fun p q => p.1 ≤ q.1) : UsL S t ps :=
  ⟨fun q hq => h.usf q (hp.mem_iff.mp hq), hp.mem_iff.mpr (h.top.resolve_right (by simp)), fun p hp' l e q hq => hp.mem_iff.mpr ((h.cl p (hp.mem_iff.mp hp') l e q hq).resolve_right (by simp)), hp.nodup_iff.mpr h.nd, up⟩
/-- the pair at a value -/
def kPr (H : Hp) : V → Int × Int
  | .ref t => match H t with
    | some (.tup [.int a, .int b]) => (a, b)
    | _ => (0, 0)
  | _ => (0, 0)
theorem kPr_pr {H : Hp} {p : Nat × Nat} {v : V} (h : prR H p v) : kPr H v = ((p.1 : Int), (p.2 : Int)) := by
  obtain ⟨t, rfl, e⟩ := h
  simp only [kPr, e]
theorem up_of {H : Hp} : ∀ {ps : List (Nat × Nat)} {ys : List V}, Paired (prR H) ps ys → SrtO.Srtd (ltP (kPr H)) ys → ps.Pairwise fun p q => p.1 ≤ q.1
  | _, _, .nil, _ => .nil
  | p :: ps, y :: ys, .cons r t, h => by
    have h := List.pairwise_cons.mp h
    refine List.pairwise_cons.mpr ⟨fun q hq => ?_, up_of t h.2⟩
    obtain ⟨i, hi, e⟩ := List.mem_iff_getElem.mp hq
    obtain ⟨z, e1, rz⟩ := Paired.at' (i := i) (x := q) t (by rw [List.getElem?_eq_getElem hi, e])
    have h3 := h.1 z (List.mem_of_getElem? e1)
    have h4 : SrtO.lexB (kPr H z) (kPr H y) = false := h3
    rw [kPr_pr rz, kPr_pr r, SrtO.lexB_no] at h4
    dsimp only at h4
    omega
theorem if_tC {c : Bool} {a b v : V} {σ : L2.St} {H : Hp} {Q : VK} (e : (if c = true then a else b) = v) (g : Q v H) : if c = true then tC a σ H Q else tC b σ H Q := by
  subst e
  cases c with
  | true => exact g
  | false => exact g
theorem at_name (l : Ln) : atI (lnV l) 0 = some (.str (lnName l)) := atI_nat (j := 0) (lnV_name l)
def spUses : Sp := fun vs H Q _ => ∃ (sa : Addr) (S : List Ln) (g : Nat), vs = [.ref sa, .int (g : Int)] ∧ SenV H sa S ∧ WF S ∧ 0 < S.length ∧ S.length ≤ 64 ∧ g + thd S (S.length - 1) ≤ 20 ∧
  ∀ H' a ps ys, Ex H H' → H' a = some (.lst ys) → Paired (prR H') ps ys → UsL S (S.length - 1, g) ps → Q (.ref a) H'
theorem scUse : FnScope ["sentence", "given", "waiting", "found", "number", "sets", "line", "more", "k"] ["sentence", "given"] (defScope s_uses) := ⟨rfl, rfl, rfl, by decide +kernel, rfl, by decide +kernel, by decide +kernel⟩
theorem ok_uses (T : Tx w K mg) : Gd P w K mg base CX0 1 (He.ga K "uses") ["sentence", "given"] spUses := by
  obtain ⟨fd, F⟩ := T.f_uses
  obtain ⟨es, nn, DP⟩ := T.t.tab 0
  refine ⟨fd, F.ok scUse (fun vs H Q E h => ?_) (fun cdv A outer s H vs Q E hr h => ?_), F.bindsN fun _ _ _ _ _ _ us hl => match us, hl with | [_, _], _ => rfl, F.kp⟩
  · obtain ⟨sa, S, g, rfl, _⟩ := h
    rfl
  · obtain ⟨sa, S, g, rfl, hS, W, h0, hlen, hg, q⟩ := h
    have hu64 := hr.units
    have pairE : True := trivial
    have hu65 : (A.deeper (envOfC "uses" (defScope s_uses) s.heap.objs.size (He.fAd K ("uses", none)) cdv)).units + 65 < cLine := by have := hr.un; omega
    refine ⟨_, PSs.nox (pss_cons (ps_set (i := 2) scUse.nd rfl (.inl rfl) (pe_lst (pa_cons (pe_tup (pa_cons (pe_op op_subN (pe_callB call_len_seq rfl T.m_len PySem.boot_len (pa_cons (pv 0) pa_nil)) pe_int) (pa_cons (pv 1) pa_nil))) pa_nil)))
        (pss_cons (ps_set (i := 3) scUse.nd rfl (.inl rfl) (pe_lst pa_nil))
        (pss_cons (ps_while PassesOwn.never (pt_truth (pv 2) (by intro _; rfl))
        (pss_cons (ps_asg (pe_bm0 PySem.F.plainAttrs_list PySem.F.slot_list_pop PySem.F.type_list_pop mt_pop (pv 2)) (pg_tup rfl (pgs_cons (pg_name (i := 4) scUse.nd rfl (.inl rfl)) (pgs_cons (pg_name (i := 5) scUse.nd rfl (.inl rfl)) pgs_nil))))
        (pss_one (ps_if (pt_cmpR (op_notInD hu65) (pe_tup (pa_cons (pv 4) (pa_cons (pv 5) pa_nil))) (pv 3) (by rfl))
        (pss_cons (ps_expr (pe_bm PySem.F.plainAttrs_list PySem.F.slot_list_append PySem.F.type_list_append mt_append (pv 3) (pa_cons (pe_tup (pa_cons (pv 4) (pa_cons (pv 5) pa_nil))) pa_nil)))
        (pss_cons (ps_set (i := 6) scUse.nd rfl (.inl rfl) (pe_ix ix_tup (pv 0) (pv 4) (fun _ _ => rfl)))
        (pss_cons (ps_set (i := 7) scUse.nd rfl (.inl rfl) (pe_ifExp (pt_cmpR op_eq (pe_ix ix_tup (pv 6) pe_int (fun _ _ => rfl)) pe_str (nomark _)) pe_int pe_int))
        (pss_one (ps_for PassesOwn.never rfl (pi_range1 rfl T.m_range (pa_cons (pe_kdget DP (pe_glob (v := .ref (He.ga K "PARTS")) rfl T.g_PARTS rfl) (pe_ix ix_tup (pv 6) pe_int (fun _ _ => rfl)) pe_int ⟨rfl, rfl, rfl, rfl⟩) pa_nil)) (pg_name (i := 8) scUse.nd rfl (.inl rfl))
          (pss_one (ps_expr (pe_bm PySem.F.plainAttrs_list PySem.F.slot_list_append PySem.F.type_list_append mt_append (pv 2) (pa_cons (pe_tup (pa_cons (pe_ix ix_tup (pv 6) (pe_op op_addN (pv 8) pe_int) (fun _ _ => rfl)) (pa_cons (pe_op op_addN (pv 5) (pv 7)) pa_nil))) pa_nil))))))))) pss_nil))))
        (pss_one (ps_ret (pe_callB cr_sortedPO rfl T.m_sorted (by decide +kernel) (pa_cons (pv 3) pa_nil))))))), ?_⟩
    obtain ⟨as, hsa, hLA⟩ := id hS
    have eL : (as.map V.ref).length = S.length := by rw [List.length_map]; exact hLA.1
    refine ⟨_, rfl, sa, _, rfl, .inr (sqT_of hsa), (as.map V.ref).length, 1, rfl, rfl, by rw [eL]; exact h0, _, rfl, (by show 2 ≤ sizeLine; decide), fun tp ntp => ⟨(by show 1 ≤ sizeLine; decide), fun wl nwl => ⟨(by show 0 ≤ sizeLine; decide), fun fl nfl => ?_⟩⟩⟩
    rw [eL] at nwl nfl ⊢
    have x1 : Ex H (upd H tp (.tup [.int ((S.length - 1 : Nat) : Int), .int (g : Int)])) := Ex.add ntp
    have htp : upd H tp (.tup [.int ((S.length - 1 : Nat) : Int), .int (g : Int)]) tp = some (.tup [.int ((S.length - 1 : Nat) : Int), .int (g : Int)]) := upd_same
    generalize upd H tp (.tup [.int ((S.length - 1 : Nat) : Int), .int (g : Int)]) = H1 at x1 htp nwl nfl ⊢
    have nwl0 : H wl = none := x1.free nwl
    have x2 : Ex H (upd H1 wl (.lst [.ref tp])) := x1.new nwl
    have nfl0 : H fl = none := x2.free nfl
    have nwf : wl ≠ fl := ne_of_none upd_same nfl
    have x3 : Ex H (upd (upd H1 wl (.lst [.ref tp])) fl (.lst [])) := x2.new nfl
    have hw3 : PrsV (upd (upd H1 wl (.lst [.ref tp])) fl (.lst [])) wl [(S.length - 1, g)] := ⟨_, by rw [upd_ne nwf]; exact upd_same, .cons ⟨tp, rfl, by rw [upd_ne (ne_of_none (by rw [upd_ne (ne_of_none htp nwl)]; exact htp) nfl), upd_ne (ne_of_none htp nwl)]; exact htp⟩ .nil⟩
    have hf3 : PrsV (upd (upd H1 wl (.lst [.ref tp])) fl (.lst [])) fl [] := ⟨_, upd_same, .nil⟩
    generalize upd (upd H1 wl (.lst [.ref tp])) fl (.lst []) = H3 at x3 hw3 hf3 ⊢
    clear x2 x1 htp nwl nfl ntp
    have hB : ∀ fd : List (Nat × Nat), fd.Nodup → (∀ q ∈ fd, Us S (S.length - 1, g) q) → fd.length ≤ uB S (S.length - 1, g) := fun fd nd h => us_bound W (by show S.length - 1 < S.length; omega) nd h
    have hBs : uB S (S.length - 1, g) ≤ 64 * 21 := Nat.mul_le_mul hlen (by show g + thd S (S.length - 1) + 1 ≤ 21; omega)
    -- while waiting
    refine ⟨fun μ σ H4 => ∃ (wt fd : List (Nat × Nat)) (v4 v5 v6 v7 v8 : Option V), σ = [some (.ref sa), some (.int (g : Int)), some (.ref wl), some (.ref fl), v4, v5, v6, v7, v8] ∧
      Ex H H4 ∧ PrsV H4 wl wt ∧ PrsV H4 fl fd ∧ UP S (S.length - 1, g) wt fd ∧ wt.length ≤ 2 * fd.length + 1 ∧ μ = 3 * (uB S (S.length - 1, g) - fd.length) + wt.length,
      ⟨_, [_], [], none, none, none, none, none, rfl, x3, hw3, hf3, ⟨fun q hq => (by obtain rfl := List.mem_singleton.mp hq; exact .top), fun q hq => (by cases hq), .nil, .inr (List.mem_singleton.mpr rfl), fun q hq => (by cases hq)⟩, Nat.le_refl _, rfl⟩, ?_⟩
    clear hw3 hf3 x3
    rintro μ σ H4 ⟨wt, fd, v4, v5, v6, v7, v8, rfl, x4, ⟨ws, hw, pw⟩, hf, up, hle, rfl⟩
    refine ⟨_, rfl, !ws.isEmpty, .inl ⟨ws, SqL.of hw, rfl⟩, ?_⟩
    rcases List.eq_nil_or_concat wt with rfl | ⟨wt', p, rfl⟩
    · -- return sorted(found)
      cases pw
      refine iteF ?_
      obtain ⟨ys, hy, py⟩ := hf
      refine ⟨_, rfl, fl, ys, kPr H4, rfl, SqL.of hy, fun x hx => ?_, fun zs p hs hst np => ?_⟩
      · obtain ⟨i, hi, e⟩ := List.mem_iff_getElem.mp hx
        obtain ⟨pp, _, r⟩ := Paired.at (i := i) (y := x) py (by rw [List.getElem?_eq_getElem hi, e])
        rw [kPr_pr r]
        exact r
      · obtain ⟨ps, hp, pp⟩ := Paired.perm hst.perm py
        exact q _ p ps zs (x4.new np) upd_same (Paired.mapP pp fun _ _ r => r.mono ((Ex.add np).tk)) (UsL.of up hp (up_of pp hs))
    · obtain ⟨ws', y, rfl, pw', ⟨ty, rfl, hty⟩⟩ := Paired.snoc (by rw [List.concat_eq_append] at pw; exact pw)
      rw [List.concat_eq_append] at up hle
      have hne : (!(ws' ++ [V.ref ty]).isEmpty) = true := by simp
      rw [hne]
      refine iteT ⟨fun σ' H' => ∃ m', m' < 3 * (uB S (S.length - 1, g) - fd.length) + (wt'.concat p).length ∧ ∃ (wt fd : List (Nat × Nat)) (v4 v5 v6 v7 v8 : Option V), σ' = [some (.ref sa), some (.int (g : Int)), some (.ref wl), some (.ref fl), v4, v5, v6, v7, v8] ∧
        Ex H H' ∧ PrsV H' wl wt ∧ PrsV H' fl fd ∧ UP S (S.length - 1, g) wt fd ∧ wt.length ≤ 2 * fd.length + 1 ∧ m' = 3 * (uB S (S.length - 1, g) - fd.length) + wt.length, fun σ' H' h => h, ?_⟩
      have eDrop : (ws' ++ [V.ref ty]).dropLast = ws' := by simp
      refine ⟨_, rfl, .inl ⟨rfl, _, SqL.of hw⟩, wl, _, .ref ty, rfl, rfl, hw, by simp, ?_⟩
      rw [eDrop]
      have t5 : TupK H4 (upd H4 wl (.lst ws')) := (TupK.refl H4).mut fun vs e => by rw [hw] at e; cases e
      have x5 : Ex H (upd H4 wl (.lst ws')) := x4.mut nwl0
      have hw5 : PrsV (upd H4 wl (.lst ws')) wl wt' := ⟨ws', upd_same, Paired.mapP pw' fun _ _ r => r.mono t5⟩
      have hf5 : PrsV (upd H4 wl (.lst ws')) fl fd := by
        obtain ⟨ys, h1, h2⟩ := hf
        exact ⟨ys, by rw [upd_ne nwf.symm]; exact h1, Paired.mapP h2 fun _ _ r => r.mono t5⟩
      have hty5 := t5 _ _ hty
      generalize upd H4 wl (.lst ws') = H5 at x5 hw5 hf5 hty5 ⊢
      clear t5 hf hw hty pw pw' x4
      obtain ⟨n, k⟩ := p
      refine ⟨ty, _, rfl, sqT_of hty5, rfl, _, _, rfl, _, _, rfl, rfl, ?_⟩
      refine ⟨_, rfl, _, rfl, (by show 2 ≤ sizeLine; decide), fun kp nkp => ?_⟩
      have x6 : Ex H5 (upd H5 kp (.tup [.int (n : Int), .int (k : Int)])) := Ex.add nkp
      have hkp : upd H5 kp (.tup [.int (n : Int), .int (k : Int)]) kp = some (.tup [.int (n : Int), .int (k : Int)]) := upd_same
      have X6 := x5.trans x6
      have hw6 := hw5.ex x6
      have hf6 := hf5.ex x6
      generalize upd H5 kp (.tup [.int (n : Int), .int (k : Int)]) = H6 at x6 hkp X6 hw6 hf6 ⊢
      clear hw5 hf5 hty5 x5 nkp
      obtain ⟨ys, hy, py⟩ := hf6
      have un : Us S (S.length - 1, g) (n, k) := up.usw _ (by simp)
      have hnl : n < S.length := by have := us_le W un; dsimp only at this; omega
      have el : S[n]? = some S[n] := List.getElem?_eq_getElem hnl
      generalize S[n] = l at el
      refine ⟨_, rfl, pD (n, k), fd.map pD, dp_pair ⟨kp, rfl, hkp⟩, .lst (SqL.of hy) (dp_pairs py), pD_shaped _, pDs_shaped _, _, rfl, ?_⟩
      rw [any_pD]
      by_cases hin : (n, k) ∈ fd
      · rw [decide_eq_true hin]
        refine iteF ⟨_, ?_, wt', fd, _, _, _, _, _, rfl, X6, hw6, ⟨ys, hy, py⟩, up.pop hin, ?_, rfl⟩
        · rw [List.concat_eq_append, List.length_append, List.length_singleton]; omega
        · rw [List.length_append, List.length_singleton] at hle; omega
      · rw [decide_eq_false hin]
        refine iteT ?_
        have up2 := up.add hin el
        have nfd := hB _ up2.nd up2.usf
        rw [List.length_append, List.length_singleton] at nfd hle
        obtain ⟨r, hr1, hr2⟩ := T.parts l
        obtain ⟨ls, t, h1, h2, h3, _⟩ := (X6.sen hS).line el
        refine ⟨_, rfl, .inl ⟨rfl, _, SqL.of hy⟩, _, rfl, _, rfl, (by show 2 ≤ sizeLine; decide), fun kq nkq => ?_⟩
        have x7 : Ex H6 (upd H6 kq (.tup [.int (n : Int), .int (k : Int)])) := Ex.add nkq
        have hkq : upd H6 kq (.tup [.int (n : Int), .int (k : Int)]) kq = some (.tup [.int (n : Int), .int (k : Int)]) := upd_same
        have hy7 := x7.lst hy
        have py7 := Paired.mapP py fun _ _ r => prR.mono x7.tk r
        have hw7 := hw6.ex x7
        have h17 := x7.tup h1
        have h37 := x7.tup h3
        have X7 := X6.trans x7
        generalize upd H6 kq (.tup [.int (n : Int), .int (k : Int)]) = H7 at x7 hkq hy7 py7 hw7 h17 h37 X7 ⊢
        have lys : ys.length = fd.length := (Paired.leng py).symm
        refine ⟨fl, ys, .ref kq, rfl, rfl, hy7, by rw [lys, sizeLine_eq]; omega, ?_⟩
        have t8 : TupK H7 (upd H7 fl (.lst (ys ++ [.ref kq]))) := (TupK.refl H7).mut fun vs e => by rw [hy7] at e; cases e
        have hf8 : PrsV (upd H7 fl (.lst (ys ++ [.ref kq]))) fl (fd ++ [(n, k)]) := ⟨_, upd_same, Paired.app (Paired.mapP py7 fun _ _ r => r.mono t8) (.cons ⟨kq, rfl, t8 _ _ hkq⟩ .nil)⟩
        have hw8 : PrsV (upd H7 fl (.lst (ys ++ [.ref kq]))) wl wt' := by
          obtain ⟨zs, e1, e2⟩ := hw7
          exact ⟨zs, by rw [upd_ne nwf]; exact e1, Paired.mapP e2 fun _ _ r => r.mono t8⟩
        have h18 := t8 _ _ h17
        have h38 := t8 _ _ h37
        have X8 : Ex H (upd H7 fl (.lst (ys ++ [.ref kq]))) := X7.mut nfl0
        generalize upd H7 fl (.lst (ys ++ [.ref kq])) = H8 at t8 hf8 hw8 h18 h38 X8 ⊢
        clear hw7 hy7 py7 hkq h17 h37 X7 hw6 hy py h1 h3 X6
        refine ⟨_, rfl, _, rfl, sa, ls, n, _, rfl, rfl, sqT_of h18, h2, ?_⟩
        refine ⟨_, rfl, t, _, 0, _, rfl, rfl, sqT_of h38, at_name l, rfl, _, rfl, if_tC (v := .int (moreN l : Int)) (by cases l <;> first | rfl | decide +kernel) ?_⟩
        refine ⟨rfl, _, rfl, t, _, 0, _, rfl, rfl, sqT_of h38, at_name l, lnName l, r, rfl, hr1, .int (nPt l : Int), ?_, ?_⟩
        · cases r with
          | none => have hr2 : nPt l = 0 := hr2; rw [hr2]; rfl
          | some u => exact hr2
        have hn2 : nPt l ≤ 2 := by cases l <;> simp [nPt]
        refine ⟨(nPt l : Int), rfl, by omega, by omega, ?_⟩
        refine for_rangeN (n := nPt l) (by simp) (fun i σ H9 => ∃ v8, σ = [some (.ref sa), some (.int (g : Int)), some (.ref wl), some (.ref fl), some (.int (n : Int)), some (.int (k : Int)), some (.ref t), some (.int (moreN l : Int)), v8] ∧
          Ex H H9 ∧ TupK H8 H9 ∧ PrsV H9 wl (wt' ++ (depL l k).take i) ∧ PrsV H9 fl (fd ++ [(n, k)])) ⟨v8, rfl, X8, TupK.refl _, by simpa using hw8, hf8⟩ ?_ ?_
        · rintro i σ H9 hi ⟨v8, rfl, x9, t9, ⟨zs, hz, pz⟩, hf9⟩
          have hi2 : i < (depL l k).length := by rw [depL_len]; exact hi
          have ei : (depL l k)[i]? = some (depL l k)[i] := List.getElem?_eq_getElem hi2
          have etk : (depL l k).take (i + 1) = (depL l k).take i ++ [(depL l k)[i]] := by rw [List.take_succ, ei]; rfl
          generalize (depL l k)[i] = p at ei etk
          obtain ⟨d1, d2⟩ := depL_at ei
          refine ⟨_, rfl, .inl ⟨rfl, _, SqL.of hz⟩, _, rfl, _, rfl, i, 1, rfl, rfl, t, _, ((i + 1 : Nat) : Int), _, rfl, rfl, sqT_of (t9 _ _ h38), atI_nat d1, _, rfl, _, rfl, k, moreN l, rfl, rfl, (by show 2 ≤ sizeLine; decide), fun ka nka => ?_⟩
          rw [← d2]
          have xa : Ex H9 (upd H9 ka (.tup [.int (p.1 : Int), .int (p.2 : Int)])) := Ex.add nka
          have hka : upd H9 ka (.tup [.int (p.1 : Int), .int (p.2 : Int)]) ka = some (.tup [.int (p.1 : Int), .int (p.2 : Int)]) := upd_same
          have hza := xa.lst hz
          have pza := Paired.mapP pz fun _ _ r => prR.mono xa.tk r
          have hfa := hf9.ex xa
          have Xa := x9.trans xa
          have Ta := t9.trans xa.tk
          generalize upd H9 ka (.tup [.int (p.1 : Int), .int (p.2 : Int)]) = Ha at xa hka hza pza hfa Xa Ta ⊢
          have lzs : zs.length = wt'.length + i := by
            rw [← Paired.leng pz, List.length_append, List.length_take]
            omega
          refine ⟨wl, zs, .ref ka, rfl, rfl, hza, by rw [lzs, sizeLine_eq]; omega, ?_⟩
          have tb : TupK Ha (upd Ha wl (.lst (zs ++ [.ref ka]))) := (TupK.refl Ha).mut fun vs e => by rw [hza] at e; cases e
          refine ⟨_, rfl, Xa.mut nwl0, Ta.trans tb, ⟨_, upd_same, ?_⟩, ?_⟩
          · rw [etk, ← List.append_assoc]
            exact Paired.app (Paired.mapP pza fun _ _ r => r.mono tb) (.cons ⟨ka, rfl, tb _ _ hka⟩ .nil)
          · obtain ⟨us, e1, e2⟩ := hfa
            exact ⟨us, by rw [upd_ne nwf.symm]; exact e1, Paired.mapP e2 fun _ _ r => r.mono tb⟩
        · rintro σ H9 ⟨v8, rfl, x9, t9, hw9, hf9⟩
          rw [← depL_len l k, List.take_length] at hw9
          refine ⟨_, ?_, _, _, _, _, _, _, _, rfl, x9, hw9, hf9, up2, ?_, rfl⟩
          · rw [List.concat_eq_append, List.length_append, List.length_append, List.length_append, List.length_singleton, depL_len]; omega
          · rw [List.length_append, List.length_append, List.length_singleton, depL_len]; omega
end
end Tw
set_option maxRecDepth 100000
set_option maxHeartbeats 2000000
/-! reader_with. -/
namespace Tw
open PySem PySem.Spec PyProof.Rows L2
section
variable {P : Program} {w : World} {K : PySem.W.Frag} {mg : Str → Option Value} {base : Heap}
theorem RdrV.tk {H H' : Hp} (t : TupK H H') {a : Addr} {R : Rd} (h : RdrV H a R) : RdrV H' a R := by
  obtain ⟨lt, mt, at_, as, h1, h2, h3, h4, h5⟩ := h
  exact ⟨lt, mt, at_, as, t _ _ h1, t _ _ h2, t _ _ h3, ⟨h4.1, fun i a r e1 e2 => t _ _ (h4.2 i a r e1 e2)⟩, t _ _ h5⟩
theorem UsL.deps {S : List Ln} (W : WF S) {t p : Nat × Nat} {ps : List (Nat × Nat)} {i : Nat} (h : UsL S t ps) (e : ps[i]? = some p) : Deps S (ps.take i) p.1 p.2 := by
  have hm : p ∈ ps := List.mem_of_getElem? e
  have key : ∀ (l : Ln), S[p.1]? = some l → ∀ q ∈ depL l p.2, q.1 < p.1 → q ∈ ps.take i := by
    intro l el q hq hlt
    obtain ⟨j, hj, ej⟩ := List.mem_iff_getElem.mp (h.cl p hm l el q hq)
    obtain ⟨hi, ei⟩ := List.getElem?_eq_some_iff.mp e
    by_cases c : j < i
    · exact List.mem_iff_getElem.mpr ⟨j, by rw [List.length_take]; omega, by rw [List.getElem_take]; exact ej⟩
    · exfalso
      by_cases c2 : j = i
      · subst c2
        rw [ei] at ej
        subst ej
        omega
      · have := List.pairwise_iff_getElem.mp h.up i j hi hj (by omega)
        rw [ei, ej] at this
        omega
  unfold Deps
  cases el : S[p.1]? with
  | none => trivial
  | some l =>
    have ok := W _ _ el
    cases l with
    | denied f => exact key _ el (f, p.2) (List.mem_singleton.mpr rfl) ok.1
    | both f g => exact ⟨key _ el (f, p.2) (.head _) ok.1.1, key _ el (g, p.2) (.tail _ (.head _)) ok.2.1⟩
    | there f => exact key _ el (f, p.2 + 1) (List.mem_singleton.mpr rfl) ok.1
    | _ => trivial
def spWith (K : PySem.W.Frag) : Sp := fun vs H Q E => ∃ (cnt : Nat) (sa : Addr) (S : List Ln) (g : Nat), vs = [.int (cnt : Int), .ref sa, .int (g : Int)] ∧
  SenV H sa S ∧ WF S ∧ 0 < S.length ∧ S.length ≤ 64 ∧ KindAt S (S.length - 1) false ∧ g + thd S (S.length - 1) ≤ 6 ∧ cnt ≤ 60 ∧ GxR.TabG H (cQ K).2 ∧ GxR.TabG H (cP K).2 ∧
  (∀ H', Ex H H' → 300 < bnd S (S.length - 1) → E (.ref (CM K)) none H') ∧ ∀ H' a R, Ex H H' → RdrV H' a R → RInv R (cnt * 2 ^ g) (Lang S (S.length - 1) g) → R.m ≤ bnd S (S.length - 1) → Q (.ref a) H'
theorem scWith : FnScope ["count", "sentence", "given", "made", "number", "sets"] ["count", "sentence", "given"] (defScope s_reader_with) := ⟨rfl, rfl, rfl, by decide +kernel, rfl, by decide +kernel, by decide +kernel⟩
theorem ok_with (T : Tx w K mg) (hP : PrOk P) (TB : GxR.TabB base mg (cQ K).1 (cQ K).2) (TP : GxR.TabB base mg (cP K).1 (cP K).2) : Gd P w K mg base (L2.CX P w) (LV + 6) (He.ga K "reader_with") ["count", "sentence", "given"] (spWith K) := by
  obtain ⟨fd, F⟩ := T.f_reader_with
  have GU := ok_uses (P := P) (base := base) T
  have GP := ok_part (P := P) T hP TB TP
  refine ⟨fd, F.ok scWith (fun vs H Q E h => ?_) (fun cdv A outer s H vs Q E hr h => ?_), F.bindsN fun _ _ _ _ _ _ us hl => match us, hl with | [_, _, _], _ => rfl, F.kp⟩
  · obtain ⟨cnt, sa, S, g, rfl, _⟩ := h
    rfl
  · obtain ⟨cnt, sa, S, g, rfl, hS, W, h0, hlen, hkd, hg, hc, hTQ, hTP, qE, q⟩ := h
    have hu64 := hr.units
    have hr1 : Room 1 _ := hr.mono (by decide)
    refine ⟨_, pss_cons (ps_set (i := 3) scWith.nd rfl (.inl rfl) (pe_newNW (w := w)))
      (pss_cons (ps_for (passes_of rfl) rfl (pi_list (pe_cG GU hr1 rfl T.g_uses pass0 (pa_cons (pv 1) (pa_cons (pv 2) pa_nil)))) (pg_tup rfl (pgs_cons (pg_name (i := 4) scWith.nd rfl (.inl rfl)) (pgs_cons (pg_name (i := 5) scWith.nd rfl (.inl rfl)) pgs_nil)))
        (pss_one (ps_asg (pe_cG GP hr rfl T.g_part_reader (passes_call (takes_of rfl rfl rfl rfl) (fun _ _ _ _ h => h)) (pa_cons (pv 0) (pa_cons (pv 1) (pa_cons (pv 4) (pa_cons (pv 5) (pa_cons (pv 3) pa_nil))))))
          (pg_sub (pv 3) (pe_tup (pa_cons (pv 4) (pa_cons (pv 5) pa_nil))) (set_dNW (w := w) hu64)))))
      (pss_one (ps_ret (pe_itemNW (w := w) hu64 (pv 3) (pe_tup (pa_cons (pe_op op_subN (pe_callB call_len_seq rfl T.m_len PySem.boot_len (pa_cons (pv 1) pa_nil)) pe_int) (pa_cons (pv 2) pa_nil))) (fun _ _ => rfl))))), ?_⟩
    intro d nd
    have x1 : Ex H (upd H d (DN w d [])) := Ex.add nd
    have hd1 : upd H d (DN w d []) d = some (DN w d []) := upd_same
    generalize upd H d (DN w d []) = H1 at x1 hd1 ⊢
    have M1 : MdV w H1 d S cnt [] := ⟨[], hd1, .nil, rfl, fun _ h => by cases h⟩
    refine ⟨_, rfl, _, rfl, sa, S, g, rfl, x1.sen hS, W, h0, hlen, by omega, fun H2 a ps ys x2 hy py us => ?_⟩
    have X2 := x1.trans x2
    have hps : ps.length ≤ 64 * 21 := Nat.le_trans (us_bound W (by show S.length - 1 < S.length; omega) us.nd us.us) (Nat.mul_le_mul hlen (by show g + thd S (S.length - 1) + 1 ≤ 21; omega))
    have lps := Paired.leng py
    refine ⟨a, rfl, ⟨_, SqL.of hy⟩, for_list (K := K) (a := a) (xs := ys) (fun i σ H5 => ∃ v4 v5, σ = [some (.int (cnt : Int)), some (.ref sa), some (.int (g : Int)), some (.ref d), v4, v5] ∧ Ex H H5 ∧ H5 a = some (.lst ys) ∧ Paired (prR H5) ps ys ∧ MdV w H5 d S cnt (ps.take i))
      ⟨none, none, rfl, X2, hy, py, M1.mono x2⟩ (fun i σ H5 _ ⟨_, _, _, _, h, _⟩ => SqL.of h) ?_ ?_⟩
    · rintro i y σ H5 hi ⟨v4, v5, rfl, x5, hy5, py5, M5⟩
      obtain ⟨⟨n, k⟩, ep, t, rfl, ht⟩ := Paired.at py5 hi
      have un := us.us _ (List.mem_of_getElem? ep)
      have hdp := us_depth W un
      have hkd' := us_kind W un hkd
      dsimp only at hdp hkd'
      refine ⟨t, _, rfl, sqT_of ht, rfl, _, _, rfl, _, _, rfl, rfl, ?_⟩
      refine ⟨_, rfl, _, rfl, _, rfl, _, rfl, _, rfl, cnt, sa, S, n, k, d, ps.take i, rfl, x5.sen hS, W, hlen, hkd', by omega, hc, M5, us.deps W ep, x5.tabG hTQ, x5.tabG hTP, fun H6 x6 hb => qE H6 (x5.trans x6) (bnd_up W un hb), fun H6 b R x6 hR hI hm => ?_⟩
      have x56 := x5.trans x6
      refine ⟨_, rfl, _, rfl, _, rfl, (by show 2 ≤ sizeLine; decide), fun kp nkp => ?_⟩
      have x7 : Ex H6 (upd H6 kp (.tup [.int (n : Int), .int (k : Int)])) := Ex.add nkp
      have hkp : upd H6 kp (.tup [.int (n : Int), .int (k : Int)]) kp = some (.tup [.int (n : Int), .int (k : Int)]) := upd_same
      have X7 := x56.trans x7
      have X57 := x6.trans x7
      generalize upd H6 kp (.tup [.int (n : Int), .int (k : Int)]) = H7 at x7 hkp X7 X57 ⊢
      obtain ⟨kvs, m1, m2, m3, m4⟩ := M5.mono X57
      have hlk : kvs.length = (ps.take i).length := by have := congrArg List.length m3; simpa using this
      have hli : (ps.take i).length ≤ ps.length := by rw [List.length_take]; omega
      have hnk : keyNK (n, k) ∉ kvs.map (·.1) := by
        rw [m3]
        intro h
        obtain ⟨q', hq', e⟩ := List.mem_map.mp h
        have := keyNK_inj _ _ e
        subst this
        obtain ⟨j, hj, ej⟩ := List.mem_iff_getElem.mp hq'
        rw [List.getElem_take] at ej
        obtain ⟨hi', ei'⟩ := List.getElem?_eq_some_iff.mp ep
        have hji : j < i := by rw [List.length_take] at hj; omega
        have := List.pairwise_iff_getElem.mp us.nd j i (by omega) hi' hji
        exact this (by rw [ej, ei'])
      have kv7 : KeyV H7 (keyNK (n, k)) (.ref kp) := .tup hkp (.cons (.int _) (.cons (.int _) .nil))
      refine ⟨d, kvs, keyNK (n, k), rfl, m1, m2, kv7, keyNK_dep _, hnk, by rw [hlk, sizeLine_eq]; omega, ?_⟩
      have t8 : TupK H7 (upd H7 d (DN w d (kvs ++ [(keyNK (n, k), .ref kp, .ref b)]))) := (TupK.refl H7).mut fun vs e => by rw [m1] at e; unfold DN at e; cases e
      have nda : a ≠ d := ne_of ((x7.lst (x6.lst hy5))) m1 (by unfold DN; intro q; cases q)
      refine ⟨some (.int (n : Int)), some (.int (k : Int)), rfl, X7.mut nd, by rw [upd_ne nda]; exact x7.lst (x6.lst hy5), Paired.mapP py5 fun _ _ r => (r.mono X57.tk).mono t8, kvs ++ [(keyNK (n, k), .ref kp, .ref b)], upd_same, ?_, ?_, ?_⟩
      · exact (KeysV.snoc (x := (keyNK (n, k), V.ref kp, V.ref b)) m2 kv7 (keyNK_dep _)).mono t8
      · rw [List.map_append, m3, List.take_add_one, ep, List.map_append]
        rfl
      · intro row hrow
        rcases List.mem_append.mp hrow with hrow | hrow
        · obtain ⟨n', k', a', R', e1, e2, e3, e4, e5⟩ := m4 row hrow
          exact ⟨n', k', a', R', e1, e2, RdrV.tk t8 e3, e4, e5⟩
        · obtain rfl := List.mem_singleton.mp hrow
          exact ⟨n, k, b, R, rfl, rfl, RdrV.tk t8 (x7.rdr hR), hI, hm⟩
    · rintro σ H5 ⟨v4, v5, rfl, x5, hy5, py5, M5⟩
      rw [← lps, List.take_length] at M5
      obtain ⟨as, hsa, hLA⟩ := id (x5.sen hS)
      have eL : (as.map V.ref).length = S.length := by rw [List.length_map]; exact hLA.1
      refine ⟨_, rfl, _, rfl, sa, _, rfl, .inr (sqT_of hsa), (as.map V.ref).length, 1, rfl, rfl, by rw [eL]; exact h0, _, rfl, (by show 2 ≤ sizeLine; decide), fun kp nkp => ?_⟩
      rw [eL] at *
      have x6 : Ex H5 (upd H5 kp (.tup [.int ((S.length - 1 : Nat) : Int), .int (g : Int)])) := Ex.add nkp
      obtain ⟨b, R, hR, hI, hm, hit⟩ := (M5.mono x6).item us.top upd_same
      exact hit _ (q _ b R (x5.trans x6) hR hI hm)
end
end Tw
set_option maxRecDepth 100000
set_option maxHeartbeats 2000000
/-! value, accepts. -/
namespace Tw
open PySem PySem.Spec PyProof.Rows L2
section
variable {P : Program} {w : World} {K : PySem.W.Frag} {mg : Str → Option Value} {base : Heap}
def spVal : Sp := fun vs H Q _ => ∃ (r wl : Addr) (R : Rd) (cnt : Nat) (L : List Nat → Bool) (v : List Nat → Nat) (u : List Nat), vs = [.ref r, .ref wl] ∧ RdrV H r R ∧ Hom R cnt L v ∧ (∀ row ∈ R.mul, row.length = R.m) ∧ H wl = some (.lst (nV u)) ∧ Wd cnt u ∧ Q (.int (v u : Nat)) H
theorem scVal : FnScope ["reader", "word", "empty", "letters", "mul", "_", "found", "letter"] ["reader", "word"] (defScope s_value) := ⟨rfl, rfl, rfl, by decide +kernel, rfl, by decide +kernel, by decide +kernel⟩
theorem ok_value (T : Tx w K mg) : Gd P w K mg base CX0 1 (He.ga K "value") ["reader", "word"] spVal := by
  obtain ⟨fd, F⟩ := T.f_value
  refine ⟨fd, F.ok scVal (fun vs H Q E h => ?_) (fun cdv A outer s H vs Q E hr h => ?_), F.bindsN fun _ _ _ _ _ _ us hl => match us, hl with | [_, _], _ => rfl, F.kp⟩
  · obtain ⟨r, wl, R, cnt, L, v, u, rfl, _⟩ := h
    rfl
  · obtain ⟨r, wl, R, cnt, L, v, u, rfl, hR, hh, sq, hw, hu, q⟩ := h
    refine ⟨_, PSs.nox (pss_cons (ps_asg (pv 0) (pg_tup rfl (pgs_cons (pg_name (i := 2) scVal.nd rfl (.inl rfl)) (pgs_cons (pg_name (i := 3) scVal.nd rfl (.inl rfl)) (pgs_cons (pg_name (i := 4) scVal.nd rfl (.inl rfl)) (pgs_cons (pg_name (i := 5) scVal.nd rfl (.inl rfl)) pgs_nil))))))
      (pss_cons (ps_set (i := 6) scVal.nd rfl (.inl rfl) (pv 2))
      (pss_cons (ps_for PassesOwn.never rfl (pi_list (pv 1)) (pg_name (i := 7) scVal.nd rfl (.inl rfl))
        (pss_one (ps_set (i := 6) scVal.nd rfl (.inl rfl) (pe_ix ix_tup (pe_ix ix_tup (pv 4) (pv 6) (fun _ _ => rfl)) (pe_ix ix_tup (pv 3) (pv 7) (fun _ _ => rfl)) (fun _ _ => rfl)))))
      (pss_one (ps_ret (pv 6)))))), ?_⟩
    obtain ⟨lt, mt, at_, as, h1, h2, h3, h4, h5⟩ := id hR
    refine ⟨_, rfl, r, _, rfl, sqT_of h1, rfl, _, _, rfl, _, _, rfl, _, _, rfl, _, _, rfl, rfl, ?_⟩
    refine ⟨_, rfl, ?_⟩
    refine ⟨_, rfl, wl, rfl, ⟨_, SqL.of hw⟩, for_list (K := K) (a := wl) (xs := nV u) (fun i σ H5 => H5 = H ∧ ∃ v7, σ = [some (.ref r), some (.ref wl), some (.int (R.emp : Int)), some (.ref lt), some (.ref mt), some (.ref at_), some (.int (v (u.take i) : Nat)), v7])
      ⟨rfl, none, by rw [List.take_zero, hh.emp]; rfl⟩ (fun i σ H5 _ ⟨e, _⟩ => by subst e; exact SqL.of hw) ?_ ?_⟩
    · rintro i y σ H5 hi ⟨rfl, v7, rfl⟩
      rw [List.getElem?_map] at hi
      cases ea : u[i]? with
      | none => rw [ea] at hi; cases hi
      | some a =>
        rw [ea] at hi
        cases hi
        have ha : a < cnt := hu a (List.mem_of_getElem? ea)
        have hut : Wd cnt (u.take i) := fun b hb => hu b (List.mem_of_mem_take hb)
        have hx := hh.lt _ hut
        have hy := hh.lt _ (Wd.one ha)
        have el := hh.let_ a ha
        have er : R.mul[v (u.take i)]? = some R.mul[v (u.take i)] := List.getElem?_eq_getElem hx
        obtain ⟨t, et, ht⟩ := RdrV.row (mt := mt) h4 er
        have hlr : (R.mul[v (u.take i)]).length = R.m := sq _ (List.getElem_mem hx)
        have ey : (R.mul[v (u.take i)])[v [a]]? = some (R.mul[v (u.take i)])[v [a]] := List.getElem?_eq_getElem (by rw [hlr]; exact hy)
        have em : (R.mul[v (u.take i)])[v [a]]'(by rw [hlr]; exact hy) = v (u.take (i + 1)) := by
          have := hh.mul (u.take i) [a] hut (Wd.one ha)
          unfold Rd.at at this
          rw [er, Option.getD_some, ey, Option.getD_some] at this
          rw [this, List.take_add_one, ea]
          rfl
        refine ⟨_, rfl, _, rfl, mt, _, (v (u.take i) : Nat), _, rfl, rfl, sqT_of h3, et, _, rfl, _, rfl, lt, _, (a : Nat), _, rfl, rfl, sqT_of h2, nV_at el, t, _, (v [a] : Nat), _, rfl, rfl, sqT_of ht, nV_at ey, rfl, some (.int (a : Nat)), ?_⟩
        rw [em]
        rfl
    · rintro σ H5 ⟨rfl, v7, rfl⟩
      rw [List.length_map, List.take_length]
      exact ⟨_, rfl, q⟩
def spAcs : Sp := fun vs H Q _ => ∃ (r wl : Addr) (R : Rd) (cnt : Nat) (L : List Nat → Bool) (u : List Nat), vs = [.ref r, .ref wl] ∧ RdrV H r R ∧ RInv R cnt L ∧ H wl = some (.lst (nV u)) ∧ Wd cnt u ∧ Q (.bl (L u)) H
theorem scAcs : FnScope ["reader", "word"] ["reader", "word"] (defScope s_accepts) := ⟨rfl, rfl, rfl, by decide +kernel, rfl, by decide +kernel, by decide +kernel⟩
theorem ok_accepts (T : Tx w K mg) : Gd P w K mg base CX0 2 (He.ga K "accepts") ["reader", "word"] spAcs := by
  obtain ⟨fd, F⟩ := T.f_accepts
  have GV := ok_value (P := P) (base := base) T
  refine ⟨fd, F.ok scAcs (fun vs H Q E h => ?_) (fun cdv A outer s H vs Q E hr h => ?_), F.bindsN fun _ _ _ _ _ _ us hl => match us, hl with | [_, _], _ => rfl, F.kp⟩
  · obtain ⟨r, wl, R, cnt, L, u, rfl, _⟩ := h
    rfl
  · obtain ⟨r, wl, R, cnt, L, u, rfl, hR, hI, hw, hu, q⟩ := h
    obtain ⟨v, hh⟩ := hI.hom
    refine ⟨_, PSs.nox (pss_one (ps_ret (pe_cmpR op_in_seq (pe_cG GV hr rfl T.g_value pass0 (pa_cons (pv 0) (pa_cons (pv 1) pa_nil))) (pe_ix ix_tup (pv 0) pe_int (fun _ _ => rfl)) (by rfl)))), ?_⟩
    obtain ⟨lt, mt, at_, as, h1, h2, h3, h4, h5⟩ := id hR
    refine ⟨_, rfl, _, rfl, r, wl, R, cnt, L, v, u, rfl, hR, hh, hI.sq, hw, hu, ?_⟩
    refine ⟨_, rfl, r, _, 3, _, rfl, rfl, sqT_of h1, rfl, at_, _, rfl, .inr (sqT_of h5), rfl, nV_flat _, ?_⟩
    have e : inV (.int (v u : Nat)) (nV R.acc) = L u := by
      rw [inV_nat, Bool.eq_iff_iff, decide_eq_true_iff]
      exact hh.acc u hu
    show Q (.bl (inV (.int (v u : Nat)) (nV R.acc))) H
    rw [e]
    exact q
end
end Tw
set_option maxRecDepth 100000
set_option maxHeartbeats 2000000
/-! _law_draw, _law_word. -/
namespace Tw
open PySem PySem.Spec PyProof.Rows L2
theorem seq_cut {t u : TS} {D : Ends} {σ : L2.St} {H : Hp} (h : ∀ R : L2.St → Hp → Prop, R = u D → t { D with nx := R } σ H) : tSeq t u D σ H := h _ rfl
/-- all but the addresses of M is kept -/
def Kx (M : List Addr) (H H' : Hp) : Prop := ∀ b o, b ∉ M → H b = some o → H' b = some o
section
variable {H H1 H2 : Hp} {M : List Addr} {p : Addr} {o : HO}
theorem Kx.refl (M : List Addr) (H : Hp) : Kx M H H := fun _ _ _ h => h
theorem Kx.trans (x : Kx M H H1) (y : Kx M H1 H2) : Kx M H H2 := fun b o hb h => y b o hb (x b o hb h)
theorem Kx.add (h : H p = none) : Kx M H (upd H p o) := fun b u _ e => by rw [upd_ne (ne_of_none e h)]; exact e
theorem Kx.at (h : p ∈ M) : Kx M H (upd H p o) := fun b u hb e => by rw [upd_ne (fun q => hb (by rw [q]; exact h))]; exact e
theorem Kx.more {M' : List Addr} (x : Kx M H H1) (h : ∀ b ∈ M, b ∈ M') : Kx M' H H1 := fun b o hb e => x b o (fun q => hb (h b q)) e
end
/-- the drawing state: script ns at sc -/
def StV (H : Hp) (st sc : Addr) (ns : List Int) : Prop := ∃ (s0 : Int) (pos : Nat) (s3 : Int), H st = some (.lst [.int s0, .int (pos : Int), .ref sc, .int s3]) ∧ H sc = some (.lst (ns.map V.int)) ∧ sc ≠ st
theorem StV.kx {H H' : Hp} {M : List Addr} {st sc : Addr} {ns : List Int} (x : Kx M H H') (h1 : st ∉ M) (h2 : sc ∉ M) (h : StV H st sc ns) : StV H' st sc ns := by
  obtain ⟨s0, pos, s3, e1, e2, e3⟩ := h
  exact ⟨s0, pos, s3, x _ _ h1 e1, x _ _ h2 e2, e3⟩
section
variable {P : Program} {w : World} {K : PySem.W.Frag} {mg : Str → Option Value} {base : Heap}
def spDraw : Sp := fun vs H Q _ => ∃ (st sc : Addr) (ns : List Int) (m : Nat), vs = [.ref st, .int (m : Int)] ∧ StV H st sc ns ∧ 0 < m ∧ m < 1073741824 ∧
  ∀ H' (d : Nat), Kx [st] H H' → StV H' st sc ns → d < m → Q (.int (d : Int)) H'
theorem scDraw : FnScope ["_law_state", "_law_limit", "_law_position", "_law_cell", "_law_mixed", "_law_digit"] ["_law_state", "_law_limit"] (defScope s__law_draw) := ⟨rfl, rfl, rfl, by decide +kernel, rfl, by decide +kernel, by decide +kernel⟩
theorem ok_draw (T : Tx w K mg) : Gd P w K mg base CX0 1 (He.ga K "_law_draw") ["_law_state", "_law_limit"] spDraw := by
  obtain ⟨fd, F⟩ := T.f__law_draw
  refine ⟨fd, F.ok scDraw (fun vs H Q E h => ?_) (fun cdv A outer s H vs Q E hr h => ?_), F.bindsN fun _ _ _ _ _ _ us hl => match us, hl with | [_, _], _ => rfl, F.kp⟩
  · obtain ⟨st, sc, ns, m, rfl, _⟩ := h
    rfl
  · obtain ⟨st, sc, ns, m, rfl, hS, hm0, hm, q⟩ := h
    have nd := scDraw.nd
    refine ⟨_, PSs.nox (pss_cons (ps_if (pt_cmpR op_lt (pe_ix ix_list (pv 0) pe_int (fun _ _ => rfl)) (pv 1) (nomark _))
        (pss_cons (ps_set (i := 2) nd rfl (.inl rfl) (pe_ix ix_list (pv 0) pe_int (fun _ _ => rfl)))
        (pss_cons (ps_asg (pe_op op_addN (pv 2) pe_int) (pg_sub (pv 0) pe_int set_list))
        (pss_cons (ps_set (i := 3) nd rfl (.inl rfl) pe_int)
        (pss_cons (ps_if (pt_cmpR op_lt (pv 2) (pe_callB call_len_seq rfl T.m_len PySem.boot_len (pa_cons (pe_ix ix_list (pv 0) pe_int (fun _ _ => rfl)) pa_nil)) (nomark _))
          (pss_one (ps_set (i := 3) nd rfl (.inl rfl) (pe_ix ix_list (pe_ix ix_list (pv 0) pe_int (fun _ _ => rfl)) (pv 2) (fun _ _ => rfl)))) pss_nil)
        (pss_one (ps_if (pt_cmpR op_ge (pv 3) (pe_op op_pow pe_int pe_int) (by rfl))
          (pss_one (ps_asg (pv 3) (pg_sub (pv 0) pe_int set_list)))
          (pss_cons (ps_asg (pe_op op_mod (pe_callTy call_int1 rfl T.m_int (by decide +kernel) (pa_cons (pe_op op_mul (pe_op op_add (pe_op op_add (pe_op op_add (pe_ix ix_list (pv 0) pe_int (fun _ _ => rfl))
              (pe_op op_mod (pe_callTy call_int1 rfl T.m_int (by decide +kernel) (pa_cons (pv 3) pa_nil)) pe_int)) (pv 2)) pe_int) pe_int) pa_nil)) pe_int) (pg_sub (pv 0) pe_int set_list))
          (pss_cons (ps_set (i := 4) nd rfl (.inl rfl) (pe_op op_mod (pe_callTy call_int1 rfl T.m_int (by decide +kernel) (pa_cons (pe_op op_add (pe_op op_mul (pe_ix ix_list (pv 0) pe_int (fun _ _ => rfl)) pe_int) pe_int) pa_nil)) pe_int))
          (pss_one (ps_asg (pe_op op_add (pe_op op_mul (pv 4) pe_int) (pe_op op_mod (pe_callTy call_int1 rfl T.m_int (by decide +kernel) (pa_cons (pe_op op_add (pe_op op_mul (pv 4) pe_int) (pe_ix ix_list (pv 0) pe_int (fun _ _ => rfl))) pa_nil)) pe_int)) (pg_sub (pv 0) pe_int set_list))))))))))) pss_nil)
      (pss_cons (ps_set (i := 5) nd rfl (.inl rfl) (pe_op op_mod (pe_callTy call_int1 rfl T.m_int (by decide +kernel) (pa_cons (pe_ix ix_list (pv 0) pe_int (fun _ _ => rfl)) pa_nil)) (pv 1)))
      (pss_cons (ps_asg (pe_op op_fdiv (pe_ix ix_list (pv 0) pe_int (fun _ _ => rfl)) (pv 1)) (pg_sub (pv 0) pe_int set_list))
      (pss_one (ps_ret (pv 5)))))), ?_⟩
    refine seq_cut fun R hR => ?_
    have fin : ∀ H1 v2 v3 v4 (s0 : Int) (pos : Nat) (s3 : Int), Kx [st] H H1 → H1 st = some (.lst [.int s0, .int (pos : Int), .ref sc, .int s3]) → R [some (.ref st), some (.int (m : Int)), v2, v3, v4, none] H1 := by
      intro H1 v2 v3 v4 s0 pos s3 x1 h1
      subst hR
      have hsc : sc ≠ st := let ⟨_, _, _, _, _, e⟩ := hS; e
      have hsv : H sc = some (.lst (ns.map V.int)) := let ⟨_, _, _, _, e, _⟩ := hS; e
      have hd0 : 0 ≤ s0 % (m : Int) := Int.emod_nonneg _ (by omega)
      have hd1 : s0 % (m : Int) < (m : Int) := Int.emod_lt_of_pos _ (by omega)
      refine ⟨_, rfl, st, _, 0, _, rfl, rfl, SqL.of h1, rfl, .inl ⟨_, rfl, _, rfl, s0, (m : Int), rfl, rfl, by omega, ?_⟩⟩
      refine ⟨_, rfl, st, _, 0, _, rfl, rfl, SqL.of h1, rfl, _, rfl, s0, (m : Int), rfl, rfl, ⟨by omega, by omega⟩, ?_⟩
      refine ⟨_, rfl, st, _, 0, 0, rfl, rfl, h1, rfl, ?_⟩
      refine ⟨_, rfl, ?_⟩
      have e : s0 % (m : Int) = ((s0 % (m : Int)).toNat : Int) := by omega
      have qq := q (upd H1 st (.lst [.int (s0 / (m : Int)), .int (pos : Int), .ref sc, .int s3])) (s0 % (m : Int)).toNat (x1.trans (Kx.at (List.mem_singleton.mpr rfl))) ⟨_, pos, s3, upd_same, by rw [upd_ne hsc]; exact x1 _ _ (by simpa using hsc) hsv, hsc⟩ (by omega)
      rw [← e] at qq
      exact qq
    obtain ⟨s0, pos, s3, h1, h2, h3⟩ := hS
    refine ⟨_, rfl, st, _, 0, _, rfl, rfl, SqL.of h1, rfl, _, rfl, s0, (m : Int), rfl, rfl, _, rfl, ?_⟩
    by_cases c0 : s0 < (m : Int)
    · rw [decide_eq_true c0]
      refine iteT ?_
      refine ⟨_, rfl, st, _, 1, _, rfl, rfl, SqL.of h1, rfl, ?_⟩
      refine ⟨_, rfl, pos, 1, rfl, rfl, _, rfl, st, _, 1, 1, rfl, rfl, h1, rfl, ?_⟩
      generalize hH2 : upd H st (.lst _) = H2
      have x2 : Kx [st] H H2 := by rw [← hH2]; exact Kx.at (List.mem_singleton.mpr rfl)
      have e2 : H2 st = some (.lst [.int s0, .int ((pos + 1 : Nat) : Int), .ref sc, .int s3]) := by rw [← hH2]; exact upd_same
      have e3 : H2 sc = some (.lst (ns.map V.int)) := by rw [← hH2, upd_ne h3]; exact h2
      clear hH2
      show tSeq (tAsg (tC (.int 0)) (gName 3)) _ _ _ H2
      refine seq_cut fun R3 hR3 => ?_
      show R3 _ H2
      subst hR3
      dsimp only
      refine seq_cut fun R4 hR4 => ?_
      have fin4 : ∀ cell : Int, R4 [some (.ref st), some (.int (m : Int)), some (.int (pos : Int)), some (.int cell), none, none] H2 := by
        intro cell
        subst hR4
        refine ⟨_, rfl, 10, 18, rfl, rfl, ⟨by decide, by decide, by decide⟩, cell, _, rfl, rfl, _, rfl, ?_⟩
        by_cases c1 : (10 : Int) ^ (18 : Int).toNat ≤ cell
        · rw [decide_eq_true c1]
          refine iteT ⟨_, rfl, _, rfl, st, _, 0, 0, rfl, rfl, e2, rfl, ?_⟩
          exact fin _ _ _ _ cell (pos + 1) s3 (x2.trans (Kx.at (List.mem_singleton.mpr rfl))) upd_same
        · rw [decide_eq_false c1]
          refine iteF ?_
          refine ⟨_, rfl, st, _, 3, _, rfl, rfl, SqL.of e2, rfl, _, rfl, .inl ⟨_, rfl, cell, 2147483629, rfl, rfl, (by show (0 : Int) < 2147483629; decide), s3, _, rfl, rfl, _, rfl, _, (pos : Int), rfl, rfl, _, 1, rfl, rfl, _, 48271, rfl, rfl, .inr ⟨by decide, by decide⟩, .inl ⟨_, rfl, _, 2147483647, rfl, rfl, (by show (0 : Int) < 2147483647; decide), ?_⟩⟩⟩
          refine ⟨_, rfl, st, _, 3, 3, rfl, rfl, e2, rfl, ?_⟩
          generalize hz : (fun i j => V.int (i % j)) ((s3 + cell % 2147483629 + (pos : Int) + 1) * 48271) 2147483647 = zv
          obtain ⟨z3, rfl⟩ : ∃ z3, zv = V.int z3 := ⟨_, hz.symm⟩
          clear hz
          generalize hH3 : upd H2 st (.lst _) = H3
          have x3 : Kx [st] H H3 := by rw [← hH3]; exact x2.trans (Kx.at (List.mem_singleton.mpr rfl))
          have e4 : H3 st = some (.lst [.int s0, .int ((pos + 1 : Nat) : Int), .ref sc, .int z3]) := by rw [← hH3]; exact upd_same
          clear hH3
          refine ⟨_, rfl, st, _, 3, _, rfl, rfl, SqL.of e4, rfl, z3, 69621, rfl, rfl, .inr ⟨by decide, by decide⟩, _, 11, rfl, rfl, .inl ⟨_, rfl, _, 2147483629, rfl, rfl, (by show (0 : Int) < 2147483629; decide), ?_⟩⟩
          generalize hz : (fun i j => V.int (i % j)) (z3 * 69621 + 11) 2147483629 = zv
          obtain ⟨mx, rfl⟩ : ∃ mx, zv = V.int mx := ⟨_, hz.symm⟩
          clear hz
          refine ⟨_, rfl, mx, 2147483647, rfl, rfl, .inr ⟨by decide, by decide⟩, _, rfl, mx, 30011, rfl, rfl, .inr ⟨by decide, by decide⟩, _, rfl, st, _, 3, _, rfl, rfl, SqL.of e4, rfl, _, z3, rfl, rfl, .inl ⟨_, rfl, _, 2147483587, rfl, rfl, (by show (0 : Int) < 2147483587; decide), _, _, rfl, rfl, _, rfl, st, _, 0, 0, rfl, rfl, e4, rfl, ?_⟩⟩
          exact fin _ _ _ _ _ (pos + 1) z3 (x3.trans (Kx.at (List.mem_singleton.mpr rfl))) upd_same
      refine ⟨_, rfl, _, rfl, st, _, 2, _, rfl, rfl, SqL.of e2, rfl, sc, _, rfl, .inl (SqL.of e3), (pos : Int), _, rfl, rfl, _, rfl, ?_⟩
      by_cases c2 : (pos : Int) < ((ns.map V.int).length : Int)
      · rw [decide_eq_true c2]
        have hp : pos < ns.length := by rw [List.length_map] at c2; omega
        refine iteT ⟨_, rfl, st, _, 2, _, rfl, rfl, SqL.of e2, rfl, _, rfl, sc, _, (pos : Int), _, rfl, rfl, SqL.of e3, atI_nat (v := .int ns[pos]) (by rw [List.getElem?_map, List.getElem?_eq_getElem hp]; rfl), ?_⟩
        exact fin4 _
      · rw [decide_eq_false c2]
        exact iteF (fin4 0)
    · rw [decide_eq_false c0]
      exact iteF (fin H _ _ _ s0 pos s3 (Kx.refl _ _) h1)
end
end Tw
set_option maxRecDepth 100000
set_option maxHeartbeats 2000000
/-! _law_word. -/
namespace Tw
open PySem PySem.Spec PyProof.Rows L2
theorem Kx.fresh {M : List Addr} {H H1 : Hp} {p : Addr} {o : HO} (x : Kx M H H1) (h : H p = none) : Kx M H (upd H1 p o) := fun b u hb e => by rw [upd_ne (ne_of_none e h)]; exact x b u hb e
section
variable {P : Program} {w : World} {K : PySem.W.Frag} {mg : Str → Option Value} {base : Heap}
def spWord : Sp := fun vs H Q _ => ∃ (st sc : Addr) (ns : List Int) (m k : Nat), vs = [.ref st, .int (m : Int), .int (k : Int)] ∧ StV H st sc ns ∧ 0 < m ∧ m < 1000 ∧ k < 1000 ∧
  ∀ H' p (u : List Nat), Kx [st] H H' → StV H' st sc ns → H' p = some (.lst (nV u)) → H p = none → Wd m u → u.length ≤ k → Q (.ref p) H'
abbrev nWrd : List Str := ["_law_state", "_law_count", "_law_most", "_law_k"]
theorem scWrd : FnScope nWrd ["_law_state", "_law_count", "_law_most"] (defScope s__law_word) := ⟨rfl, rfl, rfl, by decide +kernel, rfl, by decide +kernel, by decide +kernel⟩
theorem ok_word (T : Tx w K mg) : Gd P w K mg base CX0 2 (He.ga K "_law_word") ["_law_state", "_law_count", "_law_most"] spWord := by
  obtain ⟨fd, F⟩ := T.f__law_word
  have GD := ok_draw (P := P) (base := base) T
  refine ⟨fd, F.ok scWrd (fun vs H Q E h => ?_) (fun cdv A outer s H vs Q E hr h => ?_), F.bindsN fun _ _ _ _ _ _ us hl => match us, hl with | [_, _, _], _ => rfl, F.kp⟩
  · obtain ⟨st, sc, ns, m, k, rfl, _⟩ := h
    rfl
  · obtain ⟨st, sc, ns, m, k, rfl, hS, hm0, hm, hk, q⟩ := h
    refine ⟨_, PSs.nox (pss_one (ps_ret (pe_lc (own := [("_law_k", 3)]) (g := gName 3) (tt := tYes) rfl scWrd.nd
      (pi_range1 rfl T.m_range (pa_cons (pe_cG GD hr rfl T.g__law_draw pass0 (pa_cons (pv 0) (pa_cons (pe_op op_addN (pv 2) pe_int) pa_nil))) pa_nil))
      (blkOk_by (own := [("_law_k", 3)]) (N := nWrd) (sc := defScope s__law_word) (by decide +kernel))
      (fun _ _ _ _ _ => pg_name (i := 3) scWrd.nd rfl (Or.inl rfl)) (fun _ _ _ _ _ => pts_nil) (fun _ _ _ _ _ => pe_cG GD hr rfl T.g__law_draw pass0 (pa_cons (pv 0) (pa_cons (pv 1) pa_nil)))))), ?_⟩
    refine ⟨_, rfl, _, rfl, k, 1, rfl, rfl, st, sc, ns, k + 1, rfl, hS, by omega, by omega, fun H1 d x1 hS1 hd => ?_⟩
    refine ⟨(d : Int), rfl, by omega, by omega, fun p np => ?_⟩
    have hSp : StV (upd H1 p (.lst [])) st sc ns := hS1.kx (M := []) (Kx.add np) (by simp) (by simp)
    have x2 : Kx [st] H (upd H1 p (.lst [])) := x1.trans (Kx.add np)
    have npst : p ≠ st := fun e => by
      obtain ⟨_, _, _, e1, _⟩ := hS1
      rw [e, e1] at np
      cases np
    have np0 : H p = none := by
      cases e : H p with
      | none => rfl
      | some o => rw [x1 p o (by simpa using npst) e] at np; cases np
    refine lc_rangeN (n := d) (by simp) (fun i H3 => ∃ u : List Nat, Kx [st] H H3 ∧ StV H3 st sc ns ∧ H3 p = some (.lst (nV u)) ∧ u.length = i ∧ Wd m u) ⟨[], x2, hSp, upd_same, rfl, Wd.nil⟩ ?_ ?_
    · rintro i H3 hi ⟨u, x3, hS3, hp3, hl, hu⟩
      refine ⟨rfl, _, rfl, _, rfl, st, sc, ns, m, rfl, hS3, hm0, by omega, fun H4 y x4 hS4 hy => ⟨nV u, x4 p _ (by simpa using npst) hp3, by rw [List.length_map, sizeLine_eq]; omega, ?_⟩⟩
      have hpsc : sc ≠ p := fun e => by
        obtain ⟨_, _, _, _, e2, _⟩ := hS
        rw [e, np0] at e2
        cases e2
      refine ⟨u ++ [y], (x3.trans x4).fresh np0, ?_, ?_, by rw [List.length_append, hl]; rfl, hu.app (Wd.one hy)⟩
      · obtain ⟨s0, pos, s3, e1, e2, e3⟩ := hS4
        exact ⟨s0, pos, s3, by rw [upd_ne (fun e => npst e.symm)]; exact e1, by rw [upd_ne hpsc]; exact e2, e3⟩
      · rw [upd_same, nV, nV, List.map_append]
        rfl
    · rintro H3 ⟨u, x3, hS3, hp3, hl, hu⟩
      exact q H3 p u x3 hS3 hp3 np0 hu (by omega)
end
end Tw
set_option maxRecDepth 100000
set_option maxHeartbeats 2000000
/-! The lines that the law makes; _law_place. -/
namespace Tw
open PySem PySem.Spec PyProof.Rows L2
/-- the lines so far, a list -/
def LinV (H : Hp) (ll : Addr) (S : List Ln) : Prop := ∃ as, H ll = some (.lst (as.map V.ref)) ∧ LinesAt H as S
theorem LinesAt.kx {H H' : Hp} {as : List Addr} {S : List Ln} (t : TupK H H') (h : LinesAt H as S) : LinesAt H' as S := ⟨h.1, fun i a l e1 e2 => t _ _ (h.2 i a l e1 e2)⟩
theorem LinV.len {H : Hp} {ll : Addr} {S : List Ln} (h : LinV H ll S) : ∃ xs, H ll = some (.lst xs) ∧ xs.length = S.length := by
  obtain ⟨as, h1, h2⟩ := h
  exact ⟨_, h1, by rw [List.length_map]; exact h2.1⟩
/-- one line more -/
theorem LinV.snoc {H : Hp} {ll tp : Addr} {S : List Ln} {l : Ln} {as : List Addr} (h1 : H ll = some (.lst (as.map V.ref))) (h2 : LinesAt H as S) (ht : H tp = some (.tup (lnV l))) :
    LinV (upd H ll (.lst (as.map V.ref ++ [.ref tp]))) ll (S ++ [l]) := by
  have t : TupK H (upd H ll (.lst (as.map V.ref ++ [.ref tp]))) := (TupK.refl H).mut fun vs e => by rw [h1] at e; cases e
  refine ⟨as ++ [tp], by rw [upd_same, List.map_append]; rfl, ⟨by rw [List.length_append, List.length_append, h2.1]; rfl, fun i a m e1 e2 => ?_⟩⟩
  by_cases c : i < as.length
  · rw [List.getElem?_append_left c] at e1
    rw [List.getElem?_append_left (by rw [← h2.1]; exact c)] at e2
    exact t _ _ (h2.2 i a m e1 e2)
  · have hl := (List.getElem?_eq_some_iff.mp e1).1
    rw [List.length_append, List.length_singleton] at hl
    have ei : i = as.length := by omega
    subst ei
    rw [List.getElem?_append_right (Nat.le_refl _), Nat.sub_self] at e1
    rw [List.getElem?_append_right (by rw [h2.1]; exact Nat.le_refl _), h2.1, Nat.sub_self] at e2
    cases e1
    cases e2
    exact t _ _ ht
/-- what a maker of lines leaves -/
structure GenOk (H H' : Hp) (st sc ll : Addr) (ns : List Int) (S S' : List Ln) : Prop where
  kx : Kx [st, ll] H H'
  sv : StV H' st sc ns
  lv : LinV H' ll S'
  ext : ∃ T, S' = S ++ T
  wf : WF S'
theorem GenOk.trans {H H1 H2 : Hp} {st sc ll : Addr} {ns : List Int} {S S1 S2 : List Ln} (a : GenOk H H1 st sc ll ns S S1) (b : GenOk H1 H2 st sc ll ns S1 S2) : GenOk H H2 st sc ll ns S S2 := by
  obtain ⟨T, e⟩ := a.ext
  obtain ⟨U, f⟩ := b.ext
  exact ⟨a.kx.trans b.kx, b.sv, b.lv, ⟨T ++ U, by rw [f, e, List.append_assoc]⟩, b.wf⟩
theorem GenOk.snoc {H H1 : Hp} {st sc ll tp : Addr} {ns : List Int} {S S1 : List Ln} {l : Ln} (a : GenOk H H1 st sc ll ns S S1) (hll : H ll ≠ none) (hns : ll ≠ st) (hnc : ll ≠ sc) (hst : H st ≠ none) (hsc : H sc ≠ none) (ntp : H1 tp = none) (hl : LnOk S1 S1.length l) :
    ∃ xs, upd H1 tp (.tup (lnV l)) ll = some (.lst xs) ∧ xs.length = S1.length ∧ GenOk H (upd (upd H1 tp (.tup (lnV l))) ll (.lst (xs ++ [.ref tp]))) st sc ll ns S (S1 ++ [l]) := by
  obtain ⟨as, h1, h2⟩ := a.lv
  have x : Kx [st, ll] H1 (upd H1 tp (.tup (lnV l))) := Kx.add ntp
  have t1 : TupK H1 (upd H1 tp (.tup (lnV l))) := (Ex.add ntp).tk
  have nl : ll ≠ tp := ne_of_none h1 ntp
  have e1 : upd H1 tp (.tup (lnV l)) ll = some (.lst (as.map V.ref)) := by rw [upd_ne nl]; exact h1
  refine ⟨as.map V.ref, e1, by rw [List.length_map]; exact h2.1, (a.kx.trans x).trans (Kx.at (by simp)), ?_, LinV.snoc e1 (h2.kx t1) upd_same, ?_, a.wf.snoc hl⟩
  · obtain ⟨s0, pos, s3, e2, e3, e4⟩ := a.sv
    have n1 : st ≠ tp := ne_of_none e2 ntp
    have n2 : sc ≠ tp := ne_of_none e3 ntp
    exact ⟨s0, pos, s3, by rw [upd_ne hns.symm, upd_ne n1]; exact e2, by rw [upd_ne hnc.symm, upd_ne n2]; exact e3, e4⟩
  · obtain ⟨T, e⟩ := a.ext
    exact ⟨T ++ [l], by rw [e, List.append_assoc]⟩
end Tw
set_option maxRecDepth 100000
set_option maxHeartbeats 2000000
/-! _law_place. -/
namespace Tw
open PySem PySem.Spec PyProof.Rows L2
section
variable {P : Program} {w : World} {K : PySem.W.Frag} {mg : Str → Option Value} {base : Heap}
theorem op_gtN {X : Cx} : OpR X (compareOp .Gt) (fun x y H Q => ∃ n m : Nat, x = .int (n : Int) ∧ y = .int (m : Int) ∧ Q (.bl (decide (m < n))) H) := by
  intro pins s σ H x y v u Q I rx ry h
  obtain ⟨n, m, rfl, rfl, q⟩ := h
  refine op_gt pins s σ H _ _ v u Q I rx ry ⟨n, m, rfl, rfl, ?_⟩
  have e : decide ((m : Int) < (n : Int)) = decide (m < n) := decide_eq_decide.mpr (by omega)
  show Q (.bl (decide ((m : Int) < (n : Int)))) H
  rw [e]
  exact q
theorem op_leN {X : Cx} : OpR X (compareOp .LtE) (fun x y H Q => ∃ n m : Nat, x = .int (n : Int) ∧ y = .int (m : Int) ∧ Q (.bl (decide (n ≤ m))) H) := by
  intro pins s σ H x y v u Q I rx ry h
  obtain ⟨n, m, rfl, rfl, q⟩ := h
  refine op_le pins s σ H _ _ v u Q I rx ry ⟨n, m, rfl, rfl, ?_⟩
  have e : decide ((n : Int) ≤ (m : Int)) = decide (n ≤ m) := decide_eq_decide.mpr (by omega)
  show Q (.bl (decide ((n : Int) ≤ (m : Int)))) H
  rw [e]
  exact q
/-- at a maker's start -/
structure GenPre (H : Hp) (st sc ll : Addr) (ns : List Int) (S : List Ln) : Prop where
  sv : StV H st sc ns
  lv : LinV H ll S
  wf : WF S
  ls : ll ≠ st
  lc : ll ≠ sc
theorem GenOk.pre {H H1 : Hp} {st sc ll : Addr} {ns : List Int} {S S1 : List Ln} (p : GenPre H st sc ll ns S) (a : GenOk H H1 st sc ll ns S S1) : GenPre H1 st sc ll ns S1 := ⟨a.sv, a.lv, a.wf, p.ls, p.lc⟩
theorem GenOk.app {H H2 : Hp} {st sc ll tp : Addr} {ns : List Int} {S S2 : List Ln} {l : Ln} {Q : VK} (hp : GenPre H st sc ll ns S) (g : GenOk H H2 st sc ll ns S S2) (hl : LnOk S2 S2.length l) (hz : S2.length ≤ 100000) (ntp : H2 tp = none)
    (h : ∀ H4, GenOk H H4 st sc ll ns S (S2 ++ [l]) → Q .non H4) : rAppend (.ref ll) [.ref tp] (upd H2 tp (.tup (lnV l))) Q := by
  have e1 : H ll ≠ none := by obtain ⟨as, e, _⟩ := hp.lv; rw [e]; intro q; cases q
  have e2 : H st ≠ none := by obtain ⟨_, _, _, e, _⟩ := hp.sv; rw [e]; intro q; cases q
  have e3 : H sc ≠ none := by obtain ⟨_, _, _, _, e, _⟩ := hp.sv; rw [e]; intro q; cases q
  obtain ⟨xs, h1, h2, h3⟩ := g.snoc (l := l) e1 hp.ls hp.lc e2 e3 ntp hl
  exact ⟨ll, xs, .ref tp, rfl, rfl, h1, by rw [h2, sizeLine_eq]; omega, h _ h3⟩
theorem GenPre.draw {H H1 : Hp} {st sc ll : Addr} {ns : List Int} {S : List Ln} (hp : GenPre H st sc ll ns S) (x1 : Kx [st] H H1) (sv1 : StV H1 st sc ns) : GenOk H H1 st sc ll ns S S := by
  refine ⟨x1.more (by simp), sv1, ?_, ⟨[], by simp⟩, hp.wf⟩
  obtain ⟨as, e1, e2⟩ := hp.lv
  have hls := hp.ls
  exact ⟨as, x1 _ _ (by simpa using hls) e1, ⟨e2.1, fun i a l f1 f2 => x1 _ _ (fun q => by
    obtain ⟨_, _, _, e3, _⟩ := hp.sv
    have := e2.2 i a l f1 f2
    rw [List.mem_singleton.mp q, e3] at this
    cases this) (e2.2 i a l f1 f2)⟩⟩
theorem tAnd_dec {p q : Prop} [Decidable p] [Decidable q] {A B : TT} {σ : L2.St} {H : Hp} {Q : Bool → Hp → Prop} (hA : ∀ Q : Bool → Hp → Prop, Q (decide p) H → A σ H Q) (hB : ∀ Q : Bool → Hp → Prop, Q (decide q) H → B σ H Q) (h : Q (decide (p ∧ q)) H) : tAnd A B σ H Q := by
  refine hA _ ?_
  by_cases hp : p
  · rw [decide_eq_true hp]
    refine iteT (hB _ ?_)
    have e : decide (p ∧ q) = decide q := decide_eq_decide.mpr (by simp [hp])
    rw [← e]
    exact h
  · rw [decide_eq_false hp]
    have e : decide (p ∧ q) = false := decide_eq_false fun z => hp z.1
    rw [e] at h
    exact iteF h
def spPlace (d : Nat) : Sp := fun vs H Q _ => ∃ (st sc ll : Addr) (ns : List Int) (m k : Nat) (S : List Ln), vs = [.ref st, .int (m : Int), .ref ll, .int (d : Int), .int (k : Int)] ∧ GenPre H st sc ll ns S ∧ 0 < m ∧ m < 1000 ∧ k ≤ 6 ∧ S.length + 2 ^ (d + 1) ≤ 100000 ∧
  ∀ H' S', GenOk H H' st sc ll ns S S' → S.length < S'.length → S'.length + 1 ≤ S.length + 2 ^ (d + 1) → KindAt S' (S'.length - 1) true → Q (.int ((S'.length - 1 : Nat) : Int)) H'
def spPlaceN (N : Nat) : Sp := fun vs H Q E => ∃ d, d < N ∧ spPlace d vs H Q E
abbrev nPlc : List Str := ["_law_state", "_law_count", "_law_lines", "_law_deep", "_law_sets", "_law_choice", "_law_one"]
theorem scPlc : FnScope nPlc ["_law_state", "_law_count", "_law_lines", "_law_deep", "_law_sets"] (defScope s__law_place) := ⟨rfl, rfl, rfl, by decide +kernel, rfl, by decide +kernel, by decide +kernel⟩
theorem ok_place (T : Tx w K mg) : ∀ N, Gd P w K mg base CX0 (3 + N) (He.ga K "_law_place") ["_law_state", "_law_count", "_law_lines", "_law_deep", "_law_sets"] (spPlaceN N) := by
  obtain ⟨fd, F⟩ := T.f__law_place
  have GD := ok_draw (P := P) (base := base) T
  have nd := scPlc.nd
  have key : ∀ N, FnOk P w K mg base CX0 (3 + N) (He.ga K "_law_place") fd ["_law_state", "_law_count", "_law_lines", "_law_deep", "_law_sets"] (spPlaceN N) := by
    intro N
    induction N with
    | zero => exact fnOk_no fun vs H Q E ⟨d, hd, _⟩ => absurd hd (Nat.not_lt_zero _)
    | succ N ih =>
      refine F.ok scPlc (fun vs H Q E h => ?_) (fun cdv A outer s H vs Q E hr h => ?_)
      · obtain ⟨d, _, st, sc, ll, ns, m, k, S, rfl, _⟩ := h
        rfl
      · obtain ⟨d, hd, st, sc, ll, ns, m, k, S, rfl, hp, hm0, hm, hk, hz, q⟩ := h
        have G : Gd P w K mg base CX0 (3 + N) (He.ga K "_law_place") ["_law_state", "_law_count", "_law_lines", "_law_deep", "_law_sets"] (spPlaceN N) := ⟨fd, ih, F.bindsN fun _ _ _ _ _ _ us hl => match us, hl with | [_, _, _, _, _], _ => rfl, F.kp⟩
        have hr0 : Room (3 + N) _ := hr
        have hrD := hr0.mono (show 1 ≤ 3 + N by omega)
        refine ⟨_, PSs.nox (pss_cons (ps_set (i := 5) nd rfl (.inl rfl) (pe_cG GD hrD rfl T.g__law_draw pass0 (pa_cons (pv 0) (pa_cons pe_int pa_nil))))
        (pss_cons (ps_if (PW.pt (pw_and (pt_cmpR op_gtN (pv 3) pe_int (nomark _)) (pw_and1 (pt_cmpR op_eqNN (pv 5) pe_int (nomark _)))))
        (pss_one (ps_expr (pe_bm PySem.F.plainAttrs_list PySem.F.slot_list_append PySem.F.type_list_append mt_append (pv 2) (pa_cons (pe_tup (pa_cons pe_str (pa_cons (pe_cG G hr0 rfl T.g__law_place pass0 (pa_cons (pv 0) (pa_cons (pv 1) (pa_cons (pv 2) (pa_cons (pe_op op_subN (pv 3) pe_int) (pa_cons (pv 4) pa_nil)))))) pa_nil))) pa_nil))))
        (pss_one (ps_if (PW.pt (pw_and (pt_cmpR op_gtN (pv 3) pe_int (nomark _)) (pw_and1 (pt_cmpR op_eqNN (pv 5) pe_int (nomark _)))))
        (pss_cons (ps_set (i := 6) nd rfl (.inl rfl) (pe_cG G hr0 rfl T.g__law_place pass0 (pa_cons (pv 0) (pa_cons (pv 1) (pa_cons (pv 2) (pa_cons (pe_op op_subN (pv 3) pe_int) (pa_cons (pv 4) pa_nil)))))))
        (pss_one (ps_expr (pe_bm PySem.F.plainAttrs_list PySem.F.slot_list_append PySem.F.type_list_append mt_append (pv 2) (pa_cons (pe_tup (pa_cons pe_str (pa_cons (pv 6) (pa_cons (pe_cG G hr0 rfl T.g__law_place pass0 (pa_cons (pv 0) (pa_cons (pv 1) (pa_cons (pv 2) (pa_cons (pe_op op_subN (pv 3) pe_int) (pa_cons (pv 4) pa_nil)))))) pa_nil)))) pa_nil)))))
        (pss_one (ps_if (PW.pt (pw_and (pt_cmpR op_gtN (pv 4) pe_int (nomark _)) (pw_and1 (pt_cmpR op_leN (pv 5) pe_int (nomark _)))))
        (pss_one (ps_expr (pe_bm PySem.F.plainAttrs_list PySem.F.slot_list_append PySem.F.type_list_append mt_append (pv 2) (pa_cons (pe_tup (pa_cons pe_str (pa_cons (pe_cG GD hrD rfl T.g__law_draw pass0 (pa_cons (pv 0) (pa_cons (pe_callB (call_min2 rfl) rfl T.m_min (by decide +kernel) (pa_cons pe_int (pa_cons (pe_op op_addN (pv 4) (pe_callTy call_int1 rfl T.m_int (by decide +kernel) (pa_cons (pe_cmpR op_eqNN (pe_cG GD hrD rfl T.g__law_draw pass0 (pa_cons (pv 0) (pa_cons pe_int pa_nil))) pe_int (nomark _)) pa_nil))) pa_nil))) pa_nil))) pa_nil))) pa_nil))))
        (pss_one (ps_expr (pe_bm PySem.F.plainAttrs_list PySem.F.slot_list_append PySem.F.type_list_append mt_append (pv 2) (pa_cons (pe_tup (pa_cons pe_str (pa_cons (pe_cG GD hrD rfl T.g__law_draw pass0 (pa_cons (pv 0) (pa_cons (pv 1) pa_nil))) pa_nil))) pa_nil)))))))))
        (pss_one (ps_ret (pe_op op_subN (pe_callB call_len_seq rfl T.m_len PySem.boot_len (pa_cons (pv 2) pa_nil)) pe_int))))), ?_⟩
        refine ⟨_, rfl, st, sc, ns, 6, rfl, hp.sv, by decide, by decide, fun H1 ch x1 sv1 hch => ?_⟩
        dsimp only
        refine seq_cut fun R hR => ?_
        have x1' : Kx [st, ll] H H1 := x1.more (by simp)
        have g1 : GenOk H H1 st sc ll ns S S := by
          refine ⟨x1', sv1, ?_, ⟨[], by simp⟩, hp.wf⟩
          obtain ⟨as, e1, e2⟩ := hp.lv
          have hls := hp.ls
          exact ⟨as, x1 _ _ (by simpa using hls) e1, ⟨e2.1, fun i a l f1 f2 => x1 _ _ (fun q => by
            obtain ⟨_, _, _, e3, _⟩ := hp.sv
            have := e2.2 i a l f1 f2
            rw [List.mem_singleton.mp q, e3] at this
            cases this) (e2.2 i a l f1 f2)⟩⟩
        have p1 := g1.pre hp
        have fin : ∀ (H2 : Hp) (S2 : List Ln) (v6 : Option V), GenOk H H2 st sc ll ns S S2 → S.length < S2.length → S2.length + 1 ≤ S.length + 2 ^ (d + 1) → KindAt S2 (S2.length - 1) true →
            R [some (.ref st), some (.int (m : Int)), some (.ref ll), some (.int (d : Int)), some (.int (k : Int)), some (.int (ch : Int)), v6] H2 := by
          intro H2 S2 v6 g2 hl1 hl2 hk2
          subst hR
          obtain ⟨xs, e1, e2⟩ := g2.lv.len
          refine ⟨_, rfl, ll, xs, rfl, .inl (SqL.of e1), xs.length, 1, rfl, rfl, by omega, ?_⟩
          rw [e2]
          exact q H2 S2 g2 hl1 hl2 hk2
        have h2p : 2 ^ (d + 1) = 2 * 2 ^ d := by rw [Nat.pow_succ]; omega
        have h2q : 0 < 2 ^ d := Nat.two_pow_pos d
        clear hR
        have app : ∀ (H2 : Hp) (S2 : List Ln) (l : Ln) (v6 : Option V) (tp : Addr), GenOk H H2 st sc ll ns S S2 → LnOk S2 S2.length l → S.length ≤ S2.length → S2.length + 2 ≤ S.length + 2 ^ (d + 1) → l.plc = true → H2 tp = none →
            rAppend (.ref ll) [.ref tp] (upd H2 tp (.tup (lnV l))) (fun _ H' => R [some (.ref st), some (.int (m : Int)), some (.ref ll), some (.int (d : Int)), some (.int (k : Int)), some (.int (ch : Int)), v6] H') := by
          intro H2 S2 l v6 tp g2 hl l1 l2 hpl ntp
          refine g2.app hp hl (by omega) ntp fun H4 g4 => fin H4 _ v6 g4 (by rw [List.length_append, List.length_singleton]; omega) (by rw [List.length_append, List.length_singleton]; omega) ?_
          rw [List.length_append, List.length_singleton, Nat.add_sub_cancel, ← hpl]
          exact kindAt_last S2 _
        refine tAnd_dec (p := 0 < d) (q := ch = 0) (fun Q h => ⟨_, rfl, d, 0, rfl, rfl, _, rfl, h⟩) (fun Q h => ⟨_, rfl, ch, 0, rfl, rfl, _, rfl, h⟩) ?_
        by_cases hA : 0 < d ∧ ch = 0
        · rw [decide_eq_true hA]
          refine iteT ?_
          obtain ⟨ws, ew, _⟩ := g1.lv.len
          refine ⟨_, rfl, .inl ⟨rfl, _, SqL.of ew⟩, _, rfl, _, rfl, _, rfl, _, rfl, d, 1, rfl, rfl, hA.1, _, rfl, ?_⟩
          have ed : d - 1 + 1 = d := by have := hA.1; omega
          refine ⟨d - 1, by have := hA.1; omega, st, sc, ll, ns, m, k, S, rfl, p1, hm0, hm, hk, by rw [ed]; omega, fun H2 S2 g2 l1 l2 k2 => ⟨(by show 2 ≤ sizeLine; decide), fun tp ntp => ?_⟩⟩
          rw [ed] at l2
          exact app H2 S2 (.not (S2.length - 1)) none tp (g1.trans g2) ⟨by omega, k2⟩ (by omega) (by omega) rfl ntp
        · rw [decide_eq_false hA]
          refine iteF ?_
          refine tAnd_dec (p := 0 < d) (q := ch = 1) (fun Q h => ⟨_, rfl, d, 0, rfl, rfl, _, rfl, h⟩) (fun Q h => ⟨_, rfl, ch, 1, rfl, rfl, _, rfl, h⟩) ?_
          by_cases hB : 0 < d ∧ ch = 1
          · rw [decide_eq_true hB]
            refine iteT ?_
            have ed : d - 1 + 1 = d := by have := hB.1; omega
            refine ⟨_, rfl, _, rfl, _, rfl, _, rfl, d, 1, rfl, rfl, hB.1, _, rfl, d - 1, by have := hB.1; omega, st, sc, ll, ns, m, k, S, rfl, p1, hm0, hm, hk, by rw [ed]; omega, fun H2 S2 g2 l1 l2 k2 => ?_⟩
            rw [ed] at l2
            obtain ⟨ws, ew, _⟩ := g2.lv.len
            refine ⟨_, rfl, .inl ⟨rfl, _, SqL.of ew⟩, _, rfl, _, rfl, _, rfl, _, rfl, _, rfl, d, 1, rfl, rfl, hB.1, _, rfl, d - 1, by have := hB.1; omega, st, sc, ll, ns, m, k, S2, rfl, g2.pre p1, hm0, hm, hk, by rw [ed]; omega, fun H3 S3 g3 l3 l4 k4 => ⟨(by show 3 ≤ sizeLine; decide), fun tp ntp => ?_⟩⟩
            rw [ed] at l4
            have k2' : KindAt S3 (S2.length - 1) true := by
              obtain ⟨T, e⟩ := g3.ext
              rw [e]
              exact k2.app
            exact app H3 S3 (.and (S2.length - 1) (S3.length - 1)) _ tp ((g1.trans g2).trans g3) ⟨⟨by omega, k2'⟩, ⟨by omega, k4⟩⟩ (by omega) (by omega) rfl ntp
          · rw [decide_eq_false hB]
            refine iteF ?_
            refine tAnd_dec (p := 0 < k) (q := ch ≤ 3) (fun Q h => ⟨_, rfl, k, 0, rfl, rfl, _, rfl, h⟩) (fun Q h => ⟨_, rfl, ch, 3, rfl, rfl, _, rfl, h⟩) ?_
            obtain ⟨ws, ew, _⟩ := g1.lv.len
            by_cases hC : 0 < k ∧ ch ≤ 3
            · rw [decide_eq_true hC]
              refine iteT ?_
              refine ⟨_, rfl, .inl ⟨rfl, _, SqL.of ew⟩, _, rfl, _, rfl, _, rfl, st, sc, ns, 5, rfl, sv1, by decide, by decide, fun H2 y x2 sv2 hy => ?_⟩
              have hb : ∃ b : Nat, b ≤ 1 ∧ V.int (if decide (y = 1) = true then 1 else 0) = V.int (b : Int) := by
                by_cases c : y = 1
                · exact ⟨1, by decide, by rw [decide_eq_true c]; rfl⟩
                · exact ⟨0, by decide, by rw [decide_eq_false c]; rfl⟩
              obtain ⟨b, hb1, hb2⟩ := hb
              have hm4 : ∃ z : Nat, 0 < z ∧ z < 1073741824 ∧ V.int (if ((k + b : Nat) : Int) < 4 then ((k + b : Nat) : Int) else 4) = V.int (z : Int) := by
                have := hC.1
                by_cases c : ((k + b : Nat) : Int) < 4
                · exact ⟨k + b, by omega, by omega, by rw [if_pos c]⟩
                · exact ⟨4, by decide, by decide, by rw [if_neg c]; rfl⟩
              obtain ⟨z, hz0, hz1, hz2⟩ := hm4
              refine ⟨y, 1, rfl, rfl, .inr ⟨_, rfl, k, b, rfl, hb2, 4, _, rfl, st, sc, ns, z, by rw [hz2]; rfl, sv2, hz0, hz1, fun H3 i x3 sv3 hi => ⟨(by show 2 ≤ sizeLine; decide), fun tp ntp => ?_⟩⟩⟩
              have g2 := p1.draw x2 sv2
              exact app H3 S (.set i) none tp ((g1.trans g2).trans ((g2.pre p1).draw x3 sv3)) trivial (by omega) (by omega) rfl ntp
            · rw [decide_eq_false hC]
              refine iteF ?_
              refine ⟨_, rfl, .inl ⟨rfl, _, SqL.of ew⟩, _, rfl, _, rfl, st, sc, ns, m, rfl, sv1, hm0, by omega, fun H2 y x2 sv2 hy => ⟨(by show 2 ≤ sizeLine; decide), fun tp ntp => ?_⟩⟩
              exact app H2 S (.letter y) none tp (g1.trans (p1.draw x2 sv2)) trivial (by omega) (by omega) rfl ntp
  exact fun N => ⟨fd, key N, F.bindsN fun _ _ _ _ _ _ us hl => match us, hl with | [_, _, _, _, _], _ => rfl, F.kp⟩
end
end Tw
set_option maxRecDepth 100000
set_option maxHeartbeats 2000000
/-! _law_simple. -/
namespace Tw
open PySem PySem.Spec PyProof.Rows L2
section
variable {P : Program} {w : World} {K : PySem.W.Frag} {mg : Str → Option Value} {base : Heap}
theorem GenPre.alloc {H : Hp} {st sc ll p : Addr} {o : HO} {ns : List Int} {S : List Ln} (hp : GenPre H st sc ll ns S) (np : H p = none) : GenOk H (upd H p o) st sc ll ns S S := by
  refine ⟨Kx.add np, hp.sv.kx (M := []) (Kx.add np) (by simp) (by simp), ?_, ⟨[], by simp⟩, hp.wf⟩
  obtain ⟨as, e1, e2⟩ := hp.lv
  exact ⟨as, by rw [upd_ne (ne_of_none e1 np)]; exact e1, e2.kx (Ex.add np).tk⟩
theorem GenOk.line {H H2 : Hp} {st sc ll tp : Addr} {ns : List Int} {S S2 : List Ln} {l : Ln} (g : GenOk H H2 st sc ll ns S S2) (hp : GenPre H st sc ll ns S) (hl : LnOk S2 S2.length l) (hz : S2.length ≤ 100000) (ntp : H2 tp = none) :
    ∃ xs, upd H2 tp (.tup (lnV l)) ll = some (.lst xs) ∧ xs.length < sizeLine ∧ GenOk H (upd (upd H2 tp (.tup (lnV l))) ll (.lst (xs ++ [.ref tp]))) st sc ll ns S (S2 ++ [l]) := by
  have e1 : H ll ≠ none := by obtain ⟨as, e, _⟩ := hp.lv; rw [e]; intro q; cases q
  have e2 : H st ≠ none := by obtain ⟨_, _, _, e, _⟩ := hp.sv; rw [e]; intro q; cases q
  have e3 : H sc ≠ none := by obtain ⟨_, _, _, _, e, _⟩ := hp.sv; rw [e]; intro q; cases q
  obtain ⟨xs, h1, h2, h3⟩ := g.snoc (l := l) e1 hp.ls hp.lc e2 e3 ntp hl
  exact ⟨xs, h1, by rw [h2, sizeLine_eq]; omega, h3⟩
theorem thd_sim {S : List Ln} {l : Ln} (h : isPlain l = true) : thd (S ++ [l]) S.length = 0 := by
  have e : (S ++ [l])[S.length]? = some l := by simp
  cases l <;> first | (cases h; done) | (rw [thd, e])
theorem plc_plain {l : Ln} (h : isPlain l = true) : l.plc = false := by cases l <;> first | rfl | cases h
def spSimple : Sp := fun vs H Q _ => ∃ (st sc ll : Addr) (ns : List Int) (m k : Nat) (S : List Ln), vs = [.ref st, .int (m : Int), .ref ll, .int (k : Int)] ∧ GenPre H st sc ll ns S ∧ 0 < m ∧ m < 1000 ∧ k ≤ 6 ∧ S.length + 20 ≤ 99000 ∧
  ∀ H' S', GenOk H H' st sc ll ns S S' → S.length < S'.length → S'.length ≤ S.length + 20 → KindAt S' (S'.length - 1) false → thd S' (S'.length - 1) = 0 → Q (.int ((S'.length - 1 : Nat) : Int)) H'
abbrev nSim : List Str := ["_law_state", "_law_count", "_law_lines", "_law_sets", "_law_name", "_law_one"]
theorem scSim : FnScope nSim ["_law_state", "_law_count", "_law_lines", "_law_sets"] (defScope s__law_simple) := ⟨rfl, rfl, rfl, by decide +kernel, rfl, by decide +kernel, by decide +kernel⟩
theorem ok_simple (T : Tx w K mg) : Gd P w K mg base CX0 7 (He.ga K "_law_simple") ["_law_state", "_law_count", "_law_lines", "_law_sets"] spSimple := by
  obtain ⟨fd, F⟩ := T.f__law_simple
  have GD := ok_draw (P := P) (base := base) T
  have GP := ok_place (P := P) (base := base) T 3
  have nd := scSim.nd
  refine ⟨fd, F.ok scSim (fun vs H Q E h => ?_) (fun cdv A outer s H vs Q E hr h => ?_), F.bindsN fun _ _ _ _ _ _ us hl => match us, hl with | [_, _, _, _], _ => rfl, F.kp⟩
  · obtain ⟨st, sc, ll, ns, m, k, S, rfl, _⟩ := h
    rfl
  · obtain ⟨st, sc, ll, ns, m, k, S, rfl, hp, hm0, hm, hk, hz, q⟩ := h
    have hrD : Room 1 _ := hr.mono (by decide)
    refine ⟨_, PSs.nox (pss_cons (ps_set (i := 4) nd rfl (.inl rfl) (pe_ix ix_list (pe_lst (pa_cons pe_str (pa_cons pe_str (pa_cons pe_str (pa_cons pe_str (pa_cons pe_str (pa_cons pe_str (pa_cons pe_str pa_nil)))))))) (pe_cG GD hrD rfl T.g__law_draw pass0 (pa_cons (pv 0) (pa_cons pe_int pa_nil))) (fun _ _ => rfl)))
        (pss_cons (ps_if (pt_cmpR op_eq (pv 4) pe_str (nomark _))
        (pss_cons (ps_expr (pe_bm PySem.F.plainAttrs_list PySem.F.slot_list_append PySem.F.type_list_append mt_append (pv 2) (pa_cons (pe_tup (pa_cons (pv 4) pa_nil)) pa_nil)))
        (pss_one (ps_ret (pe_op op_subN (pe_callB call_len_seq rfl T.m_len PySem.boot_len (pa_cons (pv 2) pa_nil)) pe_int))))
        pss_nil)
        (pss_cons (ps_if (pt_cmpR op_eq (pv 4) pe_str (nomark _))
        (pss_cons (ps_expr (pe_bm PySem.F.plainAttrs_list PySem.F.slot_list_append PySem.F.type_list_append mt_append (pv 2) (pa_cons (pe_tup (pa_cons (pv 4) (pa_cons (pe_cG GD hrD rfl T.g__law_draw pass0 (pa_cons (pv 0) (pa_cons (pe_callB (call_max2 rfl) rfl T.m_max (by decide +kernel) (pa_cons pe_int (pa_cons (pv 3) pa_nil))) pa_nil))) pa_nil))) pa_nil)))
        (pss_one (ps_ret (pe_op op_subN (pe_callB call_len_seq rfl T.m_len PySem.boot_len (pa_cons (pv 2) pa_nil)) pe_int))))
        pss_nil)
        (pss_cons (ps_set (i := 5) nd rfl (.inl rfl) (pe_cG GP hr rfl T.g__law_place pass0 (pa_cons (pv 0) (pa_cons (pv 1) (pa_cons (pv 2) (pa_cons pe_int (pa_cons (pv 3) pa_nil)))))))
        (pss_cons (ps_if (pt_cmpR op_eq (pv 4) pe_str (nomark _))
        (pss_one (ps_expr (pe_bm PySem.F.plainAttrs_list PySem.F.slot_list_append PySem.F.type_list_append mt_append (pv 2) (pa_cons (pe_tup (pa_cons (pv 4) (pa_cons (pv 5) (pa_cons (pe_cG GP hr rfl T.g__law_place pass0 (pa_cons (pv 0) (pa_cons (pv 1) (pa_cons (pv 2) (pa_cons pe_int (pa_cons (pv 3) pa_nil)))))) pa_nil)))) pa_nil))))
        (pss_one (ps_expr (pe_bm PySem.F.plainAttrs_list PySem.F.slot_list_append PySem.F.type_list_append mt_append (pv 2) (pa_cons (pe_tup (pa_cons (pv 4) (pa_cons (pv 5) pa_nil))) pa_nil)))))
        (pss_one (ps_ret (pe_op op_subN (pe_callB call_len_seq rfl T.m_len PySem.boot_len (pa_cons (pv 2) pa_nil)) pe_int)))))))), ?_⟩
    refine seq_cut fun R hR => ?_
    refine ⟨(by show 7 ≤ sizeLine; decide), fun lp nlp => ⟨_, rfl, st, sc, ns, 7, rfl, (hp.alloc nlp).sv, by decide, by decide, fun H1 y x1 sv1 hy => ?_⟩⟩
    have g0 := hp.alloc (o := .lst [.str "all", .str "next", .str "first", .str "last", .str "nothing", .str "next", .str "one"]) nlp
    have nst : lp ≠ st := fun e => by
      obtain ⟨_, _, _, e3, _⟩ := hp.sv
      rw [e, e3] at nlp
      cases nlp
    have hlp : H1 lp = some (.lst [.str "all", .str "next", .str "first", .str "last", .str "nothing", .str "next", .str "one"]) := x1 _ _ (by simpa using nst) upd_same
    have g1 := g0.trans ((g0.pre hp).draw x1 sv1)
    have p1 := g1.pre hp
    clear nlp nst sv1 x1 g0
    have core : ∀ nm : Str, nm ∈ [("all" : Str), "next", "first", "last", "nothing", "one"] → R [some (.ref st), some (.int (m : Int)), some (.ref ll), some (.int (k : Int)), some (.str nm), none] H1 := by
      intro nm hnm
      subst hR
      have fin : ∀ (H4 : Hp) (S2 : List Ln) (l : Ln), GenOk H H4 st sc ll ns S (S2 ++ [l]) → S.length ≤ S2.length → S2.length + 1 ≤ S.length + 20 → isPlain l = true → ∃ xs, H4 ll = some (.lst xs) ∧ 1 ≤ xs.length ∧ Q (.int ((xs.length - 1 : Nat) : Int)) H4 := by
        intro H4 S2 l g4 l1 l2 hpl
        obtain ⟨xs, e1, e2⟩ := g4.lv.len
        have el : (S2 ++ [l]).length = S2.length + 1 := by rw [List.length_append, List.length_singleton]
        refine ⟨xs, e1, by omega, ?_⟩
        rw [e2]
        refine q H4 _ g4 (by omega) (by omega) ?_ ?_
        · rw [el, Nat.add_sub_cancel, ← plc_plain hpl]
          exact kindAt_last S2 l
        · rw [el, Nat.add_sub_cancel]
          exact thd_sim hpl
      obtain ⟨ws, ew, _⟩ := g1.lv.len
      refine ⟨_, rfl, rfl, _, rfl, ?_⟩
      by_cases c1 : nm = "nothing"
      · subst c1
        refine itT ⟨_, rfl, .inl ⟨rfl, _, SqL.of ew⟩, _, rfl, (by show 1 ≤ sizeLine; decide), fun tp ntp => ?_⟩
        obtain ⟨xs, h1, h2, g4⟩ := g1.line (l := .nothing) hp trivial (by omega) ntp
        refine ⟨ll, xs, .ref tp, rfl, rfl, h1, h2, ?_⟩
        obtain ⟨xs4, f1, f2, f3⟩ := fin _ _ _ g4 (Nat.le_refl _) (by omega) rfl
        exact ⟨_, rfl, ll, xs4, rfl, .inl (SqL.of f1), xs4.length, 1, rfl, rfl, f2, f3⟩
      · refine itF c1 ?_
        refine ⟨_, rfl, rfl, _, rfl, ?_⟩
        by_cases c2 : nm = "one"
        · subst c2
          refine itT ?_
          have hm1 : ∃ z : Nat, 0 < z ∧ z < 1073741824 ∧ V.int (if (k : Int) > 1 then (k : Int) else 1) = V.int (z : Int) := by
            by_cases c : (k : Int) > 1
            · exact ⟨k, by omega, by omega, by rw [if_pos c]⟩
            · exact ⟨1, by decide, by decide, by rw [if_neg c]; rfl⟩
          obtain ⟨z, hz0, hz1, hz2⟩ := hm1
          refine ⟨_, rfl, .inl ⟨rfl, _, SqL.of ew⟩, _, rfl, _, rfl, _, rfl, 1, _, rfl, st, sc, ns, z, by rw [hz2]; rfl, p1.sv, hz0, hz1, fun H2 i x2 sv2 hi => ⟨(by show 2 ≤ sizeLine; decide), fun tp ntp => ?_⟩⟩
          obtain ⟨xs, h1, h2, g4⟩ := (g1.trans (p1.draw x2 sv2)).line (l := .one i) hp trivial (by omega) ntp
          refine ⟨ll, xs, .ref tp, rfl, rfl, h1, h2, ?_⟩
          obtain ⟨xs4, f1, f2, f3⟩ := fin _ _ _ g4 (Nat.le_refl _) (by omega) rfl
          exact ⟨_, rfl, ll, xs4, rfl, .inl (SqL.of f1), xs4.length, 1, rfl, rfl, f2, f3⟩
        · refine itF c2 ?_
          refine ⟨_, rfl, _, rfl, _, rfl, _, rfl, 2, by decide, st, sc, ll, ns, m, k, S, rfl, p1, hm0, hm, hk, by show S.length + 8 ≤ 100000; omega, fun H2 S2 g2 l1 l2 k2 => ?_⟩
          have l2 : S2.length + 1 ≤ S.length + 8 := l2
          have g12 := g1.trans g2
          refine ⟨_, rfl, rfl, _, rfl, ?_⟩
          obtain ⟨us, eu, _⟩ := g2.lv.len
          by_cases c3 : nm = "next"
          · subst c3
            refine itT ?_
            refine ⟨_, rfl, .inl ⟨rfl, _, SqL.of eu⟩, _, rfl, _, rfl, _, rfl, _, rfl, _, rfl, _, rfl, 1, by decide, st, sc, ll, ns, m, k, S2, rfl, g2.pre p1, hm0, hm, hk, by show S2.length + 4 ≤ 100000; omega, fun H3 S3 g3 l3 l4 k4 => ⟨(by show 3 ≤ sizeLine; decide), fun tp ntp => ?_⟩⟩
            have l4 : S3.length + 1 ≤ S2.length + 4 := l4
            have k2' : KindAt S3 (S2.length - 1) true := by
              obtain ⟨T', e⟩ := g3.ext
              rw [e]
              exact k2.app
            obtain ⟨xs, h1, h2, g4⟩ := (g12.trans g3).line (l := .next (S2.length - 1) (S3.length - 1)) hp ⟨⟨by omega, k2'⟩, ⟨by omega, k4⟩⟩ (by omega) ntp
            refine ⟨ll, xs, .ref tp, rfl, rfl, h1, h2, ?_⟩
            obtain ⟨xs4, f1, f2, f3⟩ := fin _ _ _ g4 (by omega) (by omega) rfl
            exact ⟨_, rfl, ll, xs4, rfl, .inl (SqL.of f1), xs4.length, 1, rfl, rfl, f2, f3⟩
          · refine itF c3 ?_
            have mk : ∃ l : Ln, lnV l = [.str nm, .int ((S2.length - 1 : Nat) : Int)] ∧ isPlain l = true ∧ LnOk S2 S2.length l := by
              have hc : S2.length - 1 < S2.length ∧ KindAt S2 (S2.length - 1) true := ⟨by omega, k2⟩
              rcases List.mem_cons.mp hnm with rfl | hnm
              · exact ⟨.all _, rfl, rfl, hc⟩
              rcases List.mem_cons.mp hnm with rfl | hnm
              · exact absurd rfl c3
              rcases List.mem_cons.mp hnm with rfl | hnm
              · exact ⟨.first _, rfl, rfl, hc⟩
              rcases List.mem_cons.mp hnm with rfl | hnm
              · exact ⟨.last _, rfl, rfl, hc⟩
              rcases List.mem_cons.mp hnm with rfl | hnm
              · exact absurd rfl c1
              obtain rfl := List.mem_singleton.mp hnm
              exact absurd rfl c2
            obtain ⟨l, el, hpl, hok⟩ := mk
            refine ⟨_, rfl, .inl ⟨rfl, _, SqL.of eu⟩, _, rfl, _, rfl, (by show 2 ≤ sizeLine; decide), fun tp ntp => ?_⟩
            obtain ⟨xs, h1, h2, g4⟩ := g12.line (l := l) hp hok (by omega) ntp
            rw [el] at h1 g4
            refine ⟨ll, xs, .ref tp, rfl, rfl, h1, h2, ?_⟩
            obtain ⟨xs4, f1, f2, f3⟩ := fin _ _ _ g4 (by omega) (by omega) hpl
            exact ⟨_, rfl, ll, xs4, rfl, .inl (SqL.of f1), xs4.length, 1, rfl, rfl, f2, f3⟩
    have hy7 : y = 0 ∨ y = 1 ∨ y = 2 ∨ y = 3 ∨ y = 4 ∨ y = 5 ∨ y = 6 := by omega
    rcases hy7 with rfl | rfl | rfl | rfl | rfl | rfl | rfl
    · exact ⟨lp, _, 0, _, rfl, rfl, SqL.of hlp, rfl, core "all" (by decide +kernel)⟩
    · exact ⟨lp, _, 1, _, rfl, rfl, SqL.of hlp, rfl, core "next" (by decide +kernel)⟩
    · exact ⟨lp, _, 2, _, rfl, rfl, SqL.of hlp, rfl, core "first" (by decide +kernel)⟩
    · exact ⟨lp, _, 3, _, rfl, rfl, SqL.of hlp, rfl, core "last" (by decide +kernel)⟩
    · exact ⟨lp, _, 4, _, rfl, rfl, SqL.of hlp, rfl, core "nothing" (by decide +kernel)⟩
    · exact ⟨lp, _, 5, _, rfl, rfl, SqL.of hlp, rfl, core "next" (by decide +kernel)⟩
    · exact ⟨lp, _, 6, _, rfl, rfl, SqL.of hlp, rfl, core "one" (by decide +kernel)⟩
end
end Tw
set_option maxRecDepth 100000
set_option maxHeartbeats 2000000
/-! _law_statement. -/
namespace Tw
open PySem PySem.Spec PyProof.Rows L2
section
variable {P : Program} {w : World} {K : PySem.W.Frag} {mg : Str → Option Value} {base : Heap}
theorem tOr_dec {p q : Prop} [Decidable p] [Decidable q] {A B : TT} {σ : L2.St} {H : Hp} {Q : Bool → Hp → Prop} (hA : ∀ Q : Bool → Hp → Prop, Q (decide p) H → A σ H Q) (hB : ∀ Q : Bool → Hp → Prop, Q (decide q) H → B σ H Q) (h : Q (decide (p ∨ q)) H) : tOr A B σ H Q := by
  refine hA _ ?_
  by_cases hp : p
  · rw [decide_eq_true hp]
    have e : decide (p ∨ q) = true := decide_eq_true (.inl hp)
    rw [e] at h
    exact iteT h
  · rw [decide_eq_false hp]
    refine iteF (hB _ ?_)
    have e : decide (p ∨ q) = decide q := decide_eq_decide.mpr (by simp [hp])
    rw [← e]
    exact h
def spState (d : Nat) : Sp := fun vs H Q _ => ∃ (st sc ll : Addr) (ns : List Int) (m t k : Nat) (S : List Ln), vs = [.ref st, .int (m : Int), .ref ll, .int (d : Int), .int (t : Int), .int (k : Int)] ∧ GenPre H st sc ll ns S ∧ 0 < m ∧ m < 1000 ∧ k + t ≤ 6 ∧ S.length + 21 * 2 ^ d ≤ 98000 ∧
  ∀ H' S', GenOk H H' st sc ll ns S S' → S.length < S'.length → S'.length + 1 ≤ S.length + 21 * 2 ^ d → KindAt S' (S'.length - 1) false → thd S' (S'.length - 1) ≤ t → Q (.int ((S'.length - 1 : Nat) : Int)) H'
def spStateN (N : Nat) : Sp := fun vs H Q E => ∃ d, d < N ∧ spState d vs H Q E
abbrev nSta : List Str := ["_law_state", "_law_count", "_law_lines", "_law_deep", "_law_theres", "_law_sets", "_law_choice", "_law_one", "_law_two"]
theorem scSta : FnScope nSta ["_law_state", "_law_count", "_law_lines", "_law_deep", "_law_theres", "_law_sets"] (defScope s__law_statement) := ⟨rfl, rfl, rfl, by decide +kernel, rfl, by decide +kernel, by decide +kernel⟩
theorem thd_last {S T : List Ln} (W : WF S) {n : Nat} (h : n < S.length) : thd (S ++ T) n = thd S n := thd_app W n h
theorem ok_statement (T : Tx w K mg) : ∀ N, Gd P w K mg base CX0 (8 + N) (He.ga K "_law_statement") ["_law_state", "_law_count", "_law_lines", "_law_deep", "_law_theres", "_law_sets"] (spStateN N) := by
  obtain ⟨fd, F⟩ := T.f__law_statement
  have GD := ok_draw (P := P) (base := base) T
  have GS := ok_simple (P := P) (base := base) T
  have nd := scSta.nd
  have key : ∀ N, FnOk P w K mg base CX0 (8 + N) (He.ga K "_law_statement") fd ["_law_state", "_law_count", "_law_lines", "_law_deep", "_law_theres", "_law_sets"] (spStateN N) := by
    intro N
    induction N with
    | zero => exact fnOk_no fun vs H Q E ⟨d, hd, _⟩ => absurd hd (Nat.not_lt_zero _)
    | succ N ih =>
      refine F.ok scSta (fun vs H Q E h => ?_) (fun cdv A outer s H vs Q E hr h => ?_)
      · obtain ⟨d, _, st, sc, ll, ns, m, t, k, S, rfl, _⟩ := h
        rfl
      · obtain ⟨d, hd, st, sc, ll, ns, m, t, k, S, rfl, hp, hm0, hm, hk, hz, q⟩ := h
        have G : Gd P w K mg base CX0 (8 + N) (He.ga K "_law_statement") ["_law_state", "_law_count", "_law_lines", "_law_deep", "_law_theres", "_law_sets"] (spStateN N) := ⟨fd, ih, F.bindsN fun _ _ _ _ _ _ us hl => match us, hl with | [_, _, _, _, _, _], _ => rfl, F.kp⟩
        have hr0 : Room (8 + N) _ := hr
        have hrD := hr0.mono (show 1 ≤ 8 + N by omega)
        have hrS := hr0.mono (show 7 ≤ 8 + N by omega)
        refine ⟨_, PSs.nox (pss_cons (ps_set (i := 6) nd rfl (.inl rfl) (pe_cG GD hrD rfl T.g__law_draw pass0 (pa_cons (pv 0) (pa_cons pe_int pa_nil))))
        (pss_cons (ps_if (PW.pt (pw_or (pt_cmpR op_eqNN (pv 3) pe_int (nomark _)) (pw_or1 (pt_cmpR op_eqNN (pv 6) pe_int (nomark _)))))
          (pss_one (ps_ret (pe_cG GS hrS rfl T.g__law_simple pass0 (pa_cons (pv 0) (pa_cons (pv 1) (pa_cons (pv 2) (pa_cons (pv 5) pa_nil)))))))
          pss_nil)
        (pss_cons (ps_if (pt_cmpR op_eqNN (pv 6) pe_int (nomark _))
          (pss_one (ps_expr (pe_bm PySem.F.plainAttrs_list PySem.F.slot_list_append PySem.F.type_list_append mt_append (pv 2) (pa_cons (pe_tup (pa_cons pe_str (pa_cons (pe_cG G hr0 rfl T.g__law_statement pass0 (pa_cons (pv 0) (pa_cons (pv 1) (pa_cons (pv 2) (pa_cons (pe_op op_subN (pv 3) pe_int) (pa_cons (pv 4) (pa_cons (pv 5) pa_nil))))))) pa_nil))) pa_nil))))
        (pss_one (ps_if (PW.pt (pw_and (pt_cmpR op_leN (pv 6) pe_int (nomark _)) (pw_and1 (pt_cmpR op_gtN (pv 4) pe_int (nomark _)))))
          (pss_one (ps_expr (pe_bm PySem.F.plainAttrs_list PySem.F.slot_list_append PySem.F.type_list_append mt_append (pv 2) (pa_cons (pe_tup (pa_cons pe_str (pa_cons (pe_cG G hr0 rfl T.g__law_statement pass0 (pa_cons (pv 0) (pa_cons (pv 1) (pa_cons (pv 2) (pa_cons (pe_op op_subN (pv 3) pe_int) (pa_cons (pe_op op_subN (pv 4) pe_int) (pa_cons (pe_op op_addN (pv 5) pe_int) pa_nil))))))) pa_nil))) pa_nil))))
          (pss_cons (ps_set (i := 7) nd rfl (.inl rfl) (pe_cG G hr0 rfl T.g__law_statement pass0 (pa_cons (pv 0) (pa_cons (pv 1) (pa_cons (pv 2) (pa_cons (pe_op op_subN (pv 3) pe_int) (pa_cons (pv 4) (pa_cons (pv 5) pa_nil))))))))
          (pss_cons (ps_set (i := 8) nd rfl (.inl rfl) (pv 7))
          (pss_cons (ps_if (PW.pt (pw_and (pt_cmpR op_eq (pe_ix ix_tup (pe_ix ix_list (pv 2) (pv 7) (fun _ _ => rfl)) pe_int (fun _ _ => rfl)) pe_str (nomark _)) (pw_and1 (pt_cmpR op_eqNN (pe_cG GD hrD rfl T.g__law_draw pass0 (pa_cons (pv 0) (pa_cons pe_int pa_nil))) pe_int (nomark _)))))
            (pss_one (ps_set (i := 8) nd rfl (.inl rfl) (pe_ix ix_tup (pe_ix ix_list (pv 2) (pv 7) (fun _ _ => rfl)) pe_int (fun _ _ => rfl))))
            (pss_one (ps_if (pt_cmpR op_gtN (pe_cG GD hrD rfl T.g__law_draw pass0 (pa_cons (pv 0) (pa_cons pe_int pa_nil))) pe_int (nomark _))
              (pss_one (ps_set (i := 8) nd rfl (.inl rfl) (pe_cG G hr0 rfl T.g__law_statement pass0 (pa_cons (pv 0) (pa_cons (pv 1) (pa_cons (pv 2) (pa_cons (pe_op op_subN (pv 3) pe_int) (pa_cons (pv 4) (pa_cons (pv 5) pa_nil)))))))))
              pss_nil)))
          (pss_one (ps_expr (pe_bm PySem.F.plainAttrs_list PySem.F.slot_list_append PySem.F.type_list_append mt_append (pv 2) (pa_cons (pe_tup (pa_cons pe_str (pa_cons (pv 7) (pa_cons (pv 8) pa_nil)))) pa_nil))))))))))
        (pss_one (ps_ret (pe_op op_subN (pe_callB call_len_seq rfl T.m_len PySem.boot_len (pa_cons (pv 2) pa_nil)) pe_int)))))), ?_⟩
        refine ⟨_, rfl, st, sc, ns, 6, rfl, hp.sv, by decide, by decide, fun H1 ch x1 sv1 hch => ?_⟩
        dsimp only
        have g1 := hp.draw x1 sv1
        have p1 := g1.pre hp
        refine tOr_dec (p := d = 0) (q := ch = 0) (fun Q h => ⟨_, rfl, d, 0, rfl, rfl, _, rfl, h⟩) (fun Q h => ⟨_, rfl, ch, 0, rfl, rfl, _, rfl, h⟩) ?_
        have h2q : 0 < 2 ^ d := Nat.two_pow_pos d
        by_cases hA : d = 0 ∨ ch = 0
        · rw [decide_eq_true hA]
          refine iteT ?_
          refine ⟨_, rfl, _, rfl, _, rfl, _, rfl, st, sc, ll, ns, m, k, S, rfl, p1, hm0, hm, by omega, by omega, fun H2 S2 g2 l1 l2 k2 e2 => ?_⟩
          exact q H2 S2 (g1.trans g2) l1 (by omega) k2 (by omega)
        rw [decide_eq_false hA]
        refine iteF ?_
        have hd0 : 0 < d := by omega
        unfold tNext
        dsimp only
        refine seq_cut fun R hR => ?_
        have fin : ∀ (H2 : Hp) (S2 : List Ln) (v7 v8 : Option V), GenOk H H2 st sc ll ns S S2 → S.length < S2.length → S2.length + 1 ≤ S.length + 21 * 2 ^ d → KindAt S2 (S2.length - 1) false → thd S2 (S2.length - 1) ≤ t →
            R [some (.ref st), some (.int (m : Int)), some (.ref ll), some (.int (d : Int)), some (.int (t : Int)), some (.int (k : Int)), some (.int (ch : Int)), v7, v8] H2 := by
          intro H2 S2 v7 v8 g2 hl1 hl2 hk2 ht2
          subst hR
          obtain ⟨xs, e1, e2⟩ := g2.lv.len
          refine ⟨_, rfl, ll, xs, rfl, .inl (SqL.of e1), xs.length, 1, rfl, rfl, by omega, ?_⟩
          rw [e2]
          exact q H2 S2 g2 hl1 hl2 hk2 ht2
        clear hR
        have ed : d - 1 + 1 = d := by omega
        have h2p : 2 ^ d = 2 * 2 ^ (d - 1) := by rw [← ed, Nat.pow_succ, Nat.add_sub_cancel]; omega
        have h2r : 0 < 2 ^ (d - 1) := Nat.two_pow_pos _
        have app : ∀ (H2 : Hp) (S2 : List Ln) (l : Ln) (v7 v8 : Option V) (tp : Addr), GenOk H H2 st sc ll ns S S2 → LnOk S2 S2.length l → S.length ≤ S2.length → S2.length + 2 ≤ S.length + 21 * 2 ^ d → l.plc = false → thd (S2 ++ [l]) S2.length ≤ t → H2 tp = none →
            rAppend (.ref ll) [.ref tp] (upd H2 tp (.tup (lnV l))) (fun _ H' => R [some (.ref st), some (.int (m : Int)), some (.ref ll), some (.int (d : Int)), some (.int (t : Int)), some (.int (k : Int)), some (.int (ch : Int)), v7, v8] H') := by
          intro H2 S2 l v7 v8 tp g2 hl l1 l2 hpl ht ntp
          have el : (S2 ++ [l]).length = S2.length + 1 := by rw [List.length_append, List.length_singleton]
          refine g2.app hp hl (by omega) ntp fun H4 g4 => fin H4 _ v7 v8 g4 (by omega) (by omega) ?_ ?_
          · rw [el, Nat.add_sub_cancel, ← hpl]
            exact kindAt_last S2 _
          · rw [el, Nat.add_sub_cancel]
            exact ht
        have atl : ∀ (S2 : List Ln) (l : Ln), (S2 ++ [l])[S2.length]? = some l := fun S2 l => by simp
        refine ⟨_, rfl, ch, 1, rfl, rfl, _, rfl, ?_⟩
        obtain ⟨ws, ew, _⟩ := g1.lv.len
        by_cases hB : ch = 1
        · rw [decide_eq_true hB]
          refine iteT ?_
          refine ⟨_, rfl, .inl ⟨rfl, _, SqL.of ew⟩, _, rfl, _, rfl, _, rfl, _, rfl, d, 1, rfl, rfl, hd0, _, rfl, _, rfl, d - 1, by omega, st, sc, ll, ns, m, t, k, S, rfl, p1, hm0, hm, hk, by omega, fun H2 S2 g2 l1 l2 k2 t2 => ⟨(by show 2 ≤ sizeLine; decide), fun tp ntp => ?_⟩⟩
          have hlt : S2.length - 1 < S2.length := by omega
          refine app H2 S2 (.denied (S2.length - 1)) none none tp (g1.trans g2) ⟨hlt, k2⟩ (by omega) (by omega) rfl ?_ ntp
          rw [thd_denied (atl _ _) hlt, thd_app g2.wf _ hlt]
          exact t2
        rw [decide_eq_false hB]
        refine iteF ?_
        refine tAnd_dec (p := ch ≤ 3) (q := 0 < t) (fun Q h => ⟨_, rfl, ch, 3, rfl, rfl, _, rfl, h⟩) (fun Q h => ⟨_, rfl, t, 0, rfl, rfl, _, rfl, h⟩) ?_
        by_cases hC : ch ≤ 3 ∧ 0 < t
        · rw [decide_eq_true hC]
          have ht0 := hC.2
          refine iteT ?_
          refine ⟨_, rfl, .inl ⟨rfl, _, SqL.of ew⟩, _, rfl, _, rfl, _, rfl, _, rfl, d, 1, rfl, rfl, hd0, _, rfl, t, 1, rfl, rfl, ht0, _, rfl, k, 1, rfl, rfl, d - 1, by omega, st, sc, ll, ns, m, t - 1, k + 1, S, rfl, p1, hm0, hm, by omega, by omega, fun H2 S2 g2 l1 l2 k2 t2 => ⟨(by show 2 ≤ sizeLine; decide), fun tp ntp => ?_⟩⟩
          have hlt : S2.length - 1 < S2.length := by omega
          refine app H2 S2 (.there (S2.length - 1)) none none tp (g1.trans g2) ⟨hlt, k2⟩ (by omega) (by omega) rfl ?_ ntp
          rw [thd_there (atl _ _) hlt, thd_app g2.wf _ hlt]
          omega
        rw [decide_eq_false hC]
        refine iteF ?_
        refine ⟨_, rfl, _, rfl, _, rfl, _, rfl, d, 1, rfl, rfl, hd0, _, rfl, _, rfl, d - 1, by omega, st, sc, ll, ns, m, t, k, S, rfl, p1, hm0, hm, hk, by omega, fun H2 S2 g2 l1 l2 k2 t2 => ?_⟩
        have hlt : S2.length - 1 < S2.length := by omega
        have p2 := g2.pre p1
        have g02 := g1.trans g2
        refine ⟨_, rfl, ?_⟩
        dsimp only
        refine seq_cut fun R2 hR2 => ?_
        have fin2 : ∀ (H3 : Hp) (S3 : List Ln) (n2 : Nat), GenOk H2 H3 st sc ll ns S2 S3 → S3.length + 1 ≤ S2.length + 21 * 2 ^ (d - 1) → n2 < S3.length → KindAt S3 n2 false → thd S3 n2 ≤ t →
            R2 [some (.ref st), some (.int (m : Int)), some (.ref ll), some (.int (d : Int)), some (.int (t : Int)), some (.int (k : Int)), some (.int (ch : Int)), some (.int ((S2.length - 1 : Nat) : Int)), some (.int (n2 : Int))] H3 := by
          intro H3 S3 n2 g3 l3 h2 k3 t3
          subst hR2
          obtain ⟨us, eu, _⟩ := g3.lv.len
          obtain ⟨T', e⟩ := g3.ext
          have l4 : S2.length ≤ S3.length := by rw [e, List.length_append]; omega
          have k2' : KindAt S3 (S2.length - 1) false := by rw [e]; exact k2.app
          have t2' : thd S3 (S2.length - 1) ≤ t := by rw [e, thd_app g2.wf _ hlt]; exact t2
          refine ⟨_, rfl, .inl ⟨rfl, _, SqL.of eu⟩, _, rfl, _, rfl, (by show 3 ≤ sizeLine; decide), fun tp ntp => ?_⟩
          have hl1 : S2.length - 1 < S3.length := by omega
          refine app H3 S3 (.both (S2.length - 1) n2) _ _ tp (g02.trans g3) ⟨⟨hl1, k2'⟩, ⟨h2, k3⟩⟩ (by omega) (by omega) rfl ?_ ntp
          rw [thd_both (atl _ _) hl1 h2, thd_app g3.wf _ hl1, thd_app g3.wf _ h2]
          omega
        clear hR2
        have gr : GenOk H2 H2 st sc ll ns S2 S2 := ⟨Kx.refl _ _, g2.sv, g2.lv, ⟨[], by simp⟩, g2.wf⟩
        -- no statement there, or not drawn
        obtain ⟨as, ea, hla⟩ := g2.lv
        obtain ⟨l, el, hlp⟩ := k2
        have hla' : S2.length - 1 < as.length := by rw [hla.1]; exact hlt
        obtain ⟨a, eas⟩ : ∃ a, as[S2.length - 1]? = some a := ⟨as[S2.length - 1], List.getElem?_eq_getElem hla'⟩
        have hat := hla.2 _ _ _ eas el
        have hix : (as.map V.ref)[S2.length - 1]? = some (.ref a) := by rw [List.getElem?_map, eas]; rfl
        have k2 : KindAt S2 (S2.length - 1) false := ⟨l, el, hlp⟩
        refine ⟨_, rfl, _, rfl, ll, _, ((S2.length - 1 : Nat) : Int), _, rfl, rfl, SqL.of ea, atI_nat hix, a, _, 0, _, rfl, rfl, sqT_of hat, at_name l, rfl, _, rfl, ?_⟩
        by_cases hT : lnName l = "there"
        · obtain ⟨f, rfl⟩ : ∃ f, l = .there f := by
            cases l <;> first | exact ⟨_, rfl⟩ | (exact absurd hT (by dsimp only [lnName]; decide +kernel))
          have hf := (g2.wf _ _ el : f < S2.length - 1 ∧ KindAt S2 f false)
          have tf := thd_there el hf.1
          have hf1 := hf.1
          refine itT ⟨_, rfl, st, sc, ns, 3, rfl, p2.sv, by decide, by decide, fun H3 y x3 sv3 hy => ⟨y, 1, rfl, rfl, _, rfl, ?_⟩⟩
          have g3 := p2.draw x3 sv3
          by_cases c3 : y = 1
          · rw [decide_eq_true c3]
            have hls := p2.ls
            have ea3 := x3 ll _ (by simpa using hls) ea
            have hat3 := x3 a _ (fun q => by
              obtain ⟨_, _, _, e3, _⟩ := p2.sv
              rw [List.mem_singleton.mp q, e3] at hat
              cases hat) hat
            exact iteT ⟨_, rfl, _, rfl, ll, _, ((S2.length - 1 : Nat) : Int), _, rfl, rfl, SqL.of ea3, atI_nat hix, a, _, 1, _, rfl, rfl, sqT_of hat3, rfl, fin2 H3 S2 f g3 (by omega) (by omega) hf.2 (by omega)⟩
          · rw [decide_eq_false c3]
            refine iteF ?_
            have p3 := g3.pre p2
            refine ⟨_, rfl, st, sc, ns, 5, rfl, p3.sv, by decide, by decide, fun H4 z x4 sv4 hz4 => ⟨z, 0, rfl, rfl, _, rfl, ?_⟩⟩
            have g4 := g3.trans (p3.draw x4 sv4)
            by_cases c4 : 0 < z
            · rw [decide_eq_true c4]
              exact iteT ⟨_, rfl, _, rfl, _, rfl, _, rfl, d, 1, rfl, rfl, hd0, _, rfl, _, rfl, d - 1, by omega, st, sc, ll, ns, m, t, k, S2, rfl, g4.pre p2, hm0, hm, hk, by omega, fun H5 S5 g5 l5 l6 k5 t5 => fin2 H5 S5 (S5.length - 1) (g4.trans g5) l6 (by omega) k5 t5⟩
            · rw [decide_eq_false c4]
              exact iteF (fin2 H4 S2 (S2.length - 1) g4 (by omega) hlt k2 t2)
        · refine itF hT (iteF ?_)
          refine ⟨_, rfl, st, sc, ns, 5, rfl, p2.sv, by decide, by decide, fun H4 z x4 sv4 hz4 => ⟨z, 0, rfl, rfl, _, rfl, ?_⟩⟩
          have g4 := gr.trans (p2.draw x4 sv4)
          by_cases c4 : 0 < z
          · rw [decide_eq_true c4]
            exact iteT ⟨_, rfl, _, rfl, _, rfl, _, rfl, d, 1, rfl, rfl, hd0, _, rfl, _, rfl, d - 1, by omega, st, sc, ll, ns, m, t, k, S2, rfl, g4.pre p2, hm0, hm, hk, by omega, fun H5 S5 g5 l5 l6 k5 t5 => fin2 H5 S5 (S5.length - 1) (g4.trans g5) l6 (by omega) k5 t5⟩
          · rw [decide_eq_false c4]
            exact iteF (fin2 H4 S2 (S2.length - 1) g4 (by omega) hlt k2 t2)
  exact fun N => ⟨fd, key N, F.bindsN fun _ _ _ _ _ _ us hl => match us, hl with | [_, _, _, _, _, _], _ => rfl, F.kp⟩
end
end Tw
set_option maxRecDepth 100000
set_option maxHeartbeats 2000000
/-! _law_true. -/
namespace Tw
open PySem PySem.Spec PyProof.Rows L2
/-- a list of lists of places -/
def SetsV (H : Hp) (a : Addr) (sets : List (List Nat)) : Prop := ∃ as : List Addr, H a = some (.lst (as.map V.ref)) ∧ as.length = sets.length ∧ ∀ (i : Nat) (p : Addr) (s : List Nat), as[i]? = some p → sets[i]? = some s → H p = some (.lst (nV s))
theorem SetsV.ex {H H' : Hp} {a : Addr} {sets : List (List Nat)} (x : Ex H H') (h : SetsV H a sets) : SetsV H' a sets := by
  obtain ⟨as, h1, h2, h3⟩ := h
  exact ⟨as, x.lst h1, h2, fun i p s e1 e2 => x.lst (h3 i p s e1 e2)⟩
theorem SetsV.at {H : Hp} {a : Addr} {sets : List (List Nat)} (h : SetsV H a sets) {i : Nat} {s : List Nat} (e : sets[i]? = some s) : ∃ p ys, H a = some (.lst ys) ∧ ys.length = sets.length ∧ ys[i]? = some (V.ref p) ∧ H p = some (.lst (nV s)) := by
  obtain ⟨as, h1, h2, h3⟩ := h
  have hi := (List.getElem?_eq_some_iff.mp e).1
  have ea : as[i]? = some as[i] := List.getElem?_eq_getElem (by omega)
  exact ⟨as[i], _, h1, by rw [List.length_map, h2], by rw [List.getElem?_map, ea]; rfl, h3 i _ s ea e⟩
theorem SetsV.len {H : Hp} {a : Addr} {sets : List (List Nat)} (h : SetsV H a sets) : ∃ ys, H a = some (.lst ys) ∧ ys.length = sets.length := by
  obtain ⟨as, h1, h2, h3⟩ := h
  exact ⟨_, h1, by rw [List.length_map, h2]⟩
section
variable {P : Program} {w : World} {K : PySem.W.Frag} {mg : Str → Option Value} {base : Heap}
theorem plr_set_some {S : List Ln} {row : List Nat} {sets : List (List Nat)} {k n i : Nat} {s : List Nat} (e : S[n]? = some (.set i)) (h : sets[i]? = some s) : plr S row sets k n = decide (k ∈ s) := by
  unfold plr
  rw [plv_set e]
  simp [h, List.contains_eq_mem]
theorem plr_set_none {S : List Ln} {row : List Nat} {sets : List (List Nat)} {k n i : Nat} (e : S[n]? = some (.set i)) (h : ¬ i < sets.length) : plr S row sets k n = false := by
  unfold plr
  rw [plv_set e]
  have : sets[i]? = none := List.getElem?_eq_none (by omega)
  simp [this]
def spTrue (N : Nat) : Sp := fun vs H Q _ => ∃ (sa rw_ sl : Addr) (S : List Ln) (n k : Nat) (row : List Nat) (sets : List (List Nat)), vs = [.ref sa, .int (n : Int), .ref rw_, .ref sl, .int (k : Int)] ∧ n < N ∧ SenV H sa S ∧ WF S ∧ KindAt S n true ∧ H rw_ = some (.lst (nV row)) ∧ SetsV H sl sets ∧ k < row.length ∧ Q (.bl (plr S row sets k n)) H
abbrev nTru : List Str := ["_law_sentence_here", "_law_number", "_law_row", "_law_sets", "_law_k", "_law_line"]
theorem scTru : FnScope nTru ["_law_sentence_here", "_law_number", "_law_row", "_law_sets", "_law_k"] (defScope s__law_true) := ⟨rfl, rfl, rfl, by decide +kernel, rfl, by decide +kernel, by decide +kernel⟩
theorem ok_true (T : Tx w K mg) : ∀ N, Gd P w K mg base CX0 N (He.ga K "_law_true") ["_law_sentence_here", "_law_number", "_law_row", "_law_sets", "_law_k"] (spTrue N) := by
  obtain ⟨fd, F⟩ := T.f__law_true
  have nd := scTru.nd
  have key : ∀ N, FnOk P w K mg base CX0 N (He.ga K "_law_true") fd ["_law_sentence_here", "_law_number", "_law_row", "_law_sets", "_law_k"] (spTrue N) := by
    intro N
    induction N with
    | zero => exact fnOk_no fun vs H Q E ⟨_, _, _, _, n, _, _, _, _, hn, _⟩ => absurd hn (Nat.not_lt_zero _)
    | succ N ih =>
      refine F.ok scTru (fun vs H Q E h => ?_) (fun cdv A outer s H vs Q E hr h => ?_)
      · obtain ⟨sa, rw_, sl, S, n, k, row, sets, rfl, _⟩ := h
        rfl
      · obtain ⟨sa, rw_, sl, S, n, k, row, sets, rfl, hn, hS, W, ⟨l, hl, hp⟩, hrow, hsl, hk, q⟩ := h
        have G : Gd P w K mg base CX0 N (He.ga K "_law_true") ["_law_sentence_here", "_law_number", "_law_row", "_law_sets", "_law_k"] (spTrue N) := ⟨fd, ih, F.bindsN fun _ _ _ _ _ _ us hl => match us, hl with | [_, _, _, _, _], _ => rfl, F.kp⟩
        refine ⟨_, PSs.nox (pss_cons (ps_set (i := 5) nd rfl (.inl rfl) (pe_ix ix_tup (pv 0) (pv 1) (fun _ _ => rfl)))
          (pss_cons (ps_if (pt_cmpR op_eq (pe_ix ix_tup (pv 5) pe_int (fun _ _ => rfl)) pe_str (nomark _)) (pss_one (ps_ret (pe_not (pe_cG G hr rfl T.g__law_true pass0 (pa_cons (pv 0) (pa_cons (pe_ix ix_tup (pv 5) pe_int (fun _ _ => rfl)) (pa_cons (pv 2) (pa_cons (pv 3) (pa_cons (pv 4) pa_nil))))))))) pss_nil)
          (pss_cons (ps_if (pt_cmpR op_eq (pe_ix ix_tup (pv 5) pe_int (fun _ _ => rfl)) pe_str (nomark _)) (pss_one (ps_ret (pe_and
              (pe_cG G hr rfl T.g__law_true pass0 (pa_cons (pv 0) (pa_cons (pe_ix ix_tup (pv 5) pe_int (fun _ _ => rfl)) (pa_cons (pv 2) (pa_cons (pv 3) (pa_cons (pv 4) pa_nil))))))
              (pe_one (pe_cG G hr rfl T.g__law_true pass0 (pa_cons (pv 0) (pa_cons (pe_ix ix_tup (pv 5) pe_int (fun _ _ => rfl)) (pa_cons (pv 2) (pa_cons (pv 3) (pa_cons (pv 4) pa_nil)))))))))) pss_nil)
          (pss_cons (ps_if (pt_cmpR op_eq (pe_ix ix_tup (pv 5) pe_int (fun _ _ => rfl)) pe_str (nomark _)) (pss_one (ps_ret (pe_and
              (pe_cmpR op_ltN (pe_ix ix_tup (pv 5) pe_int (fun _ _ => rfl)) (pe_callB call_len_seq rfl T.m_len PySem.boot_len (pa_cons (pv 3) pa_nil)) (nomark _))
              (pe_one (pe_cmpR op_in_seq (pv 4) (pe_ix ix_list (pv 3) (pe_ix ix_tup (pv 5) pe_int (fun _ _ => rfl)) (fun _ _ => rfl)) (by rfl)))))) pss_nil)
          (pss_one (ps_ret (pe_cmpR op_eqNN (pe_ix ix_list (pv 2) (pv 4) (fun _ _ => rfl)) (pe_ix ix_tup (pv 5) pe_int (fun _ _ => rfl)) (nomark _)))))))), ?_⟩
        obtain ⟨xs, t, h1, h2, h3, _⟩ := hS.line hl
        cases l with
        | not c =>
          have hc := (W n _ hl : c < n ∧ KindAt S c true)
          refine ⟨_, rfl, _, rfl, sa, xs, n, _, rfl, rfl, sqT_of h1, h2, _, rfl, t, _, 0, _, rfl, rfl, sqT_of h3, rfl, rfl, _, rfl, itT ?_⟩
          refine ⟨_, rfl, _, rfl, t, _, 1, _, rfl, rfl, sqT_of h3, rfl, _, rfl, _, rfl, _, rfl, sa, rw_, sl, S, c, k, row, sets, rfl, (by have := hc.1; omega), hS, W, hc.2, hrow, hsl, hk, _, rfl, ?_⟩
          rw [plr, plv_not hl hc.1] at q
          exact q
        | and c d =>
          have hc := (W n _ hl : (c < n ∧ KindAt S c true) ∧ (d < n ∧ KindAt S d true))
          have eq : plr S row sets k n = (plr S row sets k c && plr S row sets k d) := by rw [plr, plv_and hl hc.1.1 hc.2.1]; rfl
          rw [eq] at q
          refine ⟨_, rfl, _, rfl, sa, xs, n, _, rfl, rfl, sqT_of h1, h2, _, rfl, t, _, 0, _, rfl, rfl, sqT_of h3, rfl, rfl, _, rfl, itF (by decide +kernel) ?_⟩
          refine ⟨_, rfl, t, _, 0, _, rfl, rfl, sqT_of h3, rfl, rfl, _, rfl, itT ?_⟩
          refine ⟨_, rfl, _, rfl, t, _, 1, _, rfl, rfl, sqT_of h3, rfl, _, rfl, _, rfl, _, rfl, sa, rw_, sl, S, c, k, row, sets, rfl, (by have := hc.1.1; omega), hS, W, hc.1.2, hrow, hsl, hk, _, rfl, ?_⟩
          cases e : plr S row sets k c with
          | false =>
            rw [e] at q
            exact iteF q
          | true =>
            rw [e] at q
            exact iteT ⟨_, rfl, _, rfl, t, _, 2, _, rfl, rfl, sqT_of h3, rfl, _, rfl, _, rfl, _, rfl, sa, rw_, sl, S, d, k, row, sets, rfl, (by have := hc.2.1; omega), hS, W, hc.2.2, hrow, hsl, hk, q⟩
        | set i =>
          refine ⟨_, rfl, _, rfl, sa, xs, n, _, rfl, rfl, sqT_of h1, h2, _, rfl, t, _, 0, _, rfl, rfl, sqT_of h3, rfl, rfl, _, rfl, itF (by decide +kernel) ?_⟩
          refine ⟨_, rfl, t, _, 0, _, rfl, rfl, sqT_of h3, rfl, rfl, _, rfl, itF (by decide +kernel) ?_⟩
          refine ⟨_, rfl, t, _, 0, _, rfl, rfl, sqT_of h3, rfl, rfl, _, rfl, itT ?_⟩
          obtain ⟨ys, ey, el⟩ := hsl.len
          refine ⟨_, rfl, t, _, 1, _, rfl, rfl, sqT_of h3, rfl, _, rfl, sl, ys, rfl, .inl (SqL.of ey), i, ys.length, rfl, rfl, _, rfl, ?_⟩
          rw [el]
          by_cases c : i < sets.length
          · rw [decide_eq_true c]
            have es : sets[i]? = some sets[i] := List.getElem?_eq_getElem c
            rw [plr_set_some hl es] at q
            obtain ⟨p, ys', f1, f2, f3, f4⟩ := hsl.at es
            refine iteT ⟨_, rfl, _, rfl, _, rfl, t, _, 1, _, rfl, rfl, sqT_of h3, rfl, sl, ys', i, _, rfl, rfl, SqL.of f1, atI_nat f3, p, _, rfl, .inl (SqL.of f4), rfl, nV_flat _, ?_⟩
            show Q (.bl (inV (.int (k : Nat)) (nV sets[i]))) H
            rw [inV_nat]
            exact q
          · rw [decide_eq_false c]
            rw [plr_set_none hl c] at q
            exact iteF q
        | letter b =>
          refine ⟨_, rfl, _, rfl, sa, xs, n, _, rfl, rfl, sqT_of h1, h2, _, rfl, t, _, 0, _, rfl, rfl, sqT_of h3, rfl, rfl, _, rfl, itF (by decide +kernel) ?_⟩
          refine ⟨_, rfl, t, _, 0, _, rfl, rfl, sqT_of h3, rfl, rfl, _, rfl, itF (by decide +kernel) ?_⟩
          refine ⟨_, rfl, t, _, 0, _, rfl, rfl, sqT_of h3, rfl, rfl, _, rfl, itF (by decide +kernel) ?_⟩
          have er : row[k]? = some row[k] := List.getElem?_eq_getElem hk
          refine ⟨_, rfl, _, rfl, rw_, _, k, _, rfl, rfl, SqL.of hrow, nV_at er, _, rfl, t, _, 1, _, rfl, rfl, sqT_of h3, rfl, row[k], b, rfl, rfl, ?_⟩
          rw [plr, plv_letter hl, er] at q
          exact q
        | _ => cases hp
  exact fun N => ⟨fd, key N, F.bindsN fun _ _ _ _ _ _ us hl => match us, hl with | [_, _, _, _, _], _ => rfl, F.kp⟩
end
end Tw
set_option maxRecDepth 100000
set_option maxHeartbeats 2000000
/-! _law_some_set. -/
namespace Tw
open PySem PySem.Spec PyProof.Rows L2
theorem bitsOf_succ (i code : Nat) : bitsOf (i + 1) code = if code / 2 ^ i % 2 = 1 then bitsOf i code ++ [i] else bitsOf i code := by
  unfold bitsOf
  rw [List.range_succ, List.filter_append, List.filter_cons, List.filter_nil, Nat.testBit_eq_decide_div_mod_eq]
  by_cases c : code / 2 ^ i % 2 = 1
  · rw [decide_eq_true c, if_pos rfl, if_pos c]
  · rw [decide_eq_false c, if_neg (by decide), if_neg c, List.append_nil]
theorem bitsOf_len (i code : Nat) : (bitsOf i code).length ≤ i := by
  unfold bitsOf
  have := List.length_filter_le (fun k => code.testBit k) (List.range i)
  rw [List.length_range] at this
  exact this
theorem SetsV.snoc {H : Hp} {a p r : Addr} {sets : List (List Nat)} {s : List Nat} (h : SetsV H a sets) (hp : H p = some (.lst (nV s))) (hr : H r = none) : ∃ ys, H a = some (.lst ys) ∧ ys.length = sets.length ∧ SetsV (upd H r (.lst (ys ++ [.ref p]))) r (sets ++ [s]) := by
  obtain ⟨as, h1, h2, h3⟩ := h
  have x : Ex H (upd H r (.lst (as.map V.ref ++ [.ref p]))) := Ex.add hr
  refine ⟨_, h1, by rw [List.length_map, h2], as ++ [p], by rw [upd_same, List.map_append]; rfl, by rw [List.length_append, List.length_append, h2]; rfl, fun i q z e1 e2 => ?_⟩
  by_cases c : i < as.length
  · rw [List.getElem?_append_left c] at e1
    rw [List.getElem?_append_left (by rw [← h2]; exact c)] at e2
    exact x.lst (h3 i q z e1 e2)
  · have hl := (List.getElem?_eq_some_iff.mp e1).1
    rw [List.length_append, List.length_singleton] at hl
    have ei : i = as.length := by omega
    subst ei
    rw [List.getElem?_append_right (Nat.le_refl _), Nat.sub_self] at e1
    rw [List.getElem?_append_right (by rw [h2]; exact Nat.le_refl _), h2, Nat.sub_self] at e2
    cases e1
    cases e2
    exact x.lst hp
section
variable {P : Program} {w : World} {K : PySem.W.Frag} {mg : Str → Option Value} {base : Heap}
def spSo (N : Nat) : Sp := fun vs H Q _ => ∃ (sa rw_ sl : Addr) (S : List Ln) (n : Nat) (row : List Nat) (sets : List (List Nat)), vs = [.ref sa, .int (n : Int), .ref rw_, .ref sl] ∧ n < N ∧ SenV H sa S ∧ WF S ∧ KindAt S n false ∧ H rw_ = some (.lst (nV row)) ∧ SetsV H sl sets ∧ row.length ≤ 6 ∧ sets.length + thd S n ≤ 100 ∧
  ∀ H', Ex H H' → Q (.bl (sov S row n sets)) H'
def spSome (N : Nat) : Sp := fun vs H Q _ => ∃ (sa rw_ sl : Addr) (S : List Ln) (n : Nat) (row : List Nat) (sets : List (List Nat)), vs = [.ref sa, .int (n : Int), .ref rw_, .ref sl] ∧ n < N ∧ SenV H sa S ∧ WF S ∧ KindAt S n false ∧ H rw_ = some (.lst (nV row)) ∧ SetsV H sl sets ∧ row.length ≤ 6 ∧ sets.length + 1 + thd S n ≤ 100 ∧
  ∀ H', Ex H H' → Q (.bl ((List.range (2 ^ row.length)).any fun code => sov S row n (sets ++ [bitsOf row.length code]))) H'
abbrev pSo : List Str := ["_law_sentence_here", "_law_number", "_law_row", "_law_sets"]
abbrev nSom : List Str := ["_law_sentence_here", "_law_number", "_law_row", "_law_sets", "_law_size", "_law_k", "_law_code", "_law_chosen", "_law_left"]
theorem scSom : FnScope nSom pSo (defScope s__law_some_set) := ⟨rfl, rfl, rfl, by decide +kernel, rfl, by decide +kernel, by decide +kernel⟩
theorem ok_some (T : Tx w K mg) {N : Nat} (G : Gd P w K mg base CX0 (2 * N) (He.ga K "_law_so") pSo (spSo N)) : Gd P w K mg base CX0 (2 * N + 1) (He.ga K "_law_some_set") pSo (spSome N) := by
  obtain ⟨fd, F⟩ := T.f__law_some_set
  have nd := scSom.nd
  refine ⟨fd, F.ok scSom (fun vs H Q E h => ?_) (fun cdv A outer s H vs Q E hr h => ?_), F.bindsN fun _ _ _ _ _ _ us hl => match us, hl with | [_, _, _, _], _ => rfl, F.kp⟩
  · obtain ⟨sa, rw_, sl, S, n, row, sets, rfl, _⟩ := h
    rfl
  · obtain ⟨sa, rw_, sl, S, n, row, sets, rfl, hn, hS, W, hk, hrow, hsl, h6, ht, q⟩ := h
    have hr0 : Room (2 * N) _ := hr
    refine ⟨_, PSs.nox (pss_cons (ps_set (i := 4) nd rfl (.inl rfl) pe_int)
      (pss_cons (ps_for PassesOwn.never rfl (pi_range1 rfl T.m_range (pa_cons (pe_callB call_len_seq rfl T.m_len PySem.boot_len (pa_cons (pv 2) pa_nil)) pa_nil)) (pg_name (i := 5) nd rfl (.inl rfl))
        (pss_one (ps_set (i := 4) nd rfl (.inl rfl) (pe_op op_mul (pv 4) pe_int))))
      (pss_cons (ps_for PassesOwn.never rfl (pi_range1 rfl T.m_range (pa_cons (pv 4) pa_nil)) (pg_name (i := 6) nd rfl (.inl rfl))
        (pss_cons (ps_set (i := 7) nd rfl (.inl rfl) (pe_lst pa_nil))
        (pss_cons (ps_set (i := 8) nd rfl (.inl rfl) (pv 6))
        (pss_cons (ps_for PassesOwn.never rfl (pi_range1 rfl T.m_range (pa_cons (pe_callB call_len_seq rfl T.m_len PySem.boot_len (pa_cons (pv 2) pa_nil)) pa_nil)) (pg_name (i := 5) nd rfl (.inl rfl))
          (pss_cons (ps_if (pt_cmpR op_eqNN (pe_op op_modNN (pe_callTy call_int1 rfl T.m_int (by decide +kernel) (pa_cons (pv 8) pa_nil)) pe_int) pe_int (nomark _))
            (pss_one (ps_expr (pe_bm PySem.F.plainAttrs_list PySem.F.slot_list_append PySem.F.type_list_append mt_append (pv 7) (pa_cons (pv 5) pa_nil))))
            pss_nil)
          (pss_one (ps_set (i := 8) nd rfl (.inl rfl) (pe_op op_fdivNN (pv 8) pe_int)))))
        (pss_one (ps_if (pt_val (pe_cG G hr0 rfl T.g__law_so pass0 (pa_cons (pv 0) (pa_cons (pv 1) (pa_cons (pv 2) (pa_cons (pe_op op_cat (pv 3) (pe_lst (pa_cons (pv 7) pa_nil))) pa_nil))))))
          (pss_one (ps_ret pe_bl)) pss_nil))))))
      (pss_one (ps_ret pe_bl))))), ?_⟩
    have hlen : ((nV row).length : Int) = (row.length : Int) := by rw [List.length_map]
    refine ⟨_, rfl, rw_, _, rfl, .inl (SqL.of hrow), ((nV row).length : Int), rfl, by rw [hlen]; omega, by rw [hlen]; omega, ?_⟩
    refine for_rangeN (n := row.length) (by rw [hlen]; simp) (fun i σ H2 => ∃ v5, σ = [some (.ref sa), some (.int (n : Int)), some (.ref rw_), some (.ref sl), some (.int ((2 ^ i : Nat) : Int)), v5, none, none, none] ∧ H2 = H) ⟨none, rfl, rfl⟩ ?_ ?_
    · rintro i σ H2 hi ⟨v5, rfl, rfl⟩
      have e : ((2 ^ i : Nat) : Int) * 2 = ((2 ^ (i + 1) : Nat) : Int) := by rw [Nat.pow_succ]; omega
      exact ⟨_, rfl, ((2 ^ i : Nat) : Int), 2, rfl, rfl, .inr ⟨by decide, by decide⟩, some (.int (i : Nat)), congrArg (fun z => [some (V.ref sa), some (.int (n : Int)), some (.ref rw_), some (.ref sl), some (.int z), some (.int (i : Nat)), none, none, none]) e, rfl⟩
    rintro σ H2 ⟨v5, rfl, rfl⟩
    have hp6 : 2 ^ row.length ≤ 64 := Nat.pow_le_pow_right (n := 2) (by decide) h6
    obtain ⟨sz, hsz⟩ : ∃ sz, 2 ^ row.length = sz := ⟨_, rfl⟩
    rw [hsz] at hp6 q ⊢
    refine ⟨_, rfl, ((sz : Nat) : Int), rfl, by omega, by omega, ?_⟩
    refine for_rangeN (n := sz) (by simp) (fun i σ H3 => ∃ v5 v6 v7 v8, σ = [some (.ref sa), some (.int (n : Int)), some (.ref rw_), some (.ref sl), some (.int ((sz : Nat) : Int)), v5, v6, v7, v8] ∧ Ex H2 H3 ∧ ∀ j, j < i → sov S row n (sets ++ [bitsOf row.length j]) = false)
      ⟨v5, none, none, none, rfl, Ex.refl _, fun j h => absurd h (Nat.not_lt_zero _)⟩ ?_ ?_
    · rintro i σ H3 hi ⟨v5, v6, v7, v8, rfl, x3, hno⟩
      refine ⟨(by show 0 ≤ sizeLine; decide), fun p np => ⟨_, rfl, ?_⟩⟩
      have x4 : Ex H3 (upd H3 p (.lst [])) := Ex.add np
      have hrow4 := (x3.trans x4).lst hrow
      have hp4 : upd H3 p (.lst []) p = some (.lst (nV (bitsOf 0 i))) := upd_same
      generalize upd H3 p (.lst []) = H4 at x4 hrow4 hp4 ⊢
      refine ⟨_, rfl, rw_, _, rfl, .inl (SqL.of hrow4), ((nV row).length : Int), rfl, by rw [hlen]; omega, by rw [hlen]; omega, ?_⟩
      refine for_rangeN (n := row.length) (by rw [hlen]; simp) (fun k σ H5 => ∃ v5, σ = [some (.ref sa), some (.int (n : Int)), some (.ref rw_), some (.ref sl), some (.int ((sz : Nat) : Int)), v5, some (.int (i : Nat)), some (.ref p), some (.int ((i / 2 ^ k : Nat) : Int))] ∧ Ex H3 H5 ∧ H5 p = some (.lst (nV (bitsOf k i))))
        ⟨v5, by rw [Nat.pow_zero, Nat.div_one]; rfl, x4, hp4⟩ ?_ ?_
      · rintro k σ H5 hk' ⟨v5, rfl, x5, hp5⟩
        have ed : i / 2 ^ k / 2 = i / 2 ^ (k + 1) := by rw [Nat.div_div_eq_div_mul, Nat.pow_succ]
        have hib : i < 2 ^ 6 := by omega
        have hdl : i / 2 ^ k ≤ i := Nat.div_le_self _ _
        refine seq_cut fun R hR => ?_
        have fin : ∀ H6, Ex H3 H6 → H6 p = some (.lst (nV (bitsOf (k + 1) i))) → R [some (.ref sa), some (.int (n : Int)), some (.ref rw_), some (.ref sl), some (.int ((sz : Nat) : Int)), some (.int (k : Nat)), some (.int (i : Nat)), some (.ref p), some (.int ((i / 2 ^ k : Nat) : Int))] H6 := by
          intro H6 x6 hp6
          subst hR
          exact ⟨_, rfl, i / 2 ^ k, 2, rfl, rfl, by decide, some (.int (k : Nat)), congrArg (fun z : Nat => [some (V.ref sa), some (.int (n : Int)), some (.ref rw_), some (.ref sl), some (.int ((sz : Nat) : Int)), some (.int (k : Nat)), some (.int (i : Nat)), some (.ref p), some (.int (z : Int))]) ed, x6, hp6⟩
        clear hR
        refine ⟨_, rfl, .inl ⟨_, rfl, i / 2 ^ k, 2, rfl, rfl, by decide, i / 2 ^ k % 2, 1, rfl, rfl, _, rfl, ?_⟩⟩
        have eb := bitsOf_succ k i
        by_cases c : i / 2 ^ k % 2 = 1
        · rw [decide_eq_true c]
          rw [if_pos c] at eb
          refine iteT ⟨_, rfl, .inl ⟨rfl, _, SqL.of hp5⟩, _, rfl, p, _, _, rfl, rfl, hp5, by have := bitsOf_len k i; rw [List.length_map, sizeLine_eq]; omega, ?_⟩
          refine fin _ (x5.mut np) ?_
          rw [upd_same, eb, nV, nV, List.map_append]
          rfl
        · rw [decide_eq_false c]
          rw [if_neg c] at eb
          exact iteF (fin _ x5 (by rw [eb]; exact hp5))
      rintro σ H5 ⟨v5, rfl, x5, hp5⟩
      have X5 := x3.trans x5
      refine ⟨_, rfl, _, rfl, _, rfl, _, rfl, _, rfl, (by show 1 ≤ sizeLine; decide), fun qa nq => ?_⟩
      have x6 : Ex H5 (upd H5 qa (.lst [.ref p])) := Ex.add nq
      have hq6 : upd H5 qa (.lst [.ref p]) qa = some (.lst [.ref p]) := upd_same
      generalize upd H5 qa (.lst [.ref p]) = H6 at x6 hq6 ⊢
      have X6 := X5.trans x6
      obtain ⟨ys, hy1, hy2⟩ := (hsl.ex X6).len
      refine ⟨sl, qa, ys, _, rfl, rfl, hy1, hq6, by rw [hy2, List.length_singleton, sizeLine_eq]; omega, fun r nr => ?_⟩
      obtain ⟨ys', hy3, hy4, hs7⟩ := (hsl.ex X6).snoc (x6.lst hp5) nr
      have : ys' = ys := by rw [hy1] at hy3; injection hy3 with e; injection e with e; exact e.symm
      subst this
      have x7 : Ex H6 (upd H6 r (.lst (ys' ++ [.ref p]))) := Ex.add nr
      generalize upd H6 r (.lst (ys' ++ [.ref p])) = H7 at x7 hs7 ⊢
      have X7 := X6.trans x7
      refine ⟨sa, rw_, r, S, n, row, sets ++ [bitsOf row.length i], rfl, hn, X7.sen hS, W, hk, X7.lst hrow, hs7, h6, by rw [List.length_append, List.length_singleton]; exact ht, fun H8 x8 => ⟨_, rfl, ?_⟩⟩
      have X8 := X7.trans x8
      cases e : sov S row n (sets ++ [bitsOf row.length i]) with
      | true =>
        have ea : ((List.range (sz)).any fun code => sov S row n (sets ++ [bitsOf row.length code])) = true := List.any_eq_true.mpr ⟨i, List.mem_range.mpr hi, e⟩
        rw [ea] at q
        exact iteT (q H8 X8)
      | false =>
        refine iteF ⟨v5, _, _, _, rfl, X8, fun j hj => ?_⟩
        rcases Nat.lt_succ_iff_lt_or_eq.mp hj with h | rfl
        · exact hno j h
        · exact e
    · rintro σ H3 ⟨v5, v6, v7, v8, rfl, x3, hno⟩
      have ea : ((List.range (sz)).any fun code => sov S row n (sets ++ [bitsOf row.length code])) = false := by
        rw [List.any_eq_false]
        intro j hj
        rw [hno j (List.mem_range.mp hj)]
        decide
      rw [ea] at q
      exact q H3 x3
end
end Tw
set_option maxRecDepth 100000
set_option maxHeartbeats 4000000
/-! _law_so. -/
namespace Tw
open PySem PySem.Spec PyProof.Rows L2
section
variable {P : Program} {w : World} {K : PySem.W.Frag} {mg : Str → Option Value} {base : Heap} {S : List Ln} {row : List Nat} {n : Nat} {sets : List (List Nat)}
theorem sov_all {c : Nat} (e : S[n]? = some (.all c)) : sov S row n sets = (List.range row.length).all fun k => plr S row sets k c := by rw [sov, e]
theorem sov_next {c d : Nat} (e : S[n]? = some (.next c d)) : sov S row n sets = (List.range (row.length - 1)).all fun k => !plr S row sets k c || plr S row sets (k + 1) d := by rw [sov, e]
theorem sov_first {c : Nat} (e : S[n]? = some (.first c)) : sov S row n sets = (decide (row.length = 0) || plr S row sets 0 c) := by rw [sov, e]
theorem sov_last {c : Nat} (e : S[n]? = some (.last c)) : sov S row n sets = (decide (row.length = 0) || plr S row sets (row.length - 1) c) := by rw [sov, e]
theorem sov_nothing (e : S[n]? = some .nothing) : sov S row n sets = decide (row.length = 0) := by rw [sov, e]
theorem sov_one {i : Nat} (e : S[n]? = some (.one i)) : sov S row n sets = match sets[i]? with | some s => decide (s.length = 1) | none => false := by rw [sov, e] <;> rfl
theorem sov_denied {f : Nat} (e : S[n]? = some (.denied f)) (h : f < n) : sov S row n sets = !sov S row f sets := by rw [sov, e]; simp only [h, if_true]
theorem sov_both {f g : Nat} (e : S[n]? = some (.both f g)) (h : f < n) (h2 : g < n) : sov S row n sets = (sov S row f sets && sov S row g sets) := by rw [sov, e]; simp only [h, h2, if_true]
theorem sov_there {f : Nat} (e : S[n]? = some (.there f)) (h : f < n) : sov S row n sets = (List.range (2 ^ row.length)).any fun code => sov S row f (sets ++ [bitsOf row.length code]) := by rw [sov, e]; simp only [h, if_true]
theorem rgV_nat (m : Nat) : rgV 0 (m : Int) = nV (List.range m) := by
  unfold rgV nV
  have e : ((m : Int) - 0).toNat = m := by omega
  rw [e]
  refine List.map_congr_left fun i _ => ?_
  rw [Int.zero_add]
theorem cutV_first (m : Nat) : cutV (nV (List.range m)) none (some 1) = nV ((List.range m).take 1) := by
  have e1 : HT.sIx (nV (List.range m)).length 0 none = 0 := rfl
  have e2 : HT.sIx (nV (List.range m)).length (nV (List.range m)).length (some 1) = min 1 m := by
    have := HT.sIx_nat (nV (List.range m)).length (nV (List.range m)).length 1
    rw [List.length_map, List.length_range] at this ⊢
    exact this
  unfold cutV
  rw [e1, e2, List.drop_zero, Nat.sub_zero, nV, nV, ← List.map_take]
  congr 1
  cases m with
  | zero => rfl
  | succ m => rw [Nat.min_eq_left (by omega)]
theorem cutV_last (m : Nat) : cutV (nV (List.range m)) (some (-1)) none = nV ((List.range m).drop (m - 1)) := by
  have e1 : HT.sIx (nV (List.range m)).length 0 (some (-1)) = m - 1 := by
    show (if (-1 : Int) < 0 then ((-1 : Int) + ((nV (List.range m)).length : Int)).toNat else min (-1 : Int).toNat (nV (List.range m)).length) = _
    rw [if_pos (by decide), List.length_map, List.length_range]
    omega
  have e2 : HT.sIx (nV (List.range m)).length (nV (List.range m)).length none = (nV (List.range m)).length := rfl
  unfold cutV
  rw [e1, e2, nV, nV, ← List.map_drop, ← List.map_take, List.take_of_length_le (by rw [List.length_drop, List.length_map]; exact Nat.le_refl _)]
theorem cutV_rest (m : Nat) : cutV (nV (List.range m)) (some 1) none = nV ((List.range m).drop 1) := by
  cases m with
  | zero => rfl
  | succ m => exact (cutV_drop (k := 1) _ (by rw [List.length_map, List.length_range]; omega)).trans (by rw [nV, nV, List.map_drop])
theorem take1_range (m : Nat) : (List.range m).take 1 = if m = 0 then [] else [0] := by
  cases m with
  | zero => rfl
  | succ m => rw [List.range_succ_eq_map]; rfl
theorem drop1_range (m : Nat) : (List.range m).drop (m - 1) = if m = 0 then [] else [m - 1] := by
  cases m with
  | zero => rfl
  | succ m =>
    rw [Nat.add_sub_cancel, List.range_succ, List.drop_append_of_le_length (by rw [List.length_range]; exact Nat.le_refl _), List.drop_of_length_le (by rw [List.length_range]; exact Nat.le_refl _)]
    rfl
abbrev nSo : List Str := ["_law_sentence_here", "_law_number", "_law_row", "_law_sets", "_law_line", "_law_places", "_law_k"]
theorem scSo : FnScope nSo pSo (defScope s__law_so) := ⟨rfl, rfl, rfl, by decide +kernel, rfl, by decide +kernel, by decide +kernel⟩
theorem ok_so (T : Tx w K mg) : ∀ N, Gd P w K mg base CX0 (2 * N) (He.ga K "_law_so") pSo (spSo N) := by
  obtain ⟨fd, F⟩ := T.f__law_so
  have nd := scSo.nd
  have key : ∀ N, FnOk P w K mg base CX0 (2 * N) (He.ga K "_law_so") fd pSo (spSo N) := by
    intro N
    induction N with
    | zero => exact fnOk_no fun vs H Q E ⟨_, _, _, _, n, _, _, _, hn, _⟩ => absurd hn (Nat.not_lt_zero _)
    | succ N ih =>
      have G : Gd P w K mg base CX0 (2 * N) (He.ga K "_law_so") pSo (spSo N) := ⟨fd, ih, F.bindsN fun _ _ _ _ _ _ us hl => match us, hl with | [_, _, _, _], _ => rfl, F.kp⟩
      have GM := ok_some T G
      have GT := ok_true (P := P) (base := base) T N
      refine F.ok scSo (fun vs H Q E h => ?_) (fun cdv A outer s H vs Q E hr h => ?_)
      · obtain ⟨sa, rw_, sl, S, n, row, sets, rfl, _⟩ := h
        rfl
      · obtain ⟨sa, rw_, sl, S, n, row, sets, rfl, hn, hS, W, ⟨l, hl, hp⟩, hrow, hsl, h6, ht, q⟩ := h
        have hr0 : Room (2 * N + 1) _ := hr
        have hr1 := hr0.mono (show 2 * N ≤ 2 * N + 1 by omega)
        have hrT := hr0.mono (show N ≤ 2 * N + 1 by omega)
        refine ⟨_, PSs.nox (pss_cons (ps_set (i := 4) nd rfl (.inr rfl) (pe_ix ix_tup (pv 0) (pv 1) (fun _ _ => rfl)))
        (pss_cons (ps_set (i := 5) nd rfl (.inl rfl) (pe_listRg rfl rfl T.m_list (prg_1 rfl T.m_range (pe_callB call_len_seq rfl T.m_len PySem.boot_len (pa_cons (pv 2) pa_nil)))))
        (pss_cons (ps_if (pt_cmpR op_eq (pe_ix ix_tup (pv 4) pe_int (fun _ _ => rfl)) pe_str (nomark _)) (pss_one (ps_ret (pe_cmpR op_eqNN (pe_callB call_len_seq rfl T.m_len PySem.boot_len (pa_cons (pv 2) pa_nil)) pe_int (nomark _)))) pss_nil)
        (pss_cons (ps_if (pt_cmpR op_eq (pe_ix ix_tup (pv 4) pe_int (fun _ _ => rfl)) pe_str (nomark _)) (pss_one (ps_ret (pe_and (pe_cmpR op_ltN (pe_ix ix_tup (pv 4) pe_int (fun _ _ => rfl)) (pe_callB call_len_seq rfl T.m_len PySem.boot_len (pa_cons (pv 3) pa_nil)) (nomark _)) (pe_one (pe_cmpR op_eqNN (pe_callB call_len_seq rfl T.m_len PySem.boot_len (pa_cons (pe_ix ix_list (pv 3) (pe_ix ix_tup (pv 4) pe_int (fun _ _ => rfl)) (fun _ _ => rfl)) pa_nil)) pe_int (nomark _)))))) pss_nil)
        (pss_cons (ps_if (pt_cmpR op_eq (pe_ix ix_tup (pv 4) pe_int (fun _ _ => rfl)) pe_str (nomark _)) (pss_one (ps_ret (pe_not (pe_cG G hr1 rfl T.g__law_so pass0 (pa_cons (pv 0) (pa_cons (pe_ix ix_tup (pv 4) pe_int (fun _ _ => rfl)) (pa_cons (pv 2) (pa_cons (pv 3) pa_nil)))))))) pss_nil)
        (pss_cons (ps_if (pt_cmpR op_eq (pe_ix ix_tup (pv 4) pe_int (fun _ _ => rfl)) pe_str (nomark _)) (pss_one (ps_ret (pe_and (pe_cG G hr1 rfl T.g__law_so pass0 (pa_cons (pv 0) (pa_cons (pe_ix ix_tup (pv 4) pe_int (fun _ _ => rfl)) (pa_cons (pv 2) (pa_cons (pv 3) pa_nil))))) (pe_one (pe_cG G hr1 rfl T.g__law_so pass0 (pa_cons (pv 0) (pa_cons (pe_ix ix_tup (pv 4) pe_int (fun _ _ => rfl)) (pa_cons (pv 2) (pa_cons (pv 3) pa_nil))))))))) pss_nil)
        (pss_cons (ps_if (pt_cmpR op_eq (pe_ix ix_tup (pv 4) pe_int (fun _ _ => rfl)) pe_str (nomark _)) (pss_one (ps_ret (pe_cG GM hr0 rfl T.g__law_some_set pass0 (pa_cons (pv 0) (pa_cons (pe_ix ix_tup (pv 4) pe_int (fun _ _ => rfl)) (pa_cons (pv 2) (pa_cons (pv 3) pa_nil))))))) pss_nil)
        (pss_cons (ps_if (pt_cmpR op_eq (pe_ix ix_tup (pv 4) pe_int (fun _ _ => rfl)) pe_str (nomark _)) (pss_one (ps_ret (pe_callB (cr_all rfl) rfl T.m_all (by decide +kernel) (pa_cons (pe_lc (own := [("_law_k", 6)]) (g := gName 6) (tt := tYes) rfl nd (pi_list (pv 5))
          (blkOk_by (own := [("_law_k", 6)]) (N := nSo) (sc := defScope s__law_so) (by decide +kernel))
          (fun _ _ _ _ _ => pg_name (i := 6) nd rfl (Or.inl rfl)) (fun _ _ _ _ _ => pts_nil)
          (fun _ _ _ _ _ => pe_cG GT hrT rfl T.g__law_true pass0 (pa_cons (pv 0) (pa_cons (pe_ix ix_tupK (pv 4) pe_int (fun _ _ => rfl)) (pa_cons (pv 2) (pa_cons (pv 3) (pa_cons (pv 6) pa_nil))))))) pa_nil)))) pss_nil)
        (pss_cons (ps_if (pt_cmpR op_eq (pe_ix ix_tup (pv 4) pe_int (fun _ _ => rfl)) pe_str (nomark _)) (pss_one (ps_ret (pe_callB (cr_all rfl) rfl T.m_all (by decide +kernel) (pa_cons (pe_lc (own := [("_law_k", 6)]) (g := gName 6) (tt := tYes) rfl nd (pi_list (pe_slice sl_list (pv 5) po_none (po_some pe_int)))
          (blkOk_by (own := [("_law_k", 6)]) (N := nSo) (sc := defScope s__law_so) (by decide +kernel))
          (fun _ _ _ _ _ => pg_name (i := 6) nd rfl (Or.inl rfl)) (fun _ _ _ _ _ => pts_nil)
          (fun _ _ _ _ _ => pe_cG GT hrT rfl T.g__law_true pass0 (pa_cons (pv 0) (pa_cons (pe_ix ix_tupK (pv 4) pe_int (fun _ _ => rfl)) (pa_cons (pv 2) (pa_cons (pv 3) (pa_cons (pv 6) pa_nil))))))) pa_nil)))) pss_nil)
        (pss_cons (ps_if (pt_cmpR op_eq (pe_ix ix_tup (pv 4) pe_int (fun _ _ => rfl)) pe_str (nomark _)) (pss_one (ps_ret (pe_callB (cr_all rfl) rfl T.m_all (by decide +kernel) (pa_cons (pe_lc (own := [("_law_k", 6)]) (g := gName 6) (tt := tYes) rfl nd (pi_list (pe_slice sl_list (pv 5) (po_some (pe_un un_neg pe_int)) po_none))
          (blkOk_by (own := [("_law_k", 6)]) (N := nSo) (sc := defScope s__law_so) (by decide +kernel))
          (fun _ _ _ _ _ => pg_name (i := 6) nd rfl (Or.inl rfl)) (fun _ _ _ _ _ => pts_nil)
          (fun _ _ _ _ _ => pe_cG GT hrT rfl T.g__law_true pass0 (pa_cons (pv 0) (pa_cons (pe_ix ix_tupK (pv 4) pe_int (fun _ _ => rfl)) (pa_cons (pv 2) (pa_cons (pv 3) (pa_cons (pv 6) pa_nil))))))) pa_nil)))) pss_nil)
        (pss_cons (ps_for PassesOwn.never rfl (pi_list (pe_slice sl_list (pv 5) (po_some pe_int) po_none)) (pg_name (i := 6) nd rfl (.inl rfl))
          (pss_one (ps_if (PW.pt (pw_and (pt_val (pe_cG GT hrT rfl T.g__law_true pass0 (pa_cons (pv 0) (pa_cons (pe_ix ix_tup (pv 4) pe_int (fun _ _ => rfl)) (pa_cons (pv 2) (pa_cons (pv 3) (pa_cons (pe_op op_subN (pv 6) pe_int) pa_nil))))))) (pw_and1 (pt_not (pt_val (pe_cG GT hrT rfl T.g__law_true pass0 (pa_cons (pv 0) (pa_cons (pe_ix ix_tup (pv 4) pe_int (fun _ _ => rfl)) (pa_cons (pv 2) (pa_cons (pv 3) (pa_cons (pv 6) pa_nil)))))))))))
            (pss_one (ps_ret pe_bl)) pss_nil)))
        (pss_one (ps_ret pe_bl))))))))))))), ?_⟩
        obtain ⟨xs, t, h1, h2, h3, _⟩ := hS.line hl
        have hlen : ((nV row).length : Int) = (row.length : Int) := by rw [List.length_map]
        refine ⟨_, rfl, _, rfl, sa, xs, n, _, rfl, rfl, sqT_of h1, h2, ?_⟩
        refine ⟨_, rfl, rw_, _, rfl, .inl (SqL.of hrow), ((nV row).length : Int), rfl, RgOk.of_le (by decide) (by rw [hlen]; omega) (by decide) (by rw [hlen]; omega), fun pl npl => ?_⟩
        rw [hlen, rgV_nat]
        have x2 : Ex H (upd H pl (.lst (nV (List.range row.length)))) := Ex.add npl
        have hpl : upd H pl (.lst (nV (List.range row.length))) pl = some (.lst (nV (List.range row.length))) := upd_same
        generalize upd H pl (.lst (nV (List.range row.length))) = H1 at x2 hpl ⊢
        have hS := x2.sen hS
        have hrow := x2.lst hrow
        have hsl := hsl.ex x2
        have h3 := x2.tup h3
        replace q := fun H' (x : Ex H1 H') => q H' (x2.trans x)
        clear x2 npl h1 h2
        cases l with
        | nothing =>
          refine ⟨_, rfl, t, _, 0, _, rfl, rfl, sqT_of h3, at0 _ _, rfl, _, rfl, itT ?_⟩
          rw [sov_nothing hl] at q
          refine ⟨_, rfl, rw_, _, rfl, .inl (SqL.of hrow), (nV row).length, 0, rfl, rfl, ?_⟩
          rw [List.length_map]
          exact q H1 (Ex.refl _)
        | one i =>
          refine ⟨_, rfl, t, _, 0, _, rfl, rfl, sqT_of h3, at0 _ _, rfl, _, rfl, itF (by decide +kernel) ?_⟩
          refine ⟨_, rfl, t, _, 0, _, rfl, rfl, sqT_of h3, at0 _ _, rfl, _, rfl, itT ?_⟩
          rw [sov_one hl] at q
          obtain ⟨ys, ey, el⟩ := hsl.len
          refine ⟨_, rfl, t, _, 1, _, rfl, rfl, sqT_of h3, rfl, _, rfl, sl, ys, rfl, .inl (SqL.of ey), i, ys.length, rfl, rfl, _, rfl, ?_⟩
          rw [el]
          by_cases c : i < sets.length
          · rw [decide_eq_true c]
            have es : sets[i]? = some sets[i] := List.getElem?_eq_getElem c
            rw [es] at q
            obtain ⟨p, ys', f1, f2, f3, f4⟩ := hsl.at es
            refine iteT ⟨_, rfl, _, rfl, t, _, 1, _, rfl, rfl, sqT_of h3, rfl, sl, ys', i, _, rfl, rfl, SqL.of f1, atI_nat f3, p, _, rfl, .inl (SqL.of f4), (nV sets[i]).length, 1, rfl, rfl, ?_⟩
            rw [List.length_map]
            exact q H1 (Ex.refl _)
          · rw [decide_eq_false c]
            have es : sets[i]? = none := List.getElem?_eq_none (by omega)
            rw [es] at q
            exact iteF (q H1 (Ex.refl _))
        | denied f =>
          have hc := (W n _ hl : f < n ∧ KindAt S f false)
          rw [sov_denied hl hc.1] at q
          refine ⟨_, rfl, t, _, 0, _, rfl, rfl, sqT_of h3, at0 _ _, rfl, _, rfl, itF (by decide +kernel) ?_⟩
          refine ⟨_, rfl, t, _, 0, _, rfl, rfl, sqT_of h3, at0 _ _, rfl, _, rfl, itF (by decide +kernel) ?_⟩
          refine ⟨_, rfl, t, _, 0, _, rfl, rfl, sqT_of h3, at0 _ _, rfl, _, rfl, itT ?_⟩
          refine ⟨_, rfl, _, rfl, t, _, 1, _, rfl, rfl, sqT_of h3, rfl, _, rfl, _, rfl, sa, rw_, sl, S, f, row, sets, rfl, (by have := hc.1; omega), hS, W, hc.2, hrow, hsl, h6, (by rw [thd_denied hl hc.1] at ht; exact ht), fun H2 x2 => ⟨_, rfl, q H2 x2⟩⟩
        | both f g =>
          have hc := (W n _ hl : (f < n ∧ KindAt S f false) ∧ (g < n ∧ KindAt S g false))
          rw [sov_both hl hc.1.1 hc.2.1] at q
          rw [thd_both hl hc.1.1 hc.2.1] at ht
          refine ⟨_, rfl, t, _, 0, _, rfl, rfl, sqT_of h3, at0 _ _, rfl, _, rfl, itF (by decide +kernel) ?_⟩
          refine ⟨_, rfl, t, _, 0, _, rfl, rfl, sqT_of h3, at0 _ _, rfl, _, rfl, itF (by decide +kernel) ?_⟩
          refine ⟨_, rfl, t, _, 0, _, rfl, rfl, sqT_of h3, at0 _ _, rfl, _, rfl, itF (by decide +kernel) ?_⟩
          refine ⟨_, rfl, t, _, 0, _, rfl, rfl, sqT_of h3, at0 _ _, rfl, _, rfl, itT ?_⟩
          refine ⟨_, rfl, _, rfl, t, _, 1, _, rfl, rfl, sqT_of h3, rfl, _, rfl, _, rfl, sa, rw_, sl, S, f, row, sets, rfl, (by have := hc.1.1; omega), hS, W, hc.1.2, hrow, hsl, h6, (by omega), fun H2 x2 => ⟨_, rfl, ?_⟩⟩
          cases e : sov S row f sets with
          | false =>
            rw [e] at q
            exact iteF (q H2 x2)
          | true =>
            rw [e] at q
            refine iteT ⟨_, rfl, _, rfl, t, _, 2, _, rfl, rfl, sqT_of (x2.tup h3), rfl, _, rfl, _, rfl, sa, rw_, sl, S, g, row, sets, rfl, (by have := hc.2.1; omega), x2.sen hS, W, hc.2.2, x2.lst hrow, hsl.ex x2, h6, (by omega), fun H3 x3 => q H3 (x2.trans x3)⟩
        | there f =>
          have hc := (W n _ hl : f < n ∧ KindAt S f false)
          rw [sov_there hl hc.1] at q
          rw [thd_there hl hc.1] at ht
          refine ⟨_, rfl, t, _, 0, _, rfl, rfl, sqT_of h3, at0 _ _, rfl, _, rfl, itF (by decide +kernel) ?_⟩
          refine ⟨_, rfl, t, _, 0, _, rfl, rfl, sqT_of h3, at0 _ _, rfl, _, rfl, itF (by decide +kernel) ?_⟩
          refine ⟨_, rfl, t, _, 0, _, rfl, rfl, sqT_of h3, at0 _ _, rfl, _, rfl, itF (by decide +kernel) ?_⟩
          refine ⟨_, rfl, t, _, 0, _, rfl, rfl, sqT_of h3, at0 _ _, rfl, _, rfl, itF (by decide +kernel) ?_⟩
          refine ⟨_, rfl, t, _, 0, _, rfl, rfl, sqT_of h3, at0 _ _, rfl, _, rfl, itT ?_⟩
          refine ⟨_, rfl, _, rfl, t, _, 1, _, rfl, rfl, sqT_of h3, rfl, _, rfl, _, rfl, sa, rw_, sl, S, f, row, sets, rfl, (by have := hc.1; omega), hS, W, hc.2, hrow, hsl, h6, (by omega), q⟩
        | all c =>
          have hc := (W n _ hl : c < n ∧ KindAt S c true)
          rw [sov_all hl] at q
          refine ⟨_, rfl, t, _, 0, _, rfl, rfl, sqT_of h3, at0 _ _, rfl, _, rfl, itF (by decide +kernel) ?_⟩
          refine ⟨_, rfl, t, _, 0, _, rfl, rfl, sqT_of h3, at0 _ _, rfl, _, rfl, itF (by decide +kernel) ?_⟩
          refine ⟨_, rfl, t, _, 0, _, rfl, rfl, sqT_of h3, at0 _ _, rfl, _, rfl, itF (by decide +kernel) ?_⟩
          refine ⟨_, rfl, t, _, 0, _, rfl, rfl, sqT_of h3, at0 _ _, rfl, _, rfl, itF (by decide +kernel) ?_⟩
          refine ⟨_, rfl, t, _, 0, _, rfl, rfl, sqT_of h3, at0 _ _, rfl, _, rfl, itF (by decide +kernel) ?_⟩
          refine ⟨_, rfl, t, _, 0, _, rfl, rfl, sqT_of h3, at0 _ _, rfl, _, rfl, itT ?_⟩
          have x2 := Ex.refl H1
          obtain ⟨H2, eH2⟩ : ∃ H2, H2 = H1 := ⟨_, rfl⟩
          obtain ⟨ps, eps⟩ : ∃ ps, ps = List.range row.length := ⟨_, rfl⟩
          rw [← eps] at hpl
          obtain ⟨pa, epa⟩ : ∃ pa, pa = pl := ⟨_, rfl⟩
          subst eH2 epa
          have hpa := hpl
          refine ⟨_, rfl, pa, rfl, ⟨_, SqL.of hpl⟩, fun D nD => ?_⟩
          have hpn : ps.length ≤ 6 := by
            rw [eps, List.length_range]; exact h6
          have hps : ∀ y ∈ ps, y < row.length := by
            intro y hy
            rw [eps] at hy
            exact List.mem_range.mp hy
          refine lc_list (K := K) (a := pa) (xs := nV ps) (fun j H3 => Ex H2 H3 ∧ H3 D = some (.lst (((ps.take j).map fun y => plr S row sets y c).map V.bl))) ⟨Ex.add nD, upd_same⟩ (fun j H3 _ h => SqL.of (h.1.lst hpa)) ?_ ?_
          · rintro j v H3 hj ⟨x3, hD⟩
            obtain ⟨y, hy, rfl⟩ : ∃ y, ps[j]? = some y ∧ v = V.int (y : Nat) := by
              rw [List.getElem?_map] at hj
              cases e : ps[j]? with
              | none => rw [e] at hj; cases hj
              | some y => rw [e] at hj; exact ⟨y, rfl, (Option.some.inj hj).symm⟩
            have X3 := x2.trans x3
            have hjl := (List.getElem?_eq_some_iff.mp hy).1
            refine ⟨rfl, _, rfl, _, rfl, t, _, 1, _, rfl, rfl, sqT_of (x3.tup h3), rfl, _, rfl, _, rfl, _, rfl, sa, rw_, sl, S, c, y, row, sets, rfl, (by have := hc.1; omega), X3.sen hS, W, hc.2, X3.lst hrow, hsl.ex X3, hps y (List.mem_of_getElem? hy), _, hD, by rw [List.length_map, List.length_map, sizeLine_eq]; have := List.length_take_le j ps; omega, x3.mut nD, ?_⟩
            rw [upd_same, List.take_add_one, hy, List.map_append, List.map_append]
            rfl
          rintro H3 ⟨x3, hD⟩
          rw [List.length_map, List.take_length] at hD
          refine ⟨D, _, rfl, SqL.of hD, ?_⟩
          rw [List.all_map, eps]; exact q H3 x3
        | first c =>
          have hc := (W n _ hl : c < n ∧ KindAt S c true)
          rw [sov_first hl] at q
          refine ⟨_, rfl, t, _, 0, _, rfl, rfl, sqT_of h3, at0 _ _, rfl, _, rfl, itF (by decide +kernel) ?_⟩
          refine ⟨_, rfl, t, _, 0, _, rfl, rfl, sqT_of h3, at0 _ _, rfl, _, rfl, itF (by decide +kernel) ?_⟩
          refine ⟨_, rfl, t, _, 0, _, rfl, rfl, sqT_of h3, at0 _ _, rfl, _, rfl, itF (by decide +kernel) ?_⟩
          refine ⟨_, rfl, t, _, 0, _, rfl, rfl, sqT_of h3, at0 _ _, rfl, _, rfl, itF (by decide +kernel) ?_⟩
          refine ⟨_, rfl, t, _, 0, _, rfl, rfl, sqT_of h3, at0 _ _, rfl, _, rfl, itF (by decide +kernel) ?_⟩
          refine ⟨_, rfl, t, _, 0, _, rfl, rfl, sqT_of h3, at0 _ _, rfl, _, rfl, itF (by decide +kernel) ?_⟩
          refine ⟨_, rfl, t, _, 0, _, rfl, rfl, sqT_of h3, at0 _ _, rfl, _, rfl, itT ?_⟩
          refine ⟨_, rfl, 1, rfl, pl, _, rfl, SqL.of hpl, fun pa npa => ?_⟩
          rw [cutV_first]
          obtain ⟨ps, eps⟩ : ∃ ps, ps = (List.range row.length).take 1 := ⟨_, rfl⟩
          rw [← eps]
          rw [take1_range] at eps
          have x2 : Ex H1 (upd H1 pa (.lst (nV ps))) := Ex.add npa
          have hpa : upd H1 pa (.lst (nV ps)) pa = some (.lst (nV ps)) := upd_same
          generalize upd H1 pa (.lst (nV ps)) = H2 at x2 hpa ⊢
          have h3 := x2.tup h3
          refine ⟨pa, rfl, ⟨_, SqL.of hpa⟩, fun D nD => ?_⟩
          have hpn : ps.length ≤ 6 := by
            rw [eps]; split <;> simp
          have hps : ∀ y ∈ ps, y < row.length := by
            intro y hy
            rw [eps] at hy
            split at hy
            · cases hy
            · have := List.mem_singleton.mp hy
              omega
          refine lc_list (K := K) (a := pa) (xs := nV ps) (fun j H3 => Ex H2 H3 ∧ H3 D = some (.lst (((ps.take j).map fun y => plr S row sets y c).map V.bl))) ⟨Ex.add nD, upd_same⟩ (fun j H3 _ h => SqL.of (h.1.lst hpa)) ?_ ?_
          · rintro j v H3 hj ⟨x3, hD⟩
            obtain ⟨y, hy, rfl⟩ : ∃ y, ps[j]? = some y ∧ v = V.int (y : Nat) := by
              rw [List.getElem?_map] at hj
              cases e : ps[j]? with
              | none => rw [e] at hj; cases hj
              | some y => rw [e] at hj; exact ⟨y, rfl, (Option.some.inj hj).symm⟩
            have X3 := x2.trans x3
            have hjl := (List.getElem?_eq_some_iff.mp hy).1
            refine ⟨rfl, _, rfl, _, rfl, t, _, 1, _, rfl, rfl, sqT_of (x3.tup h3), rfl, _, rfl, _, rfl, _, rfl, sa, rw_, sl, S, c, y, row, sets, rfl, (by have := hc.1; omega), X3.sen hS, W, hc.2, X3.lst hrow, hsl.ex X3, hps y (List.mem_of_getElem? hy), _, hD, by rw [List.length_map, List.length_map, sizeLine_eq]; have := List.length_take_le j ps; omega, x3.mut nD, ?_⟩
            rw [upd_same, List.take_add_one, hy, List.map_append, List.map_append]
            rfl
          rintro H3 ⟨x3, hD⟩
          rw [List.length_map, List.take_length] at hD
          refine ⟨D, _, rfl, SqL.of hD, ?_⟩
          have e : ((ps.map fun y => plr S row sets y c).all id) = (decide (row.length = 0) || plr S row sets 0 c) := by rw [eps]; by_cases z : row.length = 0 <;> simp [z]
          rw [e]; exact q H3 (x2.trans x3)
        | last c =>
          have hc := (W n _ hl : c < n ∧ KindAt S c true)
          rw [sov_last hl] at q
          refine ⟨_, rfl, t, _, 0, _, rfl, rfl, sqT_of h3, at0 _ _, rfl, _, rfl, itF (by decide +kernel) ?_⟩
          refine ⟨_, rfl, t, _, 0, _, rfl, rfl, sqT_of h3, at0 _ _, rfl, _, rfl, itF (by decide +kernel) ?_⟩
          refine ⟨_, rfl, t, _, 0, _, rfl, rfl, sqT_of h3, at0 _ _, rfl, _, rfl, itF (by decide +kernel) ?_⟩
          refine ⟨_, rfl, t, _, 0, _, rfl, rfl, sqT_of h3, at0 _ _, rfl, _, rfl, itF (by decide +kernel) ?_⟩
          refine ⟨_, rfl, t, _, 0, _, rfl, rfl, sqT_of h3, at0 _ _, rfl, _, rfl, itF (by decide +kernel) ?_⟩
          refine ⟨_, rfl, t, _, 0, _, rfl, rfl, sqT_of h3, at0 _ _, rfl, _, rfl, itF (by decide +kernel) ?_⟩
          refine ⟨_, rfl, t, _, 0, _, rfl, rfl, sqT_of h3, at0 _ _, rfl, _, rfl, itF (by decide +kernel) ?_⟩
          refine ⟨_, rfl, t, _, 0, _, rfl, rfl, sqT_of h3, at0 _ _, rfl, _, rfl, itT ?_⟩
          refine ⟨_, rfl, _, rfl, _, rfl, pl, _, rfl, SqL.of hpl, fun pa npa => ?_⟩
          rw [cutV_last]
          obtain ⟨ps, eps⟩ : ∃ ps, ps = (List.range row.length).drop (row.length - 1) := ⟨_, rfl⟩
          rw [← eps]
          rw [drop1_range] at eps
          have x2 : Ex H1 (upd H1 pa (.lst (nV ps))) := Ex.add npa
          have hpa : upd H1 pa (.lst (nV ps)) pa = some (.lst (nV ps)) := upd_same
          generalize upd H1 pa (.lst (nV ps)) = H2 at x2 hpa ⊢
          have h3 := x2.tup h3
          refine ⟨pa, rfl, ⟨_, SqL.of hpa⟩, fun D nD => ?_⟩
          have hpn : ps.length ≤ 6 := by
            rw [eps]; split <;> simp
          have hps : ∀ y ∈ ps, y < row.length := by
            intro y hy
            rw [eps] at hy
            split at hy
            · cases hy
            · have := List.mem_singleton.mp hy
              omega
          refine lc_list (K := K) (a := pa) (xs := nV ps) (fun j H3 => Ex H2 H3 ∧ H3 D = some (.lst (((ps.take j).map fun y => plr S row sets y c).map V.bl))) ⟨Ex.add nD, upd_same⟩ (fun j H3 _ h => SqL.of (h.1.lst hpa)) ?_ ?_
          · rintro j v H3 hj ⟨x3, hD⟩
            obtain ⟨y, hy, rfl⟩ : ∃ y, ps[j]? = some y ∧ v = V.int (y : Nat) := by
              rw [List.getElem?_map] at hj
              cases e : ps[j]? with
              | none => rw [e] at hj; cases hj
              | some y => rw [e] at hj; exact ⟨y, rfl, (Option.some.inj hj).symm⟩
            have X3 := x2.trans x3
            have hjl := (List.getElem?_eq_some_iff.mp hy).1
            refine ⟨rfl, _, rfl, _, rfl, t, _, 1, _, rfl, rfl, sqT_of (x3.tup h3), rfl, _, rfl, _, rfl, _, rfl, sa, rw_, sl, S, c, y, row, sets, rfl, (by have := hc.1; omega), X3.sen hS, W, hc.2, X3.lst hrow, hsl.ex X3, hps y (List.mem_of_getElem? hy), _, hD, by rw [List.length_map, List.length_map, sizeLine_eq]; have := List.length_take_le j ps; omega, x3.mut nD, ?_⟩
            rw [upd_same, List.take_add_one, hy, List.map_append, List.map_append]
            rfl
          rintro H3 ⟨x3, hD⟩
          rw [List.length_map, List.take_length] at hD
          refine ⟨D, _, rfl, SqL.of hD, ?_⟩
          have e : ((ps.map fun y => plr S row sets y c).all id) = (decide (row.length = 0) || plr S row sets (row.length - 1) c) := by rw [eps]; by_cases z : row.length = 0 <;> simp [z]
          rw [e]; exact q H3 (x2.trans x3)
        | next c d =>
          have hc := (W n _ hl : (c < n ∧ KindAt S c true) ∧ (d < n ∧ KindAt S d true))
          rw [sov_next hl] at q
          refine ⟨_, rfl, t, _, 0, _, rfl, rfl, sqT_of h3, at0 _ _, rfl, _, rfl, itF (by decide +kernel) ?_⟩
          refine ⟨_, rfl, t, _, 0, _, rfl, rfl, sqT_of h3, at0 _ _, rfl, _, rfl, itF (by decide +kernel) ?_⟩
          refine ⟨_, rfl, t, _, 0, _, rfl, rfl, sqT_of h3, at0 _ _, rfl, _, rfl, itF (by decide +kernel) ?_⟩
          refine ⟨_, rfl, t, _, 0, _, rfl, rfl, sqT_of h3, at0 _ _, rfl, _, rfl, itF (by decide +kernel) ?_⟩
          refine ⟨_, rfl, t, _, 0, _, rfl, rfl, sqT_of h3, at0 _ _, rfl, _, rfl, itF (by decide +kernel) ?_⟩
          refine ⟨_, rfl, t, _, 0, _, rfl, rfl, sqT_of h3, at0 _ _, rfl, _, rfl, itF (by decide +kernel) ?_⟩
          refine ⟨_, rfl, t, _, 0, _, rfl, rfl, sqT_of h3, at0 _ _, rfl, _, rfl, itF (by decide +kernel) ?_⟩
          refine ⟨_, rfl, t, _, 0, _, rfl, rfl, sqT_of h3, at0 _ _, rfl, _, rfl, itF (by decide +kernel) ?_⟩
          refine ⟨_, rfl, 1, rfl, pl, _, rfl, SqL.of hpl, fun pa npa => ?_⟩
          have ecut : cutV (nV (List.range row.length)) (some 1) none = nV ((List.range row.length).drop 1) := cutV_rest _
          rw [ecut]
          have x2 : Ex H1 (upd H1 pa (.lst (nV ((List.range row.length).drop 1)))) := Ex.add npa
          have hpa : upd H1 pa (.lst (nV ((List.range row.length).drop 1))) pa = some (.lst (nV ((List.range row.length).drop 1))) := upd_same
          generalize upd H1 pa (.lst (nV ((List.range row.length).drop 1))) = H2 at x2 hpa ⊢
          have h3 := x2.tup h3
          have hS := x2.sen hS
          have hrow := x2.lst hrow
          have hsl := hsl.ex x2
          refine ⟨pa, rfl, ⟨_, SqL.of hpa⟩, for_list (K := K) (a := pa) (xs := nV ((List.range row.length).drop 1)) (fun i σ H3 => H3 = H2 ∧ ∃ v6, σ = [some (.ref sa), some (.int (n : Int)), some (.ref rw_), some (.ref sl), some (.ref t), some (.ref pl), v6] ∧ ∀ j, j < i → (!plr S row sets j c || plr S row sets (j + 1) d) = true)
            ⟨rfl, none, rfl, fun j h => absurd h (Nat.not_lt_zero _)⟩ (fun i σ H3 _ ⟨e, _⟩ => by subst e; exact SqL.of hpa) ?_ ?_⟩
          · rintro i v σ H3 hi ⟨rfl, v6, rfl, hall⟩
            obtain ⟨hil, rfl⟩ : i + 1 < row.length ∧ v = V.int ((i + 1 : Nat) : Int) := by
              rw [List.getElem?_map, List.getElem?_drop] at hi
              by_cases c : 1 + i < row.length
              · rw [List.getElem?_range c] at hi
                exact ⟨by omega, by rw [← Option.some.inj hi, Nat.add_comm]⟩
              · rw [List.getElem?_eq_none (by rw [List.length_range]; omega)] at hi
                cases hi
            have en : i + 1 - 1 = i := by omega
            refine ⟨_, rfl, _, rfl, t, _, 1, _, rfl, rfl, sqT_of h3, rfl, _, rfl, _, rfl, _, rfl, i + 1, 1, rfl, rfl, by omega, ?_⟩
            rw [en]
            refine ⟨sa, rw_, sl, S, c, i, row, sets, rfl, (by have := hc.1.1; omega), hS, W, hc.1.2, hrow, hsl, by omega, _, rfl, ?_⟩
            have step : (!plr S row sets i c || plr S row sets (i + 1) d) = true → ∀ j, j < i + 1 → (!plr S row sets j c || plr S row sets (j + 1) d) = true := fun e j hj => by
              rcases Nat.lt_succ_iff_lt_or_eq.mp hj with h | rfl
              · exact hall j h
              · exact e
            cases e : plr S row sets i c with
            | false => exact iteF (iteF ⟨rfl, _, rfl, step (by rw [e]; rfl)⟩)
            | true =>
              refine iteT ⟨_, rfl, _, rfl, t, _, 2, _, rfl, rfl, sqT_of h3, rfl, _, rfl, _, rfl, _, rfl, sa, rw_, sl, S, d, i + 1, row, sets, rfl, (by have := hc.2.1; omega), hS, W, hc.2.2, hrow, hsl, hil, _, rfl, ?_⟩
              cases e2 : plr S row sets (i + 1) d with
              | true => exact iteF ⟨rfl, _, rfl, step (by rw [e, e2]; rfl)⟩
              | false =>
                have ea : ((List.range (row.length - 1)).all fun k => !plr S row sets k c || plr S row sets (k + 1) d) = false := by
                  rw [List.all_eq_false]
                  exact ⟨i, List.mem_range.mpr (by omega), by rw [e, e2]; decide⟩
                rw [ea] at q
                exact iteT (q H3 x2)
          · rintro σ H3 ⟨rfl, v6, rfl, hall⟩
            have ea : ((List.range (row.length - 1)).all fun k => !plr S row sets k c || plr S row sets (k + 1) d) = true := by
              rw [List.all_eq_true]
              intro k hk
              have := List.mem_range.mp hk
              exact hall k (by rw [List.length_map, List.length_drop, List.length_range]; exact this)
            rw [ea] at q
            exact q H3 x2
        | _ => cases hp
  exact fun N => ⟨fd, key N, F.bindsN fun _ _ _ _ _ _ us hl => match us, hl with | [_, _, _, _], _ => rfl, F.kp⟩
end
end Tw
set_option maxRecDepth 100000
set_option maxHeartbeats 2000000
/-! _law_told. -/
namespace Tw
open PySem PySem.Spec PyProof.Rows L2
section
variable {P : Program} {w : World} {K : PySem.W.Frag} {mg : Str → Option Value} {base : Heap}
def spTold (K : PySem.W.Frag) : Sp := fun vs H Q _ => ∃ (cnt : Nat) (sa : Addr) (S : List Ln) (g : Nat), vs = [.int (cnt : Int), .ref sa, .int (g : Int)] ∧
  SenV H sa S ∧ WF S ∧ 0 < S.length ∧ S.length ≤ 64 ∧ KindAt S (S.length - 1) false ∧ g + thd S (S.length - 1) ≤ 6 ∧ cnt ≤ 60 ∧ GxR.TabG H (cQ K).2 ∧ GxR.TabG H (cP K).2 ∧
  (∀ H', Ex H H' → 300 < bnd S (S.length - 1) → Q .non H') ∧ ∀ H' a R, Ex H H' → RdrV H' a R → RInv R (cnt * 2 ^ g) (Lang S (S.length - 1) g) → Q (.ref a) H'
abbrev pTold : List Str := ["_law_count", "_law_sentence_here", "_law_given"]
theorem scTold : FnScope ["_law_count", "_law_sentence_here", "_law_given", "error"] pTold (defScope s__law_told) := ⟨rfl, rfl, rfl, by decide +kernel, rfl, by decide +kernel, by decide +kernel⟩
theorem ok_told (T : Tx w K mg) (hP : PrOk P) (TB : GxR.TabB base mg (cQ K).1 (cQ K).2) (TP : GxR.TabB base mg (cP K).1 (cP K).2) : Gd P w K mg base CX0 (LV + 7) (He.ga K "_law_told") pTold (spTold K) := by
  obtain ⟨fd, F⟩ := T.f__law_told
  obtain ⟨fw, GW, bW, kW⟩ := ok_with (P := P) T hP TB TP
  refine ⟨fd, F.ok scTold (fun vs H Q E h => ?_) (fun cdv A outer s H vs Q E hr h => ?_), F.bindsN fun _ _ _ _ _ _ us hl => match us, hl with | [_, _, _], _ => rfl, F.kp⟩
  · obtain ⟨cnt, sa, S, g, rfl, _⟩ := h
    rfl
  · obtain ⟨cnt, sa, S, g, rfl, hS, W, h0, hlen, hkd, hg, hc, hTQ, hTP, qE, q⟩ := h
    refine ⟨_, pss_one (ps_try_as (i := 3) (Wout := fun _ _ _ _ => False) rfl rfl scTold.nd rfl rfl ⟨rfl, by decide, Or.inl T.g_TooManyValues⟩ takes0
      (fun W pn xe tk _ => pss_one (ps_ret (by exact (pe_callS GW hr rfl T.g_reader_with kW bW (fun σ => passAt tk σ) (by exact (pa_cons (pv 0) (pa_cons (pv 1) (pa_cons (pv 2) pa_nil))))))))
      (fun a oe cls d pn _ _ => pss_one (ps_ret pe_non))), ?_⟩
    exact ⟨_, rfl, _, rfl, _, rfl, cnt, sa, S, g, rfl, hS, W, h0, hlen, hkd, hg, hc, hTQ, hTP, fun H1 x1 hb => ⟨true, T.x_Many, fun _ a na => qE H1 x1 hb, fun q => Bool.noConfusion q⟩, fun H1 a R x1 hR hI _ => q H1 a R x1 hR hI⟩
end
end Tw
set_option maxRecDepth 100000
set_option maxHeartbeats 2000000
/-! _law_bound. -/
namespace Tw
open PySem PySem.Spec PyProof.Rows L2
section
variable {P : Program} {w : World} {K : PySem.W.Frag} {mg : Str → Option Value} {base : Heap}
theorem bnd_le {S : List Ln} (W : WF S) : ∀ n, bnd S n ≤ 1000000 := by
  intro n
  induction n using Nat.strongRecOn with
  | _ n ih =>
    cases e : S[n]? with
    | none => rw [bnd, e]; exact (by decide : 2 ≤ 1000000)
    | some l =>
      have ok := W n l e
      cases l with
      | denied f => rw [bnd_denied e ok.1]; exact ih f ok.1
      | both f g => rw [bnd_both e ok.1.1 ok.2.1]; exact Nat.min_le_left _ _
      | there f =>
        rw [bnd_there e ok.1]
        by_cases c : 8 < bnd S f
        · rw [if_pos c]; decide
        · rw [if_neg c]
          have : 2 ^ bnd S f ≤ 2 ^ 8 := Nat.pow_le_pow_right (by decide) (by omega)
          omega
      | _ => rw [bnd, e]; first | exact (by decide : 2 ≤ 1000000) | exact (by decide : 3 ≤ 1000000) | exact (by decide : 6 ≤ 1000000)
def bnd0 : Ln → Nat
  | .one _ => 3
  | .first _ => 3
  | .last _ => 3
  | .next _ _ => 6
  | _ => 2
theorem bnd_plain {S : List Ln} {n : Nat} {l : Ln} (e : S[n]? = some l) (h : isPlain l = true) : bnd S n = bnd0 l := by
  rw [bnd, e]
  cases l <;> first | rfl | cases h
def bK : List (Key × V) := [(.inr "all", .int 2), (.inr "nothing", .int 2), (.inr "one", .int 3), (.inr "first", .int 3), (.inr "last", .int 3), (.inr "next", .int 6)]
theorem bK_at {l : Ln} (h : isPlain l = true) : valV (mergeK [] bK) (.inr (lnName l)) = some (.int (bnd0 l : Nat)) := by
  cases l <;> first | (cases h; done) | (dsimp only [lnName, bnd0]; decide +kernel)
theorem pows (j : Nat) (h : j ≤ 8) : [V.int 1, .int 2, .int 4, .int 8, .int 16, .int 32, .int 64, .int 128, .int 256][j]? = some (.int ((2 ^ j : Nat) : Int)) := by
  have : j = 0 ∨ j = 1 ∨ j = 2 ∨ j = 3 ∨ j = 4 ∨ j = 5 ∨ j = 6 ∨ j = 7 ∨ j = 8 := by omega
  rcases this with rfl | rfl | rfl | rfl | rfl | rfl | rfl | rfl | rfl <;> rfl
def spBound (N : Nat) : Sp := fun vs H Q _ => ∃ (sa : Addr) (S : List Ln) (n : Nat), vs = [.ref sa, .int (n : Int)] ∧ n < N ∧ SenV H sa S ∧ WF S ∧ KindAt S n false ∧ ∀ H', Ex H H' → Q (.int (bnd S n : Nat)) H'
abbrev pBnd : List Str := ["_law_sentence_here", "_law_number"]
theorem scBnd : FnScope ["_law_sentence_here", "_law_number", "_law_line", "_law_inner"] pBnd (defScope s__law_bound) := ⟨rfl, rfl, rfl, by decide +kernel, rfl, by decide +kernel, by decide +kernel⟩
theorem ok_bound (T : Tx w K mg) : ∀ N, Gd P w K mg base CX0 N (He.ga K "_law_bound") pBnd (spBound N) := by
  obtain ⟨fd, F⟩ := T.f__law_bound
  have nd := scBnd.nd
  have key : ∀ N, FnOk P w K mg base CX0 N (He.ga K "_law_bound") fd pBnd (spBound N) := by
    intro N
    induction N with
    | zero => exact fnOk_no fun vs H Q E ⟨_, _, n, _, hn, _⟩ => absurd hn (Nat.not_lt_zero _)
    | succ N ih =>
      have G : Gd P w K mg base CX0 N (He.ga K "_law_bound") pBnd (spBound N) := ⟨fd, ih, F.bindsN fun _ _ _ _ _ _ us hl => match us, hl with | [_, _], _ => rfl, F.kp⟩
      refine F.ok scBnd (fun vs H Q E h => ?_) (fun cdv A outer s H vs Q E hr h => ?_)
      · obtain ⟨sa, S, n, rfl, _⟩ := h
        rfl
      · obtain ⟨sa, S, n, rfl, hn, hS, W, ⟨l, hl, hp⟩, q⟩ := h
        have hu := hr.units
        have hu1 := Nat.lt_of_le_of_lt (Nat.add_le_add_left (show 1 ≤ 64 by decide) _) hu
        refine ⟨_, PSs.nox (pss_cons (ps_set (i := 2) nd rfl (.inl rfl) (pe_ix ix_tup (pv 0) (pv 1) (fun _ _ => rfl)))
          (pss_cons (ps_if (pt_cmpR op_eq (pe_ix ix_tup (pv 2) pe_int (fun _ _ => rfl)) pe_str (nomark _))
            (pss_one (ps_ret (pe_cG G hr rfl T.g__law_bound pass0 (pa_cons (pv 0) (pa_cons (pe_ix ix_tup (pv 2) pe_int (fun _ _ => rfl)) pa_nil))))) pss_nil)
          (pss_cons (ps_if (pt_cmpR op_eq (pe_ix ix_tup (pv 2) pe_int (fun _ _ => rfl)) pe_str (nomark _))
            (pss_one (ps_ret (pe_callB (call_min2 rfl) rfl T.m_min (by decide +kernel) (pa_cons (pe_op op_pow pe_int pe_int) (pa_cons (pe_op op_mul
              (pe_cG G hr rfl T.g__law_bound pass0 (pa_cons (pv 0) (pa_cons (pe_ix ix_tup (pv 2) pe_int (fun _ _ => rfl)) pa_nil)))
              (pe_cG G hr rfl T.g__law_bound pass0 (pa_cons (pv 0) (pa_cons (pe_ix ix_tup (pv 2) pe_int (fun _ _ => rfl)) pa_nil)))) pa_nil))))) pss_nil)
          (pss_cons (ps_if (pt_cmpR op_eq (pe_ix ix_tup (pv 2) pe_int (fun _ _ => rfl)) pe_str (nomark _))
            (pss_cons (ps_set (i := 3) nd rfl (.inl rfl) (pe_cG G hr rfl T.g__law_bound pass0 (pa_cons (pv 0) (pa_cons (pe_ix ix_tup (pv 2) pe_int (fun _ _ => rfl)) pa_nil))))
            (pss_cons (ps_if (pt_cmpR op_gtN (pv 3) pe_int (nomark _)) (pss_one (ps_ret (pe_op op_pow pe_int pe_int))) pss_nil)
            (pss_one (ps_ret (pe_ix ix_list (pe_lst (pa_cons pe_int (pa_cons pe_int (pa_cons pe_int (pa_cons pe_int (pa_cons pe_int (pa_cons pe_int (pa_cons pe_int (pa_cons pe_int (pa_cons pe_int pa_nil)))))))))) (pv 3) (fun _ _ => rfl)))))) pss_nil)
          (pss_one (ps_ret (pe_dget hu1 (pe_disp (pps_cons pe_str pe_int (pps_cons pe_str pe_int (pps_cons pe_str pe_int (pps_cons pe_str pe_int (pps_cons pe_str pe_int (pps_cons pe_str pe_int pps_nil)))))) (by rfl) (by rfl) (fun z => by cases z) (by decide))
            (pe_ix ix_tup (pv 2) pe_int (fun _ _ => rfl)) (fun _ _ => rfl)))))))), ?_⟩
        obtain ⟨xs, t, h1, h2, h3, _⟩ := hS.line hl
        have ok := W n _ hl
        refine ⟨_, rfl, _, rfl, sa, xs, n, _, rfl, rfl, sqT_of h1, h2, ?_⟩
        by_cases hpl : isPlain l = true
        · rw [bnd_plain hl hpl] at q
          have n1 : lnName l ≠ "denied" := by cases l <;> first | (cases hpl; done) | (dsimp only [lnName]; decide +kernel)
          have n2 : lnName l ≠ "both" := by cases l <;> first | (cases hpl; done) | (dsimp only [lnName]; decide +kernel)
          have n3 : lnName l ≠ "there" := by cases l <;> first | (cases hpl; done) | (dsimp only [lnName]; decide +kernel)
          refine ⟨_, rfl, t, _, 0, _, rfl, rfl, sqT_of h3, at_name l, rfl, _, rfl, itF n1 ?_⟩
          refine ⟨_, rfl, t, _, 0, _, rfl, rfl, sqT_of h3, at_name l, rfl, _, rfl, itF n2 ?_⟩
          refine ⟨_, rfl, t, _, 0, _, rfl, rfl, sqT_of h3, at_name l, rfl, _, rfl, itF n3 ?_⟩
          intro d nd_
          refine ⟨upd_same, bK, rfl, by decide, ?_⟩
          have x1 : Ex H (upd H d (.dK [])) := Ex.add nd_
          have x2 : Ex H (upd (upd H d (.dK [])) d (.dK (mergeK [] bK))) := x1.mut nd_
          have hd : upd (upd H d (.dK [])) d (.dK (mergeK [] bK)) d = some (.dK (mergeK [] bK)) := upd_same
          generalize upd (upd H d (.dK [])) d (.dK (mergeK [] bK)) = H2 at x2 hd ⊢
          refine ⟨_, rfl, t, _, 0, _, rfl, rfl, sqT_of (x2.tup h3), at_name l, d, _, rfl, ?_, q H2 x2⟩
          have g := DGet.k (k := .inr (lnName l)) hd
          rw [bK_at hpl] at g
          exact g
        · cases l with
          | denied f =>
            rw [bnd_denied hl ok.1] at q
            refine ⟨_, rfl, t, _, 0, _, rfl, rfl, sqT_of h3, at0 _ _, rfl, _, rfl, itT ?_⟩
            exact ⟨_, rfl, _, rfl, t, _, 1, _, rfl, rfl, sqT_of h3, rfl, sa, S, f, rfl, (by have := ok.1; omega), hS, W, ok.2, q⟩
          | both f g =>
            rw [bnd_both hl ok.1.1 ok.2.1] at q
            have b1 := bnd_le W f
            have b2 := bnd_le W g
            refine ⟨_, rfl, t, _, 0, _, rfl, rfl, sqT_of h3, at0 _ _, rfl, _, rfl, itF (by decide +kernel) ?_⟩
            refine ⟨_, rfl, t, _, 0, _, rfl, rfl, sqT_of h3, at0 _ _, rfl, _, rfl, itT ?_⟩
            refine ⟨10, 6, rfl, rfl, ⟨by decide, by decide, by decide⟩, _, rfl, _, rfl, t, _, 1, _, rfl, rfl, sqT_of h3, rfl, sa, S, f, rfl, (by have := ok.1.1; omega), hS, W, ok.1.2, fun H1 x1 => ?_⟩
            refine ⟨_, rfl, _, rfl, t, _, 2, _, rfl, rfl, sqT_of (x1.tup h3), rfl, sa, S, g, rfl, (by have := ok.2.1; omega), x1.sen hS, W, ok.2.2, fun H2 x2 => ?_⟩
            refine ⟨(bnd S f : Nat), (bnd S g : Nat), rfl, rfl, .inr ⟨by omega, by omega⟩, _, _, rfl, ?_⟩
            have e : (if ((bnd S f : Nat) : Int) * ((bnd S g : Nat) : Int) < 10 ^ (6 : Int).toNat then ((bnd S f : Nat) : Int) * ((bnd S g : Nat) : Int) else 10 ^ (6 : Int).toNat) = ((min (10 ^ 6) (bnd S f * bnd S g) : Nat) : Int) := by
              rw [← Int.natCast_mul]
              generalize bnd S f * bnd S g = z
              by_cases c : (z : Int) < 10 ^ (6 : Int).toNat
              · rw [if_pos c]
                have c' : z < 10 ^ 6 := by have : (10 : Int) ^ (6 : Int).toNat = 1000000 := by decide
                                           omega
                rw [Nat.min_eq_right (by omega)]
              · rw [if_neg c]
                have c' : ¬ z < 10 ^ 6 := by have : (10 : Int) ^ (6 : Int).toNat = 1000000 := by decide
                                             omega
                rw [Nat.min_eq_left (by omega)]
                decide
            have q2 := q H2 (x1.trans x2)
            rw [← e] at q2
            exact q2
          | there f =>
            rw [bnd_there hl ok.1] at q
            refine ⟨_, rfl, t, _, 0, _, rfl, rfl, sqT_of h3, at0 _ _, rfl, _, rfl, itF (by decide +kernel) ?_⟩
            refine ⟨_, rfl, t, _, 0, _, rfl, rfl, sqT_of h3, at0 _ _, rfl, _, rfl, itF (by decide +kernel) ?_⟩
            refine ⟨_, rfl, t, _, 0, _, rfl, rfl, sqT_of h3, at0 _ _, rfl, _, rfl, itT ?_⟩
            refine ⟨_, rfl, _, rfl, t, _, 1, _, rfl, rfl, sqT_of h3, rfl, sa, S, f, rfl, (by have := ok.1; omega), hS, W, ok.2, fun H1 x1 => ?_⟩
            refine ⟨_, rfl, bnd S f, 8, rfl, rfl, _, rfl, ?_⟩
            by_cases c : 8 < bnd S f
            · rw [decide_eq_true c]
              rw [if_pos c] at q
              exact iteT ⟨10, 6, rfl, rfl, ⟨by decide, by decide, by decide⟩, q H1 x1⟩
            · rw [decide_eq_false c]
              rw [if_neg c] at q
              refine iteF ⟨(by show 9 ≤ sizeLine; decide), fun p np => ⟨_, rfl, p, _, (bnd S f : Nat), _, rfl, rfl, SqL.of upd_same, atI_nat (pows _ (by omega)), q _ (x1.new np)⟩⟩
          | set i => cases hp
          | letter a => cases hp
          | not c => cases hp
          | and c d => cases hp
          | _ => exact absurd rfl hpl
  exact fun N => ⟨fd, key N, F.bindsN fun _ _ _ _ _ _ us hl => match us, hl with | [_, _], _ => rfl, F.kp⟩
end
end Tw
set_option maxRecDepth 100000
set_option maxHeartbeats 2000000
/-! _law_sentence. -/
namespace Tw
open PySem PySem.Spec PyProof.Rows L2
theorem StV.tk {H H' : Hp} {st sc : Addr} {ns : List Int} (x : Kx [st] H H') (h : StV H st sc ns) : TupK H H' := fun a vs e => x a _ (fun q => by
  obtain ⟨_, _, _, e1, _⟩ := h
  rw [List.mem_singleton.mp q, e1] at e
  cases e) e
theorem SenV.tk {H H' : Hp} {a : Addr} {S : List Ln} (t : TupK H H') (h : SenV H a S) : SenV H' a S := by
  obtain ⟨as, e, l⟩ := h
  exact ⟨as, t _ _ e, l.kx t⟩
theorem StV.tab {H H' : Hp} {st sc P : Addr} {ns : List Int} (x : Kx [st] H H') (h : StV H st sc ns) (g : GxR.TabG H P) : GxR.TabG H' P := by
  obtain ⟨ps, e, t⟩ := g
  refine ⟨ps, x P _ (fun q => ?_) e, t⟩
  obtain ⟨_, _, _, e1, _⟩ := h
  rw [List.mem_singleton.mp q, e1] at e
  cases e
theorem StV.ex {H H' : Hp} {st sc : Addr} {ns : List Int} (x : Ex H H') (h : StV H st sc ns) : StV H' st sc ns := by
  obtain ⟨s0, pos, s3, e1, e2, e3⟩ := h
  exact ⟨s0, pos, s3, x.lst e1, x.lst e2, e3⟩
section
variable {P : Program} {w : World} {K : PySem.W.Frag} {mg : Str → Option Value} {base : Heap}
def spSent (N : Nat) : Sp := fun vs H Q _ => ∃ (st sc : Addr) (ns : List Int) (m d t k : Nat), vs = [.ref st, .int (m : Int), .int (d : Int), .int (t : Int), .int (k : Int)] ∧ StV H st sc ns ∧ 0 < m ∧ m < 1000 ∧ d < N ∧ k + t ≤ 6 ∧ 21 * 2 ^ d ≤ 98000 ∧
  ∀ H' sa S, Kx [st] H H' → StV H' st sc ns → SenV H' sa S → WF S → 0 < S.length → S.length + 1 ≤ 21 * 2 ^ d → KindAt S (S.length - 1) false → thd S (S.length - 1) ≤ t → Q (.ref sa) H'
abbrev pSent : List Str := ["_law_state", "_law_count", "_law_deep", "_law_theres", "_law_sets"]
theorem scSent : FnScope ["_law_state", "_law_count", "_law_deep", "_law_theres", "_law_sets", "_law_lines"] pSent (defScope s__law_sentence) := ⟨rfl, rfl, rfl, by decide +kernel, rfl, by decide +kernel, by decide +kernel⟩
theorem ok_sentence (T : Tx w K mg) (N : Nat) : Gd P w K mg base CX0 (9 + N) (He.ga K "_law_sentence") pSent (spSent N) := by
  obtain ⟨fd, F⟩ := T.f__law_sentence
  have GS := ok_statement (P := P) (base := base) T N
  have nd := scSent.nd
  have eN : 9 + N = 8 + N + 1 := by omega
  rw [eN]
  refine ⟨fd, F.ok scSent (fun vs H Q E h => ?_) (fun cdv A outer s H vs Q E hr h => ?_), F.bindsN fun _ _ _ _ _ _ us hl => match us, hl with | [_, _, _, _, _], _ => rfl, F.kp⟩
  · obtain ⟨st, sc, ns, m, d, t, k, rfl, _⟩ := h
    rfl
  · obtain ⟨st, sc, ns, m, d, t, k, rfl, hS, hm0, hm, hd, hk, hz, q⟩ := h
    refine ⟨_, PSs.nox (pss_cons (ps_set (i := 5) nd rfl (.inl rfl) (pe_lst pa_nil))
      (pss_cons (ps_expr (pe_cG GS hr rfl T.g__law_statement pass0 (pa_cons (pv 0) (pa_cons (pv 1) (pa_cons (pv 5) (pa_cons (pv 2) (pa_cons (pv 3) (pa_cons (pv 4) pa_nil))))))))
      (pss_one (ps_ret (pe_callTy call_tuple_of rfl T.m_tuple (by decide +kernel) (pa_cons (pv 5) pa_nil)))))), ?_⟩
    refine ⟨(by show 0 ≤ sizeLine; decide), fun ll nll => ?_⟩
    obtain ⟨s0, pos, s3, e1, e2, e3⟩ := id hS
    have nst : ll ≠ st := fun e => by rw [e, e1] at nll; cases nll
    have nsc : ll ≠ sc := fun e => by rw [e, e2] at nll; cases nll
    have hp : GenPre (upd H ll (.lst [])) st sc ll ns [] := ⟨hS.kx (M := []) (Kx.add nll) (by simp) (by simp), ⟨[], upd_same, rfl, fun i a l f1 => by cases f1⟩, WF.nil, nst, nsc⟩
    refine ⟨_, rfl, _, rfl, _, rfl, _, rfl, _, rfl, _, rfl, d, hd, st, sc, ll, ns, m, t, k, [], rfl, hp, hm0, hm, hk, by show 0 + _ ≤ _; omega, fun H1 S g l1 l2 k1 t1 => ?_⟩
    obtain ⟨as, f1, f2⟩ := g.lv
    have x1 : Kx [st] H H1 := fun b o hb e => by
      have nb : b ≠ ll := fun q => by rw [q, nll] at e; cases e
      exact g.kx b o (by simp only [List.mem_cons, List.not_mem_nil, or_false, not_or]; exact ⟨by simpa using hb, nb⟩) (by rw [upd_ne nb]; exact e)
    refine ⟨_, rfl, ll, _, rfl, .inl ⟨SqL.of f1, fun sa nsa => ?_⟩⟩
    have x2 : Ex H1 (upd H1 sa (.tup (as.map V.ref))) := Ex.add nsa
    refine q _ sa S (x1.fresh (o := .tup (as.map V.ref)) ?_) (g.sv.ex x2) ⟨as, upd_same, x2.lines f2⟩ g.wf l1 (by have : ([] : List Ln).length = 0 := rfl; omega) k1 t1
    cases e : H sa with
    | none => rfl
    | some o =>
      by_cases c : sa = st
      · rw [c] at nsa
        obtain ⟨_, _, _, z, _⟩ := g.sv
        rw [z] at nsa
        cases nsa
      · have := x1 sa o (by simpa using c) e
        rw [nsa] at this
        cases this
end
end Tw
set_option maxRecDepth 100000
set_option maxHeartbeats 4000000
/-! law. -/
namespace Tw
open PySem PySem.Spec PyProof.Rows L2
theorem Lang_zero (S : List Ln) (n : Nat) (u : List Nat) : Lang S n 0 u = sov S u n [] := by
  unfold Lang
  rw [rowOf_zero, setsOf_zero]
section
variable {P : Program} {w : World} {K : PySem.W.Frag} {mg : Str → Option Value} {base : Heap}
def spLaw (K : PySem.W.Frag) : Sp := fun vs H Q _ => ∃ (a : Addr) (ns : List Int), vs = [.ref a] ∧ SqL K H a (ns.map V.int) ∧ GxR.TabG H (cQ K).2 ∧ GxR.TabG H (cP K).2 ∧ ∀ H', Q (.bl true) H'
abbrev nLaw : List Str := ["_law_script", "_law_state", "_law_count", "_law_sentence_here", "_law_reader", "_law_k", "_law_row"]
theorem scLaw : FnScope nLaw ["_law_script"] (defScope s_law) := ⟨rfl, rfl, rfl, by decide +kernel, rfl, by decide +kernel, by decide +kernel⟩
theorem SetsV.nil {H : Hp} {p : Addr} (h : H p = some (.lst [])) : SetsV H p [] := ⟨[], h, rfl, fun i _ _ e => by cases e⟩
theorem ok_law (T : Tx w K mg) (hP : PrOk P) (TB : GxR.TabB base mg (cQ K).1 (cQ K).2) (TP : GxR.TabB base mg (cP K).1 (cP K).2) {fd : FuncData} (F : FunD K "law" "law" (defArgs s_law) (defBody s_law) (defScope s_law) [] [] (He.fAd K ("law", none)) fd) : FnOk P w K mg base CX0 130 (He.ga K "law") fd ["_law_script"] (spLaw K) := by
  have GD := ok_draw (P := P) (base := base) T
  have GW := ok_word (P := P) (base := base) T
  have GS := ok_sentence (P := P) (base := base) T 4
  have GT := ok_told (P := P) T hP TB TP
  have GB := ok_bound (P := P) (base := base) T 61
  have GO := ok_so (P := P) (base := base) T 61
  have GA := ok_accepts (P := P) (base := base) T
  have nd := scLaw.nd
  refine F.ok scLaw (fun vs H Q E h => ?_) (fun cdv A outer s H vs Q E hr h => ?_)
  · obtain ⟨a, ns, rfl, _⟩ := h
    rfl
  · obtain ⟨a, ns, rfl, hsq, hTQ, hTP, q⟩ := h
    have hr0 : Room 129 _ := hr
    have hrD : Room 1 _ := hr0.mono (by decide)
    have hrW : Room 2 _ := hr0.mono (by decide)
    have hrS : Room (9 + 4) _ := hr0.mono (by decide)
    have hrT : Room (LV + 7) _ := hr0.mono (by decide)
    have hrB : Room 61 _ := hr0.mono (by decide)
    have hrO : Room (2 * 61) _ := hr0.mono (by decide)
    refine ⟨_, PSs.nox (pss_cons (ps_set (i := 1) nd rfl (.inl rfl) (pe_lst (pa_cons pe_int (pa_cons pe_int (pa_cons (pe_callTy call_list_of rfl T.m_list (by decide +kernel) (pa_cons (pv 0) pa_nil)) (pa_cons pe_int pa_nil))))))
      (pss_cons (ps_set (i := 2) nd rfl (.inl rfl) (pe_op op_addN pe_int (pe_cG GD hrD rfl T.g__law_draw pass0 (pa_cons (pv 1) (pa_cons pe_int pa_nil)))))
      (pss_cons (ps_set (i := 3) nd rfl (.inl rfl) (pe_cG GS hrS rfl T.g__law_sentence pass0 (pa_cons (pv 1) (pa_cons (pv 2) (pa_cons pe_int (pa_cons pe_int (pa_cons pe_int pa_nil)))))))
      (pss_cons (ps_if (pt_cmpR op_gtN (pe_callB call_len_seq rfl T.m_len PySem.boot_len (pa_cons (pv 3) pa_nil)) pe_int (nomark _)) (pss_one (ps_ret pe_bl)) pss_nil)
      (pss_cons (ps_set (i := 4) nd rfl (.inl rfl) (pe_cG GT hrT rfl T.g__law_told pass0 (pa_cons (pv 2) (pa_cons (pv 3) (pa_cons pe_int pa_nil)))))
      (pss_cons (ps_if (pt_cmpR op_isN (pv 4) pe_non (nomark _)) (pss_one (ps_ret (pe_cmpR op_gtN (pe_cG GB hrB rfl T.g__law_bound pass0 (pa_cons (pv 3) (pa_cons (pe_op op_subN (pe_callB call_len_seq rfl T.m_len PySem.boot_len (pa_cons (pv 3) pa_nil)) pe_int) pa_nil))) pe_int (nomark _)))) pss_nil)
      (pss_cons (ps_for PassesOwn.never rfl (pi_range1 rfl T.m_range (pa_cons pe_int pa_nil)) (pg_name (i := 5) nd rfl (.inl rfl))
        (pss_cons (ps_set (i := 6) nd rfl (.inl rfl) (pe_cG GW hrW rfl T.g__law_word pass0 (pa_cons (pv 1) (pa_cons (pv 2) (pa_cons pe_int pa_nil)))))
        (pss_one (ps_if (pt_cmpR op_ne (pe_cG GA hrW rfl T.g_accepts pass0 (pa_cons (pv 4) (pa_cons (pe_callTy call_list_of rfl T.m_list (by decide +kernel) (pa_cons (pv 6) pa_nil)) pa_nil)))
            (pe_cG GO hrO rfl T.g__law_so pass0 (pa_cons (pv 3) (pa_cons (pe_op op_subN (pe_callB call_len_seq rfl T.m_len PySem.boot_len (pa_cons (pv 3) pa_nil)) pe_int) (pa_cons (pv 6) (pa_cons (pe_lst pa_nil) pa_nil))))) (nomark _))
          (pss_one (ps_ret pe_bl)) pss_nil))))
      (pss_one (ps_ret (pe_cmpR op_eq (pe_cG GA hrW rfl T.g_accepts pass0 (pa_cons (pv 4) (pa_cons (pe_lst pa_nil) pa_nil)))
            (pe_cG GO hrO rfl T.g__law_so pass0 (pa_cons (pv 3) (pa_cons (pe_op op_subN (pe_callB call_len_seq rfl T.m_len PySem.boot_len (pa_cons (pv 3) pa_nil)) pe_int) (pa_cons (pe_lst pa_nil) (pa_cons (pe_lst pa_nil) pa_nil))))) (nomark _))))))))))), ?_⟩
    -- the state
    refine ⟨_, rfl, a, _, rfl, .inl hsq, fun sc nsc => ⟨(by show 4 ≤ sizeLine; decide), fun st nst => ?_⟩⟩
    have x1 : Ex H (upd H sc (.lst (ns.map V.int))) := Ex.add nsc
    have x2 : Ex H (upd (upd H sc (.lst (ns.map V.int))) st (.lst [.int 0, .int 0, .ref sc, .int 1])) := x1.new nst
    have hns : sc ≠ st := fun e => by rw [← e, upd_same] at nst; cases nst
    have hS2 : StV (upd (upd H sc (.lst (ns.map V.int))) st (.lst [.int 0, .int 0, .ref sc, .int 1])) st sc ns := ⟨0, 0, 1, upd_same, by rw [upd_ne hns]; exact upd_same, hns⟩
    have hTQ2 := x2.tabG hTQ
    have hTP2 := x2.tabG hTP
    generalize upd (upd H sc (.lst (ns.map V.int))) st (.lst [.int 0, .int 0, .ref sc, .int 1]) = H2 at hS2 hTQ2 hTP2 ⊢
    -- the count
    refine ⟨_, rfl, st, sc, ns, 4, rfl, hS2, by decide, by decide, fun H3 dr x3 hS3 hdr => ⟨1, dr, rfl, rfl, ?_⟩⟩
    obtain ⟨m, em⟩ : ∃ m, 1 + dr = m := ⟨_, rfl⟩
    rw [em]
    have hTQ3 := hS2.tab x3 hTQ2
    have hTP3 := hS2.tab x3 hTP2
    -- the sentence
    refine ⟨_, rfl, _, rfl, st, sc, ns, m, 3, 1, 0, rfl, hS3, by omega, by omega, by decide, by decide, by decide, fun H4 sa S x4 hS4 hsen W h0 hl4 hkd hth => ?_⟩
    have hTQ4 := hS3.tab x4 hTQ3
    have hTP4 := hS3.tab x4 hTP3
    obtain ⟨as, hsa, hLA⟩ := id hsen
    have eL : (as.map V.ref).length = S.length := by rw [List.length_map]; exact hLA.1
    refine ⟨_, rfl, sa, _, rfl, .inr (sqT_of hsa), (as.map V.ref).length, 60, rfl, rfl, _, rfl, ?_⟩
    rw [eL]
    by_cases c60 : 60 < S.length
    · rw [decide_eq_true c60]
      exact iteT (q _)
    rw [decide_eq_false c60]
    refine iteF ?_
    -- the reader
    refine ⟨_, rfl, _, rfl, m, sa, S, 0, rfl, hsen, W, h0, by omega, hkd, by omega, by omega, hTQ4, hTP4, fun H5 x5 hb => ?_, fun H5 r R x5 hR hI => ?_⟩
    · refine ⟨_, rfl, rfl, _, rfl, ?_⟩
      rw [decide_eq_true rfl]
      have hsen5 := x5.sen hsen
      refine iteT ⟨_, rfl, _, rfl, sa, _, rfl, .inr (sqT_of (x5.tup hsa)), (as.map V.ref).length, 1, rfl, rfl, by rw [eL]; exact h0, ?_⟩
      rw [eL]
      refine ⟨sa, S, S.length - 1, rfl, by omega, hsen5, W, hkd, fun H6 x6 => ⟨bnd S (S.length - 1), 300, rfl, rfl, ?_⟩⟩
      rw [decide_eq_true hb]
      exact q _
    refine ⟨_, rfl, rfl, _, rfl, ?_⟩
    rw [decide_eq_false (fun e => nomatch e)]
    refine iteF ?_
    rw [Nat.pow_zero, Nat.mul_one] at hI
    have hS5 := hS4.ex x5
    have hsen5 := x5.sen hsen
    refine ⟨6, rfl, by decide, by decide, ?_⟩
    refine for_rangeN (n := 6) rfl (fun i σ H6 => ∃ v5 v6, σ = [some (.ref a), some (.ref st), some (.int (m : Int)), some (.ref sa), some (.ref r), v5, v6] ∧ StV H6 st sc ns ∧ SenV H6 sa S ∧ RdrV H6 r R) ⟨none, none, rfl, hS5, hsen5, hR⟩ ?_ ?_
    · rintro i σ H6 hi ⟨v5, v6, rfl, hS6, hsen6, hR6⟩
      refine ⟨_, rfl, _, rfl, st, sc, ns, m, 6, rfl, hS6, by omega, by omega, by decide, fun H7 p u x7 hS7 hp7 np hu hul => ?_⟩
      have t7 := hS6.tk x7
      have hsen7 := hsen6.tk t7
      have hR7 := RdrV.tk t7 hR6
      refine ⟨_, rfl, _, rfl, p, _, rfl, .inl (SqL.of hp7), fun l nl => ?_⟩
      have x8 : Ex H7 (upd H7 l (.lst (nV u))) := Ex.add nl
      have hl8 : upd H7 l (.lst (nV u)) l = some (.lst (nV u)) := upd_same
      generalize upd H7 l (.lst (nV u)) = H8 at x8 hl8 ⊢
      refine ⟨r, l, R, m, Lang S (S.length - 1) 0, u, rfl, x8.rdr hR7, hI, hl8, hu, ?_⟩
      have hsen8 := x8.sen hsen7
      obtain ⟨as8, hsa8, hLA8⟩ := id hsen8
      have eL8 : (as8.map V.ref).length = S.length := by rw [List.length_map]; exact hLA8.1
      refine ⟨_, rfl, _, rfl, sa, _, rfl, .inr (sqT_of hsa8), (as8.map V.ref).length, 1, rfl, rfl, by rw [eL8]; exact h0, _, rfl, (by show 0 ≤ sizeLine; decide), fun l9 nl9 => ?_⟩
      rw [eL8]
      have x9 : Ex H8 (upd H8 l9 (.lst [])) := Ex.add nl9
      have hl9 : upd H8 l9 (.lst []) l9 = some (.lst []) := upd_same
      generalize upd H8 l9 (.lst []) = H9 at x9 hl9 ⊢
      have X9 := x8.trans x9
      refine ⟨sa, p, l9, S, S.length - 1, u, [], rfl, by omega, x9.sen hsen8, W, hkd, X9.lst hp7, SetsV.nil hl9, hul, by show 0 + _ ≤ _; omega, fun H10 x10 => ⟨rfl, _, rfl, ?_⟩⟩
      have X10 := X9.trans x10
      rw [Lang_zero, decide_eq_true rfl]
      exact iteF ⟨_, _, rfl, hS7.ex X10, X10.sen hsen7, X10.rdr hR7⟩
    · rintro σ H6 ⟨v5, v6, rfl, hS6, hsen6, hR6⟩
      refine ⟨_, rfl, (by show 0 ≤ sizeLine; decide), fun l nl => ?_⟩
      have x8 : Ex H6 (upd H6 l (.lst [])) := Ex.add nl
      have hl8 : upd H6 l (.lst []) l = some (.lst (nV [])) := upd_same
      generalize upd H6 l (.lst []) = H8 at x8 hl8 ⊢
      refine ⟨r, l, R, m, Lang S (S.length - 1) 0, [], rfl, x8.rdr hR6, hI, hl8, Wd.nil, ?_⟩
      have hsen8 := x8.sen hsen6
      obtain ⟨as8, hsa8, hLA8⟩ := id hsen8
      have eL8 : (as8.map V.ref).length = S.length := by rw [List.length_map]; exact hLA8.1
      refine ⟨_, rfl, _, rfl, sa, _, rfl, .inr (sqT_of hsa8), (as8.map V.ref).length, 1, rfl, rfl, by rw [eL8]; exact h0, (by show 0 ≤ sizeLine; decide), fun l9 nl9 => ⟨(by show 0 ≤ sizeLine; decide), fun l10 nl10 => ?_⟩⟩
      rw [eL8]
      have x9 : Ex H8 (upd H8 l9 (.lst [])) := Ex.add nl9
      have hl9 : upd H8 l9 (.lst []) l9 = some (.lst (nV [])) := upd_same
      generalize upd H8 l9 (.lst []) = H9 at x9 hl9 nl10 ⊢
      have x10 : Ex H9 (upd H9 l10 (.lst [])) := Ex.add nl10
      have hl10 : upd H9 l10 (.lst []) l10 = some (.lst []) := upd_same
      generalize upd H9 l10 (.lst []) = H10 at x10 hl10 ⊢
      refine ⟨sa, l9, l10, S, S.length - 1, [], [], rfl, by omega, (x9.trans x10).sen hsen8, W, hkd, x10.lst hl9, SetsV.nil hl10, by decide, by show 0 + _ ≤ _; omega, fun H11 x11 => ⟨rfl, ?_⟩⟩
      rw [Lang_zero, decide_eq_true rfl]
      exact q _
end
end Tw
set_option maxRecDepth 100000
set_option maxHeartbeats 4000000
/-! The end. -/
namespace Tw
open PySem PySem.Spec PyProof.Rows L2
theorem prOk : PrOk PySem.Challenge.rw_twoways_k22_whole_sentences_into_readers.prog := ⟨rfl, by decide +kernel⟩
theorem facts {w : World} {K : PySem.W.Frag} {h : Heap} {mg : Str → Option Value} {f : Addr} (X : K.In h) (G : h.Ns mainGlobals mg) (hfa : mg ("law" : Str) = some (.ref f)) (c : SaysY w h K) :
    LamX.LawAtS PySem.Challenge.rw_twoways_k22_whole_sentences_into_readers w K CX0 130 63 "_law_script" mg f h := by
  have T : Tx w K mg := ⟨⟨h, X, G⟩, c.x.t, c.x.more, c.y⟩
  have e := hfa.symm.trans T.g_law
  cases e
  obtain ⟨fd, F⟩ := T.f_law
  have mem : ∀ p ∈ [cQ K, cP K], ∃ q ∈ tf, p = He.cT K q := fun p hp => by
    rcases List.mem_cons.mp hp with rfl | hp
    · exact ⟨_, .head _, rfl⟩
    · obtain rfl := List.mem_singleton.mp hp
      exact ⟨_, .tail _ (.head _), rfl⟩
  have b := FunD.bindsA (ps := ["_law_script"]) F fun _ _ _ _ _ _ us hl => match us, hl with | [_], _ => rfl
  refine ⟨fd, [cQ K, cP K], spLaw K, fun p hp => ?_, fun p hp => ?_, fun p hp => ?_, fun s v => b s [v] rfl, fun H a ns _ _ hT hS => ?_, fun base _ _ hB => ?_⟩
  · obtain ⟨q, hq, rfl⟩ := mem p hp
    exact c.x.empty q hq
  · obtain ⟨q, hq, rfl⟩ := mem p hp
    exact c.x.out q hq
  · obtain ⟨q, hq, rfl⟩ := mem p hp
    exact PySem.W.codeHd_of_K X (c.x.hd q hq)
  · exact ⟨a, ns, rfl, hS, ⟨#[], hT _ (.head _), trivial⟩, ⟨#[], hT _ (.tail _ (.head _)), trivial⟩, fun _ => rfl⟩
  · have h1 := hB (cQ K) (.head _)
    have h2 := hB (cP K) (.tail _ (.head _))
    exact ok_law T prOk ⟨h1.code, h1.bm, h1.gP⟩ ⟨h2.code, h2.bm, h2.gP⟩ F
end Tw
open PySem PySem.W PySem.Calls PyProof.Rows
set_option maxHeartbeats 0
theorem PySem.Challenge.cw_twoways_k22_whole_sentences_into_readers_holds : PySem.Challenge.rw_twoways_k22_whole_sentences_into_readers.Holds := by
  w_on; o_law
  refine HandSHeadRun.head_any (r := Tw.R) (q := view Tw.R.prog [51]) (H := Tw.hk) (ob := Tw.ob) (M := 5000) (loose := Tw.nm1 ++ Tw.nm2) (d := HandSHeadRun.topDef Tw.R.prog 51) (kwd := []) Tw.ob_eq
    (by kernel_rfl) (fun s => by kernel_rfl) Tw.run (by kernel_rfl) (by kernel_rfl) (by kernel_rfl) (by rfl) (by first | assumption | decide +kernel) (by decide +kernel) ⟨rfl, rfl, rfl, rfl, rfl, by decide +kernel⟩ ?hw ?hc
  case hw => w_witness2
  case hc =>
    refine LamX.walk_ofTsE (l := PySem.Challenge.rw_twoways_k22_whole_sentences_into_readers) (n := 63) (k := 130) (x := "_law_script") (CX := fun _ => L2.CX0) rfl (by decide) (by kernel_rfl) ⟨rfl, by decide, by decide⟩ ?F (fun _ _ _ _ _ z => z)
    intro w mg fa h Y G hmg0
    obtain ⟨K, KX, c⟩ := Y
    have hmg : mg ("law" : PySem.Str) = some (.ref fa) := by
      have e : (HandSHeadRun.topDef Tw.R.prog 51).name = ("law" : PySem.Str) := by kernel_rfl
      rw [← e]
      exact hmg0
    exact ⟨K, KX, Tw.facts KX G hmg c⟩
