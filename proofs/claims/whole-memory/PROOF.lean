import PyProof.Rows.All
import Wide.All
import OpenK.AllK
import Wide.FinOn
import HandS.ForMost
import HandS.Evl
import KE.KStateDown
import HandS.More
import HandS.WordsExc
import HandS.Defaults
import HandS.MakeKwOnly
import HandS.Property
import HandS.Head0
import HandS.Head1
import HandS.Head2
import HandS.HeadEnd
import HandS.HeadHook1
import HandS.HeadHook2
import HandS.EndBits
import HandS.TupAny
import HandS.Wide
import HandS.Strs
import HandS.Style
import HandS.Deep
import HandS.FStr
import HandS.TupLen
import HandS.Conv
import HandS.Star
import HandS.DictComp
import HandS.SetFor
import HandS.Sort
import HandS.Text
import KE.DataAny
import KE.KDictPairs
import KE.GoesEnum
import KE.KeyNested
import PySem.Challenge.RW_fewestheld_k92_whole_memory
set_option Elab.async false
set_option linter.all false
set_option maxRecDepth 100000
set_option maxHeartbeats 4000000
namespace FH
open PySem PySem.Spec PyProof.Rows L2
/-! the text by places -/
def top (i : Nat) : Stmt := PySem.Challenge.pw_fewestheld_k92_whole_memory.main.body.getD i (.Pass ⟨0, 0, 0, 0⟩)
abbrev s_is_name : Stmt := top 15
abbrev N_is_name : List Str := ["text", "char"]
theorem sc_is_name : FnScope N_is_name ["text"] (defScope s_is_name) := ⟨rfl, rfl, rfl, by decide +kernel, rfl, by decide +kernel, by decide +kernel⟩
def d_is_name : He.DefD := ⟨("is_name", none), "is_name", "is_name", defArgs s_is_name, defBody s_is_name, defScope s_is_name, [], []⟩
abbrev s_are_different : Stmt := top 16
abbrev N_are_different : List Str := ["parts", "part"]
theorem sc_are_different : FnScope N_are_different ["parts"] (defScope s_are_different) := ⟨rfl, rfl, rfl, by decide +kernel, rfl, by decide +kernel, by decide +kernel⟩
def d_are_different : He.DefD := ⟨("are_different", none), "are_different", "are_different", defArgs s_are_different, defBody s_are_different, defScope s_are_different, [], []⟩
abbrev s_require : Stmt := top 17
abbrev N_require : List Str := ["holds"]
theorem sc_require : FnScope N_require ["holds"] (defScope s_require) := ⟨rfl, rfl, rfl, by decide +kernel, rfl, by decide +kernel, by decide +kernel⟩
def d_require : He.DefD := ⟨("require", none), "require", "require", defArgs s_require, defBody s_require, defScope s_require, [], []⟩
abbrev s_require_names : Stmt := top 18
abbrev N_require_names : List Str := ["names", "most", "name"]
theorem sc_require_names : FnScope N_require_names ["names", "most"] (defScope s_require_names) := ⟨rfl, rfl, rfl, by decide +kernel, rfl, by decide +kernel, by decide +kernel⟩
def d_require_names : He.DefD := ⟨("require_names", none), "require_names", "require_names", defArgs s_require_names, defBody s_require_names, defScope s_require_names, [], []⟩
abbrev s_checked_place : Stmt := top 19
abbrev N_checked_place : List Str := ["place", "name", "slots", "yes"]
theorem sc_checked_place : FnScope N_checked_place ["place"] (defScope s_checked_place) := ⟨rfl, rfl, rfl, by decide +kernel, rfl, by decide +kernel, by decide +kernel⟩
def d_checked_place : He.DefD := ⟨("checked_place", none), "checked_place", "checked_place", defArgs s_checked_place, defBody s_checked_place, defScope s_checked_place, [], []⟩
abbrev s_Book_init : Stmt := inClass (top 20) 0
abbrev N_Book_init : List Str := ["self", "words", "places", "start", "rules", "place", "rule", "key", "value"]
theorem sc_Book_init : FnScope N_Book_init ["self", "words", "places", "start", "rules"] (defScope s_Book_init) := ⟨rfl, rfl, rfl, by decide +kernel, rfl, by decide +kernel, by decide +kernel⟩
def d_Book_init : He.DefD := ⟨("Book", some "__init__"), "__init__", "Book.__init__", defArgs s_Book_init, defBody s_Book_init, defScope s_Book_init, [], []⟩
abbrev s_Book_asked : Stmt := inClass (top 20) 1
abbrev N_Book_asked : List Str := ["self", "found", "name", "slots", "_", "word", "case"]
theorem sc_Book_asked : FnScope N_Book_asked ["self"] (defScope s_Book_asked) := ⟨rfl, rfl, rfl, by decide +kernel, rfl, by decide +kernel, by decide +kernel⟩
def d_Book_asked : He.DefD := ⟨("Book", some "asked"), "asked", "Book.asked", defArgs s_Book_asked, defBody s_Book_asked, defScope s_Book_asked, [], []⟩
abbrev s_Book_checked_rule : Stmt := inClass (top 20) 2
abbrev N_Book_checked_rule : List Str := ["self", "rule", "name", "word", "case", "goal", "moves", "slots", "least", "source"]
theorem sc_Book_checked_rule : FnScope N_Book_checked_rule ["self", "rule"] (defScope s_Book_checked_rule) := ⟨rfl, rfl, rfl, by decide +kernel, rfl, by decide +kernel, by decide +kernel⟩
def d_Book_checked_rule : He.DefD := ⟨("Book", some "checked_rule"), "checked_rule", "Book.checked_rule", defArgs s_Book_checked_rule, defBody s_Book_checked_rule, defScope s_Book_checked_rule, [], []⟩
abbrev s_Book_place_names : Stmt := inClass (top 20) 3
abbrev N_Book_place_names : List Str := ["self", "place"]
theorem sc_Book_place_names : FnScope N_Book_place_names ["self"] (defScope s_Book_place_names) := ⟨rfl, rfl, rfl, by decide +kernel, rfl, by decide +kernel, by decide +kernel⟩
def d_Book_place_names : He.DefD := ⟨("Book", some "place_names"), "place_names", "Book.place_names", defArgs s_Book_place_names, defBody s_Book_place_names, defScope s_Book_place_names, [], []⟩
abbrev s_Book_rules : Stmt := inClass (top 20) 4
abbrev N_Book_rules : List Str := ["self", "key"]
theorem sc_Book_rules : FnScope N_Book_rules ["self"] (defScope s_Book_rules) := ⟨rfl, rfl, rfl, by decide +kernel, rfl, by decide +kernel, by decide +kernel⟩
def d_Book_rules : He.DefD := ⟨("Book", some "rules"), "rules", "Book.rules", defArgs s_Book_rules, defBody s_Book_rules, defScope s_Book_rules, [], []⟩
abbrev s_Book_check_word : Stmt := inClass (top 20) 5
abbrev N_Book_check_word : List Str := ["self", "word"]
theorem sc_Book_check_word : FnScope N_Book_check_word ["self", "word"] (defScope s_Book_check_word) := ⟨rfl, rfl, rfl, by decide +kernel, rfl, by decide +kernel, by decide +kernel⟩
def d_Book_check_word : He.DefD := ⟨("Book", some "check_word"), "check_word", "Book.check_word", defArgs s_Book_check_word, defBody s_Book_check_word, defScope s_Book_check_word, [], []⟩
abbrev s_Book_place : Stmt := inClass (top 20) 6
abbrev N_Book_place : List Str := ["self", "name"]
theorem sc_Book_place : FnScope N_Book_place ["self", "name"] (defScope s_Book_place) := ⟨rfl, rfl, rfl, by decide +kernel, rfl, by decide +kernel, by decide +kernel⟩
def d_Book_place : He.DefD := ⟨("Book", some "place"), "place", "Book.place", defArgs s_Book_place, defBody s_Book_place, defScope s_Book_place, [], []⟩
abbrev s_Book_slots : Stmt := inClass (top 20) 7
abbrev N_Book_slots : List Str := ["self", "name"]
theorem sc_Book_slots : FnScope N_Book_slots ["self", "name"] (defScope s_Book_slots) := ⟨rfl, rfl, rfl, by decide +kernel, rfl, by decide +kernel, by decide +kernel⟩
def d_Book_slots : He.DefD := ⟨("Book", some "slots"), "slots", "Book.slots", defArgs s_Book_slots, defBody s_Book_slots, defScope s_Book_slots, [], []⟩
abbrev s_Book_says_yes : Stmt := inClass (top 20) 8
abbrev N_Book_says_yes : List Str := ["self", "name"]
theorem sc_Book_says_yes : FnScope N_Book_says_yes ["self", "name"] (defScope s_Book_says_yes) := ⟨rfl, rfl, rfl, by decide +kernel, rfl, by decide +kernel, by decide +kernel⟩
def d_Book_says_yes : He.DefD := ⟨("Book", some "says_yes"), "says_yes", "Book.says_yes", defArgs s_Book_says_yes, defBody s_Book_says_yes, defScope s_Book_says_yes, [], []⟩
abbrev s_Book_rule : Stmt := inClass (top 20) 9
abbrev N_Book_rule : List Str := ["self", "name", "word", "case", "slots"]
theorem sc_Book_rule : FnScope N_Book_rule ["self", "name", "word", "case"] (defScope s_Book_rule) := ⟨rfl, rfl, rfl, by decide +kernel, rfl, by decide +kernel, by decide +kernel⟩
def d_Book_rule : He.DefD := ⟨("Book", some "rule"), "rule", "Book.rule", defArgs s_Book_rule, defBody s_Book_rule, defScope s_Book_rule, [], []⟩
abbrev s_check_row : Stmt := top 22
abbrev N_check_row : List Str := ["book", "row", "word", "_"]
theorem sc_check_row : FnScope N_check_row ["book", "row"] (defScope s_check_row) := ⟨rfl, rfl, rfl, by decide +kernel, rfl, by decide +kernel, by decide +kernel⟩
def d_check_row : He.DefD := ⟨("check_row", none), "check_row", "check_row", defArgs s_check_row, defBody s_check_row, defScope s_check_row, [], []⟩
abbrev s_check_names : Stmt := top 23
abbrev N_check_names : List Str := ["row", "_", "name"]
theorem sc_check_names : FnScope N_check_names ["row"] (defScope s_check_names) := ⟨rfl, rfl, rfl, by decide +kernel, rfl, by decide +kernel, by decide +kernel⟩
def d_check_names : He.DefD := ⟨("check_names", none), "check_names", "check_names", defArgs s_check_names, defBody s_check_names, defScope s_check_names, [], []⟩
abbrev s_case_of : Stmt := top 24
abbrev N_case_of : List Str := ["held", "name"]
theorem sc_case_of : FnScope N_case_of ["held", "name"] (defScope s_case_of) := ⟨rfl, rfl, rfl, by decide +kernel, rfl, by decide +kernel, by decide +kernel⟩
def d_case_of : He.DefD := ⟨("case_of", none), "case_of", "case_of", defArgs s_case_of, defBody s_case_of, defScope s_case_of, [], []⟩
abbrev s_moved : Stmt := top 25
abbrev N_moved : List Str := ["held", "moves", "name", "source"]
theorem sc_moved : FnScope N_moved ["held", "moves", "name"] (defScope s_moved) := ⟨rfl, rfl, rfl, by decide +kernel, rfl, by decide +kernel, by decide +kernel⟩
def d_moved : He.DefD := ⟨("moved", none), "moved", "moved", defArgs s_moved, defBody s_moved, defScope s_moved, [], []⟩
abbrev s_after : Stmt := top 26
abbrev N_after : List Str := ["book", "place", "held", "word", "name", "goal", "moves"]
theorem sc_after : FnScope N_after ["book", "place", "held", "word", "name"] (defScope s_after) := ⟨rfl, rfl, rfl, by decide +kernel, rfl, by decide +kernel, by decide +kernel⟩
def d_after : He.DefD := ⟨("after", none), "after", "after", defArgs s_after, defBody s_after, defScope s_after, [], []⟩
abbrev s_trace : Stmt := top 27
abbrev N_trace : List Str := ["book", "row", "found", "word", "name", "place", "held"]
theorem sc_trace : FnScope N_trace ["book", "row"] (defScope s_trace) := ⟨rfl, rfl, rfl, by decide +kernel, rfl, by decide +kernel, by decide +kernel⟩
def d_trace : He.DefD := ⟨("trace", none), "trace", "trace", defArgs s_trace, defBody s_trace, defScope s_trace, [], []⟩
abbrev s_run : Stmt := top 28
abbrev N_run : List Str := ["book", "row"]
theorem sc_run : FnScope N_run ["book", "row"] (defScope s_run) := ⟨rfl, rfl, rfl, by decide +kernel, rfl, by decide +kernel, by decide +kernel⟩
def d_run : He.DefD := ⟨("run", none), "run", "run", defArgs s_run, defBody s_run, defScope s_run, [], []⟩
abbrev s_names_of : Stmt := top 29
abbrev N_names_of : List Str := ["row", "_", "name"]
theorem sc_names_of : FnScope N_names_of ["row"] (defScope s_names_of) := ⟨rfl, rfl, rfl, by decide +kernel, rfl, by decide +kernel, by decide +kernel⟩
def d_names_of : He.DefD := ⟨("names_of", none), "names_of", "names_of", defArgs s_names_of, defBody s_names_of, defScope s_names_of, [], []⟩
abbrev s_is_matching : Stmt := top 31
abbrev N_is_matching : List Str := ["one", "other", "pairs", "left", "pair", "right", "slot", "rising", "later"]
theorem sc_is_matching : FnScope N_is_matching ["one", "other", "pairs"] (defScope s_is_matching) := ⟨rfl, rfl, rfl, by decide +kernel, rfl, by decide +kernel, by decide +kernel⟩
def d_is_matching : He.DefD := ⟨("is_matching", none), "is_matching", "is_matching", defArgs s_is_matching, defBody s_is_matching, defScope s_is_matching, [], []⟩
abbrev s_kinds : Stmt := top 32
abbrev N_kinds : List Str := ["one", "other", "pairs", "matched", "taken", "pair", "found", "slot"]
theorem sc_kinds : FnScope N_kinds ["one", "other", "pairs"] (defScope s_kinds) := ⟨rfl, rfl, rfl, by decide +kernel, rfl, by decide +kernel, by decide +kernel⟩
def d_kinds : He.DefD := ⟨("kinds", none), "kinds", "kinds", defArgs s_kinds, defBody s_kinds, defScope s_kinds, [], []⟩
abbrev s_check_triple : Stmt := top 33
abbrev N_check_triple : List Str := ["first", "second", "triple", "one", "other", "pairs"]
theorem sc_check_triple : FnScope N_check_triple ["first", "second", "triple"] (defScope s_check_triple) := ⟨rfl, rfl, rfl, by decide +kernel, rfl, by decide +kernel, by decide +kernel⟩
def d_check_triple : He.DefD := ⟨("check_triple", none), "check_triple", "check_triple", defArgs s_check_triple, defBody s_check_triple, defScope s_check_triple, [], []⟩
abbrev s_check_words : Stmt := top 34
abbrev N_check_words : List Str := ["first", "second"]
theorem sc_check_words : FnScope N_check_words ["first", "second"] (defScope s_check_words) := ⟨rfl, rfl, rfl, by decide +kernel, rfl, by decide +kernel, by decide +kernel⟩
def d_check_words : He.DefD := ⟨("check_words", none), "check_words", "check_words", defArgs s_check_words, defBody s_check_words, defScope s_check_words, [], []⟩
abbrev s_behind : Stmt := top 35
abbrev N_behind : List Str := ["first", "second", "triple", "word", "kind", "one", "other", "pairs", "goal", "moves", "target", "others", "found", "slot", "source", "place", "start", "reads"]
theorem sc_behind : FnScope N_behind ["first", "second", "triple", "word", "kind"] (defScope s_behind) := ⟨rfl, rfl, rfl, by decide +kernel, rfl, by decide +kernel, by decide +kernel⟩
def d_behind : He.DefD := ⟨("behind", none), "behind", "behind", defArgs s_behind, defBody s_behind, defScope s_behind, [], []⟩
abbrev s_steps : Stmt := top 36
abbrev N_steps : List Str := ["first", "second", "triple", "one", "other", "pairs", "found", "word", "kind"]
theorem sc_steps : FnScope N_steps ["first", "second", "triple"] (defScope s_steps) := ⟨rfl, rfl, rfl, by decide +kernel, rfl, by decide +kernel, by decide +kernel⟩
def d_steps : He.DefD := ⟨("steps", none), "steps", "steps", defArgs s_steps, defBody s_steps, defScope s_steps, [], []⟩
abbrev s_agree : Stmt := top 37
abbrev N_agree : List Str := ["first", "second", "triple"]
theorem sc_agree : FnScope N_agree ["first", "second", "triple"] (defScope s_agree) := ⟨rfl, rfl, rfl, by decide +kernel, rfl, by decide +kernel, by decide +kernel⟩
def d_agree : He.DefD := ⟨("agree", none), "agree", "agree", defArgs s_agree, defBody s_agree, defScope s_agree, [], []⟩
abbrev s_reached_places : Stmt := top 39
abbrev N_reached_places : List Str := ["book", "found", "known", "at", "word", "case", "goal"]
theorem sc_reached_places : FnScope N_reached_places ["book"] (defScope s_reached_places) := ⟨rfl, rfl, rfl, by decide +kernel, rfl, by decide +kernel, by decide +kernel⟩
def d_reached_places : He.DefD := ⟨("reached_places", none), "reached_places", "reached_places", defArgs s_reached_places, defBody s_reached_places, defScope s_reached_places, [], []⟩
abbrev s_pairings : Stmt := top 40
abbrev N_pairings : List Str := ["first", "second", "found", "slot", "longer", "pairs", "used", "_", "two"]
theorem sc_pairings : FnScope N_pairings ["first", "second"] (defScope s_pairings) := ⟨rfl, rfl, rfl, by decide +kernel, rfl, by decide +kernel, by decide +kernel⟩
def d_pairings : He.DefD := ⟨("pairings", none), "pairings", "pairings", defArgs s_pairings, defBody s_pairings, defScope s_pairings, [], []⟩
abbrev s_Alikes_init : Stmt := inClass (top 41) 0
abbrev N_Alikes_init : List Str := ["self", "book", "limit"]
theorem sc_Alikes_init : FnScope N_Alikes_init ["self", "book", "limit"] (defScope s_Alikes_init) := ⟨rfl, rfl, rfl, by decide +kernel, rfl, by decide +kernel, by decide +kernel⟩
def d_Alikes_init : He.DefD := ⟨("Alikes", some "__init__"), "__init__", "Alikes.__init__", defArgs s_Alikes_init, defBody s_Alikes_init, defScope s_Alikes_init, [], []⟩
abbrev s_Alikes_note : Stmt := inClass (top 41) 1
abbrev N_Alikes_note : List Str := ["self", "triple"]
theorem sc_Alikes_note : FnScope N_Alikes_note ["self", "triple"] (defScope s_Alikes_note) := ⟨rfl, rfl, rfl, by decide +kernel, rfl, by decide +kernel, by decide +kernel⟩
def d_Alikes_note : He.DefD := ⟨("Alikes", some "note"), "note", "Alikes.note", defArgs s_Alikes_note, defBody s_Alikes_note, defScope s_Alikes_note, [], []⟩
abbrev s_Alikes_close : Stmt := inClass (top 41) 2
abbrev N_Alikes_close : List Str := ["self", "first", "waiting", "at", "triple", "goals", "_", "goal"]
theorem sc_Alikes_close : FnScope N_Alikes_close ["self", "first"] (defScope s_Alikes_close) := ⟨rfl, rfl, rfl, by decide +kernel, rfl, by decide +kernel, by decide +kernel⟩
def d_Alikes_close : He.DefD := ⟨("Alikes", some "close"), "close", "Alikes.close", defArgs s_Alikes_close, defBody s_Alikes_close, defScope s_Alikes_close, [], []⟩
abbrev s_Alikes_are_alike : Stmt := inClass (top 41) 3
abbrev N_Alikes_are_alike : List Str := ["self", "triple", "first"]
theorem sc_Alikes_are_alike : FnScope N_Alikes_are_alike ["self", "triple"] (defScope s_Alikes_are_alike) := ⟨rfl, rfl, rfl, by decide +kernel, rfl, by decide +kernel, by decide +kernel⟩
def d_Alikes_are_alike : He.DefD := ⟨("Alikes", some "are_alike"), "are_alike", "Alikes.are_alike", defArgs s_Alikes_are_alike, defBody s_Alikes_are_alike, defScope s_Alikes_are_alike, [], []⟩
abbrev s_Alikes_kept_slots : Stmt := inClass (top 41) 4
abbrev N_Alikes_kept_slots : List Str := ["self", "place", "slots", "slot"]
theorem sc_Alikes_kept_slots : FnScope N_Alikes_kept_slots ["self", "place"] (defScope s_Alikes_kept_slots) := ⟨rfl, rfl, rfl, by decide +kernel, rfl, by decide +kernel, by decide +kernel⟩
def d_Alikes_kept_slots : He.DefD := ⟨("Alikes", some "kept_slots"), "kept_slots", "Alikes.kept_slots", defArgs s_Alikes_kept_slots, defBody s_Alikes_kept_slots, defScope s_Alikes_kept_slots, [], []⟩
abbrev s_without_slot : Stmt := top 42
abbrev N_without_slot : List Str := ["book", "place", "slot", "other"]
theorem sc_without_slot : FnScope N_without_slot ["book", "place", "slot"] (defScope s_without_slot) := ⟨rfl, rfl, rfl, by decide +kernel, rfl, by decide +kernel, by decide +kernel⟩
def d_without_slot : He.DefD := ⟨("without_slot", none), "without_slot", "without_slot", defArgs s_without_slot, defBody s_without_slot, defScope s_without_slot, [], []⟩
abbrev s_Reduction_init : Stmt := inClass (top 44) 0
abbrev N_Reduction_init : List Str := ["self", "book", "limit", "place"]
theorem sc_Reduction_init : FnScope N_Reduction_init ["self", "book", "limit"] (defScope s_Reduction_init) := ⟨rfl, rfl, rfl, by decide +kernel, rfl, by decide +kernel, by decide +kernel⟩
def d_Reduction_init : He.DefD := ⟨("Reduction", some "__init__"), "__init__", "Reduction.__init__", defArgs s_Reduction_init, defBody s_Reduction_init, defScope s_Reduction_init, [], []⟩
abbrev s_Reduction_stand : Stmt := inClass (top 44) 1
abbrev N_Reduction_stand : List Str := ["self", "place", "head", "pairs", "slot"]
theorem sc_Reduction_stand : FnScope N_Reduction_stand ["self", "place"] (defScope s_Reduction_stand) := ⟨rfl, rfl, rfl, by decide +kernel, rfl, by decide +kernel, by decide +kernel⟩
def d_Reduction_stand : He.DefD := ⟨("Reduction", some "stand"), "stand", "Reduction.stand", defArgs s_Reduction_stand, defBody s_Reduction_stand, defScope s_Reduction_stand, [], []⟩
abbrev s_Reduction_match : Stmt := inClass (top 44) 2
abbrev N_Reduction_match : List Str := ["self", "head", "place", "pairs"]
theorem sc_Reduction_match : FnScope N_Reduction_match ["self", "head", "place"] (defScope s_Reduction_match) := ⟨rfl, rfl, rfl, by decide +kernel, rfl, by decide +kernel, by decide +kernel⟩
def d_Reduction_match : He.DefD := ⟨("Reduction", some "match"), "match", "Reduction.match", defArgs s_Reduction_match, defBody s_Reduction_match, defScope s_Reduction_match, [], []⟩
abbrev s_Reduction_rule : Stmt := inClass (top 44) 3
abbrev N_Reduction_rule : List Str := ["self", "head", "word", "case", "kept", "old", "goal", "moves", "stand", "pairs", "sources", "_", "slot", "source"]
theorem sc_Reduction_rule : FnScope N_Reduction_rule ["self", "head", "word", "case"] (defScope s_Reduction_rule) := ⟨rfl, rfl, rfl, by decide +kernel, rfl, by decide +kernel, by decide +kernel⟩
def d_Reduction_rule : He.DefD := ⟨("Reduction", some "rule"), "rule", "Reduction.rule", defArgs s_Reduction_rule, defBody s_Reduction_rule, defScope s_Reduction_rule, [], []⟩
abbrev s_Reduction_name : Stmt := inClass (top 44) 4
abbrev N_Reduction_name : List Str := ["self", "head"]
theorem sc_Reduction_name : FnScope N_Reduction_name ["self", "head"] (defScope s_Reduction_name) := ⟨rfl, rfl, rfl, by decide +kernel, rfl, by decide +kernel, by decide +kernel⟩
def d_Reduction_name : He.DefD := ⟨("Reduction", some "name"), "name", "Reduction.name", defArgs s_Reduction_name, defBody s_Reduction_name, defScope s_Reduction_name, [], []⟩
abbrev s_Reduction_least : Stmt := inClass (top 44) 5
abbrev N_Reduction_least : List Str := ["self", "places", "head", "rules", "word", "case", "goal", "moves"]
theorem sc_Reduction_least : FnScope N_Reduction_least ["self"] (defScope s_Reduction_least) := ⟨rfl, rfl, rfl, by decide +kernel, rfl, by decide +kernel, by decide +kernel⟩
def d_Reduction_least : He.DefD := ⟨("Reduction", some "least"), "least", "Reduction.least", defArgs s_Reduction_least, defBody s_Reduction_least, defScope s_Reduction_least, [], []⟩
abbrev s_least : Stmt := top 45
abbrev N_least : List Str := ["book", "limit"]
theorem sc_least : FnScope N_least ["book", "limit"] (defScope s_least) := ⟨rfl, rfl, rfl, by decide +kernel, rfl, by decide +kernel, by decide +kernel⟩
def d_least : He.DefD := ⟨("least", none), "least", "least", defArgs s_least, defBody s_least, defScope s_least, [], [("limit", .int 20000)]⟩
abbrev s_remembered : Stmt := top 47
abbrev N_remembered : List Str := ["book", "row", "limit", "place", "held", "alikes", "kept", "slot", "name"]
theorem sc_remembered : FnScope N_remembered ["book", "row", "limit"] (defScope s_remembered) := ⟨rfl, rfl, rfl, by decide +kernel, rfl, by decide +kernel, by decide +kernel⟩
def d_remembered : He.DefD := ⟨("remembered", none), "remembered", "remembered", defArgs s_remembered, defBody s_remembered, defScope s_remembered, [], [("limit", .int 20000)]⟩
abbrev s_law_row : Stmt := top 49
abbrev N_law_row : List Str := ["_law_cell", "_law_many", "_law_row_here", "_law_rest", "_law_mixed", "_law_k"]
theorem sc_law_row : FnScope N_law_row ["_law_cell", "_law_many"] (defScope s_law_row) := ⟨rfl, rfl, rfl, by decide +kernel, rfl, by decide +kernel, by decide +kernel⟩
def d_law_row : He.DefD := ⟨("_law_row", none), "_law_row", "_law_row", defArgs s_law_row, defBody s_law_row, defScope s_law_row, [], []⟩
abbrev s_law_numbers : Stmt := top 50
abbrev N_law_numbers : List Str := ["_law_script", "_law_many", "_law_cells", "_law_each", "_law_numbers_here", "_law_cell", "_law_number"]
theorem sc_law_numbers : FnScope N_law_numbers ["_law_script", "_law_many"] (defScope s_law_numbers) := ⟨rfl, rfl, rfl, by decide +kernel, rfl, by decide +kernel, by decide +kernel⟩
def d_law_numbers : He.DefD := ⟨("_law_numbers", none), "_law_numbers", "_law_numbers", defArgs s_law_numbers, defBody s_law_numbers, defScope s_law_numbers, [], []⟩
abbrev s_law_pick : Stmt := top 51
abbrev N_law_pick : List Str := ["_law_numbers_here", "_law_at", "_law_most"]
theorem sc_law_pick : FnScope N_law_pick ["_law_numbers_here", "_law_at", "_law_most"] (defScope s_law_pick) := ⟨rfl, rfl, rfl, by decide +kernel, rfl, by decide +kernel, by decide +kernel⟩
def d_law_pick : He.DefD := ⟨("_law_pick", none), "_law_pick", "_law_pick", defArgs s_law_pick, defBody s_law_pick, defScope s_law_pick, [], []⟩
abbrev s_law_names : Stmt := top 52
abbrev N_law_names : List Str := ["_law_number", "_law_many", "_law_letters", "_law_size", "_law_rest", "_law_k", "_law_place_here", "_law_names_here", "_law_turn"]
theorem sc_law_names : FnScope N_law_names ["_law_number", "_law_many"] (defScope s_law_names) := ⟨rfl, rfl, rfl, by decide +kernel, rfl, by decide +kernel, by decide +kernel⟩
def d_law_names : He.DefD := ⟨("_law_names", none), "_law_names", "_law_names", defArgs s_law_names, defBody s_law_names, defScope s_law_names, [], []⟩
abbrev s_law_drawn_rule : Stmt := top 53
abbrev N_law_drawn_rule : List Str := ["_law_first", "_law_second", "_law_places", "_law_slots", "_law_case", "_law_options", "_law_goals", "_law_place_here", "_law_goal", "_law_turn"]
theorem sc_law_drawn_rule : FnScope N_law_drawn_rule ["_law_first", "_law_second", "_law_places", "_law_slots", "_law_case"] (defScope s_law_drawn_rule) := ⟨rfl, rfl, rfl, by decide +kernel, rfl, by decide +kernel, by decide +kernel⟩
def d_law_drawn_rule : He.DefD := ⟨("_law_drawn_rule", none), "_law_drawn_rule", "_law_drawn_rule", defArgs s_law_drawn_rule, defBody s_law_drawn_rule, defScope s_law_drawn_rule, [], []⟩
abbrev s_law_parts : Stmt := top 54
abbrev N_law_parts : List Str := ["_law_numbers_here", "_law_at", "_law_words", "_law_names_here", "_law_places", "_law_k", "_law_slots", "_law_rules", "_law_spot", "_law_name", "_law_yes", "_law_word", "_law_case"]
theorem sc_law_parts : FnScope N_law_parts ["_law_numbers_here", "_law_at", "_law_words"] (defScope s_law_parts) := ⟨rfl, rfl, rfl, by decide +kernel, rfl, by decide +kernel, by decide +kernel⟩
def d_law_parts : He.DefD := ⟨("_law_parts", none), "_law_parts", "_law_parts", defArgs s_law_parts, defBody s_law_parts, defScope s_law_parts, [], []⟩
abbrev s_law_place : Stmt := top 55
abbrev N_law_place : List Str := ["_law_parts_here", "_law_name", "_law_place_here"]
theorem sc_law_place : FnScope N_law_place ["_law_parts_here", "_law_name"] (defScope s_law_place) := ⟨rfl, rfl, rfl, by decide +kernel, rfl, by decide +kernel, by decide +kernel⟩
def d_law_place : He.DefD := ⟨("_law_place", none), "_law_place", "_law_place", defArgs s_law_place, defBody s_law_place, defScope s_law_place, [], []⟩
abbrev s_law_after : Stmt := top 56
abbrev N_law_after : List Str := ["_law_parts_here", "_law_place_here", "_law_held", "_law_word", "_law_name", "_law_case", "_law_goal", "_law_moves", "_law_behind", "_law_source"]
theorem sc_law_after : FnScope N_law_after ["_law_parts_here", "_law_place_here", "_law_held", "_law_word", "_law_name"] (defScope s_law_after) := ⟨rfl, rfl, rfl, by decide +kernel, rfl, by decide +kernel, by decide +kernel⟩
def d_law_after : He.DefD := ⟨("_law_after", none), "_law_after", "_law_after", defArgs s_law_after, defBody s_law_after, defScope s_law_after, [], []⟩
abbrev s_law_make : Stmt := top 58
abbrev N_law_make : List Str := ["_law_parts_here", "_law_rules", "_law_key", "_law_places"]
theorem sc_law_make : FnScope N_law_make ["_law_parts_here"] (defScope s_law_make) := ⟨rfl, rfl, rfl, by decide +kernel, rfl, by decide +kernel, by decide +kernel⟩
def d_law_make : He.DefD := ⟨("_law_make", none), "_law_make", "_law_make", defArgs s_law_make, defBody s_law_make, defScope s_law_make, [], []⟩
abbrev s_law_permuted : Stmt := top 59
abbrev N_law_permuted : List Str := ["_law_parts_here", "_law_name", "_law_order", "_law_place_here", "_law_k", "_law_rules", "_law_key", "_law_goal", "_law_moves", "_law_source", "_law_word", "_law_case", "_law_one_here"]
theorem sc_law_permuted : FnScope N_law_permuted ["_law_parts_here", "_law_name", "_law_order"] (defScope s_law_permuted) := ⟨rfl, rfl, rfl, by decide +kernel, rfl, by decide +kernel, by decide +kernel⟩
def d_law_permuted : He.DefD := ⟨("_law_permuted", none), "_law_permuted", "_law_permuted", defArgs s_law_permuted, defBody s_law_permuted, defScope s_law_permuted, [], []⟩
abbrev s_law_split : Stmt := top 60
abbrev N_law_split : List Str := ["_law_parts_here", "_law_name", "_law_fresh", "_law_number", "_law_old", "_law_rules", "_law_k", "_law_key", "_law_goal", "_law_moves"]
theorem sc_law_split : FnScope N_law_split ["_law_parts_here", "_law_name", "_law_fresh", "_law_number"] (defScope s_law_split) := ⟨rfl, rfl, rfl, by decide +kernel, rfl, by decide +kernel, by decide +kernel⟩
def d_law_split : He.DefD := ⟨("_law_split", none), "_law_split", "_law_split", defArgs s_law_split, defBody s_law_split, defScope s_law_split, [], []⟩
abbrev s_law_idle : Stmt := top 61
abbrev N_law_idle : List Str := ["_law_parts_here", "_law_name", "_law_number", "_law_old", "_law_rules", "_law_key", "_law_goal", "_law_moves", "_law_slots", "_law_options", "_law_one_here", "_law_word", "_law_places", "_law_place_here"]
theorem sc_law_idle : FnScope N_law_idle ["_law_parts_here", "_law_name", "_law_number"] (defScope s_law_idle) := ⟨rfl, rfl, rfl, by decide +kernel, rfl, by decide +kernel, by decide +kernel⟩
def d_law_idle : He.DefD := ⟨("_law_idle", none), "_law_idle", "_law_idle", defArgs s_law_idle, defBody s_law_idle, defScope s_law_idle, [], []⟩
abbrev s_law_like : Stmt := top 62
abbrev N_law_like : List Str := ["_law_numbers_here", "_law_at", "_law_parts_here", "_law_k", "_law_spot", "_law_place_here", "_law_deed", "_law_turn", "_law_order", "_law_more"]
theorem sc_law_like : FnScope N_law_like ["_law_numbers_here", "_law_at", "_law_parts_here"] (defScope s_law_like) := ⟨rfl, rfl, rfl, by decide +kernel, rfl, by decide +kernel, by decide +kernel⟩
def d_law_like : He.DefD := ⟨("_law_like", none), "_law_like", "_law_like", defArgs s_law_like, defBody s_law_like, defScope s_law_like, [], []⟩
abbrev s_law_one : Stmt := top 63
abbrev N_law_one : List Str := ["_law_numbers_here", "_law_words", "_law_parts_here", "_law_more", "_law_place_here"]
theorem sc_law_one : FnScope N_law_one ["_law_numbers_here"] (defScope s_law_one) := ⟨rfl, rfl, rfl, by decide +kernel, rfl, by decide +kernel, by decide +kernel⟩
def d_law_one : He.DefD := ⟨("_law_one", none), "_law_one", "_law_one", defArgs s_law_one, defBody s_law_one, defScope s_law_one, [], []⟩
abbrev s_law_read : Stmt := top 64
abbrev N_law_read : List Str := ["_law_parts_here", "_law_row_here", "_law_place_here", "_law_held", "_law_word", "_law_name"]
theorem sc_law_read : FnScope N_law_read ["_law_parts_here", "_law_row_here"] (defScope s_law_read) := ⟨rfl, rfl, rfl, by decide +kernel, rfl, by decide +kernel, by decide +kernel⟩
def d_law_read : He.DefD := ⟨("_law_read", none), "_law_read", "_law_read", defArgs s_law_read, defBody s_law_read, defScope s_law_read, [], []⟩
abbrev s_law_drawn_row : Stmt := top 65
abbrev N_law_drawn_row : List Str := ["_law_numbers_here", "_law_at", "_law_many", "_law_words", "_law_k"]
theorem sc_law_drawn_row : FnScope N_law_drawn_row ["_law_numbers_here", "_law_at", "_law_many", "_law_words"] (defScope s_law_drawn_row) := ⟨rfl, rfl, rfl, by decide +kernel, rfl, by decide +kernel, by decide +kernel⟩
def d_law_drawn_row : He.DefD := ⟨("_law_drawn_row", none), "_law_drawn_row", "_law_drawn_row", defArgs s_law_drawn_row, defBody s_law_drawn_row, defScope s_law_drawn_row, [], []⟩
abbrev s_law_names_of : Stmt := top 66
abbrev N_law_names_of : List Str := ["_law_row_here", "_law_names_here", "_law_word", "_law_name"]
theorem sc_law_names_of : FnScope N_law_names_of ["_law_row_here"] (defScope s_law_names_of) := ⟨rfl, rfl, rfl, by decide +kernel, rfl, by decide +kernel, by decide +kernel⟩
def d_law_names_of : He.DefD := ⟨("_law_names_of", none), "_law_names_of", "_law_names_of", defArgs s_law_names_of, defBody s_law_names_of, defScope s_law_names_of, [], []⟩
abbrev s_law_read_book : Stmt := top 67
abbrev N_law_read_book : List Str := ["_law_book", "_law_rules", "_law_place_here", "_law_word", "_law_case", "_law_goal", "_law_moves"]
theorem sc_law_read_book : FnScope N_law_read_book ["_law_book"] (defScope s_law_read_book) := ⟨rfl, rfl, rfl, by decide +kernel, rfl, by decide +kernel, by decide +kernel⟩
def d_law_read_book : He.DefD := ⟨("_law_read_book", none), "_law_read_book", "_law_read_book", defArgs s_law_read_book, defBody s_law_read_book, defScope s_law_read_book, [], []⟩
abbrev s_law : Stmt := top 68
abbrev N_law : List Str := ["_law_script", "_law_numbers_here", "_law_parts_here", "_law_book", "_law_row_here", "_law_rest", "_law_names_here", "_law_held", "_law_known", "_law_name", "_law_turned", "_law_word", "_law_one_here", "_law_answers", "_law_whole"]
theorem sc_law : FnScope N_law ["_law_script"] (defScope s_law) := ⟨rfl, rfl, rfl, by decide +kernel, rfl, by decide +kernel, by decide +kernel⟩
def d_law : He.DefD := ⟨("law", none), "law", "law", defArgs s_law, defBody s_law, defScope s_law, [], []⟩
def fn : List He.DefD := ([d_is_name, d_are_different, d_require, d_require_names, d_checked_place, d_Book_init, d_Book_asked, d_Book_checked_rule, d_Book_check_word, d_Book_place, d_Book_slots, d_Book_says_yes, d_Book_rule, d_check_row, d_check_names, d_case_of, d_moved, d_after, d_trace, d_run] : List He.DefD) ++ ([d_names_of, d_is_matching, d_kinds, d_check_triple, d_check_words, d_behind, d_steps, d_agree, d_reached_places, d_pairings, d_Alikes_init, d_Alikes_note, d_Alikes_close, d_Alikes_are_alike, d_Alikes_kept_slots, d_without_slot, d_Reduction_init, d_Reduction_stand, d_Reduction_match, d_Reduction_rule] : List He.DefD) ++ ([d_Reduction_name, d_Reduction_least, d_least, d_remembered, d_law_row, d_law_numbers, d_law_pick, d_law_names, d_law_drawn_rule, d_law_parts, d_law_place, d_law_after, d_law_make, d_law_permuted, d_law_split, d_law_idle, d_law_like, d_law_one, d_law_read, d_law_drawn_row] : List He.DefD) ++ ([d_law_names_of, d_law_read_book, d_law] : List He.DefD)
def fa : List He.Fa := ([.glo "InvalidBook", .glo "InvalidRow", .glo "UnknownName", .glo "InvalidQuestion", .glo "TooMany", .glo "is_name", .glo "are_different", .glo "require", .glo "require_names", .glo "checked_place", .glo "Book", .glo "check_row", .glo "check_names", .glo "case_of", .glo "moved", .glo "after", .glo "trace", .glo "run", .glo "names_of", .glo "is_matching"] : List He.Fa) ++ ([.glo "kinds", .glo "check_triple", .glo "check_words", .glo "behind", .glo "steps", .glo "agree", .glo "reached_places", .glo "pairings", .glo "Alikes", .glo "without_slot", .glo "Reduction", .glo "least", .glo "remembered", .glo "_law_row", .glo "_law_numbers", .glo "_law_pick", .glo "_law_names", .glo "_law_drawn_rule", .glo "_law_parts", .glo "_law_place"] : List He.Fa) ++ ([.glo "_law_after", .glo "_law_make", .glo "_law_permuted", .glo "_law_split", .glo "_law_idle", .glo "_law_like", .glo "_law_one", .glo "_law_read", .glo "_law_drawn_row", .glo "_law_names_of", .glo "_law_read_book", .glo "law", .free "len", .free "all", .free "any", .free "tuple", .free "list", .free "dict", .free "set", .free "range"] : List He.Fa) ++ ([.free "int", .free "str", .free "abs", .free "max", .free "sorted", .free "enumerate", .free "zip", .str "NAME_CHARS" "abcdefghijklmnopqrstuvwxyz0123456789", .int "MOST_NAME_CHARS" 12, .int "MOST_WORDS" 3, .int "MOST_PLACES" 60, .int "MOST_SLOTS" 6, .int "READ" 0, .cls "Book", .mkr "Book", .cls "Alikes", .mkr "Alikes", .cls "Reduction", .mkr "Reduction", .noat "Book" "words"] : List He.Fa) ++ ([.noat "Book" "places", .noat "Book" "known", .noat "Book" "start", .noat "Book" "table", .noat "Alikes" "book", .noat "Alikes" "limit", .noat "Alikes" "order", .noat "Alikes" "known", .noat "Alikes" "behind", .noat "Alikes" "ahead", .noat "Alikes" "unlike", .noat "Reduction" "book", .noat "Reduction" "alikes", .noat "Reduction" "reached", .noat "Reduction" "kept", .noat "Reduction" "stands", .noat "Reduction" "heads", .meth "Book" "asked", .meth "Book" "checked_rule", .meth "Book" "check_word"] : List He.Fa) ++ ([.meth "Book" "place", .meth "Book" "slots", .meth "Book" "says_yes", .meth "Book" "rule", .meth "Alikes" "note", .meth "Alikes" "close", .meth "Alikes" "are_alike", .meth "Alikes" "kept_slots", .meth "Reduction" "stand", .meth "Reduction" "match", .meth "Reduction" "rule", .meth "Reduction" "name", .meth "Reduction" "least"] : List He.Fa)
/-! properties -/
def pA (K : PySem.W.Frag) (C : Addr) (f : Str) : Addr := match PySem.W.findIn K (.ref C) f with
  | some (some (.ref a)) => a
  | _ => 0
def pG (K : PySem.W.Frag) (p : Addr) : Addr := match PySem.W.recIn K p "property" with
  | some (.ref g :: _) => g
  | _ => 0
def propB (K : PySem.W.Frag) (C : Addr) (f : Str) : Bool := He.eqO (PySem.W.findIn K (.ref C) f) (some (some (.ref (pA K C f)))) && (decide (PySem.W.specialIn K (.ref (pA K C f)) "__get__" = some (some (.builtin "property.__get__"))) &&
  (decide (PySem.W.takesIn K (.ref (pA K C f)) = some true) && (match PySem.W.recIn K (pA K C f) "property" with
    | some (.ref _ :: _) => true
    | _ => false)))
theorem propB_ok {K : PySem.W.Frag} {C : Addr} {f : Str} (h : propB K C f = true) : PropOf K C f (pA K C f) (pG K (pA K C f)) := by
  unfold propB at h
  obtain ⟨h1, h⟩ := He.ba h
  obtain ⟨h2, h⟩ := He.ba h
  obtain ⟨h3, h4⟩ := He.ba h
  refine ⟨He.eqO_ok h1, of_decide_eq_true h2, of_decide_eq_true h3, ?_⟩
  unfold pG
  cases q : PySem.W.recIn K (pA K C f) "property" with
  | none => rw [q] at h4; cases h4
  | some l =>
    rw [q] at h4
    cases l with
    | nil => cases h4
    | cons v r => cases v <;> first | exact ⟨r, rfl⟩ | cases h4
/-- a def by its address -/
def fnWA (K : PySem.W.Frag) (a : Addr) : He.FnW := match K.lookup a with
  | some ⟨_, _, .func fd, _⟩ => some (fd.name, fd.qualname, fd.params, fd.body, fd.scope, fd.globals, fd.closure, fd.builtins)
  | _ => none
def okA (K : PySem.W.Frag) (a : Addr) (d : He.DefD) : Bool := PySem.W.keepIn K (.ref a) && (match K.lookup a with
  | some ⟨_, _, .func fd, _⟩ => PySem.W.codeIn K fd.code d.qual && (He.dflB K fd.defaults (d.dvs K) && He.kwdB K fd.kwdefaults (d.kws K))
  | _ => false)
theorem funD_A {K : PySem.W.Frag} {a : Addr} {d : He.DefD} (e : fnWA K a = d.val) (c : okA K a d = true) : ∃ fd, FunD K d.name d.qual d.params d.body d.scope (d.dvs K) (d.kws K) a fd := by
  obtain ⟨kp, c2⟩ := He.ba c
  unfold fnWA at e
  cases q : K.lookup a with
  | none => rw [q] at c2; cases c2
  | some o =>
    obtain ⟨oc, od, dt, osl⟩ := o
    rw [q] at c2 e
    cases dt with
    | func fd =>
      obtain ⟨n1, n2, n3, n4, n5, n6, n7, n8, n9, n10, n11, n12, n13, n14, n15⟩ := fd
      have e2 : (some (n1, n2, n3, n4, n5, n6, n7, n15) : He.FnW) = some (d.name, d.qual, d.params, .stmts d.body, d.scope, mainGlobals, [], builtinsNs) := e
      simp only [Option.some.injEq, Prod.mk.injEq] at e2
      obtain ⟨h1, h2, h3, h4, h5, h6, h7, h8⟩ := e2
      subst h1 h2 h3 h4 h5 h6 h7 h8
      have c3 : (PySem.W.codeIn K n13 d.qual && (He.dflB K n8 (d.dvs K) && He.kwdB K n9 (d.kws K))) = true := c2
      obtain ⟨k1, k2⟩ := He.ba c3
      obtain ⟨k3, k4⟩ := He.ba k2
      exact ⟨_, ⟨oc, od, n8, n9, n10, n11, n12, n13, n14, osl, rfl, q, k1, He.dflB_ok k3, He.kwdB_ok k4⟩, kp⟩
    | _ => cases c2
abbrev gPN (K : PySem.W.Frag) : Addr := pG K (pA K (He.ga K "Book") "place_names")
abbrev gRU (K : PySem.W.Frag) : Addr := pG K (pA K (He.ga K "Book") "rules")
def exB (K : PySem.W.Frag) : Bool := propB K (He.ga K "Book") "place_names" && (propB K (He.ga K "Book") "rules" && (okA K (gPN K) d_Book_place_names && okA K (gRU K) d_Book_rules))
abbrev AlY : Type := He.AlD × Bool × He.FnW × He.FnW
def obsY (K : PySem.W.Frag) : AlY := (He.obsD fa fn K, exB K, fnWA K (gPN K), fnWA K (gRU K))
def valY : AlY := (He.valD fn, true, d_Book_place_names.val, d_Book_rules.val)
def obsYG (n : Nat) (g : Addr → Option Obj) : AlY := obsY (He.frG g (He.asD g n))
/-- what the top has left -/
structure Ctx (K : PySem.W.Frag) (mg : Str → Option Value) : Prop where
  at_ : ∃ h : Heap, K.In h ∧ h.Ns mainGlobals mg
  says : obsY K = valY
section
variable {K : PySem.W.Frag} {mg : Str → Option Value}
theorem Ctx.sd (c : Ctx K mg) : He.SaysD fa fn K := congrArg (fun z : AlY => z.1) c.says
theorem Ctx.ex (c : Ctx K mg) : exB K = true := congrArg (fun z : AlY => z.2.1) c.says
theorem Ctx.g_InvalidBook (c : Ctx K mg) : mg "InvalidBook" = some (.ref (He.ga K "InvalidBook")) := let ⟨_, X, G⟩ := c.at_; He.glo_ok X G (c.sd.fact 0 rfl)
theorem Ctx.g_InvalidRow (c : Ctx K mg) : mg "InvalidRow" = some (.ref (He.ga K "InvalidRow")) := let ⟨_, X, G⟩ := c.at_; He.glo_ok X G (c.sd.fact 1 rfl)
theorem Ctx.g_UnknownName (c : Ctx K mg) : mg "UnknownName" = some (.ref (He.ga K "UnknownName")) := let ⟨_, X, G⟩ := c.at_; He.glo_ok X G (c.sd.fact 2 rfl)
theorem Ctx.g_InvalidQuestion (c : Ctx K mg) : mg "InvalidQuestion" = some (.ref (He.ga K "InvalidQuestion")) := let ⟨_, X, G⟩ := c.at_; He.glo_ok X G (c.sd.fact 3 rfl)
theorem Ctx.g_TooMany (c : Ctx K mg) : mg "TooMany" = some (.ref (He.ga K "TooMany")) := let ⟨_, X, G⟩ := c.at_; He.glo_ok X G (c.sd.fact 4 rfl)
theorem Ctx.g_is_name (c : Ctx K mg) : mg "is_name" = some (.ref (He.ga K "is_name")) := let ⟨_, X, G⟩ := c.at_; He.glo_ok X G (c.sd.fact 5 rfl)
theorem Ctx.g_are_different (c : Ctx K mg) : mg "are_different" = some (.ref (He.ga K "are_different")) := let ⟨_, X, G⟩ := c.at_; He.glo_ok X G (c.sd.fact 6 rfl)
theorem Ctx.g_require (c : Ctx K mg) : mg "require" = some (.ref (He.ga K "require")) := let ⟨_, X, G⟩ := c.at_; He.glo_ok X G (c.sd.fact 7 rfl)
theorem Ctx.g_require_names (c : Ctx K mg) : mg "require_names" = some (.ref (He.ga K "require_names")) := let ⟨_, X, G⟩ := c.at_; He.glo_ok X G (c.sd.fact 8 rfl)
theorem Ctx.g_checked_place (c : Ctx K mg) : mg "checked_place" = some (.ref (He.ga K "checked_place")) := let ⟨_, X, G⟩ := c.at_; He.glo_ok X G (c.sd.fact 9 rfl)
theorem Ctx.g_Book (c : Ctx K mg) : mg "Book" = some (.ref (He.ga K "Book")) := let ⟨_, X, G⟩ := c.at_; He.glo_ok X G (c.sd.fact 10 rfl)
theorem Ctx.g_check_row (c : Ctx K mg) : mg "check_row" = some (.ref (He.ga K "check_row")) := let ⟨_, X, G⟩ := c.at_; He.glo_ok X G (c.sd.fact 11 rfl)
theorem Ctx.g_check_names (c : Ctx K mg) : mg "check_names" = some (.ref (He.ga K "check_names")) := let ⟨_, X, G⟩ := c.at_; He.glo_ok X G (c.sd.fact 12 rfl)
theorem Ctx.g_case_of (c : Ctx K mg) : mg "case_of" = some (.ref (He.ga K "case_of")) := let ⟨_, X, G⟩ := c.at_; He.glo_ok X G (c.sd.fact 13 rfl)
theorem Ctx.g_moved (c : Ctx K mg) : mg "moved" = some (.ref (He.ga K "moved")) := let ⟨_, X, G⟩ := c.at_; He.glo_ok X G (c.sd.fact 14 rfl)
theorem Ctx.g_after (c : Ctx K mg) : mg "after" = some (.ref (He.ga K "after")) := let ⟨_, X, G⟩ := c.at_; He.glo_ok X G (c.sd.fact 15 rfl)
theorem Ctx.g_trace (c : Ctx K mg) : mg "trace" = some (.ref (He.ga K "trace")) := let ⟨_, X, G⟩ := c.at_; He.glo_ok X G (c.sd.fact 16 rfl)
theorem Ctx.g_run (c : Ctx K mg) : mg "run" = some (.ref (He.ga K "run")) := let ⟨_, X, G⟩ := c.at_; He.glo_ok X G (c.sd.fact 17 rfl)
theorem Ctx.g_names_of (c : Ctx K mg) : mg "names_of" = some (.ref (He.ga K "names_of")) := let ⟨_, X, G⟩ := c.at_; He.glo_ok X G (c.sd.fact 18 rfl)
theorem Ctx.g_is_matching (c : Ctx K mg) : mg "is_matching" = some (.ref (He.ga K "is_matching")) := let ⟨_, X, G⟩ := c.at_; He.glo_ok X G (c.sd.fact 19 rfl)
theorem Ctx.g_kinds (c : Ctx K mg) : mg "kinds" = some (.ref (He.ga K "kinds")) := let ⟨_, X, G⟩ := c.at_; He.glo_ok X G (c.sd.fact 20 rfl)
theorem Ctx.g_check_triple (c : Ctx K mg) : mg "check_triple" = some (.ref (He.ga K "check_triple")) := let ⟨_, X, G⟩ := c.at_; He.glo_ok X G (c.sd.fact 21 rfl)
theorem Ctx.g_check_words (c : Ctx K mg) : mg "check_words" = some (.ref (He.ga K "check_words")) := let ⟨_, X, G⟩ := c.at_; He.glo_ok X G (c.sd.fact 22 rfl)
theorem Ctx.g_behind (c : Ctx K mg) : mg "behind" = some (.ref (He.ga K "behind")) := let ⟨_, X, G⟩ := c.at_; He.glo_ok X G (c.sd.fact 23 rfl)
theorem Ctx.g_steps (c : Ctx K mg) : mg "steps" = some (.ref (He.ga K "steps")) := let ⟨_, X, G⟩ := c.at_; He.glo_ok X G (c.sd.fact 24 rfl)
theorem Ctx.g_agree (c : Ctx K mg) : mg "agree" = some (.ref (He.ga K "agree")) := let ⟨_, X, G⟩ := c.at_; He.glo_ok X G (c.sd.fact 25 rfl)
theorem Ctx.g_reached_places (c : Ctx K mg) : mg "reached_places" = some (.ref (He.ga K "reached_places")) := let ⟨_, X, G⟩ := c.at_; He.glo_ok X G (c.sd.fact 26 rfl)
theorem Ctx.g_pairings (c : Ctx K mg) : mg "pairings" = some (.ref (He.ga K "pairings")) := let ⟨_, X, G⟩ := c.at_; He.glo_ok X G (c.sd.fact 27 rfl)
theorem Ctx.g_Alikes (c : Ctx K mg) : mg "Alikes" = some (.ref (He.ga K "Alikes")) := let ⟨_, X, G⟩ := c.at_; He.glo_ok X G (c.sd.fact 28 rfl)
theorem Ctx.g_without_slot (c : Ctx K mg) : mg "without_slot" = some (.ref (He.ga K "without_slot")) := let ⟨_, X, G⟩ := c.at_; He.glo_ok X G (c.sd.fact 29 rfl)
theorem Ctx.g_Reduction (c : Ctx K mg) : mg "Reduction" = some (.ref (He.ga K "Reduction")) := let ⟨_, X, G⟩ := c.at_; He.glo_ok X G (c.sd.fact 30 rfl)
theorem Ctx.g_least (c : Ctx K mg) : mg "least" = some (.ref (He.ga K "least")) := let ⟨_, X, G⟩ := c.at_; He.glo_ok X G (c.sd.fact 31 rfl)
theorem Ctx.g_remembered (c : Ctx K mg) : mg "remembered" = some (.ref (He.ga K "remembered")) := let ⟨_, X, G⟩ := c.at_; He.glo_ok X G (c.sd.fact 32 rfl)
theorem Ctx.g_law_row (c : Ctx K mg) : mg "_law_row" = some (.ref (He.ga K "_law_row")) := let ⟨_, X, G⟩ := c.at_; He.glo_ok X G (c.sd.fact 33 rfl)
theorem Ctx.g_law_numbers (c : Ctx K mg) : mg "_law_numbers" = some (.ref (He.ga K "_law_numbers")) := let ⟨_, X, G⟩ := c.at_; He.glo_ok X G (c.sd.fact 34 rfl)
theorem Ctx.g_law_pick (c : Ctx K mg) : mg "_law_pick" = some (.ref (He.ga K "_law_pick")) := let ⟨_, X, G⟩ := c.at_; He.glo_ok X G (c.sd.fact 35 rfl)
theorem Ctx.g_law_names (c : Ctx K mg) : mg "_law_names" = some (.ref (He.ga K "_law_names")) := let ⟨_, X, G⟩ := c.at_; He.glo_ok X G (c.sd.fact 36 rfl)
theorem Ctx.g_law_drawn_rule (c : Ctx K mg) : mg "_law_drawn_rule" = some (.ref (He.ga K "_law_drawn_rule")) := let ⟨_, X, G⟩ := c.at_; He.glo_ok X G (c.sd.fact 37 rfl)
theorem Ctx.g_law_parts (c : Ctx K mg) : mg "_law_parts" = some (.ref (He.ga K "_law_parts")) := let ⟨_, X, G⟩ := c.at_; He.glo_ok X G (c.sd.fact 38 rfl)
theorem Ctx.g_law_place (c : Ctx K mg) : mg "_law_place" = some (.ref (He.ga K "_law_place")) := let ⟨_, X, G⟩ := c.at_; He.glo_ok X G (c.sd.fact 39 rfl)
theorem Ctx.g_law_after (c : Ctx K mg) : mg "_law_after" = some (.ref (He.ga K "_law_after")) := let ⟨_, X, G⟩ := c.at_; He.glo_ok X G (c.sd.fact 40 rfl)
theorem Ctx.g_law_make (c : Ctx K mg) : mg "_law_make" = some (.ref (He.ga K "_law_make")) := let ⟨_, X, G⟩ := c.at_; He.glo_ok X G (c.sd.fact 41 rfl)
theorem Ctx.g_law_permuted (c : Ctx K mg) : mg "_law_permuted" = some (.ref (He.ga K "_law_permuted")) := let ⟨_, X, G⟩ := c.at_; He.glo_ok X G (c.sd.fact 42 rfl)
theorem Ctx.g_law_split (c : Ctx K mg) : mg "_law_split" = some (.ref (He.ga K "_law_split")) := let ⟨_, X, G⟩ := c.at_; He.glo_ok X G (c.sd.fact 43 rfl)
theorem Ctx.g_law_idle (c : Ctx K mg) : mg "_law_idle" = some (.ref (He.ga K "_law_idle")) := let ⟨_, X, G⟩ := c.at_; He.glo_ok X G (c.sd.fact 44 rfl)
theorem Ctx.g_law_like (c : Ctx K mg) : mg "_law_like" = some (.ref (He.ga K "_law_like")) := let ⟨_, X, G⟩ := c.at_; He.glo_ok X G (c.sd.fact 45 rfl)
theorem Ctx.g_law_one (c : Ctx K mg) : mg "_law_one" = some (.ref (He.ga K "_law_one")) := let ⟨_, X, G⟩ := c.at_; He.glo_ok X G (c.sd.fact 46 rfl)
theorem Ctx.g_law_read (c : Ctx K mg) : mg "_law_read" = some (.ref (He.ga K "_law_read")) := let ⟨_, X, G⟩ := c.at_; He.glo_ok X G (c.sd.fact 47 rfl)
theorem Ctx.g_law_drawn_row (c : Ctx K mg) : mg "_law_drawn_row" = some (.ref (He.ga K "_law_drawn_row")) := let ⟨_, X, G⟩ := c.at_; He.glo_ok X G (c.sd.fact 48 rfl)
theorem Ctx.g_law_names_of (c : Ctx K mg) : mg "_law_names_of" = some (.ref (He.ga K "_law_names_of")) := let ⟨_, X, G⟩ := c.at_; He.glo_ok X G (c.sd.fact 49 rfl)
theorem Ctx.g_law_read_book (c : Ctx K mg) : mg "_law_read_book" = some (.ref (He.ga K "_law_read_book")) := let ⟨_, X, G⟩ := c.at_; He.glo_ok X G (c.sd.fact 50 rfl)
theorem Ctx.g_law (c : Ctx K mg) : mg "law" = some (.ref (He.ga K "law")) := let ⟨_, X, G⟩ := c.at_; He.glo_ok X G (c.sd.fact 51 rfl)
theorem Ctx.z_len (c : Ctx K mg) : mg "len" = none := let ⟨_, X, G⟩ := c.at_; He.free_ok X G (c.sd.fact 52 rfl)
theorem Ctx.z_all (c : Ctx K mg) : mg "all" = none := let ⟨_, X, G⟩ := c.at_; He.free_ok X G (c.sd.fact 53 rfl)
theorem Ctx.z_any (c : Ctx K mg) : mg "any" = none := let ⟨_, X, G⟩ := c.at_; He.free_ok X G (c.sd.fact 54 rfl)
theorem Ctx.z_tuple (c : Ctx K mg) : mg "tuple" = none := let ⟨_, X, G⟩ := c.at_; He.free_ok X G (c.sd.fact 55 rfl)
theorem Ctx.z_list (c : Ctx K mg) : mg "list" = none := let ⟨_, X, G⟩ := c.at_; He.free_ok X G (c.sd.fact 56 rfl)
theorem Ctx.z_dict (c : Ctx K mg) : mg "dict" = none := let ⟨_, X, G⟩ := c.at_; He.free_ok X G (c.sd.fact 57 rfl)
theorem Ctx.z_set (c : Ctx K mg) : mg "set" = none := let ⟨_, X, G⟩ := c.at_; He.free_ok X G (c.sd.fact 58 rfl)
theorem Ctx.z_range (c : Ctx K mg) : mg "range" = none := let ⟨_, X, G⟩ := c.at_; He.free_ok X G (c.sd.fact 59 rfl)
theorem Ctx.z_int (c : Ctx K mg) : mg "int" = none := let ⟨_, X, G⟩ := c.at_; He.free_ok X G (c.sd.fact 60 rfl)
theorem Ctx.z_str (c : Ctx K mg) : mg "str" = none := let ⟨_, X, G⟩ := c.at_; He.free_ok X G (c.sd.fact 61 rfl)
theorem Ctx.z_abs (c : Ctx K mg) : mg "abs" = none := let ⟨_, X, G⟩ := c.at_; He.free_ok X G (c.sd.fact 62 rfl)
theorem Ctx.z_max (c : Ctx K mg) : mg "max" = none := let ⟨_, X, G⟩ := c.at_; He.free_ok X G (c.sd.fact 63 rfl)
theorem Ctx.z_sorted (c : Ctx K mg) : mg "sorted" = none := let ⟨_, X, G⟩ := c.at_; He.free_ok X G (c.sd.fact 64 rfl)
theorem Ctx.z_enumerate (c : Ctx K mg) : mg "enumerate" = none := let ⟨_, X, G⟩ := c.at_; He.free_ok X G (c.sd.fact 65 rfl)
theorem Ctx.z_zip (c : Ctx K mg) : mg "zip" = none := let ⟨_, X, G⟩ := c.at_; He.free_ok X G (c.sd.fact 66 rfl)
theorem Ctx.k_NAME_CHARS (c : Ctx K mg) : ∃ t, mg "NAME_CHARS" = some (.str "abcdefghijklmnopqrstuvwxyz0123456789" t) := let ⟨_, X, G⟩ := c.at_; He.str_ok X G (c.sd.fact 67 rfl)
theorem Ctx.k_MOST_NAME_CHARS (c : Ctx K mg) : ∃ t, mg "MOST_NAME_CHARS" = some (.int 12 t) := let ⟨_, X, G⟩ := c.at_; He.int_ok X G (c.sd.fact 68 rfl)
theorem Ctx.k_MOST_WORDS (c : Ctx K mg) : ∃ t, mg "MOST_WORDS" = some (.int 3 t) := let ⟨_, X, G⟩ := c.at_; He.int_ok X G (c.sd.fact 69 rfl)
theorem Ctx.k_MOST_PLACES (c : Ctx K mg) : ∃ t, mg "MOST_PLACES" = some (.int 60 t) := let ⟨_, X, G⟩ := c.at_; He.int_ok X G (c.sd.fact 70 rfl)
theorem Ctx.k_MOST_SLOTS (c : Ctx K mg) : ∃ t, mg "MOST_SLOTS" = some (.int 6 t) := let ⟨_, X, G⟩ := c.at_; He.int_ok X G (c.sd.fact 71 rfl)
theorem Ctx.k_READ (c : Ctx K mg) : ∃ t, mg "READ" = some (.int 0 t) := let ⟨_, X, G⟩ := c.at_; He.int_ok X G (c.sd.fact 72 rfl)
theorem Ctx.c_Book (c : Ctx K mg) : Cls K (He.ga K "Book") := He.cls_ok (c.sd.fact 73 rfl)
theorem Ctx.m_Book (c : Ctx K mg) : Mk K (He.ga K "Book") (He.ma K (He.ga K "Book") "__init__") := He.mkr_ok (c.sd.fact 74 rfl)
theorem Ctx.c_Alikes (c : Ctx K mg) : Cls K (He.ga K "Alikes") := He.cls_ok (c.sd.fact 75 rfl)
theorem Ctx.m_Alikes (c : Ctx K mg) : Mk K (He.ga K "Alikes") (He.ma K (He.ga K "Alikes") "__init__") := He.mkr_ok (c.sd.fact 76 rfl)
theorem Ctx.c_Reduction (c : Ctx K mg) : Cls K (He.ga K "Reduction") := He.cls_ok (c.sd.fact 77 rfl)
theorem Ctx.m_Reduction (c : Ctx K mg) : Mk K (He.ga K "Reduction") (He.ma K (He.ga K "Reduction") "__init__") := He.mkr_ok (c.sd.fact 78 rfl)
theorem Ctx.n_Book_words (c : Ctx K mg) : NoAttr K (He.ga K "Book") "words" := He.noat_ok (c.sd.fact 79 rfl)
theorem Ctx.n_Book_places (c : Ctx K mg) : NoAttr K (He.ga K "Book") "places" := He.noat_ok (c.sd.fact 80 rfl)
theorem Ctx.n_Book_known (c : Ctx K mg) : NoAttr K (He.ga K "Book") "known" := He.noat_ok (c.sd.fact 81 rfl)
theorem Ctx.n_Book_start (c : Ctx K mg) : NoAttr K (He.ga K "Book") "start" := He.noat_ok (c.sd.fact 82 rfl)
theorem Ctx.n_Book_table (c : Ctx K mg) : NoAttr K (He.ga K "Book") "table" := He.noat_ok (c.sd.fact 83 rfl)
theorem Ctx.n_Alikes_book (c : Ctx K mg) : NoAttr K (He.ga K "Alikes") "book" := He.noat_ok (c.sd.fact 84 rfl)
theorem Ctx.n_Alikes_limit (c : Ctx K mg) : NoAttr K (He.ga K "Alikes") "limit" := He.noat_ok (c.sd.fact 85 rfl)
theorem Ctx.n_Alikes_order (c : Ctx K mg) : NoAttr K (He.ga K "Alikes") "order" := He.noat_ok (c.sd.fact 86 rfl)
theorem Ctx.n_Alikes_known (c : Ctx K mg) : NoAttr K (He.ga K "Alikes") "known" := He.noat_ok (c.sd.fact 87 rfl)
theorem Ctx.n_Alikes_behind (c : Ctx K mg) : NoAttr K (He.ga K "Alikes") "behind" := He.noat_ok (c.sd.fact 88 rfl)
theorem Ctx.n_Alikes_ahead (c : Ctx K mg) : NoAttr K (He.ga K "Alikes") "ahead" := He.noat_ok (c.sd.fact 89 rfl)
theorem Ctx.n_Alikes_unlike (c : Ctx K mg) : NoAttr K (He.ga K "Alikes") "unlike" := He.noat_ok (c.sd.fact 90 rfl)
theorem Ctx.n_Reduction_book (c : Ctx K mg) : NoAttr K (He.ga K "Reduction") "book" := He.noat_ok (c.sd.fact 91 rfl)
theorem Ctx.n_Reduction_alikes (c : Ctx K mg) : NoAttr K (He.ga K "Reduction") "alikes" := He.noat_ok (c.sd.fact 92 rfl)
theorem Ctx.n_Reduction_reached (c : Ctx K mg) : NoAttr K (He.ga K "Reduction") "reached" := He.noat_ok (c.sd.fact 93 rfl)
theorem Ctx.n_Reduction_kept (c : Ctx K mg) : NoAttr K (He.ga K "Reduction") "kept" := He.noat_ok (c.sd.fact 94 rfl)
theorem Ctx.n_Reduction_stands (c : Ctx K mg) : NoAttr K (He.ga K "Reduction") "stands" := He.noat_ok (c.sd.fact 95 rfl)
theorem Ctx.n_Reduction_heads (c : Ctx K mg) : NoAttr K (He.ga K "Reduction") "heads" := He.noat_ok (c.sd.fact 96 rfl)
theorem Ctx.t_Book_asked (c : Ctx K mg) : Meth K (He.ga K "Book") "asked" (He.ma K (He.ga K "Book") "asked") := He.meth_ok (c.sd.fact 97 rfl)
theorem Ctx.t_Book_checked_rule (c : Ctx K mg) : Meth K (He.ga K "Book") "checked_rule" (He.ma K (He.ga K "Book") "checked_rule") := He.meth_ok (c.sd.fact 98 rfl)
theorem Ctx.t_Book_check_word (c : Ctx K mg) : Meth K (He.ga K "Book") "check_word" (He.ma K (He.ga K "Book") "check_word") := He.meth_ok (c.sd.fact 99 rfl)
theorem Ctx.t_Book_place (c : Ctx K mg) : Meth K (He.ga K "Book") "place" (He.ma K (He.ga K "Book") "place") := He.meth_ok (c.sd.fact 100 rfl)
theorem Ctx.t_Book_slots (c : Ctx K mg) : Meth K (He.ga K "Book") "slots" (He.ma K (He.ga K "Book") "slots") := He.meth_ok (c.sd.fact 101 rfl)
theorem Ctx.t_Book_says_yes (c : Ctx K mg) : Meth K (He.ga K "Book") "says_yes" (He.ma K (He.ga K "Book") "says_yes") := He.meth_ok (c.sd.fact 102 rfl)
theorem Ctx.t_Book_rule (c : Ctx K mg) : Meth K (He.ga K "Book") "rule" (He.ma K (He.ga K "Book") "rule") := He.meth_ok (c.sd.fact 103 rfl)
theorem Ctx.t_Alikes_note (c : Ctx K mg) : Meth K (He.ga K "Alikes") "note" (He.ma K (He.ga K "Alikes") "note") := He.meth_ok (c.sd.fact 104 rfl)
theorem Ctx.t_Alikes_close (c : Ctx K mg) : Meth K (He.ga K "Alikes") "close" (He.ma K (He.ga K "Alikes") "close") := He.meth_ok (c.sd.fact 105 rfl)
theorem Ctx.t_Alikes_are_alike (c : Ctx K mg) : Meth K (He.ga K "Alikes") "are_alike" (He.ma K (He.ga K "Alikes") "are_alike") := He.meth_ok (c.sd.fact 106 rfl)
theorem Ctx.t_Alikes_kept_slots (c : Ctx K mg) : Meth K (He.ga K "Alikes") "kept_slots" (He.ma K (He.ga K "Alikes") "kept_slots") := He.meth_ok (c.sd.fact 107 rfl)
theorem Ctx.t_Reduction_stand (c : Ctx K mg) : Meth K (He.ga K "Reduction") "stand" (He.ma K (He.ga K "Reduction") "stand") := He.meth_ok (c.sd.fact 108 rfl)
theorem Ctx.t_Reduction_match (c : Ctx K mg) : Meth K (He.ga K "Reduction") "match" (He.ma K (He.ga K "Reduction") "match") := He.meth_ok (c.sd.fact 109 rfl)
theorem Ctx.t_Reduction_rule (c : Ctx K mg) : Meth K (He.ga K "Reduction") "rule" (He.ma K (He.ga K "Reduction") "rule") := He.meth_ok (c.sd.fact 110 rfl)
theorem Ctx.t_Reduction_name (c : Ctx K mg) : Meth K (He.ga K "Reduction") "name" (He.ma K (He.ga K "Reduction") "name") := He.meth_ok (c.sd.fact 111 rfl)
theorem Ctx.t_Reduction_least (c : Ctx K mg) : Meth K (He.ga K "Reduction") "least" (He.ma K (He.ga K "Reduction") "least") := He.meth_ok (c.sd.fact 112 rfl)
theorem Ctx.f_is_name (c : Ctx K mg) : ∃ fd, FunD K "is_name" "is_name" (defArgs s_is_name) (defBody s_is_name) (defScope s_is_name) [] [] (He.ga K "is_name") fd := c.sd.def_ 0 (d := d_is_name) rfl
theorem Ctx.f_are_different (c : Ctx K mg) : ∃ fd, FunD K "are_different" "are_different" (defArgs s_are_different) (defBody s_are_different) (defScope s_are_different) [] [] (He.ga K "are_different") fd := c.sd.def_ 1 (d := d_are_different) rfl
theorem Ctx.f_require (c : Ctx K mg) : ∃ fd, FunD K "require" "require" (defArgs s_require) (defBody s_require) (defScope s_require) [] [] (He.ga K "require") fd := c.sd.def_ 2 (d := d_require) rfl
theorem Ctx.f_require_names (c : Ctx K mg) : ∃ fd, FunD K "require_names" "require_names" (defArgs s_require_names) (defBody s_require_names) (defScope s_require_names) [] [] (He.ga K "require_names") fd := c.sd.def_ 3 (d := d_require_names) rfl
theorem Ctx.f_checked_place (c : Ctx K mg) : ∃ fd, FunD K "checked_place" "checked_place" (defArgs s_checked_place) (defBody s_checked_place) (defScope s_checked_place) [] [] (He.ga K "checked_place") fd := c.sd.def_ 4 (d := d_checked_place) rfl
theorem Ctx.f_Book_init (c : Ctx K mg) : ∃ fd, FunD K "__init__" "Book.__init__" (defArgs s_Book_init) (defBody s_Book_init) (defScope s_Book_init) [] [] (He.ma K (He.ga K "Book") "__init__") fd := c.sd.def_ 5 (d := d_Book_init) rfl
theorem Ctx.f_Book_asked (c : Ctx K mg) : ∃ fd, FunD K "asked" "Book.asked" (defArgs s_Book_asked) (defBody s_Book_asked) (defScope s_Book_asked) [] [] (He.ma K (He.ga K "Book") "asked") fd := c.sd.def_ 6 (d := d_Book_asked) rfl
theorem Ctx.f_Book_checked_rule (c : Ctx K mg) : ∃ fd, FunD K "checked_rule" "Book.checked_rule" (defArgs s_Book_checked_rule) (defBody s_Book_checked_rule) (defScope s_Book_checked_rule) [] [] (He.ma K (He.ga K "Book") "checked_rule") fd := c.sd.def_ 7 (d := d_Book_checked_rule) rfl
theorem Ctx.f_Book_check_word (c : Ctx K mg) : ∃ fd, FunD K "check_word" "Book.check_word" (defArgs s_Book_check_word) (defBody s_Book_check_word) (defScope s_Book_check_word) [] [] (He.ma K (He.ga K "Book") "check_word") fd := c.sd.def_ 8 (d := d_Book_check_word) rfl
theorem Ctx.f_Book_place (c : Ctx K mg) : ∃ fd, FunD K "place" "Book.place" (defArgs s_Book_place) (defBody s_Book_place) (defScope s_Book_place) [] [] (He.ma K (He.ga K "Book") "place") fd := c.sd.def_ 9 (d := d_Book_place) rfl
theorem Ctx.f_Book_slots (c : Ctx K mg) : ∃ fd, FunD K "slots" "Book.slots" (defArgs s_Book_slots) (defBody s_Book_slots) (defScope s_Book_slots) [] [] (He.ma K (He.ga K "Book") "slots") fd := c.sd.def_ 10 (d := d_Book_slots) rfl
theorem Ctx.f_Book_says_yes (c : Ctx K mg) : ∃ fd, FunD K "says_yes" "Book.says_yes" (defArgs s_Book_says_yes) (defBody s_Book_says_yes) (defScope s_Book_says_yes) [] [] (He.ma K (He.ga K "Book") "says_yes") fd := c.sd.def_ 11 (d := d_Book_says_yes) rfl
theorem Ctx.f_Book_rule (c : Ctx K mg) : ∃ fd, FunD K "rule" "Book.rule" (defArgs s_Book_rule) (defBody s_Book_rule) (defScope s_Book_rule) [] [] (He.ma K (He.ga K "Book") "rule") fd := c.sd.def_ 12 (d := d_Book_rule) rfl
theorem Ctx.f_check_row (c : Ctx K mg) : ∃ fd, FunD K "check_row" "check_row" (defArgs s_check_row) (defBody s_check_row) (defScope s_check_row) [] [] (He.ga K "check_row") fd := c.sd.def_ 13 (d := d_check_row) rfl
theorem Ctx.f_check_names (c : Ctx K mg) : ∃ fd, FunD K "check_names" "check_names" (defArgs s_check_names) (defBody s_check_names) (defScope s_check_names) [] [] (He.ga K "check_names") fd := c.sd.def_ 14 (d := d_check_names) rfl
theorem Ctx.f_case_of (c : Ctx K mg) : ∃ fd, FunD K "case_of" "case_of" (defArgs s_case_of) (defBody s_case_of) (defScope s_case_of) [] [] (He.ga K "case_of") fd := c.sd.def_ 15 (d := d_case_of) rfl
theorem Ctx.f_moved (c : Ctx K mg) : ∃ fd, FunD K "moved" "moved" (defArgs s_moved) (defBody s_moved) (defScope s_moved) [] [] (He.ga K "moved") fd := c.sd.def_ 16 (d := d_moved) rfl
theorem Ctx.f_after (c : Ctx K mg) : ∃ fd, FunD K "after" "after" (defArgs s_after) (defBody s_after) (defScope s_after) [] [] (He.ga K "after") fd := c.sd.def_ 17 (d := d_after) rfl
theorem Ctx.f_trace (c : Ctx K mg) : ∃ fd, FunD K "trace" "trace" (defArgs s_trace) (defBody s_trace) (defScope s_trace) [] [] (He.ga K "trace") fd := c.sd.def_ 18 (d := d_trace) rfl
theorem Ctx.f_run (c : Ctx K mg) : ∃ fd, FunD K "run" "run" (defArgs s_run) (defBody s_run) (defScope s_run) [] [] (He.ga K "run") fd := c.sd.def_ 19 (d := d_run) rfl
theorem Ctx.f_names_of (c : Ctx K mg) : ∃ fd, FunD K "names_of" "names_of" (defArgs s_names_of) (defBody s_names_of) (defScope s_names_of) [] [] (He.ga K "names_of") fd := c.sd.def_ 20 (d := d_names_of) rfl
theorem Ctx.f_is_matching (c : Ctx K mg) : ∃ fd, FunD K "is_matching" "is_matching" (defArgs s_is_matching) (defBody s_is_matching) (defScope s_is_matching) [] [] (He.ga K "is_matching") fd := c.sd.def_ 21 (d := d_is_matching) rfl
theorem Ctx.f_kinds (c : Ctx K mg) : ∃ fd, FunD K "kinds" "kinds" (defArgs s_kinds) (defBody s_kinds) (defScope s_kinds) [] [] (He.ga K "kinds") fd := c.sd.def_ 22 (d := d_kinds) rfl
theorem Ctx.f_check_triple (c : Ctx K mg) : ∃ fd, FunD K "check_triple" "check_triple" (defArgs s_check_triple) (defBody s_check_triple) (defScope s_check_triple) [] [] (He.ga K "check_triple") fd := c.sd.def_ 23 (d := d_check_triple) rfl
theorem Ctx.f_check_words (c : Ctx K mg) : ∃ fd, FunD K "check_words" "check_words" (defArgs s_check_words) (defBody s_check_words) (defScope s_check_words) [] [] (He.ga K "check_words") fd := c.sd.def_ 24 (d := d_check_words) rfl
theorem Ctx.f_behind (c : Ctx K mg) : ∃ fd, FunD K "behind" "behind" (defArgs s_behind) (defBody s_behind) (defScope s_behind) [] [] (He.ga K "behind") fd := c.sd.def_ 25 (d := d_behind) rfl
theorem Ctx.f_steps (c : Ctx K mg) : ∃ fd, FunD K "steps" "steps" (defArgs s_steps) (defBody s_steps) (defScope s_steps) [] [] (He.ga K "steps") fd := c.sd.def_ 26 (d := d_steps) rfl
theorem Ctx.f_agree (c : Ctx K mg) : ∃ fd, FunD K "agree" "agree" (defArgs s_agree) (defBody s_agree) (defScope s_agree) [] [] (He.ga K "agree") fd := c.sd.def_ 27 (d := d_agree) rfl
theorem Ctx.f_reached_places (c : Ctx K mg) : ∃ fd, FunD K "reached_places" "reached_places" (defArgs s_reached_places) (defBody s_reached_places) (defScope s_reached_places) [] [] (He.ga K "reached_places") fd := c.sd.def_ 28 (d := d_reached_places) rfl
theorem Ctx.f_pairings (c : Ctx K mg) : ∃ fd, FunD K "pairings" "pairings" (defArgs s_pairings) (defBody s_pairings) (defScope s_pairings) [] [] (He.ga K "pairings") fd := c.sd.def_ 29 (d := d_pairings) rfl
theorem Ctx.f_Alikes_init (c : Ctx K mg) : ∃ fd, FunD K "__init__" "Alikes.__init__" (defArgs s_Alikes_init) (defBody s_Alikes_init) (defScope s_Alikes_init) [] [] (He.ma K (He.ga K "Alikes") "__init__") fd := c.sd.def_ 30 (d := d_Alikes_init) rfl
theorem Ctx.f_Alikes_note (c : Ctx K mg) : ∃ fd, FunD K "note" "Alikes.note" (defArgs s_Alikes_note) (defBody s_Alikes_note) (defScope s_Alikes_note) [] [] (He.ma K (He.ga K "Alikes") "note") fd := c.sd.def_ 31 (d := d_Alikes_note) rfl
theorem Ctx.f_Alikes_close (c : Ctx K mg) : ∃ fd, FunD K "close" "Alikes.close" (defArgs s_Alikes_close) (defBody s_Alikes_close) (defScope s_Alikes_close) [] [] (He.ma K (He.ga K "Alikes") "close") fd := c.sd.def_ 32 (d := d_Alikes_close) rfl
theorem Ctx.f_Alikes_are_alike (c : Ctx K mg) : ∃ fd, FunD K "are_alike" "Alikes.are_alike" (defArgs s_Alikes_are_alike) (defBody s_Alikes_are_alike) (defScope s_Alikes_are_alike) [] [] (He.ma K (He.ga K "Alikes") "are_alike") fd := c.sd.def_ 33 (d := d_Alikes_are_alike) rfl
theorem Ctx.f_Alikes_kept_slots (c : Ctx K mg) : ∃ fd, FunD K "kept_slots" "Alikes.kept_slots" (defArgs s_Alikes_kept_slots) (defBody s_Alikes_kept_slots) (defScope s_Alikes_kept_slots) [] [] (He.ma K (He.ga K "Alikes") "kept_slots") fd := c.sd.def_ 34 (d := d_Alikes_kept_slots) rfl
theorem Ctx.f_without_slot (c : Ctx K mg) : ∃ fd, FunD K "without_slot" "without_slot" (defArgs s_without_slot) (defBody s_without_slot) (defScope s_without_slot) [] [] (He.ga K "without_slot") fd := c.sd.def_ 35 (d := d_without_slot) rfl
theorem Ctx.f_Reduction_init (c : Ctx K mg) : ∃ fd, FunD K "__init__" "Reduction.__init__" (defArgs s_Reduction_init) (defBody s_Reduction_init) (defScope s_Reduction_init) [] [] (He.ma K (He.ga K "Reduction") "__init__") fd := c.sd.def_ 36 (d := d_Reduction_init) rfl
theorem Ctx.f_Reduction_stand (c : Ctx K mg) : ∃ fd, FunD K "stand" "Reduction.stand" (defArgs s_Reduction_stand) (defBody s_Reduction_stand) (defScope s_Reduction_stand) [] [] (He.ma K (He.ga K "Reduction") "stand") fd := c.sd.def_ 37 (d := d_Reduction_stand) rfl
theorem Ctx.f_Reduction_match (c : Ctx K mg) : ∃ fd, FunD K "match" "Reduction.match" (defArgs s_Reduction_match) (defBody s_Reduction_match) (defScope s_Reduction_match) [] [] (He.ma K (He.ga K "Reduction") "match") fd := c.sd.def_ 38 (d := d_Reduction_match) rfl
theorem Ctx.f_Reduction_rule (c : Ctx K mg) : ∃ fd, FunD K "rule" "Reduction.rule" (defArgs s_Reduction_rule) (defBody s_Reduction_rule) (defScope s_Reduction_rule) [] [] (He.ma K (He.ga K "Reduction") "rule") fd := c.sd.def_ 39 (d := d_Reduction_rule) rfl
theorem Ctx.f_Reduction_name (c : Ctx K mg) : ∃ fd, FunD K "name" "Reduction.name" (defArgs s_Reduction_name) (defBody s_Reduction_name) (defScope s_Reduction_name) [] [] (He.ma K (He.ga K "Reduction") "name") fd := c.sd.def_ 40 (d := d_Reduction_name) rfl
theorem Ctx.f_Reduction_least (c : Ctx K mg) : ∃ fd, FunD K "least" "Reduction.least" (defArgs s_Reduction_least) (defBody s_Reduction_least) (defScope s_Reduction_least) [] [] (He.ma K (He.ga K "Reduction") "least") fd := c.sd.def_ 41 (d := d_Reduction_least) rfl
theorem Ctx.f_least (c : Ctx K mg) : ∃ fd, FunD K "least" "least" (defArgs s_least) (defBody s_least) (defScope s_least) [] [("limit", .int 20000)] (He.ga K "least") fd := c.sd.def_ 42 (d := d_least) rfl
theorem Ctx.f_remembered (c : Ctx K mg) : ∃ fd, FunD K "remembered" "remembered" (defArgs s_remembered) (defBody s_remembered) (defScope s_remembered) [] [("limit", .int 20000)] (He.ga K "remembered") fd := c.sd.def_ 43 (d := d_remembered) rfl
theorem Ctx.f_law_row (c : Ctx K mg) : ∃ fd, FunD K "_law_row" "_law_row" (defArgs s_law_row) (defBody s_law_row) (defScope s_law_row) [] [] (He.ga K "_law_row") fd := c.sd.def_ 44 (d := d_law_row) rfl
theorem Ctx.f_law_numbers (c : Ctx K mg) : ∃ fd, FunD K "_law_numbers" "_law_numbers" (defArgs s_law_numbers) (defBody s_law_numbers) (defScope s_law_numbers) [] [] (He.ga K "_law_numbers") fd := c.sd.def_ 45 (d := d_law_numbers) rfl
theorem Ctx.f_law_pick (c : Ctx K mg) : ∃ fd, FunD K "_law_pick" "_law_pick" (defArgs s_law_pick) (defBody s_law_pick) (defScope s_law_pick) [] [] (He.ga K "_law_pick") fd := c.sd.def_ 46 (d := d_law_pick) rfl
theorem Ctx.f_law_names (c : Ctx K mg) : ∃ fd, FunD K "_law_names" "_law_names" (defArgs s_law_names) (defBody s_law_names) (defScope s_law_names) [] [] (He.ga K "_law_names") fd := c.sd.def_ 47 (d := d_law_names) rfl
theorem Ctx.f_law_drawn_rule (c : Ctx K mg) : ∃ fd, FunD K "_law_drawn_rule" "_law_drawn_rule" (defArgs s_law_drawn_rule) (defBody s_law_drawn_rule) (defScope s_law_drawn_rule) [] [] (He.ga K "_law_drawn_rule") fd := c.sd.def_ 48 (d := d_law_drawn_rule) rfl
theorem Ctx.f_law_parts (c : Ctx K mg) : ∃ fd, FunD K "_law_parts" "_law_parts" (defArgs s_law_parts) (defBody s_law_parts) (defScope s_law_parts) [] [] (He.ga K "_law_parts") fd := c.sd.def_ 49 (d := d_law_parts) rfl
theorem Ctx.f_law_place (c : Ctx K mg) : ∃ fd, FunD K "_law_place" "_law_place" (defArgs s_law_place) (defBody s_law_place) (defScope s_law_place) [] [] (He.ga K "_law_place") fd := c.sd.def_ 50 (d := d_law_place) rfl
theorem Ctx.f_law_after (c : Ctx K mg) : ∃ fd, FunD K "_law_after" "_law_after" (defArgs s_law_after) (defBody s_law_after) (defScope s_law_after) [] [] (He.ga K "_law_after") fd := c.sd.def_ 51 (d := d_law_after) rfl
theorem Ctx.f_law_make (c : Ctx K mg) : ∃ fd, FunD K "_law_make" "_law_make" (defArgs s_law_make) (defBody s_law_make) (defScope s_law_make) [] [] (He.ga K "_law_make") fd := c.sd.def_ 52 (d := d_law_make) rfl
theorem Ctx.f_law_permuted (c : Ctx K mg) : ∃ fd, FunD K "_law_permuted" "_law_permuted" (defArgs s_law_permuted) (defBody s_law_permuted) (defScope s_law_permuted) [] [] (He.ga K "_law_permuted") fd := c.sd.def_ 53 (d := d_law_permuted) rfl
theorem Ctx.f_law_split (c : Ctx K mg) : ∃ fd, FunD K "_law_split" "_law_split" (defArgs s_law_split) (defBody s_law_split) (defScope s_law_split) [] [] (He.ga K "_law_split") fd := c.sd.def_ 54 (d := d_law_split) rfl
theorem Ctx.f_law_idle (c : Ctx K mg) : ∃ fd, FunD K "_law_idle" "_law_idle" (defArgs s_law_idle) (defBody s_law_idle) (defScope s_law_idle) [] [] (He.ga K "_law_idle") fd := c.sd.def_ 55 (d := d_law_idle) rfl
theorem Ctx.f_law_like (c : Ctx K mg) : ∃ fd, FunD K "_law_like" "_law_like" (defArgs s_law_like) (defBody s_law_like) (defScope s_law_like) [] [] (He.ga K "_law_like") fd := c.sd.def_ 56 (d := d_law_like) rfl
theorem Ctx.f_law_one (c : Ctx K mg) : ∃ fd, FunD K "_law_one" "_law_one" (defArgs s_law_one) (defBody s_law_one) (defScope s_law_one) [] [] (He.ga K "_law_one") fd := c.sd.def_ 57 (d := d_law_one) rfl
theorem Ctx.f_law_read (c : Ctx K mg) : ∃ fd, FunD K "_law_read" "_law_read" (defArgs s_law_read) (defBody s_law_read) (defScope s_law_read) [] [] (He.ga K "_law_read") fd := c.sd.def_ 58 (d := d_law_read) rfl
theorem Ctx.f_law_drawn_row (c : Ctx K mg) : ∃ fd, FunD K "_law_drawn_row" "_law_drawn_row" (defArgs s_law_drawn_row) (defBody s_law_drawn_row) (defScope s_law_drawn_row) [] [] (He.ga K "_law_drawn_row") fd := c.sd.def_ 59 (d := d_law_drawn_row) rfl
theorem Ctx.f_law_names_of (c : Ctx K mg) : ∃ fd, FunD K "_law_names_of" "_law_names_of" (defArgs s_law_names_of) (defBody s_law_names_of) (defScope s_law_names_of) [] [] (He.ga K "_law_names_of") fd := c.sd.def_ 60 (d := d_law_names_of) rfl
theorem Ctx.f_law_read_book (c : Ctx K mg) : ∃ fd, FunD K "_law_read_book" "_law_read_book" (defArgs s_law_read_book) (defBody s_law_read_book) (defScope s_law_read_book) [] [] (He.ga K "_law_read_book") fd := c.sd.def_ 61 (d := d_law_read_book) rfl
theorem Ctx.f_law (c : Ctx K mg) : ∃ fd, FunD K "law" "law" (defArgs s_law) (defBody s_law) (defScope s_law) [] [] (He.ga K "law") fd := c.sd.def_ 62 (d := d_law) rfl
theorem Ctx.p_place_names (c : Ctx K mg) : PropOf K (He.ga K "Book") "place_names" (pA K (He.ga K "Book") "place_names") (gPN K) := propB_ok (He.ba c.ex).1
theorem Ctx.p_rules (c : Ctx K mg) : PropOf K (He.ga K "Book") "rules" (pA K (He.ga K "Book") "rules") (gRU K) := propB_ok (He.ba (He.ba c.ex).2).1
theorem Ctx.f_Book_place_names (c : Ctx K mg) : ∃ fd, FunD K "place_names" "Book.place_names" (defArgs s_Book_place_names) (defBody s_Book_place_names) (defScope s_Book_place_names) [] [] (gPN K) fd :=
  funD_A (d := d_Book_place_names) (congrArg (fun z : AlY => z.2.2.1) c.says) (He.ba (He.ba (He.ba c.ex).2).2).1
theorem Ctx.f_Book_rules (c : Ctx K mg) : ∃ fd, FunD K "rules" "Book.rules" (defArgs s_Book_rules) (defBody s_Book_rules) (defScope s_Book_rules) [] [] (gRU K) fd :=
  funD_A (d := d_Book_rules) (congrArg (fun z : AlY => z.2.2.2) c.says) (He.ba (He.ba (He.ba c.ex).2).2).2
end
/-! calls -/
/-- a def that can be called: at most k levels deep, dvs its defaults -/
def Cal (P : Program) (w : World) (K : PySem.W.Frag) (mg : Str → Option Value) (base : Heap) (k : Nat) (f : Addr) (ps : List Str) (dvs : List V) (sp : Sp) : Prop := ∃ fd ds, FnOk P w K mg base CX0 k f fd ps sp ∧ L2.Binds K fd ps ds ∧ Vals dvs ds ∧ PySem.W.keepIn K (.ref f) = true
theorem Cal.mono {P : Program} {w : World} {K : PySem.W.Frag} {mg : Str → Option Value} {base : Heap} {j k : Nat} {f : Addr} {ps : List Str} {dvs : List V} {sp : Sp} (c : Cal P w K mg base j f ps dvs sp) (h : j ≤ k) : Cal P w K mg base k f ps dvs sp := let ⟨fd, ds, F, r⟩ := c; ⟨fd, ds, F.mono h, r⟩
end FH
set_option Elab.async false
set_option linter.all false
set_option maxRecDepth 100000
set_option maxHeartbeats 0
namespace FH
open PySem PySem.Spec PyProof.Rows L2
def loose : List Str := (["_wall", "FewestheldError", "InvalidBook", "InvalidRow", "UnknownName", "InvalidQuestion", "TooMany", "is_name", "are_different", "require", "require_names", "checked_place", "Book", "check_row", "check_names", "case_of", "moved", "after", "trace", "run"] : List Str) ++ (["names_of", "is_matching", "kinds", "check_triple", "check_words", "behind", "steps", "agree", "reached_places", "pairings", "Alikes", "without_slot", "Reduction", "least", "remembered", "_law_row", "_law_numbers", "_law_pick", "_law_names", "_law_drawn_rule"] : List Str) ++ (["_law_parts", "_law_place", "_law_after", "_law_pairs", "_law_make", "_law_permuted", "_law_split", "_law_idle", "_law_like", "_law_one", "_law_read", "_law_drawn_row", "_law_names_of", "_law_read_book", "NAME_CHARS", "MOST_NAME_CHARS", "MOST_WORDS", "MOST_PLACES", "MOST_SLOTS", "READ"] : List Str)
abbrev R : PySem.W.OpenRow := PySem.W.OpenLaw.row PySem.Challenge.rw_fewestheld_k92_whole_memory
def hk : PySem.W.Hook where
  α := AlY
  obs := fun s => obsYG 6 s.heap.get?
  val := fun _ => valY
  says := fun _ h => ∃ K : PySem.W.Frag, K.In h ∧ obsY K = valY
  of := fun _ _ e => ⟨_, He.frG_in, e⟩
  keeps := fun _ _ _ ⟨K, hK, c⟩ k => ⟨K, PySem.W.Frag.In.keeps hK k, c⟩
def ob (s : PySem.W.SharedT) : AlY := obsYG 6 (HandSHeadRun.getT s)
theorem ob_eq (s : PySem.W.SharedT) : ob s = hk.obs s.abs := by
  have e : HandSHeadRun.getT s = s.abs.heap.get? := funext (HandSHeadRun.getT_eq s)
  show obsYG 6 (HandSHeadRun.getT s) = obsYG 6 s.abs.heap.get?
  rw [e]
theorem run (w : World) : HandSHeadRun.RunEq R (PySem.W.view R.prog [68]) hk ob 40000 loose w := by
  intro os
  kernel_rfl
end FH
set_option Elab.async false
set_option linter.all false
set_option maxRecDepth 100000
set_option maxHeartbeats 0
/-! the head's other checks, each once, while the memory is still free -/
namespace FH
open PySem PySem.W PySem.Calls PyProof.Rows
theorem o_w : R.wellSaid = true := by decide +kernel
theorem o_o : (chainsOk (view R.prog [68]) && opensWell R.prog && (frees R.toRowW && R.within.isEmpty)) = true := by decide +kernel
end FH
set_option Elab.async false
set_option linter.all false
set_option maxRecDepth 100000
set_option maxHeartbeats 4000000
/-! The pure layer: data, what represents them, slots, steps. -/
namespace Pd
open PySem PySem.Spec PyProof.Rows L2
open Evl (Ex)

inductive D where
  | non | bl (b : Bool) | int (i : Int) | str (s : Str)
  | lst (ds : List D) | tup (ds : List D) | ftup (ds : List D)
  | dk (ks : List (Key × D)) | dt (ks : List (List Key × D))
  | ins (C : Addr) (fs : List (Str × D))
  | raw (v : V)
  | rng (lo hi : Int)
  | lsq (ds : List D)

mutual
inductive Rp (K : PySem.W.Frag) (H : Hp) : V → D → Prop
  | non : Rp K H .non .non
  | bl (b : Bool) : Rp K H (.bl b) (.bl b)
  | int (i : Int) : Rp K H (.int i) (.int i)
  | str (s : Str) : Rp K H (.str s) (.str s)
  | raw (v : V) : Rp K H v (.raw v)
  | rng {a : Addr} {lo hi : Int} : H a = some (.rng lo hi) → Rp K H (.ref a) (.rng lo hi)
  | lsq {a : Addr} {xs : List V} {ds : List D} : SqL K H a xs → RpL K H xs ds → Rp K H (.ref a) (.lsq ds)
  | lst {a : Addr} {xs : List V} {ds : List D} : H a = some (.lst xs) → RpL K H xs ds → Rp K H (.ref a) (.lst ds)
  | tup {a : Addr} {xs : List V} {ds : List D} : H a = some (.tup xs) → RpL K H xs ds → Rp K H (.ref a) (.tup ds)
  | ftup {a : Addr} {o : Obj} {xs : List V} {ds : List D} : H a = some (.frz o (.tup xs)) → o.cls = .type "tuple" → o.dict = none → RpL K H xs ds → Rp K H (.ref a) (.ftup ds)
  | dk {a : Addr} {kvs : List (Key × V)} {ds : List (Key × D)} : Rd H a (.dK kvs) → kvs.map (·.1) = ds.map (·.1) → RpL K H (kvs.map (·.2)) (ds.map (·.2)) → Rp K H (.ref a) (.dk ds)
  | dt {a : Addr} {o : Obj} {kvs : List (List Key × V)} {ds : List (List Key × D)} : H a = some (.frz o (.dT kvs)) → kvs.map (·.1) = ds.map (·.1) → RpL K H (kvs.map (·.2)) (ds.map (·.2)) → Rp K H (.ref a) (.dt ds)
  | ins {a C dx : Addr} {fs : List (Str × V)} {ds : List (Str × D)} : H a = some (.ins C dx fs) → fs.map (·.1) = ds.map (·.1) → RpL K H (fs.map (·.2)) (ds.map (·.2)) → Rp K H (.ref a) (.ins C ds)
inductive RpL (K : PySem.W.Frag) (H : Hp) : List V → List D → Prop
  | nil : RpL K H [] []
  | cons {v : V} {vs : List V} {d : D} {ds : List D} : Rp K H v d → RpL K H vs ds → RpL K H (v :: vs) (d :: ds)
end

section
variable {K : PySem.W.Frag} {H H' : Hp}
theorem ex_rd (e : Ex H H') {a : Addr} {u : HO} (h : Rd H a u) : Rd H' a u := by
  rcases h with h | ⟨o, h⟩
  · exact .inl (e _ _ h)
  · exact .inr ⟨o, e _ _ h⟩
mutual
theorem Rp.ex (e : Ex H H') : ∀ {v : V} {d : D}, Rp K H v d → Rp K H' v d
  | _, _, .non => .non
  | _, _, .bl b => .bl b
  | _, _, .int i => .int i
  | _, _, .str s => .str s
  | _, _, .raw v => .raw v
  | _, _, .rng h => .rng (e _ _ h)
  | _, _, .lsq h r => .lsq (h.imp (fun z => ex_rd e z) fun z => z) (RpL.ex e r)
  | _, _, .lst h r => .lst (e _ _ h) (RpL.ex e r)
  | _, _, .tup h r => .tup (e _ _ h) (RpL.ex e r)
  | _, _, .ftup h k1 k2 r => .ftup (e _ _ h) k1 k2 (RpL.ex e r)
  | _, _, .dk h k r => .dk (ex_rd e h) k (RpL.ex e r)
  | _, _, .dt h k r => .dt (e _ _ h) k (RpL.ex e r)
  | _, _, .ins h k r => .ins (e _ _ h) k (RpL.ex e r)
theorem RpL.ex (e : Ex H H') : ∀ {vs : List V} {ds : List D}, RpL K H vs ds → RpL K H' vs ds
  | _, _, .nil => .nil
  | _, _, .cons h r => .cons (Rp.ex e h) (RpL.ex e r)
end
theorem RpL.length : ∀ {vs : List V} {ds : List D}, RpL K H vs ds → vs.length = ds.length
  | _, _, .nil => rfl
  | _, _, .cons _ r => congrArg Nat.succ r.length
theorem RpL.get : ∀ {vs : List V} {ds : List D} {i : Nat} {d : D}, RpL K H vs ds → ds[i]? = some d → ∃ v, vs[i]? = some v ∧ Rp K H v d
  | _, _, _, _, .nil, e => by simp at e
  | _, _, 0, _, .cons h _, e => by simp at e; subst e; exact ⟨_, rfl, h⟩
  | _, _, i + 1, d, .cons _ r, e => by
    obtain ⟨v, h1, h2⟩ := RpL.get (i := i) (d := d) r (by simpa using e)
    exact ⟨v, by simpa using h1, h2⟩
theorem RpL.getV : ∀ {vs : List V} {ds : List D} {i : Nat} {v : V}, RpL K H vs ds → vs[i]? = some v → ∃ d, ds[i]? = some d ∧ Rp K H v d
  | _, _, _, _, .nil, e => by simp at e
  | _, _, 0, _, .cons h _, e => by simp at e; subst e; exact ⟨_, rfl, h⟩
  | _, _, i + 1, v, .cons _ r, e => by
    obtain ⟨d, h1, h2⟩ := RpL.getV (i := i) (v := v) r (by simpa using e)
    exact ⟨d, by simpa using h1, h2⟩
theorem RpL.append : ∀ {vs ws : List V} {ds es : List D}, RpL K H vs ds → RpL K H ws es → RpL K H (vs ++ ws) (ds ++ es)
  | _, _, _, _, .nil, s => s
  | _, _, _, _, .cons h r, s => .cons h (r.append s)
theorem RpL.take : ∀ {vs : List V} {ds : List D} (n : Nat), RpL K H vs ds → RpL K H (vs.take n) (ds.take n)
  | _, _, 0, _ => .nil
  | _, _, _ + 1, .nil => .nil
  | _, _, n + 1, .cons h r => .cons h (r.take n)
theorem RpL.drop : ∀ {vs : List V} {ds : List D} (n : Nat), RpL K H vs ds → RpL K H (vs.drop n) (ds.drop n)
  | _, _, 0, r => r
  | _, _, _ + 1, .nil => .nil
  | _, _, n + 1, .cons _ r => r.drop n
theorem RpL.reverse : ∀ {vs : List V} {ds : List D}, RpL K H vs ds → RpL K H vs.reverse ds.reverse
  | _, _, .nil => .nil
  | _, _, .cons h r => by
    rw [List.reverse_cons, List.reverse_cons]
    exact r.reverse.append (.cons h .nil)
theorem RpL.set {v : V} {d : D} (h : Rp K H v d) : ∀ {vs : List V} {ds : List D} (i : Nat), RpL K H vs ds → RpL K H (vs.set i v) (ds.set i d)
  | _, _, _, .nil => .nil
  | _, _, 0, .cons _ r => .cons h r
  | _, _, i + 1, .cons q r => .cons q (RpL.set h i r)
theorem RpL.ints : ∀ (ns : List Int), RpL K H (ns.map V.int) (ns.map D.int)
  | [] => .nil
  | n :: r => .cons (.int n) (RpL.ints r)
theorem RpL.strs : ∀ (ns : List Str), RpL K H (ns.map V.str) (ns.map D.str)
  | [] => .nil
  | n :: r => .cons (.str n) (RpL.strs r)
theorem RpL.bls : ∀ (ns : List Bool), RpL K H (ns.map V.bl) (ns.map D.bl)
  | [] => .nil
  | n :: r => .cons (.bl n) (RpL.bls r)
theorem RpL.ints_inv : ∀ {ns : List Int} {vs : List V}, RpL K H vs (ns.map D.int) → vs = ns.map V.int
  | [], _, .nil => rfl
  | n :: r, _, .cons (.int _) t => by rw [RpL.ints_inv t]; rfl
theorem RpL.strs_inv : ∀ {ns : List Str} {vs : List V}, RpL K H vs (ns.map D.str) → vs = ns.map V.str
  | [], _, .nil => rfl
  | n :: r, _, .cons (.str _) t => by rw [RpL.strs_inv t]; rfl
theorem RpL.bls_inv : ∀ {ns : List Bool} {vs : List V}, RpL K H vs (ns.map D.bl) → vs = ns.map V.bl
  | [], _, .nil => rfl
  | n :: r, _, .cons (.bl _) t => by rw [RpL.bls_inv t]; rfl
theorem Rp.int_inv {v : V} {i : Int} (h : Rp K H v (.int i)) : v = .int i := by cases h; rfl
theorem Rp.bl_inv {v : V} {i : Bool} (h : Rp K H v (.bl i)) : v = .bl i := by cases h; rfl
theorem Rp.str_inv {v : V} {i : Str} (h : Rp K H v (.str i)) : v = .str i := by cases h; rfl
theorem Rp.non_inv {v : V} (h : Rp K H v .non) : v = .non := by cases h; rfl
theorem Rp.raw_inv {v v' : V} (h : Rp K H v (.raw v')) : v = v' := by cases h; rfl
end

/-! ### the world of mutable objects beside the slots -/
/-- something stands there that may change: no tuple -/
def Solid (H : Hp) (a : Addr) : Prop := H a ≠ none ∧ ∀ xs, H a ≠ some (.tup xs)
theorem Solid.of {H : Hp} {a : Addr} {o : HO} (h : H a = some o) (n : ∀ xs, o ≠ .tup xs) : Solid H a := by
  refine ⟨?_, fun xs z => ?_⟩
  · rw [h]; exact fun z => nomatch z
  · rw [h] at z; cases z; exact n xs rfl
structure Wd where
  p : (Addr → Prop) → Hp → Hp → Prop
  live : ∀ {c : Addr → Prop} {H0 H : Hp} {a : Addr}, p c H0 H → c a → Solid H a ∧ H0 a = none
  stable : ∀ {c : Addr → Prop} {H0 H H0' H' : Hp}, p c H0 H → Ex H0 H0' → (∀ a, c a → H' a = H a) → (∀ a, c a → H0' a = none) → (∀ a, H a ≠ none → H' a ≠ none) → p c H0' H'
/-- nothing -/
def Wd.nil : Wd where
  p := fun c _ _ => ∀ a, ¬ c a
  live := fun h hc => absurd hc (h _)
  stable := fun h _ _ _ _ => h
theorem upd_alive {H : Hp} {p : Addr} {o : HO} : ∀ a, H a ≠ none → upd H p o a ≠ none := fun a n => by
  by_cases q : a = p
  · subst q; rw [upd_same]; exact fun z => nomatch z
  · rw [upd_ne q]; exact n

/-! ### a step -/
structure Stp (c : Addr → Prop) (H0 H : Hp) (c' : Addr → Prop) (H0' H' : Hp) : Prop where
  e0 : Ex H0 H0'
  ex : Ex H0' H'
  e : ∀ a o, H a = some o → ¬ c a → H' a = some o
  f : ∀ a, H0 a = none → Solid H a → H0' a = none
  g : ∀ a, c' a → c a ∨ H a = none
  h : ∀ a, H a ≠ none → H' a ≠ none
  hs : ∀ a, Solid H a → Solid H' a
section
variable {c c' c'' : Addr → Prop} {H0 H H0' H' H0'' H'' : Hp}
theorem Stp.refl (e : Ex H0 H) : Stp c H0 H c H0 H := ⟨Ex.refl _, e, fun _ _ h _ => h, fun _ h _ => h, fun _ h => .inl h, fun _ h => h, fun _ h => h⟩
theorem Stp.trans (s : Stp c H0 H c' H0' H') (t : Stp c' H0' H' c'' H0'' H'') : Stp c H0 H c'' H0'' H'' where
  e0 := s.e0.trans t.e0
  ex := t.ex
  e := fun a o h n => t.e a o (s.e a o h n) fun q => by
    rcases s.g a q with z | z
    · exact n z
    · rw [z] at h; cases h
  f := fun a h n => t.f a (s.f a h n) (s.hs a n)
  g := fun a q => by
    rcases t.g a q with z | z
    · exact s.g a z
    · by_cases n : H a = none
      · exact .inr n
      · exact absurd z (s.h a n)
  h := fun a n => t.h a (s.h a n)
  hs := fun a n => t.hs a (s.hs a n)
theorem none_of_ex {H0 H : Hp} {p : Addr} (e : Ex H0 H) (h : H p = none) : H0 p = none := by
  cases q : H0 p with
  | none => rfl
  | some u => rw [e _ _ q] at h; cases h
theorem upd_some {H : Hp} {p a : Addr} {o : HO} (hp : H p = none) (n : H a ≠ none) : upd H p o a = H a := upd_ne fun z => n (z ▸ hp)
theorem upd_solid {H : Hp} {p a : Addr} {o : HO} (hp : H p = none) (n : Solid H a) : Solid (upd H p o) a := by
  unfold Solid
  rw [upd_some hp n.1]; exact n
/-- a new object that is never changed -/
theorem Stp.new {p : Addr} {o : HO} (e : Ex H0 H) (hp : H p = none) : Stp c H0 H c (upd H0 p o) (upd H p o) := by
  have h0 : H0 p = none := none_of_ex e hp
  refine ⟨Ex.new h0, fun a u h => ?_, fun a u h _ => ?_, fun a h n => ?_, fun a h => .inl h, fun a n => ?_, fun a n => upd_solid hp n⟩
  · by_cases q : a = p
    · subst q; rw [upd_same] at h ⊢; exact h
    · rw [upd_ne q] at h ⊢; exact e _ _ h
  · rw [upd_ne (ne_of_none h hp)]; exact h
  · have q : a ≠ p := fun z => n.1 (z ▸ hp)
    rw [upd_ne q]; exact h
  · rw [upd_some hp n]; exact n
/-- a new object, owned -/
theorem Stp.newO {p : Addr} {o : HO} (e : Ex H0 H) (hp : H p = none) : Stp c H0 H c H0 (upd H p o) :=
  ⟨Ex.refl _, fun a u h => by rw [upd_ne (ne_of_none (e _ _ h) hp)]; exact e _ _ h, fun a u h _ => by rw [upd_ne (ne_of_none h hp)]; exact h, fun _ h _ => h, fun _ h => .inl h, fun a n => by
    rw [upd_some hp n]; exact n, fun a n => upd_solid hp n⟩
/-- a tuple that stands there is seen -/
theorem Stp.see {p : Addr} {xs : List V} (e : Ex H0 H) (hp : H p = some (.tup xs)) : Stp c H0 H c (upd H0 p (.tup xs)) H := by
  refine ⟨fun a u h => ?_, fun a u h => ?_, fun _ _ h _ => h, fun a h n => ?_, fun _ h => .inl h, fun _ h => h, fun _ h => h⟩
  · by_cases q : a = p
    · subst q; have := e _ _ h; rw [hp] at this; rw [upd_same]; exact this
    · rw [upd_ne q]; exact h
  · by_cases q : a = p
    · subst q; rw [upd_same] at h; cases h; exact hp
    · rw [upd_ne q] at h; exact e _ _ h
  · have q : a ≠ p := fun z => n.2 xs (z ▸ hp)
    rw [upd_ne q]; exact h
/-- where nothing is mutable, a step keeps all -/
theorem Stp.full (s : Stp c H0 H c' H0' H') (n : ∀ a, ¬ c a) : Ex H H' := fun a o h => s.e a o h (n a)
theorem Wd.step {w : Wd} (h : w.p c H0 H) (s : Stp c H0 H c H0' H') (k : ∀ a, c a → H' a = H a) : w.p c H0' H' := w.stable h s.e0 k (fun a q => s.f a (w.live h q).2 (w.live h q).1) s.h
theorem Wd.new {w : Wd} {p : Addr} {o : HO} (h : w.p c H0 H) (h0 : H0 p = none) (hp : H p = none) : w.p c (upd H0 p o) (upd H p o) := by
  have hc : ∀ a, c a → a ≠ p := fun a q z => (w.live h q).1.1 (z ▸ hp)
  exact w.stable h (Ex.new h0) (fun a q => upd_ne (hc a q)) (fun a q => by rw [upd_ne (hc a q)]; exact (w.live h q).2) upd_alive
theorem Wd.newO {w : Wd} {p : Addr} {o : HO} (h : w.p c H0 H) (hp : H p = none) : w.p c H0 (upd H p o) :=
  w.stable h (Ex.refl _) (fun a q => upd_ne fun z => (w.live h q).1.1 (z ▸ hp)) (fun a q => (w.live h q).2) upd_alive
theorem Wd.see {w : Wd} {p : Addr} {xs : List V} (h : w.p c H0 H) (e : Ex H0 H) (hp : H p = some (.tup xs)) : w.p c (upd H0 p (.tup xs)) H :=
  w.stable h (Stp.see (c := c) e hp).e0 (fun _ _ => rfl) (fun a q => by
    have z : a ≠ p := fun z => (w.live h q).1.2 xs (by rw [z]; exact hp)
    rw [upd_ne z]; exact (w.live h q).2) fun _ n => n
/-- a step of code that knows of nothing mutable -/
theorem Stp.of_pure (s : Stp (fun _ => False) H0 H (fun _ => False) H0' H') : Stp c H0 H c H0' H' := ⟨s.e0, s.ex, fun a o h _ => s.e a o h (fun z => z), s.f, fun _ h => .inl h, s.h, s.hs⟩
theorem Wd.of_pure {w : Wd} (h : w.p c H0 H) (s : Stp (fun _ => False) H0 H (fun _ => False) H0' H') : w.p c H0' H' := by
  refine w.stable h s.e0 (fun a q => ?_) (fun a q => s.f a (w.live h q).2 (w.live h q).1) s.h
  cases g : H a with
  | none => exact absurd g (w.live h q).1.1
  | some o => exact s.e a o g (fun z => z)
end
end Pd
set_option Elab.async false
set_option linter.all false
set_option maxRecDepth 100000
set_option maxHeartbeats 4000000
namespace Pd
open PySem PySem.Spec PyProof.Rows L2
open Evl (Ex)

abbrev St := L2.St
/-! ### slots -/
inductive L where
  | no | im (d : D) | own (ds : List D) | ownT (ks : List (List Key × D))
def L.isOwn : L → Prop
  | .own _ => True
  | .ownT _ => True
  | _ => False
def At (K : PySem.W.Frag) (H0 H : Hp) (x : Option (Option V)) : L → Prop
  | .no => True
  | .im d => ∃ v, x = some (some v) ∧ Rp K H0 v d
  | .own ds => ∃ p vs, x = some (some (.ref p)) ∧ H0 p = none ∧ H p = some (.lst vs) ∧ RpL K H0 vs ds
  | .ownT ks => ∃ p ws, x = some (some (.ref p)) ∧ H0 p = none ∧ H p = some (.dT ws) ∧ ws.map (·.1) = ks.map (·.1) ∧ RpL K H0 (ws.map (·.2)) (ks.map (·.2))
structure Rel (K : PySem.W.Frag) (c : Addr → Prop) (w : Wd) (H0 : Hp) (σ : St) (H : Hp) (ls : List L) : Prop where
  ex : Ex H0 H
  wd : w.p c H0 H
  len : σ.length = ls.length
  at_ : ∀ (i : Nat) (l : L), ls[i]? = some l → At K H0 H σ[i]? l
  sep : ∀ (i j : Nat) (l l' : L) (p : Addr), i ≠ j → ls[i]? = some l → ls[j]? = some l' → l.isOwn → l'.isOwn → σ[i]? = some (some (.ref p)) → σ[j]? = some (some (.ref p)) → False
  out : ∀ (i : Nat) (l : L) (p : Addr), ls[i]? = some l → l.isOwn → σ[i]? = some (some (.ref p)) → ¬ c p
section
variable {K : PySem.W.Frag} {c c' : Addr → Prop} {w w' : Wd} {H0 H H0' H' : Hp} {σ : St} {ls : List L}
theorem Rel.step (r : Rel K c w H0 σ H ls) (s : Stp c H0 H c' H0' H') (hw : w'.p c' H0' H') : Rel K c' w' H0' σ H' ls := by
  refine ⟨s.ex, hw, r.len, fun i l e => ?_, r.sep, fun i l p e o q z => ?_⟩
  · have a := r.at_ i l e
    cases l with
    | no => trivial
    | im d => obtain ⟨v, e1, h⟩ := a; exact ⟨v, e1, h.ex s.e0⟩
    | own ds =>
      obtain ⟨p, vs, e1, h0, h1, h2⟩ := a
      exact ⟨p, vs, e1, s.f p h0 (.of h1 fun _ z => nomatch z), s.e p _ h1 (r.out i _ p e trivial e1), h2.ex s.e0⟩
    | ownT ks =>
      obtain ⟨p, ws, e1, h0, h1, h3, h2⟩ := a
      exact ⟨p, ws, e1, s.f p h0 (.of h1 fun _ z => nomatch z), s.e p _ h1 (r.out i _ p e trivial e1), h3, h2.ex s.e0⟩
  · have hp : H p ≠ none := by
      have a := r.at_ i l e
      cases l with
      | no => exact absurd o (fun z => z)
      | im d => exact absurd o (fun z => z)
      | own ds => obtain ⟨p', vs, e1, h0, h1, h2⟩ := a; rw [q] at e1; cases e1; rw [h1]; exact fun z => nomatch z
      | ownT ks => obtain ⟨p', vs, e1, h0, h1, h2⟩ := a; rw [q] at e1; cases e1; rw [h1]; exact fun z => nomatch z
    rcases s.g p z with z | z
    · exact r.out i l p e o q z
    · exact hp z
/-- the slots alone matter -/
theorem Rel.same (r : Rel K c w H0 σ H ls) (hw : w'.p c H0 H) : Rel K c w' H0 σ H ls := ⟨r.ex, hw, r.len, r.at_, r.sep, r.out⟩
end

/-! ### judgements -/
def EI (K : PySem.W.Frag) (w : Wd) (ls : List L) (R : D → Wd → Prop) : TE := fun σ H Q => ∃ c H0, Rel K c w H0 σ H ls ∧
  ∀ v d w' c' H0' H', Stp c H0 H c' H0' H' → w'.p c' H0' H' → Rp K H0' v d → R d w' → Q v H'
/-- e comes to a datum of which R -/
def PV (X : Cx) (e : Expr) (w : Wd) (ls : List L) (R : D → Wd → Prop) : Prop := PE X e (EI X.K w ls R)
def BI (K : PySem.W.Frag) (w : Wd) (ls : List L) (R : Bool → Wd → Prop) : TT := fun σ H Q => ∃ c H0, Rel K c w H0 σ H ls ∧
  ∀ b w' c' H0' H', Stp c H0 H c' H0' H' → w'.p c' H0' H' → R b w' → Q b H'
def PB (X : Cx) (e : Expr) (w : Wd) (ls : List L) (R : Bool → Wd → Prop) : Prop := PT X e (BI X.K w ls R)
def PBw (X : Cx) (e : Expr) (w : Wd) (ls : List L) (R : Bool → Wd → Prop) : Prop := PW X e (BI X.K w ls R)
def AI (K : PySem.W.Frag) (w : Wd) (ls : List L) (R : List D → Wd → Prop) : TA := fun σ H Q => ∃ c H0, Rel K c w H0 σ H ls ∧
  ∀ vs ds w' c' H0' H', Stp c H0 H c' H0' H' → w'.p c' H0' H' → RpL K H0' vs ds → R ds w' → Q vs H'
def PAs (X : Cx) (es : List Expr) (w : Wd) (ls : List L) (R : List D → Wd → Prop) : Prop := PA X es (AI X.K w ls R)
/-- a list to be read now: its items are data -/
def QI (K : PySem.W.Frag) (w : Wd) (ls : List L) (R : List D → Wd → Prop) : TE := fun σ H Q => ∃ c H0, Rel K c w H0 σ H ls ∧
  ∀ p vs ds w' c' H0' H', Stp c H0 H c' H0' H' → w'.p c' H0' H' → ¬ c' p → H' p = some (.lst vs) → RpL K H0' vs ds → R ds w' → Q (.ref p) H'
def PQ (X : Cx) (e : Expr) (w : Wd) (ls : List L) (R : List D → Wd → Prop) : Prop := PE X e (QI X.K w ls R)
/-- a new list -/
def NI (K : PySem.W.Frag) (w : Wd) (ls : List L) (R : List D → Wd → Prop) : TE := fun σ H Q => ∃ c H0, Rel K c w H0 σ H ls ∧
  ∀ p vs ds w' c' H0' H', Stp c H0 H c' H0' H' → w'.p c' H0' H' → H p = none → H0' p = none → ¬ c' p → H' p = some (.lst vs) → RpL K H0' vs ds → R ds w' → Q (.ref p) H'
def PN (X : Cx) (e : Expr) (w : Wd) (ls : List L) (R : List D → Wd → Prop) : Prop := PE X e (NI X.K w ls R)
/-- what is wanted behind a statement: N of slots and world, R of what is handed back -/
structure En where
  c : Addr → Prop
  H0 : Hp
  H : Hp
def ownNew (En : En) (σ : St) (ls : List L) : Prop := ∀ (i : Nat) (l : L) (p : Addr), ls[i]? = some l → l.isOwn → σ[i]? = some (some (.ref p)) → En.H p = none
def SI (K : PySem.W.Frag) (w : Wd) (ls : List L) (N : List L → Wd → Prop) (R : D → Wd → Prop) : TS := fun Dn σ H => ∃ (E : En) (c : Addr → Prop) (H0 : Hp), Rel K c w H0 σ H ls ∧ Stp E.c E.H0 E.H c H0 H ∧ ownNew E σ ls ∧
  (∀ ls' w' c' H0' σ' H', Rel K c' w' H0' σ' H' ls' → Stp E.c E.H0 E.H c' H0' H' → ownNew E σ' ls' → N ls' w' → Dn.nx σ' H') ∧
  (∀ v d w' c' H0' H', Stp E.c E.H0 E.H c' H0' H' → w'.p c' H0' H' → Rp K H0' v d → R d w' → Dn.rt v H')
def SV (X : Cx) (st : Stmt) (w : Wd) (ls : List L) (N : List L → Wd → Prop) (R : D → Wd → Prop) : Prop := PS X st (SI X.K w ls N R)
def SVs (X : Cx) (st : List Stmt) (w : Wd) (ls : List L) (N : List L → Wd → Prop) (R : D → Wd → Prop) : Prop := PSs X st (SI X.K w ls N R)
/-- a target takes a datum -/
def GI (K : PySem.W.Frag) (js : Nat → Prop) (w : Wd) (ls : List L) (d : D) (N : List L → Prop) : TG := fun v σ H Q => ∃ c H0, Rel K c w H0 σ H ls ∧ Rp K H0 v d ∧
  ∀ ls' σ', Rel K c w H0 σ' H ls' → (∀ (i : Nat) (l : L), ls'[i]? = some l → l.isOwn → ls[i]? = some l ∧ σ'[i]? = σ[i]?) → (σ'.length = σ.length ∧ ∀ n : Nat, ¬ js n → σ'[n]? = σ[n]?) → N ls' → Q σ' H
/-- js: the slots that it may store -/
def PGv (X : Cx) (tg : Expr) (js : Nat → Prop) (w : Wd) (ls : List L) (d : D) (N : List L → Prop) : Prop := PG X tg (GI X.K js w ls d N)

section
variable {X : Cx} {e a b : Expr} {es : List Expr} {w : Wd} {ls : List L}
theorem PE.mono {t t' : TE} (h : PE X e t) (k : ∀ σ H Q, t' σ H Q → t σ H Q) : PE X e t' := ⟨fun pins s σ H Q I q => h.run pins s σ H Q I (k σ H Q q)⟩
theorem PT.mono {t t' : TT} (h : PT X e t) (k : ∀ σ H Q, t' σ H Q → t σ H Q) : PT X e t' := ⟨fun pins s σ H Q I q => h.run pins s σ H Q I (k σ H Q q)⟩
theorem PW.mono {t t' : TT} (h : PW X e t) (k : ∀ σ H Q, t' σ H Q → t σ H Q) : PW X e t' := ⟨fun wh pins s σ H Q I q => h.run wh pins s σ H Q I (k σ H Q q)⟩
theorem PA.mono {t t' : TA} (h : PA X es t) (k : ∀ σ H Q, t' σ H Q → t σ H Q) : PA X es t' := ⟨fun pos pins s σ H Q I q => h.run pos pins s σ H Q I (k σ H Q q)⟩
theorem PS.mono {st : Stmt} {t t' : TS} (h : PS X st t) (k : ∀ Dn σ H, t' Dn σ H → t Dn σ H) : PS X st t' := ⟨fun pins s σ H Dn I q => h.run pins s σ H Dn I (k Dn σ H q)⟩
theorem PSs.mono {st : List Stmt} {t t' : TS} (h : PSs X st t) (k : ∀ Dn σ H, t' Dn σ H → t Dn σ H) : PSs X st t' := ⟨fun pins s σ H Dn I q => h.run pins s σ H Dn I (k Dn σ H q)⟩
theorem PG.mono {t t' : TG} (h : PG X e t) (k : ∀ v σ H Q, t' v σ H Q → t v σ H Q) : PG X e t' := ⟨fun pins s σ H v u Q I r q => h.run pins s σ H v u Q I r (k v σ H Q q)⟩
/-- any reading that e has -/
def anyE (X : Cx) (e : Expr) : TE := fun σ H Q => ∃ t, PE X e t ∧ t σ H Q
theorem pe_any : PE X e (anyE X e) := ⟨fun pins s σ H Q I ⟨_, h, q⟩ => h.run pins s σ H Q I q⟩
def anyB (X : Cx) (e : Expr) : TT := fun σ H Q => ∃ t, PT X e t ∧ t σ H Q
theorem pt_any : PT X e (anyB X e) := ⟨fun pins s σ H Q I ⟨_, h, q⟩ => h.run pins s σ H Q I q⟩
def anyW (X : Cx) (e : Expr) : TT := fun σ H Q => ∃ t, PW X e t ∧ t σ H Q
theorem pw_any : PW X e (anyW X e) := ⟨fun wh pins s σ H Q I ⟨_, h, q⟩ => h.run wh pins s σ H Q I q⟩
def anyA (X : Cx) (es : List Expr) : TA := fun σ H Q => ∃ t, PA X es t ∧ t σ H Q
theorem pa_any : PA X es (anyA X es) := ⟨fun pos pins s σ H Q I ⟨_, h, q⟩ => h.run pos pins s σ H Q I q⟩
def anyS (X : Cx) (st : Stmt) : TS := fun Dn σ H => ∃ t, PS X st t ∧ t Dn σ H
theorem ps_any {st : Stmt} : PS X st (anyS X st) := ⟨fun pins s σ H Dn I ⟨_, h, q⟩ => h.run pins s σ H Dn I q⟩
def anySs (X : Cx) (st : List Stmt) : TS := fun Dn σ H => ∃ t, PSs X st t ∧ t Dn σ H
theorem pss_any {st : List Stmt} : PSs X st (anySs X st) := ⟨fun pins s σ H Dn I ⟨_, h, q⟩ => h.run pins s σ H Dn I q⟩
def anyG (X : Cx) (e : Expr) : TG := fun v σ H Q => ∃ t, PG X e t ∧ t v σ H Q
theorem pg_any : PG X e (anyG X e) := ⟨fun pins s σ H v u Q I r ⟨_, h, q⟩ => h.run pins s σ H v u Q I r q⟩

/-! weakening -/
theorem PV.imp {R R' : D → Wd → Prop} (h : PV X e w ls R) (k : ∀ d w, R d w → R' d w) : PV X e w ls R' :=
  PE.mono h fun σ H Q ⟨c, H0, r, q⟩ => ⟨c, H0, r, fun v d w' c' H0' H' s p rp z => q v d w' c' H0' H' s p rp (k d w' z)⟩
theorem PB.imp {R R' : Bool → Wd → Prop} (h : PB X e w ls R) (k : ∀ d w, R d w → R' d w) : PB X e w ls R' :=
  PT.mono h fun σ H Q ⟨c, H0, r, q⟩ => ⟨c, H0, r, fun d w' c' H0' H' s p z => q d w' c' H0' H' s p (k d w' z)⟩
/-- a list datum is read -/
theorem pq_pv {R : List D → Wd → Prop} (h : PV X e w ls fun d w' => ∃ ds, d = .lst ds ∧ R ds w') : PQ X e w ls R :=
  PE.mono h fun σ H Q ⟨c, H0, r, q⟩ => ⟨c, H0, r, fun v d w' c' H0' H' s p rp ⟨ds, e1, z⟩ => by
    subst e1
    cases rp with
    | lst h1 h2 =>
      refine q _ _ ds w' c' H0' H' s p (fun hc => ?_) (s.ex _ _ h1) h2 z
      have := (w'.live p hc).2
      rw [h1] at this; cases this⟩
theorem pq_pn {R : List D → Wd → Prop} (h : PN X e w ls R) : PQ X e w ls R :=
  PE.mono h fun σ H Q ⟨c, H0, r, q⟩ => ⟨c, H0, r, fun p vs ds w' c' H0' H' s hp _ _ nc h1 h2 z => q p vs ds w' c' H0' H' s hp nc h1 h2 z⟩
/-- what is owned becomes a datum -/
theorem Stp.freeze {c c' : Addr → Prop} {H0 H H0' H' : Hp} {p : Addr} {o : HO} (s : Stp c H0 H c' H0' H') (hn : H p = none) (h0 : H0' p = none) (h1 : H' p = some o) : Stp c H0 H c' (upd H0' p o) H' where
  e0 := s.e0.trans (Ex.new h0)
  ex := fun a u h => by
    by_cases q : a = p
    · subst q; rw [upd_same] at h; cases h; exact h1
    · rw [upd_ne q] at h; exact s.ex _ _ h
  e := s.e
  f := fun a h n => by
    have q : a ≠ p := fun z => n.1 (z ▸ hn)
    rw [upd_ne q]; exact s.f a h n
  g := s.g
  h := s.h
  hs := s.hs
theorem Wd.freeze {w : Wd} {c : Addr → Prop} {H0 H : Hp} {p : Addr} {o : HO} (h : w.p c H0 H) (hc : ¬ c p) (h0 : H0 p = none) : w.p c (upd H0 p o) H :=
  w.stable h (Ex.new h0) (fun _ _ => rfl) (fun a q => by
    have z : a ≠ p := fun z => hc (by rw [← z]; exact q)
    rw [upd_ne z]; exact (w.live h q).2) fun _ n => n
theorem pv_pn {R : D → Wd → Prop} (h : PN X e w ls fun ds w' => R (.lst ds) w') : PV X e w ls R :=
  PE.mono h fun σ H Q ⟨c, H0, r, q⟩ => ⟨c, H0, r, fun p vs ds w' c' H0' H' s hp hn h0 nc h1 h2 z =>
    q (.ref p) (.lst ds) w' c' (upd H0' p (.lst vs)) H' (s.freeze hn h0 h1) (Wd.freeze hp nc h0) (.lst upd_same (h2.ex (Ex.new h0))) z⟩
end
end Pd
set_option Elab.async false
set_option linter.all false
set_option maxRecDepth 100000
set_option maxHeartbeats 4000000
namespace Pd
open PySem PySem.Spec PyProof.Rows L2
open Evl (Ex)

section
variable {X : Cx} {e a b o : Expr} {es : List Expr} {w : Wd} {ls : List L} {R : D → Wd → Prop} {pos : Pos}

/-! ### names, constants -/
theorem pv_nm (i : Nat) {x : Str} {d : D} (hl : ls[i]? = some (.im d)) (h : R d w) (hN : X.N[i]? = some x := by rfl) (hv : Vis X.env.scope x := by first | exact Or.inl rfl | exact Or.inr (Or.inl rfl) | exact Or.inr (Or.inr rfl))
    (hd : (x == ("__debug__" : Str)) = false := by decide) (hcd : (x == ("__classdict__" : Str)) = false := by decide) : PV X (.Name x pos) w ls R :=
  PE.mono (pe_var (i := i) hN hv hd hcd) fun σ H Q ⟨c, H0, r, q⟩ => by
    obtain ⟨v, e1, rp⟩ := r.at_ i _ hl
    exact ⟨v, e1, q v d w c H0 H (Stp.refl r.ex) r.wd rp h⟩
theorem pq_nm (i : Nat) {x : Str} {ds : List D} {R : List D → Wd → Prop} (hl : ls[i]? = some (.own ds)) (h : R ds w) (hN : X.N[i]? = some x := by rfl) (hv : Vis X.env.scope x := by first | exact Or.inl rfl | exact Or.inr (Or.inl rfl) | exact Or.inr (Or.inr rfl))
    (hd : (x == ("__debug__" : Str)) = false := by decide) (hcd : (x == ("__classdict__" : Str)) = false := by decide) : PQ X (.Name x pos) w ls R :=
  PE.mono (pe_var (i := i) hN hv hd hcd) fun σ H Q ⟨c, H0, r, q⟩ => by
    obtain ⟨p, vs, e1, h0, h1, h2⟩ := r.at_ i _ hl
    exact ⟨_, e1, q p vs ds w c H0 H (Stp.refl r.ex) r.wd (r.out i _ p hl trivial e1) h1 h2 h⟩
theorem pv_con {v : V} {d : D} (hp : PE X e (tC v)) (k : ∀ H, Rp X.K H v d) (h : R d w) : PV X e w ls R :=
  PE.mono hp fun σ H Q ⟨c, H0, r, q⟩ => q v d w c H0 H (Stp.refl r.ex) r.wd (k _) h
theorem pv_int {i : Int} {j} (h : R (.int i) w) : PV X (.Constant (.int i) j pos) w ls R := pv_con pe_int (fun _ => .int i) h
theorem pv_str {x : Str} {j} (h : R (.str x) w) : PV X (.Constant (.str x) j pos) w ls R := pv_con pe_str (fun _ => .str x) h
theorem pv_bl {x : Bool} {j} (h : R (.bl x) w) : PV X (.Constant (.bool x) j pos) w ls R := pv_con pe_bl (fun _ => .bl x) h
theorem pv_non {j} (h : R .non w) : PV X (.Constant .none j pos) w ls R := pv_con pe_non (fun _ => .non) h
theorem pv_gint {x : Str} {i : Int} (hm : ∃ t, X.mg x = some (.int i t)) (h : R (.int i) w) (hg : Gl X x := by rfl) (hd : (x == ("__debug__" : Str)) = false := by decide) : PV X (.Name x pos) w ls R := by
  obtain ⟨t, hm⟩ := hm
  exact pv_con (pe_glob hg hm (v := .int i) ⟨t, rfl⟩ hd) (fun _ => .int i) h
theorem pv_gstr {x z : Str} (hm : ∃ t, X.mg x = some (.str z t)) (h : R (.str z) w) (hg : Gl X x := by rfl) (hd : (x == ("__debug__" : Str)) = false := by decide) : PV X (.Name x pos) w ls R := by
  obtain ⟨t, hm⟩ := hm
  exact pv_con (pe_glob hg hm (v := .str z) ⟨t, rfl⟩ hd) (fun _ => .str z) h

/-! ### operators on two data -/
def OpD (K : PySem.W.Frag) (r : R2) (w : Wd) (x y : D) (R : D → Wd → Prop) : Prop := ∀ (c : Addr → Prop) (H0 H : Hp) (v u : V), Ex H0 H → w.p c H0 H → Rp K H0 v x → Rp K H0 u y → ∀ Q : VK,
  (∀ z d w' c' H0' H', Stp c H0 H c' H0' H' → w'.p c' H0' H' → Rp K H0' z d → R d w' → Q z H') → r v u H Q
theorem ei_op {r : R2} (h : PV X a w ls fun x w1 => PV X b w1 ls fun y w2 => OpD X.K r w2 x y R) : ∃ ta tb, PE X a ta ∧ PE X b tb ∧ ∀ σ H Q, EI X.K w ls R σ H Q → tOp r ta tb σ H Q := by
  refine ⟨_, anyE X b, h, pe_any, fun σ H Q ⟨c, H0, r0, q⟩ => ⟨c, H0, r0, fun v d w1 c1 H01 H1 s1 p1 rp1 hb => ?_⟩⟩
  refine ⟨_, hb, c1, H01, r0.step s1 p1, fun u d2 w2 c2 H02 H2 s2 p2 rp2 ho => ?_⟩
  exact ho c2 H02 H2 v u s2.ex p2 (rp1.ex s2.e0) rp2 Q fun z d3 w3 c3 H03 H3 s3 p3 rp3 hr => q z d3 w3 c3 H03 H3 ((s1.trans s2).trans s3) p3 rp3 hr
theorem pv_op {op : Operator} {r : R2} (ho : OpR X (binaryOp op) r) (h : PV X a w ls fun x w1 => PV X b w1 ls fun y w2 => OpD X.K r w2 x y R) : PV X (.BinOp a op b pos) w ls R := by
  obtain ⟨ta, tb, h1, h2, k⟩ := ei_op h
  exact PE.mono (pe_op ho h1 h2) k
theorem pv_cmp {op : CmpOp} {r : R2} (ho : OpR X (compareOp op) r) (hm : behindInMarks op b = false) (h : PV X a w ls fun x w1 => PV X b w1 ls fun y w2 => OpD X.K r w2 x y R) : PV X (.Compare a [op] [b] pos) w ls R := by
  obtain ⟨ta, tb, h1, h2, k⟩ := ei_op h
  exact PE.mono (pe_cmpR ho h1 h2 hm) k
theorem opd_rI {C : Int → Int → Prop} {g : Int → Int → Int} {i j : Int} {K : PySem.W.Frag} (hc : C i j) (h : R (.int (g i j)) w) : OpD K (rI C fun i j => .int (g i j)) w (.int i) (.int j) R := by
  intro c H0 H v u ex p rv ru Q q
  rw [rv.int_inv, ru.int_inv]
  exact ⟨i, j, rfl, rfl, hc, q _ _ w c H0 H (Stp.refl ex) p (.int _) h⟩
theorem opd_rI0 {g : Int → Int → Int} {i j : Int} {K : PySem.W.Frag} (h : R (.int (g i j)) w) : OpD K (rI0 fun i j => .int (g i j)) w (.int i) (.int j) R := by
  intro c H0 H v u ex p rv ru Q q
  rw [rv.int_inv, ru.int_inv]
  exact ⟨i, j, rfl, rfl, q _ _ w c H0 H (Stp.refl ex) p (.int _) h⟩
theorem opd_rB0 {g : Int → Int → Bool} {i j : Int} {K : PySem.W.Frag} (h : R (.bl (g i j)) w) : OpD K (rI0 fun i j => .bl (g i j)) w (.int i) (.int j) R := by
  intro c H0 H v u ex p rv ru Q q
  rw [rv.int_inv, ru.int_inv]
  exact ⟨i, j, rfl, rfl, q _ _ w c H0 H (Stp.refl ex) p (.bl _) h⟩
theorem pv_add (h : PV X a w ls fun x w1 => PV X b w1 ls fun y w2 => ∃ i j, x = .int i ∧ y = .int j ∧ R (.int (i + j)) w2) : PV X (.BinOp a .Add b pos) w ls R :=
  pv_op op_add (h.imp fun _ _ h1 => h1.imp fun _ _ ⟨i, j, e1, e2, h2⟩ => by subst e1 e2; exact opd_rI0 h2)
theorem pv_sub (h : PV X a w ls fun x w1 => PV X b w1 ls fun y w2 => ∃ i j, x = .int i ∧ y = .int j ∧ R (.int (i - j)) w2) : PV X (.BinOp a .Sub b pos) w ls R :=
  pv_op op_sub (h.imp fun _ _ h1 => h1.imp fun _ _ ⟨i, j, e1, e2, h2⟩ => by subst e1 e2; exact opd_rI0 h2)
def CMulB (i j : Int) : Prop := i.natAbs.log2 + j.natAbs.log2 < 100000000
theorem CMulB.ok {i j : Int} (h : CMulB i j) : IntMulOk i j := by
  have b : ∀ x : Int, Builtin.Int.intBits x ≤ x.natAbs.log2 + 1 := fun x => by
    unfold Builtin.Int.intBits
    split <;> omega
  have h1 := b i
  have h2 := b j
  have h3 : i.natAbs.log2 + j.natAbs.log2 < 100000000 := h
  have e : bitsLine = 134217728 := by decide
  unfold IntMulOk
  intro z
  rw [Bool.and_eq_true] at z
  have z2 := z.2
  unfold Builtin.Int.intTooBig at z2
  have z3 := of_decide_eq_true z2
  rw [e] at z3
  omega
theorem op_mulB : OpR X (binaryOp .Mult) (rI CMulB fun i j => .int (i * j)) := opI fun _ _ _ _ _ _ _ hc q => mul_int q hc.ok
theorem pv_mul (h : PV X a w ls fun x w1 => PV X b w1 ls fun y w2 => ∃ i j, x = .int i ∧ y = .int j ∧ CMulB i j ∧ R (.int (i * j)) w2) : PV X (.BinOp a .Mult b pos) w ls R :=
  pv_op op_mulB (h.imp fun _ _ h1 => h1.imp fun _ _ ⟨i, j, e1, e2, hc, h2⟩ => by subst e1 e2; exact opd_rI hc h2)
theorem pv_mod (h : PV X a w ls fun x w1 => PV X b w1 ls fun y w2 => ∃ i j, x = .int i ∧ y = .int j ∧ 0 < j ∧ R (.int (i % j)) w2) : PV X (.BinOp a .Mod b pos) w ls R :=
  pv_op op_mod (h.imp fun _ _ h1 => h1.imp fun _ _ ⟨i, j, e1, e2, hc, h2⟩ => by subst e1 e2; exact opd_rI hc h2)
theorem pv_fdiv (h : PV X a w ls fun x w1 => PV X b w1 ls fun y w2 => ∃ i j, x = .int i ∧ y = .int j ∧ CDiv i j ∧ R (.int (i / j)) w2) : PV X (.BinOp a .FloorDiv b pos) w ls R :=
  pv_op op_fdiv (h.imp fun _ _ h1 => h1.imp fun _ _ ⟨i, j, e1, e2, hc, h2⟩ => by subst e1 e2; exact opd_rI hc h2)
theorem pv_pow (h : PV X a w ls fun x w1 => PV X b w1 ls fun y w2 => ∃ i j, x = .int i ∧ y = .int j ∧ CPow i j ∧ R (.int (i ^ j.toNat)) w2) : PV X (.BinOp a .Pow b pos) w ls R :=
  pv_op op_pow (h.imp fun _ _ h1 => h1.imp fun _ _ ⟨i, j, e1, e2, hc, h2⟩ => by subst e1 e2; exact opd_rI hc h2)
theorem pv_addS (h : PV X a w ls fun x w1 => PV X b w1 ls fun y w2 => ∃ i j, x = .str i ∧ y = .str j ∧ i.length + j.length ≤ 1000 ∧ R (.str (i ++ j)) w2) : PV X (.BinOp a .Add b pos) w ls R :=
  pv_op op_add_str (h.imp fun _ _ h1 => h1.imp fun _ w2 ⟨i, j, e1, e2, hl, h2⟩ => by
    subst e1 e2
    intro c H0 H v u ex p rv ru Q q
    rw [rv.str_inv, ru.str_inv]
    exact ⟨i, j, rfl, rfl, Nat.le_trans hl (by decide), q _ _ w2 c H0 H (Stp.refl ex) p (.str _) h2⟩)
end
end Pd
set_option Elab.async false
set_option linter.all false
set_option maxRecDepth 100000
set_option maxHeartbeats 4000000
namespace Pd
open PySem PySem.Spec PyProof.Rows L2
open Evl (Ex)

/-! ### data look-ups -/
section
variable {κ : Type} [DecidableEq κ]
def valD (ks : List (κ × D)) (k : κ) : Option D := (ks.find? fun kv => decide (kv.1 = k)).map (·.2)
def putD (ks : List (κ × D)) (k : κ) (v : D) : List (κ × D) :=
  if (ks.any fun kv => decide (kv.1 = k)) = true then ks.map (fun kv => if kv.1 = k then (kv.1, v) else kv) else ks ++ [(k, v)]
theorem valD_nil {k : κ} : valD ([] : List (κ × D)) k = none := rfl
theorem valD_pos {p : κ × D} {r : List (κ × D)} {k : κ} (e : p.1 = k) : valD (p :: r) k = some p.2 := by simp [valD, List.find?_cons, e]
theorem valD_neg {p : κ × D} {r : List (κ × D)} {k : κ} (e : ¬ p.1 = k) : valD (p :: r) k = valD r k := by simp [valD, List.find?_cons, e]
theorem rpl_val {K : PySem.W.Frag} {H : Hp} (k : κ) : ∀ {kvs : List (κ × V)} {ds : List (κ × D)}, kvs.map (·.1) = ds.map (·.1) → RpL K H (kvs.map (·.2)) (ds.map (·.2)) →
    (valV kvs k = none ∧ valD ds k = none) ∨ ∃ v d, valV kvs k = some v ∧ valD ds k = some d ∧ Rp K H v d
  | [], [], _, _ => .inl ⟨rfl, rfl⟩
  | [], _ :: _, e, _ => by simp at e
  | _ :: _, [], e, _ => by simp at e
  | p :: r, q :: t, e, h => by
    rw [List.map_cons, List.map_cons] at e h
    injection e with e1 e2
    cases h with
    | cons h1 h2 =>
      by_cases hk : p.1 = k
      · exact .inr ⟨p.2, q.2, valV_pos hk, valD_pos (e1 ▸ hk), h1⟩
      · rw [valV_neg hk, valD_neg (fun z => hk (e1.trans z))]
        exact rpl_val k e2 h2
theorem any_keys {kvs : List (κ × V)} {ds : List (κ × D)} (k : κ) (e : kvs.map (·.1) = ds.map (·.1)) : (kvs.any fun kv => decide (kv.1 = k)) = ds.any fun kv => decide (kv.1 = k) := by
  have h1 : (kvs.any fun kv => decide (kv.1 = k)) = (kvs.map (·.1)).any fun x => decide (x = k) := by rw [List.any_map]; rfl
  have h2 : (ds.any fun kv => decide (kv.1 = k)) = (ds.map (·.1)).any fun x => decide (x = k) := by rw [List.any_map]; rfl
  rw [h1, h2, e]
theorem rpl_repl {K : PySem.W.Frag} {H : Hp} (k : κ) {v : V} {d : D} (hv : Rp K H v d) : ∀ {kvs : List (κ × V)} {ds : List (κ × D)}, kvs.map (·.1) = ds.map (·.1) → RpL K H (kvs.map (·.2)) (ds.map (·.2)) →
    (kvs.map fun kv => if kv.1 = k then (kv.1, v) else kv).map (·.1) = (ds.map fun kv => if kv.1 = k then (kv.1, d) else kv).map (·.1) ∧
    RpL K H ((kvs.map fun kv => if kv.1 = k then (kv.1, v) else kv).map (·.2)) ((ds.map fun kv => if kv.1 = k then (kv.1, d) else kv).map (·.2))
  | [], [], _, _ => ⟨rfl, .nil⟩
  | [], _ :: _, e, _ => by simp at e
  | _ :: _, [], e, _ => by simp at e
  | p :: r, q :: t, e, h => by
    rw [List.map_cons, List.map_cons] at e h
    injection e with e1 e2
    cases h with
    | cons h1 h2 =>
      obtain ⟨g1, g2⟩ := rpl_repl k hv e2 h2
      by_cases hk : p.1 = k
      · have hk' : q.1 = k := e1 ▸ hk
        simp only [List.map_cons, if_pos hk, if_pos hk']
        exact ⟨by rw [g1, e1], .cons hv g2⟩
      · have hk' : ¬ q.1 = k := fun z => hk (e1.trans z)
        simp only [List.map_cons, if_neg hk, if_neg hk']
        exact ⟨by rw [g1, e1], .cons h1 g2⟩
theorem rpl_put {K : PySem.W.Frag} {H : Hp} (k : κ) {v : V} {d : D} (hv : Rp K H v d) {kvs : List (κ × V)} {ds : List (κ × D)} (e : kvs.map (·.1) = ds.map (·.1)) (h : RpL K H (kvs.map (·.2)) (ds.map (·.2))) :
    (putK kvs k v).map (·.1) = (putD ds k d).map (·.1) ∧ RpL K H ((putK kvs k v).map (·.2)) ((putD ds k d).map (·.2)) := by
  unfold putK putD
  rw [any_keys k e]
  by_cases q : (ds.any fun kv => decide (kv.1 = k)) = true
  · rw [if_pos q, if_pos q]; exact rpl_repl k hv e h
  · rw [if_neg q, if_neg q, List.map_append, List.map_append, List.map_append, List.map_append, e]
    exact ⟨rfl, h.append (.cons hv .nil)⟩
end
/-- a key as a datum -/
def kD : Key → D
  | .inl i => .int i
  | .inr x => .str x
theorem rp_kD {K : PySem.W.Frag} {H : Hp} {k : Key} {v : V} (h : Rp K H v (kD k)) : v = kV k := by
  cases k with
  | inl i => exact h.int_inv
  | inr x => exact h.str_inv
theorem rpl_kD {K : PySem.W.Frag} {H : Hp} : ∀ {ks : List Key} {vs : List V}, RpL K H vs (ks.map kD) → vs = ks.map kV
  | [], _, .nil => rfl
  | k :: r, _, .cons h t => by rw [List.map_cons, rp_kD h, rpl_kD t]

section
variable {X : Cx} {e a b o : Expr} {es : List Expr} {w : Wd} {ls : List L} {R : D → Wd → Prop} {pos : Pos}

/-! ### comparisons, as values and as tests -/
def PCv (X : Cx) (op : CmpOp) (a b : Expr) (w : Wd) (ls : List L) (R : D → Wd → Prop) : Prop := PC X op a b (EI X.K w ls R)
theorem pv_c {op : CmpOp} (h : PCv X op a b w ls R) (h1 : behindInMarks op b = false := by first | exact nobehind _ (by decide) (by decide) | rfl) : PV X (.Compare a [op] [b] pos) w ls R := pe_cmp h h1
theorem pb_c {op : CmpOp} {R : Bool → Wd → Prop} (h : PCv X op a b w ls fun d w' => ∃ k, d = .bl k ∧ R k w') (h1 : behindInMarks op b = false := by first | exact nobehind _ (by decide) (by decide) | rfl) : PB X (.Compare a [op] [b] pos) w ls R :=
  PT.mono (pt_cmp h h1) fun σ H Q ⟨c, H0, r, q⟩ => ⟨c, H0, r, fun v d w' c' H0' H' s p rp ⟨k, e1, z⟩ => by
    subst e1
    exact ⟨k, rp.bl_inv, q k w' c' H0' H' s p z⟩⟩
theorem PC.mono {op : CmpOp} {t t' : TE} (h : PC X op a b t) (k : ∀ σ H Q, t' σ H Q → t σ H Q) : PC X op a b t' := ⟨fun pins s σ H Q I q => h.run pins s σ H Q I (k σ H Q q)⟩
theorem PCv.imp {op : CmpOp} {R' : D → Wd → Prop} (h : PCv X op a b w ls R) (k : ∀ d w, R d w → R' d w) : PCv X op a b w ls R' :=
  PC.mono h fun σ H Q ⟨c, H0, r, q⟩ => ⟨c, H0, r, fun v d w' c' H0' H' s p rp z => q v d w' c' H0' H' s p rp (k d w' z)⟩
theorem pc_op {op : CmpOp} {r : R2} (ho : OpR X (compareOp op) r) (h : PV X a w ls fun x w1 => PV X b w1 ls fun y w2 => OpD X.K r w2 x y R) : PCv X op a b w ls R := by
  obtain ⟨ta, tb, h1, h2, k⟩ := ei_op h
  refine ⟨fun pins s σ H Q I q => ?_⟩
  exact binT h1 h2 I (k σ H Q q) fun v u s2 x y H2 I2 rx ry z => ho pins s2 σ H2 x y v u Q I2 rx ry z
theorem opI_ {g : Int → Int → Bool} {op : CmpOp} (ho : OpR X (compareOp op) (rI0 fun i j => .bl (g i j))) (h : PV X a w ls fun x w1 => PV X b w1 ls fun y w2 => ∃ i j, x = .int i ∧ y = .int j ∧ R (.bl (g i j)) w2) : PCv X op a b w ls R :=
  pc_op ho (h.imp fun _ _ h1 => h1.imp fun _ _ ⟨i, j, e1, e2, h2⟩ => by subst e1 e2; exact opd_rB0 h2)
theorem c_lt (h : PV X a w ls fun x w1 => PV X b w1 ls fun y w2 => ∃ i j, x = .int i ∧ y = .int j ∧ R (.bl (decide (i < j))) w2) : PCv X .Lt a b w ls R := opI_ op_lt h
theorem c_le (h : PV X a w ls fun x w1 => PV X b w1 ls fun y w2 => ∃ i j, x = .int i ∧ y = .int j ∧ R (.bl (decide (i ≤ j))) w2) : PCv X .LtE a b w ls R := opI_ op_le h
theorem c_gt (h : PV X a w ls fun x w1 => PV X b w1 ls fun y w2 => ∃ i j, x = .int i ∧ y = .int j ∧ R (.bl (decide (j < i))) w2) : PCv X .Gt a b w ls R := opI_ op_gt h
theorem c_ge (h : PV X a w ls fun x w1 => PV X b w1 ls fun y w2 => ∃ i j, x = .int i ∧ y = .int j ∧ R (.bl (decide (j ≤ i))) w2) : PCv X .GtE a b w ls R := opI_ op_ge h
/-- flat data and their values -/
def fV : D → Option V
  | .non => some .non
  | .bl b => some (.bl b)
  | .int i => some (.int i)
  | .str s => some (.str s)
  | _ => none
theorem fV_rp {K : PySem.W.Frag} {H : Hp} {d : D} {u v : V} (e : fV d = some u) (h : Rp K H v d) : v = u := by
  cases d <;> first | (cases e; cases h; rfl) | cases e
theorem c_eq {x' y' : D → Prop} (h : PV X a w ls fun x w1 => PV X b w1 ls fun y w2 => ∃ u v, fV x = some u ∧ fV y = some v ∧ scal u v = true ∧ R (.bl (decide (u = v))) w2) : PCv X .Eq a b w ls R :=
  pc_op op_eq (h.imp fun _ _ h1 => h1.imp fun _ w2 ⟨u, v, e1, e2, hs, h2⟩ => fun c H0 H x y ex p rx ry Q q => by
    rw [fV_rp e1 rx, fV_rp e2 ry]
    exact ⟨hs, q _ _ w2 c H0 H (Stp.refl ex) p (.bl _) h2⟩)
theorem c_ne (h : PV X a w ls fun x w1 => PV X b w1 ls fun y w2 => ∃ u v, fV x = some u ∧ fV y = some v ∧ scal u v = true ∧ R (.bl (!decide (u = v))) w2) : PCv X .NotEq a b w ls R :=
  pc_op op_ne (h.imp fun _ _ h1 => h1.imp fun _ w2 ⟨u, v, e1, e2, hs, h2⟩ => fun c H0 H x y ex p rx ry Q q => by
    rw [fV_rp e1 rx, fV_rp e2 ry]
    exact ⟨hs, q _ _ w2 c H0 H (Stp.refl ex) p (.bl _) h2⟩)
theorem c_eqI (h : PV X a w ls fun x w1 => PV X b w1 ls fun y w2 => ∃ i j, x = .int i ∧ y = .int j ∧ R (.bl (decide (i = j))) w2) : PCv X .Eq a b w ls R :=
  c_eq (x' := fun _ => True) (y' := fun _ => True) (h.imp fun _ _ h1 => h1.imp fun _ _ ⟨i, j, e1, e2, h2⟩ => ⟨.int i, .int j, by subst e1; rfl, by subst e2; rfl, rfl, by
    rw [show decide (V.int i = V.int j) = decide (i = j) by simp]; exact h2⟩)
theorem c_eqS (h : PV X a w ls fun x w1 => PV X b w1 ls fun y w2 => ∃ i j, x = .str i ∧ y = .str j ∧ R (.bl (decide (i = j))) w2) : PCv X .Eq a b w ls R :=
  c_eq (x' := fun _ => True) (y' := fun _ => True) (h.imp fun _ _ h1 => h1.imp fun _ _ ⟨i, j, e1, e2, h2⟩ => ⟨.str i, .str j, by subst e1; rfl, by subst e2; rfl, rfl, by
    rw [show decide (V.str i = V.str j) = decide (i = j) by simp]; exact h2⟩)
theorem c_eqB (h : PV X a w ls fun x w1 => PV X b w1 ls fun y w2 => ∃ i j, x = .bl i ∧ y = .bl j ∧ R (.bl (decide (i = j))) w2) : PCv X .Eq a b w ls R :=
  c_eq (x' := fun _ => True) (y' := fun _ => True) (h.imp fun _ _ h1 => h1.imp fun _ _ ⟨i, j, e1, e2, h2⟩ => ⟨.bl i, .bl j, by subst e1; rfl, by subst e2; rfl, rfl, by
    rw [show decide (V.bl i = V.bl j) = decide (i = j) by simp]; exact h2⟩)
theorem c_neI (h : PV X a w ls fun x w1 => PV X b w1 ls fun y w2 => ∃ i j, x = .int i ∧ y = .int j ∧ R (.bl (!decide (i = j))) w2) : PCv X .NotEq a b w ls R :=
  c_ne (h.imp fun _ _ h1 => h1.imp fun _ _ ⟨i, j, e1, e2, h2⟩ => ⟨.int i, .int j, by subst e1; rfl, by subst e2; rfl, rfl, by
    rw [show decide (V.int i = V.int j) = decide (i = j) by simp]; exact h2⟩)
theorem c_neS (h : PV X a w ls fun x w1 => PV X b w1 ls fun y w2 => ∃ i j, x = .str i ∧ y = .str j ∧ R (.bl (!decide (i = j))) w2) : PCv X .NotEq a b w ls R :=
  c_ne (h.imp fun _ _ h1 => h1.imp fun _ _ ⟨i, j, e1, e2, h2⟩ => ⟨.str i, .str j, by subst e1; rfl, by subst e2; rfl, rfl, by
    rw [show decide (V.str i = V.str j) = decide (i = j) by simp]; exact h2⟩)
/-- x is None, x is not None: whether a datum is None -/
def isN : D → Option Bool
  | .non => some true
  | .raw (.non) => some true
  | .raw _ => some false
  | _ => some false
theorem isN_rp {K : PySem.W.Frag} {H : Hp} {d : D} {v : V} {k : Bool} (e : isN d = some k) (h : Rp K H v d) : decide (v = .non) = k := by
  cases h with
  | raw v => cases v <;> (cases e; rfl)
  | _ => cases e; rfl
theorem c_isN {j p2} (h : PV X a w ls fun x w1 => ∃ k, isN x = some k ∧ R (.bl k) w1) : PCv X .Is a (.Constant .none j p2) w ls R :=
  pc_op op_isN (h.imp fun _ _ ⟨k, e1, h1⟩ => pv_non fun c H0 H x y ex p rx ry Q q => by
    rw [ry.non_inv]
    refine ⟨rfl, ?_⟩
    rw [isN_rp e1 rx]
    exact q _ _ _ c H0 H (Stp.refl ex) p (.bl _) h1)
theorem c_notN {j p2} (h : PV X a w ls fun x w1 => ∃ k, isN x = some k ∧ R (.bl (!k)) w1) : PCv X .IsNot a (.Constant .none j p2) w ls R :=
  pc_op op_notN (h.imp fun _ _ ⟨k, e1, h1⟩ => pv_non fun c H0 H x y ex p rx ry Q q => by
    rw [ry.non_inv]
    refine ⟨rfl, ?_⟩
    rw [isN_rp e1 rx]
    exact q _ _ _ c H0 H (Stp.refl ex) p (.bl _) h1)
/-! in -/
theorem inV_strs (s : Str) (ss : List Str) : inV (.str s) (ss.map V.str) = decide (s ∈ ss) := by
  unfold inV
  rw [List.any_map, Bool.eq_iff_iff, List.any_eq_true, decide_eq_true_eq]
  constructor
  · rintro ⟨x, hx, e⟩
    have e' : (x == s) = true := e
    rw [← eq_of_beq e']; exact hx
  · intro h; exact ⟨s, h, by show (s == s) = true; exact beq_self_eq_true s⟩
theorem inV_ints (s : Int) (ss : List Int) : inV (.int s) (ss.map V.int) = decide (s ∈ ss) := by
  unfold inV
  rw [List.any_map, Bool.eq_iff_iff, List.any_eq_true, decide_eq_true_eq]
  constructor
  · rintro ⟨x, hx, e⟩
    have e' : (x == s) = true := e
    rw [← eq_of_beq e']; exact hx
  · intro h; exact ⟨s, h, by show (s == s) = true; exact beq_self_eq_true s⟩
theorem inV_bls (s : Bool) (ss : List Bool) : inV (.bl s) (ss.map V.bl) = decide (s ∈ ss) := by
  unfold inV
  rw [List.any_map, Bool.eq_iff_iff, List.any_eq_true, decide_eq_true_eq]
  constructor
  · rintro ⟨x, hx, e⟩
    have e' : (x == s) = true := e
    rw [← eq_of_beq e']; exact hx
  · intro h; exact ⟨s, h, by show (s == s) = true; exact beq_self_eq_true s⟩
/-- membership among flat data of one kind -/
inductive InF : D → List D → Bool → Prop
  | str (s : Str) (ss : List Str) : InF (.str s) (ss.map .str) (decide (s ∈ ss))
  | int (s : Int) (ss : List Int) : InF (.int s) (ss.map .int) (decide (s ∈ ss))
  | bl (s : Bool) (ss : List Bool) : InF (.bl s) (ss.map .bl) (decide (s ∈ ss))
theorem InF.v {K : PySem.W.Frag} {H : Hp} {x : D} {ds : List D} {k : Bool} {u : V} {vs : List V} (h : InF x ds k) (hx : Rp K H u x) (hs : RpL K H vs ds) : flatV u = true ∧ vs.all flatV = true ∧ inV u vs = k := by
  cases h with
  | str s ss => rw [hx.str_inv, RpL.strs_inv hs]; exact ⟨rfl, by rw [List.all_map]; exact List.all_eq_true.mpr fun _ _ => rfl, inV_strs s ss⟩
  | int s ss => rw [hx.int_inv, RpL.ints_inv hs]; exact ⟨rfl, by rw [List.all_map]; exact List.all_eq_true.mpr fun _ _ => rfl, inV_ints s ss⟩
  | bl s ss => rw [hx.bl_inv, RpL.bls_inv hs]; exact ⟨rfl, by rw [List.all_map]; exact List.all_eq_true.mpr fun _ _ => rfl, inV_bls s ss⟩
/-- the items of a tuple datum -/
inductive IsT : D → List D → Prop
  | tup (ds : List D) : IsT (.tup ds) ds
  | ftup (ds : List D) : IsT (.ftup ds) ds
theorem IsT.v {K : PySem.W.Frag} {H : Hp} {x : D} {ds : List D} {u : V} (h : IsT x ds) (hx : Rp K H u x) : ∃ p vs, u = .ref p ∧ SqT K H p vs ∧ RpL K H vs ds := by
  cases h with
  | tup ds => cases hx with | tup h1 h2 => exact ⟨_, _, rfl, .inl (.inl h1), h2⟩
  | ftup ds => cases hx with | ftup h1 _ _ h2 => exact ⟨_, _, rfl, .inl (.inr ⟨_, h1⟩), h2⟩
theorem sqT_ex {K : PySem.W.Frag} {H H' : Hp} {p : Addr} {vs : List V} (e : Ex H H') (h : SqT K H p vs) : SqT K H' p vs := Evl.ex_t e h
theorem c_inT (h : PV X a w ls fun x w1 => PV X b w1 ls fun y w2 => ∃ ds k, IsT y ds ∧ InF x ds k ∧ R (.bl k) w2) : PCv X .In a b w ls R :=
  pc_op op_in_seq (h.imp fun _ _ h1 => h1.imp fun _ w2 ⟨ds, k, e1, e2, h2⟩ => fun c H0 H x y ex p rx ry Q q => by
    obtain ⟨p', vs, rfl, hq, hr⟩ := e1.v ry
    obtain ⟨f1, f2, f3⟩ := e2.v rx hr
    refine ⟨p', vs, rfl, .inr (sqT_ex ex hq), f1, f2, ?_⟩
    rw [f3]
    exact q _ _ _ c H0 H (Stp.refl ex) p (.bl _) h2)
theorem c_notInT (h : PV X a w ls fun x w1 => PV X b w1 ls fun y w2 => ∃ ds k, IsT y ds ∧ InF x ds k ∧ R (.bl (!k)) w2) : PCv X .NotIn a b w ls R :=
  pc_op op_notIn_seq (h.imp fun _ _ h1 => h1.imp fun _ w2 ⟨ds, k, e1, e2, h2⟩ => fun c H0 H x y ex p rx ry Q q => by
    obtain ⟨p', vs, rfl, hq, hr⟩ := e1.v ry
    obtain ⟨f1, f2, f3⟩ := e2.v rx hr
    refine ⟨p', vs, rfl, .inr (sqT_ex ex hq), f1, f2, ?_⟩
    rw [f3]
    exact q _ _ _ c H0 H (Stp.refl ex) p (.bl _) h2)
/-- an operator on a datum and a list that is read -/
def OpQ (K : PySem.W.Frag) (r : R2) (w : Wd) (x : D) (ds : List D) (R : D → Wd → Prop) : Prop := ∀ (c : Addr → Prop) (H0 H : Hp) (v : V) (p : Addr) (vs : List V), Ex H0 H → w.p c H0 H → Rp K H0 v x → H p = some (.lst vs) → RpL K H0 vs ds → ∀ Q : VK,
  (∀ z d w' c' H0' H', Stp c H0 H c' H0' H' → w'.p c' H0' H' → Rp K H0' z d → R d w' → Q z H') → r v (.ref p) H Q
theorem pc_opQ {op : CmpOp} {r : R2} (ho : OpR X (compareOp op) r) (h : PV X a w ls fun x w1 => PQ X b w1 ls fun ds w2 => OpQ X.K r w2 x ds R) : PCv X op a b w ls R := by
  have key : PC X op a b (tOp r (EI X.K w ls fun x w1 => PQ X b w1 ls fun ds w2 => OpQ X.K r w2 x ds R) (anyE X b)) := ⟨fun pins s σ H Q I q => binT h pe_any I q fun v u s2 x y H2 I2 rx ry z => ho pins s2 σ H2 x y v u Q I2 rx ry z⟩
  refine PC.mono key ?_
  intro σ H Q ⟨c, H0, r0, q⟩
  refine ⟨c, H0, r0, fun v d w1 c1 H01 H1 s1 p1 rp1 hb => ⟨_, hb, c1, H01, r0.step s1 p1, fun p vs ds w2 c2 H02 H2 s2 p2 _ hp hr ho => ?_⟩⟩
  exact ho c2 H02 H2 v p vs s2.ex p2 (rp1.ex s2.e0) hp hr Q fun z d3 w3 c3 H03 H3 s3 p3 rp3 hr => q z d3 w3 c3 H03 H3 ((s1.trans s2).trans s3) p3 rp3 hr
theorem c_inL (h : PV X a w ls fun x w1 => PQ X b w1 ls fun ds w2 => ∃ k, InF x ds k ∧ R (.bl k) w2) : PCv X .In a b w ls R :=
  pc_opQ op_in_seq (h.imp fun _ _ h1 => PE.mono h1 fun σ H Q ⟨c, H0, r, q⟩ => ⟨c, H0, r, fun p vs ds w' c' H0' H' s hp nc h2 h3 ⟨k, e2, z⟩ => q p vs ds w' c' H0' H' s hp nc h2 h3 fun c H0 H v p vs ex hw rv hp hr Q q => by
    obtain ⟨f1, f2, f3⟩ := e2.v rv hr
    refine ⟨p, vs, rfl, .inl (.inl (.inl hp)), f1, f2, ?_⟩
    rw [f3]
    exact q _ _ _ c H0 H (Stp.refl ex) hw (.bl _) z⟩)
theorem c_notInL (h : PV X a w ls fun x w1 => PQ X b w1 ls fun ds w2 => ∃ k, InF x ds k ∧ R (.bl (!k)) w2) : PCv X .NotIn a b w ls R :=
  pc_opQ op_notIn_seq (h.imp fun _ _ h1 => PE.mono h1 fun σ H Q ⟨c, H0, r, q⟩ => ⟨c, H0, r, fun p vs ds w' c' H0' H' s hp nc h2 h3 ⟨k, e2, z⟩ => q p vs ds w' c' H0' H' s hp nc h2 h3 fun c H0 H v p vs ex hw rv hp hr Q q => by
    obtain ⟨f1, f2, f3⟩ := e2.v rv hr
    refine ⟨p, vs, rfl, .inl (.inl (.inl hp)), f1, f2, ?_⟩
    rw [f3]
    exact q _ _ _ c H0 H (Stp.refl ex) hw (.bl _) z⟩)
/-- one sign in a text -/
theorem c_inTxt (h : PV X a w ls fun x w1 => PV X b w1 ls fun y w2 => ∃ (c : Nat) (z : Str), x = .str ⟨#[c]⟩ ∧ y = .str z ∧ R (.bl (decide (c ∈ z.cps.toList))) w2) : PCv X .In a b w ls R :=
  pc_op op_in_sign (h.imp fun _ _ h1 => h1.imp fun _ w2 ⟨ch, z, e1, e2, h2⟩ => fun c H0 H x y ex p rx ry Q q => by
    subst e1 e2
    rw [rx.str_inv, ry.str_inv]
    exact ⟨ch, z, rfl, rfl, q _ _ _ c H0 H (Stp.refl ex) p (.bl _) h2⟩)
end
end Pd
set_option Elab.async false
set_option linter.all false
set_option maxRecDepth 100000
set_option maxHeartbeats 4000000
namespace Pd
open PySem PySem.Spec PyProof.Rows L2
open Evl (Ex)
section
variable {X : Cx} {e a b o i : Expr} {es : List Expr} {w : Wd} {ls : List L} {R : D → Wd → Prop} {pos : Pos}

/-! ### dicts: a dict that is read -/
/-- tuple keys: at an address, owned or not -/
def DTI (K : PySem.W.Frag) (w : Wd) (ls : List L) (R : List (List Key × D) → Wd → Prop) : TE := fun σ H Q => ∃ c H0, Rel K c w H0 σ H ls ∧
  ∀ p ws ks w' c' H0' H', Stp c H0 H c' H0' H' → w'.p c' H0' H' → ¬ c' p → Rd H' p (.dT ws) → ws.map (·.1) = ks.map (·.1) → RpL K H0' (ws.map (·.2)) (ks.map (·.2)) → R ks w' → Q (.ref p) H'
def PTd (X : Cx) (e : Expr) (w : Wd) (ls : List L) (R : List (List Key × D) → Wd → Prop) : Prop := PE X e (DTI X.K w ls R)
theorem notc {w : Wd} {c : Addr → Prop} {H0 H : Hp} {p : Addr} {o : HO} (h : w.p c H0 H) (h0 : H0 p = some o) : ¬ c p := fun hc => by
  have := (w.live h hc).2
  rw [h0] at this; cases this
theorem rd_notc {w : Wd} {c : Addr → Prop} {H0 H : Hp} {p : Addr} {o : HO} (h : w.p c H0 H) (h0 : Rd H0 p o) : ¬ c p := by
  rcases h0 with h0 | ⟨_, h0⟩ <;> exact notc h h0
theorem pt_pv {R : List (List Key × D) → Wd → Prop} (h : PV X e w ls fun d w' => ∃ ks, d = .dt ks ∧ R ks w') : PTd X e w ls R :=
  PE.mono h fun σ H Q ⟨c, H0, r, q⟩ => ⟨c, H0, r, fun v d w' c' H0' H' s p rp ⟨ks, e1, z⟩ => by
    subst e1
    cases rp with
    | dt h1 h2 h3 => exact q _ _ ks w' c' H0' H' s p (notc p h1) (.inr ⟨_, s.ex _ _ h1⟩) h2 h3 z⟩
theorem pt_nm (i : Nat) {x : Str} {ks : List (List Key × D)} {R : List (List Key × D) → Wd → Prop} (hl : ls[i]? = some (.ownT ks)) (h : R ks w) (hN : X.N[i]? = some x := by rfl) (hv : Vis X.env.scope x := by first | exact Or.inl rfl | exact Or.inr (Or.inl rfl) | exact Or.inr (Or.inr rfl))
    (hd : (x == ("__debug__" : Str)) = false := by decide) (hcd : (x == ("__classdict__" : Str)) = false := by decide) : PTd X (.Name x pos) w ls R :=
  PE.mono (pe_var (i := i) hN hv hd hcd) fun σ H Q ⟨c, H0, r, q⟩ => by
    obtain ⟨p, ws, e1, h0, h1, h3, h2⟩ := r.at_ i _ hl
    exact ⟨_, e1, q p ws ks w c H0 H (Stp.refl r.ex) r.wd (r.out i _ p hl trivial e1) (.inl h1) h3 h2 h⟩
theorem rd_step {c c' : Addr → Prop} {H0 H H0' H' : Hp} {p : Addr} {u : HO} (s : Stp c H0 H c' H0' H') (n : ¬ c p) (h : Rd H p u) : Rd H' p u := by
  rcases h with h | ⟨o, h⟩
  · exact .inl (s.e _ _ h n)
  · exact .inr ⟨o, s.e _ _ h n⟩
theorem stp_notc {c c' : Addr → Prop} {H0 H H0' H' : Hp} {p : Addr} (s : Stp c H0 H c' H0' H') (n : ¬ c p) (h : H p ≠ none) : ¬ c' p := fun z => (s.g p z).elim n h
/-- d[k], keys tuples -/
theorem pv_dgetT (hu : X.A.units + 1 < cLine) (h : PTd X a w ls fun ks w1 => PV X b w1 ls fun y w2 => ∃ k d, y = .tup (k.map kD) ∧ valD ks k = some d ∧ R d w2) (hs : NoSl b := by exact fun _ _ => rfl) : PV X (.Subscript a b pos) w ls R := by
  refine PE.mono (pe_dget hu h (pe_any (e := b)) hs) fun σ H Q ⟨c, H0, r0, q⟩ => ?_
  refine ⟨c, H0, r0, fun p ws ks w1 c1 H01 H1 s1 p1 nc hp hk hr hb => ⟨_, hb, c1, H01, r0.step s1 p1, fun u y w2 c2 H02 H2 s2 p2 ry ⟨k, d, e1, e2, z⟩ => ?_⟩⟩
  subst e1
  cases ry with
  | tup h1 h2 =>
    rcases rpl_val k hk hr with ⟨_, f⟩ | ⟨v, d', f1, f2, f3⟩
    · rw [f] at e2; cases e2
    · rw [e2] at f2; cases f2
      refine ⟨p, v, rfl, .inr ⟨ws, k, _, rd_step s2 nc hp, rfl, ?_, f1.symm⟩, q v d w2 c2 H02 H2 (s1.trans s2) p2 (f3.ex s2.e0) z⟩
      rw [s2.ex _ _ h1, rpl_kD h2]
theorem dc_in (hu : X.A.units + 1 < cLine) {R : D → Wd → Prop} (h : PV X a w ls fun y w1 => PTd X b w1 ls fun ks w2 => ∃ k, y = .tup (k.map kD) ∧ R (.bl (valD ks k).isSome) w2) : PCv X .In a b w ls R := by
  refine PC.mono (pc_din hu h (pe_any (e := b))) fun σ H Q ⟨c, H0, r0, q⟩ => ?_
  refine ⟨c, H0, r0, fun u y w1 c1 H01 H1 s1 p1 ry hb => ⟨_, hb, c1, H01, r0.step s1 p1, fun p ws ks w2 c2 H02 H2 s2 p2 nc hp hk hr ⟨k, e1, z⟩ => ?_⟩⟩
  subst e1
  cases ry with
  | tup h1 h2 =>
    have z' : R (.bl (valV ws k).isSome) w2 := by
      rcases rpl_val k hk hr with ⟨g, f⟩ | ⟨v, d', f1, f2, f3⟩
      · rw [g]; rw [f] at z; exact z
      · rw [f1]; rw [f2] at z; exact z
    refine ⟨p, _, rfl, .inr ⟨ws, k, _, hp, rfl, ?_, rfl⟩, q _ _ w2 c2 H02 H2 (s1.trans s2) p2 (.bl _) z'⟩
    rw [s2.ex _ _ (s2.e0 _ _ h1), rpl_kD h2]
theorem dc_notin (hu : X.A.units + 1 < cLine) {R : D → Wd → Prop} (h : PV X a w ls fun y w1 => PTd X b w1 ls fun ks w2 => ∃ k, y = .tup (k.map kD) ∧ R (.bl (!(valD ks k).isSome)) w2) : PCv X .NotIn a b w ls R := by
  refine PC.mono (pc_dnotin hu h (pe_any (e := b))) fun σ H Q ⟨c, H0, r0, q⟩ => ?_
  refine ⟨c, H0, r0, fun u y w1 c1 H01 H1 s1 p1 ry hb => ⟨_, hb, c1, H01, r0.step s1 p1, fun p ws ks w2 c2 H02 H2 s2 p2 nc hp hk hr ⟨k, e1, z⟩ => ?_⟩⟩
  subst e1
  cases ry with
  | tup h1 h2 =>
    have z' : R (.bl (!(valV ws k).isSome)) w2 := by
      rcases rpl_val k hk hr with ⟨g, f⟩ | ⟨v, d', f1, f2, f3⟩
      · rw [g]; rw [f] at z; exact z
      · rw [f1]; rw [f2] at z; exact z
    refine ⟨p, _, rfl, .inr ⟨ws, k, _, hp, rfl, ?_, rfl⟩, q _ _ w2 c2 H02 H2 (s1.trans s2) p2 (.bl _) z'⟩
    rw [s2.ex _ _ (s2.e0 _ _ h1), rpl_kD h2]
/-- text and int keys -/
theorem pv_dget (hu : X.A.units + 1 < cLine) (h : PV X a w ls fun x w1 => PV X b w1 ls fun y w2 => ∃ ks k d, x = .dk ks ∧ y = kD k ∧ valD ks k = some d ∧ R d w2) (hs : NoSl b := by exact fun _ _ => rfl) : PV X (.Subscript a b pos) w ls R := by
  refine PE.mono (pe_dget hu h (pe_any (e := b)) hs) fun σ H Q ⟨c, H0, r0, q⟩ => ?_
  refine ⟨c, H0, r0, fun v x w1 c1 H01 H1 s1 p1 rx hb => ⟨_, hb, c1, H01, r0.step s1 p1, fun u y w2 c2 H02 H2 s2 p2 ry ⟨ks, k, d, e0, e1, e2, z⟩ => ?_⟩⟩
  subst e0 e1
  cases rx with
  | dk hp hk hr =>
    rcases rpl_val k hk hr with ⟨_, f⟩ | ⟨v, d', f1, f2, f3⟩
    · rw [f] at e2; cases e2
    · rw [e2] at f2; cases f2
      exact ⟨_, v, rfl, .inl ⟨_, k, ex_rd s2.ex (ex_rd s2.e0 hp), rp_kD ry, f1.symm⟩, q v d w2 c2 H02 H2 (s1.trans s2) p2 (f3.ex s2.e0) z⟩
theorem dk_in (hu : X.A.units + 1 < cLine) (h : PV X a w ls fun y w1 => PV X b w1 ls fun x w2 => ∃ ks k, x = .dk ks ∧ y = kD k ∧ R (.bl (valD ks k).isSome) w2) : PCv X .In a b w ls R := by
  refine PC.mono (pc_din hu h (pe_any (e := b))) fun σ H Q ⟨c, H0, r0, q⟩ => ?_
  refine ⟨c, H0, r0, fun u y w1 c1 H01 H1 s1 p1 ry hb => ⟨_, hb, c1, H01, r0.step s1 p1, fun v x w2 c2 H02 H2 s2 p2 rx ⟨ks, k, e0, e1, z⟩ => ?_⟩⟩
  subst e0 e1
  cases rx with
  | dk hp hk hr =>
    refine ⟨_, _, rfl, .inl ⟨_, k, ex_rd s2.ex hp, rp_kD ry, rfl⟩, q _ _ w2 c2 H02 H2 (s1.trans s2) p2 (.bl _) ?_⟩
    rcases rpl_val k hk hr with ⟨g, f⟩ | ⟨v, d', f1, f2, f3⟩
    · rw [g]; rw [f] at z; exact z
    · rw [f1]; rw [f2] at z; exact z
theorem dk_notin (hu : X.A.units + 1 < cLine) (h : PV X a w ls fun y w1 => PV X b w1 ls fun x w2 => ∃ ks k, x = .dk ks ∧ y = kD k ∧ R (.bl (!(valD ks k).isSome)) w2) : PCv X .NotIn a b w ls R := by
  refine PC.mono (pc_dnotin hu h (pe_any (e := b))) fun σ H Q ⟨c, H0, r0, q⟩ => ?_
  refine ⟨c, H0, r0, fun u y w1 c1 H01 H1 s1 p1 ry hb => ⟨_, hb, c1, H01, r0.step s1 p1, fun v x w2 c2 H02 H2 s2 p2 rx ⟨ks, k, e0, e1, z⟩ => ?_⟩⟩
  subst e0 e1
  cases rx with
  | dk hp hk hr =>
    refine ⟨_, _, rfl, .inl ⟨_, k, ex_rd s2.ex hp, rp_kD ry, rfl⟩, q _ _ w2 c2 H02 H2 (s1.trans s2) p2 (.bl _) ?_⟩
    rcases rpl_val k hk hr with ⟨g, f⟩ | ⟨v, d', f1, f2, f3⟩
    · rw [g]; rw [f] at z; exact z
    · rw [f1]; rw [f2] at z; exact z

/-! ### subscripts -/
theorem atI_rpl {K : PySem.W.Frag} {H : Hp} {vs : List V} {ds : List D} {i : Int} {d : D} (h : RpL K H vs ds) (e : atI ds i = some d) : ∃ v, atI vs i = some v ∧ Rp K H v d := by
  unfold atI at e ⊢
  rw [h.length]
  cases q : ixN ds.length i with
  | none => rw [q] at e; cases e
  | some j =>
    rw [q] at e
    exact h.get e
theorem pv_ixT (h : PV X a w ls fun x w1 => PV X b w1 ls fun y w2 => ∃ ds i d, IsT x ds ∧ y = .int i ∧ atI ds i = some d ∧ R d w2) (hs : PlainIx b := by exact fun _ _ => rfl) : PV X (.Subscript a b pos) w ls R := by
  obtain ⟨ta, tb, h1, h2, k⟩ := ei_op (r := rIxT X.K) (R := R) (h.imp fun _ _ h1 => h1.imp fun _ w2 ⟨ds, i, d, e1, e2, e3, h2⟩ => fun c H0 H x y ex p rx ry Q q => by
    subst e2
    obtain ⟨p', vs, rfl, hq, hr⟩ := e1.v rx
    obtain ⟨v, g1, g2⟩ := atI_rpl hr e3
    rw [ry.int_inv]
    exact ⟨p', vs, i, v, rfl, rfl, sqT_ex ex hq, g1, q v d w2 c H0 H (Stp.refl ex) p g2 h2⟩)
  exact PE.mono (pe_ix ix_tup h1 h2 hs) k
theorem pv_ixS (h : PV X a w ls fun x w1 => PV X b w1 ls fun y w2 => ∃ z i c, x = .str z ∧ y = .int i ∧ z.length ≤ 1000 ∧ atI z.cps.toList i = some c ∧ R (.str ⟨#[c]⟩) w2) (hs : PlainIx b := by exact fun _ _ => rfl) : PV X (.Subscript a b pos) w ls R := by
  obtain ⟨ta, tb, h1, h2, k⟩ := ei_op (r := rIxS) (R := R) (h.imp fun _ _ h1 => h1.imp fun _ w2 ⟨z, i, ch, e1, e2, e4, e3, h2⟩ => fun c H0 H x y ex p rx ry Q q => by
    subst e1 e2
    rw [rx.str_inv, ry.int_inv]
    exact ⟨z, i, ch, rfl, rfl, Nat.le_trans e4 (by decide), e3, q _ _ w2 c H0 H (Stp.refl ex) p (.str _) h2⟩)
  exact PE.mono (pe_ix ix_str h1 h2 hs) k
theorem pv_ixL (h : PQ X a w ls fun ds w1 => PV X b w1 ls fun y w2 => ∃ i d, y = .int i ∧ atI ds i = some d ∧ R d w2) (hs : PlainIx b := by exact fun _ _ => rfl) : PV X (.Subscript a b pos) w ls R := by
  refine PE.mono (pe_ix ix_list h (pe_any (e := b)) hs) fun σ H Q ⟨c, H0, r0, q⟩ => ?_
  refine ⟨c, H0, r0, fun p vs ds w1 c1 H01 H1 s1 p1 nc hp hr hb => ⟨_, hb, c1, H01, r0.step s1 p1, fun u y w2 c2 H02 H2 s2 p2 ry ⟨i, d, e1, e2, z⟩ => ?_⟩⟩
  subst e1
  obtain ⟨v, g1, g2⟩ := atI_rpl hr e2
  rw [ry.int_inv]
  exact ⟨p, vs, i, v, rfl, rfl, .inl (.inl (s2.e _ _ hp nc)), g1, q v d w2 c2 H02 H2 (s1.trans s2) p2 (g2.ex s2.e0) z⟩

/-! ### slices -/
def OI (K : PySem.W.Frag) (w : Wd) (ls : List L) (R : Option Int → Wd → Prop) : TO := fun σ H Q => ∃ c H0, Rel K c w H0 σ H ls ∧
  ∀ o w' c' H0' H', Stp c H0 H c' H0' H' → w'.p c' H0' H' → R o w' → Q o H'
def POv (X : Cx) (e : Option Expr) (w : Wd) (ls : List L) (R : Option Int → Wd → Prop) : Prop := PO X e (OI X.K w ls R)
theorem PO.mono {e : Option Expr} {t t' : TO} (h : PO X e t) (k : ∀ σ H Q, t' σ H Q → t σ H Q) : PO X e t' := ⟨fun pins s σ H Q I q => h.run pins s σ H Q I (k σ H Q q)⟩
def anyO (X : Cx) (e : Option Expr) : TO := fun σ H Q => ∃ t, PO X e t ∧ t σ H Q
theorem po_any {e : Option Expr} : PO X e (anyO X e) := ⟨fun pins s σ H Q I ⟨_, h, q⟩ => h.run pins s σ H Q I q⟩
theorem pov_none {R : Option Int → Wd → Prop} (h : R none w) : POv X none w ls R := PO.mono po_none fun σ H Q ⟨c, H0, r, q⟩ => q none w c H0 H (Stp.refl r.ex) r.wd h
theorem pov_some {R : Option Int → Wd → Prop} (h : PV X e w ls fun d w' => ∃ i, d = .int i ∧ R (some i) w') : POv X (some e) w ls R := PO.mono (po_some h) fun σ H Q ⟨c, H0, r, q⟩ => ⟨c, H0, r, fun v d w' c' H0' H' s p rp ⟨i, e1, z⟩ => by
  subst e1
  exact ⟨i, rp.int_inv, q (some i) w' c' H0' H' s p z⟩⟩
def cutD (xs : List D) (lo hi : Option Int) : List D := (xs.drop (HT.sIx xs.length 0 lo)).take (HT.sIx xs.length xs.length hi - HT.sIx xs.length 0 lo)
theorem rpl_cut {K : PySem.W.Frag} {H : Hp} {vs : List V} {ds : List D} (lo hi : Option Int) (h : RpL K H vs ds) : RpL K H (cutV vs lo hi) (cutD ds lo hi) := by
  unfold cutV cutD
  rw [h.length]
  exact (h.drop _).take _
variable {lo hi : Option Expr} {p2 : Pos}
theorem pn_slice {R : List D → Wd → Prop} (h : PQ X a w ls fun ds w1 => POv X lo w1 ls fun l w2 => POv X hi w2 ls fun u w3 => R (cutD ds l u) w3) : PN X (.Subscript a (.Slice lo hi none p2) pos) w ls R := by
  refine PE.mono (pe_slice sl_list h (po_any (e := lo)) (po_any (e := hi))) fun σ H Q ⟨c, H0, r0, q⟩ => ?_
  refine ⟨c, H0, r0, fun p vs ds w1 c1 H01 H1 s1 p1 nc hp hr hb => ⟨_, hb, c1, H01, r0.step s1 p1, fun l w2 c2 H02 H2 s2 p2 hc => ⟨_, hc, c2, H02, (r0.step s1 p1).step s2 p2, fun u w3 c3 H03 H3 s3 p3 z => ?_⟩⟩⟩
  have hp2 := s2.e _ _ hp nc
  have nc2 := stp_notc s2 nc (by rw [hp]; exact fun z => nomatch z)
  refine ⟨p, vs, rfl, .inl (.inl (s3.e _ _ hp2 nc2)), fun n hn => ?_⟩
  have s4 := (s1.trans s2).trans s3
  have h0 : H03 n = none := none_of_ex s3.ex hn
  refine q n _ (cutD ds l u) w3 c3 H03 (upd H3 n (.lst (cutV vs l u))) (s4.trans (Stp.newO s3.ex hn)) (Wd.newO p3 hn) ?_ h0 (fun hc3 => (w3.live p3 hc3).1.1 hn) upd_same ((rpl_cut l u hr).ex (s2.e0.trans s3.e0)) z
  cases g : H n with
  | none => rfl
  | some oo => exact absurd hn (s4.h n (by rw [g]; exact fun z => nomatch z))
theorem pv_sliceS (h : PV X a w ls fun x w1 => POv X lo w1 ls fun l w2 => POv X hi w2 ls fun u w3 => ∃ z, x = .str z ∧ z.length ≤ 1000 ∧ R (.str (cutS z l u)) w3) : PV X (.Subscript a (.Slice lo hi none p2) pos) w ls R := by
  refine PE.mono (pe_slice sl_str h (po_any (e := lo)) (po_any (e := hi))) fun σ H Q ⟨c, H0, r0, q⟩ => ?_
  refine ⟨c, H0, r0, fun v x w1 c1 H01 H1 s1 p1 rx hb => ⟨_, hb, c1, H01, r0.step s1 p1, fun l w2 c2 H02 H2 s2 p2 hc => ⟨_, hc, c2, H02, (r0.step s1 p1).step s2 p2, fun u w3 c3 H03 H3 s3 p3 ⟨z, e1, e2, k⟩ => ?_⟩⟩⟩
  subst e1
  exact ⟨z, rx.str_inv, Nat.le_trans e2 (by decide), q _ _ w3 c3 H03 H3 ((s1.trans s2).trans s3) p3 (.str _) k⟩

/-! ### fields of an instance that stands still -/
theorem lookup_rpl {K : PySem.W.Frag} {H : Hp} {f : Str} {d : D} : ∀ {fs : List (Str × V)} {ds : List (Str × D)}, fs.map (·.1) = ds.map (·.1) → RpL K H (fs.map (·.2)) (ds.map (·.2)) → ds.lookup f = some d → ∃ v, fs.lookup f = some v ∧ Rp K H v d
  | [], [], _, _, e => nomatch e
  | [], _ :: _, e, _, _ => by simp at e
  | _ :: _, [], e, _, _ => by simp at e
  | p :: r, q :: t, e, h, l => by
    rw [List.map_cons, List.map_cons] at e h
    injection e with e1 e2
    cases h with
    | cons h1 h2 =>
      obtain ⟨p1, p2⟩ := p
      obtain ⟨q1, q2⟩ := q
      have e1' : p1 = q1 := e1
      subst e1'
      rw [List.lookup_cons] at l ⊢
      cases g : (f == p1) with
      | true => rw [g] at l; cases l; exact ⟨p2, rfl, h1⟩
      | false => rw [g] at l; exact lookup_rpl e2 h2 l
theorem lookup_none {f : Str} : ∀ {fs : List (Str × V)} {ds : List (Str × D)}, fs.map (·.1) = ds.map (·.1) → ds.lookup f = none → fs.lookup f = none
  | [], [], _, _ => rfl
  | [], _ :: _, e, _ => by simp at e
  | _ :: _, [], e, _ => by simp at e
  | p :: r, q :: t, e, l => by
    rw [List.map_cons, List.map_cons] at e
    injection e with e1 e2
    obtain ⟨p1, p2⟩ := p
    obtain ⟨q1, q2⟩ := q
    have e1' : p1 = q1 := e1
    subst e1'
    rw [List.lookup_cons] at l ⊢
    cases g : (f == p1) with
    | true => rw [g] at l; cases l
    | false => rw [g] at l; exact lookup_none e2 l
theorem pv_fld {f : Str} (h : PV X a w ls fun x w1 => ∃ C fs d, x = .ins C fs ∧ Cls X.K C ∧ NoAttr X.K C f ∧ fs.lookup f = some d ∧ R d w1) (hb : attributeBase a f X.env (eval a X.env) = eval a X.env := by rfl) : PV X (.Attribute a f pos) w ls R :=
  PE.mono (pe_fld h hb) fun σ H Q ⟨c, H0, r, q⟩ => ⟨c, H0, r, fun v x w1 c1 H01 H1 s1 p1 rx ⟨C, fs, d, e1, hC, hA, hl, z⟩ => by
    subst e1
    cases rx with
    | ins h1 h2 h3 =>
      obtain ⟨u, g1, g2⟩ := lookup_rpl h2 h3 hl
      exact ⟨_, C, _, _, u, rfl, s1.ex _ _ h1, hC, hA, g1, q u d w1 c1 H01 H1 s1 p1 g2 z⟩⟩
end
end Pd
set_option Elab.async false
set_option linter.all false
set_option maxRecDepth 100000
set_option maxHeartbeats 4000000
namespace Pd
open PySem PySem.Spec PyProof.Rows L2
open Evl (Ex)
section
variable {X : Cx} {e a b o i : Expr} {es : List Expr} {w : Wd} {ls : List L} {R : D → Wd → Prop} {pos : Pos}

/-! ### tests -/
theorem pb_pv {R : Bool → Wd → Prop} (h : PV X e w ls fun d w' => ∃ k, d = .bl k ∧ R k w') (he : ∀ whole, isTrue e X.env whole = (do let v ← whole; standAt e.pos; holding [v] (truthy v)) := by intro _; rfl) : PB X e w ls R :=
  PT.mono (pt_val h he) fun σ H Q ⟨c, H0, r, q⟩ => ⟨c, H0, r, fun v d w' c' H0' H' s p rp ⟨k, e1, z⟩ => by
    subst e1
    exact ⟨k, rp.bl_inv, q k w' c' H0' H' s p z⟩⟩
theorem pb_not {R : Bool → Wd → Prop} (h : PB X a w ls fun k w' => R (!k) w') : PB X (.UnaryOp .Not a pos) w ls R :=
  PT.mono (pt_not h) fun σ H Q ⟨c, H0, r, q⟩ => ⟨c, H0, r, fun k w' c' H0' H' s p z => q (!k) w' c' H0' H' s p z⟩
theorem pb_w {R : Bool → Wd → Prop} (h : PBw X e w ls R) : PB X e w ls R := PW.pt h
theorem pbw_and {rest : List Expr} {R : Bool → Wd → Prop} (h : PB X a w ls fun k w1 => if k = true then PBw X (.BoolOp .And (b :: rest) pos) w1 ls R else R false w1) : PBw X (.BoolOp .And (a :: b :: rest) pos) w ls R :=
  PW.mono (pw_and h pw_any) fun σ H Q ⟨c, H0, r, q⟩ => ⟨c, H0, r, fun k w1 c1 H01 H1 s p z => by
    cases k with
    | true => exact iteT ⟨_, (show PBw X _ w1 ls R by simpa using z), c1, H01, r.step s p, fun k2 w2 c2 H02 H2 s2 p2 z2 => q k2 w2 c2 H02 H2 (s.trans s2) p2 z2⟩
    | false => exact iteF (q false w1 c1 H01 H1 s p (by simpa using z))⟩
theorem pbw_or {rest : List Expr} {R : Bool → Wd → Prop} (h : PB X a w ls fun k w1 => if k = true then R true w1 else PBw X (.BoolOp .Or (b :: rest) pos) w1 ls R) : PBw X (.BoolOp .Or (a :: b :: rest) pos) w ls R :=
  PW.mono (pw_or h pw_any) fun σ H Q ⟨c, H0, r, q⟩ => ⟨c, H0, r, fun k w1 c1 H01 H1 s p z => by
    cases k with
    | true => exact iteT (q true w1 c1 H01 H1 s p (by simpa using z))
    | false => exact iteF ⟨_, (show PBw X _ w1 ls R by simpa using z), c1, H01, r.step s p, fun k2 w2 c2 H02 H2 s2 p2 z2 => q k2 w2 c2 H02 H2 (s.trans s2) p2 z2⟩⟩
theorem pbw_and1 {R : Bool → Wd → Prop} (h : PB X a w ls R) : PBw X (.BoolOp .And [a] pos) w ls R := pw_and1 h
theorem pbw_or1 {R : Bool → Wd → Prop} (h : PB X a w ls R) : PBw X (.BoolOp .Or [a] pos) w ls R := pw_or1 h
/-! as values -/
theorem pv_one {op} (h : PV X a w ls R) : PV X (.BoolOp op [a] pos) w ls R := pe_one h
theorem pv_and {rest : List Expr} (h : PV X a w ls fun x w1 => ∃ k, x = .bl k ∧ if k = true then PV X (.BoolOp .And (b :: rest) pos) w1 ls R else R (.bl false) w1) : PV X (.BoolOp .And (a :: b :: rest) pos) w ls R :=
  PE.mono (pe_and h (pe_any (e := .BoolOp .And (b :: rest) pos))) fun σ H Q ⟨c, H0, r, q⟩ => ⟨c, H0, r, fun v d w1 c1 H01 H1 s p rp ⟨k, e1, z⟩ => by
    subst e1
    refine ⟨k, rp.bl_inv, ?_⟩
    cases k with
    | true => exact iteT ⟨_, (show PV X _ w1 ls R by simpa using z), c1, H01, r.step s p, fun v2 d2 w2 c2 H02 H2 s2 p2 r2 z2 => q v2 d2 w2 c2 H02 H2 (s.trans s2) p2 r2 z2⟩
    | false => exact iteF (q (.bl false) _ w1 c1 H01 H1 s p (.bl _) (by simpa using z))⟩
theorem pv_or {rest : List Expr} (h : PV X a w ls fun x w1 => ∃ k, x = .bl k ∧ if k = true then R (.bl true) w1 else PV X (.BoolOp .Or (b :: rest) pos) w1 ls R) : PV X (.BoolOp .Or (a :: b :: rest) pos) w ls R :=
  PE.mono (pe_or h (pe_any (e := .BoolOp .Or (b :: rest) pos))) fun σ H Q ⟨c, H0, r, q⟩ => ⟨c, H0, r, fun v d w1 c1 H01 H1 s p rp ⟨k, e1, z⟩ => by
    subst e1
    refine ⟨k, rp.bl_inv, ?_⟩
    cases k with
    | true => exact iteT (q (.bl true) _ w1 c1 H01 H1 s p (.bl _) (by simpa using z))
    | false => exact iteF ⟨_, (show PV X _ w1 ls R by simpa using z), c1, H01, r.step s p, fun v2 d2 w2 c2 H02 H2 s2 p2 r2 z2 => q v2 d2 w2 c2 H02 H2 (s.trans s2) p2 r2 z2⟩⟩
theorem pv_not (h : PV X a w ls fun x w1 => ∃ k, x = .bl k ∧ R (.bl (!k)) w1) : PV X (.UnaryOp .Not a pos) w ls R :=
  PE.mono (pe_not h) fun σ H Q ⟨c, H0, r, q⟩ => ⟨c, H0, r, fun v d w1 c1 H01 H1 s p rp ⟨k, e1, z⟩ => by
    subst e1
    exact ⟨k, rp.bl_inv, q _ _ w1 c1 H01 H1 s p (.bl _) z⟩⟩
theorem pv_ifx {t : Expr} (h : PB X t w ls fun k w1 => (k = true → PV X a w1 ls R) ∧ (k = false → PV X b w1 ls R)) : PV X (.IfExp t a b pos) w ls R :=
  PE.mono (pe_ifExp h (pe_any (e := a)) (pe_any (e := b))) fun σ H Q ⟨c, H0, r, q⟩ => ⟨c, H0, r, fun k w1 c1 H01 H1 s p z => by
    cases k with
    | true => exact iteT ⟨_, z.1 rfl, c1, H01, r.step s p, fun v2 d2 w2 c2 H02 H2 s2 p2 r2 z2 => q v2 d2 w2 c2 H02 H2 (s.trans s2) p2 r2 z2⟩
    | false => exact iteF ⟨_, z.2 rfl, c1, H01, r.step s p, fun v2 d2 w2 c2 H02 H2 s2 p2 r2 z2 => q v2 d2 w2 c2 H02 H2 (s.trans s2) p2 r2 z2⟩⟩
/-! chains of ints: a op b op' c -/
variable {t3 : Expr}
theorem ei_chain {g g' : Int → Int → Bool} (h : PV X a w ls fun x w1 => PV X b w1 ls fun y w2 => ∃ i j, x = .int i ∧ y = .int j ∧ (g i j = true → PV X t3 w2 ls fun z w3 => ∃ k, z = .int k ∧ R (.bl (g' j k)) w3) ∧ (g i j = false → R (.bl false) w2)) :
    ∃ ta tb tc, PE X a ta ∧ PE X b tb ∧ PE X t3 tc ∧ ∀ σ H Q, EI X.K w ls R σ H Q → tChain (rI0 fun i j => .bl (g i j)) (rI0 fun i j => .bl (g' i j)) ta tb tc σ H Q := by
  refine ⟨_, anyE X b, anyE X t3, h, pe_any, pe_any, fun σ H Q ⟨c, H0, r0, q⟩ => ⟨c, H0, r0, fun v d w1 c1 H01 H1 s1 p1 rp1 hb => ?_⟩⟩
  refine ⟨_, hb, c1, H01, r0.step s1 p1, fun u d2 w2 c2 H02 H2 s2 p2 rp2 ⟨i, j, e1, e2, k1, k2⟩ => ?_⟩
  subst e1 e2
  rw [rp1.int_inv, rp2.int_inv]
  refine ⟨i, j, rfl, rfl, g i j, rfl, ?_⟩
  cases q1 : g i j with
  | true =>
    refine iteT ⟨_, k1 q1, c2, H02, (r0.step s1 p1).step s2 p2, fun z d3 w3 c3 H03 H3 s3 p3 rp3 ⟨k, e3, z3⟩ => ?_⟩
    subst e3
    rw [rp3.int_inv]
    exact ⟨j, k, rfl, rfl, q _ _ w3 c3 H03 H3 ((s1.trans s2).trans s3) p3 (.bl _) z3⟩
  | false => exact iteF (q _ _ w2 c2 H02 H2 (s1.trans s2) p2 (.bl _) (k2 q1))
theorem pv_lele (h : PV X a w ls fun x w1 => PV X b w1 ls fun y w2 => ∃ i j, x = .int i ∧ y = .int j ∧ (decide (i ≤ j) = true → PV X t3 w2 ls fun z w3 => ∃ k, z = .int k ∧ R (.bl (decide (j ≤ k))) w3) ∧ (decide (i ≤ j) = false → R (.bl false) w2))
    (hm : lastMarks [.LtE, .LtE] [b, t3] = false := by with_unfolding_all rfl) : PV X (.Compare a [.LtE, .LtE] [b, t3] pos) w ls R := by
  obtain ⟨ta, tb, tc, h1, h2, h3, k⟩ := ei_chain (R := R) h
  exact PE.mono (pe_chain op_le op_le h1 h2 h3 hm) k
theorem pb_lele {R : Bool → Wd → Prop} (h : PV X a w ls fun x w1 => PV X b w1 ls fun y w2 => ∃ i j, x = .int i ∧ y = .int j ∧ (decide (i ≤ j) = true → PV X t3 w2 ls fun z w3 => ∃ k, z = .int k ∧ R (decide (j ≤ k)) w3) ∧ (decide (i ≤ j) = false → R false w2))
    (hm : lastMarks [.LtE, .LtE] [b, t3] = false := by with_unfolding_all rfl) : PB X (.Compare a [.LtE, .LtE] [b, t3] pos) w ls R := by
  obtain ⟨ta, tb, tc, h1, h2, h3, k⟩ := ei_chain (X := X) (w := w) (ls := ls) (a := a) (b := b) (t3 := t3) (g := fun i j => decide (i ≤ j)) (g' := fun i j => decide (i ≤ j)) (R := fun d w' => ∃ k, d = .bl k ∧ R k w')
    (h.imp fun _ _ h1 => h1.imp fun _ _ ⟨i, j, e1, e2, k1, k2⟩ => ⟨i, j, e1, e2, fun q => (k1 q).imp fun _ _ ⟨k, e3, z⟩ => ⟨k, e3, _, rfl, z⟩, fun q => ⟨false, rfl, k2 q⟩⟩)
  refine PT.mono (pt_chain op_le op_le h1 h2 h3 hm) fun σ H Q ⟨c, H0, r, q⟩ => k σ H _ ⟨c, H0, r, fun v d w' c' H0' H' s p rp ⟨kk, e1, z⟩ => ?_⟩
  subst e1
  exact ⟨kk, rp.bl_inv, q kk w' c' H0' H' s p z⟩

/-! ### arguments, displays -/
theorem pas_nil {R : List D → Wd → Prop} (h : R [] w) : PAs X [] w ls R := PA.mono pa_nil fun σ H Q ⟨c, H0, r, q⟩ => q [] [] w c H0 H (Stp.refl r.ex) r.wd .nil h
theorem pas_cons {R : List D → Wd → Prop} (h : PV X e w ls fun d w1 => PAs X es w1 ls fun ds w2 => R (d :: ds) w2) (hs : starEach (e :: es) X.env = (false, eval e X.env) :: starEach es X.env := by rfl) : PAs X (e :: es) w ls R :=
  PA.mono (pa_cons h (pa_any (es := es)) hs) fun σ H Q ⟨c, H0, r, q⟩ => ⟨c, H0, r, fun v d w1 c1 H01 H1 s p rp z => ⟨_, z, c1, H01, r.step s p, fun vs ds w2 c2 H02 H2 s2 p2 rps z2 =>
    q (v :: vs) (d :: ds) w2 c2 H02 H2 (s.trans s2) p2 (.cons (rp.ex s2.e0) rps) z2⟩⟩
theorem pas_star {R : List D → Wd → Prop} {p : Pos} (h : PV X e w ls fun d w1 => ∃ ds, IsT d ds ∧ PAs X es w1 ls fun ds2 w2 => R (ds ++ ds2) w2) (hs : starEach (.Starred e p :: es) X.env = (true, eval e X.env) :: starEach es X.env := by rfl) : PAs X (.Starred e p :: es) w ls R :=
  PA.mono (StX.pa_star h (pa_any (es := es)) hs) fun σ H Q ⟨c, H0, r, q⟩ => ⟨c, H0, r, fun v d w1 c1 H01 H1 s p rp ⟨ds, e1, z⟩ => by
    obtain ⟨a, vs, rfl, hq, hr⟩ := e1.v rp
    exact ⟨a, vs, rfl, .inl (sqT_ex s.ex hq), _, z, c1, H01, r.step s p, fun ws ds2 w2 c2 H02 H2 s2 p2 rps z2 => q _ _ w2 c2 H02 H2 (s.trans s2) p2 ((hr.ex s2.e0).append rps) z2⟩⟩
theorem pv_tup {x1} (h : PAs X es w ls fun ds w1 => ds.length ≤ 100000 ∧ R (.tup ds) w1) : PV X (.Tuple es x1 pos) w ls R :=
  PE.mono (pe_tup h) fun σ H Q ⟨c, H0, r, q⟩ => ⟨c, H0, r, fun vs ds w1 c1 H01 H1 s p rps ⟨hl, z⟩ => ⟨by rw [rps.length]; exact Evl.sz_of hl, fun n hn =>
    q (.ref n) (.tup ds) w1 c1 (upd H01 n (.tup vs)) (upd H1 n (.tup vs)) (s.trans (Stp.new s.ex hn)) (Wd.new p (none_of_ex s.ex hn) hn) (.tup upd_same (rps.ex (Ex.new (none_of_ex s.ex hn)))) z⟩⟩
theorem stp_new0 {c c' : Addr → Prop} {H0 H H0' H' : Hp} {n : Addr} (s : Stp c H0 H c' H0' H') (hn : H' n = none) : H n = none := by
  cases g : H n with
  | none => rfl
  | some oo => exact absurd hn (s.h n (by rw [g]; exact fun z => nomatch z))
theorem pn_lst {R : List D → Wd → Prop} (h : PAs X es w ls fun ds w1 => ds.length ≤ 100000 ∧ R ds w1) : PN X (.List es pos) w ls R :=
  PE.mono (pe_lst h) fun σ H Q ⟨c, H0, r, q⟩ => ⟨c, H0, r, fun vs ds w1 c1 H01 H1 s p rps ⟨hl, z⟩ => ⟨by rw [rps.length]; exact Evl.sz_of hl, fun n hn =>
    q n vs ds w1 c1 H01 (upd H1 n (.lst vs)) (s.trans (Stp.newO s.ex hn)) (Wd.newO p hn) (stp_new0 s hn) (none_of_ex s.ex hn) (fun hc => (w1.live p hc).1.1 hn) upd_same rps z⟩⟩

/-! ### built-ins -/
def CallD (K : PySem.W.Frag) (r : List V → Hp → VK → Prop) (w : Wd) (ds : List D) (R : D → Wd → Prop) : Prop := ∀ (c : Addr → Prop) (H0 H : Hp) (vs : List V), Ex H0 H → w.p c H0 H → RpL K H0 vs ds → ∀ Q : VK,
  (∀ z d w' c' H0' H', Stp c H0 H c' H0' H' → w'.p c' H0' H' → Rp K H0' z d → R d w' → Q z H') → r vs H Q
theorem ei_args {r : List V → Hp → VK → Prop} (h : PAs X es w ls fun ds w1 => CallD X.K r w1 ds R) : ∀ σ H Q, EI X.K w ls R σ H Q → tCB r (AI X.K w ls fun ds w1 => CallD X.K r w1 ds R) σ H Q :=
  fun σ H Q ⟨c, H0, r0, q⟩ => ⟨c, H0, r0, fun vs ds w1 c1 H01 H1 s p rps z => z c1 H01 H1 vs s.ex p rps Q fun u d w2 c2 H02 H2 s2 p2 rp z2 => q u d w2 c2 H02 H2 (s.trans s2) p2 rp z2⟩
variable {x : Str} {p : Pos} {id T : String} {r : List V → Hp → VK → Prop}
theorem pv_callB (hc : CallR X (.builtin id) r) (hm : X.mg x = none) (hv : bootBuiltins x = some (.builtin id)) (h : PAs X (e :: es) w ls fun ds w1 => CallD X.K r w1 ds R) (hg : Gl X x := by rfl) (hn : x ≠ "__name__" := by decide) (hdb : (x == ("__debug__" : Str)) = false := by decide)
    (he : starEach (e :: es) X.env = (false, eval e X.env) :: starEach es X.env := by rfl) (hpl : (backTo pos (starEach es X.env)).any (·.1) = false := by rfl) : PV X (.Call (.Name x p) (e :: es) [] pos) w ls R :=
  PE.mono (pe_callB hc hg hm hv h hn hdb he hpl) (ei_args h)
theorem pv_callTy (hc : CallR X (.type T) r) (hm : X.mg x = none) (hv : bootBuiltins x = some (.type T)) (h : PAs X (e :: es) w ls fun ds w1 => CallD X.K r w1 ds R) (hg : Gl X x := by rfl) (hn : x ≠ "__name__" := by decide) (hdb : (x == ("__debug__" : Str)) = false := by decide)
    (he : starEach (e :: es) X.env = (false, eval e X.env) :: starEach es X.env := by rfl) (hpl : (backTo pos (starEach es X.env)).any (·.1) = false := by rfl) : PV X (.Call (.Name x p) (e :: es) [] pos) w ls R :=
  PE.mono (pe_callTy hc hg hm hv h hn hdb he hpl) (ei_args h)
/-- one list that is read, as the argument -/
def Call1Q (K : PySem.W.Frag) (r : List V → Hp → VK → Prop) (w : Wd) (ds : List D) (R : D → Wd → Prop) : Prop := ∀ (c : Addr → Prop) (H0 H : Hp) (p : Addr) (vs : List V), Ex H0 H → w.p c H0 H → H p = some (.lst vs) → RpL K H0 vs ds → ∀ Q : VK,
  (∀ z d w' c' H0' H', Stp c H0 H c' H0' H' → w'.p c' H0' H' → Rp K H0' z d → R d w' → Q z H') → r [.ref p] H Q
theorem ei_argQ {r : List V → Hp → VK → Prop} (h : PQ X e w ls fun ds w1 => Call1Q X.K r w1 ds R) : ∀ σ H Q, EI X.K w ls R σ H Q → tCB r (tCons (QI X.K w ls fun ds w1 => Call1Q X.K r w1 ds R) tNil) σ H Q :=
  fun σ H Q ⟨c, H0, r0, q⟩ => ⟨c, H0, r0, fun p vs ds w1 c1 H01 H1 s pp nc hp rps z => z c1 H01 H1 p vs s.ex pp hp rps Q fun u d w2 c2 H02 H2 s2 p2 rp z2 => q u d w2 c2 H02 H2 (s.trans s2) p2 rp z2⟩
theorem pv_callBQ (hc : CallR X (.builtin id) r) (hm : X.mg x = none) (hv : bootBuiltins x = some (.builtin id)) (h : PQ X e w ls fun ds w1 => Call1Q X.K r w1 ds R) (hg : Gl X x := by rfl) (hn : x ≠ "__name__" := by decide) (hdb : (x == ("__debug__" : Str)) = false := by decide)
    (he : starEach [e] X.env = (false, eval e X.env) :: starEach [] X.env := by rfl) (hpl : (backTo pos (starEach [] X.env)).any (·.1) = false := by rfl) : PV X (.Call (.Name x p) [e] [] pos) w ls R :=
  PE.mono (pe_callB hc hg hm hv (pa_cons h pa_nil he) hn hdb he hpl) (ei_argQ h)
theorem pv_callTyQ (hc : CallR X (.type T) r) (hm : X.mg x = none) (hv : bootBuiltins x = some (.type T)) (h : PQ X e w ls fun ds w1 => Call1Q X.K r w1 ds R) (hg : Gl X x := by rfl) (hn : x ≠ "__name__" := by decide) (hdb : (x == ("__debug__" : Str)) = false := by decide)
    (he : starEach [e] X.env = (false, eval e X.env) :: starEach [] X.env := by rfl) (hpl : (backTo pos (starEach [] X.env)).any (·.1) = false := by rfl) : PV X (.Call (.Name x p) [e] [] pos) w ls R :=
  PE.mono (pe_callTy hc hg hm hv (pa_cons h pa_nil he) hn hdb he hpl) (ei_argQ h)
/-! len -/
theorem pv_lenQ (hm : X.mg "len" = none) (h : PQ X e w ls fun ds w1 => R (.int ds.length) w1) (hg : Gl X "len" := by rfl)
    (he : starEach [e] X.env = (false, eval e X.env) :: starEach [] X.env := by rfl) (hpl : (backTo pos (starEach [] X.env)).any (·.1) = false := by rfl) : PV X (.Call (.Name "len" p) [e] [] pos) w ls R := by
  refine pv_callBQ call_len_seq hm PySem.boot_len ?_ hg (by decide) (by decide) he hpl
  exact PE.mono h fun σ H Q ⟨c, H0, r, q⟩ => ⟨c, H0, r, fun p vs ds w' c' H0' H' s hp nc h2 h3 z => q p vs ds w' c' H0' H' s hp nc h2 h3 fun c H0 H p vs ex hw hp hr Q q =>
    ⟨p, vs, rfl, .inl (.inl (.inl hp)), by rw [hr.length]; exact q _ _ _ c H0 H (Stp.refl ex) hw (.int _) z⟩⟩
theorem pv_lenT (hm : X.mg "len" = none) (h : PV X e w ls fun d w1 => ∃ ds, IsT d ds ∧ R (.int ds.length) w1) (hg : Gl X "len" := by rfl)
    (he : starEach [e] X.env = (false, eval e X.env) :: starEach [] X.env := by rfl) (hpl : (backTo pos (starEach [] X.env)).any (·.1) = false := by rfl) : PV X (.Call (.Name "len" p) [e] [] pos) w ls R := by
  refine pv_callB call_len_seq hm PySem.boot_len (pas_cons (h.imp fun d w1 ⟨ds, e1, z⟩ => pas_nil ?_) he) hg (by decide) (by decide) he hpl
  intro c H0 H vs ex hw hr Q q
  cases hr with
  | cons h1 h2 =>
    cases h2
    obtain ⟨p', us, rfl, hq, hr⟩ := e1.v h1
    exact ⟨p', us, rfl, .inr (sqT_ex ex hq), by rw [hr.length]; exact q _ _ _ c H0 H (Stp.refl ex) hw (.int _) z⟩
theorem pv_lenS (hm : X.mg "len" = none) (h : PV X e w ls fun d w1 => ∃ s, d = .str s ∧ s.length ≤ 100000 ∧ R (.int s.length) w1) (hg : Gl X "len" := by rfl)
    (he : starEach [e] X.env = (false, eval e X.env) :: starEach [] X.env := by rfl) (hpl : (backTo pos (starEach [] X.env)).any (·.1) = false := by rfl) : PV X (.Call (.Name "len" p) [e] [] pos) w ls R := by
  refine pv_callB call_len_str hm PySem.boot_len (pas_cons (h.imp fun d w1 ⟨s, e1, hl, z⟩ => pas_nil ?_) he) hg (by decide) (by decide) he hpl
  intro c H0 H vs ex hw hr Q q
  subst e1
  cases hr with
  | cons h1 h2 =>
    cases h2
    rw [h1.str_inv]
    exact ⟨s, rfl, Evl.sz_of hl, q _ _ _ c H0 H (Stp.refl ex) hw (.int _) z⟩
/-! int, abs, max, str -/
theorem pv_intI (hm : X.mg "int" = none) (h : PV X e w ls fun d w1 => ∃ i, d = .int i ∧ R (.int i) w1) (hg : Gl X "int" := by rfl)
    (he : starEach [e] X.env = (false, eval e X.env) :: starEach [] X.env := by rfl) (hpl : (backTo pos (starEach [] X.env)).any (·.1) = false := by rfl) : PV X (.Call (.Name "int" p) [e] [] pos) w ls R := by
  refine pv_callTy call_int1 hm boot_int (pas_cons (h.imp fun d w1 ⟨i, e1, z⟩ => pas_nil ?_) he) hg (by decide) (by decide) he hpl
  intro c H0 H vs ex hw hr Q q
  subst e1
  cases hr with
  | cons h1 h2 =>
    cases h2
    rw [h1.int_inv]
    exact .inl ⟨i, rfl, q _ _ _ c H0 H (Stp.refl ex) hw (.int _) z⟩
theorem pv_intB (hm : X.mg "int" = none) (h : PV X e w ls fun d w1 => ∃ k, d = .bl k ∧ R (.int (if k then 1 else 0)) w1) (hg : Gl X "int" := by rfl)
    (he : starEach [e] X.env = (false, eval e X.env) :: starEach [] X.env := by rfl) (hpl : (backTo pos (starEach [] X.env)).any (·.1) = false := by rfl) : PV X (.Call (.Name "int" p) [e] [] pos) w ls R := by
  refine pv_callTy call_int1 hm boot_int (pas_cons (h.imp fun d w1 ⟨i, e1, z⟩ => pas_nil ?_) he) hg (by decide) (by decide) he hpl
  intro c H0 H vs ex hw hr Q q
  subst e1
  cases hr with
  | cons h1 h2 =>
    cases h2
    rw [h1.bl_inv]
    exact .inr ⟨i, rfl, q _ _ _ c H0 H (Stp.refl ex) hw (.int _) z⟩
theorem pv_abs (hm : X.mg "abs" = none) (h : PV X e w ls fun d w1 => ∃ i, d = .int i ∧ R (.int (if i < 0 then -i else i)) w1) (hg : Gl X "abs" := by rfl)
    (he : starEach [e] X.env = (false, eval e X.env) :: starEach [] X.env := by rfl) (hpl : (backTo pos (starEach [] X.env)).any (·.1) = false := by rfl) : PV X (.Call (.Name "abs" p) [e] [] pos) w ls R := by
  refine pv_callB call_abs hm boot_abs (pas_cons (h.imp fun d w1 ⟨i, e1, z⟩ => pas_nil ?_) he) hg (by decide) (by decide) he hpl
  intro c H0 H vs ex hw hr Q q
  subst e1
  cases hr with
  | cons h1 h2 =>
    cases h2
    rw [h1.int_inv]
    exact ⟨i, rfl, q _ _ _ c H0 H (Stp.refl ex) hw (.int _) z⟩
theorem pv_strI (hm : X.mg "str" = none) (h : PV X e w ls fun d w1 => ∃ i, d = .int i ∧ i.natAbs.log2 < 1920 ∧ R (.str (toString i)) w1) (hg : Gl X "str" := by rfl)
    (he : starEach [e] X.env = (false, eval e X.env) :: starEach [] X.env := by rfl) (hpl : (backTo pos (starEach [] X.env)).any (·.1) = false := by rfl) : PV X (.Call (.Name "str" p) [e] [] pos) w ls R := by
  refine pv_callTy call_str_int hm boot_str (pas_cons (h.imp fun d w1 ⟨i, e1, hl, z⟩ => pas_nil ?_) he) hg (by decide) (by decide) he hpl
  intro c H0 H vs ex hw hr Q q
  subst e1
  cases hr with
  | cons h1 h2 =>
    cases h2
    rw [h1.int_inv]
    exact ⟨i, rfl, hl, q _ _ _ c H0 H (Stp.refl ex) hw (.str _) z⟩
theorem pv_max2 (hca : X.calm = true) (hm : X.mg "max" = none) (h : PV X a w ls fun d w1 => PV X b w1 ls fun d2 w2 => ∃ i j, d = .int i ∧ d2 = .int j ∧ R (.int (if j > i then j else i)) w2) (hg : Gl X "max" := by rfl)
    (he : starEach [a, b] X.env = (false, eval a X.env) :: starEach [b] X.env := by rfl) (he2 : starEach [b] X.env = (false, eval b X.env) :: starEach [] X.env := by rfl) (hpl : (backTo pos (starEach [b] X.env)).any (·.1) = false := by rfl) : PV X (.Call (.Name "max" p) [a, b] [] pos) w ls R := by
  refine pv_callB (call_max2 hca) hm boot_max (pas_cons (h.imp fun d w1 h1 => pas_cons (h1.imp fun d2 w2 ⟨i, j, e1, e2, z⟩ => pas_nil ?_) he2) he) hg (by decide) (by decide) he hpl
  intro c H0 H vs ex hw hr Q q
  subst e1 e2
  cases hr with
  | cons h1 h2 =>
    cases h2 with
    | cons h2 h3 =>
      cases h3
      rw [h1.int_inv, h2.int_inv]
      exact ⟨i, j, rfl, q _ _ _ c H0 H (Stp.refl ex) hw (.int _) z⟩
theorem pq_call1 {r : List V → Hp → VK → Prop} {R0 : List D → Wd → Prop} (h : PQ X e w ls R0) (k : ∀ ds w1, R0 ds w1 → Call1Q X.K r w1 ds R) : PQ X e w ls fun ds w1 => Call1Q X.K r w1 ds R :=
  PE.mono h fun σ H Q ⟨c, H0, r, q⟩ => ⟨c, H0, r, fun p vs ds w' c' H0' H' s hp nc h2 h3 z => q p vs ds w' c' H0' H' s hp nc h2 h3 (k ds w' z)⟩
theorem pv_maxQ (hca : X.calm = true) (hm : X.mg "max" = none) (h : PQ X e w ls fun ds w1 => ∃ ns : List Int, ds = ns.map .int ∧ 0 < ns.length ∧ ∀ m, m ∈ ns → (∀ y, y ∈ ns → y ≤ m) → R (.int m) w1) (hg : Gl X "max" := by rfl)
    (he : starEach [e] X.env = (false, eval e X.env) :: starEach [] X.env := by rfl) (hpl : (backTo pos (starEach [] X.env)).any (·.1) = false := by rfl) : PV X (.Call (.Name "max" p) [e] [] pos) w ls R := by
  refine pv_callBQ (cr_max hca) hm boot_max (pq_call1 h fun ds w1 ⟨ns, e1, hl, z⟩ => ?_) hg (by decide) (by decide) he hpl
  intro c H0 H p vs ex hw hp hr Q q
  subst e1
  rw [RpL.ints_inv hr] at hp
  exact ⟨p, ns, rfl, .inl (.inl hp), hl, fun m hm hy => q _ _ _ c H0 H (Stp.refl ex) hw (.int _) (z m hm hy)⟩
theorem pv_allQ (hca : X.calm = true) (hm : X.mg "all" = none) (h : PQ X e w ls fun ds w1 => ∃ bs : List Bool, ds = bs.map .bl ∧ R (.bl (bs.all fun x => x)) w1) (hg : Gl X "all" := by rfl)
    (he : starEach [e] X.env = (false, eval e X.env) :: starEach [] X.env := by rfl) (hpl : (backTo pos (starEach [] X.env)).any (·.1) = false := by rfl) : PV X (.Call (.Name "all" p) [e] [] pos) w ls R := by
  refine pv_callBQ (cr_all hca) hm boot_all (pq_call1 h fun ds w1 ⟨ns, e1, z⟩ => ?_) hg (by decide) (by decide) he hpl
  intro c H0 H p vs ex hw hp hr Q q
  subst e1
  rw [RpL.bls_inv hr] at hp
  exact ⟨p, ns, rfl, .inl (.inl hp), q _ _ _ c H0 H (Stp.refl ex) hw (.bl _) z⟩
theorem pv_anyQ (hca : X.calm = true) (hm : X.mg "any" = none) (h : PQ X e w ls fun ds w1 => ∃ bs : List Bool, ds = bs.map .bl ∧ R (.bl (bs.any fun x => x)) w1) (hg : Gl X "any" := by rfl)
    (he : starEach [e] X.env = (false, eval e X.env) :: starEach [] X.env := by rfl) (hpl : (backTo pos (starEach [] X.env)).any (·.1) = false := by rfl) : PV X (.Call (.Name "any" p) [e] [] pos) w ls R := by
  refine pv_callBQ (cr_any hca) hm boot_any (pq_call1 h fun ds w1 ⟨ns, e1, z⟩ => ?_) hg (by decide) (by decide) he hpl
  intro c H0 H p vs ex hw hp hr Q q
  subst e1
  rw [RpL.bls_inv hr] at hp
  exact ⟨p, ns, rfl, .inl (.inl hp), q _ _ _ c H0 H (Stp.refl ex) hw (.bl _) z⟩
end
end Pd
set_option Elab.async false
set_option linter.all false
set_option maxRecDepth 100000
set_option maxHeartbeats 4000000
namespace Pd
open PySem PySem.Spec PyProof.Rows L2
open Evl (Ex)
abbrev noC : Addr → Prop := fun _ => False
/-- a promise without a heap: S of the data, of what is wanted of the answer -/
def spD (K : PySem.W.Frag) (S : List D → (D → Prop) → Prop) : Sp := fun vs H Q _ => ∃ (H0 : Hp) (ds : List D) (R : D → Prop), Ex H0 H ∧ RpL K H0 vs ds ∧ S ds R ∧
  ∀ v d H0' H', Stp noC H0 H noC H0' H' → Rp K H0' v d → R d → Q v H'
section
variable {X : Cx} {e a b o i : Expr} {es : List Expr} {w : Wd} {ls : List L} {R : D → Wd → Prop} {pos p : Pos} {CX : CXT} {k : Nat} {f C : Addr} {fd : FuncData} {ps : List Str} {S : List D → (D → Prop) → Prop} {dvs : List V} {dds : List D} {dvl : List Value} {E : XK} {x m : Str}
theorem call_pure {c c1 : Addr → Prop} {H0 H H01 H1 : Hp} {Q : VK} {vs : List V} {ds : List D} {w1 : Wd} (q : ∀ v d w' c' H0' H', Stp c H0 H c' H0' H' → w'.p c' H0' H' → Rp X.K H0' v d → R d w' → Q v H') (s : Stp c H0 H c1 H01 H1) (p1 : w1.p c1 H01 H1)
    (rps : RpL X.K H01 vs ds) (z : S ds fun d => R d w1) : spD X.K S vs H1 Q E :=
  ⟨H01, ds, _, s.ex, rps, z, fun v d H0' H' s2 rp z2 => q v d w1 c1 H0' H' (s.trans s2.of_pure) (Wd.of_pure p1 s2) rp z2⟩
/-- f(e, ..), f a def with a pure promise -/
theorem pv_call (F : FnOk X.prog X.w X.K X.mg X.base CX k f fd ps (spD X.K S)) (hr : Room k X.A) (hm : X.mg x = some (.ref f)) (hk : PySem.W.keepIn X.K (.ref f) = true) (hb : Binds X.K fd ps dvl) (hd : Vals dvs dvl) (hx : Passes CX X E) (hdd : ∀ H, RpL X.K H dvs dds)
    (h : PAs X (e :: es) w ls fun ds w1 => S (ds ++ dds) fun d => R d w1) (hg : Gl X x := by rfl) (hdb : (x == ("__debug__" : Str)) = false := by decide) (he : starEach (e :: es) X.env = (false, eval e X.env) :: starEach es X.env := by rfl) (hpl : (backTo pos (starEach es X.env)).any (·.1) = false := by rfl) :
    PV X (.Call (.Name x p) (e :: es) [] pos) w ls R :=
  PE.mono (pe_call F hr hg hm hk hb hd hx h hdb he hpl) fun σ H Q ⟨c, H0, r, q⟩ => ⟨c, H0, r, fun vs ds w1 c1 H01 H1 s p1 rps z => call_pure (E := E) q s p1 (rps.append (hdd _)) z⟩
/-- o.m(e, ..) of an instance that stands still -/
theorem pv_meth {apos : Pos} {pl : Sem Bool} (hC : Cls X.K C) (hm : Meth X.K C m f) (F : FnOk X.prog X.w X.K X.mg X.base CX k f fd ps (spD X.K S)) (hr : Room k X.A) (hb : Binds X.K fd ps dvl) (hd : Vals dvs dvl) (hx : Passes CX X E) (hdd : ∀ H, RpL X.K H dvs dds)
    (h : PV X o w ls fun x w1 => ∃ fs, x = .ins C fs ∧ fs.lookup m = none ∧ PAs X (e :: es) w1 ls fun ds w2 => S (x :: (ds ++ dds)) fun d => R d w2)
    (he : starEach (e :: es) X.env = (false, eval e X.env) :: starEach es X.env := by rfl) (hpl : (backTo pos (starEach es X.env)).any (·.1) = false := by rfl)
    (ht : eval (.Call (.Attribute o m apos) (e :: es) [] pos) X.env = (do
      let ov ← eval o X.env
      standAt apos.atName
      let (f, first) ← holding [ov] (getMethod ov m pl)
      callWith pos f first (backTo pos (starEach (e :: es) X.env)) (backToKw pos (keywordEach [] X.env))) := by rfl) : PV X (.Call (.Attribute o m apos) (e :: es) [] pos) w ls R := by
  refine PE.mono (pe_meth h hC hm F hr hb hd hx (pa_any (es := e :: es)) he hpl ht) fun σ H Q ⟨c, H0, r, q⟩ => ⟨c, H0, r, fun v d w1 c1 H01 H1 s p1 rp ⟨fs, e1, hl, z⟩ => ?_⟩
  subst e1
  have rp' := rp
  cases rp with
  | ins h1 h2 h3 =>
    exact ⟨_, _, _, rfl, s.ex _ _ h1, lookup_none h2 hl, _, z, c1, H01, r.step s p1, fun vs ds w2 c2 H02 H2 s2 p2 rps z2 => call_pure (E := E) q (s.trans s2) p2 (.cons (rp'.ex s2.e0) (rps.append (hdd _))) z2⟩
/-- o.m() -/
theorem pv_meth0 {apos : Pos} {pl : Sem Bool} (hC : Cls X.K C) (hm : Meth X.K C m f) (F : FnOk X.prog X.w X.K X.mg X.base CX k f fd ps (spD X.K S)) (hr : Room k X.A) (hb : Binds X.K fd ps dvl) (hd : Vals dvs dvl) (hx : Passes CX X E) (hdd : ∀ H, RpL X.K H dvs dds)
    (h : PV X o w ls fun x w1 => ∃ fs, x = .ins C fs ∧ fs.lookup m = none ∧ S (x :: dds) fun d => R d w1)
    (ht : eval (.Call (.Attribute o m apos) [] [] pos) X.env = (do
      let ov ← eval o X.env
      standAt apos.atName
      let (f, first) ← holding [ov] (getMethod ov m pl)
      callWith pos f first (backTo pos (starEach [] X.env)) (backToKw pos (keywordEach [] X.env))) := by rfl) : PV X (.Call (.Attribute o m apos) [] [] pos) w ls R := by
  refine PE.mono (pe_meth0 h hC hm F hr hb hd hx ht) fun σ H Q ⟨c, H0, r, q⟩ => ⟨c, H0, r, fun v d w1 c1 H01 H1 s p1 rp ⟨fs, e1, hl, z⟩ => ?_⟩
  subst e1
  have rp' := rp
  cases rp with
  | ins h1 h2 h3 => exact ⟨_, _, _, rfl, s.ex _ _ h1, lookup_none h2 hl, call_pure (E := E) q s p1 (.cons rp' (hdd _)) z⟩
/-- o.f, a property -/
theorem pv_prop {g pa : Addr} (hC : Cls X.K C) (hp : PropOf X.K C m pa g) (F : FnOk X.prog X.w X.K X.mg X.base CX k g fd ps (spD X.K S)) (hr : Room (k + 1) X.A) (hb : Binds X.K fd ps dvl) (hd : Vals dvs dvl) (hx : Passes CX X.nox E) (hdd : ∀ H, RpL X.K H dvs dds)
    (h : PV X o w ls fun x w1 => ∃ fs, x = .ins C fs ∧ S (x :: dds) fun d => R d w1) (hab : attributeBase o m X.env (eval o X.env) = eval o X.env := by rfl) : PV X (.Attribute o m pos) w ls R := by
  refine PE.mono (pe_prop h hC hp F hr hb hd hx hab) fun σ H Q ⟨c, H0, r, q⟩ => ⟨c, H0, r, fun v d w1 c1 H01 H1 s p1 rp ⟨fs, e1, z⟩ => ?_⟩
  subst e1
  have rp' := rp
  cases rp with
  | ins h1 h2 h3 => exact ⟨_, _, _, rfl, s.ex _ _ h1, call_pure (E := E) q s p1 (.cons rp' (hdd _)) z⟩

/-! ### statements -/
variable {st : Stmt} {rest : List Stmt} {N : List L → Wd → Prop}
theorem SV.imp {N' : List L → Wd → Prop} (h : SV X st w ls N R) (k : ∀ l w, N l w → N' l w) : SV X st w ls N' R :=
  PS.mono h fun Dn σ H ⟨E, c, H0, r, s, o, q1, q2⟩ => ⟨E, c, H0, r, s, o, fun ls' w' c' H0' σ' H' r' s' o' z => q1 ls' w' c' H0' σ' H' r' s' o' (k _ _ z), q2⟩
theorem ss_nil (h : N ls w) : SVs X [] w ls N R := PSs.mono pss_nil fun Dn σ H ⟨E, c, H0, r, s, o, q1, q2⟩ => q1 ls w c H0 σ H r s o h
theorem ss_cons (h : SV X st w ls (fun ls' w' => SVs X rest w' ls' N R) R) : SVs X (st :: rest) w ls N R :=
  PSs.mono (pss_cons h (pss_any (st := rest))) fun Dn σ H ⟨E, c, H0, r, s, o, q1, q2⟩ => ⟨E, c, H0, r, s, o, fun ls' w' c' H0' σ' H' r' s' o' z => ⟨_, z, E, c', H0', r', s', o', q1, q2⟩, q2⟩
theorem ss_one (h : SV X st w ls N R) : SVs X [st] w ls N R := pss_one h
theorem s_pass (h : N ls w) : SV X (.Pass pos) w ls N R := PS.mono ps_pass fun Dn σ H ⟨E, c, H0, r, s, o, q1, q2⟩ => q1 ls w c H0 σ H r s o h
theorem s_ret (h : PV X e w ls R) : SV X (.Return (some e) pos) w ls N R :=
  PS.mono (ps_ret h) fun Dn σ H ⟨E, c, H0, r, s, o, q1, q2⟩ => ⟨c, H0, r, fun v d w' c' H0' H' s2 p rp z => q2 v d w' c' H0' H' (s.trans s2) p rp z⟩
theorem s_retN (h : R .non w) : SV X (.Return none pos) w ls N R := PS.mono ps_retN fun Dn σ H ⟨E, c, H0, r, s, o, q1, q2⟩ => q2 .non .non w c H0 H s r.wd .non h
theorem s_expr (h : PV X e w ls fun _ w' => N ls w') (hs : swapsWith e none pos.line X.env = pure false := by rfl) : SV X (.Expr e pos) w ls N R :=
  PS.mono (ps_expr h hs) fun Dn σ H ⟨E, c, H0, r, s, o, q1, q2⟩ => ⟨c, H0, r, fun v d w' c' H0' H' s2 p rp z => q1 ls w' c' H0' σ H' (r.step s2 p) (s.trans s2) o z⟩
theorem s_if {t : Expr} {A B : List Stmt} (h : PB X t w ls fun k w1 => (k = true → SVs X A w1 ls N R) ∧ (k = false → SVs X B w1 ls N R)) : SV X (.If t A B pos) w ls N R :=
  PS.mono (ps_if h (pss_any (st := A)) (pss_any (st := B))) fun Dn σ H ⟨E, c, H0, r, s, o, q1, q2⟩ => ⟨c, H0, r, fun k w1 c1 H01 H1 s2 p z => by
    cases k with
    | true => exact iteT ⟨_, z.1 rfl, E, c1, H01, r.step s2 p, s.trans s2, o, q1, q2⟩
    | false => exact iteF ⟨_, z.2 rfl, E, c1, H01, r.step s2 p, s.trans s2, o, q1, q2⟩⟩
/-! targets -/
theorem At.im_of {K : PySem.W.Frag} {H0 H : Hp} {v : V} {d : D} (h : Rp K H0 v d) : At K H0 H (some (some v)) (.im d) := ⟨v, rfl, h⟩
theorem Rel.set {K : PySem.W.Frag} {c : Addr → Prop} {H0 H : Hp} {σ : St} {v : V} {d : D} (j : Nat) (r : Rel K c w H0 σ H ls) (h : Rp K H0 v d) : Rel K c w H0 (σ.set j (some v)) H (ls.set j (.im d)) := by
  have hl := r.len
  refine ⟨r.ex, r.wd, by rw [List.length_set, List.length_set]; exact hl, fun n l e => ?_, fun n n' l l' p hne e1 e2 o1 o2 q1 q2 => ?_, fun n l p e o q => ?_⟩
  · by_cases q : j = n
    · subst q
      by_cases hj : j < ls.length
      · rw [List.getElem?_set_self hj] at e
        cases e
        rw [List.getElem?_set_self (by rw [hl]; exact hj)]
        exact ⟨v, rfl, h⟩
      · rw [List.getElem?_eq_none (by rw [List.length_set]; omega)] at e; cases e
    · rw [List.getElem?_set_ne q] at e ⊢
      exact r.at_ n l e
  · have n1 : j ≠ n := fun z => by
      subst z
      by_cases hj : j < ls.length
      · rw [List.getElem?_set_self hj] at e1; cases e1; exact o1
      · rw [List.getElem?_eq_none (by rw [List.length_set]; omega)] at e1; cases e1
    have n2 : j ≠ n' := fun z => by
      subst z
      by_cases hj : j < ls.length
      · rw [List.getElem?_set_self hj] at e2; cases e2; exact o2
      · rw [List.getElem?_eq_none (by rw [List.length_set]; omega)] at e2; cases e2
    rw [List.getElem?_set_ne n1] at e1 q1
    rw [List.getElem?_set_ne n2] at e2 q2
    exact r.sep n n' l l' p hne e1 e2 o1 o2 q1 q2
  · have n1 : j ≠ n := fun z => by
      subst z
      by_cases hj : j < ls.length
      · rw [List.getElem?_set_self hj] at e; cases e; exact o
      · rw [List.getElem?_eq_none (by rw [List.length_set]; omega)] at e; cases e
    rw [List.getElem?_set_ne n1] at e q
    exact r.out n l p e o q
theorem own_set {ls : List L} {σ : St} {v : V} {d : D} {j : Nat} (n : Nat) (l : L) (e : (ls.set j (.im d))[n]? = some l) (o : l.isOwn) : ls[n]? = some l ∧ (σ.set j (some v))[n]? = σ[n]? := by
  have n1 : j ≠ n := fun z => by
    subst z
    by_cases hj : j < ls.length
    · rw [List.getElem?_set_self hj] at e; cases e; exact o
    · rw [List.getElem?_eq_none (by rw [List.length_set]; omega)] at e; cases e
  rw [List.getElem?_set_ne n1] at e ⊢
  exact ⟨e, rfl⟩
theorem g_nm (j : Nat) {d : D} {js : Nat → Prop} {N : List L → Prop} (h : N (ls.set j (.im d))) (hN : X.N.Nodup) (hi : X.N[j]? = some x := by rfl) (hx : Loc X.env.scope x := by first | exact Or.inl rfl | exact Or.inr rfl)
    (hf : X.fn x = true ∨ X.env.scope.names.lookup x = some .local := by first | exact .inl rfl | exact .inr rfl) (hj : js j := by first | trivial | exact by decide) : PGv X (.Name x pos) js w ls d N :=
  PG.mono (pg_name hN hi hx hf) fun v σ H Q ⟨c, H0, r, rp, q⟩ => q _ _ (r.set j rp) (fun n l e o => own_set n l e o) ⟨List.length_set, fun n nj => List.getElem?_set_ne (fun z => nj (by rw [← z]; exact hj))⟩ h
/-- a, b, .. = a tuple -/
def GsI (K : PySem.W.Frag) (js : Nat → Prop) (w : Wd) (ls : List L) (ds : List D) (N : List L → Prop) : TGs := fun vs σ H Q => ∃ c H0, Rel K c w H0 σ H ls ∧ RpL K H0 vs ds ∧
  ∀ ls' σ', Rel K c w H0 σ' H ls' → (∀ (i : Nat) (l : L), ls'[i]? = some l → l.isOwn → ls[i]? = some l ∧ σ'[i]? = σ[i]?) → (σ'.length = σ.length ∧ ∀ n : Nat, ¬ js n → σ'[n]? = σ[n]?) → N ls' → Q σ' H
def PGsv (X : Cx) (tgs : List Expr) (js : Nat → Prop) (w : Wd) (ls : List L) (ds : List D) (N : List L → Prop) : Prop := PGs X tgs (GsI X.K js w ls ds N)
theorem PGs.mono {tgs : List Expr} {t t' : TGs} (h : PGs X tgs t) (k : ∀ v σ H Q, t' v σ H Q → t v σ H Q) : PGs X tgs t' := ⟨fun pins s σ H v u Q I r q => h.run pins s σ H v u Q I r (k v σ H Q q)⟩
def anyGs (X : Cx) (tgs : List Expr) : TGs := fun v σ H Q => ∃ t, PGs X tgs t ∧ t v σ H Q
theorem pgs_any {tgs : List Expr} : PGs X tgs (anyGs X tgs) := ⟨fun pins s σ H v u Q I r ⟨_, h, q⟩ => h.run pins s σ H v u Q I r q⟩
theorem gs_nil {js : Nat → Prop} {N : List L → Prop} (h : N ls) : PGsv X [] js w ls [] N := PGs.mono pgs_nil fun vs σ H Q ⟨c, H0, r, rp, q⟩ => by
  cases rp
  exact ⟨rfl, q ls σ r (fun _ _ e _ => ⟨e, rfl⟩) ⟨rfl, fun _ _ => rfl⟩ h⟩
theorem gs_cons {d : D} {ds : List D} {js : Nat → Prop} {N : List L → Prop} (h : PGv X e js w ls d fun ls' => PGsv X es js w ls' ds N) (hs : (assignEach (e :: es) X.env).map (·.2) = assign e X.env :: (assignEach es X.env).map (·.2) := by rfl) : PGsv X (e :: es) js w ls (d :: ds) N :=
  PGs.mono (pgs_cons h (pgs_any (tgs := es)) hs) fun vs σ H Q ⟨c, H0, r, rp, q⟩ => by
    cases rp with
    | cons h1 h2 =>
      exact ⟨_, _, rfl, c, H0, r, h1, fun ls' σ' r' o' j' z => ⟨_, z, c, H0, r', h2, fun ls2 σ2 r2 o2 j2 z2 => q ls2 σ2 r2 (fun n l e o => by
        obtain ⟨g1, g2⟩ := o2 n l e o
        obtain ⟨g3, g4⟩ := o' n l g1 o
        exact ⟨g3, g2.trans g4⟩) ⟨j2.1.trans j'.1, fun n nj => (j2.2 n nj).trans (j'.2 n nj)⟩ z2⟩⟩
theorem g_tup {kk : Nat} {d : D} {ds : List D} {js : Nat → Prop} {N : List L → Prop} (ht : IsT d ds) (h : PGsv X es js w ls ds N) (hl : ds.length = es.length) (hc : X.calm = true := by rfl) (hn : (assignEach es X.env).length = es.length := by rfl) (hst : (assignEach es X.env).findIdx? (·.1) = none := by rfl) : PGv X (.Tuple es kk pos) js w ls d N :=
  PG.mono (pg_tup hc h hn hst) fun v σ H Q ⟨c, H0, r, rp, q⟩ => by
    obtain ⟨a, vs, rfl, hq, hr⟩ := ht.v rp
    exact ⟨a, vs, rfl, sqT_ex r.ex hq, hr.length.trans hl, c, H0, r, hr, q⟩
/-! assignments -/
theorem s_asg {tg : Expr} (h : PV X e w ls fun d w' => PGv X tg (fun _ => True) w' ls d fun ls' => N ls' w') (hs : swapsWithSole [tg] e pos.line X.env = pure false := by rfl) (hw : swappedStores [tg] e X.env = pure none := by rfl)
    (h1 : (assignEach [tg] X.env).map (·.2) = [assign tg X.env] := by rfl) : SV X (.Assign [tg] e pos) w ls N R :=
  PS.mono (ps_asg h (pg_any (e := tg)) hs hw h1) fun Dn σ H ⟨E, c, H0, r, s, o, q1, q2⟩ => ⟨c, H0, r, fun v d w' c' H0' H' s2 p rp z => ⟨_, z, c', H0', r.step s2 p, rp, fun ls' σ' r' o' _ z2 =>
    q1 ls' w' c' H0' σ' H' r' (s.trans s2) (fun n l a e ow q => by
      obtain ⟨g1, g2⟩ := o' n l e ow
      exact o n l a g1 ow (by rw [← g2]; exact q)) z2⟩⟩
theorem s_set (j : Nat) (h : PV X e w ls fun d w' => N (ls.set j (.im d)) w') (hN : X.N.Nodup) (hs : swapsWith e (some (.Name x p)) pos.line X.env = pure false := by rfl) (hi : X.N[j]? = some x := by rfl) (hx : Loc X.env.scope x := by first | exact Or.inl rfl | exact Or.inr rfl)
    (hf : X.fn x = true ∨ X.env.scope.names.lookup x = some .local := by first | exact .inl rfl | exact .inr rfl) : SV X (.Assign [.Name x p] e pos) w ls N R :=
  PS.mono (ps_set hN hi hx h hs hf) fun Dn σ H ⟨E, c, H0, r, s, o, q1, q2⟩ => ⟨c, H0, r, fun v d w' c' H0' H' s2 p rp z => q1 _ w' c' H0' _ H' ((r.step s2 p).set j rp) (s.trans s2) (fun n l a e ow q => by
      obtain ⟨g1, g2⟩ := own_set (σ := σ) (v := v) n l e ow
      exact o n l a g1 ow (by rw [← g2]; exact q)) z⟩
/-- name = a new list, owned -/
theorem Rel.setO {K : PySem.W.Frag} {c : Addr → Prop} {H0 H : Hp} {σ : St} {l : L} {q0 : Addr} (j : Nat) (r : Rel K c w H0 σ H ls) (h : At K H0 H (some (some (.ref q0))) l) (nc : ¬ c q0) (new : ∀ (n : Nat) (l' : L), ls[n]? = some l' → l'.isOwn → σ[n]? ≠ some (some (.ref q0))) :
    Rel K c w H0 (σ.set j (some (.ref q0))) H (ls.set j l) := by
  have hl := r.len
  have cs : ∀ (n : Nat) (l' : L), (ls.set j l)[n]? = some l' → (n = j ∧ l' = l ∧ (σ.set j (some (.ref q0)))[n]? = some (some (.ref q0))) ∨ (n ≠ j ∧ ls[n]? = some l' ∧ (σ.set j (some (.ref q0)))[n]? = σ[n]?) := fun n l' e => by
    by_cases q : j = n
    · subst q
      by_cases hj : j < ls.length
      · rw [List.getElem?_set_self hj] at e
        cases e
        rw [List.getElem?_set_self (by rw [hl]; exact hj)]
        exact .inl ⟨rfl, rfl, rfl⟩
      · rw [List.getElem?_eq_none (by rw [List.length_set]; omega)] at e; cases e
    · rw [List.getElem?_set_ne q] at e ⊢
      exact .inr ⟨fun z => q z.symm, e, rfl⟩
  refine ⟨r.ex, r.wd, by rw [List.length_set, List.length_set]; exact hl, fun n l e => ?_, fun n n' l l' p hne e1 e2 o1 o2 q1 q2 => ?_, fun n l p e o q => ?_⟩
  · rcases cs n l e with ⟨_, rfl, g⟩ | ⟨_, g1, g2⟩
    · rw [g]; exact h
    · rw [g2]; exact r.at_ n l g1
  · rcases cs n l e1 with ⟨m1, _, g⟩ | ⟨m1, g1, g2⟩
    · rcases cs n' l' e2 with ⟨m2, _, _⟩ | ⟨m2, f1, f2⟩
      · exact hne (m1.trans m2.symm)
      · rw [g] at q1; cases q1
        rw [f2] at q2
        exact new n' l' f1 o2 q2
    · rcases cs n' l' e2 with ⟨m2, _, f⟩ | ⟨m2, f1, f2⟩
      · rw [f] at q2; cases q2
        rw [g2] at q1
        exact new n l g1 o1 q1
      · rw [g2] at q1
        rw [f2] at q2
        exact r.sep n n' l l' p hne g1 f1 o1 o2 q1 q2
  · rcases cs n l e with ⟨_, _, g⟩ | ⟨_, g1, g2⟩
    · rw [g] at q; cases q; exact nc
    · rw [g2] at q
      exact r.out n l p g1 o q
theorem Rel.ownAt {K : PySem.W.Frag} {c : Addr → Prop} {H0 H : Hp} {σ : St} (r : Rel K c w H0 σ H ls) {n : Nat} {l : L} {q0 : Addr} (e : ls[n]? = some l) (o : l.isOwn) (q : σ[n]? = some (some (.ref q0))) : H q0 ≠ none := by
  have a := r.at_ n l e
  cases l with
  | no => exact absurd o (fun z => z)
  | im d => exact absurd o (fun z => z)
  | own ds => obtain ⟨p', vs, e1, h0, h1, h2⟩ := a; rw [q] at e1; cases e1; rw [h1]; exact fun z => nomatch z
  | ownT ks => obtain ⟨p', vs, e1, h0, h1, h2⟩ := a; rw [q] at e1; cases e1; rw [h1]; exact fun z => nomatch z
theorem ownNew_setO {E : En} {σ : St} {l : L} {q0 : Addr} {j : Nat} (o : ownNew E σ ls) (n0 : E.H q0 = none) (hl : σ.length = ls.length) : ownNew E (σ.set j (some (.ref q0))) (ls.set j l) := fun n l' a e ow q => by
  by_cases z : j = n
  · subst z
    by_cases hj : j < ls.length
    · rw [List.getElem?_set_self (by rw [hl]; exact hj)] at q
      cases q; exact n0
    · rw [List.getElem?_eq_none (by rw [List.length_set]; omega)] at e; cases e
  · rw [List.getElem?_set_ne z] at e q
    exact o n l' a e ow q
theorem s_setN (j : Nat) (h : PN X e w ls fun ds w' => N (ls.set j (.own ds)) w') (hN : X.N.Nodup) (hs : swapsWith e (some (.Name x p)) pos.line X.env = pure false := by rfl) (hi : X.N[j]? = some x := by rfl) (hx : Loc X.env.scope x := by first | exact Or.inl rfl | exact Or.inr rfl)
    (hf : X.fn x = true ∨ X.env.scope.names.lookup x = some .local := by first | exact .inl rfl | exact .inr rfl) : SV X (.Assign [.Name x p] e pos) w ls N R :=
  PS.mono (ps_set hN hi hx h hs hf) fun Dn σ H ⟨E, c, H0, r, s, o, q1, q2⟩ => ⟨c, H0, r, fun q0 vs ds w' c' H0' H' s2 p hn h0 nc h1 h2 z =>
    q1 _ w' c' H0' _ H' ((r.step s2 p).setO (l := .own ds) j ⟨q0, vs, rfl, h0, h1, h2⟩ nc (fun n l' e ow q => r.ownAt e ow q hn)) (s.trans s2) (ownNew_setO o (stp_new0 s hn) r.len) z⟩
end
end Pd
set_option Elab.async false
set_option linter.all false
set_option maxRecDepth 100000
set_option maxHeartbeats 4000000
namespace Pd
open PySem PySem.Spec PyProof.Rows L2
open Evl (Ex)
section
variable {X : Cx} {e a b o i tg iter : Expr} {es : List Expr} {w : Wd} {ls : List L} {R : D → Wd → Prop} {pos p : Pos} {x y : Str} {st : Stmt} {rest body : List Stmt} {N : List L → Wd → Prop} {js : Nat → Prop}

/-! ### what is owned changes -/
theorem Rel.put {K : PySem.W.Frag} {c : Addr → Prop} {H0 H : Hp} {σ : St} {l l' : L} {q0 : Addr} {ho : HO} {j : Nat} (r : Rel K c w H0 σ H ls) (e : ls[j]? = some l) (ow : l.isOwn) (q : σ[j]? = some (some (.ref q0))) (h0 : H0 q0 = none)
    (new : At K H0 (upd H q0 ho) (some (some (.ref q0))) l') : Rel K c w H0 σ (upd H q0 ho) (ls.set j l') := by
  have hj : j < ls.length := (List.getElem?_eq_some_iff.mp e).1
  have nc : ¬ c q0 := r.out j l q0 e ow q
  have cs : ∀ (n : Nat) (l2 : L), (ls.set j l')[n]? = some l2 → (n = j ∧ l2 = l') ∨ (n ≠ j ∧ ls[n]? = some l2) := fun n l2 e2 => by
    by_cases z : j = n
    · subst z
      rw [List.getElem?_set_self hj] at e2; cases e2; exact .inl ⟨rfl, rfl⟩
    · rw [List.getElem?_set_ne z] at e2; exact .inr ⟨fun h => z h.symm, e2⟩
  have nq : ∀ (n : Nat) (l2 : L) (p : Addr), n ≠ j → ls[n]? = some l2 → l2.isOwn → σ[n]? = some (some (.ref p)) → p ≠ q0 := fun n l2 p hn e2 o2 q2 z => by
    subst z
    exact r.sep n j l2 l p hn e2 e o2 ow q2 q
  refine ⟨fun a u h => ?_, r.wd |> fun hw => w.stable hw (Ex.refl _) (fun a ha => upd_ne fun z => nc (by rw [← z]; exact ha)) (fun a ha => (w.live hw ha).2) upd_alive, by rw [List.length_set]; exact r.len, fun n l2 e2 => ?_, fun n n' l2 l3 p hne e2 e3 o2 o3 q2 q3 => ?_, fun n l2 p e2 o2 q2 => ?_⟩
  · rw [upd_ne fun z => by rw [z, h0] at h; cases h]; exact r.ex _ _ h
  · rcases cs n l2 e2 with ⟨rfl, rfl⟩ | ⟨hn, g⟩
    · rw [q]; exact new
    · have at' := r.at_ n l2 g
      cases l2 with
      | no => trivial
      | im d => exact at'
      | own ds =>
        obtain ⟨p', vs, e1, f0, f1, f2⟩ := at'
        exact ⟨p', vs, e1, f0, by rw [upd_ne (nq n _ p' hn g trivial e1)]; exact f1, f2⟩
      | ownT ks =>
        obtain ⟨p', vs, e1, f0, f1, f2⟩ := at'
        exact ⟨p', vs, e1, f0, by rw [upd_ne (nq n _ p' hn g trivial e1)]; exact f1, f2⟩
  · rcases cs n l2 e2 with ⟨rfl, rfl⟩ | ⟨hn, g⟩
    · rcases cs n' l3 e3 with ⟨z, _⟩ | ⟨hn', g'⟩
      · exact hne z.symm
      · rw [q] at q2; cases q2
        exact nq n' l3 q0 hn' g' o3 q3 rfl
    · rcases cs n' l3 e3 with ⟨rfl, rfl⟩ | ⟨hn', g'⟩
      · rw [q] at q3; cases q3
        exact nq n l2 q0 hn g o2 q2 rfl
      · exact r.sep n n' l2 l3 p hne g g' o2 o3 q2 q3
  · rcases cs n l2 e2 with ⟨rfl, rfl⟩ | ⟨hn, g⟩
    · rw [q] at q2; cases q2; exact nc
    · exact r.out n l2 p g o2 q2
theorem Stp.put {c c' : Addr → Prop} {H0 H H0' H' : Hp} {q0 : Addr} {ho : HO} (s : Stp c H0 H c' H0' H') (hn : H q0 = none) (h0 : H0' q0 = none) : Stp c H0 H c' H0' (upd H' q0 ho) where
  e0 := s.e0
  ex := fun a u h => by rw [upd_ne fun z => by rw [z, h0] at h; cases h]; exact s.ex _ _ h
  e := fun a u h n => by rw [upd_ne (ne_of_none h hn)]; exact s.e a u h n
  f := s.f
  g := s.g
  h := fun a n => by
    by_cases z : a = q0
    · subst z; exact absurd hn n
    · rw [upd_ne z]; exact s.h a n
  hs := fun a n => by
    have z : a ≠ q0 := fun z => n.1 (z ▸ hn)
    unfold Solid
    rw [upd_ne z]; exact s.hs a n
/-- the base moved up, moved back -/
theorem Stp.up {c c' : Addr → Prop} {H0 H H0' H' : Hp} (s : Stp c H0 H c' H0' H') : Stp c H0' H c' H0' H' := ⟨Ex.refl _, s.ex, s.e, fun _ h _ => h, s.g, s.h, s.hs⟩
theorem Stp.down {c c' c'' : Addr → Prop} {H0 H H0' H' H0'' H'' : Hp} (s : Stp c H0 H c' H0' H') (t : Stp c H0' H c'' H0'' H'') : Stp c H0 H c'' H0'' H'' := ⟨s.e0.trans t.e0, t.ex, t.e, fun a h n => t.f a (s.f a h n) n, t.g, t.h, t.hs⟩
theorem ownNew.put {E : En} {σ : St} {l l' : L} {q0 : Addr} {j : Nat} (o : ownNew E σ ls) (e : ls[j]? = some l) (ow : l.isOwn) (q : σ[j]? = some (some (.ref q0))) : ownNew E σ (ls.set j l') := fun n l2 p e2 o2 q2 => by
  have hj : j < ls.length := (List.getElem?_eq_some_iff.mp e).1
  by_cases z : j = n
  · subst z; rw [q] at q2; cases q2; exact o j l q0 e ow q
  · rw [List.getElem?_set_ne z] at e2; exact o n l2 p e2 o2 q2
/-- xs.append(e), xs owned -/
theorem s_append (j : Nat) {ds : List D} {apos : Pos} {xp : Pos} (hl : ls[j]? = some (.own ds)) (h : PV X e w ls fun d w' => ds.length < 100000 ∧ N (ls.set j (.own (ds ++ [d]))) w') (hN : X.N[j]? = some x := by rfl) (hv : Vis X.env.scope x := by first | exact Or.inl rfl | exact Or.inr (Or.inl rfl) | exact Or.inr (Or.inr rfl))
    (hd : (x == ("__debug__" : Str)) = false := by decide) (hcd : (x == ("__classdict__" : Str)) = false := by decide)
    (hpe : ∀ {to te : TE}, PE X (.Name x xp) to → PE X e te → PS X (.Expr (.Call (.Attribute (.Name x xp) "append" apos) [e] [] p) pos) (tDrop (tBM X.K "list" rAppend to (tCons te tNil))) := by
      intro to te h1 h2; exact ps_expr (pe_bm PySem.F.plainAttrs_list PySem.F.slot_list_append PySem.F.type_list_append mt_append h1 (pa_cons h2 pa_nil))) :
    SV X (.Expr (.Call (.Attribute (.Name x xp) "append" apos) [e] [] p) pos) w ls N R :=
  PS.mono (hpe (pe_var (i := j) hN hv hd hcd) h) fun Dn σ H ⟨E, c, H0, r, s, o, q1, q2⟩ => by
    obtain ⟨p', vs, e1, f0, f1, f2⟩ := r.at_ j _ hl
    refine ⟨.ref p', e1, .inl ⟨rfl, vs, .inl (.inl f1)⟩, c, H0, r, fun v d w' c' H0' H' s2 pw rp ⟨hlen, z⟩ => ?_⟩
    have nc := r.out j _ p' hl trivial e1
    have g1 := s2.e _ _ f1 nc
    have g0 := s2.f p' f0 (.of f1 fun _ z => nomatch z)
    refine ⟨p', vs, v, rfl, rfl, g1, by rw [f2.length]; exact Evl.sz_lt hlen, ?_⟩
    exact q1 _ w' c' H0' σ _ ((r.step s2 pw).put (l' := .own (ds ++ [d])) hl trivial e1 g0 ⟨p', vs ++ [v], rfl, g0, upd_same, (f2.ex s2.e0).append (.cons rp .nil)⟩) ((s.trans s2).put (o j _ p' hl trivial e1) g0) (o.put hl trivial e1) z
/-- xs.extend(ys), xs owned -/
theorem s_extend (j : Nat) {ds : List D} {apos : Pos} {xp : Pos} (hl : ls[j]? = some (.own ds)) (h : PN X e w ls fun es w' => ds.length + es.length ≤ 100000 ∧ N (ls.set j (.own (ds ++ es))) w') (hN : X.N[j]? = some x := by rfl) (hv : Vis X.env.scope x := by first | exact Or.inl rfl | exact Or.inr (Or.inl rfl) | exact Or.inr (Or.inr rfl))
    (hd : (x == ("__debug__" : Str)) = false := by decide) (hcd : (x == ("__classdict__" : Str)) = false := by decide)
    (hpe : ∀ {to te : TE}, PE X (.Name x xp) to → PE X e te → PS X (.Expr (.Call (.Attribute (.Name x xp) "extend" apos) [e] [] p) pos) (tDrop (tBM X.K "list" rExtend to (tCons te tNil))) := by
      intro to te h1 h2; exact ps_expr (pe_bm PySem.F.plainAttrs_list PySem.F.slot_list_extend PySem.F.type_list_extend mt_extend h1 (pa_cons h2 pa_nil))) :
    SV X (.Expr (.Call (.Attribute (.Name x xp) "extend" apos) [e] [] p) pos) w ls N R :=
  PS.mono (hpe (pe_var (i := j) hN hv hd hcd) h) fun Dn σ H ⟨E, c, H0, r, s, o, q1, q2⟩ => by
    obtain ⟨p', vs, e1, f0, f1, f2⟩ := r.at_ j _ hl
    refine ⟨.ref p', e1, .inl ⟨rfl, vs, .inl (.inl f1)⟩, c, H0, r, fun n us es2 w' c' H0' H' s2 pw hn hn0 hnc hn1 rp ⟨hlen, z⟩ => ?_⟩
    have nc := r.out j _ p' hl trivial e1
    have g1 := s2.e _ _ f1 nc
    have g0 := s2.f p' f0 (.of f1 fun _ z => nomatch z)
    refine ⟨p', n, vs, us, rfl, rfl, g1, hn1, by rw [f2.length, rp.length]; exact Evl.sz_of hlen, ?_⟩
    exact q1 _ w' c' H0' σ _ ((r.step s2 pw).put (l' := .own (ds ++ es2)) hl trivial e1 g0 ⟨p', vs ++ us, rfl, g0, upd_same, (f2.ex s2.e0).append rp⟩) ((s.trans s2).put (o j _ p' hl trivial e1) g0) (o.put hl trivial e1) z
/-- name = {} (tuple keys) -/
theorem s_setT (j : Nat) {dp : Pos} (h : N (ls.set j (.ownT [])) w) (hN : X.N.Nodup) (hs : swapsWith (.Dict [] [] dp) (some (.Name x p)) pos.line X.env = pure false := by rfl) (hi : X.N[j]? = some x := by rfl) (hx : Loc X.env.scope x := by first | exact Or.inl rfl | exact Or.inr rfl)
    (hf : X.fn x = true ∨ X.env.scope.names.lookup x = some .local := by first | exact .inl rfl | exact .inr rfl) : SV X (.Assign [.Name x p] (.Dict [] [] dp) pos) w ls N R :=
  PS.mono (ps_set hN hi hx pe_dnewT hs hf) fun Dn σ H ⟨E, c, H0, r, s, o, q1, q2⟩ => fun n hn => by
    have h0 := none_of_ex r.ex hn
    have r' : Rel X.K c w H0 σ (upd H n (.dT [])) ls := r.step (Stp.newO r.ex hn) (Wd.newO r.wd hn)
    exact q1 _ w c H0 _ _ (r'.setO (l := .ownT []) j ⟨n, [], rfl, h0, upd_same, rfl, .nil⟩ (fun hc => (w.live r.wd hc).1.1 hn) (fun k l' e ow q => r.ownAt e ow q hn)) (s.trans (Stp.newO r.ex hn)) (ownNew_setO o (stp_new0 s hn) r.len) h
/-- d[k] = v, d owned, tuple keys -/
theorem s_put (j : Nat) {ks : List (List Key × D)} {v kx : Expr} {xp dp : Pos} (hu : X.A.units + 1 < cLine) (hl : ls[j]? = some (.ownT ks)) (h : PV X v w ls fun dv w1 => PV X kx w1 ls fun dk w2 => ∃ k, dk = .tup (k.map kD) ∧ ks.length < 100000 ∧ N (ls.set j (.ownT (putD ks k dv))) w2)
    (hs : swapsWith v (some (.Subscript (.Name x xp) kx dp)) pos.line X.env = pure false := by rfl) (hN : X.N[j]? = some x := by rfl) (hv : Vis X.env.scope x := by first | exact Or.inl rfl | exact Or.inr (Or.inl rfl) | exact Or.inr (Or.inr rfl))
    (hd : (x == ("__debug__" : Str)) = false := by decide) (hcd : (x == ("__classdict__" : Str)) = false := by decide) : SV X (.Assign [.Subscript (.Name x xp) kx dp] v pos) w ls N R :=
  PS.mono (ps_dput hu (pe_var (i := j) hN hv hd hcd) (pe_any (e := kx)) h hs) fun Dn σ H ⟨E, c, H0, r, s, o, q1, q2⟩ => by
    obtain ⟨p', ws, e1, f0, f1, f3, f2⟩ := r.at_ j _ hl
    refine ⟨c, H0, r, fun v d w1 c1 H01 H1 s1 p1 rp hb => ⟨.ref p', e1, _, hb, c1, H01, r.step s1 p1, fun u y w2 c2 H02 H2 s2 p2 ry ⟨k, e2, hlen, z⟩ => ?_⟩⟩
    subst e2
    have nc := r.out j _ p' hl trivial e1
    have s12 := s1.trans s2
    have g1 := s12.e _ _ f1 nc
    have g0 := s12.f p' f0 (.of f1 fun _ z => nomatch z)
    cases ry with
    | tup h1 h2 =>
      have hl' : ws.length = ks.length := by
        have := congrArg List.length f3
        simpa using this
      obtain ⟨k1, k2⟩ := rpl_put k (rp.ex s2.e0) f3 (f2.ex s12.e0)
      refine ⟨p', _, rfl, .inr ⟨ws, k, _, g1, rfl, by rw [s2.ex _ _ h1, rpl_kD h2], by rw [hl']; exact Evl.sz_lt hlen, rfl⟩, ?_⟩
      exact q1 _ w2 c2 H02 σ _ ((r.step s12 p2).put (l' := .ownT (putD ks k d)) hl trivial e1 g0 ⟨p', _, rfl, g0, upd_same, k1, k2⟩) ((s.trans s12).put (o j _ p' hl trivial e1) g0) (o.put hl trivial e1) z
/-- name += e (ints) -/
theorem s_aug (j : Nat) {n : Int} (hl : ls[j]? = some (.im (.int n))) (h : PV X e w ls fun d w' => ∃ m, d = .int m ∧ N (ls.set j (.im (.int (n + m)))) w') (hN : X.N.Nodup) (hi : X.N[j]? = some x := by rfl) (hx : Loc X.env.scope x := by first | exact Or.inl rfl | exact Or.inr rfl)
    (hf : X.fn x = true ∨ X.env.scope.names.lookup x = some .local := by first | exact .inl rfl | exact .inr rfl) : SV X (.AugAssign (.Name x p) .Add e pos) w ls N R :=
  PS.mono (ps_aug hN hi hx h ip_add hf) fun Dn σ H ⟨E, c, H0, r, s, o, q1, q2⟩ => by
    obtain ⟨v, e1, rv⟩ := r.at_ j _ hl
    rw [rv.int_inv] at e1
    refine ⟨_, e1, c, H0, r, fun u d w' c' H0' H' s2 pw rp ⟨m, e2, z⟩ => ?_⟩
    subst e2
    rw [rp.int_inv]
    exact ⟨n, m, rfl, rfl, q1 _ w' c' H0' _ H' ((r.step s2 pw).set j (.int _)) (s.trans s2) (fun k l a e ow q => by
      obtain ⟨g1, g2⟩ := own_set (σ := σ) (v := .int (n + m)) k l e ow
      exact o k l a g1 ow (by rw [← g2]; exact q)) z⟩
/-- name += a new list, name owned -/
theorem s_augL (j : Nat) {ds : List D} (hl : ls[j]? = some (.own ds)) (h : PN X e w ls fun es w' => ds.length + es.length ≤ 100000 ∧ N (ls.set j (.own (ds ++ es))) w') (hN : X.N.Nodup) (hi : X.N[j]? = some x := by rfl) (hx : Loc X.env.scope x := by first | exact Or.inl rfl | exact Or.inr rfl)
    (hf : X.fn x = true ∨ X.env.scope.names.lookup x = some .local := by first | exact .inl rfl | exact .inr rfl) : SV X (.AugAssign (.Name x p) .Add e pos) w ls N R :=
  PS.mono (ps_aug hN hi hx h (ti := rExt2) (fun pins s σ H x y v u Q I r1 r2 h => iop_ext pins s σ H x y v u Q I r1 r2 h) hf) fun Dn σ H ⟨E, c, H0, r, s, o, q1, q2⟩ => by
    obtain ⟨p', vs, e1, f0, f1, f2⟩ := r.at_ j _ hl
    refine ⟨_, e1, c, H0, r, fun n us es2 w' c' H0' H' s2 pw hn hn0 hnc hn1 rp ⟨hlen, z⟩ => ?_⟩
    have nc := r.out j _ p' hl trivial e1
    have g1 := s2.e _ _ f1 nc
    have g0 := s2.f p' f0 (.of f1 fun _ z => nomatch z)
    refine ⟨p', n, vs, us, rfl, rfl, g1, hn1, by rw [f2.length, rp.length]; exact Evl.sz_of hlen, ?_⟩
    have hσ : σ.set j (some (.ref p')) = σ := by
      obtain ⟨hj, e2⟩ := List.getElem?_eq_some_iff.mp e1
      apply List.ext_getElem?
      intro k
      by_cases z : j = k
      · subst z; rw [List.getElem?_set_self hj, e1]
      · rw [List.getElem?_set_ne z]
    show Dn.nx (σ.set j (some (.ref p'))) _
    rw [hσ]
    exact q1 _ w' c' H0' σ _ ((r.step s2 pw).put (l' := .own (ds ++ es2)) hl trivial e1 g0 ⟨p', vs ++ us, rfl, g0, upd_same, (f2.ex s2.e0).append rp⟩) ((s.trans s2).put (o j _ p' hl trivial e1) g0) (o.put hl trivial e1) z

/-! ### what is owned is given up -/
theorem Rel.freezeG {K : PySem.W.Frag} {c : Addr → Prop} {H0 H : Hp} {σ : St} {q0 : Addr} {ho : HO} {d : D} {j : Nat} (r : Rel K c w H0 σ H ls) (hj : j < ls.length) (nc : ¬ c q0) (nq : ∀ (n : Nat) (l2 : L) (p : Addr), n ≠ j → ls[n]? = some l2 → l2.isOwn → σ[n]? = some (some (.ref p)) → p ≠ q0) (q : σ[j]? = some (some (.ref q0))) (h0 : H0 q0 = none) (h1 : H q0 = some ho)
    (new : Rp K (upd H0 q0 ho) (.ref q0) d) : Rel K c w (upd H0 q0 ho) σ H (ls.set j (.im d)) := by
  have ex0 : Ex H0 (upd H0 q0 ho) := Ex.new h0
  have cs : ∀ (n : Nat) (l2 : L), (ls.set j (.im d))[n]? = some l2 → (n = j ∧ l2 = .im d) ∨ (n ≠ j ∧ ls[n]? = some l2) := fun n l2 e2 => by
    by_cases z : j = n
    · subst z
      rw [List.getElem?_set_self hj] at e2; cases e2; exact .inl ⟨rfl, rfl⟩
    · rw [List.getElem?_set_ne z] at e2; exact .inr ⟨fun h => z h.symm, e2⟩
  refine ⟨fun a u h => ?_, Wd.freeze r.wd nc h0, by rw [List.length_set]; exact r.len, fun n l2 e2 => ?_, fun n n' l2 l3 p hne e2 e3 o2 o3 q2 q3 => ?_, fun n l2 p e2 o2 q2 => ?_⟩
  · by_cases z : a = q0
    · subst z; rw [upd_same] at h; cases h; exact h1
    · rw [upd_ne z] at h; exact r.ex _ _ h
  · rcases cs n l2 e2 with ⟨rfl, rfl⟩ | ⟨hn, g⟩
    · rw [q]; exact ⟨_, rfl, new⟩
    · have at' := r.at_ n l2 g
      cases l2 with
      | no => trivial
      | im d => obtain ⟨v, g1, g2⟩ := at'; exact ⟨v, g1, g2.ex ex0⟩
      | own ds =>
        obtain ⟨p', vs, e1, f0, f1, f2⟩ := at'
        exact ⟨p', vs, e1, by rw [upd_ne (nq n _ p' hn g trivial e1)]; exact f0, f1, f2.ex ex0⟩
      | ownT ks =>
        obtain ⟨p', vs, e1, f0, f1, f3, f2⟩ := at'
        exact ⟨p', vs, e1, by rw [upd_ne (nq n _ p' hn g trivial e1)]; exact f0, f1, f3, f2.ex ex0⟩
  · rcases cs n l2 e2 with ⟨rfl, rfl⟩ | ⟨hn, g⟩
    · exact o2
    · rcases cs n' l3 e3 with ⟨rfl, rfl⟩ | ⟨hn', g'⟩
      · exact o3
      · exact r.sep n n' l2 l3 p hne g g' o2 o3 q2 q3
  · rcases cs n l2 e2 with ⟨rfl, rfl⟩ | ⟨hn, g⟩
    · exact absurd o2 (fun z => z)
    · exact r.out n l2 p g o2 q2
theorem Rel.freeze {K : PySem.W.Frag} {c : Addr → Prop} {H0 H : Hp} {σ : St} {l : L} {q0 : Addr} {ho : HO} {d : D} {j : Nat} (r : Rel K c w H0 σ H ls) (e : ls[j]? = some l) (ow : l.isOwn) (q : σ[j]? = some (some (.ref q0))) (h0 : H0 q0 = none) (h1 : H q0 = some ho)
    (new : Rp K (upd H0 q0 ho) (.ref q0) d) : Rel K c w (upd H0 q0 ho) σ H (ls.set j (.im d)) :=
  r.freezeG (List.getElem?_eq_some_iff.mp e).1 (r.out j l q0 e ow q) (fun n l2 p hn e2 o2 q2 z => by
    subst z
    exact r.sep n j l2 l p hn e2 e o2 ow q2 q) q h0 h1 new
theorem SI.freeze (j : Nat) {ds : List D} (hl : ls[j]? = some (.own ds)) (Dn : Ends) (σ : St) (H : Hp) (h : SI X.K w ls N R Dn σ H) : SI X.K w (ls.set j (.im (.lst ds))) N R Dn σ H := by
  obtain ⟨E, c, H0, r, s, o, q1, q2⟩ := h
  obtain ⟨p', vs, e1, f0, f1, f2⟩ := r.at_ j _ hl
  exact ⟨E, c, upd H0 p' (.lst vs), r.freeze hl trivial e1 f0 f1 (.lst upd_same (f2.ex (Ex.new f0))), s.freeze (o j _ p' hl trivial e1) f0 f1, o.put hl trivial e1, q1, q2⟩
theorem ss_fz (j : Nat) {ds : List D} (hl : ls[j]? = some (.own ds)) {sts : List Stmt} (h : SVs X sts w (ls.set j (.im (.lst ds))) N R) : SVs X sts w ls N R := PSs.mono h fun Dn σ H q => SI.freeze j hl Dn σ H q
theorem sv_fz (j : Nat) {ds : List D} (hl : ls[j]? = some (.own ds)) (h : SV X st w (ls.set j (.im (.lst ds))) N R) : SV X st w ls N R := PS.mono h fun Dn σ H q => SI.freeze j hl Dn σ H q
/-- what a slot holds is forgotten -/
theorem Rel.drop {K : PySem.W.Frag} {c : Addr → Prop} {H0 H : Hp} {σ : St} (j : Nat) (r : Rel K c w H0 σ H ls) : Rel K c w H0 σ H (ls.set j .no) := by
  have cs : ∀ (n : Nat) (l2 : L), (ls.set j .no)[n]? = some l2 → l2 = .no ∨ ls[n]? = some l2 := fun n l2 e2 => by
    by_cases z : j = n
    · subst z
      by_cases hj : j < ls.length
      · rw [List.getElem?_set_self hj] at e2; cases e2; exact .inl rfl
      · rw [List.getElem?_eq_none (by rw [List.length_set]; omega)] at e2; cases e2
    · rw [List.getElem?_set_ne z] at e2; exact .inr e2
  refine ⟨r.ex, r.wd, by rw [List.length_set]; exact r.len, fun n l2 e2 => ?_, fun n n' l2 l3 p hne e2 e3 o2 o3 q2 q3 => ?_, fun n l2 p e2 o2 q2 => ?_⟩
  · rcases cs n l2 e2 with rfl | g
    · trivial
    · exact r.at_ n l2 g
  · rcases cs n l2 e2 with rfl | g
    · exact o2
    · rcases cs n' l3 e3 with rfl | g'
      · exact o3
      · exact r.sep n n' l2 l3 p hne g g' o2 o3 q2 q3
  · rcases cs n l2 e2 with rfl | g
    · exact absurd o2 (fun z => z)
    · exact r.out n l2 p g o2 q2
theorem ownNew.drop {E : En} {σ : St} {j : Nat} (o : ownNew E σ ls) : ownNew E σ (ls.set j .no) := fun n l2 p e2 o2 q2 => by
  by_cases z : j = n
  · subst z
    by_cases hj : j < ls.length
    · rw [List.getElem?_set_self hj] at e2; cases e2; exact absurd o2 (fun z => z)
    · rw [List.getElem?_eq_none (by rw [List.length_set]; omega)] at e2; cases e2
  · rw [List.getElem?_set_ne z] at e2; exact o n l2 p e2 o2 q2
theorem ss_drop (j : Nat) {sts : List Stmt} (h : SVs X sts w (ls.set j .no) N R) : SVs X sts w ls N R := PSs.mono h fun Dn σ H ⟨E, c, H0, r, s, o, q1, q2⟩ => ⟨E, c, H0, r.drop j, s, o.drop, q1, q2⟩
/-- y = x, x owned: y owns it now -/
theorem s_move (i j : Nat) {ds : List D} {xp : Pos} (hne : i ≠ j) (hl : ls[i]? = some (.own ds)) (h : N ((ls.set i .no).set j (.own ds)) w) (hN : X.N.Nodup) (hs : swapsWith (.Name x xp) (some (.Name y p)) pos.line X.env = pure false := by rfl) (hxi : X.N[i]? = some x := by rfl) (hv : Vis X.env.scope x := by first | exact Or.inl rfl | exact Or.inr (Or.inl rfl) | exact Or.inr (Or.inr rfl))
    (hi : X.N[j]? = some y := by rfl) (hx : Loc X.env.scope y := by first | exact Or.inl rfl | exact Or.inr rfl)
    (hf : X.fn y = true ∨ X.env.scope.names.lookup y = some .local := by first | exact .inl rfl | exact .inr rfl) (hd : (x == ("__debug__" : Str)) = false := by decide) (hcd : (x == ("__classdict__" : Str)) = false := by decide) : SV X (.Assign [.Name y p] (.Name x xp) pos) w ls N R :=
  PS.mono (ps_set hN hi hx (pe_var (i := i) hxi hv hd hcd) hs hf) fun Dn σ H ⟨E, c, H0, r, s, o, q1, q2⟩ => by
    obtain ⟨p', vs, e1, f0, f1, f2⟩ := r.at_ i _ hl
    refine ⟨_, e1, ?_⟩
    have rd := r.drop i
    have hi' : i < ls.length := (List.getElem?_eq_some_iff.mp hl).1
    refine q1 _ w c H0 _ H (rd.setO (l := .own ds) j ⟨p', vs, rfl, f0, f1, f2⟩ (r.out i _ p' hl trivial e1) (fun n l' e ow q => ?_)) s (ownNew_setO o.drop (o i _ p' hl trivial e1) rd.len) h
    by_cases z : i = n
    · subst z; rw [List.getElem?_set_self hi'] at e; cases e; exact ow
    · rw [List.getElem?_set_ne z] at e
      exact r.sep n i l' _ p' (fun h => z h.symm) e hl ow trivial q e1
end
end Pd
set_option Elab.async false
set_option linter.all false
set_option maxRecDepth 100000
set_option maxHeartbeats 4000000
namespace Pd
open PySem PySem.Spec PyProof.Rows L2
open Evl (Ex)

/-! ### what is walked -/
structure Yields (K : PySem.W.Frag) (J : It) (ds : List D) (Hb : Hp) : Prop where
  go : ∀ (k : Nat) (H0 H : Hp), Ex Hb H0 → Ex H0 H → k < ds.length → J.go k H
  stop : ∀ (k : Nat) (H0 H : Hp), Ex Hb H0 → Ex H0 H → ds.length ≤ k → J.stop k H
  yld : ∀ (k : Nat) (H0 H : Hp) (x : V) (H' : Hp), Ex Hb H0 → Ex H0 H → k < ds.length → J.yld k H x H' → ∃ H0y d, ds[k]? = some d ∧ Stp noC H0 H noC H0y H' ∧ Rp K H0y x d
def WI (K : PySem.W.Frag) (w : Wd) (ls : List L) (R : List D → Wd → Prop) : TI := fun σ H R0 => ∃ c H0, Rel K c w H0 σ H ls ∧
  ∀ J ds w' c' H0' H', Stp c H0 H c' H0' H' → w'.p c' H0' H' → Yields K J ds H0' → R ds w' → R0 J H'
def PIv (X : Cx) (tg iter : Expr) (w : Wd) (ls : List L) (R : List D → Wd → Prop) : Prop := PI X tg iter (WI X.K w ls R)
section
variable {X : Cx} {e a b o i tg iter : Expr} {es : List Expr} {w : Wd} {ls : List L} {R : D → Wd → Prop} {pos p : Pos} {x y : Str} {st : Stmt} {rest body : List Stmt} {N : List L → Wd → Prop} {js : Nat → Prop}
theorem PI.mono {t t' : TI} (h : PI X tg iter t) (k : ∀ σ H Q, t' σ H Q → t σ H Q) : PI X tg iter t' := ⟨fun pins s σ H Q I q => h.run pins s σ H Q I (k σ H Q q)⟩
theorem lt_get {ds : List D} {k : Nat} (h : k < ds.length) : ∃ d, ds[k]? = some d := ⟨ds[k], List.getElem?_eq_getElem h⟩
theorem yields_list {K : PySem.W.Frag} {Hb : Hp} {a : Addr} {vs : List V} {ds : List D} (h1 : Hb a = some (.lst vs)) (h2 : RpL K Hb vs ds) : Yields K (Itl K a) ds Hb where
  go := fun k H0 H e1 e2 hk => by
    obtain ⟨d, hd⟩ := lt_get hk
    obtain ⟨v, hv, _⟩ := h2.get hd
    exact ⟨vs, v, .inl (.inl (e2 _ _ (e1 _ _ h1))), hv⟩
  stop := fun k H0 H e1 e2 hk => ⟨vs, .inl (.inl (e2 _ _ (e1 _ _ h1))), by rw [h2.length]; exact hk⟩
  yld := fun k H0 H x H' e1 e2 hk ⟨e3, q⟩ => by
    subst e3
    obtain ⟨d, hd⟩ := lt_get hk
    obtain ⟨v, hv, rv⟩ := h2.get hd
    have := q vs (.inl (.inl (e2 _ _ (e1 _ _ h1))))
    rw [hv] at this; cases this
    exact ⟨H0, d, hd, Stp.refl e2, rv.ex e1⟩
theorem yields_tup {K : PySem.W.Frag} {Hb : Hp} {a : Addr} {vs : List V} {ds : List D} (h1 : SqT K Hb a vs) (h2 : RpL K Hb vs ds) : Yields K (Itt K a) ds Hb where
  go := fun k H0 H e1 e2 hk => by
    obtain ⟨d, hd⟩ := lt_get hk
    obtain ⟨v, hv, _⟩ := h2.get hd
    exact ⟨vs, v, sqT_ex (e1.trans e2) h1, hv⟩
  stop := fun k H0 H e1 e2 hk => ⟨vs, sqT_ex (e1.trans e2) h1, by rw [h2.length]; exact hk⟩
  yld := fun k H0 H x H' e1 e2 hk ⟨e3, q⟩ => by
    subst e3
    obtain ⟨d, hd⟩ := lt_get hk
    obtain ⟨v, hv, rv⟩ := h2.get hd
    have := q vs (sqT_ex (e1.trans e2) h1)
    rw [hv] at this; cases this
    exact ⟨H0, d, hd, Stp.refl e2, rv.ex e1⟩
/-- lo, lo + 1, .. (n of them) -/
def rgD (lo : Int) (n : Nat) : List D := (List.range n).map fun k => .int (lo + (k : Nat))
theorem rgD_len (lo : Int) (n : Nat) : (rgD lo n).length = n := by unfold rgD; rw [List.length_map, List.length_range]
theorem rgD_get {lo : Int} {n k : Nat} {d : D} (h : (rgD lo n)[k]? = some d) : k < n ∧ d = .int (lo + (k : Nat)) := by
  have hk : k < n := by have := (List.getElem?_eq_some_iff.mp h).1; rw [rgD_len] at this; exact this
  unfold rgD at h
  rw [List.getElem?_map, List.getElem?_range hk] at h
  exact ⟨hk, (Option.some.inj h).symm⟩
theorem yields_range {K : PySem.W.Frag} {Hb : Hp} {lo : Int} {n : Nat} : Yields K (Itr lo n) (rgD lo n) Hb where
  go := fun k H0 H e1 e2 hk => by rw [rgD_len] at hk; exact hk
  stop := fun k H0 H e1 e2 hk => by rw [rgD_len] at hk; exact hk
  yld := fun k H0 H x H' e1 e2 hk ⟨e3, e4⟩ => by
    subst e3 e4
    obtain ⟨d, hd⟩ := lt_get hk
    obtain ⟨_, rfl⟩ := rgD_get hd
    exact ⟨H0, _, hd, Stp.refl e2, .int _⟩
theorem yields_str {K : PySem.W.Frag} {Hb : Hp} {x : Str} : Yields K (Its x) (x.cps.toList.map fun c => .str ⟨#[c]⟩) Hb where
  go := fun k H0 H e1 e2 hk => by rw [List.length_map, Array.length_toList] at hk; exact hk
  stop := fun k H0 H e1 e2 hk => by rw [List.length_map, Array.length_toList] at hk; exact hk
  yld := fun k H0 H v H' e1 e2 hk ⟨e3, c, e4, e5⟩ => by
    subst e3 e5
    refine ⟨H0, .str ⟨#[c]⟩, ?_, Stp.refl e2, .str _⟩
    rw [List.getElem?_map, Array.getElem?_toList, e4]; rfl
/-- a list | a tuple | a text | range(n) | range(a, b) -/
theorem i_list {R : List D → Wd → Prop} (h : PV X iter w ls fun d w' => ∃ ds, d = .lst ds ∧ R ds w') : PIv X tg iter w ls R :=
  PI.mono (pi_list h) fun σ H R0 ⟨c, H0, r, q⟩ => ⟨c, H0, r, fun v d w' c' H0' H' s p rp ⟨ds, e1, z⟩ => by
    subst e1
    cases rp with
    | lst h1 h2 => exact ⟨_, rfl, ⟨_, .inl (.inl (s.ex _ _ h1))⟩, q _ ds w' c' H0' H' s p (yields_list h1 h2) z⟩⟩
theorem i_tup {R : List D → Wd → Prop} (h : PV X iter w ls fun d w' => ∃ ds, IsT d ds ∧ R ds w') : PIv X tg iter w ls R :=
  PI.mono (pi_tup h) fun σ H R0 ⟨c, H0, r, q⟩ => ⟨c, H0, r, fun v d w' c' H0' H' s p rp ⟨ds, e1, z⟩ => by
    obtain ⟨a, vs, rfl, h1, h2⟩ := e1.v rp
    exact ⟨a, rfl, ⟨vs, sqT_ex s.ex h1⟩, q _ ds w' c' H0' H' s p (yields_tup h1 h2) z⟩⟩
theorem i_str {R : List D → Wd → Prop} (h : PV X iter w ls fun d w' => ∃ s : Str, d = .str s ∧ R (s.cps.toList.map fun c => .str ⟨#[c]⟩) w') : PIv X tg iter w ls R :=
  PI.mono (pi_str h) fun σ H R0 ⟨c, H0, r, q⟩ => ⟨c, H0, r, fun v d w' c' H0' H' s p rp ⟨z, e1, k⟩ => by
    subst e1
    rw [rp.str_inv]
    exact ⟨z, rfl, q _ _ w' c' H0' H' s p yields_str k⟩⟩
theorem i_range1 {R : List D → Wd → Prop} (hm : X.mg "range" = none) (h : PV X a w ls fun d w' => ∃ n : Nat, d = .int n ∧ n ≤ 1000000 ∧ R (rgD 0 n) w') (hg : Gl X "range" := by rfl)
    (hs : starEach [a] X.env = [(false, eval a X.env)] := by rfl) : PIv X tg (.Call (.Name "range" p) [a] [] pos) w ls R :=
  PI.mono (pi_range1 hg hm (pa_cons h pa_nil hs) hs) fun σ H R0 ⟨c, H0, r, q⟩ => ⟨c, H0, r, fun v d w' c' H0' H' s p rp ⟨n, e1, hn, k⟩ => by
    subst e1
    rw [rp.int_inv]
    exact ⟨(n : Int), rfl, by omega, by omega, q _ _ w' c' H0' H' s p (by rw [Int.toNat_natCast]; exact yields_range) k⟩⟩
theorem i_range2 {R : List D → Wd → Prop} (hm : X.mg "range" = none) (h : PV X a w ls fun d w1 => PV X b w1 ls fun d2 w' => ∃ lo hi : Int, d = .int lo ∧ d2 = .int hi ∧ (-1000000 ≤ lo ∧ lo ≤ 1000000 ∧ -1000000 ≤ hi ∧ hi ≤ 1000000) ∧ R (rgD lo (hi - lo).toNat) w') (hg : Gl X "range" := by rfl)
    (hs : starEach [a, b] X.env = [(false, eval a X.env), (false, eval b X.env)] := by rfl) (hs2 : starEach [b] X.env = [(false, eval b X.env)] := by rfl) : PIv X tg (.Call (.Name "range" p) [a, b] [] pos) w ls R :=
  PI.mono (pi_range2 hg hm (pa_cons h (pa_cons (pe_any (e := b)) pa_nil hs2) (by rw [hs, hs2])) hs hs2) fun σ H R0 ⟨c, H0, r, q⟩ => ⟨c, H0, r, fun v d w1 c1 H01 H1 s1 p1 rp hb => ⟨_, hb, c1, H01, r.step s1 p1, fun u d2 w' c' H0' H' s2 p2 rp2 ⟨lo, hi, e1, e2, hn, k⟩ => by
    subst e1 e2
    rw [rp.int_inv, rp2.int_inv]
    exact ⟨lo, hi, rfl, by omega, q _ _ w' c' H0' H' (s1.trans s2) p2 yields_range k⟩⟩⟩

/-! ### for -/
theorem s_for (Inv : Nat → List L → Wd → Prop) (hp : PassesOwn (model X.prog X.w) X.A X.env X.xe) (hc : X.calm = true)
    (h : PIv X tg iter w ls fun ds w1 => Inv 0 ls w1 ∧ (∀ k d ls' w', ds[k]? = some d → Inv k ls' w' → PGv X tg (fun _ => True) w' ls' d fun ls2 => SVs X body w' ls2 (Inv (k + 1)) R) ∧ (∀ ls' w', Inv ds.length ls' w' → N ls' w'))
    (hs : ∀ x, foldedSetIterable iter X.env x = pure x := by intro _; rfl) : SV X (.For tg iter body [] pos) w ls N R :=
  PS.mono (ps_for hp hc h (pg_any (e := tg)) (pss_any (st := body)) hs) fun Dn σ H ⟨E, c, H0, r, s, o, q1, q2⟩ => ⟨c, H0, r, fun J ds w' c' Hb Hx s2 p2 yl ⟨i0, step, fin⟩ => by
    refine ⟨fun k m σ' H' => k + m = ds.length ∧ ∃ ls' w'' c'' H0'', Inv k ls' w'' ∧ Rel X.K c'' w'' H0'' σ' H' ls' ∧ Stp E.c E.H0 E.H c'' H0'' H' ∧ ownNew E σ' ls' ∧ Ex Hb H0'', ⟨ds.length, by omega, ls, w', c', Hb, i0, r.step s2 p2, s.trans s2, o, Ex.refl _⟩, ?_⟩
    rintro k m σ1 H1 ⟨hm, ls1, w1, c1, H01, i1, r1, s1, o1, x1⟩
    by_cases hk : k < ds.length
    · refine .inr ⟨yl.go k H01 H1 x1 r1.ex hk, fun σ' H' => ∃ ls' w'' c'' H0'', Inv (k + 1) ls' w'' ∧ Rel X.K c'' w'' H0'' σ' H' ls' ∧ Stp E.c E.H0 E.H c'' H0'' H' ∧ ownNew E σ' ls' ∧ Ex Hb H0'', fun σ' H' hN => ⟨m - 1, by omega, by omega, hN⟩, fun v Hv hv => ?_⟩
      obtain ⟨H0y, d, hd, sy, ry⟩ := yl.yld k H01 H1 v Hv x1 r1.ex hk hv
      have ry' : Rel X.K c1 w1 H0y σ1 Hv ls1 := r1.step sy.of_pure (Wd.of_pure r1.wd sy)
      refine ⟨_, step k d ls1 w1 hd i1, c1, H0y, ry', ry, fun ls2 σ2 r2 o2 _ z => ⟨_, z, ⟨E.c, H0y, E.H⟩, c1, H0y, r2, (s1.trans sy.of_pure).up, fun n l a e ow q => ?_, fun ls3 w3 c3 H03 σ3 H3 r3 s3 o3 z3 => ?_, fun v d w' c' H0' H' s' p' rp' z' => q2 v d w' c' H0' H' ((s1.trans sy.of_pure).down s') p' rp' z'⟩⟩
      · obtain ⟨g1, g2⟩ := o2 n l e ow
        exact o1 n l a g1 ow (by rw [← g2]; exact q)
      · exact ⟨ls3, w3, c3, H03, z3, r3, (s1.trans sy.of_pure).down s3, o3, x1.trans (sy.e0.trans s3.e0)⟩
    · have ek : k = ds.length := by omega
      subst ek
      exact .inl ⟨yl.stop _ H01 H1 x1 r1.ex (Nat.le_refl _), q1 ls1 w1 c1 H01 σ1 H1 r1 s1 o1 (fin ls1 w1 i1)⟩⟩
end
end Pd
set_option Elab.async false
set_option linter.all false
set_option maxRecDepth 100000
set_option maxHeartbeats 4000000
namespace Pd
open PySem PySem.Spec PyProof.Rows L2
open Evl (Ex)
section
variable {X : Cx} {e a b o i tg iter elt : Expr} {es ifs : List Expr} {w : Wd} {ls : List L} {R : D → Wd → Prop} {pos p : Pos} {x y : Str} {st : Stmt} {rest body : List Stmt} {N : List L → Wd → Prop} {js : Nat → Prop}

/-! ### while -/
theorem s_while (Inv : Nat → List L → Wd → Prop) (m0 : Nat) {t : Expr} (hp : PassesOwn (model X.prog X.w) X.A X.env X.xe) (h0 : Inv m0 ls w)
    (h : ∀ m ls' w', Inv m ls' w' → PB X t w' ls' fun k w1 => (k = true → SVs X body w1 ls' (fun ls2 w2 => ∃ m', m' < m ∧ Inv m' ls2 w2) R) ∧ (k = false → N ls' w1)) : SV X (.While t body [] pos) w ls N R :=
  PS.mono (ps_while hp (pt_any (e := t)) (pss_any (st := body))) fun Dn σ H ⟨E, c, H0, r, s, o, q1, q2⟩ => by
    refine ⟨fun m σ' H' => ∃ ls' w' c' H0', Inv m ls' w' ∧ Rel X.K c' w' H0' σ' H' ls' ∧ Stp E.c E.H0 E.H c' H0' H' ∧ ownNew E σ' ls', ⟨m0, ls, w, c, H0, h0, r, s, o⟩, ?_⟩
    rintro m σ1 H1 ⟨ls1, w1, c1, H01, i1, r1, s1, o1⟩
    refine ⟨_, h m ls1 w1 i1, c1, H01, r1, fun k w2 c2 H02 H2 s2 p2 z => ?_⟩
    cases k with
    | true =>
      refine iteT ⟨fun σ' H' => ∃ m', m' < m ∧ ∃ ls' w' c' H0', Inv m' ls' w' ∧ Rel X.K c' w' H0' σ' H' ls' ∧ Stp E.c E.H0 E.H c' H0' H' ∧ ownNew E σ' ls', fun σ' H' ⟨m', hm, q⟩ => ⟨m', hm, q⟩, _, z.1 rfl, E, c2, H02, r1.step s2 p2, s1.trans s2, o1, fun ls3 w3 c3 H03 σ3 H3 r3 s3 o3 ⟨m', hm, z3⟩ => ⟨m', hm, ls3, w3, c3, H03, z3, r3, s3, o3⟩, q2⟩
    | false => exact iteF (q1 ls1 w2 c2 H02 σ1 H2 (r1.step s2 p2) (s1.trans s2) o1 (z.2 rfl))

/-! ### list comprehensions -/
/-- a comprehension's block -/
abbrev Blk (X : Cx) (scope : Scope) (s : Shared) (H : Hp) (C : Addr) (cl : List (Str × Addr)) (fp : List Addr) : Cx := X.blk s H scope (compEnvC scope cl C X.env) fp
def anyGB (X : Cx) (scope : Scope) (tg : Expr) : TG := fun v σ H Q => ∃ t, (∀ s H C cl fp, PG (Blk X scope s H C cl fp) tg t) ∧ t v σ H Q
theorem pg_anyB {scope : Scope} (s : Shared) (H : Hp) (C : Addr) (cl : List (Str × Addr)) (fp : List Addr) : PG (Blk X scope s H C cl fp) tg (anyGB X scope tg) := ⟨fun pins s' σ H' v u Q I r ⟨_, h, q⟩ => (h s H C cl fp).run pins s' σ H' v u Q I r q⟩
def anyEB (X : Cx) (scope : Scope) (e : Expr) : TE := fun σ H Q => ∃ t, (∀ s H C cl fp, PE (Blk X scope s H C cl fp) e t) ∧ t σ H Q
theorem pe_anyB {scope : Scope} (s : Shared) (H : Hp) (C : Addr) (cl : List (Str × Addr)) (fp : List Addr) : PE (Blk X scope s H C cl fp) e (anyEB X scope e) := ⟨fun pins s' σ H' Q I ⟨_, h, q⟩ => (h s H C cl fp).run pins s' σ H' Q I q⟩
def anyTB (X : Cx) (scope : Scope) (ifs : List Expr) : TT := fun σ H Q => ∃ t, (∀ s H C cl fp, PTs (Blk X scope s H C cl fp) ifs t) ∧ t σ H Q
theorem pts_anyB {scope : Scope} (s : Shared) (H : Hp) (C : Addr) (cl : List (Str × Addr)) (fp : List Addr) : PTs (Blk X scope s H C cl fp) ifs (anyTB X scope ifs) := ⟨fun pins s' σ H' Q I ⟨_, h, q⟩ => (h s H C cl fp).run pins s' σ H' Q I q⟩
/-- the tests of a clause -/
def PTv (X : Cx) (ifs : List Expr) (w : Wd) (ls : List L) (R : Bool → Wd → Prop) : Prop := PTs X ifs (BI X.K w ls R)
theorem PTs.mono {t t' : TT} (h : PTs X ifs t) (k : ∀ σ H Q, t' σ H Q → t σ H Q) : PTs X ifs t' := ⟨fun pins s σ H Q I q => h.run pins s σ H Q I (k σ H Q q)⟩
theorem t_nil {R : Bool → Wd → Prop} (h : R true w) : PTv X [] w ls R := PTs.mono pts_nil fun σ H Q ⟨c, H0, r, q⟩ => q true w c H0 H (Stp.refl r.ex) r.wd h
theorem t_one {t : Expr} {R : Bool → Wd → Prop} (h : PB X t w ls R) : PTv X [t] w ls R := pts_one h
/-- the slots forgotten within -/
def wipeL (ls : List L) : List Nat → List L
  | [] => ls
  | v :: vs => (wipeL ls vs).set v .no
theorem set_none {σ : St} (j : Nat) {K : PySem.W.Frag} {c : Addr → Prop} {H0 H : Hp} (r : Rel K c w H0 σ H ls) : Rel K c w H0 (σ.set j none) H (ls.set j .no) := by
  have cs : ∀ (n : Nat) (l2 : L), (ls.set j .no)[n]? = some l2 → l2 = .no ∨ (n ≠ j ∧ ls[n]? = some l2) := fun n l2 e2 => by
    by_cases z : j = n
    · subst z
      by_cases hj : j < ls.length
      · rw [List.getElem?_set_self hj] at e2; cases e2; exact .inl rfl
      · rw [List.getElem?_eq_none (by rw [List.length_set]; omega)] at e2; cases e2
    · rw [List.getElem?_set_ne z] at e2; exact .inr ⟨fun h => z h.symm, e2⟩
  refine ⟨r.ex, r.wd, by rw [List.length_set, List.length_set]; exact r.len, fun n l2 e2 => ?_, fun n n' l2 l3 p hne e2 e3 o2 o3 q2 q3 => ?_, fun n l2 p e2 o2 q2 => ?_⟩
  · rcases cs n l2 e2 with rfl | ⟨hn, g⟩
    · trivial
    · rw [List.getElem?_set_ne (fun z => hn z.symm)]; exact r.at_ n l2 g
  · rcases cs n l2 e2 with rfl | ⟨hn, g⟩
    · exact o2
    · rcases cs n' l3 e3 with rfl | ⟨hn', g'⟩
      · exact o3
      · rw [List.getElem?_set_ne (fun z => hn z.symm)] at q2
        rw [List.getElem?_set_ne (fun z => hn' z.symm)] at q3
        exact r.sep n n' l2 l3 p hne g g' o2 o3 q2 q3
  · rcases cs n l2 e2 with rfl | ⟨hn, g⟩
    · exact absurd o2 (fun z => z)
    · rw [List.getElem?_set_ne (fun z => hn z.symm)] at q2
      exact r.out n l2 p g o2 q2
theorem rel_wipe {K : PySem.W.Frag} {c : Addr → Prop} {H0 H : Hp} {σ : St} (r : Rel K c w H0 σ H ls) : ∀ vs : List Nat, Rel K c w H0 (wipe σ vs) H (wipeL ls vs)
  | [] => r
  | v :: vs => set_none v (rel_wipe r vs)
theorem wipe_at {σ : St} {n : Nat} : ∀ {vs : List Nat}, n ∈ vs → n < σ.length → (wipe σ vs)[n]? = some none
  | [], h, _ => by cases h
  | v :: vs, h, hl => by
    unfold wipe
    by_cases z : v = n
    · subst z; exact List.getElem?_set_self (by rw [wipe_length]; exact hl)
    · rw [List.getElem?_set_ne z]
      rcases List.mem_cons.mp h with q | q
      · exact absurd q.symm z
      · exact wipe_at q hl
theorem wipe_eq {σ σ2 : St} {vs : List Nat} (hl : σ2.length = σ.length) (h : ∀ n, n ∉ vs → σ2[n]? = (wipe σ vs)[n]?) : wipe σ2 vs = wipe σ vs := by
  apply List.ext_getElem?
  intro n
  by_cases hn : n ∈ vs
  · by_cases hs : n < σ.length
    · rw [wipe_at hn hs, wipe_at hn (by rw [hl]; exact hs)]
    · rw [List.getElem?_eq_none (by rw [wipe_length]; omega), List.getElem?_eq_none (by rw [wipe_length]; omega)]
  · rw [wipe_out hn, h n hn]
/-- the new list at D beside -/
structure LcAt (c : Addr → Prop) (H0 H : Hp) (D : Addr) (vs : List V) : Prop where
  h0 : H0 D = none
  nc : ¬ c D
  at_ : H D = some (.lst vs)
theorem LcAt.step {c c' : Addr → Prop} {H0 H H0' H' : Hp} {D : Addr} {vs : List V} (l : LcAt c H0 H D vs) (s : Stp c H0 H c' H0' H') : LcAt c' H0' H' D vs :=
  ⟨s.f D l.h0 (.of l.at_ fun _ z => nomatch z), stp_notc s l.nc (by rw [l.at_]; exact fun z => nomatch z), s.e _ _ l.at_ l.nc⟩
theorem Rel.side {K : PySem.W.Frag} {c : Addr → Prop} {H0 H : Hp} {σ : St} {D : Addr} {u : HO} (r : Rel K c w H0 σ H ls) (h0 : H0 D = none) (nc : ¬ c D) (no : ∀ (n : Nat) (l : L), ls[n]? = some l → l.isOwn → σ[n]? ≠ some (some (.ref D))) : Rel K c w H0 σ (upd H D u) ls := by
  refine ⟨fun a o h => by rw [upd_ne fun z => by rw [z, h0] at h; cases h]; exact r.ex _ _ h, w.stable r.wd (Ex.refl _) (fun a ha => upd_ne fun z => nc (by rw [← z]; exact ha)) (fun a ha => (w.live r.wd ha).2) upd_alive, r.len, fun n l e => ?_, r.sep, r.out⟩
  have a := r.at_ n l e
  cases l with
  | no => trivial
  | im d => exact a
  | own ds =>
    obtain ⟨p', vs, e1, f0, f1, f2⟩ := a
    exact ⟨p', vs, e1, f0, by rw [upd_ne fun z => no n _ e trivial (by rw [← z]; exact e1)]; exact f1, f2⟩
  | ownT ks =>
    obtain ⟨p', vs, e1, f0, f1, f2⟩ := a
    exact ⟨p', vs, e1, f0, by rw [upd_ne fun z => no n _ e trivial (by rw [← z]; exact e1)]; exact f1, f2⟩
/-- a thing is locked for good -/
def tFrzS (t : TS) : TS := fun Dn σ H => ∃ d u, H d = some u ∧ Mut (some u) ∧ ∀ od, t Dn σ (upd H d (.frz od u))
theorem ps_frz {t : TS} (h : PS X st t) : PS X st (tFrzS t) := by
  refine ⟨fun pins s σ H Dn I hw => ?_⟩
  obtain ⟨d, u, hd, mu, hw⟩ := hw
  obtain ⟨od, I1⟩ := I.lock hd mu
  exact h.run pins s σ _ _ I1 (hw od)
theorem pss_frz {sts : List Stmt} {t : TS} (h : PSs X sts t) : PSs X sts (tFrzS t) := by
  refine ⟨fun pins s σ H Dn I hw => ?_⟩
  obtain ⟨d, u, hd, mu, hw⟩ := hw
  obtain ⟨od, I1⟩ := I.lock hd mu
  exact h.run pins s σ _ _ I1 (hw od)
theorem Stp.put1 {c c' : Addr → Prop} {H0 H H0' H' : Hp} {p : Addr} {o : HO} (s : Stp c H0 H c' H0' H') (hn : H p = none) (h0 : H0' p = none) : Stp c H0 H c' (upd H0' p o) (upd H' p o) where
  e0 := s.e0.trans (Ex.new h0)
  ex := fun a u h => by
    by_cases q : a = p
    · subst q; rw [upd_same] at h ⊢; exact h
    · rw [upd_ne q] at h ⊢; exact s.ex _ _ h
  e := fun a u h n => by rw [upd_ne (ne_of_none h hn)]; exact s.e a u h n
  f := fun a h n => by
    have q : a ≠ p := fun z => n.1 (z ▸ hn)
    rw [upd_ne q]; exact s.f a h n
  g := s.g
  h := fun a n => by
    have q : a ≠ p := fun z => n (z ▸ hn)
    rw [upd_ne q]; exact s.h a n
  hs := fun a n => by
    have q : a ≠ p := fun z => n.1 (z ▸ hn)
    unfold Solid; rw [upd_ne q]; exact s.hs a n
theorem SI.freezeT (j : Nat) {ks : List (List Key × D)} (hl : ls[j]? = some (.ownT ks)) (Dn : Ends) (σ : St) (H : Hp) (h : SI X.K w ls N R Dn σ H) : tFrzS (SI X.K w (ls.set j (.im (.dt ks))) N R) Dn σ H := by
  obtain ⟨E, c, H0, r, s, o, q1, q2⟩ := h
  obtain ⟨p', vs, e1, f0, f1, f3, f2⟩ := r.at_ j _ hl
  have hj : j < ls.length := (List.getElem?_eq_some_iff.mp hl).1
  have nc : ¬ c p' := r.out j _ p' hl trivial e1
  have nq : ∀ (n : Nat) (l2 : L) (p : Addr), n ≠ j → ls[n]? = some l2 → l2.isOwn → σ[n]? = some (some (.ref p)) → p ≠ p' := fun n l2 p hn e2 o2 q2 z => by
    subst z
    exact r.sep n j l2 _ p hn e2 hl o2 trivial q2 e1
  have nq2 : ∀ (n : Nat) (l2 : L), (ls.set j .no)[n]? = some l2 → l2.isOwn → σ[n]? ≠ some (some (.ref p')) := fun n l2 e2 o2 q2 => by
    by_cases z : j = n
    · subst z; rw [List.getElem?_set_self hj] at e2; cases e2; exact o2
    · rw [List.getElem?_set_ne z] at e2
      exact nq n l2 p' (fun h => z h.symm) e2 o2 q2 rfl
  refine ⟨p', _, f1, trivial, fun od => ?_⟩
  have r1 := (r.drop j).side (u := .frz od (.dT vs)) f0 nc nq2
  have r2 := r1.freezeG (j := j) (q0 := p') (ho := .frz od (.dT vs)) (d := .dt ks) (by rw [List.length_set]; exact hj) nc (fun n l2 p hn e2 o2 q2 z => nq2 n l2 e2 o2 (by rw [← z]; exact q2)) e1 f0 upd_same (.dt upd_same f3 (f2.ex (Ex.new f0)))
  rw [List.set_set] at r2
  exact ⟨E, c, _, r2, s.put1 (o j _ p' hl trivial e1) f0, o.put hl trivial e1, q1, q2⟩
theorem ss_fzT (j : Nat) {ks : List (List Key × D)} (hl : ls[j]? = some (.ownT ks)) {sts : List Stmt} (h : SVs X sts w (ls.set j (.im (.dt ks))) N R) : SVs X sts w ls N R := PSs.mono (pss_frz h) fun Dn σ H q => SI.freezeT j hl Dn σ H q
theorem sv_fzT (j : Nat) {ks : List (List Key × D)} (hl : ls[j]? = some (.ownT ks)) (h : SV X st w (ls.set j (.im (.dt ks))) N R) : SV X st w ls N R := PS.mono (ps_frz h) fun Dn σ H q => SI.freezeT j hl Dn σ H q
/-- what stands between a base and a comprehension's state: D is new -/
structure LcIn (cb : Addr → Prop) (Hb0 Hb : Hp) (D : Addr) (c : Addr → Prop) (H0 H : Hp) (vs : List V) : Prop where
  s : Stp cb Hb0 Hb c H0 H
  n : Hb D = none
  l : LcAt c H0 H D vs
theorem LcIn.step {cb c c' : Addr → Prop} {Hb0 Hb H0 H H0' H' : Hp} {D : Addr} {vs : List V} (l : LcIn cb Hb0 Hb D c H0 H vs) (s : Stp c H0 H c' H0' H') : LcIn cb Hb0 Hb D c' H0' H' vs := ⟨l.s.trans s, l.n, l.l.step s⟩
theorem LcIn.put {cb c : Addr → Prop} {Hb0 Hb H0 H : Hp} {D : Addr} {vs us : List V} (l : LcIn cb Hb0 Hb D c H0 H vs) : LcIn cb Hb0 Hb D c H0 (upd H D (.lst us)) us := ⟨l.s.put l.n l.l.h0, l.n, ⟨l.l.h0, l.l.nc, upd_same⟩⟩
/-- in every block of the comprehension -/
def AllB (X : Cx) (scope : Scope) (P : Cx → Prop) : Prop := ∀ (s : Shared) (H : Hp) (C : Addr) (cl : List (Str × Addr)) (fp : List Addr), P (Blk X scope s H C cl fp)
theorem anyGB_of {scope : Scope} {d : D} {N : List L → Prop} {v : V} {σ : St} {H : Hp} {Q : St → Hp → Prop} (h : AllB X scope fun B => PGv B tg js w ls d N) (q : GI X.K js w ls d N v σ H Q) : anyGB X scope tg v σ H Q := ⟨GI X.K js w ls d N, h, q⟩
theorem anyTB_of {scope : Scope} {R : Bool → Wd → Prop} {σ : St} {H : Hp} {Q : Bool → Hp → Prop} (h : AllB X scope fun B => PTv B ifs w ls R) (q : BI X.K w ls R σ H Q) : anyTB X scope ifs σ H Q := ⟨BI X.K w ls R, h, q⟩
theorem anyEB_of {scope : Scope} {R : D → Wd → Prop} {σ : St} {H : Hp} {Q : VK} (h : AllB X scope fun B => PV B e w ls R) (q : EI X.K w ls R σ H Q) : anyEB X scope e σ H Q := ⟨EI X.K w ls R, h, q⟩
theorem stp_hidden {c c' : Addr → Prop} {H0 H H0' H' : Hp} (s : Stp c H0 H c' H0' H') {p : Addr} (h : H p ≠ none) (h' : ¬ c p) : H' p = H p := by
  cases g : H p with
  | none => exact absurd g h
  | some o => exact s.e p o g h'
/-- what a comprehension is shown by: Inv of the turn and the list so far -/
abbrev LcW (X : Cx) (tg elt : Expr) (ifs : List Expr) (scope : Scope) (own : List (Str × Nat)) (ls : List L) (Inv : Nat → List D → Wd → Prop) (R : List D → Wd → Prop) : List D → Wd → Prop := fun ds w1 => Inv 0 [] w1 ∧ (∀ k d acc w', ds[k]? = some d → Inv k acc w' → AllB X scope fun B => PGv B tg (fun n => n ∈ own.map (·.2)) w' (wipeL ls (own.map (·.2))) d fun ls2 =>
      AllB X scope fun B => PTv B ifs w' ls2 fun k2 w2 => (k2 = true → AllB X scope fun B => PV B elt w2 ls2 fun y w3 => acc.length < 100000 ∧ Inv (k + 1) (acc ++ [y]) w3) ∧ (k2 = false → Inv (k + 1) acc w2)) ∧ (∀ acc w', Inv ds.length acc w' → R acc w')
abbrev LcE (X : Cx) (tg elt : Expr) (ifs : List Expr) (scope : Scope) (own : List (Str × Nat)) (ls : List L) (R : List D → Wd → Prop) : List D → Wd → Prop := fun ds w1 => ∃ Iv : Nat → List D → Wd → Prop, LcW X tg elt ifs scope own ls Iv R ds w1
theorem lc_read {own : List (Str × Nat)} {scope : Scope} {R : List D → Wd → Prop} (σ : St) (H : Hp) (Q : VK) (hq : NI X.K w ls R σ H Q) :
    tLc (WI X.K w ls (LcE X tg elt ifs scope own ls R)) (anyGB X scope tg) (anyTB X scope ifs) (anyEB X scope elt) (own.map (·.2)) σ H Q := by
  obtain ⟨c, H0, r, q⟩ := hq
  refine ⟨c, H0, r, fun J ds w1 c1 Hb0 Hb s1 p1 yl ⟨Iv, i0, step, fin⟩ Dl hD => ?_⟩
  have rb : Rel X.K c1 w1 Hb0 σ Hb ls := r.step s1 p1
  -- the state of a turn
  refine ⟨fun k m Hk => k + m = ds.length ∧ ∃ vs acc w' c' H0', Iv k acc w' ∧ LcIn c1 Hb0 Hb Dl c' H0' Hk vs ∧ w'.p c' H0' Hk ∧ RpL X.K H0' vs acc,
    ⟨ds.length, by omega, [], [], w1, c1, Hb0, i0, ⟨Stp.newO s1.ex hD, hD, ⟨none_of_ex s1.ex hD, fun hc => (w1.live p1 hc).1.1 hD, upd_same⟩⟩, Wd.newO p1 hD, .nil⟩, ?_⟩
  rintro k m Hk ⟨hm, vs, acc, w2, c2, H02, i2, l2, p2, ra⟩
  have r2 : Rel X.K c2 w2 H02 σ Hk ls := rb.step l2.s p2
  by_cases hk : k < ds.length
  · refine .inr ⟨yl.go k H02 Hk l2.s.e0 l2.s.ex hk, fun Hn => ∃ vs' acc' w' c' H0', Iv (k + 1) acc' w' ∧ LcIn c1 Hb0 Hb Dl c' H0' Hn vs' ∧ w'.p c' H0' Hn ∧ RpL X.K H0' vs' acc', fun Hn hN => ⟨m - 1, by omega, by omega, hN⟩, fun x Hy hy => ?_⟩
    obtain ⟨H0y, d, hd, sy, ry⟩ := yl.yld k H02 Hk x Hy l2.s.e0 l2.s.ex hk hy
    have ly := l2.step sy.of_pure (c' := c2)
    have py : w2.p c2 H0y Hy := Wd.of_pure p2 sy
    have rw' : Rel X.K c2 w2 H0y (wipe σ (own.map (·.2))) Hy (wipeL ls (own.map (·.2))) := rel_wipe (r2.step sy.of_pure py) _
    refine anyGB_of (step k d acc w2 hd i2) ⟨c2, H0y, rw', ry, fun ls2 σ2 r3 o3 j3 z => ⟨wipe_eq (j3.1.trans (wipe_length _ _)) j3.2, anyTB_of z ⟨c2, H0y, r3, fun k2 w3 c3 H03 H3 s3 p3 z3 => ?_⟩⟩⟩
    · cases k2 with
      | true =>
        refine iteT (anyEB_of (z3.1 rfl) ⟨c3, H03, r3.step s3 p3, fun v y w4 c4 H04 H4 s4 p4 ry4 ⟨hl, i4⟩ => ?_⟩)
        have l4 := (ly.step s3).step s4
        have ra4 : RpL X.K H04 vs acc := ra.ex ((sy.e0.trans s3.e0).trans s4.e0)
        refine ⟨vs, l4.l.at_, by rw [ra4.length]; exact Evl.sz_lt hl, _, _, w4, c4, H04, i4, l4.put, ?_, ra4.append (.cons ry4 .nil)⟩
        exact w4.stable p4 (Ex.refl _) (fun a ha => upd_ne fun z => l4.l.nc (by rw [← z]; exact ha)) (fun a ha => (w4.live p4 ha).2) upd_alive
      | false => exact iteF ⟨vs, acc, w3, c3, H03, z3.2 rfl, ly.step s3, p3, ra.ex (sy.e0.trans s3.e0)⟩
  · have ek : k = ds.length := by omega
    subst ek
    refine .inl ⟨yl.stop _ H02 Hk l2.s.e0 l2.s.ex (Nat.le_refl _), q Dl vs acc w2 c2 H02 Hk (s1.trans l2.s) p2 (stp_new0 s1 hD) l2.l.h0 l2.l.nc l2.l.at_ ra (fin acc w2 i2)⟩
theorem pn_lcE (own : List (Str × Nat)) {scope : Scope} {R : List D → Wd → Prop} (hc : X.calm = true) (hN : X.N.Nodup) (ok : BlkOk X.N X.env.scope scope own)
    (h : PIv X tg iter w ls (LcE X tg elt ifs scope own ls R)) (hs : ∀ x, foldedSetIterable iter X.env x = pure x := by intro _; rfl) : PN X (.ListComp elt [⟨tg, iter, ifs, 0⟩] scope pos) w ls R :=
  PE.mono (pe_lc hc hN h ok (pg_anyB (scope := scope)) (pts_anyB (scope := scope)) (pe_anyB (scope := scope)) hs) lc_read
theorem pn_lc (own : List (Str × Nat)) {scope : Scope} (Inv : Nat → List D → Wd → Prop) {R : List D → Wd → Prop} (hc : X.calm = true) (hN : X.N.Nodup) (ok : BlkOk X.N X.env.scope scope own)
    (h : PIv X tg iter w ls (LcW X tg elt ifs scope own ls Inv R)) (hs : ∀ x, foldedSetIterable iter X.env x = pure x := by intro _; rfl) : PN X (.ListComp elt [⟨tg, iter, ifs, 0⟩] scope pos) w ls R :=
  pn_lcE own hc hN ok (PI.mono h fun σ H R0 ⟨c, H0, r, q⟩ => ⟨c, H0, r, fun J ds w' c' H0' H' s p yl z => q J ds w' c' H0' H' s p yl ⟨Inv, z⟩⟩) hs
/-- name = [..] -/
theorem s_setLcE (j : Nat) (own : List (Str × Nat)) {scope : Scope} {py spos : Pos} (hc : X.calm = true) (hN : X.N.Nodup) (ok : BlkOk X.N X.env.scope scope own)
    (h : PIv X tg iter w ls (LcE X tg elt ifs scope own ls fun ds w' => N (ls.set j (.own ds)) w')) (hsw : swapsWith (.ListComp elt [⟨tg, iter, ifs, 0⟩] scope pos) (some (.Name y py)) spos.line X.env = pure true) (hy : X.N[j]? = some y := by rfl) (hyl : X.env.scope.names.lookup y = some .local := by rfl)
    (hs : ∀ x, foldedSetIterable iter X.env x = pure x := by intro _; rfl) : SV X (.Assign [.Name y py] (.ListComp elt [⟨tg, iter, ifs, 0⟩] scope pos) spos) w ls N R :=
  PS.mono (ps_setLc hc hN hy hyl hsw h ok (pg_anyB (scope := scope)) (pts_anyB (scope := scope)) (pe_anyB (scope := scope)) hs) fun Dn σ H ⟨E, c, H0, r, s, o, q1, q2⟩ =>
    lc_read σ H _ ⟨c, H0, r, fun q0 vs ds w' c' H0' H' s2 p hn h0 nc h1 h2 z =>
      q1 _ w' c' H0' _ H' ((r.step s2 p).setO (l := .own ds) j ⟨q0, vs, rfl, h0, h1, h2⟩ nc (fun n l' e ow q => r.ownAt e ow q hn)) (s.trans s2) (ownNew_setO o (stp_new0 s hn) r.len) z⟩
theorem s_setLc (j : Nat) (own : List (Str × Nat)) {scope : Scope} {py spos : Pos} (Inv : Nat → List D → Wd → Prop) (hc : X.calm = true) (hN : X.N.Nodup) (ok : BlkOk X.N X.env.scope scope own)
    (h : PIv X tg iter w ls (LcW X tg elt ifs scope own ls Inv fun ds w' => N (ls.set j (.own ds)) w')) (hsw : swapsWith (.ListComp elt [⟨tg, iter, ifs, 0⟩] scope pos) (some (.Name y py)) spos.line X.env = pure true) (hy : X.N[j]? = some y := by rfl) (hyl : X.env.scope.names.lookup y = some .local := by rfl)
    (hs : ∀ x, foldedSetIterable iter X.env x = pure x := by intro _; rfl) : SV X (.Assign [.Name y py] (.ListComp elt [⟨tg, iter, ifs, 0⟩] scope pos) spos) w ls N R :=
  s_setLcE j own hc hN ok (PI.mono h fun σ H R0 ⟨c, H0, r, q⟩ => ⟨c, H0, r, fun J ds w' c' H0' H' s p yl z => q J ds w' c' H0' H' s p yl ⟨Inv, z⟩⟩) hsw hy hyl hs

/-! ### a def -/
abbrev XC (P : Program) (w : World) (K : PySem.W.Frag) (mg : Str → Option Value) (base : Heap) (N : List Str) (qual : Str) (scope : Scope) (f : Addr) (cdv : Value) (A : Around) (outer : List Env) (s : Shared) (H : Hp) (E : XK) : Cx := (cxOf CX0 P w K mg base N qual scope f cdv A outer s H E).nox
def startL (N : List Str) (ds : List D) : List L := ds.map .im ++ List.replicate (N.length - ds.length) .no
theorem rel_start {K : PySem.W.Frag} {N : List Str} {vs : List V} {ds : List D} {H0 H : Hp} (e : Ex H0 H) (r : RpL K H0 vs ds) : Rel K noC Wd.nil H0 (L2.start N vs) H (startL N ds) := by
  have no : ∀ (n : Nat) (l : L), (startL N ds)[n]? = some l → ¬ l.isOwn := fun n l e => by
    have hm := List.mem_of_getElem? e
    unfold startL at hm
    rcases List.mem_append.mp hm with h | h
    · obtain ⟨d, _, rfl⟩ := List.mem_map.mp h; exact fun z => z
    · rw [(List.mem_replicate.mp h).2]; exact fun z => z
  refine ⟨e, fun _ z => z, ?_, fun n l hl => ?_, fun n n' l l' p _ e1 _ o _ => absurd o (no n l e1), fun n l p e1 o => absurd o (no n l e1)⟩
  · unfold L2.start startL
    rw [List.length_append, List.length_append, List.length_map, List.length_map, List.length_replicate, List.length_replicate, r.length]
  · unfold startL at hl
    unfold L2.start
    by_cases hn : n < ds.length
    · rw [List.getElem?_append_left (by rw [List.length_map]; exact hn), List.getElem?_map] at hl
      rw [List.getElem?_append_left (by rw [List.length_map, r.length]; exact hn), List.getElem?_map]
      cases g : ds[n]? with
      | none => rw [g] at hl; cases hl
      | some d =>
        rw [g] at hl; cases hl
        obtain ⟨v, g1, g2⟩ := r.get g
        rw [g1]
        exact ⟨v, rfl, g2⟩
    · rw [List.getElem?_append_right (by rw [List.length_map]; omega)] at hl
      have hm := List.mem_of_getElem? hl
      rw [(List.mem_replicate.mp hm).2]
      trivial
variable {P : Program} {wo : World} {K : PySem.W.Frag} {mg : Str → Option Value} {base : Heap} {qual : Str} {params : Arguments} {scope : Scope} {dvs : List V} {kws : List (Str × V)} {f : Addr} {fd : FuncData}
/-- THE RULE for a def with a pure promise -/
theorem fn_pure {N ps : List Str} {k : Nat} {S : List D → (D → Prop) → Prop} (F : FunD K x qual params body scope dvs kws f fd) (Sc : FnScope N ps scope) (len : ∀ ds R, S ds R → ds.length = ps.length)
    (hb : ∀ (cdv : Value) (A : Around) (outer : List Env) (s : Shared) (H : Hp) (E : XK), Room k (A.deeper (envOfC qual scope s.heap.objs.size f cdv)) → ∀ (ds : List D) (R : D → Prop), S ds R →
      SVs (XC P wo K mg base N qual scope f cdv A outer s H E) body Wd.nil (startL N ds) (fun _ _ => R .non) (fun d _ => R d)) : FnOk P wo K mg base CX0 (k + 1) f fd ps (spD K S) := by
  refine F.ok Sc (fun vs H Q E ⟨H0, ds, R, _, r, s, _⟩ => r.length.trans (len ds R s)) fun cdv A outer s H vs Q E hr ⟨H0, ds, R, e, r, hS, q⟩ => ?_
  refine ⟨_, (hb cdv A outer s H E hr ds R hS).nox, ⟨noC, H0, H⟩, noC, H0, rel_start e r, Stp.refl e, fun n l p e1 o _ => ?_, fun ls' w' c' H0' σ' H' r' s' _ z => ?_, fun v d w' c' H0' H' s' _ rp z => ?_⟩
  · have hm := List.mem_of_getElem? e1
    unfold startL at hm
    rcases List.mem_append.mp hm with h | h
    · obtain ⟨d, _, rfl⟩ := List.mem_map.mp h; exact absurd o fun z => z
    · rw [(List.mem_replicate.mp h).2] at o; exact absurd o fun z => z
  · exact q .non .non H0' H' ⟨s'.e0, s'.ex, s'.e, s'.f, fun a z => z.elim, s'.h, s'.hs⟩ .non z
  · exact q v d H0' H' ⟨s'.e0, s'.ex, s'.e, s'.f, fun a z => z.elim, s'.h, s'.hs⟩ rp z
end
end Pd
set_option Elab.async false
set_option linter.all false
set_option maxRecDepth 100000
set_option maxHeartbeats 4000000
namespace FH
open PySem PySem.Spec PyProof.Rows L2 Pd
open Evl (Ex)
abbrev St := L2.St
section
variable {X : Cx} {e a b o : Expr} {es : List Expr} {w : Wd} {ls : List L} {R : D → Wd → Prop} {pos p : Pos} {k : Nat} {f C : Addr} {ps : List Str} {S : List D → (D → Prop) → Prop} {dvs : List V} {dds : List D} {x m : Str}
theorem pv_cal (c : Cal X.prog X.w X.K X.mg X.base k f ps [] (spD X.K S)) (hr : Room k X.A) (hm : X.mg x = some (.ref f)) (h : PAs X (e :: es) w ls fun ds w1 => S ds fun d => R d w1) (hg : Gl X x := by rfl) (hdb : (x == ("__debug__" : Str)) = false := by decide)
    (he : starEach (e :: es) X.env = (false, eval e X.env) :: starEach es X.env := by rfl) (hpl : (backTo pos (starEach es X.env)).any (·.1) = false := by rfl) : PV X (.Call (.Name x p) (e :: es) [] pos) w ls R := by
  obtain ⟨fd, ds, F, hb, hd, kp⟩ := c
  refine pv_call (dds := []) F hr hm kp hb hd pass0 (fun _ => .nil) ?_ hg hdb he hpl
  exact PA.mono h fun σ H Q ⟨c, H0, r, q⟩ => ⟨c, H0, r, fun vs ds w' c' H0' H' s p rp z => q vs ds w' c' H0' H' s p rp (by simpa using z)⟩
theorem pv_calm {apos : Pos} {pl : Sem Bool} (c : Cal X.prog X.w X.K X.mg X.base k f ps [] (spD X.K S)) (hr : Room k X.A) (hC : Cls X.K C) (hm : Meth X.K C m f) (h : PV X o w ls fun x w1 => ∃ fs, x = .ins C fs ∧ fs.lookup m = none ∧ PAs X (e :: es) w1 ls fun ds w2 => S (x :: ds) fun d => R d w2)
    (he : starEach (e :: es) X.env = (false, eval e X.env) :: starEach es X.env := by rfl) (hpl : (backTo pos (starEach es X.env)).any (·.1) = false := by rfl)
    (ht : eval (.Call (.Attribute o m apos) (e :: es) [] pos) X.env = (do
      let ov ← eval o X.env
      standAt apos.atName
      let (f, first) ← holding [ov] (getMethod ov m pl)
      callWith pos f first (backTo pos (starEach (e :: es) X.env)) (backToKw pos (keywordEach [] X.env))) := by rfl) : PV X (.Call (.Attribute o m apos) (e :: es) [] pos) w ls R := by
  obtain ⟨fd, ds, F, hb, hd, kp⟩ := c
  refine pv_meth (dds := []) hC hm F hr hb hd pass0 (fun _ => .nil) (h.imp fun x w1 ⟨fs, e1, hl, z⟩ => ⟨fs, e1, hl, ?_⟩) he hpl ht
  exact PA.mono z fun σ H Q ⟨c, H0, r, q⟩ => ⟨c, H0, r, fun vs ds w' c' H0' H' s p rp z => q vs ds w' c' H0' H' s p rp (by simpa using z)⟩
theorem pv_calm0 {apos : Pos} {pl : Sem Bool} (c : Cal X.prog X.w X.K X.mg X.base k f ps [] (spD X.K S)) (hr : Room k X.A) (hC : Cls X.K C) (hm : Meth X.K C m f) (h : PV X o w ls fun x w1 => ∃ fs, x = .ins C fs ∧ fs.lookup m = none ∧ S [x] fun d => R d w1)
    (ht : eval (.Call (.Attribute o m apos) [] [] pos) X.env = (do
      let ov ← eval o X.env
      standAt apos.atName
      let (f, first) ← holding [ov] (getMethod ov m pl)
      callWith pos f first (backTo pos (starEach [] X.env)) (backToKw pos (keywordEach [] X.env))) := by rfl) : PV X (.Call (.Attribute o m apos) [] [] pos) w ls R := by
  obtain ⟨fd, ds, F, hb, hd, kp⟩ := c
  exact pv_meth0 (dds := []) hC hm F hr hb hd pass0 (fun _ => .nil) h ht
theorem pv_calp {g pa : Addr} (c : Cal X.prog X.w X.K X.mg X.base k g ps [] (spD X.K S)) (hr : Room (k + 1) X.A) (hC : Cls X.K C) (hp : PropOf X.K C m pa g) (h : PV X o w ls fun x w1 => ∃ fs, x = .ins C fs ∧ S [x] fun d => R d w1)
    (hab : attributeBase o m X.env (eval o X.env) = eval o X.env := by rfl) : PV X (.Attribute o m pos) w ls R := by
  obtain ⟨fd, ds, F, hb, hd, kp⟩ := c
  exact pv_prop (dds := []) hC hp F hr hb hd pass0 (fun _ => .nil) h hab
end
/-- a def without defaults -/
theorem cal0 {P : Program} {wo : World} {K : PySem.W.Frag} {mg : Str → Option Value} {base : Heap} {x qual : Str} {params : Arguments} {body : List Stmt} {scope : Scope} {f : Addr} {N ps : List Str} {k : Nat} {S : List D → (D → Prop) → Prop}
    (F : ∃ fd, FunD K x qual params body scope [] [] f fd) (Sc : FnScope N ps scope) (len : ∀ ds R, S ds R → ds.length = ps.length)
    (hbind : ∀ (kV doc pm : Value) (an : Option Addr) (cdv ct : Value) (us : List Value), us.length = ps.length → bindArgs (PySem.W.fnOf x qual params body scope .none kV doc pm an cdv ct) ⟨us, []⟩ = pure (ps.zip us))
    (hb : ∀ (cdv : Value) (A : Around) (outer : List Env) (s : Shared) (H : Hp) (E : XK), Room k (A.deeper (envOfC qual scope s.heap.objs.size f cdv)) → ∀ (ds : List D) (R : D → Prop), S ds R →
      SVs (XC P wo K mg base N qual scope f cdv A outer s H E) body Wd.nil (startL N ds) (fun _ _ => R .non) (fun d _ => R d)) : Cal P wo K mg base (k + 1) f ps [] (spD K S) := by
  obtain ⟨fd, F⟩ := F
  exact ⟨fd, [], fn_pure F Sc len hb, F.bindsN hbind, .nil, F.kp⟩
end FH
set_option Elab.async false
set_option linter.all false
set_option maxRecDepth 100000
set_option maxHeartbeats 4000000
namespace Pd
open PySem PySem.Spec PyProof.Rows L2
open Evl (Ex)
section
variable {X : Cx} {e a b o i tg iter elt kx vx : Expr} {es ifs : List Expr} {w : Wd} {ls : List L} {R : D → Wd → Prop} {pos p : Pos} {x y : Str} {st : Stmt} {rest body : List Stmt} {N : List L → Wd → Prop} {js : Nat → Prop}

/-! ### dict comprehensions: keys ints and texts -/
def KI (K : PySem.W.Frag) (w : Wd) (ls : List L) (R : List (Key × D) → Wd → Prop) : TE := fun σ H Q => ∃ c H0, Rel K c w H0 σ H ls ∧
  ∀ p kvs ks w' c' H0' H', Stp c H0 H c' H0' H' → w'.p c' H0' H' → H p = none → H0' p = none → ¬ c' p → H' p = some (.dK kvs) → kvs.map (·.1) = ks.map (·.1) → RpL K H0' (kvs.map (·.2)) (ks.map (·.2)) → R ks w' → Q (.ref p) H'
/-- a new dict -/
def PK (X : Cx) (e : Expr) (w : Wd) (ls : List L) (R : List (Key × D) → Wd → Prop) : Prop := PE X e (KI X.K w ls R)
theorem pv_pk (h : PK X e w ls fun ks w' => R (.dk ks) w') : PV X e w ls R :=
  PE.mono h fun σ H Q ⟨c, H0, r, q⟩ => ⟨c, H0, r, fun p kvs ks w' c' H0' H' s hp hn h0 nc h1 h2 h3 z =>
    q (.ref p) (.dk ks) w' c' (upd H0' p (.dK kvs)) H' (s.freeze hn h0 h1) (Wd.freeze hp nc h0) (.dk (.inl upd_same) h2 (h3.ex (Ex.new h0))) z⟩
structure DcAt (c : Addr → Prop) (H0 H : Hp) (D : Addr) (kvs : List (Key × V)) : Prop where
  h0 : H0 D = none
  nc : ¬ c D
  at_ : H D = some (.dK kvs)
structure DcIn (cb : Addr → Prop) (Hb0 Hb : Hp) (D : Addr) (c : Addr → Prop) (H0 H : Hp) (kvs : List (Key × V)) : Prop where
  s : Stp cb Hb0 Hb c H0 H
  n : Hb D = none
  l : DcAt c H0 H D kvs
theorem DcIn.step {cb c c' : Addr → Prop} {Hb0 Hb H0 H H0' H' : Hp} {D : Addr} {vs : List (Key × V)} (l : DcIn cb Hb0 Hb D c H0 H vs) (s : Stp c H0 H c' H0' H') : DcIn cb Hb0 Hb D c' H0' H' vs :=
  ⟨l.s.trans s, l.n, ⟨s.f D l.l.h0 (.of l.l.at_ fun _ z => nomatch z), stp_notc s l.l.nc (by rw [l.l.at_]; exact fun z => nomatch z), s.e _ _ l.l.at_ l.l.nc⟩⟩
theorem DcIn.put {cb c : Addr → Prop} {Hb0 Hb H0 H : Hp} {D : Addr} {vs us : List (Key × V)} (l : DcIn cb Hb0 Hb D c H0 H vs) : DcIn cb Hb0 Hb D c H0 (upd H D (.dK us)) us := ⟨l.s.put l.n l.l.h0, l.n, ⟨l.l.h0, l.l.nc, upd_same⟩⟩
abbrev DcW (X : Cx) (tg kx vx : Expr) (ifs : List Expr) (scope : Scope) (own : List (Str × Nat)) (ls : List L) (Inv : Nat → List (Key × D) → Wd → Prop) (R : List (Key × D) → Wd → Prop) : List D → Wd → Prop := fun ds w1 => Inv 0 [] w1 ∧
  (∀ k d acc w', ds[k]? = some d → Inv k acc w' → AllB X scope fun B => PGv B tg (fun n => n ∈ own.map (·.2)) w' (wipeL ls (own.map (·.2))) d fun ls2 =>
      AllB X scope fun B => PTv B ifs w' ls2 fun k2 w2 => (k2 = true → AllB X scope fun B => PV B kx w2 ls2 fun y w3 => AllB X scope fun B => PV B vx w3 ls2 fun z w4 => ∃ kk, y = kD kk ∧ acc.length < 100000 ∧ Inv (k + 1) (putD acc kk z) w4) ∧ (k2 = false → Inv (k + 1) acc w2)) ∧ (∀ acc w', Inv ds.length acc w' → R acc w')
abbrev DcE (X : Cx) (tg kx vx : Expr) (ifs : List Expr) (scope : Scope) (own : List (Str × Nat)) (ls : List L) (R : List (Key × D) → Wd → Prop) : List D → Wd → Prop := fun ds w1 => ∃ Iv : Nat → List (Key × D) → Wd → Prop, DcW X tg kx vx ifs scope own ls Iv R ds w1
theorem pk_dcE (own : List (Str × Nat)) {scope : Scope} {R : List (Key × D) → Wd → Prop} (hc : X.calm = true) (hN : X.N.Nodup) (ok : BlkOk X.N X.env.scope scope own)
    (h : PIv X tg iter w ls (DcE X tg kx vx ifs scope own ls R)) (hs : ∀ x, foldedSetIterable iter X.env x = pure x := by intro _; rfl) : PK X (.DictComp kx vx [⟨tg, iter, ifs, 0⟩] scope pos) w ls R := by
  refine PE.mono (pe_dc hc hN h ok (pg_anyB (scope := scope)) (pts_anyB (scope := scope)) (pe_anyB (scope := scope)) (pe_anyB (scope := scope)) hs) fun σ H Q ⟨c, H0, r, q⟩ => ?_
  refine ⟨c, H0, r, fun J ds w1 c1 Hb0 Hb s1 p1 yl ⟨Iv, i0, step, fin⟩ Dl hD => ?_⟩
  have rb : Rel X.K c1 w1 Hb0 σ Hb ls := r.step s1 p1
  refine ⟨fun k m Hk => k + m = ds.length ∧ ∃ vs acc w' c' H0', Iv k acc w' ∧ DcIn c1 Hb0 Hb Dl c' H0' Hk vs ∧ w'.p c' H0' Hk ∧ vs.map (·.1) = acc.map (·.1) ∧ RpL X.K H0' (vs.map (·.2)) (acc.map (·.2)),
    ⟨ds.length, by omega, [], [], w1, c1, Hb0, i0, ⟨Stp.newO s1.ex hD, hD, ⟨none_of_ex s1.ex hD, fun hc => (w1.live p1 hc).1.1 hD, upd_same⟩⟩, Wd.newO p1 hD, rfl, .nil⟩, ?_⟩
  rintro k m Hk ⟨hm, vs, acc, w2, c2, H02, i2, l2, p2, ka, ra⟩
  have r2 : Rel X.K c2 w2 H02 σ Hk ls := rb.step l2.s p2
  by_cases hk : k < ds.length
  · refine .inr ⟨yl.go k H02 Hk l2.s.e0 l2.s.ex hk, fun Hn => ∃ vs' acc' w' c' H0', Iv (k + 1) acc' w' ∧ DcIn c1 Hb0 Hb Dl c' H0' Hn vs' ∧ w'.p c' H0' Hn ∧ vs'.map (·.1) = acc'.map (·.1) ∧ RpL X.K H0' (vs'.map (·.2)) (acc'.map (·.2)), fun Hn hN => ⟨m - 1, by omega, by omega, hN⟩, fun x Hy hy => ?_⟩
    obtain ⟨H0y, d, hd, sy, ry⟩ := yl.yld k H02 Hk x Hy l2.s.e0 l2.s.ex hk hy
    have ly := l2.step sy.of_pure (c' := c2)
    have py : w2.p c2 H0y Hy := Wd.of_pure p2 sy
    have rw' : Rel X.K c2 w2 H0y (wipe σ (own.map (·.2))) Hy (wipeL ls (own.map (·.2))) := rel_wipe (r2.step sy.of_pure py) _
    refine anyGB_of (step k d acc w2 hd i2) ⟨c2, H0y, rw', ry, fun ls2 σ2 r3 o3 j3 z => ⟨wipe_eq (j3.1.trans (wipe_length _ _)) j3.2, anyTB_of z ⟨c2, H0y, r3, fun k2 w3 c3 H03 H3 s3 p3 z3 => ?_⟩⟩⟩
    cases k2 with
    | true =>
      refine iteT (anyEB_of (z3.1 rfl) ⟨c3, H03, r3.step s3 p3, fun v y w4 c4 H04 H4 s4 p4 ry4 z4 => anyEB_of z4 ⟨c4, H04, (r3.step s3 p3).step s4 p4, fun u z w5 c5 H05 H5 s5 p5 ry5 ⟨kk, e1, hl, i5⟩ => ?_⟩⟩)
      subst e1
      have l5 := ((ly.step s3).step s4).step s5
      have ra5 : RpL X.K H05 (vs.map (·.2)) (acc.map (·.2)) := ra.ex (((sy.e0.trans s3.e0).trans s4.e0).trans s5.e0)
      obtain ⟨g1, g2⟩ := rpl_put kk ry5 ka ra5
      have hlen : vs.length = acc.length := by
        have := congrArg List.length ka
        simpa using this
      refine ⟨vs, kk, rp_kD ry4, l5.l.at_, by rw [hlen]; exact Evl.sz_lt hl, _, _, w5, c5, H05, i5, l5.put, ?_, g1, g2⟩
      exact w5.stable p5 (Ex.refl _) (fun a ha => upd_ne fun z => l5.l.nc (by rw [← z]; exact ha)) (fun a ha => (w5.live p5 ha).2) upd_alive
    | false => exact iteF ⟨vs, acc, w3, c3, H03, z3.2 rfl, ly.step s3, p3, ka, ra.ex (sy.e0.trans s3.e0)⟩
  · have ek : k = ds.length := by omega
    subst ek
    exact .inl ⟨yl.stop _ H02 Hk l2.s.e0 l2.s.ex (Nat.le_refl _), q Dl vs acc w2 c2 H02 Hk (s1.trans l2.s) p2 (stp_new0 s1 hD) l2.l.h0 l2.l.nc l2.l.at_ ka ra (fin acc w2 i2)⟩

/-! ### len, list of a dict -/
theorem pk_dc (own : List (Str × Nat)) {scope : Scope} (Inv : Nat → List (Key × D) → Wd → Prop) {R : List (Key × D) → Wd → Prop} (hc : X.calm = true) (hN : X.N.Nodup) (ok : BlkOk X.N X.env.scope scope own)
    (h : PIv X tg iter w ls (DcW X tg kx vx ifs scope own ls Inv R)) (hs : ∀ x, foldedSetIterable iter X.env x = pure x := by intro _; rfl) : PK X (.DictComp kx vx [⟨tg, iter, ifs, 0⟩] scope pos) w ls R :=
  pk_dcE own hc hN ok (PI.mono h fun σ H R0 ⟨c, H0, r, q⟩ => ⟨c, H0, r, fun J ds w' c' H0' H' s p yl z => q J ds w' c' H0' H' s p yl ⟨Inv, z⟩⟩) hs
theorem call_lenK : CallR X (.builtin "len") (fun xs H Q => ∃ a kvs, xs = [V.ref a] ∧ Rd H a (.dK kvs) ∧ Q (.int kvs.length) H) := by
  intro pins s σ H xs us Q I r h
  obtain ⟨a, kvs, rfl, ha, q⟩ := h
  obtain ⟨u, rfl, ru⟩ := vals1 r
  cases ru
  exact d_len I ha fun t s' I' => ⟨.int kvs.length, H, I', ⟨t, rfl⟩, q⟩
theorem keys_len {κ : Type} {kvs : List (κ × V)} {ks : List (κ × D)} (h : kvs.map (·.1) = ks.map (·.1)) : kvs.length = ks.length := by
  have := congrArg List.length h
  simpa using this
theorem pv_lenK (hm : X.mg "len" = none) (h : PV X e w ls fun d w1 => ∃ ks, d = .dk ks ∧ R (.int ks.length) w1) (hg : Gl X "len" := by rfl)
    (he : starEach [e] X.env = (false, eval e X.env) :: starEach [] X.env := by rfl) (hpl : (backTo pos (starEach [] X.env)).any (·.1) = false := by rfl) : PV X (.Call (.Name "len" p) [e] [] pos) w ls R := by
  refine pv_callB call_lenK hm PySem.boot_len (pas_cons (h.imp fun d w1 ⟨ks, e1, z⟩ => pas_nil ?_) he) hg (by decide) (by decide) he hpl
  intro c H0 H vs ex hw hr Q q
  subst e1
  cases hr with
  | cons h1 h2 =>
    cases h2
    cases h1 with
    | dk g1 g2 g3 => exact ⟨_, _, rfl, ex_rd ex g1, by rw [keys_len g2]; exact q _ _ _ c H0 H (Stp.refl ex) hw (.int _) z⟩
/-- a call that makes a new list -/
def CallN (K : PySem.W.Frag) (r : List V → Hp → VK → Prop) (w : Wd) (ds : List D) (R : List D → Wd → Prop) : Prop := ∀ (c : Addr → Prop) (H0 H : Hp) (vs : List V), Ex H0 H → w.p c H0 H → RpL K H0 vs ds → ∀ Q : VK,
  (∀ p us es H0', H p = none → Ex H0 H0' → (∀ a, H0 a = none → Solid H a → H0' a = none) → Ex H0' H → RpL K H0' us es → R es w → Q (.ref p) (upd H p (.lst us))) → r vs H Q
theorem ei_argsN {r : List V → Hp → VK → Prop} {R : List D → Wd → Prop} (h : PAs X es w ls fun ds w1 => CallN X.K r w1 ds R) : ∀ σ H Q, NI X.K w ls R σ H Q → tCB r (AI X.K w ls fun ds w1 => CallN X.K r w1 ds R) σ H Q :=
  fun σ H Q ⟨c, H0, r0, q⟩ => ⟨c, H0, r0, fun vs ds w1 c1 H01 H1 s p rps z => z c1 H01 H1 vs s.ex p rps Q fun n us es H0' hn e0 f0 ex' rp z2 => by
    have s' : Stp c H0 H c1 H0' H1 := ⟨s.e0.trans e0, ex', s.e, fun a h n => f0 a (s.f a h n) (s.hs a n), s.g, s.h, s.hs⟩
    have p' : w1.p c1 H0' H1 := w1.stable p e0 (fun _ _ => rfl) (fun a ha => f0 a (w1.live p ha).2 (w1.live p ha).1) fun _ n => n
    exact q n us es w1 c1 H0' _ (s'.trans (Stp.newO ex' hn)) (Wd.newO p' hn) (stp_new0 s hn) (none_of_ex ex' hn) (fun hc => (w1.live p hc).1.1 hn) upd_same rp z2⟩
variable {T id : String} {r : List V → Hp → VK → Prop}
theorem pn_callTy {R : List D → Wd → Prop} (hc : CallR X (.type T) r) (hm : X.mg x = none) (hv : bootBuiltins x = some (.type T)) (h : PAs X (e :: es) w ls fun ds w1 => CallN X.K r w1 ds R) (hg : Gl X x := by rfl) (hn : x ≠ "__name__" := by decide) (hdb : (x == ("__debug__" : Str)) = false := by decide)
    (he : starEach (e :: es) X.env = (false, eval e X.env) :: starEach es X.env := by rfl) (hpl : (backTo pos (starEach es X.env)).any (·.1) = false := by rfl) : PN X (.Call (.Name x p) (e :: es) [] pos) w ls R :=
  PE.mono (pe_callTy hc hg hm hv h hn hdb he hpl) (ei_argsN h)
theorem pn_callB {R : List D → Wd → Prop} (hc : CallR X (.builtin id) r) (hm : X.mg x = none) (hv : bootBuiltins x = some (.builtin id)) (h : PAs X (e :: es) w ls fun ds w1 => CallN X.K r w1 ds R) (hg : Gl X x := by rfl) (hn : x ≠ "__name__" := by decide) (hdb : (x == ("__debug__" : Str)) = false := by decide)
    (he : starEach (e :: es) X.env = (false, eval e X.env) :: starEach es X.env := by rfl) (hpl : (backTo pos (starEach es X.env)).any (·.1) = false := by rfl) : PN X (.Call (.Name x p) (e :: es) [] pos) w ls R :=
  PE.mono (pe_callB hc hg hm hv h hn hdb he hpl) (ei_argsN h)
theorem rpl_keys {K : PySem.W.Frag} {H : Hp} : ∀ (ks : List Key), RpL K H (ks.map kV) (ks.map kD)
  | [] => .nil
  | .inl i :: r => .cons (.int i) (rpl_keys r)
  | .inr s :: r => .cons (.str s) (rpl_keys r)
/-- list(d): the keys -/
theorem pn_listK {R : List D → Wd → Prop} (hca : X.calm = true) (hm : X.mg "list" = none) (h : PV X e w ls fun d w1 => ∃ ks, d = .dk ks ∧ R (ks.map fun kv => kD kv.1) w1) (hg : Gl X "list" := by rfl)
    (he : starEach [e] X.env = (false, eval e X.env) :: starEach [] X.env := by rfl) (hpl : (backTo pos (starEach [] X.env)).any (·.1) = false := by rfl) : PN X (.Call (.Name "list" p) [e] [] pos) w ls R := by
  refine pn_callTy (call_listD hca) hm boot_list (pas_cons (h.imp fun d w1 ⟨ks, e1, z⟩ => pas_nil ?_) he) hg (by decide) (by decide) he hpl
  intro c H0 H vs ex hw hr Q q
  subst e1
  cases hr with
  | cons h1 h2 =>
    cases h2
    cases h1 with
    | dk g1 g2 g3 =>
      refine ⟨_, _, rfl, ex_rd ex g1, fun n hn => q n _ (ks.map fun kv => kD kv.1) H0 hn (Ex.refl _) (fun _ h _ => h) ex ?_ z⟩
      have e2 : ∀ (l : List (Key × V)), (l.map fun kv => kV kv.1) = (l.map (·.1)).map kV := fun l => by rw [List.map_map]; rfl
      have e3 : ∀ (l : List (Key × D)), (l.map fun kv => kD kv.1) = (l.map (·.1)).map kD := fun l => by rw [List.map_map]; rfl
      rw [e2, e3, g2]
      exact rpl_keys _
/-- list(t), list(l) -/
theorem pn_listT {R : List D → Wd → Prop} (hm : X.mg "list" = none) (h : PV X e w ls fun d w1 => ∃ ds, (IsT d ds ∨ d = .lst ds) ∧ R ds w1) (hg : Gl X "list" := by rfl)
    (he : starEach [e] X.env = (false, eval e X.env) :: starEach [] X.env := by rfl) (hpl : (backTo pos (starEach [] X.env)).any (·.1) = false := by rfl) : PN X (.Call (.Name "list" p) [e] [] pos) w ls R := by
  refine pn_callTy call_list_of hm boot_list (pas_cons (h.imp fun d w1 ⟨ds, e1, z⟩ => pas_nil ?_) he) hg (by decide) (by decide) he hpl
  intro c H0 H vs ex hw hr Q q
  cases hr with
  | cons h1 h2 =>
    cases h2
    rcases e1 with e1 | e1
    · obtain ⟨p', us, rfl, hq, hr⟩ := e1.v h1
      exact ⟨p', us, rfl, .inr (sqT_ex ex hq), fun n hn => q n _ ds H0 hn (Ex.refl _) (fun _ h _ => h) ex hr z⟩
    · subst e1
      cases h1 with
      | lst g1 g2 => exact ⟨_, _, rfl, .inl (.inl (.inl (ex _ _ g1))), fun n hn => q n _ ds H0 hn (Ex.refl _) (fun _ h _ => h) ex g2 z⟩
/-- list(d), tuple keys: the key tuples -/
theorem pn_listKT {R : List D → Wd → Prop} (hca : X.calm = true) (hm : X.mg "list" = none) (h : PTd X e w ls fun ks w1 => R (ks.map fun kv => .tup (kv.1.map kD)) w1) (hg : Gl X "list" := by rfl)
    (he : starEach [e] X.env = (false, eval e X.env) :: starEach [] X.env := by rfl) (hpl : (backTo pos (starEach [] X.env)).any (·.1) = false := by rfl) : PN X (.Call (.Name "list" p) [e] [] pos) w ls R :=
  PE.mono (pe_callTy (call_list_dT hca) hg hm boot_list (pa_cons h pa_nil he) (by decide) (by decide) he hpl) fun σ H Q ⟨c, H0, r0, q⟩ => ⟨c, H0, r0, fun p' ws ks w1 c1 H01 H1 s pw nc hp hk hr z => ⟨p', ws, rfl, hp, fun n bs hn kb => by
    -- the key tuples are seen
    have see : ∀ (l : List (List Key × V)) (bs : List Addr) (H0x : Hp), IsKeys H1 l bs → Ex H0x H1 → ∃ H0y, Ex H0x H0y ∧ Ex H0y H1 ∧ (∀ a, H0x a = none → Solid H1 a → H0y a = none) ∧ RpL X.K H0y (bs.map V.ref) ((l.map (·.1)).map fun k => .tup (k.map kD)) := by
      intro l
      induction l with
      | nil => intro bs H0x hb ex; cases hb; exact ⟨H0x, Ex.refl _, ex, fun _ h _ => h, .nil⟩
      | cons kv l ih =>
        intro bs H0x hb ex
        cases hb with
        | cons h1 h2 =>
          have sx := Stp.see (c := c1) ex h1
          obtain ⟨H0y, g1, g2, g3, g4⟩ := ih _ _ h2 sx.ex
          refine ⟨H0y, sx.e0.trans g1, g2, fun a ha hs => g3 a (sx.f a ha hs) hs, .cons (.tup (g1 _ _ upd_same) (rpl_keys _)) g4⟩
    obtain ⟨H0y, g1, g2, g3, g4⟩ := see ws bs H01 kb s.ex
    have s' : Stp c H0 H c1 H0y H1 := ⟨s.e0.trans g1, g2, s.e, fun a h n => g3 a (s.f a h n) (s.hs a n), s.g, s.h, s.hs⟩
    have p2 : w1.p c1 H0y H1 := w1.stable pw g1 (fun _ _ => rfl) (fun a ha => g3 a (w1.live pw ha).2 (w1.live pw ha).1) fun _ n => n
    refine q n _ (ks.map fun kv => .tup (kv.1.map kD)) w1 c1 H0y _ (s'.trans (Stp.newO g2 hn)) (Wd.newO p2 hn) (stp_new0 s hn) (none_of_ex g2 hn) (fun hc => (w1.live p2 hc).1.1 hn) upd_same ?_ z
    have e3 : (ks.map fun kv => D.tup (kv.1.map kD)) = (ks.map (·.1)).map fun k => D.tup (k.map kD) := by rw [List.map_map]; rfl
    rw [e3, ← hk]
    exact g4⟩⟩
/-- list(range(a, b)) -/
theorem pn_listR2 {R : List D → Wd → Prop} {p2 pos2 : Pos} (hca : X.calm = true) (hm : X.mg "list" = none) (hmr : X.mg "range" = none) (h : PV X a w ls fun d w1 => PV X b w1 ls fun d2 w2 => ∃ lo hi : Int, d = .int lo ∧ d2 = .int hi ∧ (0 ≤ lo ∧ lo ≤ 1000000 ∧ 0 ≤ hi ∧ hi ≤ 1000000) ∧ R (rgD lo (hi - lo).toNat) w2) (hg : Gl X "list" := by rfl) (hgr : Gl X "range" := by rfl)
    (na : starEach [.Call (.Name "range" p2) [a, b] [] pos2] X.env = (false, eval (.Call (.Name "range" p2) [a, b] [] pos2) X.env) :: starEach [] X.env := by rfl)
    (na2 : starEach [a, b] X.env = (false, eval a X.env) :: starEach [b] X.env := by rfl) (nb : starEach [b] X.env = (false, eval b X.env) :: starEach [] X.env := by rfl) (hp : (backTo pos2 (starEach [b] X.env)).any (·.1) = false := by rfl) :
    PN X (.Call (.Name "list" p) [.Call (.Name "range" p2) [a, b] [] pos2] [] pos) w ls R :=
  PE.mono (pe_listRg hca hg hm (prg_2 hgr hmr h (pe_any (e := b)) na2 nb hp) na) fun σ H Q ⟨c, H0, r, q⟩ => ⟨c, H0, r, fun v d w1 c1 H01 H1 s1 p1 rp hb => ⟨_, hb, c1, H01, r.step s1 p1, fun u d2 w2 c2 H02 H2 s2 pp2 rp2 ⟨lo, hi, e1, e2, hn, z⟩ => by
    subst e1 e2
    rw [rp.int_inv, rp2.int_inv]
    have s := s1.trans s2
    refine ⟨lo, hi, rfl, rfl, RgOk.of_le (by omega) (by omega) (by omega) (by omega), fun n hn => q n _ _ w2 c2 H02 _ (s.trans (Stp.newO s2.ex hn)) (Wd.newO pp2 hn) (stp_new0 s hn) (none_of_ex s2.ex hn) (fun hc => (w2.live pp2 hc).1.1 hn) upd_same ?_ z⟩
    have e3 : rgV lo hi = (((List.range (hi - lo).toNat).map fun k => lo + ((k : Nat) : Int))).map V.int := by unfold rgV; rw [List.map_map]; rfl
    have e4 : rgD lo (hi - lo).toNat = (((List.range (hi - lo).toNat).map fun k => lo + ((k : Nat) : Int))).map D.int := by unfold rgD; rw [List.map_map]; rfl
    rw [e3, e4]
    exact RpL.ints _⟩⟩
/-- sorted(l), texts -/
theorem pn_sortedS {R : List D → Wd → Prop} (hm : X.mg "sorted" = none) (h : PV X e w ls fun d w1 => ∃ ss : List Str, d = .lst (ss.map .str) ∧ ss.length < 64 ∧ ∀ ys : List Str, ys.Perm ss → sortedS ys = true → R (ys.map .str) w1) (hg : Gl X "sorted" := by rfl)
    (he : starEach [e] X.env = (false, eval e X.env) :: starEach [] X.env := by rfl) (hpl : (backTo pos (starEach [] X.env)).any (·.1) = false := by rfl) : PN X (.Call (.Name "sorted" p) [e] [] pos) w ls R := by
  refine pn_callB cr_sortedS hm boot_sorted (pas_cons (h.imp fun d w1 ⟨ss, e1, hl, z⟩ => pas_nil ?_) he) hg (by decide) (by decide) he hpl
  intro c H0 H vs ex hw hr Q q
  subst e1
  cases hr with
  | cons h1 h2 =>
    cases h2
    cases h1 with
    | lst g1 g2 =>
      rw [RpL.strs_inv g2] at g1
      exact ⟨_, ss, rfl, .inl (.inl (ex _ _ g1)), hl, fun ys n pm so hn => q n _ (ys.map .str) H0 hn (Ex.refl _) (fun _ h _ => h) ex (RpL.strs ys) (z ys pm so)⟩
/-! tuple(l): a tuple; one whose object is known -/
theorem call_ftup : CallR X (.type "tuple") (fun xs H Q => ∃ p ys, xs = [.ref p] ∧ SqL X.K H p ys ∧ ∀ l ob, H l = none → ob.cls = Value.type "tuple" → ob.dict = none → Q (.ref l) (upd H l (.frz ob (.tup ys)))) := by
  intro pins s σ H xs us Q I r h
  obtain ⟨p, ys, rfl, hs, q⟩ := h
  obtain ⟨u, rfl, rx⟩ := vals1 r
  cases rx
  obtain ⟨its, rv, pl, hz⟩ := I.list hs
  refine call_tuple_list pl.isList (fun h' hk => ?_) (by rw [List.size_toArray, ← rv.length]; exact hz)
  have I1 : Inv X pins σ H { s with heap := h' } := I.kept (t' := s.toks) hk
  have I2 : Inv X pins σ (upd H h'.objs.size (.frz { cls := .type "tuple", data := .seq its.toArray } (.tup ys))) { s with heap := h'.push { cls := .type "tuple", data := .seq its.toArray } } :=
    I1.laid (t' := s.toks) (fun b o e => Heap.get?_push_of_some _ e) (Nat.le_refl _) (show ObjOk X.prog X.w _ _ _ (.frz _ (.tup ys)) from ⟨Heap.get?_push_size _ rfl, hz, its, rv, IsTup.new _ _⟩)
  exact ⟨.ref h'.objs.size, _, I2, rfl, q _ _ (I1.hok.fresh (Nat.le_refl _)) rfl rfl⟩
theorem pv_tupQ (hm : X.mg "tuple" = none) (h : PQ X e w ls fun ds w1 => R (.tup ds) w1) (hg : Gl X "tuple" := by rfl)
    (he : starEach [e] X.env = (false, eval e X.env) :: starEach [] X.env := by rfl) (hpl : (backTo pos (starEach [] X.env)).any (·.1) = false := by rfl) : PV X (.Call (.Name "tuple" p) [e] [] pos) w ls R := by
  refine pv_callTyQ call_tuple_of hm boot_tuple (pq_call1 h fun ds w1 z => ?_) hg (by decide) (by decide) he hpl
  intro c H0 H p vs ex hw hp hr Q q
  exact ⟨p, vs, rfl, .inl ⟨.inl (.inl hp), fun n hn => q (.ref n) (.tup ds) w1 c _ _ (Stp.new ex hn) (Wd.new hw (none_of_ex ex hn) hn) (.tup upd_same (hr.ex (Ex.new (none_of_ex ex hn)))) z⟩⟩
theorem pv_ftupQ (hm : X.mg "tuple" = none) (h : PQ X e w ls fun ds w1 => R (.ftup ds) w1) (hg : Gl X "tuple" := by rfl)
    (he : starEach [e] X.env = (false, eval e X.env) :: starEach [] X.env := by rfl) (hpl : (backTo pos (starEach [] X.env)).any (·.1) = false := by rfl) : PV X (.Call (.Name "tuple" p) [e] [] pos) w ls R := by
  refine pv_callTyQ call_ftup hm boot_tuple (pq_call1 h fun ds w1 z => ?_) hg (by decide) (by decide) he hpl
  intro c H0 H p vs ex hw hp hr Q q
  exact ⟨p, vs, rfl, .inl (.inl hp), fun n ob hn h1 h2 => q (.ref n) (.ftup ds) w1 c _ _ (Stp.new ex hn) (Wd.new hw (none_of_ex ex hn) hn) (.ftup upd_same h1 h2 (hr.ex (Ex.new (none_of_ex ex hn)))) z⟩
/-- tuple(t): itself -/
theorem pv_tupT (hm : X.mg "tuple" = none) (h : PV X e w ls fun d w1 => ∃ ds, IsT d ds ∧ R d w1) (hg : Gl X "tuple" := by rfl)
    (he : starEach [e] X.env = (false, eval e X.env) :: starEach [] X.env := by rfl) (hpl : (backTo pos (starEach [] X.env)).any (·.1) = false := by rfl) : PV X (.Call (.Name "tuple" p) [e] [] pos) w ls R := by
  refine pv_callTy call_tupleT hm boot_tuple (pas_cons (h.imp fun d w1 ⟨ds, e1, z⟩ => pas_nil ?_) he) hg (by decide) (by decide) he hpl
  intro c H0 H vs ex hw hr Q q
  cases hr with
  | cons h1 h2 =>
    cases h2
    obtain ⟨p', us, rfl, hq, hr⟩ := e1.v h1
    exact ⟨p', us, rfl, sqT_ex ex hq, q _ _ w1 c H0 H (Stp.refl ex) hw h1 z⟩
/-- () whose object is known -/
theorem pe_ftup0 {x1} : PE X (.Tuple [] x1 pos) (fun _ H Q => ∀ l ob, H l = none → ob.cls = Value.type "tuple" → ob.dict = none → Q (.ref l) (upd H l (.frz ob (.tup [])))) := by
  refine ⟨fun pins s σ H Q I hq => ?_⟩
  refine wpAny_Tuple_spliced (Calls.spliced_nil ⟨by decide, ?_⟩)
  have hf : H s.heap.objs.size = none := I.hok.fresh (Nat.le_refl _)
  refine ⟨.ref s.heap.objs.size, _, I.laid (o := .frz { cls := .type "tuple", data := .seq #[] } (.tup [])) (t' := s.toks) (fun b u e => Heap.get?_push_of_some _ e) (Nat.le_refl _) ?_, rfl, hq _ _ hf rfl rfl⟩
  exact ⟨Heap.get?_push_size _ rfl, Nat.zero_le _, [], .nil, ⟨_, Heap.get?_push_size _ rfl, rfl, _, rfl⟩⟩
theorem pv_ftup0 {x1} (h : R (.ftup []) w) : PV X (.Tuple [] x1 pos) w ls R :=
  PE.mono pe_ftup0 fun σ H Q ⟨c, H0, r, q⟩ => fun n ob hn h1 h2 => q (.ref n) (.ftup []) w c _ _ (Stp.new r.ex hn) (Wd.new r.wd (none_of_ex r.ex hn) hn) (.ftup upd_same h1 h2 .nil) h
end
end Pd
set_option Elab.async false
set_option linter.all false
set_option maxRecDepth 100000
set_option maxHeartbeats 4000000
namespace Pd
open PySem PySem.Spec PyProof.Rows L2
open Evl (Ex)
section
variable {X : Cx} {e a b o i tg iter : Expr} {es : List Expr} {w : Wd} {ls : List L} {R : D → Wd → Prop} {pos p : Pos} {x y m : Str}

/-! ### sums of lists, of tuples -/
theorem pn_add {R : List D → Wd → Prop} (h : PQ X a w ls fun xs w1 => PQ X b w1 ls fun ys w2 => xs.length + ys.length ≤ 100000 ∧ R (xs ++ ys) w2) : PN X (.BinOp a .Add b pos) w ls R := by
  refine PE.mono (pe_op op_cat h (pe_any (e := b))) fun σ H Q ⟨c, H0, r0, q⟩ => ?_
  refine ⟨c, H0, r0, fun p vs ds w1 c1 H01 H1 s1 p1 nc hp hr hb => ⟨_, hb, c1, H01, r0.step s1 p1, fun p2 us es2 w2 c2 H02 H2 s2 pp2 nc2 hp2 hr2 ⟨hl, z⟩ => ?_⟩⟩
  refine ⟨p, p2, vs, us, rfl, rfl, s2.e _ _ hp nc, hp2, ?_, fun n hn => ?_⟩
  · rw [hr.length, hr2.length]; exact Evl.sz_of hl
  · have s := s1.trans s2
    exact q n _ (ds ++ es2) w2 c2 H02 _ (s.trans (Stp.newO s2.ex hn)) (Wd.newO pp2 hn) (stp_new0 s hn) (none_of_ex s2.ex hn) (fun hc => (w2.live pp2 hc).1.1 hn) upd_same ((hr.ex s2.e0).append hr2) z
theorem rp_tup_inv {K : PySem.W.Frag} {H : Hp} {v : V} {ds : List D} (h : Rp K H v (.tup ds)) : ∃ p vs, v = .ref p ∧ H p = some (.tup vs) ∧ RpL K H vs ds := by
  cases h with | tup h1 h2 => exact ⟨_, _, rfl, h1, h2⟩
theorem pv_addT (h : PV X a w ls fun x w1 => PV X b w1 ls fun y w2 => ∃ xs ys, x = .tup xs ∧ y = .tup ys ∧ xs.length + ys.length ≤ 100000 ∧ R (.tup (xs ++ ys)) w2) : PV X (.BinOp a .Add b pos) w ls R :=
  pv_op op_catA (h.imp fun _ _ h1 => h1.imp fun _ w2 ⟨xs, ys, e1, e2, hl, z⟩ => fun c H0 H v u ex hw rv ru Q q => by
    subst e1 e2
    obtain ⟨p1, vs, rfl, g1, r1⟩ := rp_tup_inv rv
    obtain ⟨p2, us, rfl, g2, r2⟩ := rp_tup_inv ru
    refine ⟨p1, p2, vs, us, rfl, rfl, .inl (.inl (ex _ _ g1)), .inl (.inl (ex _ _ g2)), by rw [r1.length, r2.length]; exact Evl.sz_of hl, fun e => ?_, fun _ e => ?_, fun _ _ n hn => ?_⟩
    · subst e
      cases r1
      exact q _ _ w2 c H0 H (Stp.refl ex) hw ru z
    · subst e
      cases r2
      rw [List.append_nil] at z
      exact q _ _ w2 c H0 H (Stp.refl ex) hw rv z
    · exact q _ _ w2 c _ _ (Stp.new ex hn) (Wd.new hw (none_of_ex ex hn) hn) (.tup upd_same ((r1.append r2).ex (Ex.new (none_of_ex ex hn)))) z)
/-! the same with known objects -/
def rCatF (K : PySem.W.Frag) : R2 := fun x y H Q => ∃ a b xs ys, x = .ref a ∧ y = .ref b ∧ SqT K H a xs ∧ SqT K H b ys ∧ xs.length + ys.length ≤ sizeLine ∧
  (xs = [] → Q (.ref b) H) ∧ (xs ≠ [] → ys = [] → Q (.ref a) H) ∧ (xs ≠ [] → ys ≠ [] → ∀ p ob, H p = none → ob.cls = Value.type "tuple" → ob.dict = none → Q (.ref p) (upd H p (.frz ob (.tup (xs ++ ys)))))
theorem op_catF : OpR X (binaryOp .Add) (rCatF X.K) := by
  intro pins s σ H x y v u Q I rx ry h
  obtain ⟨a, b, xs, ys, rfl, rfl, ha, hb, hz, q0, q1, q2⟩ := h
  cases rx
  cases ry
  obtain ⟨its, r1, p1, _⟩ := I.tuple ha
  obtain ⟨its2, r2, p2, _⟩ := I.tuple hb
  by_cases hx : xs = []
  · subst hx
    cases r1
    exact L2.cat_tup0 p1 p2 ⟨.ref b, H, I, rfl, q0 rfl⟩
  · refine HT.cat_tup p1 p2 (fun z => hx (r1.nil_iff.mp z)) (fun z => ⟨.ref a, H, I, rfl, q1 hx (r2.nil_iff.mp z)⟩) (fun z => ?_) (by rw [← r1.length, ← r2.length]; exact hz)
    refine ⟨.ref s.heap.objs.size, _, I.laid (t' := s.toks) (o := .frz { cls := .type "tuple", data := .seq (its ++ its2).toArray } (.tup (xs ++ ys))) (fun b ob q => Heap.get?_push_of_some _ q) (Nat.le_refl _) ?_, rfl, q2 hx (fun w => z (r2.nil_iff.mpr w)) _ _ (I.hok.fresh (Nat.le_refl _)) rfl rfl⟩
    exact ⟨Heap.get?_push_size _ rfl, by rw [List.length_append]; exact hz, _, r1.append r2, IsTup.new _ _⟩
theorem rp_ftup_inv {K : PySem.W.Frag} {H : Hp} {v : V} {ds : List D} (h : Rp K H v (.ftup ds)) : ∃ p o vs, v = .ref p ∧ H p = some (.frz o (.tup vs)) ∧ o.cls = .type "tuple" ∧ o.dict = none ∧ RpL K H vs ds := by
  cases h with | ftup h1 k1 k2 h2 => exact ⟨_, _, _, rfl, h1, k1, k2, h2⟩
theorem pv_addF (h : PV X a w ls fun x w1 => PV X b w1 ls fun y w2 => ∃ xs ys, x = .ftup xs ∧ y = .ftup ys ∧ xs.length + ys.length ≤ 100000 ∧ R (.ftup (xs ++ ys)) w2) : PV X (.BinOp a .Add b pos) w ls R :=
  pv_op op_catF (h.imp fun _ _ h1 => h1.imp fun _ w2 ⟨xs, ys, e1, e2, hl, z⟩ => fun c H0 H v u ex hw rv ru Q q => by
    subst e1 e2
    obtain ⟨p1, o1, vs, rfl, g1, _, _, r1⟩ := rp_ftup_inv rv
    obtain ⟨p2, o2, us, rfl, g2, _, _, r2⟩ := rp_ftup_inv ru
    refine ⟨p1, p2, vs, us, rfl, rfl, .inl (.inr ⟨_, ex _ _ g1⟩), .inl (.inr ⟨_, ex _ _ g2⟩), by rw [r1.length, r2.length]; exact Evl.sz_of hl, fun e => ?_, fun _ e => ?_, fun _ _ n ob hn k1 k2 => ?_⟩
    · subst e
      cases r1
      exact q _ _ w2 c H0 H (Stp.refl ex) hw ru z
    · subst e
      cases r2
      rw [List.append_nil] at z
      exact q _ _ w2 c H0 H (Stp.refl ex) hw rv z
    · exact q _ _ w2 c _ _ (Stp.new ex hn) (Wd.new hw (none_of_ex ex hn) hn) (.ftup upd_same k1 k2 ((r1.append r2).ex (Ex.new (none_of_ex ex hn)))) z)
def tTupF (t : TA) : TE := fun σ H Q => t σ H fun xs H1 => xs.length ≤ sizeLine ∧ ∀ p ob, H1 p = none → ob.cls = Value.type "tuple" → ob.dict = none → Q (.ref p) (upd H1 p (.frz ob (.tup xs)))
theorem pe_tupF {x1} {t : TA} (h : PA X es t) : PE X (.Tuple es x1 pos) (tTupF t) := by
  refine ⟨fun pins s σ H Q I hq => ?_⟩
  refine wpAny_Tuple_spliced (thn (h.run pos pins s σ H _ I hq) fun us s1 ⟨xs, H1, I1, r, z, q⟩ => ⟨by rw [← r.length]; exact z, ?_⟩)
  have hf : H1 s1.heap.objs.size = none := I1.hok.fresh (Nat.le_refl _)
  refine ⟨.ref s1.heap.objs.size, upd H1 s1.heap.objs.size (.frz { cls := .type "tuple", data := .seq us.toArray } (.tup xs)), I1.laid (t' := s1.toks) (fun b u e => Heap.get?_push_of_some _ e) (Nat.le_refl _) ?_, rfl, q _ _ hf rfl rfl⟩
  exact ⟨Heap.get?_push_size _ rfl, z, us, r, ⟨_, Heap.get?_push_size _ rfl, rfl, _, rfl⟩⟩
theorem pv_tupF {x1} (h : PAs X es w ls fun ds w1 => ds.length ≤ 100000 ∧ R (.ftup ds) w1) : PV X (.Tuple es x1 pos) w ls R :=
  PE.mono (pe_tupF h) fun σ H Q ⟨c, H0, r, q⟩ => ⟨c, H0, r, fun vs ds w1 c1 H01 H1 s p rps ⟨hl, z⟩ => ⟨by rw [rps.length]; exact Evl.sz_of hl, fun n ob hn k1 k2 =>
    q (.ref n) (.ftup ds) w1 c1 _ _ (s.trans (Stp.new s.ex hn)) (Wd.new p (none_of_ex s.ex hn) hn) (.ftup upd_same k1 k2 (rps.ex (Ex.new (none_of_ex s.ex hn)))) z⟩⟩

/-! ### xs[::-1] -/
theorem pn_rev {R : List D → Wd → Prop} {k : Nat} {p1 p2 p3 : Pos} (h : PQ X e w ls fun ds w1 => R ds.reverse w1) : PN X (.Subscript e (.Slice none none (some (.UnaryOp .USub (.Constant (.int 1) k p1) p2)) p3) pos) w ls R :=
  PE.mono (pe_revL h) fun σ H Q ⟨c, H0, r, q⟩ => ⟨c, H0, r, fun p vs ds w1 c1 H01 H1 s pw nc hp hr z => ⟨p, vs, rfl, .inl (.inl hp), fun n hn =>
    q n _ ds.reverse w1 c1 H01 _ (s.trans (Stp.newO s.ex hn)) (Wd.newO pw hn) (stp_new0 s hn) (none_of_ex s.ex hn) (fun hc => (w1.live pw hc).1.1 hn) upd_same hr.reverse z⟩⟩

/-! ### deep data -/
mutual
inductive PyR : D → PyData → Prop
  | non : PyR .non .none
  | bl (b : Bool) : PyR (.bl b) (.bool b)
  | int (i : Int) : PyR (.int i) (.int i)
  | str (s : Str) : PyR (.str s) (.str s)
  | lst {ds : List D} {es : List PyData} : PyRs ds es → PyR (.lst ds) (.list es)
  | tup {ds : List D} {es : List PyData} : PyRs ds es → PyR (.tup ds) (.tuple es)
  | ftup {ds : List D} {es : List PyData} : PyRs ds es → PyR (.ftup ds) (.tuple es)
inductive PyRs : List D → List PyData → Prop
  | nil : PyRs [] []
  | cons {d : D} {ds : List D} {e : PyData} {es : List PyData} : PyR d e → PyRs ds es → PyRs (d :: ds) (e :: es)
end
mutual
theorem PyR.dp {K : PySem.W.Frag} {H0 H : Hp} (ex : Ex H0 H) : ∀ {d : D} {e : PyData} {v : V}, PyR d e → Rp K H0 v d → Dp K H v e
  | _, _, _, .non, .non => .non
  | _, _, _, .bl b, .bl _ => .bl b
  | _, _, _, .int b, .int _ => .int b
  | _, _, _, .str b, .str _ => .str b
  | _, _, _, .lst h, .lst g1 g2 => .lst (.inl (.inl (ex _ _ g1))) (PyRs.dp ex h g2)
  | _, _, _, .tup h, .tup g1 g2 => .tup (.inl (.inl (ex _ _ g1))) (PyRs.dp ex h g2)
  | _, _, _, .ftup h, .ftup g1 _ _ g2 => .tup (.inl (.inr ⟨_, ex _ _ g1⟩)) (PyRs.dp ex h g2)
theorem PyRs.dp {K : PySem.W.Frag} {H0 H : Hp} (ex : Ex H0 H) : ∀ {ds : List D} {es : List PyData} {vs : List V}, PyRs ds es → RpL K H0 vs ds → DpAll K H vs es
  | _, _, _, .nil, .nil => .nil
  | _, _, _, .cons h1 h2, .cons g1 g2 => .cons (PyR.dp ex h1 g1) (PyRs.dp ex h2 g2)
end
theorem c_eqD (hu : X.A.units + 64 < cLine) (h : PV X a w ls fun x w1 => PV X b w1 ls fun y w2 => ∃ d e, PyR x d ∧ PyR y e ∧ SeqAt.shaped d = true ∧ SeqAt.shaped e = true ∧ R (.bl (PyData.eqv d e)) w2) : PCv X .Eq a b w ls R :=
  pc_op (op_eqD hu) (h.imp fun _ _ h1 => h1.imp fun _ w2 ⟨d, e, k1, k2, s1, s2, z⟩ => fun c H0 H v u ex hw rv ru Q q => ⟨d, e, k1.dp ex rv, k2.dp ex ru, s1, s2, q _ _ w2 c H0 H (Stp.refl ex) hw (.bl _) z⟩)
theorem c_neD (hu : X.A.units + 64 < cLine) (h : PV X a w ls fun x w1 => PV X b w1 ls fun y w2 => ∃ d e, PyR x d ∧ PyR y e ∧ SeqAt.shaped d = true ∧ SeqAt.shaped e = true ∧ R (.bl (!PyData.eqv d e)) w2) : PCv X .NotEq a b w ls R :=
  pc_op (op_neD hu) (h.imp fun _ _ h1 => h1.imp fun _ w2 ⟨d, e, k1, k2, s1, s2, z⟩ => fun c H0 H v u ex hw rv ru Q q => ⟨d, e, k1.dp ex rv, k2.dp ex ru, s1, s2, q _ _ w2 c H0 H (Stp.refl ex) hw (.bl _) z⟩)
/-! texts in a row -/
theorem pyrs_strs : ∀ ss : List Str, PyRs (ss.map .str) (ss.map .str)
  | [] => .nil
  | s :: r => .cons (.str s) (pyrs_strs r)
def okS (s : Str) : Prop := PyData.strOk s = true
theorem lay_strs : ∀ ss : List Str, (∀ s ∈ ss, okS s) → PyData.canLayAll0 (ss.map .str) = true
  | [], _ => by simp [PyData.canLayAll0]
  | s :: r, h => by
    have h1 : PyData.strOk s = true := h s List.mem_cons_self
    have h2 := lay_strs r fun t ht => h t (List.mem_cons_of_mem _ ht)
    simp [PyData.canLayAll0, PyData.canLay0, h1, h2]
theorem depth_strs : ∀ ss : List Str, PyData.depthAll (ss.map .str) ≤ 0
  | [] => by simp [PyData.depthAll]
  | s :: r => by have := depth_strs r; simp only [List.map_cons, PyData.depthAll, PyData.depth]; omega
theorem shaped_tupS (ss : List Str) (hk : ∀ s ∈ ss, okS s) : SeqAt.shaped (.tuple (ss.map .str)) = true := by
  have h1 := depth_strs ss
  show (PyData.canLay0 (.tuple (ss.map .str)) && decide (PyData.depth (.tuple (ss.map .str)) ≤ 64)) = true
  rw [Bool.and_eq_true]
  exact ⟨by simp only [PyData.canLay0]; exact lay_strs ss hk, decide_eq_true (by simp only [PyData.depth]; omega)⟩
theorem shaped_lstS (ss : List Str) (hk : ∀ s ∈ ss, okS s) : SeqAt.shaped (.list (ss.map .str)) = true := by
  have h1 := depth_strs ss
  show (PyData.canLay0 (.list (ss.map .str)) && decide (PyData.depth (.list (ss.map .str)) ≤ 64)) = true
  rw [Bool.and_eq_true]
  exact ⟨by simp only [PyData.canLay0]; exact lay_strs ss hk, decide_eq_true (by simp only [PyData.depth]; omega)⟩
theorem eqv_strs : ∀ ss tt : List Str, PyData.eqvAll (ss.map .str) (tt.map .str) = decide (ss = tt)
  | [], [] => by simp [PyData.eqvAll]
  | [], _ :: _ => by simp [PyData.eqvAll]
  | _ :: _, [] => by simp [PyData.eqvAll]
  | s :: r, t :: u => by
    simp only [List.map_cons, PyData.eqvAll, PyData.eqv, eqv_strs r u]
    rw [Bool.eq_iff_iff]
    simp
theorem c_neTS (hu : X.A.units + 64 < cLine) (h : PV X a w ls fun x w1 => PV X b w1 ls fun y w2 => ∃ ss tt : List Str, x = .tup (ss.map .str) ∧ y = .tup (tt.map .str) ∧ (∀ s ∈ ss, okS s) ∧ (∀ s ∈ tt, okS s) ∧ R (.bl (!decide (ss = tt))) w2) : PCv X .NotEq a b w ls R :=
  c_neD hu (h.imp fun _ _ h1 => h1.imp fun _ _ ⟨ss, tt, e1, e2, k1, k2, z⟩ => ⟨.tuple (ss.map .str), .tuple (tt.map .str), by subst e1; exact .tup (pyrs_strs ss), by subst e2; exact .tup (pyrs_strs tt), shaped_tupS ss k1, shaped_tupS tt k2, by simp only [PyData.eqv, eqv_strs]; exact z⟩)
theorem c_neLS (hu : X.A.units + 64 < cLine) (h : PV X a w ls fun x w1 => PV X b w1 ls fun y w2 => ∃ ss tt : List Str, x = .lst (ss.map .str) ∧ y = .lst (tt.map .str) ∧ (∀ s ∈ ss, okS s) ∧ (∀ s ∈ tt, okS s) ∧ R (.bl (!decide (ss = tt))) w2) : PCv X .NotEq a b w ls R :=
  c_neD hu (h.imp fun _ _ h1 => h1.imp fun _ _ ⟨ss, tt, e1, e2, k1, k2, z⟩ => ⟨.list (ss.map .str), .list (tt.map .str), by subst e1; exact .lst (pyrs_strs ss), by subst e2; exact .lst (pyrs_strs tt), shaped_lstS ss k1, shaped_lstS tt k2, by simp only [PyData.eqv, eqv_strs]; exact z⟩)
/-! a pair of numbers among pairs -/
def rInP (K : PySem.W.Frag) : R2 := fun x y H Q => ∃ d ds, Dp K H x d ∧ Dp K H y (.tuple ds) ∧ SeqAt.shaped d = true ∧ SeqAt.shaped (.tuple ds) = true ∧ Q (.bl (ds.any fun z => PyData.eqv z d)) H
theorem op_inP (hu : X.A.units + 65 < cLine) : OpR X (compareOp .In) (rInP X.K) := by
  intro pins s σ H x y v u Q I rx ry h
  obtain ⟨d, ds, hd, he, sd, se, q⟩ := h
  obtain ⟨as, r1⟩ := Dp.reads I d x v hd rx
  obtain ⟨bs, r2⟩ := Dp.reads I (.tuple ds) y u he ry
  exact SeqAt.in_tuple_reads r2 r1 (SeqAt.canLay_of_shaped se) (SeqAt.canLay_of_shaped sd) (room_in_shaped sd hu) ⟨.bl _, H, I, rfl, q⟩
def prP (z : Nat × Nat) : PyData := .tuple [.int z.1, .int z.2]
def pairD (z : Nat × Nat) : D := .tup [.int z.1, .int z.2]
theorem pyr_pair (z : Nat × Nat) : PyR (pairD z) (prP z) := .tup (.cons (.int _) (.cons (.int _) .nil))
theorem pyrs_pairs : ∀ ss : List (Nat × Nat), PyRs (ss.map pairD) (ss.map prP)
  | [] => .nil
  | s :: r => .cons (pyr_pair s) (pyrs_pairs r)
theorem lay_pairs : ∀ ss : List (Nat × Nat), PyData.canLayAll0 (ss.map prP) = true
  | [] => by simp [PyData.canLayAll0]
  | s :: r => by simp [PyData.canLayAll0, PyData.canLay0, prP, lay_pairs r]
theorem depth_pairs : ∀ ss : List (Nat × Nat), PyData.depthAll (ss.map prP) ≤ 1
  | [] => by simp [PyData.depthAll]
  | s :: r => by have := depth_pairs r; simp only [List.map_cons, PyData.depthAll, PyData.depth, prP]; omega
theorem shaped_pair (z : Nat × Nat) : SeqAt.shaped (prP z) = true := by
  show (PyData.canLay0 (prP z) && decide (PyData.depth (prP z) ≤ 64)) = true
  rw [Bool.and_eq_true]
  exact ⟨by simp [prP, PyData.canLay0, PyData.canLayAll0], decide_eq_true (by simp only [prP, PyData.depth, PyData.depthAll]; omega)⟩
theorem shaped_pairs (ss : List (Nat × Nat)) : SeqAt.shaped (.tuple (ss.map prP)) = true := by
  have h1 := depth_pairs ss
  show (PyData.canLay0 (.tuple (ss.map prP)) && decide (PyData.depth (.tuple (ss.map prP)) ≤ 64)) = true
  rw [Bool.and_eq_true]
  exact ⟨by simp only [PyData.canLay0]; exact lay_pairs ss, decide_eq_true (by simp only [PyData.depth]; omega)⟩
theorem eqv_pair (z w : Nat × Nat) : PyData.eqv (prP z) (prP w) = decide (z = w) := by
  obtain ⟨a, b⟩ := z
  obtain ⟨a', b'⟩ := w
  simp only [prP, PyData.eqv, PyData.eqvAll]
  rw [Bool.eq_iff_iff]
  simp
  omega
theorem c_inP (hu : X.A.units + 65 < cLine) (h : PV X a w ls fun x w1 => PV X b w1 ls fun y w2 => ∃ (z : Nat × Nat) (ss : List (Nat × Nat)), x = pairD z ∧ IsT y (ss.map pairD) ∧ R (.bl (decide (z ∈ ss))) w2) : PCv X .In a b w ls R :=
  pc_op (op_inP hu) (h.imp fun _ _ h1 => h1.imp fun _ w2 ⟨z, ss, e1, e2, k⟩ => fun c H0 H v u ex hw rv ru Q q => by
    subst e1
    refine ⟨prP z, ss.map prP, (pyr_pair z).dp ex rv, ?_, shaped_pair z, shaped_pairs ss, q _ _ w2 c H0 H (Stp.refl ex) hw (.bl _) ?_⟩
    · generalize hy : ss.map pairD = ds at e2
      cases e2 with
      | tup => exact (PyR.tup (hy ▸ pyrs_pairs ss)).dp ex ru
      | ftup => exact (PyR.ftup (hy ▸ pyrs_pairs ss)).dp ex ru
    · have : ((ss.map prP).any fun z2 => PyData.eqv z2 (prP z)) = decide (z ∈ ss) := by
        rw [List.any_map, Bool.eq_iff_iff, List.any_eq_true, decide_eq_true_eq]
        constructor
        · rintro ⟨q, hq, e⟩
          rw [Function.comp, eqv_pair, decide_eq_true_eq] at e
          rw [← e]; exact hq
        · intro hz; exact ⟨z, hz, by rw [Function.comp, eqv_pair]; exact decide_eq_true rfl⟩
      rw [this]; exact k)
end
end Pd
set_option Elab.async false
set_option linter.all false
set_option maxRecDepth 100000
set_option maxHeartbeats 4000000
namespace Pd
open PySem PySem.Spec PyProof.Rows L2
open Evl (Ex)
section
theorem idx_spec {α : Type} [BEq α] [LawfulBEq α] {k : α} : ∀ {ns : List α}, k ∈ ns → ns[ns.idxOf k]? = some k ∧ ∀ m : Nat, m < ns.idxOf k → ns[m]? ≠ some k
  | [], h => by cases h
  | n :: r, h => by
    by_cases e : n = k
    · subst e
      simp [List.idxOf_cons]
    · have hk : k ∈ r := by
        rcases List.mem_cons.mp h with q | q
        · exact absurd q.symm e
        · exact q
      obtain ⟨h1, h2⟩ := idx_spec hk
      have e1 : (n :: r).idxOf k = r.idxOf k + 1 := by
        rw [List.idxOf_cons]
        have : (n == k) = false := beq_eq_false_iff_ne.mpr e
        rw [this]; rfl
      rw [e1]
      refine ⟨by simpa using h1, fun m hm => ?_⟩
      cases m with
      | zero => simpa using e
      | succ m => simpa using h2 m (by omega)
variable {X : Cx} {e a b o i tg iter : Expr} {es : List Expr} {w : Wd} {ls : List L} {R : D → Wd → Prop} {pos p : Pos} {x y m : Str} {apos cpos : Pos}
/-! ### methods of lists that are read -/
abbrev Few (X : Cx) (es : List Expr) (cpos : Pos) : Prop := ((backTo cpos (starEach es X.env)).all (fun x => !x.1) && (backToKw cpos (keywordEach [] X.env)).all (fun x => x.1.isSome)
      && decide (es.length + ([] : List Keyword).length + (if ([] : List Keyword).isEmpty then 0 else 1) < 30)) = true
theorem pv_idxI (h : PQ X o w ls fun ds w1 => PV X e w1 ls fun y w2 => ∃ (ns : List Int) (k : Int), ds = ns.map .int ∧ y = .int k ∧ k ∈ ns ∧ R (.int (ns.idxOf k : Nat)) w2)
    (hbase : attributeBase o "index" X.env (eval o X.env) = eval o X.env := by rfl) (hfew : Few X [e] cpos := by rfl) (hline : (apos.endLine == cpos.line) = true := by rfl) (hs : starEach [e] X.env = (false, eval e X.env) :: starEach [] X.env := by rfl) (hplain : (backTo cpos (starEach [] X.env)).any (·.1) = false := by rfl) :
    PV X (.Call (.Attribute o "index" apos) [e] [] cpos) w ls R := by
  refine PE.mono (pe_bm PySem.F.plainAttrs_list PySem.F.slot_list_index PySem.F.type_list_index mt_index h (pa_cons (pe_any (e := e)) pa_nil hs) hbase hfew hline hs hplain) fun σ H Q ⟨c, H0, r0, q⟩ => ?_
  refine ⟨c, H0, r0, fun p vs ds w1 c1 H01 H1 s1 p1 nc hp hr hb => ⟨.inl ⟨rfl, vs, .inl (.inl hp)⟩, _, hb, c1, H01, r0.step s1 p1, fun u y w2 c2 H02 H2 s2 p2 ry ⟨ns, k, e1, e2, hk, z⟩ => ?_⟩⟩
  subst e1 e2
  rw [RpL.ints_inv hr] at hp
  rw [ry.int_inv]
  obtain ⟨k1, k2⟩ := idx_spec hk
  refine ⟨p, ns.map V.int, .int k, ns.idxOf k, .int k, rfl, rfl, .inl (.inl (s2.e _ _ hp nc)), rfl, by rw [List.all_map]; exact List.all_eq_true.mpr fun _ _ => rfl, by rw [List.getElem?_map, k1]; rfl, by show (k == k) = true; exact beq_self_eq_true k, fun m z' hm hz' => ?_, q _ _ w2 c2 H02 H2 (s1.trans s2) p2 (.int _) z⟩
  rw [List.getElem?_map] at hz'
  cases hn : ns[m]? with
  | none => rw [hn] at hz'; cases hz'
  | some n =>
    rw [hn] at hz'; cases hz'
    show (n == k) = false
    exact beq_eq_false_iff_ne.mpr fun e => k2 m hm (by rw [hn, e])
theorem pv_idxS (h : PQ X o w ls fun ds w1 => PV X e w1 ls fun y w2 => ∃ (ns : List Str) (k : Str), ds = ns.map .str ∧ y = .str k ∧ k ∈ ns ∧ R (.int (ns.idxOf k : Nat)) w2)
    (hbase : attributeBase o "index" X.env (eval o X.env) = eval o X.env := by rfl) (hfew : Few X [e] cpos := by rfl) (hline : (apos.endLine == cpos.line) = true := by rfl) (hs : starEach [e] X.env = (false, eval e X.env) :: starEach [] X.env := by rfl) (hplain : (backTo cpos (starEach [] X.env)).any (·.1) = false := by rfl) :
    PV X (.Call (.Attribute o "index" apos) [e] [] cpos) w ls R := by
  refine PE.mono (pe_bm PySem.F.plainAttrs_list PySem.F.slot_list_index PySem.F.type_list_index mt_index h (pa_cons (pe_any (e := e)) pa_nil hs) hbase hfew hline hs hplain) fun σ H Q ⟨c, H0, r0, q⟩ => ?_
  refine ⟨c, H0, r0, fun p vs ds w1 c1 H01 H1 s1 p1 nc hp hr hb => ⟨.inl ⟨rfl, vs, .inl (.inl hp)⟩, _, hb, c1, H01, r0.step s1 p1, fun u y w2 c2 H02 H2 s2 p2 ry ⟨ns, k, e1, e2, hk, z⟩ => ?_⟩⟩
  subst e1 e2
  rw [RpL.strs_inv hr] at hp
  rw [ry.str_inv]
  obtain ⟨k1, k2⟩ := idx_spec hk
  refine ⟨p, ns.map V.str, .str k, ns.idxOf k, .str k, rfl, rfl, .inl (.inl (s2.e _ _ hp nc)), rfl, by rw [List.all_map]; exact List.all_eq_true.mpr fun _ _ => rfl, by rw [List.getElem?_map, k1]; rfl, by show (k == k) = true; exact beq_self_eq_true k, fun m z' hm hz' => ?_, q _ _ w2 c2 H02 H2 (s1.trans s2) p2 (.int _) z⟩
  rw [List.getElem?_map] at hz'
  cases hn : ns[m]? with
  | none => rw [hn] at hz'; cases hz'
  | some n =>
    rw [hn] at hz'; cases hz'
    show (n == k) = false
    exact beq_eq_false_iff_ne.mpr fun e => k2 m hm (by rw [hn, e])
theorem pv_countI (h : PQ X o w ls fun ds w1 => PV X e w1 ls fun y w2 => ∃ (ns : List Int) (k : Int), ds = ns.map .int ∧ y = .int k ∧ R (.int (ns.count k : Nat)) w2)
    (hbase : attributeBase o "count" X.env (eval o X.env) = eval o X.env := by rfl) (hfew : Few X [e] cpos := by rfl) (hline : (apos.endLine == cpos.line) = true := by rfl) (hs : starEach [e] X.env = (false, eval e X.env) :: starEach [] X.env := by rfl) (hplain : (backTo cpos (starEach [] X.env)).any (·.1) = false := by rfl) :
    PV X (.Call (.Attribute o "count" apos) [e] [] cpos) w ls R := by
  refine PE.mono (pe_bm PySem.F.plainAttrs_list PySem.F.slot_list_count PySem.F.type_list_count mt_lcount h (pa_cons (pe_any (e := e)) pa_nil hs) hbase hfew hline hs hplain) fun σ H Q ⟨c, H0, r0, q⟩ => ?_
  refine ⟨c, H0, r0, fun p vs ds w1 c1 H01 H1 s1 p1 nc hp hr hb => ⟨.inl ⟨rfl, vs, .inl (.inl hp)⟩, _, hb, c1, H01, r0.step s1 p1, fun u y w2 c2 H02 H2 s2 p2 ry ⟨ns, k, e1, e2, z⟩ => ?_⟩⟩
  subst e1 e2
  rw [RpL.ints_inv hr] at hp
  rw [ry.int_inv]
  exact ⟨p, ns, k, rfl, rfl, .inl (.inl (s2.e _ _ hp nc)), q _ _ w2 c2 H02 H2 (s1.trans s2) p2 (.int _) z⟩
/-! t.index(x), a tuple whose object is known -/
def rTIx (K : PySem.W.Frag) : V → List V → Hp → VK → Prop := fun x xs H Q => ∃ p, ∃ ys : List Str, ∃ z j, x = .ref p ∧ xs = [.str z] ∧ SqT K H p (ys.map V.str) ∧ ys[j]? = some z ∧ (∀ m, m < j → ys[m]? ≠ some z) ∧ Q (.int (j : Nat)) H
def tBMF (r : V → List V → Hp → VK → Prop) (to : TE) (t : TA) : TE := fun σ H Q => to σ H fun x H1 => (∃ p ob xs, x = .ref p ∧ H1 p = some (.frz ob (.tup xs)) ∧ ob.cls = .type "tuple" ∧ ob.dict = none) ∧ t σ H1 fun xs H2 => r x xs H2 Q
theorem pe_tix {to : TE} {t : TA} (ho : PE X o to) (ha : PA X (e :: es) t) (hbase : attributeBase o "index" X.env (eval o X.env) = eval o X.env := by rfl) (hfew : Few X (e :: es) cpos := by rfl) (hline : (apos.endLine == cpos.line) = true := by rfl) (hs : starEach (e :: es) X.env = (false, eval e X.env) :: starEach es X.env := by rfl) (hplain : (backTo cpos (starEach es X.env)).any (·.1) = false := by rfl) :
    PE X (.Call (.Attribute o "index" apos) (e :: es) [] cpos) (tBMF (rTIx X.K) to t) := by
  refine ⟨fun pins s σ H Q I h => ?_⟩
  refine wpAny_Call_method_late hbase hfew hline rfl (thn (ho.run pins s σ H _ I h) fun v s1 ⟨x, H1, I1, r1, ⟨p, ob, xs, ex, hp, k1, k2⟩, q1⟩ => ?_)
  subst ex
  obtain rfl : v = Value.ref p := r1
  obtain ⟨g1, _⟩ := I1.hok p _ hp
  refine ⟨"tuple", "tuple.index", PySem.F.plainAttrs_tuple, PySem.F.slot_tuple_index, PySem.F.type_tuple_index, ⟨ob, g1, k1⟩, fun a e2 => by cases e2; exact ⟨ob, g1, k2⟩, ?_⟩
  have hA := ha.run cpos pins s1 σ H1 _ I1 q1
  rw [hs] at hA ⊢
  refine Calls.callWith_builtin (by show (false || (backTo cpos (starEach es X.env)).any (·.1)) = false; rw [hplain] <;> rfl) (Calls.evalArgs_plain ?_)
  exact thn hA fun us s2 ⟨vs, H2, I2, r2, q2⟩ => mt_tup_index pins s2 σ H2 (.ref p) vs (.ref p) us Q I2 rfl r2 q2
theorem pv_tix (h : PV X o w ls fun x w1 => ∃ ns : List Str, x = .ftup (ns.map .str) ∧ PV X e w1 ls fun y w2 => ∃ k : Str, y = .str k ∧ k ∈ ns ∧ R (.int (ns.idxOf k : Nat)) w2)
    (hbase : attributeBase o "index" X.env (eval o X.env) = eval o X.env := by rfl) (hfew : Few X [e] cpos := by rfl) (hline : (apos.endLine == cpos.line) = true := by rfl) (hs : starEach [e] X.env = (false, eval e X.env) :: starEach [] X.env := by rfl) (hplain : (backTo cpos (starEach [] X.env)).any (·.1) = false := by rfl) :
    PV X (.Call (.Attribute o "index" apos) [e] [] cpos) w ls R := by
  refine PE.mono (pe_tix h (pa_cons (pe_any (e := e)) pa_nil hs) hbase hfew hline hs hplain) fun σ H Q ⟨c, H0, r0, q⟩ => ?_
  refine ⟨c, H0, r0, fun v x w1 c1 H01 H1 s1 p1 rx ⟨ns, e0, hb⟩ => ?_⟩
  subst e0
  obtain ⟨p1', o1, vs, rfl, g1, k1, k2, r1⟩ := rp_ftup_inv rx
  refine ⟨⟨p1', o1, vs, rfl, s1.ex _ _ g1, k1, k2⟩, _, hb, c1, H01, r0.step s1 p1, fun u y w2 c2 H02 H2 s2 p2 ry ⟨k, e2, hk, z⟩ => ?_⟩
  subst e2
  rw [RpL.strs_inv r1] at g1
  rw [ry.str_inv]
  obtain ⟨j1, j2⟩ := idx_spec hk
  exact ⟨p1', ns, k, ns.idxOf k, rfl, rfl, .inl (.inr ⟨_, s2.ex _ _ (s2.e0 _ _ g1)⟩), j1, j2, q _ _ w2 c2 H02 H2 (s1.trans s2) p2 (.int _) z⟩
/-! ''.join(..), d.get(k, x) -/
theorem pv_joinQ (h : PV X o w ls fun x w1 => ∃ a : Str, x = .str a ∧ PQ X e w1 ls fun ds w2 => ∃ ys : List Str, ds = ys.map .str ∧ (ys.map (·.length)).sum + ys.length * a.length ≤ 100000 ∧ R (.str (Txt.join a ys)) w2)
    (hs : starEach [e] X.env = [(false, eval e X.env)] := by rfl) (hbase : attributeBase o "join" X.env (eval o X.env) = eval o X.env := by rfl) (hline : (apos.endLine == cpos.line) = true := by rfl) : PV X (.Call (.Attribute o "join" apos) [e] [] cpos) w ls R := by
  refine PE.mono (pe_join h (pe_any (e := e)) hs hbase hline) fun σ H Q ⟨c, H0, r0, q⟩ => ?_
  refine ⟨c, H0, r0, fun v x w1 c1 H01 H1 s1 p1 rx ⟨a, e0, hb⟩ => ?_⟩
  subst e0
  rw [rx.str_inv]
  refine ⟨⟨a, rfl⟩, _, hb, c1, H01, r0.step s1 p1, fun p vs ds w2 c2 H02 H2 s2 p2 nc hp hr ⟨ys, e1, hl, z⟩ => ?_⟩
  subst e1
  rw [RpL.strs_inv hr] at hp
  exact ⟨a, p, ys, rfl, rfl, .inl (.inl (.inl hp)), Nat.le_trans hl (by decide), q _ _ w2 c2 H02 H2 (s1.trans s2) p2 (.str _) z⟩
theorem pv_get2 (hu : X.A.units + 1 < cLine) (h : PV X o w ls fun x w1 => ∃ ks, x = .dk ks ∧ PV X a w1 ls fun y w2 => ∃ k, y = kD k ∧ PV X b w2 ls fun z w3 => R ((valD ks k).getD z) w3) (m : M2 X o "get" apos a b cpos := by exact ⟨rfl, rfl, rfl, rfl⟩) : PV X (.Call (.Attribute o "get" apos) [a, b] [] cpos) w ls R := by
  refine PE.mono (pe_dget2 hu h (pe_any (e := a)) (pe_any (e := b)) m) fun σ H Q ⟨c, H0, r0, q⟩ => ?_
  refine ⟨c, H0, r0, fun v x w1 c1 H01 H1 s1 p1 rx ⟨ks, e0, hb⟩ => ?_⟩
  subst e0
  cases rx with
  | @dk ad kvs _ hp hk hr =>
    refine ⟨ad, rfl, .inl ⟨kvs, ex_rd s1.ex hp⟩, _, hb, c1, H01, r0.step s1 p1, fun u y w2 c2 H02 H2 s2 p2 ry ⟨k, e1, hc⟩ => ⟨_, hc, c2, H02, (r0.step s1 p1).step s2 p2, fun u2 y2 w3 c3 H03 H3 s3 p3 ry2 z => ?_⟩⟩
    subst e1
    have s23 := s2.trans s3
    refine ⟨valV kvs k, .inl ⟨kvs, k, ex_rd s3.ex (ex_rd s23.e0 hp), rp_kD ry, rfl⟩, ?_⟩
    rcases rpl_val k hk hr with ⟨g, f⟩ | ⟨v, d', f1, f2, f3⟩
    · rw [g]
      rw [f] at z
      exact q _ _ w3 c3 H03 H3 (s1.trans s23) p3 ry2 z
    · rw [f1]
      rw [f2] at z
      exact q _ _ w3 c3 H03 H3 (s1.trans s23) p3 (f3.ex s23.e0) z
end
end Pd
set_option Elab.async false
set_option linter.all false
set_option maxRecDepth 100000
set_option maxHeartbeats 4000000
/-! enumerate(t), t a tuple -/
namespace EnT
open PySem PySem.Spec PyProof.Rows
theorem meets_new {v : Value} {o : Obj} {H : Heap → Prop} (B : Begins v o H) :
    Meets (Builtin.«enumerate.__new__» ⟨[.type "enumerate", v], []⟩) (fun _ R s => H s.heap ∧
      R (.ok (.ret (.ref (s.heap.push o).objs.size))) { s with heap := (s.heap.push o).push { cls := .type "enumerate", data := .fields #[.none, .bool false, .ref s.heap.objs.size, rawInt 0, .none, .none] } }) :=
  .of_wp fun prog w A R s h => by
    obtain ⟨hp, g, d, tk, os⟩ := s; obtain ⟨h1, h⟩ := h
    have hsub := sub_enumerate
    have q1 : ∀ {A' : Around} {E : Value → Shared → Prop} {Q : Value → Shared → Prop}, Q (.ref hp.objs.size) ⟨hp.push o, g, d, tk, os⟩ → wpAny (model prog w) A' (pyIter v) Q E ⟨hp, g, d, tk, os⟩ :=
      fun q => B.iter prog w _ _ ⟨hp, g, d, tk, os⟩ _ h1 q
    wp_walk using q1
    refine wpAny_stack_any fun st => wpAny_pure ?_
    split
    · rename_i c _ _ _ _ _
      cases (c == Value.type "enumerate")
      · wp_walk using q1
        exact ⟨_, rfl, h⟩
      · wp_walk using q1
        exact ⟨_, rfl, h⟩
    · wp_walk using q1
      exact ⟨_, rfl, h⟩
section
variable {prog : Program} {w : World} {A : Around} {E : Value → Shared → Prop} {s : Shared}
theorem call_new {v : Value} {o : Obj} {H : Heap → Prop} {Q : Value → Shared → Prop} (B : Begins v o H) (h1 : H s.heap)
    (h : ∀ h', IsEnum h' (s.heap.objs.size + 1) s.heap.objs.size 0 .none → h'.get? s.heap.objs.size = some o → h'.objs.size = s.heap.objs.size + 2 →
      (∀ b o, s.heap.get? b = some o → h'.get? b = some o) → Q (.ref (s.heap.objs.size + 1)) { s with heap := h' }) :
    wpAny (model prog w) A (call (.type "enumerate") [v]) Q E s := by
  refine callType_new F.called_enumerate (by decide) (F.typeCall_enumerate_1 _) (F.newCall_enumerate_1 _) (fun obj => F.args_object_init_2 obj _) F.entry_enumerate_new (meets_new B) ⟨h1, ?_⟩
  have hz : (s.heap.push o).objs.size = s.heap.objs.size + 1 := Heap.size_push ..
  show _ ∧ _
  rw [hz]
  have he : IsEnum ((s.heap.push o).push { cls := .type "enumerate", data := .fields #[.none, .bool false, .ref s.heap.objs.size, rawInt 0, .none, .none] }) (s.heap.objs.size + 1) s.heap.objs.size 0 .none := by
    have := Heap.get?_push_size (s.heap.push o) (o := { cls := .type "enumerate", data := .fields #[.none, .bool false, .ref s.heap.objs.size, rawInt 0, .none, .none] }) rfl
    rw [hz] at this; exact this
  refine ⟨⟨_, he, rfl⟩, h _ he (Heap.get?_push_of_some _ (Heap.get?_push_size _ B.free)) (by rw [Heap.size_push, hz]) fun b o x => Heap.get?_push_of_some _ (Heap.get?_push_of_some _ x)⟩
end
end EnT
namespace L2
open PySem PySem.Spec PyProof.Rows
/-- the tuple at a, each item in a new pair -/
def IteT (K : PySem.W.Frag) (a : Addr) : It :=
  ⟨fun i H => ∃ (xs : List V) (x : V), SqT K H a xs ∧ xs[i]? = some x, fun i H v H' => ∃ T x, v = .ref T ∧ H T = none ∧ H' = upd H T (.tup [.int (i : Nat), x]) ∧ ∀ xs, SqT K H a xs → xs[i]? = some x, fun i H => ∃ xs : List V, SqT K H a xs ∧ xs.length ≤ i⟩
theorem turn_enumT {P : Program} {w : World} {K : PySem.W.Frag} {elts : List Expr} {kk : Nat} {tpos : Pos} (a e it : Addr) :
    Turn P w K (.Tuple elts kk tpos) (IteT K a) [e, it] e (fun i h => (∃ old, IsEnum h e it ((i : Nat) : Int) old) ∧ h.IsTupleIter it a i ∧ e ≠ it ∧ e ≠ a ∧ a ≠ it) where
  mem := by simp
  obj := fun i h st b hb => by
    obtain ⟨⟨old, he⟩, ⟨o, ho, hc, hd⟩, _⟩ := st
    have e' : b = e ∨ b = it := by simpa using hb
    rcases e' with z | z
    · rw [z]; exact ⟨_, he, fun v q => nomatch q⟩
    · rw [z]; exact ⟨o, ho, fun v q => by rw [hd] at q; cases q⟩
  keep := fun i h h' st k => let ⟨⟨old, he⟩, hi, hne⟩ := st; ⟨⟨old, k e (by simp) _ he⟩, hi.at fun o q => k it (by simp) o q, hne⟩
  item := by
    intro X hP hw hK hc i pins s σ H E I hf st hg
    subst hP hw hK
    obtain ⟨⟨old, he⟩, hit, hne, hea, hai⟩ := st
    obtain ⟨xs, x, hq, hx⟩ := hg
    obtain ⟨its, rv, p, hz⟩ := I.tuple hq
    obtain ⟨u, hu, ru⟩ := rv.get hx
    have hel : e < s.heap.objs.size := Heap.lt_size he
    have hil : it < s.heap.objs.size := by obtain ⟨_, q, _⟩ := hit; exact Heap.lt_size q
    have hin : i < its.toArray.size := by simpa using (List.getElem?_eq_some_iff.mp hu).1
    refine wpAny_pyNext_enum_itemC (c := (i : Int)) (Draws.tuple (A := X.A.in1) (I.ok.hd hc) it a hai its.toArray) he ⟨hit, p⟩ hin hne (by simp [hne, hea]) fun v h' tk hP ho hst hT hsz hk => ?_
    have ev : v = u := by
      have q1 : its[i]? = some v := by simpa using hP
      rw [hu] at q1; exact (Option.some.inj q1).symm
    subst ev
    refine ⟨_, rfl, wpAny_letOwnedTupleGo_enum (s := { s with heap := h', toks := tk + 1 }) ho fun h'' he' sb => ?_⟩
    have hT2 : h''.get? s.heap.objs.size = some { cls := .type "tuple", data := .seq #[.int i tk, v] } := (sb.2 _ (Nat.ne_of_gt hel)).trans hT
    have new : ObjOk X.prog X.w (upd H s.heap.objs.size (.tup [.int (i : Nat), x])) h'' s.heap.objs.size (.tup [.int (i : Nat), x]) :=
      ⟨by show 2 ≤ sizeLine; decide, [.int i tk, v], .cons ⟨_, rfl⟩ (.cons ru .nil), ⟨_, hT2, rfl, _, rfl⟩⟩
    have I1 : Inv X pins σ (upd H s.heap.objs.size (.tup [.int (i : Nat), x])) { s with heap := h'', toks := tk + 1 } :=
      I.turnedNew (ch := [e, it]) (fun b ob hb q => (sb.2 b (fun z => hb (by simp [z]))).trans (hk b ob (fun z => hb (by simp [z])) (fun z => hb (by simp [z])) q)) hf (Nat.le_refl _) new
    refine ⟨.ref s.heap.objs.size, _, I1, rfl, ⟨_, x, rfl, I.hok.fresh (Nat.le_refl _), rfl, fun ys hy => by rw [I.tuple_inj hy hq]; exact hx⟩, ⟨⟨v, ?_⟩, hst.1.at fun o q => (sb.2 it (Ne.symm hne)).trans q, hne, hea, hai⟩, fun b hb => ?_⟩
    · have e1 : ((i + 1 : Nat) : Int) = (i : Int) + 1 := by omega
      rw [e1]; exact he'
    · have hb' : b < s.heap.objs.size := by
        have e' : b = e ∨ b = it := by simpa using hb
        rcases e' with z | z
        · rw [z]; exact hel
        · rw [z]; exact hil
      rw [upd_ne (Nat.ne_of_lt hb')]
      exact (hf b hb).1
  done := by
    intro X hP hw hK hc i pins s σ H E I hf st hg
    subst hP hw hK
    obtain ⟨⟨old, he⟩, hit, hne, hea, hai⟩ := st
    obtain ⟨xs, hq, hx⟩ := hg
    obtain ⟨its, rv, p, hz⟩ := I.tuple hq
    obtain ⟨f0, f1, f2, f3, f4, f5⟩ := hf it (by simp)
    have hl := rv.length
    have hsz : its.toArray.size ≤ i := by simp; omega
    have hno : its.toArray[i]? = none := by rw [Array.getElem?_eq_none]; exact hsz
    have hT : s.TypeIs (.ref e) "enumerate" := ⟨_, he, rfl⟩
    unfold pyNext
    refine wpAny_bind (wpAny_attempt (wpAny_callSpecial?_slot (name := Str.ofString "__next__") hT F.slot_enumerate_next
      (wpAny_call_entry F.slot_enumerate_next hT F.entry_enumerate_next ?_ (F.args_enumerate_next_1 _))))
    show wpAny _ _ (field (.ref e) 2 >>= _) _ _ _
    refine wpAny_bind (wpAny_field he rfl (x := .ref it) rfl ?_)
    refine wpAny_bind (wpAny_nextOf_tuple_end (I.ok.hd hc) hit p hno fun h' x he' hx' => ?_)
    obtain ⟨o, ho, hc⟩ := hx'
    refine wpAny_bind (wpAny_isInstance (T := "StopIteration") (b := true) ⟨o, ho, hc⟩ isSubtype_stop ?_)
    exact wpAny_pure ⟨rfl, I.turned (t' := s.toks) (fun b o hb q => he' b o hb q) f0 f1 f3 f4 f5⟩
  self := fun A i s Q E st h => let ⟨⟨_, he⟩, _⟩ := st; wpAny_pyIter_enum he h
def iEnumT (K : PySem.W.Frag) (ta : TA) : TI := fun σ H R => ta σ H fun vs H1 => ∃ a xs, vs = [.ref a] ∧ SqT K H1 a xs ∧ R (IteT K a) H1
theorem pi_enumT {X : Cx} {e : Expr} {ta : TA} {p pos tpos : Pos} {elts : List Expr} {kk : Nat} (hg : Gl X "enumerate") (hm : X.mg "enumerate" = none) (ha : PA X [e] ta) (hs : starEach [e] X.env = [(false, eval e X.env)] := by rfl) :
    PI X (.Tuple elts kk tpos) (.Call (.Name "enumerate" p) [e] [] pos) (iEnumT X.K ta) := by
  refine ⟨fun pins s σ H R I h => ?_⟩
  refine Call_ (ld_blt I hg hm boot_enumerate (PyProof.Rows.callWith_type1 (thn (ha.run pos pins s σ H _ I h) fun us s1 ⟨vs, H1, I1, r1, q1⟩ => ?_) hs rfl))
  obtain ⟨a, xs, ex, hq, q⟩ := q1
  subst ex
  cases r1 with
  | cons r rr =>
    cases rr
    cases r
    obtain ⟨its, rv, p', hz⟩ := I1.tuple hq
    have hal : a < s1.heap.objs.size := by obtain ⟨o, ho, _⟩ := p'; exact Heap.lt_size ho
    refine EnT.call_new (begins_tuple a its.toArray) p' fun h' he hit hsz hk => wpAny_pyIter_enum he ?_
    have I2 : Inv X pins σ H1 { s1 with heap := h' } := I1.kept (t' := s1.toks) hk
    refine ⟨s1.heap.objs.size + 1, [s1.heap.objs.size + 1, s1.heap.objs.size], _, _, H1, rfl, I2, turn_enumT a (s1.heap.objs.size + 1) s1.heap.objs.size, ⟨⟨.none, he⟩, ⟨_, hit, rfl, rfl⟩, Nat.succ_ne_self _, Nat.ne_of_gt (Nat.lt_succ_of_lt hal), Nat.ne_of_lt hal⟩, fun b hb => ?_, q⟩
    have e' : b = s1.heap.objs.size + 1 ∨ b = s1.heap.objs.size := by simpa using hb
    have hle : s1.heap.objs.size ≤ b := by
      rcases e' with z | z
      · rw [z]; exact Nat.le_add_right _ _
      · rw [z]; exact Nat.le_refl _
    exact I1.fpOk hle (I1.hok.fresh hle)
end L2
namespace Pd
open PySem PySem.Spec PyProof.Rows L2
open Evl (Ex)
section
variable {X : Cx} {e a b o i tg iter : Expr} {es : List Expr} {w : Wd} {ls : List L} {R : List D → Wd → Prop} {pos p : Pos} {x y m : Str} {apos cpos : Pos}
/-- (0, x), (1, y), .. -/
def enD (n : Nat) : List D → List D
  | [] => []
  | d :: r => .tup [.int (n : Nat), d] :: enD (n + 1) r
theorem enD_len : ∀ (ds : List D) (n : Nat), (enD n ds).length = ds.length
  | [], _ => rfl
  | d :: r, n => by show (enD (n + 1) r).length + 1 = r.length + 1; rw [enD_len r]
theorem enD_get : ∀ (ds : List D) (n k : Nat) (d : D), ds[k]? = some d → (enD n ds)[k]? = some (.tup [.int ((n + k : Nat) : Int), d])
  | [], _, _, _, h => by simp at h
  | d :: r, n, 0, x, h => by simp at h; subst h; rfl
  | d :: r, n, k + 1, x, h => by
    have := enD_get r (n + 1) k x (by simpa using h)
    have e : n + 1 + k = n + (k + 1) := by omega
    rw [e] at this
    simpa [enD] using this
theorem yields_enumT {K : PySem.W.Frag} {Hb : Hp} {a : Addr} {vs : List V} {ds : List D} (h1 : SqT K Hb a vs) (h2 : RpL K Hb vs ds) : Yields K (IteT K a) (enD 0 ds) Hb where
  go := fun k H0 H e1 e2 hk => by
    rw [enD_len] at hk
    obtain ⟨d, hd⟩ := lt_get hk
    obtain ⟨v, hv, _⟩ := h2.get hd
    exact ⟨vs, v, sqT_ex (e1.trans e2) h1, hv⟩
  stop := fun k H0 H e1 e2 hk => ⟨vs, sqT_ex (e1.trans e2) h1, by rw [h2.length]; rw [enD_len] at hk; exact hk⟩
  yld := fun k H0 H x H' e1 e2 hk ⟨T, v, e3, e4, e5, q⟩ => by
    subst e3 e5
    rw [enD_len] at hk
    obtain ⟨d, hd⟩ := lt_get hk
    obtain ⟨v', hv, rv⟩ := h2.get hd
    have := q vs (sqT_ex (e1.trans e2) h1)
    rw [hv] at this; cases this
    refine ⟨upd H0 T (.tup [.int (k : Nat), v]), _, enD_get ds 0 k d hd, Stp.new e2 e4, ?_⟩
    have e0 : 0 + k = k := Nat.zero_add k
    rw [e0]
    have hx : Ex H0 (upd H0 T (.tup [.int (k : Nat), v])) := Ex.new (none_of_ex e2 e4)
    exact .tup upd_same (.cons (.int _) (.cons ((rv.ex e1).ex hx) .nil))
/-- for i, x in enumerate(a tuple) -/
theorem i_enumT {elts : List Expr} {kk : Nat} {tpos : Pos} (hm : X.mg "enumerate" = none) (h : PV X e w ls fun d w' => ∃ ds, IsT d ds ∧ R (enD 0 ds) w') (hg : Gl X "enumerate" := by rfl) (hs : starEach [e] X.env = [(false, eval e X.env)] := by rfl) :
    PIv X (.Tuple elts kk tpos) (.Call (.Name "enumerate" p) [e] [] pos) w ls R :=
  PI.mono (pi_enumT hg hm (pa_cons h pa_nil hs) hs) fun σ H R0 ⟨c, H0, r, q⟩ => ⟨c, H0, r, fun v d w' c' H0' H' s p rp ⟨ds, e1, k⟩ => by
    obtain ⟨a, vs, rfl, h1, h2⟩ := e1.v rp
    exact ⟨a, vs, rfl, sqT_ex s.ex h1, q _ _ w' c' H0' H' s p (yields_enumT h1 h2) k⟩⟩
/-! zip of two lists -/
def zpD : List D → List D → List D
  | x :: xs, y :: ys => .tup [x, y] :: zpD xs ys
  | _, _ => []
theorem zpD_len : ∀ (xs ys : List D), (zpD xs ys).length = min xs.length ys.length
  | [], _ => by simp [zpD]
  | _ :: _, [] => by simp [zpD]
  | x :: xs, y :: ys => by simp [zpD, zpD_len xs ys]
theorem zpD_get : ∀ (xs ys : List D) (k : Nat) (x y : D), xs[k]? = some x → ys[k]? = some y → (zpD xs ys)[k]? = some (.tup [x, y])
  | [], _, _, _, _, h, _ => by simp at h
  | _ :: _, [], _, _, _, _, h => by simp at h
  | x :: xs, y :: ys, 0, _, _, h1, h2 => by simp at h1 h2; subst h1 h2; rfl
  | x :: xs, y :: ys, k + 1, u, v, h1, h2 => by simpa [zpD] using zpD_get xs ys k u v (by simpa using h1) (by simpa using h2)
theorem yields_zip {K : PySem.W.Frag} {Hb : Hp} {a b : Addr} {vs us : List V} {ds es : List D} (h1 : Hb a = some (.lst vs)) (h2 : RpL K Hb vs ds) (g1 : Hb b = some (.lst us)) (g2 : RpL K Hb us es) : Yields K (Itz K a b) (zpD ds es) Hb where
  go := fun k H0 H e1 e2 hk => by
    rw [zpD_len] at hk
    obtain ⟨d, hd⟩ := lt_get (ds := ds) (k := k) (by omega)
    obtain ⟨v, hv, _⟩ := h2.get hd
    obtain ⟨d', hd'⟩ := lt_get (ds := es) (k := k) (by omega)
    obtain ⟨v', hv', _⟩ := g2.get hd'
    exact ⟨vs, us, v, v', .inl (.inl (e2 _ _ (e1 _ _ h1))), .inl (.inl (e2 _ _ (e1 _ _ g1))), hv, hv'⟩
  stop := fun k H0 H e1 e2 hk => ⟨vs, us, .inl (.inl (e2 _ _ (e1 _ _ h1))), .inl (.inl (e2 _ _ (e1 _ _ g1))), by rw [h2.length, g2.length]; rw [zpD_len] at hk; omega⟩
  yld := fun k H0 H x H' e1 e2 hk ⟨T, v, u, e3, e4, e5, q, q'⟩ => by
    subst e3 e5
    rw [zpD_len] at hk
    obtain ⟨d, hd⟩ := lt_get (ds := ds) (k := k) (by omega)
    obtain ⟨v', hv, rv⟩ := h2.get hd
    obtain ⟨d', hd'⟩ := lt_get (ds := es) (k := k) (by omega)
    obtain ⟨u', hu, ru⟩ := g2.get hd'
    have z1 := q vs (.inl (.inl (e2 _ _ (e1 _ _ h1))))
    have z2 := q' us (.inl (.inl (e2 _ _ (e1 _ _ g1))))
    rw [hv] at z1; cases z1
    rw [hu] at z2; cases z2
    refine ⟨upd H0 T (.tup [v, u]), _, zpD_get ds es k d d' hd hd', Stp.new e2 e4, ?_⟩
    have hx : Ex H0 (upd H0 T (.tup [v, u])) := Ex.new (none_of_ex e2 e4)
    exact .tup upd_same (.cons ((rv.ex e1).ex hx) (.cons ((ru.ex e1).ex hx) .nil))
theorem i_zip {elts : List Expr} {kk : Nat} {tpos : Pos} (hm : X.mg "zip" = none) (h : PV X a w ls fun d w1 => PV X b w1 ls fun d2 w2 => ∃ ds es, d = .lst ds ∧ d2 = .lst es ∧ R (zpD ds es) w2) (hg : Gl X "zip" := by rfl) (hs : starEach [a, b] X.env = (false, eval a X.env) :: starEach [b] X.env := by rfl) (hs2 : starEach [b] X.env = (false, eval b X.env) :: starEach [] X.env := by rfl) (hpl : (backTo pos (starEach [b] X.env)).any (·.1) = false := by rfl) :
    PIv X (.Tuple elts kk tpos) (.Call (.Name "zip" p) [a, b] [] pos) w ls R :=
  PI.mono (pi_zip hg hm (pa_cons h (pa_cons (pe_any (e := b)) pa_nil hs2) hs) hs hpl) fun σ H R0 ⟨c, H0, r, q⟩ => ⟨c, H0, r, fun v d w1 c1 H01 H1 s1 p1 rp hb => ⟨_, hb, c1, H01, r.step s1 p1, fun u d2 w2 c2 H02 H2 s2 p2 rp2 ⟨ds, es, e1, e2, k⟩ => by
    subst e1 e2
    cases rp with
    | lst h1 h2 =>
      cases rp2 with
      | lst g1 g2 => exact ⟨_, _, _, _, rfl, .inl (.inl (s2.ex _ _ (s2.e0 _ _ h1))), .inl (.inl (s2.ex _ _ g1)), q _ _ w2 c2 H02 H2 (s1.trans s2) p2 (yields_zip (s2.e0 _ _ h1) (h2.ex s2.e0) g1 g2) k⟩⟩⟩
/-! for k in d, d a dict with tuple keys -/
theorem yields_dt {K : PySem.W.Frag} {Hb : Hp} {a : Addr} {ob : Obj} {ws : List (List Key × V)} {ks : List (List Key × D)} (h1 : Hb a = some (.frz ob (.dT ws))) (h2 : ws.map (·.1) = ks.map (·.1)) : Yields K (Itkt a ob ws) (ks.map fun kv => .tup (kv.1.map kD)) Hb where
  go := fun k H0 H e1 e2 hk => by
    have hl := congrArg List.length h2
    simp at hl hk
    exact ⟨e2 _ _ (e1 _ _ h1), by omega⟩
  stop := fun k H0 H e1 e2 hk => by
    have hl := congrArg List.length h2
    simp at hl hk
    exact ⟨e2 _ _ (e1 _ _ h1), by omega⟩
  yld := fun k H0 H x H' e1 e2 hk ⟨e3, kk, v, q, e4, e5, e6⟩ => by
    subst e3 e5
    have h3 : (ks.map (·.1))[k]? = some kk := by rw [← h2, List.getElem?_map, e4]; rfl
    rw [List.getElem?_map] at h3
    cases hk2 : ks[k]? with
    | none => rw [hk2] at h3; cases h3
    | some kv =>
      rw [hk2] at h3
      have h4 : kv.1 = kk := Option.some.inj h3
      refine ⟨upd H0 q (.tup (kk.map kV)), .tup (kv.1.map kD), by rw [List.getElem?_map, hk2]; rfl, Stp.see e2 e6, ?_⟩
      rw [h4]
      exact .tup upd_same (rpl_keys kk)
theorem i_dt (h : PV X iter w ls fun d w' => ∃ ks, d = .dt ks ∧ R (ks.map fun kv => .tup (kv.1.map kD)) w') : PIv X tg iter w ls R :=
  PI.mono (pi_keys h) fun σ H R0 ⟨c, H0, r, q⟩ => ⟨c, H0, r, fun v d w' c' H0' H' s p rp ⟨ks, e1, z⟩ => by
    subst e1
    cases rp with
    | dt h1 h2 h3 => exact ⟨_, _, rfl, .inr ⟨_, s.ex _ _ h1, q _ _ w' c' H0' H' s p (yields_dt h1 h2) z⟩⟩⟩
end
end Pd
set_option Elab.async false
set_option linter.all false
set_option maxRecDepth 100000
set_option maxHeartbeats 4000000
namespace L2
open PySem PySem.Spec PyProof.Rows
/-! range(a, b) as a thing; the walk over it -/
def tRngV (ta tb : TE) : TE := fun σ H Q => ta σ H fun x H1 => tb σ H1 fun y H2 => ∃ i j : Int, x = .int i ∧ y = .int j ∧ ∀ p, H2 p = none → Q (.ref p) (upd H2 p (.rng i j))
section
variable {X : Cx} {a b e : Expr} {ta tb te : TE} {p pos : Pos} {tg : Expr}
theorem pe_rng2 (hg : Gl X "range") (hm : X.mg "range" = none) (ha : PE X a ta) (hb : PE X b tb) (na : starEach [a, b] X.env = (false, eval a X.env) :: starEach [b] X.env := by rfl)
    (nb : starEach [b] X.env = (false, eval b X.env) :: starEach [] X.env := by rfl) (hp : (backTo pos (starEach [b] X.env)).any (·.1) = false := by rfl) : PE X (.Call (.Name "range" p) [a, b] [] pos) (tRngV ta tb) := by
  refine ⟨fun pins s σ H Q I h => ?_⟩
  refine Call_ (ld_blt I hg hm boot_range (PyProof.Rows.callWith_type1 (args_cons (thn (ha.run pins s σ H _ I h) fun v s1 ⟨x, H1, I1, r1, q1⟩ => one_arg hb I1 q1 (fun u s2 y H2 I2 r2 q => ?_) nb) na) na hp))
  obtain ⟨i, j, rfl, rfl, q⟩ := q
  obtain ⟨t, rfl⟩ := r1
  obtain ⟨t', rfl⟩ := r2
  exact call_range_2 ⟨.ref s2.heap.objs.size, _, I2.laid (o := .rng i j) (fun b u e => Heap.get?_push_of_some _ e) (Nat.le_refl _) ⟨_, _, _, Heap.get?_push_size _ rfl⟩, rfl, q _ (I2.hok.fresh (Nat.le_refl _))⟩
def iRngO (te : TE) : TI := fun σ H R => te σ H fun x H1 => ∃ a i j, x = .ref a ∧ H1 a = some (.rng i j) ∧ (-(2 ^ 62) ≤ i ∧ i < 2 ^ 62 ∧ -(2 ^ 62) ≤ j ∧ j < 2 ^ 62) ∧ R (Itr i (j - i).toNat) H1
theorem pi_rngO (he : PE X e te) : PI X tg e (iRngO te) := by
  refine ⟨fun pins s σ H R I h => ?_⟩
  refine thn (he.run pins s σ H _ I h) fun v s1 ⟨x, H1, I1, r1, a, i, j, ex, hk, ⟨h1, h2, h3, h4⟩, q⟩ => ?_
  subst ex
  obtain rfl : v = Value.ref a := r1
  obtain ⟨t, u, w', g⟩ := I1.hok a _ hk
  refine wpAny_pyIter_range (show IsRange s1.heap a i j 1 t u w' from g) (small_one h1 h2 h3 h4) ?_
  refine ⟨s1.heap.objs.size, [s1.heap.objs.size], _, _, H1, rfl, I1.kept (t' := s1.toks) fun b o e => Heap.get?_push_of_some _ e, turn_range _ i (j - i).toNat, ?_, fun b hb => ?_, q⟩
  · have e1 : i + ((0 : Nat) : Int) * 1 = i := by simp
    have e2 : (((j - i).toNat : Nat) : Int) - ((0 : Nat) : Int) = Builtin.Range.rangeSize i j 1 := by rw [rangeSize_one]; split <;> omega
    show IsRangeIter _ _ (i + ((0 : Nat) : Int) * 1) ((((j - i).toNat : Nat) : Int) - ((0 : Nat) : Int)) 1
    rw [e1, e2]
    exact Heap.get?_push_size _ rfl
  · have e : b = s1.heap.objs.size := by simpa using hb
    subst e
    exact I1.fpOk (Nat.le_refl _) (I1.hok.fresh (Nat.le_refl _))
/-! all(t), any(t), t a tuple of bools -/
theorem bls_reads {h : Heap} : ∀ {bs : List Bool} {us : List Value}, Vals (bs.map V.bl) us → ReadsAll h us (bs.map .bool) []
  | [], _, .nil => .nil
  | b :: r, _, .cons h1 h2 => by
    cases h1
    exact ReadsAll.cons (as := []) (bs := []) (Reads.bool b) (bls_reads h2)
theorem plain_bls : ∀ bs : List Bool, PyData.plainAll (bs.map .bool) = true
  | [] => by simp [PyData.plainAll]
  | b :: r => by simp [PyData.plainAll, PyData.plain, plain_bls r]
theorem fits_bls (bs : List Bool) : ∀ x ∈ bs.map PyData.bool, x.fits63 := fun x hx => by
  obtain ⟨b, _, rfl⟩ := List.mem_map.mp hx
  simp [PyData.fits63]
def rAllT (K : PySem.W.Frag) : List V → Hp → VK → Prop := fun xs H Q => ∃ (a : Addr) (bs : List Bool), xs = [.ref a] ∧ SqT K H a (bs.map V.bl) ∧ Q (.bl (bs.all fun x => x)) H
def rAnyT (K : PySem.W.Frag) : List V → Hp → VK → Prop := fun xs H Q => ∃ (a : Addr) (bs : List Bool), xs = [.ref a] ∧ SqT K H a (bs.map V.bl) ∧ Q (.bl (bs.any fun x => x)) H
theorem cr_allT (hc : X.calm = true) : CallR X (.builtin "all") (rAllT X.K) := by
  intro pins s σ H vs us Q I r h
  obtain ⟨a, bs, rfl, hs, q⟩ := h
  obtain ⟨its, rv, hl, _⟩ := I.tuple hs
  rw [Vals.ref1 r]
  refine PySem.W.all_tuple_data (I.ok.hd hc) hl (bls_reads (by simpa using rv)) (plain_bls bs) (fits_bls bs) fun h' tk hk => ⟨.bl _, H, I.kept hk, ?_, q⟩
  rw [List.all_map]
  rfl
theorem cr_anyT (hc : X.calm = true) : CallR X (.builtin "any") (rAnyT X.K) := by
  intro pins s σ H vs us Q I r h
  obtain ⟨a, bs, rfl, hs, q⟩ := h
  obtain ⟨its, rv, hl, _⟩ := I.tuple hs
  rw [Vals.ref1 r]
  refine PySem.W.any_tuple_data (I.ok.hd hc) hl (bls_reads (by simpa using rv)) (plain_bls bs) (fits_bls bs) fun h' tk hk => ⟨.bl _, H, I.kept hk, ?_, q⟩
  rw [List.any_map]
  rfl
/-! dict(t), t a known tuple of pairs of ints -/
def PairVs (K : PySem.W.Frag) (H : Hp) : List V → List (Int × Int) → Prop := Paired fun v z => ∃ T, v = .ref T ∧ SqT K H T [.int z.1, .int z.2]
theorem pairsP_of {pins : List (Addr × Obj)} {σ : St} {H : Hp} {s : Shared} (I : Inv X pins σ H s) : ∀ {zs : List (Int × Int)} {vs : List V} {its : List Value}, PairVs X.K H vs zs → Vals vs its →
    ∃ (tl : List Addr) (ps : List (Value × Value)) (kvs : List (Key × Value)), ps.length = zs.length ∧ kvs.length = zs.length ∧ its = tl.map Value.ref ∧ kvs.map (·.1) = zs.map (fun z => .inl z.1) ∧ KV (zs.map fun z => (.inl z.1, .int z.2)) kvs ∧
      ∀ (j : Nat) k v, ps[j]? = some (k, v) → ∃ T, tl[j]? = some T ∧ PairAt s.heap T k v ∧ ∃ key, kvs[j]? = some (key, v) ∧ (mixKind X.prog X.w).is key k = true
  | [], _, _, .nil, .nil => ⟨[], [], [], rfl, rfl, rfl, rfl, .nil, fun j k v h => by simp at h⟩
  | z :: zs, _, _, .cons ⟨T, e1, h1⟩ r, .cons q rr => by
    subst e1
    cases q
    obtain ⟨tl, ps, kvs, l1, l2, e2, e3, kv, g⟩ := pairsP_of I r rr
    obtain ⟨its2, rv, p, _⟩ := I.tuple h1
    cases rv with
    | cons a1 a2 =>
      cases a2 with
      | cons a2 a3 =>
        cases a3
        obtain ⟨t1, rfl⟩ := a1
        obtain ⟨t2, rfl⟩ := a2
        refine ⟨T :: tl, (.int z.1 t1, .int z.2 t2) :: ps, (.inl z.1, .int z.2 t2) :: kvs, by simp [l1], by simp [l2], by simp [e2], by simp [e3], .cons ⟨rfl, ⟨t2, rfl⟩⟩ kv, fun j k v h => ?_⟩
        cases j with
        | zero =>
          simp at h
          obtain ⟨rfl, rfl⟩ := h
          exact ⟨T, rfl, .inl p, .inl z.1, rfl, mixKind_int _ _ _ _⟩
        | succ j =>
          obtain ⟨T', b1, b2, key, b3, b4⟩ := g j k v (by simpa using h)
          exact ⟨T', by simpa using b1, b2, key, by simpa using b3, b4⟩
def rDictP (K : PySem.W.Frag) : List V → Hp → VK → Prop := fun xs H Q => ∃ (a : Addr) (ob : Obj) (vs : List V) (zs : List (Int × Int)), xs = [.ref a] ∧ H a = some (.frz ob (.tup vs)) ∧ ob.cls = .type "tuple" ∧ ob.dict = none ∧ PairVs K H vs zs ∧ (zs.map (·.1)).Nodup ∧
  ∀ p, H p = none → Q (.ref p) (upd H p (.dK (zs.map fun z => (.inl z.1, .int z.2))))
theorem paired_len {α β : Type} {R : α → β → Prop} : ∀ {l : List α} {m : List β}, Paired R l m → l.length = m.length
  | _, _, .nil => rfl
  | _, _, .cons _ r => congrArg Nat.succ (paired_len r)
theorem cr_dictP (hc : X.calm = true) : CallR X (.type "dict") (rDictP X.K) := by
  intro pins s σ H xs us Q I r h
  obtain ⟨a, ob, vs, zs, rfl, hk, k1, k2, pv, nd, q⟩ := h
  rw [Vals.ref1 r]
  obtain ⟨g1, hz, its, rv, o2, g2, g3, n, g4⟩ := I.hok a _ hk
  rw [g1] at g2; cases g2
  obtain ⟨tl, ps, kvs, l1, l2, e2, e3, kv, g⟩ := pairsP_of I pv rv
  have hl : its.length = zs.length := by rw [← rv.length]; exact paired_len pv
  have hnd : (kvs.map (·.1)).Nodup := by
    rw [e3]
    have e4 : zs.map (fun z => (Sum.inl z.1 : Key)) = (zs.map (·.1)).map Sum.inl := by rw [List.map_map]; rfl
    rw [e4]
    exact List.Pairwise.map _ (fun a b h z => h (Sum.inl.inj z)) nd
  refine PySem.call_dict_pairs (knd := mixKind X.prog X.w) (kvs := kvs) (PairArg.tuple a its.toArray (fun j => tl.getD j 0) ps) (I.ok.hd hc) ⟨⟨_, n, g1, k1, k2, g4⟩, by rw [List.size_toArray, hl, l1], fun j k v hj => ?_⟩ ⟨by rw [l1, l2], fun i key v hi => ?_⟩ ?_ fun h' tk hd hk' => ?_
  · obtain ⟨T, b1, b2, _⟩ := g j k v hj
    have e5 : tl.getD j 0 = T := by rw [List.getD_eq_getElem?_getD, b1]; rfl
    show its.toArray[j]? = some (Value.ref (tl.getD j 0)) ∧ PairAt s.heap (tl.getD j 0) k v
    rw [e5]
    exact ⟨by rw [e2]; simp [b1], b2⟩
  · obtain ⟨T, _, _, key', b3, b4⟩ := g i key v hi
    exact ⟨key', b3, b4⟩
  · rw [l1, ← hl, ← rv.length]; exact hz
  · rw [merged_nil_of_nodup kvs hnd] at hd
    refine ⟨.ref s.heap.objs.size, _, I.laid (t' := tk) (o := .dK (zs.map fun z => (.inl z.1, .int z.2))) (fun b o e => hk' b o (by simp) e) (Nat.le_refl _) ?_, rfl, q _ (I.hok.fresh (Nat.le_refl _))⟩
    refine ⟨?_, beq_eq_false_iff_ne.mpr (Nat.ne_of_gt I.big), kvs, kv, hd⟩
    rw [List.length_map, ← hl, ← rv.length]; exact hz
/-! len(set(t)) of a tuple of ints -/
theorem nodup_sub : ∀ {l m : List Int}, l.Nodup → (∀ x ∈ l, x ∈ m) → l.length ≤ m.length
  | [], _, _, _ => Nat.zero_le _
  | x :: l, m, nd, h => by
    have nd' := List.nodup_cons.mp nd
    have hx := h x List.mem_cons_self
    have := nodup_sub (l := l) (m := m.erase x) nd'.2 fun y hy => by
      have hne : y ≠ x := fun e => nd'.1 (e ▸ hy)
      exact (List.mem_erase_of_ne hne).mpr (h y (List.mem_cons_of_mem _ hy))
    rw [List.length_erase_of_mem hx] at this
    have hp : 0 < m.length := List.length_pos_of_mem hx
    simp only [List.length_cons]
    omega
theorem nodup_of_len {l : List Int} (nd : l.Nodup) : ∀ {m : List Int}, (∀ x ∈ l, x ∈ m) → l.length = m.length → m.Nodup
  | [], _, _ => List.nodup_nil
  | y :: m, h, e => by
    rw [List.nodup_cons]
    have hy : y ∉ m := fun hy => by
      have := nodup_sub nd (m := m) fun x hx => by
        rcases List.mem_cons.mp (h x hx) with z | z
        · rw [z]; exact hy
        · exact z
      simp only [List.length_cons] at e
      omega
    refine ⟨hy, ?_⟩
    have hyl : y ∈ l := by
      by_cases hyl : y ∈ l
      · exact hyl
      · have := nodup_sub nd (m := m) fun x hx => by
          rcases List.mem_cons.mp (h x hx) with z | z
          · exact absurd (z ▸ hx) hyl
          · exact z
        simp only [List.length_cons] at e
        omega
    refine nodup_of_len (l := l.erase y) (nd.erase y) (fun x hx => ?_) ?_
    · have hx' := List.mem_of_mem_erase hx
      rcases List.mem_cons.mp (h x hx') with z | z
      · exact absurd (z ▸ hx) (List.Nodup.not_mem_erase nd)
      · exact z
    · rw [List.length_erase_of_mem hyl]
      simp only [List.length_cons] at e
      omega
theorem intsAre_of2 : ∀ {ns : List Int} {us : List Value}, Vals (ns.map V.int) us → PyProof.Rows.IntsAre us ns
  | [], _, .nil => .nil
  | n :: ns, _, .cons r t => by
    obtain ⟨k, rfl⟩ := r
    exact .cons n k (intsAre_of2 t)
def tLenSetT (K : PySem.W.Frag) (ta : TE) : TE := fun σ H Q => ta σ H fun x H1 => ∃ (l : Addr) (ns : List Int), x = V.ref l ∧ SqT K H1 l (ns.map V.int) ∧ ns.length ≤ 1000 ∧ ∀ c : Nat, c ≤ ns.length → (c = ns.length → ns.Nodup) → Q (.int c) H1
theorem pe_lenSetT {p2 q : Pos} (hc : X.calm = true) (hg : Gl X "len") (hm : X.mg "len" = none) (hg2 : Gl X "set") (hm2 : X.mg "set" = none) (ha : PE X a ta)
    (na : starEach [a] X.env = (false, eval a X.env) :: starEach [] X.env := by rfl) : PE X (.Call (.Name "len" p) [.Call (.Name "set" p2) [a] [] q] [] pos) (tLenSetT X.K ta) := by
  refine ⟨fun pins s σ H Q I h => ?_⟩
  refine Call_ (ld_blt I hg hm PySem.boot_len ?_)
  refine PyProof.Rows.callWith_builtin1 (PyProof.Rows.args_cons ?_ rfl) rfl rfl
  refine Call_ (ld_blt I hg2 hm2 PyProof.Rows.boot_set ?_)
  refine PyProof.Rows.callWith_type1 (PyProof.Rows.args_cons (thn (ha.run pins s σ H _ I h) fun v s1 ⟨x, H1, I1, r1, q1⟩ => PyProof.Rows.args_nil ?_) na) na rfl
  obtain ⟨l, ns, rfl, hq, h1, q1⟩ := q1
  cases r1
  obtain ⟨its, r, pl, hz⟩ := I1.tuple hq
  refine call_set_tupI (s := s1) ns (I1.ok.hd hc) pl (by simpa using intsAre_of2 r) (by unfold scanBound; omega) fun h' tk c hS hcl hk => ?_
  refine PyProof.Rows.args_nil ?_
  obtain ⟨o, es, ep, t, ho, hex, hd, _, nd, mem, hb, hf, hn, _⟩ := hS
  have I2 : Inv X pins σ H1 { s1 with heap := h', toks := tk } := I1.kept hk
  have hsb : scanBound < 2 ^ 62 := by decide
  have e1 : es.size = (es.toList.map keyOf).length := by rw [List.length_map, Array.length_toList]
  refine call_len_set ho hex hd hf (by omega) ⟨.int es.size, H1, I2.tok _, ⟨_, rfl⟩, q1 es.size (by omega) fun e => ?_⟩
  exact nodup_of_len nd (fun x hx => by have := (mem x).mpr hx; exact of_decide_eq_true this) (by rw [← e1]; exact e)
end
end L2
namespace Pd
open PySem PySem.Spec PyProof.Rows L2
open Evl (Ex)
section
variable {X : Cx} {e a b o i tg iter : Expr} {es : List Expr} {w : Wd} {ls : List L} {R : D → Wd → Prop} {pos p : Pos} {x y m : Str} {apos cpos : Pos}
/-- range(a, b), kept as a thing -/
theorem pv_rng2 (hm : X.mg "range" = none) (h : PV X a w ls fun d w1 => PV X b w1 ls fun d2 w2 => ∃ lo hi : Int, d = .int lo ∧ d2 = .int hi ∧ R (.rng lo hi) w2) (hg : Gl X "range" := by rfl)
    (na : starEach [a, b] X.env = (false, eval a X.env) :: starEach [b] X.env := by rfl) (nb : starEach [b] X.env = (false, eval b X.env) :: starEach [] X.env := by rfl) (hp : (backTo pos (starEach [b] X.env)).any (·.1) = false := by rfl) : PV X (.Call (.Name "range" p) [a, b] [] pos) w ls R :=
  PE.mono (pe_rng2 hg hm h (pe_any (e := b)) na nb hp) fun σ H Q ⟨c, H0, r, q⟩ => ⟨c, H0, r, fun v d w1 c1 H01 H1 s1 p1 rp hb => ⟨_, hb, c1, H01, r.step s1 p1, fun u d2 w2 c2 H02 H2 s2 p2 rp2 ⟨lo, hi, e1, e2, z⟩ => by
    subst e1 e2
    rw [rp.int_inv, rp2.int_inv]
    exact ⟨lo, hi, rfl, rfl, fun n hn => q _ (.rng lo hi) w2 c2 _ _ ((s1.trans s2).trans (Stp.new s2.ex hn)) (Wd.new p2 (none_of_ex s2.ex hn) hn) (.rng upd_same) z⟩⟩⟩
theorem i_rngO {R : List D → Wd → Prop} (h : PV X iter w ls fun d w' => ∃ lo hi : Int, d = .rng lo hi ∧ (-1000000 ≤ lo ∧ lo ≤ 1000000 ∧ -1000000 ≤ hi ∧ hi ≤ 1000000) ∧ R (rgD lo (hi - lo).toNat) w') : PIv X tg iter w ls R :=
  PI.mono (pi_rngO h) fun σ H R0 ⟨c, H0, r, q⟩ => ⟨c, H0, r, fun v d w' c' H0' H' s p rp ⟨lo, hi, e1, hn, z⟩ => by
    subst e1
    cases rp with
    | rng h1 => exact ⟨_, lo, hi, rfl, s.ex _ _ h1, by omega, q _ _ w' c' H0' H' s p yields_range z⟩⟩
/-- all(t), any(t) -/
theorem pv_allT (hca : X.calm = true) (hm : X.mg "all" = none) (h : PV X e w ls fun d w1 => ∃ ds, ∃ bs : List Bool, IsT d ds ∧ ds = bs.map .bl ∧ R (.bl (bs.all fun x => x)) w1) (hg : Gl X "all" := by rfl)
    (he : starEach [e] X.env = (false, eval e X.env) :: starEach [] X.env := by rfl) (hpl : (backTo pos (starEach [] X.env)).any (·.1) = false := by rfl) : PV X (.Call (.Name "all" p) [e] [] pos) w ls R := by
  refine pv_callB (cr_allT hca) hm boot_all (pas_cons (h.imp fun d w1 ⟨ds, bs, e1, e2, z⟩ => pas_nil ?_) he) hg (by decide) (by decide) he hpl
  intro c H0 H vs ex hw hr Q q
  subst e2
  cases hr with
  | cons h1 h2 =>
    cases h2
    obtain ⟨p', us, rfl, hq, hr⟩ := e1.v h1
    rw [RpL.bls_inv hr] at hq
    exact ⟨p', bs, rfl, sqT_ex ex hq, q _ _ _ c H0 H (Stp.refl ex) hw (.bl _) z⟩
theorem pv_anyT (hca : X.calm = true) (hm : X.mg "any" = none) (h : PV X e w ls fun d w1 => ∃ ds, ∃ bs : List Bool, IsT d ds ∧ ds = bs.map .bl ∧ R (.bl (bs.any fun x => x)) w1) (hg : Gl X "any" := by rfl)
    (he : starEach [e] X.env = (false, eval e X.env) :: starEach [] X.env := by rfl) (hpl : (backTo pos (starEach [] X.env)).any (·.1) = false := by rfl) : PV X (.Call (.Name "any" p) [e] [] pos) w ls R := by
  refine pv_callB (cr_anyT hca) hm boot_any (pas_cons (h.imp fun d w1 ⟨ds, bs, e1, e2, z⟩ => pas_nil ?_) he) hg (by decide) (by decide) he hpl
  intro c H0 H vs ex hw hr Q q
  subst e2
  cases hr with
  | cons h1 h2 =>
    cases h2
    obtain ⟨p', us, rfl, hq, hr⟩ := e1.v h1
    rw [RpL.bls_inv hr] at hq
    exact ⟨p', bs, rfl, sqT_ex ex hq, q _ _ _ c H0 H (Stp.refl ex) hw (.bl _) z⟩
/-- dict(t) -/
theorem pairVs_of {K : PySem.W.Frag} {H0 H : Hp} (ex : Ex H0 H) : ∀ {ps : List (Nat × Nat)} {vs : List V}, RpL K H0 vs (ps.map pairD) → PairVs K H vs (ps.map fun z => ((z.1 : Int), (z.2 : Int)))
  | [], _, .nil => .nil
  | z :: r, _, .cons h t => by
    obtain ⟨p, us, rfl, g1, g2⟩ := rp_tup_inv h
    cases g2 with
    | cons a1 a2 =>
      cases a2 with
      | cons a2 a3 =>
        cases a3
        rw [a1.int_inv, a2.int_inv] at g1
        exact .cons ⟨p, rfl, .inl (.inl (ex _ _ g1))⟩ (pairVs_of ex t)
theorem pv_dictP (hca : X.calm = true) (hm : X.mg "dict" = none) (h : PV X e w ls fun d w1 => ∃ ps : List (Nat × Nat), d = .ftup (ps.map pairD) ∧ (ps.map (·.1)).Nodup ∧ R (.dk (ps.map fun z => (.inl (z.1 : Int), .int (z.2 : Int)))) w1) (hg : Gl X "dict" := by rfl)
    (he : starEach [e] X.env = (false, eval e X.env) :: starEach [] X.env := by rfl) (hpl : (backTo pos (starEach [] X.env)).any (·.1) = false := by rfl) : PV X (.Call (.Name "dict" p) [e] [] pos) w ls R := by
  refine pv_callTy (cr_dictP hca) hm boot_dict (pas_cons (h.imp fun d w1 ⟨ps, e1, nd, z⟩ => pas_nil ?_) he) hg (by decide) (by decide) he hpl
  intro c H0 H vs ex hw hr Q q
  subst e1
  cases hr with
  | cons h1 h2 =>
    cases h2
    obtain ⟨p', o1, us, rfl, g1, k1, k2, hr⟩ := rp_ftup_inv h1
    refine ⟨p', o1, us, ps.map fun z => ((z.1 : Int), (z.2 : Int)), rfl, ex _ _ g1, k1, k2, pairVs_of ex hr, ?_, fun n hn => ?_⟩
    · rw [List.map_map]
      have e2 : (ps.map ((fun (x : Int × Int) => x.1) ∘ fun z => ((z.1 : Int), (z.2 : Int)))) = (ps.map (·.1)).map fun n : Nat => (n : Int) := by rw [List.map_map]; rfl
      rw [e2]
      exact List.Pairwise.map _ (fun a b h z => h (by omega)) nd
    · refine q (.ref n) (.dk (ps.map fun z => (.inl (z.1 : Int), .int (z.2 : Int)))) w1 c _ _ (Stp.new ex hn) (Wd.new hw (none_of_ex ex hn) hn) (.dk (.inl upd_same) ?_ ?_) z
      · simp [List.map_map, Function.comp_def]
      · have e3 : ((ps.map fun z => ((z.1 : Int), (z.2 : Int))).map (fun z => (Sum.inl z.1, V.int z.2))).map (fun (x : Key × V) => x.2) = (ps.map fun z => ((z.2 : Nat) : Int)).map V.int := by simp [List.map_map, Function.comp_def]
        have e4 : (ps.map (fun z => ((Sum.inl (z.1 : Int) : Key), D.int (z.2 : Int)))).map (fun (x : Key × D) => x.2) = (ps.map fun z => ((z.2 : Nat) : Int)).map D.int := by simp [List.map_map, Function.comp_def]
        rw [e3, e4]
        exact RpL.ints _
/-- len(set(t)) -/
theorem pv_lenSetT {p2 q : Pos} (hca : X.calm = true) (hm : X.mg "len" = none) (hm2 : X.mg "set" = none) (h : PV X e w ls fun d w1 => ∃ ds, ∃ ns : List Int, IsT d ds ∧ ds = ns.map .int ∧ ns.length ≤ 1000 ∧ ∀ c : Nat, c ≤ ns.length → (c = ns.length → ns.Nodup) → R (.int c) w1) (hg : Gl X "len" := by rfl) (hg2 : Gl X "set" := by rfl)
    (he : starEach [e] X.env = (false, eval e X.env) :: starEach [] X.env := by rfl) : PV X (.Call (.Name "len" p) [.Call (.Name "set" p2) [e] [] q] [] pos) w ls R :=
  PE.mono (pe_lenSetT hca hg hm hg2 hm2 h he) fun σ H Q ⟨c, H0, r, q⟩ => ⟨c, H0, r, fun v d w' c' H0' H' s p rp ⟨ds, ns, e1, e2, hl, z⟩ => by
    subst e2
    obtain ⟨p', us, rfl, hq, hr⟩ := e1.v rp
    rw [RpL.ints_inv hr] at hq
    exact ⟨p', ns, rfl, sqT_ex s.ex hq, hl, fun k h1 h2 => q _ _ w' c' H0' H' s p (.int _) (z k h1 h2)⟩⟩
/-- f's{e}' -/
theorem pv_fstr {s1 : Str} {j : Nat} {p1 p2 : Pos} (h : PV X e w ls fun d w1 => ∃ i : Int, d = .int i ∧ i.natAbs.log2 < 1920 ∧ (s1 ++ toString i : Str).length ≤ 1000 ∧ R (.str (s1 ++ toString i)) w1) (hs : s1.length ≤ 1000) :
    PV X (.JoinedStr [.Constant (.str s1) j p1, .FormattedValue e (-1) none p2] pos) w ls R :=
  PE.mono (pe_joined (.cons pe_str (.cons (pe_fmt h) .nil))) fun σ H Q ⟨c, H0, r, q⟩ => by
    have e0 : (Str.empty ++ s1 : Str) = s1 := by
      show (⟨#[] ++ s1.cps⟩ : Str) = s1
      rw [Array.empty_append]
    refine ⟨s1, rfl, by rw [e0]; exact Nat.le_trans hs (by decide), ?_⟩
    rw [e0]
    refine ⟨c, H0, r, fun v d w' c' H0' H' s p rp ⟨i, e1, hl, hz, z⟩ => ?_⟩
    subst e1
    rw [rp.int_inv]
    exact .inr ⟨i, rfl, hl, _, rfl, Nat.le_trans hz (by decide), q _ _ w' c' H0' H' s p (.str _) z⟩
/-- xs[lo:hi], xs a list that is only read -/
theorem pn_sliceQ {lo hi : Option Expr} {p2 : Pos} {R : List D → Wd → Prop} (h : PV X a w ls fun d w1 => ∃ ds, d = .lsq ds ∧ POv X lo w1 ls fun l w2 => POv X hi w2 ls fun u w3 => R (cutD ds l u) w3) : PN X (.Subscript a (.Slice lo hi none p2) pos) w ls R := by
  refine PE.mono (pe_slice sl_list h (po_any (e := lo)) (po_any (e := hi))) fun σ H Q ⟨c, H0, r0, q⟩ => ?_
  refine ⟨c, H0, r0, fun v d w1 c1 H01 H1 s1 p1 rp ⟨ds, e1, hb⟩ => ⟨_, hb, c1, H01, r0.step s1 p1, fun l w2 c2 H02 H2 s2 p2 hc => ⟨_, hc, c2, H02, (r0.step s1 p1).step s2 p2, fun u w3 c3 H03 H3 s3 p3 z => ?_⟩⟩⟩
  subst e1
  cases rp with
  | lsq g1 g2 =>
    have s := (s1.trans s2).trans s3
    have g3 : SqL X.K H3 _ _ := g1.imp (fun z => ex_rd s3.ex (ex_rd s3.e0 (ex_rd s2.e0 z))) fun z => z
    refine ⟨_, _, rfl, g3, fun n hn => ?_⟩
    exact q n _ (cutD ds l u) w3 c3 H03 _ (s.trans (Stp.newO s3.ex hn)) (Wd.newO p3 hn) (stp_new0 s hn) (none_of_ex s3.ex hn) (fun hc => (w3.live p3 hc).1.1 hn) upd_same (rpl_cut l u ((g2.ex s2.e0).ex s3.e0)) z
end
end Pd
set_option Elab.async false
set_option linter.all false
set_option maxRecDepth 100000
set_option maxHeartbeats 4000000
namespace Pd
open PySem PySem.Spec PyProof.Rows L2
open Evl (Ex)
section
variable {X : Cx} {e a b o i tg iter elt kx vx : Expr} {es ifs : List Expr} {w : Wd} {ls : List L} {R : D → Wd → Prop} {pos p : Pos} {x y : Str} {st : Stmt} {N : List L → Wd → Prop}
/-- a product with a factor below 2 ^ 64 -/
theorem pv_mul2 (h : PV X a w ls fun x w1 => PV X b w1 ls fun y w2 => ∃ i j, x = .int i ∧ y = .int j ∧ CMul i j ∧ R (.int (i * j)) w2) : PV X (.BinOp a .Mult b pos) w ls R :=
  pv_op op_mul (h.imp fun _ _ h1 => h1.imp fun _ _ ⟨i, j, e1, e2, hc, h2⟩ => by subst e1 e2; exact opd_rI hc h2)
/-- -e -/
theorem pv_neg (h : PV X a w ls fun x w1 => ∃ i, x = .int i ∧ R (.int (-i)) w1) : PV X (.UnaryOp .USub a pos) w ls R :=
  PE.mono (pe_un un_neg h) fun σ H Q ⟨c, H0, r, q⟩ => ⟨c, H0, r, fun v d w1 c1 H01 H1 s p rp ⟨i, e1, z⟩ => by
    subst e1
    rw [rp.int_inv]
    exact ⟨i, rfl, q _ _ w1 c1 H01 H1 s p (.int _) z⟩⟩
/-- one turn of a comprehension that changes nothing: g of the item -/
abbrev LcF (X : Cx) (tg elt : Expr) (ifs : List Expr) (scope : Scope) (own : List (Str × Nat)) (ls : List L) (g : D → Option D) (ds : List D) (w1 : Wd) : Prop := ∀ d ∈ ds, AllB X scope fun B => PGv B tg (fun n => n ∈ own.map (·.2)) w1 (wipeL ls (own.map (·.2))) d fun ls2 =>
      AllB X scope fun B => PTv B ifs w1 ls2 fun k2 w2 => w2 = w1 ∧ (k2 = true → AllB X scope fun B => PV B elt w1 ls2 fun y w3 => w3 = w1 ∧ g d = some y) ∧ (k2 = false → g d = none)
theorem lcW_of {own : List (Str × Nat)} {scope : Scope} {g : D → Option D} {R : List D → Wd → Prop} {ds : List D} {w1 : Wd} (h : LcF X tg elt ifs scope own ls g ds w1) (hl : ds.length ≤ 100000) (hR : R (ds.filterMap g) w1) :
    LcW X tg elt ifs scope own ls (fun k acc w' => w' = w1 ∧ acc = (ds.take k).filterMap g) R ds w1 := by
  refine ⟨⟨rfl, rfl⟩, fun k d acc w' hd ⟨e1, e2⟩ => ?_, fun acc w' ⟨e1, e2⟩ => by subst e1 e2; rw [List.take_length]; exact hR⟩
  subst e1 e2
  have hk : k < ds.length := (List.getElem?_eq_some_iff.mp hd).1
  have et : (ds.take (k + 1)).filterMap g = (ds.take k).filterMap g ++ (match g d with | some y => [y] | none => []) := by
    rw [List.take_succ, hd, List.filterMap_append]
    cases hg : g d <;> simp [hg]
  have hlen : ((ds.take k).filterMap g).length < 100000 := by
    have h1 := List.length_filterMap_le g (ds.take k)
    rw [List.length_take] at h1
    omega
  intro s H C cl fp
  refine PG.mono (h d (List.mem_of_getElem? hd) s H C cl fp) fun v σ H Q ⟨c, H0, r, rp, q⟩ => ⟨c, H0, r, rp, fun ls' σ' r' o' j' z => q ls' σ' r' o' j' ?_⟩
  intro s2 H2 C2 cl2 fp2
  refine PTs.mono (z s2 H2 C2 cl2 fp2) fun σ H Q ⟨c, H0, r, q⟩ => ⟨c, H0, r, fun k2 w2 c' H0' H' s p ⟨e3, z1, z2⟩ => q k2 w2 c' H0' H' s p ?_⟩
  subst e3
  refine ⟨fun e3 s3 H3 C3 cl3 fp3 => (z1 e3 s3 H3 C3 cl3 fp3).imp fun y w3 ⟨e4, e5⟩ => ⟨hlen, e4, ?_⟩, fun e3 => ⟨rfl, ?_⟩⟩
  · rw [et, e5]
  · rw [et, z2 e3]; simp
theorem pn_lcF (own : List (Str × Nat)) {scope : Scope} (g : D → Option D) {R : List D → Wd → Prop} (hc : X.calm = true) (hN : X.N.Nodup) (ok : BlkOk X.N X.env.scope scope own)
    (h : PIv X tg iter w ls fun ds w1 => ds.length ≤ 100000 ∧ LcF X tg elt ifs scope own ls g ds w1 ∧ R (ds.filterMap g) w1) (hs : ∀ x, foldedSetIterable iter X.env x = pure x := by intro _; rfl) : PN X (.ListComp elt [⟨tg, iter, ifs, 0⟩] scope pos) w ls R :=
  pn_lcE own hc hN ok (PI.mono h fun σ H R0 ⟨c, H0, r, q⟩ => ⟨c, H0, r, fun J ds w' c' H0' H' s p yl ⟨hl, h1, h2⟩ => q J ds w' c' H0' H' s p yl ⟨_, lcW_of h1 hl h2⟩⟩) hs
theorem s_setLcF (j : Nat) (own : List (Str × Nat)) {scope : Scope} {py spos : Pos} (g : D → Option D) (hc : X.calm = true) (hN : X.N.Nodup) (ok : BlkOk X.N X.env.scope scope own)
    (h : PIv X tg iter w ls fun ds w1 => ds.length ≤ 100000 ∧ LcF X tg elt ifs scope own ls g ds w1 ∧ N (ls.set j (.own (ds.filterMap g))) w1) (hsw : swapsWith (.ListComp elt [⟨tg, iter, ifs, 0⟩] scope pos) (some (.Name y py)) spos.line X.env = pure true) (hy : X.N[j]? = some y := by rfl) (hyl : X.env.scope.names.lookup y = some .local := by rfl)
    (hs : ∀ x, foldedSetIterable iter X.env x = pure x := by intro _; rfl) : SV X (.Assign [.Name y py] (.ListComp elt [⟨tg, iter, ifs, 0⟩] scope pos) spos) w ls N R :=
  s_setLcE j own hc hN ok (PI.mono h fun σ H R0 ⟨c, H0, r, q⟩ => ⟨c, H0, r, fun J ds w' c' H0' H' s p yl ⟨hl, h1, h2⟩ => q J ds w' c' H0' H' s p yl ⟨_, lcW_of (R := fun ds w' => N (ls.set j (.own ds)) w') h1 hl h2⟩⟩) hsw hy hyl hs
/-! without a test -/
abbrev LcM (X : Cx) (tg elt : Expr) (scope : Scope) (own : List (Str × Nat)) (ls : List L) (f : D → D) (ds : List D) (w1 : Wd) : Prop := ∀ d ∈ ds, AllB X scope fun B => PGv B tg (fun n => n ∈ own.map (·.2)) w1 (wipeL ls (own.map (·.2))) d fun ls2 =>
      AllB X scope fun B => PV B elt w1 ls2 fun y w3 => w3 = w1 ∧ y = f d
theorem lcF_of {own : List (Str × Nat)} {scope : Scope} {f : D → D} {ds : List D} {w1 : Wd} (h : LcM X tg elt scope own ls f ds w1) : LcF X tg elt [] scope own ls (fun d => some (f d)) ds w1 := by
  intro d hd s H C cl fp
  refine PG.mono (h d hd s H C cl fp) fun v σ H Q ⟨c, H0, r, rp, q⟩ => ⟨c, H0, r, rp, fun ls' σ' r' o' j' z => q ls' σ' r' o' j' ?_⟩
  intro s2 H2 C2 cl2 fp2
  exact t_nil ⟨rfl, fun _ s3 H3 C3 cl3 fp3 => (z s3 H3 C3 cl3 fp3).imp fun y w3 ⟨e4, e5⟩ => ⟨e4, by rw [e5]⟩, fun e => nomatch e⟩
theorem pn_lcM (own : List (Str × Nat)) {scope : Scope} (f : D → D) {R : List D → Wd → Prop} (hc : X.calm = true) (hN : X.N.Nodup) (ok : BlkOk X.N X.env.scope scope own)
    (h : PIv X tg iter w ls fun ds w1 => ds.length ≤ 100000 ∧ LcM X tg elt scope own ls f ds w1 ∧ R (ds.map f) w1) (hs : ∀ x, foldedSetIterable iter X.env x = pure x := by intro _; rfl) : PN X (.ListComp elt [⟨tg, iter, [], 0⟩] scope pos) w ls R :=
  pn_lcF own (fun d => some (f d)) hc hN ok (PI.mono h fun σ H R0 ⟨c, H0, r, q⟩ => ⟨c, H0, r, fun J ds w' c' H0' H' s p yl ⟨hl, h1, h2⟩ => q J ds w' c' H0' H' s p yl ⟨hl, lcF_of h1, by rw [show (fun d => some (f d)) = some ∘ f from rfl, List.filterMap_eq_map]; exact h2⟩⟩) hs
theorem s_setLcM (j : Nat) (own : List (Str × Nat)) {scope : Scope} {py spos : Pos} (f : D → D) (hc : X.calm = true) (hN : X.N.Nodup) (ok : BlkOk X.N X.env.scope scope own)
    (h : PIv X tg iter w ls fun ds w1 => ds.length ≤ 100000 ∧ LcM X tg elt scope own ls f ds w1 ∧ N (ls.set j (.own (ds.map f))) w1) (hsw : swapsWith (.ListComp elt [⟨tg, iter, [], 0⟩] scope pos) (some (.Name y py)) spos.line X.env = pure true) (hy : X.N[j]? = some y := by rfl) (hyl : X.env.scope.names.lookup y = some .local := by rfl)
    (hs : ∀ x, foldedSetIterable iter X.env x = pure x := by intro _; rfl) : SV X (.Assign [.Name y py] (.ListComp elt [⟨tg, iter, [], 0⟩] scope pos) spos) w ls N R :=
  s_setLcF j own (fun d => some (f d)) hc hN ok (PI.mono h fun σ H R0 ⟨c, H0, r, q⟩ => ⟨c, H0, r, fun J ds w' c' H0' H' s p yl ⟨hl, h1, h2⟩ => q J ds w' c' H0' H' s p yl ⟨hl, lcF_of h1, by rw [show (fun d => some (f d)) = some ∘ f from rfl, List.filterMap_eq_map]; exact h2⟩⟩) hsw hy hyl hs
/-! {k: v for x in xs} -/
abbrev DcF (X : Cx) (tg kx vx : Expr) (scope : Scope) (own : List (Str × Nat)) (ls : List L) (f : D → Key) (g : D → D) (ds : List D) (w1 : Wd) : Prop := ∀ d ∈ ds, AllB X scope fun B => PGv B tg (fun n => n ∈ own.map (·.2)) w1 (wipeL ls (own.map (·.2))) d fun ls2 =>
      AllB X scope fun B => PV B kx w1 ls2 fun y w3 => w3 = w1 ∧ y = kD (f d) ∧ AllB X scope fun B => PV B vx w1 ls2 fun z w4 => w4 = w1 ∧ z = g d
def mkD (acc : List (Key × D)) (f : D → Key) (g : D → D) (ds : List D) : List (Key × D) := ds.foldl (fun acc d => putD acc (f d) (g d)) acc
theorem putD_len {κ : Type} [DecidableEq κ] (ks : List (κ × D)) (k : κ) (v : D) : (putD ks k v).length ≤ ks.length + 1 := by
  unfold putD
  split <;> simp
theorem mkD_len (f : D → Key) (g : D → D) : ∀ (ds : List D) (acc : List (Key × D)), (mkD acc f g ds).length ≤ acc.length + ds.length
  | [], acc => by simp [mkD]
  | d :: ds, acc => by
    have h := mkD_len f g ds (putD acc (f d) (g d))
    have h2 := putD_len acc (f d) (g d)
    show (mkD (putD acc (f d) (g d)) f g ds).length ≤ _
    simp only [List.length_cons]
    omega
theorem pk_dcF (own : List (Str × Nat)) {scope : Scope} (f : D → Key) (g : D → D) {R : List (Key × D) → Wd → Prop} (hc : X.calm = true) (hN : X.N.Nodup) (ok : BlkOk X.N X.env.scope scope own)
    (h : PIv X tg iter w ls fun ds w1 => ds.length ≤ 100000 ∧ DcF X tg kx vx scope own ls f g ds w1 ∧ R (mkD [] f g ds) w1) (hs : ∀ x, foldedSetIterable iter X.env x = pure x := by intro _; rfl) : PK X (.DictComp kx vx [⟨tg, iter, [], 0⟩] scope pos) w ls R :=
  pk_dcE own hc hN ok (PI.mono h fun σ H R0 ⟨c, H0, r, q⟩ => ⟨c, H0, r, fun J ds w1 c' H0' H' s p yl ⟨hl, h1, h2⟩ => q J ds w1 c' H0' H' s p yl ⟨fun k acc w' => w' = w1 ∧ acc = mkD [] f g (ds.take k), by
    refine ⟨⟨rfl, rfl⟩, fun k d acc w' hd ⟨e1, e2⟩ => ?_, fun acc w' ⟨e1, e2⟩ => by subst e1 e2; rw [List.take_length]; exact h2⟩
    subst e1 e2
    have hk : k < ds.length := (List.getElem?_eq_some_iff.mp hd).1
    have hlen := mkD_len f g (ds.take k) []
    rw [List.length_take] at hlen
    simp only [List.length_nil] at hlen
    have et : mkD [] f g (ds.take (k + 1)) = putD (mkD [] f g (ds.take k)) (f d) (g d) := by
      unfold mkD
      rw [List.take_succ, hd, List.foldl_append]; rfl
    intro s H C cl fp
    refine PG.mono (h1 d (List.mem_of_getElem? hd) s H C cl fp) fun v σ H Q ⟨c, H0, r, rp, q⟩ => ⟨c, H0, r, rp, fun ls' σ' r' o' j' z => q ls' σ' r' o' j' ?_⟩
    intro s2 H2 C2 cl2 fp2
    refine t_nil ⟨fun _ s3 H3 C3 cl3 fp3 => (z s3 H3 C3 cl3 fp3).imp fun y w3 ⟨e4, e5, z2⟩ => ?_, fun e => nomatch e⟩
    subst e4
    exact fun s4 H4 C4 cl4 fp4 => (z2 s4 H4 C4 cl4 fp4).imp fun u w4 ⟨e6, e7⟩ => ⟨f d, e5, by omega, e6, by rw [et, e7]⟩⟩⟩) hs
end
end Pd
set_option Elab.async false
set_option linter.all false
set_option maxRecDepth 100000
set_option maxHeartbeats 4000000
namespace Fw
open PySem PySem.Spec PyProof.Rows L2 Pd
/-! ### lists -/
section
variable {α : Type} [DecidableEq α]
theorem nodup_le : ∀ {l m : List α}, l.Nodup → (∀ x ∈ l, x ∈ m) → l.length ≤ m.length
  | [], _, _, _ => Nat.zero_le _
  | x :: l, m, nd, h => by
    have nd' := List.nodup_cons.mp nd
    have hx := h x List.mem_cons_self
    have := nodup_le (l := l) (m := m.erase x) nd'.2 fun y hy => by
      have hne : y ≠ x := fun e => nd'.1 (e ▸ hy)
      exact (List.mem_erase_of_ne hne).mpr (h y (List.mem_cons_of_mem _ hy))
    rw [List.length_erase_of_mem hx] at this
    have hp : 0 < m.length := List.length_pos_of_mem hx
    simp only [List.length_cons]
    omega
theorem nodup_of_len : ∀ {m l : List α}, l.Nodup → (∀ x ∈ l, x ∈ m) → l.length = m.length → m.Nodup
  | [], _, _, _, _ => List.nodup_nil
  | y :: m, l, nd, h, e => by
    rw [List.nodup_cons]
    have hy : y ∉ m := fun hy => by
      have := nodup_le nd (m := m) fun x hx => by
        rcases List.mem_cons.mp (h x hx) with z | z
        · rw [z]; exact hy
        · exact z
      simp only [List.length_cons] at e
      omega
    refine ⟨hy, ?_⟩
    have hyl : y ∈ l := by
      by_cases hyl : y ∈ l
      · exact hyl
      · have := nodup_le nd (m := m) fun x hx => by
          rcases List.mem_cons.mp (h x hx) with z | z
          · exact absurd (z ▸ hx) hyl
          · exact z
        simp only [List.length_cons] at e
        omega
    refine nodup_of_len (l := l.erase y) (nd.erase y) (fun x hx => ?_) ?_
    · have hx' := List.mem_of_mem_erase hx
      rcases List.mem_cons.mp (h x hx') with z | z
      · exact absurd (z ▸ hx) (List.Nodup.not_mem_erase nd)
      · exact z
    · rw [List.length_erase_of_mem hyl]
      simp only [List.length_cons] at e
      omega
theorem mem_of_nodup_len {l m : List α} (nd : l.Nodup) (h : ∀ x ∈ l, x ∈ m) (e : l.length = m.length) : ∀ x ∈ m, x ∈ l := fun x hx => by
  by_cases hxl : x ∈ l
  · exact hxl
  · have := nodup_le (l := x :: l) (m := m) (List.nodup_cons.mpr ⟨hxl, nd⟩) fun y hy => by
      rcases List.mem_cons.mp hy with z | z
      · rw [z]; exact hx
      · exact h y z
    simp only [List.length_cons] at this
    omega
theorem len_eq_of_mem {l m : List α} (n1 : l.Nodup) (n2 : m.Nodup) (h : ∀ x, x ∈ l ↔ x ∈ m) : l.length = m.length :=
  Nat.le_antisymm (nodup_le n1 fun x hx => (h x).mp hx) (nodup_le n2 fun x hx => (h x).mpr hx)
/-- the first of a key -/
def look {β : Type} (l : List (α × β)) (k : α) : Option β := (l.find? fun kv => decide (kv.1 = k)).map (·.2)
theorem look_cons {β : Type} {p : α × β} {r : List (α × β)} {k : α} : look (p :: r) k = if p.1 = k then some p.2 else look r k := by
  unfold look
  rw [List.find?_cons]
  by_cases h : p.1 = k <;> simp [h]
theorem look_mem {β : Type} : ∀ {l : List (α × β)} {k : α} {v : β}, look l k = some v → (k, v) ∈ l
  | [], _, _, h => by simp [look] at h
  | p :: r, k, v, h => by
    rw [look_cons] at h
    by_cases e : p.1 = k
    · rw [if_pos e] at h; cases h; rw [← e]; exact List.mem_cons_self
    · rw [if_neg e] at h; exact List.mem_cons_of_mem _ (look_mem h)
theorem look_of {β : Type} : ∀ {l : List (α × β)} {k : α} {v : β}, (l.map (·.1)).Nodup → (k, v) ∈ l → look l k = some v
  | [], _, _, _, h => by cases h
  | p :: r, k, v, nd, h => by
    rw [List.map_cons, List.nodup_cons] at nd
    rw [look_cons]
    rcases List.mem_cons.mp h with e | h
    · rw [← e]; simp
    · have : ¬ p.1 = k := fun e => nd.1 (e ▸ List.mem_map.mpr ⟨_, h, rfl⟩)
      rw [if_neg this]; exact look_of nd.2 h
theorem look_none {β : Type} : ∀ {l : List (α × β)} {k : α}, look l k = none ↔ k ∉ l.map (·.1)
  | [], _ => by simp [look]
  | p :: r, k => by
    rw [look_cons, List.map_cons, List.mem_cons]
    by_cases e : p.1 = k
    · rw [if_pos e]; simp [e]
    · rw [if_neg e, look_none]
      constructor
      · rintro h (z | z)
        · exact e z.symm
        · exact h z
      · intro h z; exact h (.inr z)
theorem look_some {β : Type} {l : List (α × β)} {k : α} (h : k ∈ l.map (·.1)) : ∃ v, look l k = some v := by
  cases e : look l k with
  | none => exact absurd h (look_none.mp e)
  | some v => exact ⟨v, rfl⟩
end
theorem valD_map {α β κ : Type} [DecidableEq α] [DecidableEq κ] {f : α → κ} (hf : ∀ a b, f a = f b → a = b) {g : β → D} : ∀ {l : List (α × β)} {k : α}, valD (l.map fun r => (f r.1, g r.2)) (f k) = (look l k).map g
  | [], _ => rfl
  | p :: r, k => by
    rw [List.map_cons, look_cons]
    by_cases e : p.1 = k
    · rw [if_pos e, valD_pos (by show f p.1 = f k; rw [e])]; rfl
    · rw [if_neg e, valD_neg (fun z => e (hf _ _ z))]; exact valD_map hf

/-! ### stores -/
section
variable {κ : Type} [DecidableEq κ]
theorem any_key {ks : List (κ × D)} {k : κ} : (ks.any fun kv => decide (kv.1 = k)) = true ↔ k ∈ ks.map (·.1) := by
  rw [List.any_eq_true, List.mem_map]
  constructor
  · rintro ⟨x, hx, e⟩; exact ⟨x, hx, of_decide_eq_true e⟩
  · rintro ⟨x, hx, e⟩; exact ⟨x, hx, decide_eq_true e⟩
theorem putD_new {ks : List (κ × D)} {k : κ} {v : D} (h : k ∉ ks.map (·.1)) : putD ks k v = ks ++ [(k, v)] := by
  unfold putD
  rw [if_neg (fun z => h (any_key.mp z))]
theorem putD_old {ks : List (κ × D)} {k : κ} {v : D} (h : k ∈ ks.map (·.1)) : (putD ks k v).map (·.1) = ks.map (·.1) := by
  unfold putD
  rw [if_pos (any_key.mpr h), List.map_map]
  refine List.map_congr_left fun x _ => ?_
  show (if x.1 = k then (x.1, v) else x).1 = x.1
  split <;> rfl
theorem putD_keys {ks : List (κ × D)} {k k2 : κ} {v : D} : k2 ∈ (putD ks k v).map (·.1) ↔ k2 ∈ ks.map (·.1) ∨ k2 = k := by
  by_cases h : k ∈ ks.map (·.1)
  · rw [putD_old h]
    constructor
    · exact .inl
    · rintro (z | z)
      · exact z
      · rw [z]; exact h
  · rw [putD_new h, List.map_append, List.mem_append]
    simp
theorem putD_nodup {ks : List (κ × D)} {k : κ} {v : D} (h : (ks.map (·.1)).Nodup) : ((putD ks k v).map (·.1)).Nodup := by
  by_cases hk : k ∈ ks.map (·.1)
  · rw [putD_old hk]; exact h
  · rw [putD_new hk, List.map_append]
    refine List.nodup_append.mpr ⟨h, by simp, fun a ha b hb => ?_⟩
    simp at hb
    subst hb
    exact fun e => hk (e ▸ ha)
end
theorem mkD_keys (f : D → Key) (g : D → D) : ∀ (ds : List D) (acc : List (Key × D)) (k : Key), k ∈ (mkD acc f g ds).map (·.1) ↔ k ∈ acc.map (·.1) ∨ k ∈ ds.map f
  | [], acc, k => by simp [mkD]
  | d :: ds, acc, k => by
    show k ∈ (mkD (putD acc (f d) (g d)) f g ds).map (·.1) ↔ _
    rw [mkD_keys f g ds, putD_keys, List.map_cons, List.mem_cons, or_assoc]
theorem mkD_nodup (f : D → Key) (g : D → D) : ∀ (ds : List D) (acc : List (Key × D)), (acc.map (·.1)).Nodup → ((mkD acc f g ds).map (·.1)).Nodup
  | [], acc, h => h
  | d :: ds, acc, h => mkD_nodup f g ds _ (putD_nodup h)
theorem mkD_new (f : D → Key) (g : D → D) : ∀ (ds : List D) (acc : List (Key × D)), (acc.map (·.1) ++ ds.map f).Nodup → mkD acc f g ds = acc ++ ds.map fun d => (f d, g d)
  | [], acc, h => by simp [mkD]
  | d :: ds, acc, h => by
    have hk : f d ∉ acc.map (·.1) := fun z => (List.nodup_append.mp h).2.2 _ z _ (by simp) rfl
    show mkD (putD acc (f d) (g d)) f g ds = _
    rw [putD_new hk, mkD_new f g ds]
    · simp
    · rw [List.map_append]
      simpa using h
theorem mkD_diff (f : D → Key) (g : D → D) (ds : List D) : decide ((mkD [] f g ds).length = ds.length) = decide ((ds.map f).Nodup) := by
  rw [Bool.eq_iff_iff, decide_eq_true_eq, decide_eq_true_eq]
  constructor
  · intro h
    have := nodup_of_len (m := ds.map f) (l := (mkD [] f g ds).map (·.1)) (mkD_nodup f g ds [] List.nodup_nil) (fun x hx => by simpa using (mkD_keys f g ds [] x).mp hx) (by simpa using h)
    exact this
  · intro h
    have := mkD_new f g ds [] (by simpa using h)
    rw [this]; simp

/-! ### books -/
abbrev Pl := Str × Nat × Bool
abbrev Rk := Str × Str × Nat
abbrev Rv := Str × List Nat
structure Pt where
  ws : List Str
  pl : List Pl
  st : Str
  rl : List (Rk × Rv)
def pof (pl : List Pl) (p : Str) : Option Pl := pl.find? fun q => decide (q.1 = p)
def Pt.slots (b : Pt) (p : Str) : Nat := ((pof b.pl p).map (·.2.1)).getD 0
def Pt.yes (b : Pt) (p : Str) : Bool := ((pof b.pl p).map (·.2.2)).getD false
def Pt.rule (b : Pt) (p w : Str) (c : Nat) : Rv := (look b.rl (p, w, c)).getD (p, [])
def Pt.asked (b : Pt) : List Rk := b.pl.flatMap fun p => b.ws.flatMap fun w => (List.range (p.2.1 + 1)).map fun c => (p.1, w, c)
/-! data -/
def strsD (ws : List Str) : D := .tup (ws.map .str)
def placeD (p : Pl) : D := .tup [.str p.1, .int (p.2.1 : Nat), .bl p.2.2]
def plsD (pl : List Pl) : D := .tup (pl.map placeD)
def keyL (k : Rk) : List Key := [.inr k.1, .inr k.2.1, .inl (k.2.2 : Nat)]
def natsD (ns : List Nat) : List D := ns.map fun n => .int (n : Nat)
def rvD (v : Rv) : D := .tup [.str v.1, .tup (natsD v.2)]
def tabD (rl : List (Rk × Rv)) : List (List Key × D) := rl.map fun r => (keyL r.1, rvD r.2)
def partsD (b : Pt) : D := .lst [strsD b.ws, plsD b.pl, .str b.st, .dt (tabD b.rl)]
def knownD (pl : List Pl) : List (Key × D) := pl.map fun p => (.inr p.1, placeD p)
def bookD (C : Addr) (b : Pt) : D := .ins C [("words", strsD b.ws), ("places", plsD b.pl), ("known", .dk (knownD b.pl)), ("start", .str b.st), ("table", .dt (tabD b.rl))]
abbrev Rws := List (Str × Str)
def rdD (r : Str × Str) : D := .tup [.str r.1, .str r.2]
def rowD (row : Rws) : D := .lst (row.map rdD)
def pairsD (m : List (Nat × Nat)) : D := .ftup (m.map pairD)
abbrev Tr := Str × Str × List (Nat × Nat)
def trD (t : Tr) : D := .tup [.str t.1, .str t.2.1, pairsD t.2.2]
theorem keyL_inj {a b : Rk} (h : keyL a = keyL b) : a = b := by
  obtain ⟨a1, a2, a3⟩ := a
  obtain ⟨b1, b2, b3⟩ := b
  simp [keyL] at h
  obtain ⟨h1, h2, h3⟩ := h
  rw [h1, h2, Int.ofNat.inj h3]
theorem tab_val {rl : List (Rk × Rv)} {k : Rk} : valD (tabD rl) (keyL k) = (look rl k).map rvD := valD_map (fun a b h => keyL_inj h)
/-! names -/
def digits : Str := "0123456789"
def nameChars : Str := "abcdefghijklmnopqrstuvwxyz0123456789"
def nameB (s : Str) : Bool := decide (1 ≤ s.length ∧ s.length ≤ 12) && (match s.cps.toList with | [] => false | c :: _ => !decide (c ∈ digits.cps.toList)) && s.cps.toList.all fun c => decide (c ∈ nameChars.cps.toList)
/-! what is asked of a book -/
def leastOf (c : Nat) : Nat := if c = 0 then 0 else 1
structure RvOk (pl : List Pl) (c s : Nat) (v : Rv) : Prop where
  goal : ∃ g ∈ pl, g.1 = v.1 ∧ v.2.length = g.2.1
  nd : v.2.Nodup
  src : ∀ m ∈ v.2, leastOf c ≤ m ∧ m ≤ s
structure WF (b : Pt) : Prop where
  w1 : 1 ≤ b.ws.length
  w3 : b.ws.length ≤ 3
  wn : b.ws.Nodup
  wv : ∀ w ∈ b.ws, nameB w = true
  p7 : b.pl.length ≤ 60
  pn : (b.pl.map (·.1)).Nodup
  pv : ∀ p ∈ b.pl, nameB p.1 = true
  ps : ∀ p ∈ b.pl, p.2.1 ≤ 6
  st : ∃ p ∈ b.pl, p.1 = b.st ∧ p.2.1 = 0
  kn : (b.rl.map (·.1)).Nodup
  ka : ∀ k, k ∈ b.rl.map (·.1) ↔ k ∈ b.asked
  kv : ∀ r ∈ b.rl, ∀ p ∈ b.pl, p.1 = r.1.1 → RvOk b.pl r.1.2.2 p.2.1 r.2
end Fw
set_option Elab.async false
set_option linter.all false
set_option maxRecDepth 100000
set_option maxHeartbeats 4000000
namespace FH
open PySem PySem.Spec PyProof.Rows L2 Pd Fw
variable {P : Program} {wo : World} {K : PySem.W.Frag} {mg : Str → Option Value} {base : Heap}
theorem atI0 {α : Type} {c : α} {r : List α} : atI (c :: r) 0 = some c := by
  unfold atI ixN
  simp
theorem str_len (s : Str) : s.length = s.cps.toList.length := by
  show s.cps.size = _
  rw [Array.length_toList]
/-! is_name -/
def S_is_name (ds : List D) (R : D → Prop) : Prop := ∃ s : Str, ds = [.str s] ∧ s.length ≤ 1000 ∧ R (.bl (nameB s))
theorem ok_is_name (c : Ctx K mg) : Cal P wo K mg base 1 (He.ga K "is_name") ["text"] [] (spD K S_is_name) := by
  refine cal0 c.f_is_name sc_is_name (fun ds R ⟨_, e, _⟩ => by rw [e]; rfl) (fun _ _ _ _ _ _ us hl => match us, hl with | [_], _ => rfl) fun cdv A outer s H E hr ds R hS => ?_
  obtain ⟨z, rfl, hz, hR⟩ := hS
  refine ss_cons (s_if (PB.imp (R := fun k w' => w' = Wd.nil ∧ k = (!decide (1 ≤ z.length ∧ z.length ≤ 12) || (match z.cps.toList with | [] => false | c :: _ => decide (c ∈ digits.cps.toList)))) (pb_w (pbw_or (pb_not (PB.imp (R := fun k w' => w' = Wd.nil ∧ k = decide (1 ≤ z.length ∧ z.length ≤ 12)) (pb_lele (pv_int (pv_lenS c.z_len (pv_nm 0 rfl ⟨z, rfl, by omega, 1, _, rfl, rfl, fun h1 => pv_gint c.k_MOST_NAME_CHARS ⟨_, rfl, ?_⟩, fun h1 => ?_⟩)))) fun k w' ⟨e1, e2⟩ => ?_)))) fun k w' ⟨e1, e2⟩ => ?_))
  · have h2 : 1 ≤ z.length := by have := of_decide_eq_true h1; omega
    refine ⟨rfl, ?_⟩
    by_cases h3 : z.length ≤ 12
    · rw [decide_eq_true (⟨h2, h3⟩ : 1 ≤ z.length ∧ z.length ≤ 12)]; exact decide_eq_true (by omega)
    · rw [decide_eq_false (fun h : 1 ≤ z.length ∧ z.length ≤ 12 => h3 h.2)]; exact decide_eq_false (by omega)
  · have h2 : ¬ 1 ≤ z.length := fun h => by have := of_decide_eq_false h1; omega
    exact ⟨rfl, (decide_eq_false (fun h : 1 ≤ z.length ∧ z.length ≤ 12 => h2 h.1)).symm⟩
  · subst e1 e2
    by_cases hl : 1 ≤ z.length ∧ z.length ≤ 12
    · rw [decide_eq_true hl]
      show PBw _ _ _ _ _
      cases hc : z.cps.toList with
      | nil => rw [str_len, hc] at hl; exact absurd hl.1 (by decide)
      | cons c0 r =>
        exact pbw_or1 (pb_c (c_inTxt (pv_ixS (pv_nm 0 rfl (pv_int ⟨z, 0, c0, rfl, rfl, by omega, by rw [hc]; exact atI0, pv_str ⟨c0, digits, rfl, rfl, _, rfl, rfl, rfl⟩⟩)))))
    · rw [decide_eq_false hl]
      exact ⟨rfl, rfl⟩
  · subst e1
    refine ⟨fun h1 => ss_one (s_ret (pv_bl ?_)), fun h1 => ss_nil (ss_one (s_ret (pv_allQ rfl c.z_all (pq_pn (pn_lcM [("char", 1)] (fun d => match d with | .str s => .bl (decide (s.cps.getD 0 0 ∈ nameChars.cps.toList)) | _ => .non) rfl sc_is_name.nd (blkOk_by (show blkC N_is_name (defScope s_is_name) _ _ = true by decide +kernel)) (i_str (pv_nm 0 rfl ⟨z, rfl, ?_, fun d hd => ?_, ?_⟩)))))))⟩
    · have : nameB z = false := by
        unfold nameB
        rw [h1] at e2
        by_cases hl : 1 ≤ z.length ∧ z.length ≤ 12
        · rw [decide_eq_true hl] at e2 ⊢
          cases hc : z.cps.toList with
          | nil => rw [str_len, hc] at hl; exact absurd hl.1 (by decide)
          | cons c0 r => rw [hc] at e2; simp at e2; simp [e2]
        · rw [decide_eq_false hl]; simp
      rw [← this]; exact hR
    · rw [List.length_map, ← str_len]; omega
    · obtain ⟨c0, h0, rfl⟩ := List.mem_map.mp hd
      exact fun _ _ _ _ _ => g_nm 1 (fun _ _ _ _ _ => pv_c (c_inTxt (pv_nm 1 rfl (pv_gstr c.k_NAME_CHARS ⟨c0, nameChars, rfl, rfl, rfl, rfl⟩)))) sc_is_name.nd
    · refine ⟨z.cps.toList.map fun c0 => decide (c0 ∈ nameChars.cps.toList), by rw [List.map_map, List.map_map]; rfl, ?_⟩
      have : nameB z = (List.map (fun c0 => decide (c0 ∈ nameChars.cps.toList)) z.cps.toList).all fun x => x := by
        unfold nameB
        rw [h1] at e2
        rw [List.all_map]
        by_cases hl : 1 ≤ z.length ∧ z.length ≤ 12
        · rw [decide_eq_true hl] at e2 ⊢
          cases hc : z.cps.toList with
          | nil => rw [str_len, hc] at hl; exact absurd hl.1 (by decide)
          | cons c0 r =>
            rw [hc] at e2
            have : decide (c0 ∈ digits.cps.toList) = false := by simpa using e2.symm
            simp only [this]
            rfl
        · rw [decide_eq_false hl] at e2; simp at e2
      rw [← this]; exact hR
/-! are_different -/
def keysD (d : D) (ks : List Key) : Prop := ∃ ds, (IsT d ds ∨ d = .lst ds) ∧ ds = ks.map kD ∧ ds.length ≤ 100000
def kOf : D → Key
  | .int i => .inl i
  | .str s => .inr s
  | _ => .inl 0
theorem kOf_kD (k : Key) : kOf (kD k) = k := by cases k <;> rfl
theorem kOf_map : ∀ ks : List Key, (ks.map kD).map kOf = ks
  | [] => rfl
  | k :: r => by rw [List.map_cons, List.map_cons, kOf_kD, kOf_map r]
def S_are_different (ds : List D) (R : D → Prop) : Prop := ∃ d ks, ds = [d] ∧ keysD d ks ∧ R (.bl (decide ks.Nodup))
theorem ok_are_different (c : Ctx K mg) : Cal P wo K mg base 1 (He.ga K "are_different") ["parts"] [] (spD K S_are_different) := by
  refine cal0 c.f_are_different sc_are_different (fun ds R ⟨_, _, e, _⟩ => by rw [e]; rfl) (fun _ _ _ _ _ _ us hl => match us, hl with | [_], _ => rfl) fun cdv A outer s H E hr ds R hS => ?_
  obtain ⟨d, ks, rfl, ⟨ds, hd, hk, hl⟩, hR⟩ := hS
  have rest : ∀ w', w' = Wd.nil → R (.bl (decide (((mkD [] kOf (fun _ => .bl true) ds).length : Int) = (ds.length : Int)))) := fun w' _ => by
    have e1 : decide (((mkD [] kOf (fun _ => .bl true) ds).length : Int) = (ds.length : Int)) = decide ((mkD [] kOf (fun _ => .bl true) ds).length = ds.length) := by
      rw [Bool.eq_iff_iff, decide_eq_true_eq, decide_eq_true_eq]; omega
    rw [e1, mkD_diff, hk, kOf_map]
    exact hR
  have inner : ∀ (w1 : Wd) (ls : List L), ∀ d2 ∈ ds, ∃ k, d2 = kD k ∧ kOf d2 = k := fun w1 ls d2 hd2 => by
    rw [hk] at hd2
    obtain ⟨k, _, rfl⟩ := List.mem_map.mp hd2
    exact ⟨k, rfl, kOf_kD k⟩
  rcases hd with hd | hd
  · refine ss_one (s_ret (pv_c (c_eqI (pv_lenK c.z_len (pv_pk (pk_dcF [("part", 1)] kOf (fun _ => .bl true) rfl sc_are_different.nd (blkOk_by (show blkC N_are_different (defScope s_are_different) _ _ = true by decide +kernel)) (i_tup (pv_nm 0 rfl ⟨ds, hd, hl, fun d2 hd2 => ?_, _, rfl, ?_⟩))))))))
    · obtain ⟨k, e1, e2⟩ := inner Wd.nil [] d2 hd2
      exact fun _ _ _ _ _ => g_nm 1 (fun _ _ _ _ _ => pv_nm 1 rfl ⟨rfl, by rw [e2, e1], fun _ _ _ _ _ => pv_bl ⟨rfl, rfl⟩⟩) sc_are_different.nd
    · exact pv_lenT c.z_len (pv_nm 0 rfl ⟨ds, hd, _, _, rfl, rfl, rest _ rfl⟩)
  · refine ss_one (s_ret (pv_c (c_eqI (pv_lenK c.z_len (pv_pk (pk_dcF [("part", 1)] kOf (fun _ => .bl true) rfl sc_are_different.nd (blkOk_by (show blkC N_are_different (defScope s_are_different) _ _ = true by decide +kernel)) (i_list (pv_nm 0 rfl ⟨ds, hd, hl, fun d2 hd2 => ?_, _, rfl, ?_⟩))))))))
    · obtain ⟨k, e1, e2⟩ := inner Wd.nil [] d2 hd2
      exact fun _ _ _ _ _ => g_nm 1 (fun _ _ _ _ _ => pv_nm 1 rfl ⟨rfl, by rw [e2, e1], fun _ _ _ _ _ => pv_bl ⟨rfl, rfl⟩⟩) sc_are_different.nd
    · exact pv_lenQ c.z_len (pq_pv (pv_nm 0 rfl ⟨ds, hd, _, _, rfl, rfl, rest _ rfl⟩))
/-! require: what is asked stands -/
def S_require (ds : List D) (R : D → Prop) : Prop := ds = [.bl true] ∧ R .non
theorem ok_require (c : Ctx K mg) : Cal P wo K mg base 1 (He.ga K "require") ["holds"] [] (spD K S_require) := by
  refine cal0 c.f_require sc_require (fun ds R ⟨e, _⟩ => by rw [e]; rfl) (fun _ _ _ _ _ _ us hl => match us, hl with | [_], _ => rfl) fun cdv A outer s H E hr ds R hS => ?_
  obtain ⟨rfl, hR⟩ := hS
  exact ss_one (s_if (pb_not (pb_pv (pv_nm 0 rfl ⟨true, rfl, ⟨(fun h => nomatch h), fun _ => ss_nil hR⟩⟩))))
end FH
set_option Elab.async false
set_option linter.all false
set_option maxRecDepth 100000
set_option maxHeartbeats 4000000
namespace FH
open PySem PySem.Spec PyProof.Rows L2 Pd Fw
variable {P : Program} {wo : World} {K : PySem.W.Frag} {mg : Str → Option Value} {base : Heap}
theorem nameB_len {s : Str} (h : nameB s = true) : s.length ≤ 12 := by
  unfold nameB at h
  simp only [Bool.and_eq_true, decide_eq_true_eq] at h
  exact h.1.1.2
/-! require_names -/
theorem kstr_map (ss : List Str) : ss.map D.str = (ss.map fun s => (Sum.inr s : Key)).map kD := by rw [List.map_map]; rfl
theorem kint_map (ns : List Nat) : natsD ns = (ns.map fun n : Nat => (Sum.inl (n : Int) : Key)).map kD := by unfold natsD; rw [List.map_map]; rfl
theorem nd_inr {ss : List Str} (h : ss.Nodup) : (ss.map fun s => (Sum.inr s : Key)).Nodup := List.Pairwise.map _ (fun a b h z => h (Sum.inr.inj z)) h
theorem nd_inl {ns : List Nat} (h : ns.Nodup) : (ns.map fun s : Nat => (Sum.inl (s : Int) : Key)).Nodup := List.Pairwise.map _ (fun a b h z => h (Int.ofNat.inj (Sum.inl.inj z))) h
def S_require_names (ds : List D) (R : D → Prop) : Prop := ∃ (d : D) (ss : List Str) (m : Int), ds = [d, .int m] ∧ (IsT d (ss.map .str) ∨ d = .lst (ss.map .str)) ∧ 1 ≤ ss.length ∧ (ss.length : Int) ≤ m ∧ ss.length ≤ 1000 ∧ (∀ s ∈ ss, nameB s = true) ∧ ss.Nodup ∧ R .non
theorem ok_require_names (c : Ctx K mg) : Cal P wo K mg base 2 (He.ga K "require_names") ["names", "most"] [] (spD K S_require_names) := by
  refine cal0 c.f_require_names sc_require_names (fun ds R ⟨_, _, _, e, _⟩ => by rw [e]; rfl) (fun _ _ _ _ _ _ us hl => match us, hl with | [_, _], _ => rfl) fun cdv A outer s H E hr ds R hS => ?_
  obtain ⟨d, ss, m, rfl, hd, h1, hm, hl, hv, hnd, hR⟩ := hS
  have bls : (ss.map D.str).map (fun d => match d with | .str s => D.bl (nameB s) | _ => .non) = (ss.map nameB).map D.bl := by rw [List.map_map, List.map_map]; rfl
  have ball : ((ss.map nameB).all fun x => x) = true := by
    rw [List.all_map, List.all_eq_true]
    exact fun s hs => hv s hs
  refine ss_one (s_expr (pv_cal (ok_require c) (hr.mono (by decide)) c.g_require (pas_cons (pv_and (PV.imp (R := fun x w1 => w1 = Wd.nil ∧ x = .bl true) ?_ fun x w1 ⟨e1, e2⟩ => ⟨true, e2, ?_⟩)))))
  · rcases hd with hd | hd
    · exact pv_lele (pv_int (pv_lenT c.z_len (pv_nm 0 rfl ⟨_, hd, 1, _, rfl, rfl, fun h1 => pv_nm 1 rfl ⟨m, rfl, rfl, by rw [decide_eq_true (by simpa using hm)]⟩, fun h => absurd (of_decide_eq_false h) (by simp; omega)⟩)))
    · exact pv_lele (pv_int (pv_lenQ c.z_len (pq_pv (pv_nm 0 rfl ⟨_, hd, 1, _, rfl, rfl, fun h1 => pv_nm 1 rfl ⟨m, rfl, rfl, by rw [decide_eq_true (by simpa using hm)]⟩, fun h => absurd (of_decide_eq_false h) (by simp; omega)⟩))))
  · subst e1
    refine pv_and (PV.imp (R := fun x w1 => w1 = Wd.nil ∧ x = .bl true) ?_ fun x w1 ⟨e1, e2⟩ => ⟨true, e2, ?_⟩)
    · rcases hd with hd | hd
      · refine pv_allQ rfl c.z_all (pq_pn (pn_lcM [("name", 2)] (fun d => match d with | .str s => .bl (nameB s) | _ => .non) rfl sc_require_names.nd (blkOk_by (show blkC N_require_names (defScope s_require_names) _ _ = true by decide +kernel)) (i_tup (pv_nm 0 rfl ⟨_, hd, ?_, fun d2 hd2 => ?_, ?_⟩))))
        · rw [List.length_map]; omega
        · obtain ⟨z, hz, rfl⟩ := List.mem_map.mp hd2
          exact fun _ _ _ _ _ => g_nm 2 (fun _ _ _ _ _ => pv_cal (ok_is_name c) hr c.g_is_name (pas_cons (pv_nm 2 rfl (pas_nil ⟨z, rfl, by have := nameB_len (hv z hz); omega, rfl, rfl⟩)))) sc_require_names.nd
        · exact ⟨_, bls, rfl, by rw [ball]⟩
      · refine pv_allQ rfl c.z_all (pq_pn (pn_lcM [("name", 2)] (fun d => match d with | .str s => .bl (nameB s) | _ => .non) rfl sc_require_names.nd (blkOk_by (show blkC N_require_names (defScope s_require_names) _ _ = true by decide +kernel)) (i_list (pv_nm 0 rfl ⟨_, hd, ?_, fun d2 hd2 => ?_, ?_⟩))))
        · rw [List.length_map]; omega
        · obtain ⟨z, hz, rfl⟩ := List.mem_map.mp hd2
          exact fun _ _ _ _ _ => g_nm 2 (fun _ _ _ _ _ => pv_cal (ok_is_name c) hr c.g_is_name (pas_cons (pv_nm 2 rfl (pas_nil ⟨z, rfl, by have := nameB_len (hv z hz); omega, rfl, rfl⟩)))) sc_require_names.nd
        · exact ⟨_, bls, rfl, by rw [ball]⟩
    · subst e1
      refine pv_one (pv_cal (ok_are_different c) hr c.g_are_different (pas_cons (pv_nm 0 rfl (pas_nil ⟨d, _, rfl, ⟨_, hd, kstr_map ss, by rw [List.length_map]; omega⟩, ?_⟩))))
      rw [decide_eq_true (nd_inr hnd)]
      exact pas_nil ⟨rfl, hR⟩
/-! checked_place -/
def S_checked_place (ds : List D) (R : D → Prop) : Prop := ∃ p : Pl, ds = [placeD p] ∧ p.2.1 ≤ 6 ∧ R (placeD p)
theorem ok_checked_place (c : Ctx K mg) : Cal P wo K mg base 2 (He.ga K "checked_place") ["place"] [] (spD K S_checked_place) := by
  refine cal0 c.f_checked_place sc_checked_place (fun ds R ⟨_, e, _⟩ => by rw [e]; rfl) (fun _ _ _ _ _ _ us hl => match us, hl with | [_], _ => rfl) fun cdv A outer s H E hr ds R hS => ?_
  obtain ⟨p, rfl, hp, hR⟩ := hS
  refine ss_cons (s_expr (pv_cal (ok_require c) (hr.mono (by decide)) c.g_require (pas_cons (pv_c (c_eqI (pv_lenT c.z_len (pv_nm 0 rfl ⟨_, .tup _, pv_int ⟨_, 3, rfl, rfl, pas_nil ⟨rfl, ?_⟩⟩⟩)))))))
  refine ss_cons (s_asg (pv_nm 0 rfl (g_tup (.tup _) (gs_cons (g_nm 1 (gs_cons (g_nm 2 (gs_cons (g_nm 3 (gs_nil ?_) sc_checked_place.nd)) sc_checked_place.nd)) sc_checked_place.nd)) rfl)))
  refine ss_cons (s_expr (pv_cal (ok_require c) (hr.mono (by decide)) c.g_require (pas_cons (pv_and (pv_lele (pv_int (pv_nm 2 rfl ⟨0, _, rfl, rfl, fun _ => pv_gint c.k_MOST_SLOTS ⟨6, rfl, true, by rw [decide_eq_true (by omega)], ?_⟩, fun h => absurd (of_decide_eq_false h) (by omega)⟩)))))))
  refine pv_one (pv_c (c_inT (pv_nm 3 rfl (pv_tup (pas_cons (pv_bl (pas_cons (pv_bl (pas_nil ⟨Nat.le_of_ble_eq_true rfl, _, _, .tup _, .bl p.2.2 [false, true], ?_⟩)))))))))
  have e1 : decide (p.2.2 ∈ [false, true]) = true := by cases p.2.2 <;> rfl
  rw [e1]
  refine pas_nil ⟨rfl, ?_⟩
  exact ss_one (s_ret (pv_tup (pas_cons (pv_nm 1 rfl (pas_cons (pv_nm 2 rfl (pas_cons (pv_nm 3 rfl (pas_nil ⟨Nat.le_of_ble_eq_true rfl, hR⟩)))))))))
end FH
set_option Elab.async false
set_option linter.all false
set_option maxRecDepth 100000
set_option maxHeartbeats 4000000
namespace FH
open PySem PySem.Spec PyProof.Rows L2 Pd Fw
variable {P : Program} {wo : World} {K : PySem.W.Frag} {mg : Str → Option Value} {base : Heap}
/-! Book.asked -/
abbrev bC (K : PySem.W.Frag) : Addr := He.ga K "Book"
def rkD (k : Rk) : D := .tup [.str k.1, .str k.2.1, .int (k.2.2 : Nat)]
theorem rkD_key (k : Rk) : rkD k = .tup ((keyL k).map kD) := rfl
def askC (p : Pl) (w : Str) : List D := (List.range (p.2.1 + 1)).map fun c => rkD (p.1, w, c)
def askW (ws : List Str) (p : Pl) : List D := ws.flatMap fun w => askC p w
theorem asked_D (pl : List Pl) (ws : List Str) (st rl) : (Pt.asked ⟨ws, pl, st, rl⟩).map rkD = pl.flatMap fun p => askW ws p := by
  unfold Pt.asked askW askC
  simp only [List.map_flatMap, List.map_map]
  rfl
theorem flatMap_take {α β : Type} (f : α → List β) {l : List α} {k : Nat} {x : α} (h : l[k]? = some x) : (l.take (k + 1)).flatMap f = (l.take k).flatMap f ++ f x := by
  rw [List.take_succ, h, List.flatMap_append]
  simp
theorem flatMap_len {α β : Type} (f : α → List β) (c : Nat) : ∀ (l : List α), (∀ x ∈ l, (f x).length ≤ c) → (l.flatMap f).length ≤ l.length * c
  | [], _ => by simp
  | x :: l, h => by
    have h1 := h x List.mem_cons_self
    have h2 := flatMap_len f c l fun y hy => h y (List.mem_cons_of_mem _ hy)
    rw [List.flatMap_cons, List.length_append, List.length_cons, Nat.succ_mul]
    omega
theorem askW_len (ws : List Str) (p : Pl) (h3 : ws.length ≤ 3) (hp : p.2.1 ≤ 6) : (askW ws p).length ≤ 21 := by
  have := flatMap_len (fun w => askC p w) 7 ws fun w _ => by unfold askC; rw [List.length_map, List.length_range]; omega
  unfold askW
  omega
def S_Book_asked (C : Addr) (ds : List D) (R : D → Prop) : Prop := ∃ (fs : List (Str × D)) (pl : List Pl) (ws : List Str), ds = [.ins C fs] ∧ fs.lookup ("places" : Str) = some (plsD pl) ∧ fs.lookup ("words" : Str) = some (strsD ws) ∧ ws.length ≤ 3 ∧ pl.length ≤ 60 ∧ (∀ p ∈ pl, p.2.1 ≤ 6) ∧ R (.lst (pl.flatMap fun p => askW ws p))
theorem ok_Book_asked (c : Ctx K mg) : Cal P wo K mg base 1 (He.ma K (bC K) "asked") ["self"] [] (spD K (S_Book_asked (bC K))) := by
  refine cal0 c.f_Book_asked sc_Book_asked (fun ds R ⟨_, _, _, e, _⟩ => by rw [e]; rfl) (fun _ _ _ _ _ _ us hl => match us, hl with | [_], _ => rfl) fun cdv A outer s H E hr ds R hS => ?_
  obtain ⟨fs, pl, ws, rfl, hp, hw, h3, h60, h6, hR⟩ := hS
  refine ss_cons (s_setN 1 (pn_lst (pas_nil ⟨Nat.le_of_ble_eq_true rfl, ?_⟩)) sc_Book_asked.nd)
  refine ss_cons (s_for (fun k ls' w' => w' = Wd.nil ∧ ∃ a b e f, ls' = [.im (.ins (bC K) fs), .own ((pl.take k).flatMap fun p => askW ws p), a, b, e, f, .no]) PassesOwn.never rfl (i_tup (pv_fld (pv_nm 0 rfl ⟨_, _, _, rfl, c.c_Book, c.n_Book_places, hp, _, .tup _, ⟨rfl, .no, .no, .no, .no, rfl⟩, ?_, ?_⟩))))
  · rintro k d ls' w' hd ⟨rfl, a, b, e, f, rfl⟩
    rw [List.getElem?_map] at hd
    obtain ⟨p, hpk, rfl⟩ := Option.map_eq_some_iff.mp hd
    have hpm := List.mem_of_getElem? hpk
    have hk : k < pl.length := (List.getElem?_eq_some_iff.mp hpk).1
    refine g_tup (.tup _) (gs_cons (g_nm 2 (gs_cons (g_nm 3 (gs_cons (g_nm 4 (gs_nil ?_) sc_Book_asked.nd)) sc_Book_asked.nd)) sc_Book_asked.nd)) rfl
    refine ss_one (s_for (fun j ls' w' => w' = Wd.nil ∧ ∃ f, ls' = [.im (.ins (bC K) fs), .own ((pl.take k).flatMap (fun p => askW ws p) ++ (ws.take j).flatMap fun w => askC p w), .im (.str p.1), .im (.int (p.2.1 : Nat)), .im (.bl p.2.2), f, .no]) PassesOwn.never rfl (i_tup (pv_fld (pv_nm 0 rfl ⟨_, _, _, rfl, c.c_Book, c.n_Book_words, hw, _, .tup _, ⟨rfl, f, by simp⟩, ?_, ?_⟩))))
    · rintro j d ls' w' hd ⟨rfl, f, rfl⟩
      rw [List.getElem?_map] at hd
      obtain ⟨w, hwj, rfl⟩ := Option.map_eq_some_iff.mp hd
      refine g_nm 5 ?_ sc_Book_asked.nd
      refine ss_one (s_augL 1 rfl (pn_lcM [("case", 6)] (fun d => match d with | .int n => rkD (p.1, w, n.toNat) | _ => .non) rfl sc_Book_asked.nd (blkOk_by (show blkC N_Book_asked (defScope s_Book_asked) _ _ = true by decide +kernel))
        (i_range1 c.z_range (pv_add (pv_nm 3 rfl (pv_int ⟨_, 1, rfl, rfl, p.2.1 + 1, by simp, by have := h6 p hpm; omega, ?_, fun d2 hd2 => ?_, ?_, ?_⟩))))) sc_Book_asked.nd)
      · rw [rgD_len]; have := h6 p hpm; omega
      · obtain ⟨i, hi, rfl⟩ := List.mem_map.mp hd2
        refine fun _ _ _ _ _ => g_nm 6 (fun _ _ _ _ _ => pv_tup (pas_cons (pv_nm 2 rfl (pas_cons (pv_nm 5 rfl (pas_cons (pv_nm 6 rfl (pas_nil ⟨Nat.le_of_ble_eq_true rfl, rfl, ?_⟩)))))))) sc_Book_asked.nd
        simp [rkD]
      · rw [List.length_append, List.length_map, rgD_len]
        have e1 := flatMap_len (fun p => askW ws p) 21 (pl.take k) fun q hq => askW_len ws q h3 (h6 q (List.mem_of_mem_take hq))
        have e2 := flatMap_len (fun w => askC p w) 7 (ws.take j) fun w _ => by unfold askC; rw [List.length_map, List.length_range]; have := h6 p hpm; omega
        rw [List.length_take] at e1 e2
        have := h6 p hpm
        have e3 : min k pl.length * 21 ≤ 60 * 21 := Nat.mul_le_mul_right _ (by omega)
        have e4 : min j ws.length * 7 ≤ 3 * 7 := Nat.mul_le_mul_right _ (by omega)
        omega
      · refine ⟨rfl, .im (.str w), ?_⟩
        have e5 : (rgD 0 (p.2.1 + 1)).map (fun d => match d with | .int n => rkD (p.1, w, n.toNat) | _ => .non) = askC p w := by
          unfold rgD askC
          rw [List.map_map]
          refine List.map_congr_left fun n _ => ?_
          simp
        rw [e5, flatMap_take _ hwj, ← List.append_assoc]
        rfl
    · rintro ls' w' ⟨rfl, f, rfl⟩
      rw [List.length_map, List.take_length]
      exact ⟨rfl, _, _, _, _, by rw [flatMap_take _ hpk]; rfl⟩
  · rintro ls' w' ⟨rfl, a, b, e, f, rfl⟩
    refine ss_one (sv_fz 1 rfl (s_ret (pv_nm 1 rfl ?_)))
    rw [List.length_map, List.take_length]
    exact hR
end FH
set_option Elab.async false
set_option linter.all false
set_option maxRecDepth 100000
set_option maxHeartbeats 4000000
namespace FH
open PySem PySem.Spec PyProof.Rows L2 Pd Fw
variable {P : Program} {wo : World} {K : PySem.W.Frag} {mg : Str → Option Value} {base : Heap}
theorem pof_of {pl : List Pl} (nd : (pl.map (·.1)).Nodup) {p : Pl} (h : p ∈ pl) : pof pl p.1 = some p := by
  unfold pof
  induction pl with
  | nil => cases h
  | cons q r ih =>
    rw [List.find?_cons]
    rw [List.map_cons, List.nodup_cons] at nd
    by_cases e : q.1 = p.1
    · rw [decide_eq_true e]
      rcases List.mem_cons.mp h with z | z
      · rw [z]
      · exact absurd (List.mem_map.mpr ⟨p, z, rfl⟩) (e ▸ nd.1)
    · rw [decide_eq_false e]
      rcases List.mem_cons.mp h with z | z
      · exact absurd (z ▸ rfl) e
      · exact ih nd.2 z
theorem known_val {pl : List Pl} {p : Str} : valD (knownD pl) (.inr p) = (pof pl p).map placeD := by
  unfold knownD pof
  induction pl with
  | nil => rfl
  | cons q r ih =>
    rw [List.map_cons, List.find?_cons]
    by_cases e : q.1 = p
    · rw [decide_eq_true e, valD_pos (by show Sum.inr q.1 = Sum.inr p; rw [e])]; rfl
    · rw [decide_eq_false e, valD_neg (fun z => e (Sum.inr.inj z))]; exact ih
def rule5D (k : Rk) (v : Rv) : D := .tup [.str k.1, .str k.2.1, .int (k.2.2 : Nat), .str v.1, .tup (natsD v.2)]
/-! Book.checked_rule -/
def S_Book_checked_rule (C : Addr) (ds : List D) (R : D → Prop) : Prop := ∃ (fs : List (Str × D)) (pl : List Pl) (ws : List Str) (k : Rk) (v : Rv) (p : Pl), ds = [.ins C fs, rule5D k v] ∧ fs.lookup ("known" : Str) = some (.dk (knownD pl)) ∧ fs.lookup ("words" : Str) = some (strsD ws) ∧
  (pl.map (·.1)).Nodup ∧ p ∈ pl ∧ p.1 = k.1 ∧ k.2.2 ≤ p.2.1 ∧ RvOk pl k.2.2 p.2.1 v ∧ k.2.1 ∈ ws ∧ v.2.length ≤ 100 ∧ R (.tup [rkD k, rvD v])
theorem ok_Book_checked_rule (c : Ctx K mg) : Cal P wo K mg base 2 (He.ma K (bC K) "checked_rule") ["self", "rule"] [] (spD K (S_Book_checked_rule (bC K))) := by
  refine cal0 c.f_Book_checked_rule sc_Book_checked_rule (fun ds R ⟨_, _, _, _, _, _, e, _⟩ => by rw [e]; rfl) (fun _ _ _ _ _ _ us hl => match us, hl with | [_, _], _ => rfl) fun cdv A outer s H E hr ds R hS => ?_
  obtain ⟨fs, pl, ws, k, v, p, rfl, hk, hw, nd, hp, ek, hc, ok, hkw, hl, hR⟩ := hS
  have hu := hu_of hr
  obtain ⟨g, hg, eg, hgl⟩ := ok.goal
  have vp : valD (knownD pl) (.inr k.1) = some (placeD p) := by rw [known_val, ← ek, pof_of nd hp]; rfl
  have vg : valD (knownD pl) (.inr v.1) = some (placeD g) := by rw [known_val, ← eg, pof_of nd hg]; rfl
  refine ss_cons (s_expr (pv_cal (ok_require c) (hr.mono (by decide)) c.g_require (pas_cons (pv_c (c_eqI (pv_lenT c.z_len (pv_nm 1 rfl ⟨_, .tup _, pv_int ⟨_, 5, rfl, rfl, pas_nil ⟨rfl, ?_⟩⟩⟩)))))))
  refine ss_cons (s_asg (pv_nm 1 rfl (g_tup (.tup _) (gs_cons (g_nm 2 (gs_cons (g_nm 3 (gs_cons (g_nm 4 (gs_cons (g_nm 5 (gs_cons (g_nm 6 (gs_nil ?_) sc_Book_checked_rule.nd)) sc_Book_checked_rule.nd)) sc_Book_checked_rule.nd)) sc_Book_checked_rule.nd)) sc_Book_checked_rule.nd)) rfl)))
  refine ss_cons (s_expr (pv_cal (ok_require c) (hr.mono (by decide)) c.g_require (pas_cons (pv_and (pv_c (dk_in hu (pv_nm 2 rfl (pv_fld (pv_nm 0 rfl ⟨_, _, _, rfl, c.c_Book, c.n_Book_known, hk, _, .inr k.1, rfl, rfl, true, by rw [vp]; rfl, pv_and (pv_c (c_inT (pv_nm 3 rfl (pv_fld (pv_nm 0 rfl ⟨_, _, _, rfl, c.c_Book, c.n_Book_words, hw, _, _, .tup _, .str k.2.1 ws, true, by rw [decide_eq_true hkw], pv_one (pv_c (dk_in hu (pv_nm 5 rfl (pv_fld (pv_nm 0 rfl ⟨_, _, _, rfl, c.c_Book, c.n_Book_known, hk, _, .inr v.1, rfl, rfl, pas_nil ⟨by rw [vg]; rfl, ?_⟩⟩)))))⟩)))))⟩)))))))))
  refine ss_cons (s_set 7 (pv_ixT (pv_dget hu (pv_fld (pv_nm 0 rfl ⟨_, _, _, rfl, c.c_Book, c.n_Book_known, hk, pv_nm 2 rfl ⟨_, .inr k.1, _, rfl, rfl, vp, pv_int ⟨_, 1, _, .tup _, rfl, rfl, ?_⟩⟩⟩)))) sc_Book_checked_rule.nd)
  refine ss_cons (s_expr (pv_cal (ok_require c) (hr.mono (by decide)) c.g_require (pas_cons (pv_and (pv_lele (pv_int (pv_nm 4 rfl ⟨0, _, rfl, rfl, fun _ => pv_nm 7 rfl ⟨_, rfl, true, by rw [decide_eq_true (by omega)], pv_and (pv_c (c_eqI (pv_lenT c.z_len (pv_nm 6 rfl ⟨_, .tup _, pv_ixT (pv_dget hu (pv_fld (pv_nm 0 rfl ⟨_, _, _, rfl, c.c_Book, c.n_Book_known, hk, pv_nm 5 rfl ⟨_, .inr v.1, _, rfl, rfl, vg, pv_int ⟨_, 1, _, .tup _, rfl, rfl, _, _, rfl, rfl, true, ?_, pv_one ?_⟩⟩⟩)))⟩))))⟩, fun h => absurd (of_decide_eq_false h) (by omega)⟩)))))))
  · unfold natsD; rw [List.length_map, hgl]; simp
  refine pv_cal (ok_are_different c) hr c.g_are_different (pas_cons (pv_nm 6 rfl (pas_nil ⟨_, _, rfl, ⟨_, .inl (.tup _), kint_map v.2, by unfold natsD; rw [List.length_map]; omega⟩, ?_⟩)))
  rw [decide_eq_true (nd_inl ok.nd)]
  refine pas_nil ⟨rfl, ?_⟩
  refine ss_cons (s_set 8 (PV.imp (R := fun d w' => w' = Wd.nil ∧ d = .int (leastOf k.2.2 : Nat)) (pv_ifx (pb_c (c_eqI (pv_nm 4 rfl (pv_int ⟨_, 0, rfl, rfl, _, rfl, fun h => ?_, fun h => ?_⟩))))) fun d w' ⟨e1, e2⟩ => ?_) sc_Book_checked_rule.nd)
  · have e0 : k.2.2 = 0 := by have := of_decide_eq_true h; omega
    exact pv_gint c.k_READ ⟨rfl, by rw [e0]; rfl⟩
  · have e0 : ¬ k.2.2 = 0 := by have := of_decide_eq_false h; omega
    exact pv_int ⟨rfl, by unfold leastOf; rw [if_neg e0]; rfl⟩
  subst e1 e2
  refine ss_cons (s_expr (pv_cal (ok_require c) (hr.mono (by decide)) c.g_require (pas_cons (pv_allQ rfl c.z_all (pq_pn (pn_lcM [("source", 9)] (fun _ => .bl true) rfl sc_Book_checked_rule.nd (blkOk_by (show blkC N_Book_checked_rule (defScope s_Book_checked_rule) _ _ = true by decide +kernel)) (i_tup (pv_nm 6 rfl ⟨_, .tup _, ?_, fun d2 hd2 => ?_, v.2.map fun _ => true, ?_, ?_⟩))))))))
  · unfold natsD; rw [List.length_map]; omega
  · obtain ⟨n, hn, rfl⟩ := List.mem_map.mp hd2
    have hs := ok.src n hn
    exact fun _ _ _ _ _ => g_nm 9 (fun _ _ _ _ _ => pv_lele (pv_nm 8 rfl (pv_nm 9 rfl ⟨_, _, rfl, rfl, fun _ => pv_nm 7 rfl ⟨_, rfl, rfl, by rw [decide_eq_true (by omega)]⟩, fun h => absurd (of_decide_eq_false h) (by omega)⟩))) sc_Book_checked_rule.nd
  · unfold natsD; rw [List.map_map, List.map_map]; rfl
  · have : ((v.2.map fun _ => true).all fun x => x) = true := by rw [List.all_map, List.all_eq_true]; exact fun _ _ => rfl
    rw [this]
    refine pas_nil ⟨rfl, ?_⟩
    exact ss_one <| s_ret <| pv_tup <| pas_cons <| pv_tup <| pas_cons <| pv_nm 2 rfl <| pas_cons <| pv_nm 3 rfl <| pas_cons <| pv_nm 4 rfl <| pas_nil ⟨Nat.le_of_ble_eq_true rfl, pas_cons <| pv_tup <| pas_cons <| pv_nm 5 rfl <| pas_cons <| pv_tupT c.z_tuple <| pv_nm 6 rfl ⟨_, .tup _, pas_nil ⟨Nat.le_of_ble_eq_true rfl, pas_nil ⟨Nat.le_of_ble_eq_true rfl, hR⟩⟩⟩⟩
/-! Book.place_names -/
def S_Book_place_names (C : Addr) (ds : List D) (R : D → Prop) : Prop := ∃ (fs : List (Str × D)) (pl : List Pl), ds = [.ins C fs] ∧ fs.lookup ("places" : Str) = some (plsD pl) ∧ pl.length ≤ 60 ∧ R (.tup (pl.map fun p => .str p.1))
theorem ok_Book_place_names (c : Ctx K mg) : Cal P wo K mg base 1 (gPN K) ["self"] [] (spD K (S_Book_place_names (bC K))) := by
  refine cal0 c.f_Book_place_names sc_Book_place_names (fun ds R ⟨_, _, e, _⟩ => by rw [e]; rfl) (fun _ _ _ _ _ _ us hl => match us, hl with | [_], _ => rfl) fun cdv A outer s H E hr ds R hS => ?_
  obtain ⟨fs, pl, rfl, hp, hl, hR⟩ := hS
  refine ss_one (s_ret (pv_tupQ c.z_tuple (pq_pn (pn_lcM [("place", 1)] (fun d => match d with | .tup (x :: _) => x | _ => .non) rfl sc_Book_place_names.nd (blkOk_by (show blkC N_Book_place_names (defScope s_Book_place_names) _ _ = true by decide +kernel)) (i_tup (pv_fld (pv_nm 0 rfl ⟨_, _, _, rfl, c.c_Book, c.n_Book_places, hp, _, .tup _, ?_, fun d2 hd2 => ?_, ?_⟩)))))))
  · rw [List.length_map]; omega
  · obtain ⟨p, hpm, rfl⟩ := List.mem_map.mp hd2
    exact fun _ _ _ _ _ => g_nm 1 (fun _ _ _ _ _ => pv_ixT (pv_nm 1 rfl (pv_int ⟨_, 0, _, .tup _, rfl, rfl, rfl, rfl⟩))) sc_Book_place_names.nd
  · rw [List.map_map]; exact hR
/-! Book.check_word, place, slots, says_yes -/
def S_Book_check_word (C : Addr) (ds : List D) (R : D → Prop) : Prop := ∃ (b : Pt) (w : Str), ds = [bookD C b, .str w] ∧ w ∈ b.ws ∧ R .non
theorem ok_Book_check_word (c : Ctx K mg) : Cal P wo K mg base 1 (He.ma K (bC K) "check_word") ["self", "word"] [] (spD K (S_Book_check_word (bC K))) := by
  refine cal0 c.f_Book_check_word sc_Book_check_word (fun ds R ⟨_, _, e, _⟩ => by rw [e]; rfl) (fun _ _ _ _ _ _ us hl => match us, hl with | [_, _], _ => rfl) fun cdv A outer s H E hr ds R hS => ?_
  obtain ⟨b, w, rfl, hw, hR⟩ := hS
  refine ss_one (s_if (pb_c (c_notInT (pv_nm 1 rfl (pv_fld (pv_nm 0 rfl ⟨_, _, _, rfl, c.c_Book, c.n_Book_words, rfl, _, _, .tup _, .str w b.ws, false, ?_, (fun h => nomatch h), fun _ => ss_nil hR⟩))))))
  rw [decide_eq_true hw]; rfl
def S_Book_place (C : Addr) (ds : List D) (R : D → Prop) : Prop := ∃ (b : Pt) (p : Pl), ds = [bookD C b, .str p.1] ∧ (b.pl.map (·.1)).Nodup ∧ p ∈ b.pl ∧ R (placeD p)
theorem ok_Book_place (c : Ctx K mg) : Cal P wo K mg base 1 (He.ma K (bC K) "place") ["self", "name"] [] (spD K (S_Book_place (bC K))) := by
  refine cal0 c.f_Book_place sc_Book_place (fun ds R ⟨_, _, e, _⟩ => by rw [e]; rfl) (fun _ _ _ _ _ _ us hl => match us, hl with | [_, _], _ => rfl) fun cdv A outer s H E hr ds R hS => ?_
  obtain ⟨b, p, rfl, nd, hp, hR⟩ := hS
  have hu := hu_of hr
  have vp : valD (knownD b.pl) (.inr p.1) = some (placeD p) := by rw [known_val, pof_of nd hp]; rfl
  refine ss_cons (s_if (pb_c (dk_notin hu (pv_nm 1 rfl (pv_fld (pv_nm 0 rfl ⟨_, _, _, rfl, c.c_Book, c.n_Book_known, rfl, _, .inr p.1, rfl, rfl, false, by rw [vp]; rfl, (fun h => nomatch h), fun _ => ss_nil ?_⟩))))))
  exact ss_one (s_ret (pv_dget hu (pv_fld (pv_nm 0 rfl ⟨_, _, _, rfl, c.c_Book, c.n_Book_known, rfl, pv_nm 1 rfl ⟨_, .inr p.1, _, rfl, rfl, vp, hR⟩⟩))))
def S_Book_slots (C : Addr) (ds : List D) (R : D → Prop) : Prop := ∃ (b : Pt) (p : Pl), ds = [bookD C b, .str p.1] ∧ (b.pl.map (·.1)).Nodup ∧ p ∈ b.pl ∧ R (.int (p.2.1 : Nat))
theorem ok_Book_slots (c : Ctx K mg) : Cal P wo K mg base 2 (He.ma K (bC K) "slots") ["self", "name"] [] (spD K (S_Book_slots (bC K))) := by
  refine cal0 c.f_Book_slots sc_Book_slots (fun ds R ⟨_, _, e, _⟩ => by rw [e]; rfl) (fun _ _ _ _ _ _ us hl => match us, hl with | [_, _], _ => rfl) fun cdv A outer s H E hr ds R hS => ?_
  obtain ⟨b, p, rfl, nd, hp, hR⟩ := hS
  exact ss_one (s_ret (pv_ixT (pv_calm (pl := _) (ok_Book_place c) hr c.c_Book c.t_Book_place (pv_nm 0 rfl ⟨_, rfl, rfl, pas_cons (pv_nm 1 rfl (pas_nil ⟨b, p, rfl, nd, hp, pv_int ⟨_, 1, _, .tup _, rfl, rfl, hR⟩⟩))⟩))))
def S_Book_says_yes (C : Addr) (ds : List D) (R : D → Prop) : Prop := ∃ (b : Pt) (p : Pl), ds = [bookD C b, .str p.1] ∧ (b.pl.map (·.1)).Nodup ∧ p ∈ b.pl ∧ R (.bl p.2.2)
theorem ok_Book_says_yes (c : Ctx K mg) : Cal P wo K mg base 2 (He.ma K (bC K) "says_yes") ["self", "name"] [] (spD K (S_Book_says_yes (bC K))) := by
  refine cal0 c.f_Book_says_yes sc_Book_says_yes (fun ds R ⟨_, _, e, _⟩ => by rw [e]; rfl) (fun _ _ _ _ _ _ us hl => match us, hl with | [_, _], _ => rfl) fun cdv A outer s H E hr ds R hS => ?_
  obtain ⟨b, p, rfl, nd, hp, hR⟩ := hS
  exact ss_one (s_ret (pv_ixT (pv_calm (pl := _) (ok_Book_place c) hr c.c_Book c.t_Book_place (pv_nm 0 rfl ⟨_, rfl, rfl, pas_cons (pv_nm 1 rfl (pas_nil ⟨b, p, rfl, nd, hp, pv_int ⟨_, 2, _, .tup _, rfl, rfl, hR⟩⟩))⟩))))
/-! Book.rule -/
def S_Book_rule (C : Addr) (ds : List D) (R : D → Prop) : Prop := ∃ (b : Pt) (p : Pl) (w : Str) (k : Nat) (v : Rv), ds = [bookD C b, .str p.1, .str w, .int k] ∧ (b.pl.map (·.1)).Nodup ∧ p ∈ b.pl ∧ w ∈ b.ws ∧ k ≤ p.2.1 ∧ look b.rl (p.1, w, k) = some v ∧ R (rvD v)
theorem ok_Book_rule (c : Ctx K mg) : Cal P wo K mg base 3 (He.ma K (bC K) "rule") ["self", "name", "word", "case"] [] (spD K (S_Book_rule (bC K))) := by
  refine cal0 c.f_Book_rule sc_Book_rule (fun ds R ⟨_, _, _, _, _, e, _⟩ => by rw [e]; rfl) (fun _ _ _ _ _ _ us hl => match us, hl with | [_, _, _, _], _ => rfl) fun cdv A outer s H E hr ds R hS => ?_
  obtain ⟨b, p, w, k, v, rfl, nd, hp, hw, hk, hv, hR⟩ := hS
  have hu := hu_of hr
  refine ss_cons (s_set 4 (pv_calm (pl := _) (ok_Book_slots c) hr c.c_Book c.t_Book_slots (pv_nm 0 rfl ⟨_, rfl, rfl, pas_cons (pv_nm 1 rfl (pas_nil ⟨b, p, rfl, nd, hp, ?_⟩))⟩)) sc_Book_rule.nd)
  refine ss_cons (s_expr (pv_calm (pl := _) (ok_Book_check_word c) (hr.mono (by decide)) c.c_Book c.t_Book_check_word (pv_nm 0 rfl ⟨_, rfl, rfl, pas_cons (pv_nm 2 rfl (pas_nil ⟨b, w, rfl, hw, ?_⟩))⟩)))
  refine ss_cons (s_if (pb_not (pb_lele (pv_int (pv_nm 3 rfl ⟨0, _, rfl, rfl, fun _ => pv_nm 4 rfl ⟨_, rfl, fun h => ?_, fun _ => ss_nil ?_⟩, fun h => absurd (of_decide_eq_false h) (by omega)⟩)))))
  · rw [decide_eq_true (by omega)] at h; exact nomatch h
  exact ss_one <| s_ret <| pv_dgetT hu <| pt_pv <| pv_fld <| pv_nm 0 rfl ⟨_, _, _, rfl, c.c_Book, c.n_Book_table, rfl, _, rfl, pv_tup <| pas_cons <| pv_nm 1 rfl <| pas_cons <| pv_nm 2 rfl <| pas_cons <| pv_nm 3 rfl <| pas_nil ⟨Nat.le_of_ble_eq_true rfl, keyL (p.1, w, k), _, rfl, by rw [tab_val, hv]; rfl, hR⟩⟩
end FH
set_option Elab.async false
set_option linter.all false
set_option maxRecDepth 100000
set_option maxHeartbeats 4000000
namespace Fw
open PySem PySem.Spec PyProof.Rows L2 Pd
/-! ### reading, on paper (names of any type) -/
section
variable {α : Type} [DecidableEq α]
def caseOf (h : List α) (n : α) : Nat := if n ∈ h then h.idxOf n + 1 else 0
def movedTo (h : List α) (ms : List Nat) (n : α) : List α := ms.map fun s => if s = 0 then n else h.getD (s - 1) n
def Pt.step (b : Pt) (s : Str × List α) (r : Str × α) : Str × List α := let v := b.rule s.1 r.1 (caseOf s.2 r.2); (v.1, movedTo s.2 v.2 r.2)
def Pt.run (b : Pt) (s : Str × List α) (row : List (Str × α)) : Str × List α := row.foldl b.step s
end
/-- a place and what is held there -/
structure Held {α : Type} (b : Pt) (s : Str × List α) : Prop where
  pl : ∃ p ∈ b.pl, p.1 = s.1 ∧ s.2.length = p.2.1
  nd : s.2.Nodup
section
variable {α : Type} [DecidableEq α] {b : Pt}
theorem asked_mem {k : Rk} : k ∈ b.asked ↔ ∃ p ∈ b.pl, p.1 = k.1 ∧ k.2.1 ∈ b.ws ∧ k.2.2 ≤ p.2.1 := by
  unfold Pt.asked
  simp only [List.mem_flatMap, List.mem_map, List.mem_range]
  constructor
  · rintro ⟨p, hp, w, hw, c, hc, rfl⟩
    exact ⟨p, hp, rfl, hw, Nat.le_of_lt_succ hc⟩
  · rintro ⟨p, hp, e, hw, hc⟩
    obtain ⟨k1, k2, k3⟩ := k
    exact ⟨p, hp, k2, hw, k3, Nat.lt_succ_of_le hc, by have e' : p.1 = k1 := e; rw [e']⟩
/-- the rule that is asked for is there -/
theorem WF.rule (W : WF b) {p : Pl} {w : Str} {c : Nat} (hp : p ∈ b.pl) (hw : w ∈ b.ws) (hc : c ≤ p.2.1) : look b.rl (p.1, w, c) = some (b.rule p.1 w c) ∧ RvOk b.pl c p.2.1 (b.rule p.1 w c) := by
  obtain ⟨v, hv⟩ := look_some ((W.ka (p.1, w, c)).mpr (asked_mem.mpr ⟨p, hp, rfl, hw, hc⟩))
  have e : b.rule p.1 w c = v := by unfold Pt.rule; rw [hv]; rfl
  rw [e]
  exact ⟨hv, W.kv _ (look_mem hv) p hp rfl⟩
theorem caseOf_le {h : List α} {n : α} : caseOf h n ≤ h.length := by
  unfold caseOf
  split
  · have := List.idxOf_lt_length_of_mem (by assumption : n ∈ h)
    omega
  · omega
theorem caseOf_zero {h : List α} {n : α} : caseOf h n = 0 ↔ n ∉ h := by
  unfold caseOf
  split <;> simp_all
theorem caseOf_at {h : List α} {n : α} (hn : n ∈ h) : 1 ≤ caseOf h n ∧ h[caseOf h n - 1]? = some n := by
  unfold caseOf
  rw [if_pos hn]
  exact ⟨by omega, by rw [Nat.add_sub_cancel]; exact (idx_spec hn).1⟩
theorem nodup_at {h : List α} (nd : h.Nodup) {i j : Nat} {x : α} (h1 : h[i]? = some x) (h2 : h[j]? = some x) : i = j := by
  obtain ⟨a1, e1⟩ := List.getElem?_eq_some_iff.mp h1
  obtain ⟨a2, e2⟩ := List.getElem?_eq_some_iff.mp h2
  rcases Nat.lt_trichotomy i j with z | z | z
  · exact absurd (e1.trans e2.symm) (List.pairwise_iff_getElem.mp nd i j a1 a2 z)
  · exact z
  · exact absurd (e2.trans e1.symm) (List.pairwise_iff_getElem.mp nd j i a2 a1 z)
theorem caseOf_of {h : List α} {n : α} (nd : h.Nodup) {i : Nat} (e : h[i]? = some n) : caseOf h n = i + 1 := by
  have hm := List.mem_of_getElem? e
  obtain ⟨h1, h2⟩ := caseOf_at hm
  have := nodup_at nd h2 e
  omega
/-- what a source gives -/
def srcOf (h : List α) (n : α) (s : Nat) : α := if s = 0 then n else h.getD (s - 1) n
theorem srcOf_inj {h : List α} {n : α} (nd : h.Nodup) {s t : Nat} (hs : leastOf (caseOf h n) ≤ s ∧ s ≤ h.length) (ht : leastOf (caseOf h n) ≤ t ∧ t ≤ h.length) (e : srcOf h n s = srcOf h n t) : s = t := by
  have at_ : ∀ {u : Nat}, u ≠ 0 → u ≤ h.length → h[u - 1]? = some (srcOf h n u) := fun {u} h0 hl => by
    unfold srcOf
    rw [if_neg h0]
    have : u - 1 < h.length := by omega
    rw [List.getD_eq_getElem?_getD, List.getElem?_eq_getElem this]; rfl
  by_cases hs0 : s = 0
  · by_cases ht0 : t = 0
    · rw [hs0, ht0]
    · have hc : n ∉ h := caseOf_zero.mp (by unfold leastOf at hs; split at hs <;> omega)
      have := at_ ht0 ht.2
      rw [← e] at this
      unfold srcOf at this
      rw [if_pos hs0] at this
      exact absurd (List.mem_of_getElem? this) hc
  · by_cases ht0 : t = 0
    · have hc : n ∉ h := caseOf_zero.mp (by unfold leastOf at ht; split at ht <;> omega)
      have := at_ hs0 hs.2
      rw [e] at this
      unfold srcOf at this
      rw [if_pos ht0] at this
      exact absurd (List.mem_of_getElem? this) hc
    · have h1 := at_ hs0 hs.2
      have h2 := at_ ht0 ht.2
      rw [e] at h1
      have := nodup_at nd h1 h2
      omega
theorem Held.step (W : WF b) {s : Str × List α} {r : Str × α} (h : Held b s) (hw : r.1 ∈ b.ws) : Held b (b.step s r) := by
  obtain ⟨p, hp, ep, hl⟩ := h.pl
  have hc : caseOf s.2 r.2 ≤ p.2.1 := hl ▸ caseOf_le
  obtain ⟨_, ok⟩ := W.rule hp hw hc
  rw [ep] at ok
  obtain ⟨g, hg, eg, hgl⟩ := ok.goal
  refine ⟨⟨g, hg, eg, ?_⟩, ?_⟩
  · show (movedTo s.2 _ r.2).length = g.2.1
    unfold movedTo
    rw [List.length_map]; exact hgl
  · show (movedTo s.2 _ r.2).Nodup
    unfold movedTo
    refine List.pairwise_map.mpr (List.Pairwise.imp_of_mem (fun {a b'} ha hb hne e => hne ?_) ok.nd)
    refine srcOf_inj h.nd ⟨(ok.src a ha).1, by rw [hl]; exact (ok.src a ha).2⟩ ⟨(ok.src b' hb).1, by rw [hl]; exact (ok.src b' hb).2⟩ e
theorem Held.run (W : WF b) : ∀ {row : List (Str × α)} {s : Str × List α}, Held b s → (∀ r ∈ row, r.1 ∈ b.ws) → Held b (b.run s row)
  | [], _, h, _ => h
  | r :: row, s, h, hw => Held.run W (row := row) (s := b.step s r) (h.step W (hw r List.mem_cons_self)) fun q hq => hw q (List.mem_cons_of_mem _ hq)
theorem held_start (W : WF b) : Held (α := α) b (b.st, []) := by
  obtain ⟨p, hp, e, h0⟩ := W.st
  exact ⟨⟨p, hp, e, by rw [h0]; rfl⟩, List.nodup_nil⟩
end
end Fw
namespace FH
open PySem PySem.Spec PyProof.Rows L2 Pd Fw
variable {P : Program} {wo : World} {K : PySem.W.Frag} {mg : Str → Option Value} {base : Heap}
/-! Book.rules -/
def S_Book_rules (C : Addr) (ds : List D) (R : D → Prop) : Prop := ∃ b : Pt, ds = [bookD C b] ∧ WF b ∧ R (.tup (b.asked.map fun k => rule5D k (b.rule k.1 k.2.1 k.2.2)))
theorem asked_len {b : Pt} (W : WF b) : b.asked.length ≤ 1260 := by
  have e : b.asked.length = (b.pl.flatMap fun p => askW b.ws p).length := by
    rw [← asked_D b.pl b.ws b.st b.rl, List.length_map]
  rw [e]
  have := flatMap_len (fun p => askW b.ws p) 21 b.pl fun p hp => askW_len b.ws p W.w3 (W.ps p hp)
  have h7 := W.p7
  have : b.pl.length * 21 ≤ 60 * 21 := Nat.mul_le_mul_right _ h7
  omega
theorem natsD_len (ns : List Nat) : (natsD ns).length = ns.length := by unfold natsD; rw [List.length_map]
theorem nodup_bound {ns : List Nat} (nd : ns.Nodup) {m : Nat} (h : ∀ n ∈ ns, n ≤ m) : ns.length ≤ m + 1 := by
  have := nodup_le nd (m := List.range (m + 1)) fun x hx => List.mem_range.mpr (Nat.lt_succ_of_le (h x hx))
  rw [List.length_range] at this
  exact this
theorem ok_Book_rules (c : Ctx K mg) : Cal P wo K mg base 2 (gRU K) ["self"] [] (spD K (S_Book_rules (bC K))) := by
  refine cal0 c.f_Book_rules sc_Book_rules (fun ds R ⟨_, e, _⟩ => by rw [e]; rfl) (fun _ _ _ _ _ _ us hl => match us, hl with | [_], _ => rfl) fun cdv A outer s H E hr ds R hS => ?_
  obtain ⟨b, rfl, W, hR⟩ := hS
  have hu := hu_of hr
  refine ss_one <| s_ret <| pv_tupQ c.z_tuple <| pq_pn <| pn_lcM [("key", 1)] (fun d => match d with | .tup [.str p, .str w, .int n] => rule5D (p, w, n.toNat) (b.rule p w n.toNat) | _ => .non) rfl sc_Book_rules.nd (blkOk_by (show blkC N_Book_rules (defScope s_Book_rules) _ _ = true by decide +kernel)) <| i_list <| pv_calm0 (pl := _) (ok_Book_asked c) hr c.c_Book c.t_Book_asked <| pv_nm 0 rfl ⟨_, rfl, rfl, _, b.pl, b.ws, rfl, rfl, rfl, W.w3, W.p7, W.ps, _, rfl, ?_, fun d2 hd2 => ?_, ?_⟩
  · rw [← asked_D b.pl b.ws b.st b.rl, List.length_map]
    have := asked_len W
    show b.asked.length ≤ 100000
    omega
  · rw [← asked_D b.pl b.ws b.st b.rl] at hd2
    obtain ⟨k, hk, rfl⟩ := List.mem_map.mp hd2
    obtain ⟨p, hp, ep, hw, hc⟩ := asked_mem.mp hk
    obtain ⟨hv, ok⟩ := W.rule hp hw hc
    rw [ep] at hv ok
    have hn : (b.rule k.1 k.2.1 k.2.2).2.length ≤ 7 := by
      have := nodup_bound ok.nd (m := p.2.1) fun n hn => (ok.src n hn).2
      have := W.ps p hp
      omega
    refine fun _ _ _ _ _ => g_nm 1 (fun _ _ _ _ _ => pv_tup <| pas_star <| pv_nm 1 rfl ⟨_, .tup _, pas_star <| pv_dgetT hu <| pt_pv <| pv_fld <| pv_nm 0 rfl ⟨_, _, _, rfl, c.c_Book, c.n_Book_table, rfl, _, rfl, pv_nm 1 rfl ⟨keyL k, _, rfl, by rw [tab_val, hv]; rfl, _, .tup _, pas_nil ⟨Nat.le_of_ble_eq_true rfl, rfl, ?_⟩⟩⟩⟩) sc_Book_rules.nd
    simp [rkD, rule5D]
  · rw [← asked_D b.pl b.ws b.st b.rl, List.map_map]
    have : List.map ((fun d => match d with | .tup [.str p, .str w, .int n] => rule5D (p, w, n.toNat) (b.rule p w n.toNat) | _ => .non) ∘ rkD) b.asked = b.asked.map fun k => rule5D k (b.rule k.1 k.2.1 k.2.2) := by
      refine List.map_congr_left fun k _ => ?_
      simp [rkD]
    rw [this]
    exact hR
/-! check_names, check_row -/
def S_check_names (ds : List D) (R : D → Prop) : Prop := ∃ row : Rws, ds = [rowD row] ∧ row.length ≤ 1000 ∧ (∀ r ∈ row, nameB r.2 = true) ∧ R .non
theorem ok_check_names (c : Ctx K mg) : Cal P wo K mg base 2 (He.ga K "check_names") ["row"] [] (spD K S_check_names) := by
  refine cal0 c.f_check_names sc_check_names (fun ds R ⟨_, e, _⟩ => by rw [e]; rfl) (fun _ _ _ _ _ _ us hl => match us, hl with | [_], _ => rfl) fun cdv A outer s H E hr ds R hS => ?_
  obtain ⟨row, rfl, hl, hv, hR⟩ := hS
  refine ss_one <| s_if <| pb_not <| pb_pv <| pv_allQ rfl c.z_all <| pq_pn <| pn_lcM [("_", 1), ("name", 2)] (fun _ => .bl true) rfl sc_check_names.nd (blkOk_by (show blkC N_check_names (defScope s_check_names) _ _ = true by decide +kernel)) <| i_list <| pv_nm 0 rfl ⟨_, rfl, ?_, fun d2 hd2 => ?_, row.map fun _ => true, ?_, ?_⟩
  · rw [List.length_map]; omega
  · obtain ⟨r, hrm, rfl⟩ := List.mem_map.mp hd2
    exact fun _ _ _ _ _ => g_tup (.tup _) (gs_cons (g_nm 1 (gs_cons (g_nm 2 (gs_nil (fun _ _ _ _ _ => pv_cal (ok_is_name c) hr c.g_is_name (pas_cons (pv_nm 2 rfl (pas_nil ⟨r.2, rfl, by have := nameB_len (hv r hrm); omega, rfl, by rw [hv r hrm]⟩))))) sc_check_names.nd)) sc_check_names.nd)) rfl
  · rw [List.map_map, List.map_map]; rfl
  · have : ((row.map fun _ => true).all fun x => x) = true := by rw [List.all_map, List.all_eq_true]; exact fun _ _ => rfl
    rw [this]
    exact ⟨true, rfl, (fun h => nomatch h), fun _ => ss_nil hR⟩
def S_check_row (C : Addr) (ds : List D) (R : D → Prop) : Prop := ∃ (b : Pt) (row : Rws), ds = [bookD C b, rowD row] ∧ row.length ≤ 1000 ∧ (∀ r ∈ row, r.1 ∈ b.ws ∧ nameB r.2 = true) ∧ R .non
theorem ok_check_row (c : Ctx K mg) : Cal P wo K mg base 3 (He.ga K "check_row") ["book", "row"] [] (spD K (S_check_row (bC K))) := by
  refine cal0 c.f_check_row sc_check_row (fun ds R ⟨_, _, e, _⟩ => by rw [e]; rfl) (fun _ _ _ _ _ _ us hl => match us, hl with | [_, _], _ => rfl) fun cdv A outer s H E hr ds R hS => ?_
  obtain ⟨b, row, rfl, hl, hv, hR⟩ := hS
  refine ss_cons (s_for (fun k ls' w' => w' = Wd.nil ∧ ∃ x y, ls' = [.im (bookD (bC K) b), .im (rowD row), x, y]) PassesOwn.never rfl (i_list <| pv_nm 1 rfl ⟨_, rfl, ⟨rfl, _, _, rfl⟩, ?_, ?_⟩))
  · rintro k d ls' w' hd ⟨rfl, x, y, rfl⟩
    obtain ⟨r, hrm, rfl⟩ := List.mem_map.mp (List.mem_of_getElem? hd)
    refine g_tup (.tup _) (gs_cons (g_nm 2 (gs_cons (g_nm 3 (gs_nil ?_) sc_check_row.nd)) sc_check_row.nd)) rfl
    exact ss_one (s_expr (pv_calm (pl := _) (ok_Book_check_word c) (hr.mono (by decide)) c.c_Book c.t_Book_check_word (pv_nm 0 rfl ⟨_, rfl, rfl, pas_cons (pv_nm 2 rfl (pas_nil ⟨b, r.1, rfl, (hv r hrm).1, rfl, _, _, rfl⟩))⟩)))
  · rintro ls' w' ⟨rfl, x, y, rfl⟩
    exact ss_one (s_expr (pv_cal (ok_check_names c) hr c.g_check_names (pas_cons (pv_nm 1 rfl (pas_nil ⟨row, rfl, hl, fun r hrm => (hv r hrm).2, hR⟩)))))
end FH
set_option Elab.async false
set_option linter.all false
set_option maxRecDepth 100000
set_option maxHeartbeats 4000000
namespace FH
open PySem PySem.Spec PyProof.Rows L2 Pd Fw
variable {P : Program} {wo : World} {K : PySem.W.Frag} {mg : Str → Option Value} {base : Heap}
theorem atI_nat {α : Type} {xs : List α} {i : Nat} {x : α} (h : xs[i]? = some x) : atI xs (i : Nat) = some x := by
  unfold atI ixN
  have := (List.getElem?_eq_some_iff.mp h).1
  rw [if_pos (by omega), if_pos (by omega)]
  simpa using h
theorem atI_last {α : Type} {xs : List α} {x : α} : atI (xs ++ [x]) (-1) = some x := by
  unfold atI ixN
  rw [if_neg (by omega), if_pos (by simp; omega)]
  have : ((-1 : Int) + ((xs ++ [x]).length : Nat)).toNat = xs.length := by simp; omega
  rw [this]
  show (xs ++ [x])[xs.length]? = some x
  simp
def hD (h : List Str) : D := .ftup (h.map .str)
def stD (s : Str × List Str) : D := .tup [.str s.1, hD s.2]
/-! case_of -/
def S_case_of (ds : List D) (R : D → Prop) : Prop := ∃ (h : List Str) (n : Str), ds = [hD h, .str n] ∧ R (.int (caseOf h n : Nat))
theorem ok_case_of (c : Ctx K mg) : Cal P wo K mg base 1 (He.ga K "case_of") ["held", "name"] [] (spD K S_case_of) := by
  refine cal0 c.f_case_of sc_case_of (fun ds R ⟨_, _, e, _⟩ => by rw [e]; rfl) (fun _ _ _ _ _ _ us hl => match us, hl with | [_, _], _ => rfl) fun cdv A outer s H E hr ds R hS => ?_
  obtain ⟨h, n, rfl, hR⟩ := hS
  refine ss_one <| s_ret <| pv_ifx <| pb_c <| c_inT <| pv_nm 1 rfl <| pv_nm 0 rfl ⟨_, _, .ftup _, .str n h, _, rfl, fun e => ?_, fun e => ?_⟩
  · have hn : n ∈ h := of_decide_eq_true e
    refine pv_add <| pv_tix <| pv_nm 0 rfl ⟨h, rfl, pv_nm 1 rfl ⟨n, rfl, hn, pv_int ⟨_, 1, rfl, rfl, ?_⟩⟩⟩
    unfold caseOf at hR
    rw [if_pos hn] at hR
    simpa using hR
  · have hn : n ∉ h := of_decide_eq_false e
    unfold caseOf at hR
    rw [if_neg hn] at hR
    exact pv_int hR
/-! moved -/
def S_moved (ds : List D) (R : D → Prop) : Prop := ∃ (h : List Str) (ms : List Nat) (n : Str), ds = [hD h, .tup (natsD ms), .str n] ∧ (∀ m ∈ ms, m ≤ h.length) ∧ ms.length ≤ 1000 ∧ R (hD (movedTo h ms n))
theorem ok_moved (c : Ctx K mg) : Cal P wo K mg base 1 (He.ga K "moved") ["held", "moves", "name"] [] (spD K S_moved) := by
  refine cal0 c.f_moved sc_moved (fun ds R ⟨_, _, _, e, _⟩ => by rw [e]; rfl) (fun _ _ _ _ _ _ us hl => match us, hl with | [_, _, _], _ => rfl) fun cdv A outer s H E hr ds R hS => ?_
  obtain ⟨h, ms, n, rfl, hm, hl, hR⟩ := hS
  refine ss_one <| s_ret <| pv_ftupQ c.z_tuple <| pq_pn <| pn_lcM [("source", 3)] (fun d => match d with | .int i => .str (srcOf h n i.toNat) | _ => .non) rfl sc_moved.nd (blkOk_by (show blkC N_moved (defScope s_moved) _ _ = true by decide +kernel)) <| i_tup <| pv_nm 1 rfl ⟨_, .tup _, by rw [natsD_len]; omega, fun d2 hd2 => ?_, ?_⟩
  · obtain ⟨m, hmm, rfl⟩ := List.mem_map.mp hd2
    have hle := hm m hmm
    refine fun _ _ _ _ _ => g_nm 3 (fun _ _ _ _ _ => pv_ifx <| pb_c <| c_eqI <| pv_nm 3 rfl <| pv_int ⟨_, 0, rfl, rfl, _, rfl, fun e => ?_, fun e => ?_⟩) sc_moved.nd
    · have e0 : m = 0 := by have := of_decide_eq_true e; omega
      exact pv_nm 2 rfl ⟨rfl, by rw [e0]; rfl⟩
    · have e0 : m ≠ 0 := by have := of_decide_eq_false e; omega
      have hlt : m - 1 < h.length := by omega
      refine pv_ixT <| pv_nm 0 rfl <| pv_sub <| pv_nm 3 rfl <| pv_int ⟨_, 1, rfl, rfl, _, _, .str h[m - 1], .ftup _, rfl, ?_, rfl, ?_⟩
      · have : ((m : Int) - 1) = ((m - 1 : Nat) : Int) := by omega
        rw [this]
        exact atI_nat (by rw [List.getElem?_map, List.getElem?_eq_getElem hlt]; rfl)
      · simp only [Int.toNat_natCast]
        unfold srcOf
        rw [if_neg e0, List.getD_eq_getElem?_getD, List.getElem?_eq_getElem hlt]; rfl
  · have e : (natsD ms).map (fun d => match d with | .int i => D.str (srcOf h n i.toNat) | _ => .non) = (movedTo h ms n).map .str := by
      unfold natsD movedTo
      rw [List.map_map, List.map_map]
      exact List.map_congr_left fun m _ => by simp [srcOf]
    rw [e]
    exact hR
/-! after -/
theorem _root_.Fw.WF.len7 {b : Pt} (W : WF b) {p : Pl} {w : Str} {c : Nat} (hp : p ∈ b.pl) (hw : w ∈ b.ws) (hc : c ≤ p.2.1) : (b.rule p.1 w c).2.length ≤ 7 := by
  have ok := (W.rule hp hw hc).2
  have := nodup_bound ok.nd (m := p.2.1) fun n hn => (ok.src n hn).2
  have := W.ps p hp
  omega
def S_after (C : Addr) (ds : List D) (R : D → Prop) : Prop := ∃ (b : Pt) (s : Str × List Str) (r : Str × Str), ds = [bookD C b, .str s.1, hD s.2, .str r.1, .str r.2] ∧ WF b ∧ Held b s ∧ r.1 ∈ b.ws ∧ R (stD (b.step s r))
theorem ok_after (c : Ctx K mg) : Cal P wo K mg base 2 (He.ga K "after") ["book", "place", "held", "word", "name"] [] (spD K (S_after (bC K))) := by
  refine cal0 c.f_after sc_after (fun ds R ⟨_, _, _, e, _⟩ => by rw [e]; rfl) (fun _ _ _ _ _ _ us hl => match us, hl with | [_, _, _, _, _], _ => rfl) fun cdv A outer s H E hr ds R hS => ?_
  obtain ⟨b, s, r, rfl, W, h, hw, hR⟩ := hS
  have hu := hu_of hr
  obtain ⟨p, hp, ep, hl⟩ := h.pl
  have hc : caseOf s.2 r.2 ≤ p.2.1 := hl ▸ caseOf_le
  obtain ⟨hv, ok⟩ := W.rule hp hw hc
  have h7 := W.len7 hp hw hc
  rw [ep] at hv ok h7
  refine ss_cons <| s_asg <| pv_dgetT hu <| pt_pv <| pv_fld <| pv_nm 0 rfl ⟨_, _, _, rfl, c.c_Book, c.n_Book_table, rfl, _, rfl, pv_tup <| pas_cons <| pv_nm 1 rfl <| pas_cons <| pv_nm 3 rfl <| pas_cons <| pv_cal (ok_case_of c) hr c.g_case_of <| pas_cons <| pv_nm 2 rfl <| pas_cons <| pv_nm 4 rfl <| pas_nil ⟨_, _, rfl, pas_nil ⟨Nat.le_of_ble_eq_true rfl, keyL (s.1, r.1, caseOf s.2 r.2), _, rfl, by rw [tab_val, hv]; rfl, ?_⟩⟩⟩
  refine g_tup (.tup _) (gs_cons (g_nm 5 (gs_cons (g_nm 6 (gs_nil ?_) sc_after.nd)) sc_after.nd)) rfl
  refine ss_one <| s_ret <| pv_tup <| pas_cons <| pv_nm 5 rfl <| pas_cons <| pv_cal (ok_moved c) hr c.g_moved <| pas_cons <| pv_nm 2 rfl <| pas_cons <| pv_nm 6 rfl <| pas_cons <| pv_nm 4 rfl <| pas_nil ⟨_, _, _, rfl, fun m hm => by rw [hl]; exact (ok.src m hm).2, by omega, pas_nil ⟨Nat.le_of_ble_eq_true rfl, hR⟩⟩
/-! trace, run -/
def S_trace (C : Addr) (ds : List D) (R : D → Prop) : Prop := ∃ (b : Pt) (row : Rws), ds = [bookD C b, rowD row] ∧ WF b ∧ row.length ≤ 1000 ∧ (∀ r ∈ row, r.1 ∈ b.ws ∧ nameB r.2 = true) ∧ R (.lst ((List.range (row.length + 1)).map fun i => stD (b.run (b.st, []) (row.take i))))
theorem ok_trace (c : Ctx K mg) : Cal P wo K mg base 4 (He.ga K "trace") ["book", "row"] [] (spD K (S_trace (bC K))) := by
  refine cal0 c.f_trace sc_trace (fun ds R ⟨_, _, e, _⟩ => by rw [e]; rfl) (fun _ _ _ _ _ _ us hl => match us, hl with | [_, _], _ => rfl) fun cdv A outer s H E hr ds R hS => ?_
  obtain ⟨b, row, rfl, W, hl, hv, hR⟩ := hS
  refine ss_cons <| s_expr <| pv_cal (ok_check_row c) hr c.g_check_row <| pas_cons <| pv_nm 0 rfl <| pas_cons <| pv_nm 1 rfl <| pas_nil ⟨b, row, rfl, hl, hv, ?_⟩
  refine ss_cons (s_setN 2 (pn_lst <| pas_cons <| pv_tup <| pas_cons <| pv_fld <| pv_nm 0 rfl ⟨_, _, _, rfl, c.c_Book, c.n_Book_start, rfl, pas_cons <| pv_ftup0 <| pas_nil ⟨Nat.le_of_ble_eq_true rfl, pas_nil ⟨Nat.le_of_ble_eq_true rfl, ?_⟩⟩⟩) sc_trace.nd)
  refine ss_cons (s_for (fun k ls' w' => w' = Wd.nil ∧ ∃ u v x y, ls' = [.im (bookD (bC K) b), .im (rowD row), .own ((List.range (k + 1)).map fun i => stD (b.run (b.st, []) (row.take i))), u, v, x, y]) PassesOwn.never rfl (i_list <| pv_nm 1 rfl ⟨_, rfl, ⟨rfl, _, _, _, _, rfl⟩, ?_, ?_⟩))
  · rintro k d ls' w' hd ⟨rfl, u, v, x, y, rfl⟩
    rw [List.getElem?_map] at hd
    obtain ⟨r, hrk, rfl⟩ := Option.map_eq_some_iff.mp hd
    have hrm := List.mem_of_getElem? hrk
    have hk : k < row.length := (List.getElem?_eq_some_iff.mp hrk).1
    have hh : Held b (b.run (b.st, ([] : List Str)) (row.take k)) := Held.run W (held_start W) fun q hq => (hv q (List.mem_of_mem_take hq)).1
    have e1 : (List.range (k + 1)).map (fun i => stD (b.run (b.st, []) (row.take i))) = ((List.range k).map fun i => stD (b.run (b.st, []) (row.take i))) ++ [stD (b.run (b.st, []) (row.take k))] := by rw [List.range_succ, List.map_append]; rfl
    refine g_tup (.tup _) (gs_cons (g_nm 3 (gs_cons (g_nm 4 (gs_nil ?_) sc_trace.nd)) sc_trace.nd)) rfl
    refine ss_cons <| s_asg <| pv_ixL <| pq_nm 2 rfl <| pv_neg <| pv_int ⟨1, rfl, _, stD (b.run (b.st, []) (row.take k)), rfl, by rw [e1]; exact atI_last, ?_⟩
    refine g_tup (.tup _) (gs_cons (g_nm 5 (gs_cons (g_nm 6 (gs_nil ?_) sc_trace.nd)) sc_trace.nd)) rfl
    refine ss_one <| s_append 2 rfl <| pv_cal (ok_after c) (hr.mono (by decide)) c.g_after <| pas_cons <| pv_nm 0 rfl <| pas_cons <| pv_nm 5 rfl <| pas_cons <| pv_nm 6 rfl <| pas_cons <| pv_nm 3 rfl <| pas_cons <| pv_nm 4 rfl <| pas_nil ⟨b, _, r, rfl, W, hh, (hv r hrm).1, ?_, rfl, ?_⟩
    · rw [List.length_map, List.length_range]; omega
    · have e2 : b.run (b.st, []) (row.take (k + 1)) = b.step (b.run (b.st, []) (row.take k)) r := by
        unfold Pt.run
        rw [List.take_succ, hrk, List.foldl_append]; rfl
      exact ⟨_, _, _, _, by rw [List.range_succ (n := k + 1), List.map_append, List.map_singleton, e2]; rfl⟩
  · rintro ls' w' ⟨rfl, u, v, x, y, rfl⟩
    refine ss_one (sv_fz 2 rfl (s_ret (pv_nm 2 rfl ?_)))
    rw [List.length_map]
    exact hR
def S_run (C : Addr) (ds : List D) (R : D → Prop) : Prop := ∃ (b : Pt) (row : Rws), ds = [bookD C b, rowD row] ∧ WF b ∧ row.length ≤ 1000 ∧ (∀ r ∈ row, r.1 ∈ b.ws ∧ nameB r.2 = true) ∧ R (stD (b.run (b.st, []) row))
theorem ok_run (c : Ctx K mg) : Cal P wo K mg base 5 (He.ga K "run") ["book", "row"] [] (spD K (S_run (bC K))) := by
  refine cal0 c.f_run sc_run (fun ds R ⟨_, _, e, _⟩ => by rw [e]; rfl) (fun _ _ _ _ _ _ us hl => match us, hl with | [_, _], _ => rfl) fun cdv A outer s H E hr ds R hS => ?_
  obtain ⟨b, row, rfl, W, hl, hv, hR⟩ := hS
  refine ss_one <| s_ret <| pv_ixL <| pq_pv <| pv_cal (ok_trace c) hr c.g_trace <| pas_cons <| pv_nm 0 rfl <| pas_cons <| pv_nm 1 rfl <| pas_nil ⟨b, row, rfl, W, hl, hv, _, rfl, pv_neg <| pv_int ⟨1, rfl, _, stD (b.run (b.st, []) (row.take row.length)), rfl, by rw [List.range_succ, List.map_append]; exact atI_last, by rw [List.take_length]; exact hR⟩⟩
/-! names_of -/
def S_names_of (ds : List D) (R : D → Prop) : Prop := ∃ row : Rws, ds = [rowD row] ∧ row.length ≤ 1000 ∧ (∀ r ∈ row, nameB r.2 = true) ∧ ∀ ys : List Str, ys.Nodup → (∀ x, x ∈ ys ↔ x ∈ row.map (·.2)) → R (.lst (ys.map .str))
theorem ok_names_of (c : Ctx K mg) : Cal P wo K mg base 3 (He.ga K "names_of") ["row"] [] (spD K S_names_of) := by
  refine cal0 c.f_names_of sc_names_of (fun ds R ⟨_, e, _⟩ => by rw [e]; rfl) (fun _ _ _ _ _ _ us hl => match us, hl with | [_], _ => rfl) fun cdv A outer s H E hr ds R hS => ?_
  obtain ⟨row, rfl, hl, hv, hR⟩ := hS
  refine ss_cons <| s_expr <| pv_cal (ok_check_names c) hr c.g_check_names <| pas_cons <| pv_nm 0 rfl <| pas_nil ⟨row, rfl, hl, hv, ?_⟩
  refine ss_one <| s_ret <| pv_pn <| pn_listK rfl c.z_list <| pv_pk <| pk_dcF [("_", 1), ("name", 2)] (fun d => match d with | .tup [_, .str s] => .inr s | _ => .inl 0) (fun _ => .bl true) rfl sc_names_of.nd (blkOk_by (show blkC N_names_of (defScope s_names_of) _ _ = true by decide +kernel)) <| i_list <| pv_nm 0 rfl ⟨_, rfl, ?_, fun d2 hd2 => ?_, _, rfl, ?_⟩
  · rw [List.length_map]; omega
  · obtain ⟨r, hrm, rfl⟩ := List.mem_map.mp hd2
    exact fun _ _ _ _ _ => g_tup (.tup _) (gs_cons (g_nm 1 (gs_cons (g_nm 2 (gs_nil (fun _ _ _ _ _ => pv_nm 2 rfl ⟨rfl, rfl, fun _ _ _ _ _ => pv_bl ⟨rfl, rfl⟩⟩)) sc_names_of.nd)) sc_names_of.nd)) rfl
  · have ek : ∀ k : Key, k ∈ (mkD [] (fun d => match d with | .tup [_, .str s] => (.inr s : Key) | _ => .inl 0) (fun _ => .bl true) (row.map rdD)).map (·.1) ↔ k ∈ row.map fun r => (.inr r.2 : Key) := fun k => by
      rw [mkD_keys, List.map_map]; simp [rdD, Function.comp_def]
    have nd := mkD_nodup (fun d => match d with | .tup [_, .str s] => (.inr s : Key) | _ => .inl 0) (fun _ => .bl true) (row.map rdD) [] List.nodup_nil
    generalize hks : mkD [] (fun d => match d with | .tup [_, .str s] => (.inr s : Key) | _ => .inl 0) (fun _ => .bl true) (row.map rdD) = ks at ek nd
    have hkey : ∀ kv ∈ ks, ∃ s, kv.1 = .inr s := fun kv hkv => by
      obtain ⟨r, _, e⟩ := List.mem_map.mp ((ek kv.1).mp (List.mem_map.mpr ⟨kv, hkv, rfl⟩))
      exact ⟨r.2, e.symm⟩
    have e1 : (ks.map fun kv => kD kv.1) = (ks.map fun kv => match kv.1 with | .inr s => s | .inl _ => Str.empty).map .str := by
      rw [List.map_map]
      refine List.map_congr_left fun kv hkv => ?_
      obtain ⟨s, e⟩ := hkey kv hkv
      simp [e, kD]
    have e2 : (ks.map fun kv => match kv.1 with | .inr s => s | .inl _ => Str.empty).map (fun s => (.inr s : Key)) = ks.map (·.1) := by
      rw [List.map_map]
      refine List.map_congr_left fun kv hkv => ?_
      obtain ⟨s, e⟩ := hkey kv hkv
      simp [e]
    rw [e1]
    refine hR _ ?_ fun x => ?_
    · rw [← e2] at nd
      exact List.Pairwise.of_map (f := fun s => (Sum.inr s : Key)) (R := (· ≠ ·)) (S := (· ≠ ·)) (fun a b h e => h (by rw [e])) nd
    · have := ek (.inr x)
      rw [← e2] at this
      simpa using this
end FH
set_option Elab.async false
set_option linter.all false
set_option maxRecDepth 100000
set_option maxHeartbeats 4000000
namespace Fw
open PySem PySem.Spec PyProof.Rows L2 Pd
/-! ### triples -/
abbrev Mg := List (Nat × Nat)
structure Mt (s1 s2 : Nat) (m : Mg) : Prop where
  inc : (m.map (·.1)).Pairwise (· < ·)
  nd : (m.map (·.2)).Nodup
  rng : ∀ p ∈ m, 1 ≤ p.1 ∧ p.1 ≤ s1 ∧ 1 ≤ p.2 ∧ p.2 ≤ s2
def getM (m : Mg) (i : Nat) : Nat := (look m i).getD 0
def kindsOf (s1 s2 : Nat) (m : Mg) : List (Nat × Nat) := ((List.range s1).map fun i => (i + 1, getM m (i + 1))) ++ ((List.range s2).filterMap fun j => if j + 1 ∈ m.map (·.2) then none else some (0, j + 1)) ++ [(0, 0)]
def bothR (k : Nat × Nat) (m : Mg) (s t : Nat) : Bool := (decide (s = k.1) && decide (t = k.2)) || (!(decide (s = k.1) || decide (t = k.2)) && decide ((s, t) ∈ m))
def bpIn (k : Nat × Nat) (m : Mg) (i s : Nat) (c : List Nat) : Mg := (List.range c.length).filterMap fun j => if bothR k m s (c.getD j 0) = true then some (i + 1, j + 1) else none
def bp (k : Nat × Nat) (m : Mg) (a c : List Nat) : Mg := (List.range a.length).flatMap fun i => bpIn k m i (a.getD i 0) c
def behindOf (b : Pt) (t : Tr) (w : Str) (k : Nat × Nat) : Tr := ((b.rule t.1 w k.1).1, (b.rule t.2.1 w k.2).1, bp k t.2.2 (b.rule t.1 w k.1).2 (b.rule t.2.1 w k.2).2)
structure TrOk (b : Pt) (t : Tr) (p q : Pl) : Prop where
  hp : p ∈ b.pl
  ep : p.1 = t.1
  hq : q ∈ b.pl
  eq : q.1 = t.2.1
  mt : Mt p.2.1 q.2.1 t.2.2
def stepsOf (b : Pt) (t : Tr) (p q : Pl) : List (Str × (Nat × Nat) × Tr) := b.ws.flatMap fun w => (kindsOf p.2.1 q.2.1 t.2.2).map fun k => (w, k, behindOf b t w k)
theorem Mt.nodup1 {s1 s2 : Nat} {m : Mg} (h : Mt s1 s2 m) : (m.map (·.1)).Nodup := h.inc.imp fun h => Nat.ne_of_lt h
theorem Mt.len {s1 s2 : Nat} {m : Mg} (h : Mt s1 s2 m) : m.length ≤ s1 := by
  have := nodup_le h.nodup1 (m := (List.range s1).map (· + 1)) fun x hx => by
    obtain ⟨p, hp, rfl⟩ := List.mem_map.mp hx
    have := h.rng p hp
    exact List.mem_map.mpr ⟨p.1 - 1, List.mem_range.mpr (by omega), by omega⟩
  simpa using this
theorem getM_some {s1 s2 : Nat} {m : Mg} (h : Mt s1 s2 m) {i j : Nat} (hij : (i, j) ∈ m) : getM m i = j := by
  unfold getM
  rw [look_of h.nodup1 hij]; rfl
theorem getM_none {m : Mg} {i : Nat} (h : i ∉ m.map (·.1)) : getM m i = 0 := by
  unfold getM
  rw [look_none.mpr h]; rfl
theorem getM_le {s1 s2 : Nat} {m : Mg} (h : Mt s1 s2 m) {i : Nat} : getM m i ≤ s2 := by
  by_cases hi : i ∈ m.map (·.1)
  · obtain ⟨p, hp, rfl⟩ := List.mem_map.mp hi
    rw [getM_some h (i := p.1) (j := p.2) hp]
    exact (h.rng p hp).2.2.2
  · rw [getM_none hi]; exact Nat.zero_le _
theorem kinds_mem {s1 s2 : Nat} {m : Mg} {k : Nat × Nat} : k ∈ kindsOf s1 s2 m ↔ (1 ≤ k.1 ∧ k.1 ≤ s1 ∧ k.2 = getM m k.1) ∨ (k.1 = 0 ∧ 1 ≤ k.2 ∧ k.2 ≤ s2 ∧ k.2 ∉ m.map (·.2)) ∨ k = (0, 0) := by
  unfold kindsOf
  rw [List.mem_append, List.mem_append, List.mem_map, List.mem_filterMap, List.mem_singleton, or_assoc]
  constructor
  · rintro (⟨i, hi, rfl⟩ | ⟨j, hj, e⟩ | h)
    · exact .inl ⟨Nat.succ_pos _, List.mem_range.mp hi, rfl⟩
    · refine .inr (.inl ?_)
      split at e
      · cases e
      · rename_i hn
        cases e
        exact ⟨rfl, Nat.succ_pos _, List.mem_range.mp hj, hn⟩
    · exact .inr (.inr h)
  · rintro (⟨h1, h2, h3⟩ | ⟨h1, h2, h3, h4⟩ | h)
    · refine .inl ⟨k.1 - 1, List.mem_range.mpr (by omega), ?_⟩
      have e : k.1 - 1 + 1 = k.1 := by omega
      rw [e, ← h3]
    · refine .inr (.inl ⟨k.2 - 1, List.mem_range.mpr (by omega), ?_⟩)
      have e : k.2 - 1 + 1 = k.2 := by omega
      rw [e, if_neg h4, ← h1]
    · exact .inr (.inr h)
theorem kinds_le {s1 s2 : Nat} {m : Mg} (h : Mt s1 s2 m) {k : Nat × Nat} (hk : k ∈ kindsOf s1 s2 m) : k.1 ≤ s1 ∧ k.2 ≤ s2 := by
  rcases kinds_mem.mp hk with ⟨h1, h2, h3⟩ | ⟨h1, h2, h3, h4⟩ | e
  · exact ⟨h2, h3 ▸ getM_le h⟩
  · exact ⟨by omega, h3⟩
  · rw [e]; exact ⟨Nat.zero_le _, Nat.zero_le _⟩
theorem kinds_len {s1 s2 : Nat} {m : Mg} : (kindsOf s1 s2 m).length ≤ s1 + s2 + 1 := by
  unfold kindsOf
  rw [List.length_append, List.length_append, List.length_map, List.length_range, List.length_singleton]
  have := List.length_filterMap_le (fun j => if j + 1 ∈ m.map (·.2) then none else some (0, j + 1)) (List.range s2)
  rw [List.length_range] at this
  omega
theorem bothR_iff {k : Nat × Nat} {m : Mg} {s t : Nat} : bothR k m s t = true ↔ (s = k.1 ∧ t = k.2) ∨ (s ≠ k.1 ∧ t ≠ k.2 ∧ (s, t) ∈ m) := by
  unfold bothR
  simp only [Bool.or_eq_true, Bool.and_eq_true, decide_eq_true_eq, Bool.not_eq_true', Bool.or_eq_false_iff, decide_eq_false_iff_not]
  constructor
  · rintro (h | ⟨⟨h1, h2⟩, h3⟩)
    · exact .inl h
    · exact .inr ⟨h1, h2, h3⟩
  · rintro (h | ⟨h1, h2, h3⟩)
    · exact .inl h
    · exact .inr ⟨⟨h1, h2⟩, h3⟩
theorem bp_mem {k : Nat × Nat} {m : Mg} {a c : List Nat} {z : Nat × Nat} : z ∈ bp k m a c ↔ ∃ i j s t, a[i]? = some s ∧ c[j]? = some t ∧ bothR k m s t = true ∧ z = (i + 1, j + 1) := by
  unfold bp bpIn
  rw [List.mem_flatMap]
  constructor
  · rintro ⟨i, hi, h⟩
    obtain ⟨j, hj, e⟩ := List.mem_filterMap.mp h
    have hi' := List.mem_range.mp hi
    have hj' := List.mem_range.mp hj
    split at e
    · rename_i hb
      cases e
      refine ⟨i, j, a.getD i 0, c.getD j 0, ?_, ?_, hb, rfl⟩
      · rw [List.getD_eq_getElem?_getD, List.getElem?_eq_getElem hi']; rfl
      · rw [List.getD_eq_getElem?_getD, List.getElem?_eq_getElem hj']; rfl
    · cases e
  · rintro ⟨i, j, s, t, h1, h2, hb, rfl⟩
    refine ⟨i, List.mem_range.mpr (List.getElem?_eq_some_iff.mp h1).1, List.mem_filterMap.mpr ⟨j, List.mem_range.mpr (List.getElem?_eq_some_iff.mp h2).1, ?_⟩⟩
    rw [List.getD_eq_getElem?_getD, List.getD_eq_getElem?_getD, h1, h2]
    show (if bothR k m s t = true then _ else _) = _
    rw [if_pos hb]
/-- the pairs behind are a matching -/
theorem bp_lex (k : Nat × Nat) (m : Mg) (a c : List Nat) : (bp k m a c).Pairwise fun z z' => z.1 < z'.1 ∨ (z.1 = z'.1 ∧ z.2 < z'.2) := by
  unfold bp
  have hall : ∀ i, ∀ z ∈ bpIn k m i (a.getD i 0) c, z.1 = i + 1 := fun i z hz => by
    unfold bpIn at hz
    obtain ⟨j, hj, e⟩ := List.mem_filterMap.mp hz
    split at e
    · cases e; rfl
    · cases e
  refine List.pairwise_flatMap.mpr ⟨fun i _ => ?_, List.pairwise_lt_range.imp fun {i i'} hlt z hz z' hz' => .inl (by rw [hall i z hz, hall i' z' hz']; omega)⟩
  unfold bpIn
  refine List.pairwise_filterMap.mpr (List.pairwise_lt_range.imp fun {j j'} hlt z hz z' hz' => ?_)
  split at hz
  · split at hz'
    · cases hz
      cases hz'
      exact .inr ⟨rfl, by show j + 1 < j' + 1; omega⟩
    · cases hz'
  · cases hz
theorem bothR_fst {k : Nat × Nat} {m : Mg} {s1 s2 : Nat} (h : Mt s1 s2 m) {s t t' : Nat} (b1 : bothR k m s t = true) (b2 : bothR k m s t' = true) : t = t' := by
  rcases bothR_iff.mp b1 with ⟨x1, x2⟩ | ⟨x1, x2, x3⟩
  · rcases bothR_iff.mp b2 with ⟨y1, y2⟩ | ⟨y1, y2, y3⟩
    · rw [x2, y2]
    · exact absurd x1 y1
  · rcases bothR_iff.mp b2 with ⟨y1, y2⟩ | ⟨y1, y2, y3⟩
    · exact absurd y1 x1
    · rw [← getM_some h x3, ← getM_some h y3]
theorem Mt.inj2 {m : Mg} {s1 s2 : Nat} (h : Mt s1 s2 m) {s s' t : Nat} (x3 : (s, t) ∈ m) (y3 : (s', t) ∈ m) : s = s' := by
  obtain ⟨i, hi, e1⟩ := List.getElem_of_mem x3
  obtain ⟨i', hi', e2⟩ := List.getElem_of_mem y3
  have e3 := nodup_at h.nd (i := i) (j := i') (x := t) (by rw [List.getElem?_map, List.getElem?_eq_getElem hi, e1]; rfl) (by rw [List.getElem?_map, List.getElem?_eq_getElem hi', e2]; rfl)
  subst e3
  rw [e1] at e2
  exact congrArg (·.1) e2
theorem Mt.inj1 {m : Mg} {s1 s2 : Nat} (h : Mt s1 s2 m) {s t t' : Nat} (x3 : (s, t) ∈ m) (y3 : (s, t') ∈ m) : t = t' := by
  rw [← getM_some h x3, ← getM_some h y3]
theorem bothR_snd {k : Nat × Nat} {m : Mg} {s1 s2 : Nat} (h : Mt s1 s2 m) {s s' t : Nat} (b1 : bothR k m s t = true) (b2 : bothR k m s' t = true) : s = s' := by
  rcases bothR_iff.mp b1 with ⟨x1, x2⟩ | ⟨x1, x2, x3⟩
  · rcases bothR_iff.mp b2 with ⟨y1, y2⟩ | ⟨y1, y2, y3⟩
    · rw [x1, y1]
    · exact absurd x2 y2
  · rcases bothR_iff.mp b2 with ⟨y1, y2⟩ | ⟨y1, y2, y3⟩
    · exact absurd y2 x2
    · exact h.inj2 x3 y3
theorem bp_mt {k : Nat × Nat} {m : Mg} {s1 s2 : Nat} (h : Mt s1 s2 m) {a c : List Nat} (na : a.Nodup) (nc : c.Nodup) : Mt a.length c.length (bp k m a c) := by
  have lex := bp_lex k m a c
  refine ⟨?_, ?_, fun z hz => ?_⟩
  · refine List.pairwise_map.mpr (List.Pairwise.imp_of_mem (fun {z z'} hz hz' hl => ?_) lex)
    rcases hl with hl | ⟨e, hl⟩
    · exact hl
    · obtain ⟨i, j, s, t, h1, h2, b1, rfl⟩ := bp_mem.mp hz
      obtain ⟨i', j', s', t', h1', h2', b2, rfl⟩ := bp_mem.mp hz'
      have e1 : i = i' := by simpa using e
      subst e1
      rw [h1] at h1'
      cases h1'
      rw [bothR_fst h b1 b2] at h2
      have := nodup_at nc h2 h2'
      subst this
      exact absurd hl (Nat.lt_irrefl _)
  · refine List.pairwise_map.mpr (List.Pairwise.imp_of_mem (fun {z z'} hz hz' hl e => ?_) lex)
    obtain ⟨i, j, s, t, h1, h2, b1, rfl⟩ := bp_mem.mp hz
    obtain ⟨i', j', s', t', h1', h2', b2, rfl⟩ := bp_mem.mp hz'
    have e1 : j = j' := by simpa using e
    subst e1
    rw [h2] at h2'
    cases h2'
    rw [bothR_snd h b1 b2] at h1
    have := nodup_at na h1 h1'
    subst this
    rcases hl with hl | ⟨_, hl⟩ <;> exact absurd hl (Nat.lt_irrefl _)
  · obtain ⟨i, j, s, t, h1, h2, _, rfl⟩ := bp_mem.mp hz
    exact ⟨Nat.succ_pos _, (List.getElem?_eq_some_iff.mp h1).1, Nat.succ_pos _, (List.getElem?_eq_some_iff.mp h2).1⟩
/-- the triple behind is one -/
theorem TrOk.behind {b : Pt} (W : WF b) {t : Tr} {p q : Pl} (h : TrOk b t p q) {w : Str} (hw : w ∈ b.ws) {k : Nat × Nat} (hk : k ∈ kindsOf p.2.1 q.2.1 t.2.2) : ∃ p' q', TrOk b (behindOf b t w k) p' q' := by
  obtain ⟨k1, k2⟩ := kinds_le h.mt hk
  obtain ⟨_, ok1⟩ := W.rule h.hp hw k1
  obtain ⟨_, ok2⟩ := W.rule h.hq hw k2
  rw [h.ep] at ok1
  rw [h.eq] at ok2
  obtain ⟨g1, hg1, e1, l1⟩ := ok1.goal
  obtain ⟨g2, hg2, e2, l2⟩ := ok2.goal
  refine ⟨g1, g2, hg1, e1, hg2, e2, ?_⟩
  rw [← l1, ← l2]
  exact bp_mt h.mt ok1.nd ok2.nd
end Fw
set_option Elab.async false
set_option linter.all false
set_option maxRecDepth 100000
set_option maxHeartbeats 4000000
namespace FH
open PySem PySem.Spec PyProof.Rows L2 Pd Fw
variable {P : Program} {wo : World} {K : PySem.W.Frag} {mg : Str → Option Value} {base : Heap}
/-! is_matching -/
theorem all_true {α : Type} (l : List α) : ((l.map fun _ => true).all fun x => x) = true := by rw [List.all_map, List.all_eq_true]; exact fun _ _ => rfl
theorem map_const_bl {α : Type} (l : List α) (f : α → D) : (l.map f).map (fun _ => D.bl true) = (l.map fun _ => true).map .bl := by rw [List.map_map, List.map_map]; rfl
theorem cut_from (xs : List D) (k : Nat) : cutD xs (some (k : Int)) none = xs.drop k := by
  unfold Pd.cutD
  rw [HT.sIx_nat, HT.sIx_none]
  by_cases h : k ≤ xs.length
  · rw [Nat.min_eq_left h, List.take_of_length_le (by rw [List.length_drop]; exact Nat.le_refl _)]
  · rw [Nat.min_eq_right (by omega), List.drop_of_length_le (Nat.le_refl _), List.drop_of_length_le (by omega), List.take_nil]
theorem cut_to (xs : List D) (k : Nat) : cutD xs none (some (k : Int)) = xs.take k := by
  unfold Pd.cutD
  rw [HT.sIx_nat, HT.sIx_none, List.drop_zero, Nat.sub_zero]
  by_cases h : k ≤ xs.length
  · rw [Nat.min_eq_left h]
  · rw [Nat.min_eq_right (by omega), List.take_of_length_le (Nat.le_refl _), List.take_of_length_le (by omega)]
theorem zp_mem : ∀ {xs ys : List D} {d : D}, d ∈ zpD xs ys → ∃ (i : Nat) (x y : D), xs[i]? = some x ∧ ys[i]? = some y ∧ d = .tup [x, y]
  | [], _, _, h => by cases h
  | _ :: _, [], _, h => by cases h
  | x :: xs, y :: ys, d, h => by
    rcases List.mem_cons.mp h with e | h
    · exact ⟨0, x, y, rfl, rfl, e⟩
    · obtain ⟨i, x', y', h1, h2, h3⟩ := zp_mem h
      exact ⟨i + 1, x', y', by simpa using h1, by simpa using h2, h3⟩
theorem nats_ints (l : List Nat) : natsD l = (l.map fun n : Nat => (n : Int)).map .int := by unfold natsD; rw [List.map_map]; rfl
theorem count_one {α : Type} [DecidableEq α] : ∀ {l : List α} {x : α}, l.Nodup → x ∈ l → l.count x = 1
  | [], _, _, h => by cases h
  | y :: l, x, nd, h => by
    rw [List.nodup_cons] at nd
    rw [List.count_cons]
    rcases List.mem_cons.mp h with e | h
    · subst e
      rw [List.count_eq_zero.mpr nd.1]; simp
    · have : ¬ y = x := fun e => nd.1 (e ▸ h)
      rw [count_one nd.2 h]; simp [this]
theorem nd_ints {l : List Nat} (h : l.Nodup) : (l.map fun n : Nat => (n : Int)).Nodup := List.Pairwise.map _ (fun a b h z => h (Int.ofNat.inj z)) h
def S_is_matching (ds : List D) (R : D → Prop) : Prop := ∃ (s1 s2 : Nat) (m : Mg), ds = [.int s1, .int s2, pairsD m] ∧ Mt s1 s2 m ∧ s1 ≤ 1000 ∧ R (.bl true)
theorem ok_is_matching (c : Ctx K mg) : Cal P wo K mg base 1 (He.ga K "is_matching") ["one", "other", "pairs"] [] (spD K S_is_matching) := by
  refine cal0 c.f_is_matching sc_is_matching (fun ds R ⟨_, _, _, e, _⟩ => by rw [e]; rfl) (fun _ _ _ _ _ _ us hl => match us, hl with | [_, _, _], _ => rfl) fun cdv A outer s H E hr ds R hS => ?_
  obtain ⟨s1, s2, m, rfl, hm, h1000, hR⟩ := hS
  have hlen := hm.len
  have e1 : (m.map Pd.pairD).map (fun d => match d with | .tup [x, _] => x | _ => .non) = natsD (m.map (·.1)) := by unfold natsD; rw [List.map_map, List.map_map]; rfl
  have e2 : (m.map Pd.pairD).map (fun d => match d with | .tup [_, x] => x | _ => .non) = natsD (m.map (·.2)) := by unfold natsD; rw [List.map_map, List.map_map]; rfl
  refine ss_cons (s_setLcM 3 [("pair", 4)] (fun d => match d with | .tup [x, _] => x | _ => .non) rfl sc_is_matching.nd (blkOk_by (show blkC N_is_matching (defScope s_is_matching) _ _ = true by decide +kernel)) (i_tup <| pv_nm 2 rfl ⟨_, .ftup _, by rw [List.length_map]; omega, fun d2 hd2 => ?_, ?_⟩) rfl)
  · obtain ⟨z, hz, rfl⟩ := List.mem_map.mp hd2
    exact fun _ _ _ _ _ => g_nm 4 (fun _ _ _ _ _ => pv_ixT <| pv_nm 4 rfl <| pv_int ⟨_, 0, _, .tup _, rfl, rfl, rfl, rfl⟩) sc_is_matching.nd
  rw [e1]
  refine ss_cons (s_setN 5 (pn_lcM [("pair", 4)] (fun d => match d with | .tup [_, x] => x | _ => .non) rfl sc_is_matching.nd (blkOk_by (show blkC N_is_matching (defScope s_is_matching) _ _ = true by decide +kernel)) (i_tup <| pv_nm 2 rfl ⟨_, .ftup _, by rw [List.length_map]; omega, fun d2 hd2 => ?_, ?_⟩)) sc_is_matching.nd)
  · obtain ⟨z, hz, rfl⟩ := List.mem_map.mp hd2
    exact fun _ _ _ _ _ => g_nm 4 (fun _ _ _ _ _ => pv_ixT <| pv_nm 4 rfl <| pv_int ⟨_, 1, _, .tup _, rfl, rfl, rfl, rfl⟩) sc_is_matching.nd
  rw [e2]
  refine ss_fz 3 rfl (ss_fz 5 rfl (ss_cons (s_if (PB.imp (R := fun k w' => w' = Wd.nil ∧ k = false) ?_ fun k w' ⟨e3, e4⟩ => ⟨fun h => absurd (h.symm.trans e4) (by decide), fun _ => ss_nil ?_⟩))))
  · refine pb_w <| pbw_or <| pb_not <| pb_pv <| pv_allQ rfl c.z_all <| pq_pn <| pn_lcM [("slot", 6)] (fun _ => .bl true) rfl sc_is_matching.nd (blkOk_by (show blkC N_is_matching (defScope s_is_matching) _ _ = true by decide +kernel)) <| i_list <| pv_nm 3 rfl ⟨_, rfl, by rw [natsD_len, List.length_map]; omega, fun d2 hd2 => ?_, _, map_const_bl _ _, true, by rw [all_true], pbw_or1 <| pb_not <| pb_pv <| pv_allQ rfl c.z_all <| pq_pn <| pn_lcM [("slot", 6)] (fun _ => .bl true) rfl sc_is_matching.nd (blkOk_by (show blkC N_is_matching (defScope s_is_matching) _ _ = true by decide +kernel)) <| i_list <| pv_nm 5 rfl ⟨_, rfl, by rw [natsD_len, List.length_map]; omega, fun d2 hd2 => ?_, _, map_const_bl _ _, true, by rw [all_true], rfl, rfl⟩⟩
    · obtain ⟨n, hn, rfl⟩ := List.mem_map.mp hd2
      obtain ⟨z, hz, rfl⟩ := List.mem_map.mp hn
      have := hm.rng z hz
      exact fun _ _ _ _ _ => g_nm 6 (fun _ _ _ _ _ => pv_lele <| pv_int <| pv_nm 6 rfl ⟨1, _, rfl, rfl, fun _ => pv_nm 0 rfl ⟨_, rfl, rfl, by rw [decide_eq_true (by omega)]⟩, fun h => absurd (of_decide_eq_false h) (by omega)⟩) sc_is_matching.nd
    · obtain ⟨n, hn, rfl⟩ := List.mem_map.mp hd2
      obtain ⟨z, hz, rfl⟩ := List.mem_map.mp hn
      have := hm.rng z hz
      exact fun _ _ _ _ _ => g_nm 6 (fun _ _ _ _ _ => pv_lele <| pv_int <| pv_nm 6 rfl ⟨1, _, rfl, rfl, fun _ => pv_nm 1 rfl ⟨_, rfl, rfl, by rw [decide_eq_true (by omega)]⟩, fun h => absurd (of_decide_eq_false h) (by omega)⟩) sc_is_matching.nd
  subst e3
  refine ss_cons (s_set 7 (pv_allQ rfl c.z_all <| pq_pn <| pn_lcM [("slot", 6), ("later", 8)] (fun _ => .bl true) rfl sc_is_matching.nd (blkOk_by (show blkC N_is_matching (defScope s_is_matching) _ _ = true by decide +kernel)) <| i_zip c.z_zip <| pv_nm 3 rfl <| pv_pn <| pn_slice <| pq_pv <| pv_nm 3 rfl ⟨_, rfl, pov_some <| pv_int ⟨1, rfl, pov_none ⟨_, _, rfl, rfl, ?_, fun d2 hd2 => ?_, (zpD (natsD (m.map (·.1))) (cutD (natsD (m.map (·.1))) (some 1) none)).map fun _ => true, ?_, ?_⟩⟩⟩) sc_is_matching.nd)
  · rw [zpD_len, natsD_len, List.length_map]; omega
  · rw [show (1 : Int) = ((1 : Nat) : Int) from rfl, cut_from] at hd2
    obtain ⟨i, x, y, h1, h2, rfl⟩ := zp_mem hd2
    unfold natsD at h1 h2
    rw [List.getElem?_drop, List.getElem?_map] at h2
    rw [List.getElem?_map] at h1
    obtain ⟨n1, g1, rfl⟩ := Option.map_eq_some_iff.mp h1
    obtain ⟨n2, g2, rfl⟩ := Option.map_eq_some_iff.mp h2
    obtain ⟨q1, e1⟩ := List.getElem?_eq_some_iff.mp g1
    obtain ⟨q2, e2⟩ := List.getElem?_eq_some_iff.mp g2
    have hlt : n1 < n2 := by
      have := List.pairwise_iff_getElem.mp hm.inc i (1 + i) q1 q2 (by omega)
      rw [e1, e2] at this
      exact this
    exact fun _ _ _ _ _ => g_tup (.tup _) (gs_cons (g_nm 6 (gs_cons (g_nm 8 (gs_nil (fun _ _ _ _ _ => pv_c <| c_lt <| pv_nm 6 rfl <| pv_nm 8 rfl ⟨_, _, rfl, rfl, rfl, by rw [decide_eq_true (by omega)]⟩)) sc_is_matching.nd)) sc_is_matching.nd)) rfl
  · rw [List.map_map]; rfl
  · rw [all_true]
    refine ss_one <| s_ret <| pv_and <| pv_nm 7 rfl ⟨true, rfl, ?_⟩
    refine pv_one <| pv_allQ rfl c.z_all <| pq_pn <| pn_lcM [("slot", 6)] (fun _ => .bl true) rfl sc_is_matching.nd (blkOk_by (show blkC N_is_matching (defScope s_is_matching) _ _ = true by decide +kernel)) <| i_list <| pv_nm 5 rfl ⟨_, rfl, by rw [natsD_len, List.length_map]; omega, fun d2 hd2 => ?_, _, map_const_bl _ _, by rw [all_true]; exact hR⟩
    obtain ⟨n, hn, rfl⟩ := List.mem_map.mp hd2
    have hc := count_one (nd_ints hm.nd) (List.mem_map.mpr ⟨n, hn, rfl⟩)
    exact fun _ _ _ _ _ => g_nm 6 (fun _ _ _ _ _ => pv_c <| c_eqI <| pv_countI <| pq_pv <| pv_nm 5 rfl ⟨_, rfl, pv_nm 6 rfl ⟨_, _, nats_ints _, rfl, pv_int ⟨_, 1, rfl, rfl, rfl, by rw [hc]; rfl⟩⟩⟩) sc_is_matching.nd
end FH
set_option Elab.async false
set_option linter.all false
set_option maxRecDepth 100000
set_option maxHeartbeats 4000000
namespace FH
open PySem PySem.Spec PyProof.Rows L2 Pd Fw
variable {P : Program} {wo : World} {K : PySem.W.Frag} {mg : Str → Option Value} {base : Heap}
theorem rgD_mem {lo : Int} {n : Nat} {d : D} (h : d ∈ rgD lo n) : ∃ k : Nat, k < n ∧ d = .int (lo + (k : Nat)) := by
  obtain ⟨k, hk, rfl⟩ := List.mem_map.mp h
  exact ⟨k, List.mem_range.mp hk, rfl⟩
/-! kinds -/
theorem getM_val (m : Mg) (i : Nat) : (valD (m.map fun z => ((Sum.inl (z.1 : Int) : Key), D.int (z.2 : Int))) (.inl (i : Int))).getD (.int 0) = .int (getM m i : Nat) := by
  have := valD_map (f := fun n : Nat => (Sum.inl (n : Int) : Key)) (fun a b h => Int.ofNat.inj (Sum.inl.inj h)) (g := fun n : Nat => D.int (n : Int)) (l := m) (k := i)
  rw [this]
  unfold getM
  cases look m i <;> rfl
def S_kinds (ds : List D) (R : D → Prop) : Prop := ∃ (s1 s2 : Nat) (m : Mg), ds = [.int s1, .int s2, pairsD m] ∧ Mt s1 s2 m ∧ s1 ≤ 1000 ∧ s2 ≤ 1000 ∧ R (.lst ((kindsOf s1 s2 m).map Pd.pairD))
theorem ok_kinds (c : Ctx K mg) : Cal P wo K mg base 1 (He.ga K "kinds") ["one", "other", "pairs"] [] (spD K S_kinds) := by
  refine cal0 c.f_kinds sc_kinds (fun ds R ⟨_, _, _, e, _⟩ => by rw [e]; rfl) (fun _ _ _ _ _ _ us hl => match us, hl with | [_, _, _], _ => rfl) fun cdv A outer s H E hr ds R hS => ?_
  obtain ⟨s1, s2, m, rfl, hm, h1, h2, hR⟩ := hS
  have hu := hu_of hr
  have hlen := hm.len
  have e2 : (m.map Pd.pairD).map (fun d => match d with | .tup [_, x] => x | _ => .non) = natsD (m.map (·.2)) := by unfold natsD; rw [List.map_map, List.map_map]; rfl
  refine ss_cons (s_set 3 (pv_dictP rfl c.z_dict <| pv_nm 2 rfl ⟨m, rfl, hm.nodup1, ?_⟩) sc_kinds.nd)
  refine ss_cons (s_setN 4 (pn_lcM [("pair", 5)] (fun d => match d with | .tup [_, x] => x | _ => .non) rfl sc_kinds.nd (blkOk_by (show blkC N_kinds (defScope s_kinds) _ _ = true by decide +kernel)) (i_tup <| pv_nm 2 rfl ⟨_, .ftup _, by rw [List.length_map]; omega, fun d2 hd2 => ?_, ?_⟩)) sc_kinds.nd)
  · obtain ⟨z, hz, rfl⟩ := List.mem_map.mp hd2
    exact fun _ _ _ _ _ => g_nm 5 (fun _ _ _ _ _ => pv_ixT <| pv_nm 5 rfl <| pv_int ⟨_, 1, _, .tup _, rfl, rfl, rfl, rfl⟩) sc_kinds.nd
  rw [e2]
  refine ss_fz 4 rfl (ss_cons (s_setLcM 6 [("slot", 7)] (fun d => match d with | .int i => Pd.pairD (i.toNat, getM m i.toNat) | _ => .non) rfl sc_kinds.nd (blkOk_by (show blkC N_kinds (defScope s_kinds) _ _ = true by decide +kernel)) (i_range2 c.z_range <| pv_int <| pv_add <| pv_nm 0 rfl <| pv_int ⟨_, 1, rfl, rfl, 1, _, rfl, rfl, by omega, ?_, fun d2 hd2 => ?_, ?_⟩) rfl))
  · rw [rgD_len]; omega
  · obtain ⟨i, hi, rfl⟩ := rgD_mem hd2
    have e3 : (1 : Int) + (i : Nat) = ((i + 1 : Nat) : Int) := by omega
    rw [e3]
    exact fun _ _ _ _ _ => g_nm 7 (fun _ _ _ _ _ => pv_tup <| pas_cons <| pv_nm 7 rfl <| pas_cons <| pv_get2 hu <| pv_nm 3 rfl ⟨_, rfl, pv_nm 7 rfl ⟨.inl ((i + 1 : Nat) : Int), rfl, pv_int <| pas_nil ⟨Nat.le_of_ble_eq_true rfl, rfl, by rw [getM_val]; simp [Pd.pairD]⟩⟩⟩) sc_kinds.nd
  have e4 : (rgD 1 ((s1 : Int) + 1 - 1).toNat).map (fun d => match d with | .int i => Pd.pairD (i.toNat, getM m i.toNat) | _ => .non) = ((List.range s1).map fun i => (i + 1, getM m (i + 1))).map Pd.pairD := by
    have : ((s1 : Int) + 1 - 1).toNat = s1 := by omega
    rw [this]
    unfold rgD
    rw [List.map_map, List.map_map]
    refine List.map_congr_left fun i _ => ?_
    have e5 : ((1 : Int) + (i : Nat)).toNat = i + 1 := by omega
    simp only [Function.comp_def, e5]
  rw [e4]
  refine ss_cons (s_extend 6 rfl (pn_lcF [("slot", 7)] (fun d => match d with | .int i => if i.toNat ∈ m.map (·.2) then none else some (Pd.pairD (0, i.toNat)) | _ => none) rfl sc_kinds.nd (blkOk_by (show blkC N_kinds (defScope s_kinds) _ _ = true by decide +kernel)) (i_range2 c.z_range <| pv_int <| pv_add <| pv_nm 1 rfl <| pv_int ⟨_, 1, rfl, rfl, 1, _, rfl, rfl, by omega, ?_, fun d2 hd2 => ?_, ?_, ?_⟩)))
  · rw [rgD_len]; omega
  · obtain ⟨i, hi, rfl⟩ := rgD_mem hd2
    have e3 : (1 : Int) + (i : Nat) = ((i + 1 : Nat) : Int) := by omega
    rw [e3]
    refine fun _ _ _ _ _ => g_nm 7 (fun _ _ _ _ _ => t_one <| pb_c <| c_notInL <| pv_nm 7 rfl <| pq_pv <| pv_nm 4 rfl ⟨_, rfl, _, by rw [nats_ints]; exact .int ((i + 1 : Nat) : Int) _, _, rfl, rfl, fun h => ?_, fun h => ?_⟩) sc_kinds.nd
    · have hn : i + 1 ∉ m.map (·.2) := fun hm' => by
        have : ((i + 1 : Nat) : Int) ∈ (m.map (·.2)).map fun n : Nat => (n : Int) := List.mem_map.mpr ⟨_, hm', rfl⟩
        rw [decide_eq_true this] at h
        exact nomatch h
      exact fun _ _ _ _ _ => pv_tup <| pas_cons <| pv_int <| pas_cons <| pv_nm 7 rfl <| pas_nil ⟨Nat.le_of_ble_eq_true rfl, rfl, by simp only [Int.toNat_natCast]; rw [if_neg hn]; rfl⟩
    · have hn : i + 1 ∈ m.map (·.2) := by
        have h' : decide (((i + 1 : Nat) : Int) ∈ (m.map (·.2)).map fun n : Nat => (n : Int)) = true := by simpa using h
        obtain ⟨n, hn, e⟩ := List.mem_map.mp (of_decide_eq_true h')
        have : n = i + 1 := by omega
        rw [← this]; exact hn
      simp only [Int.toNat_natCast]
      rw [if_pos hn]
  · have := List.length_filterMap_le (fun d => match d with | D.int i => if i.toNat ∈ m.map (·.2) then none else some (Pd.pairD (0, i.toNat)) | _ => none) (rgD 1 ((s2 : Int) + 1 - 1).toNat)
    rw [rgD_len] at this
    simp only [List.length_map, List.length_range]
    omega
  · have e6 : (rgD 1 ((s2 : Int) + 1 - 1).toNat).filterMap (fun d => match d with | D.int i => if i.toNat ∈ m.map (·.2) then none else some (Pd.pairD (0, i.toNat)) | _ => none) = ((List.range s2).filterMap fun j => if j + 1 ∈ m.map (·.2) then none else some (0, j + 1)).map Pd.pairD := by
      have : ((s2 : Int) + 1 - 1).toNat = s2 := by omega
      rw [this]
      unfold rgD
      rw [List.filterMap_map, List.map_filterMap]
      congr 1
      funext j
      have e5 : ((1 : Int) + (j : Nat)).toNat = j + 1 := by omega
      simp only [Function.comp_def, e5]
      split <;> rfl
    rw [e6]
    refine ss_one <| s_ret <| pv_pn <| pn_add <| pq_nm 6 rfl <| pq_pn <| pn_lst <| pas_cons <| pv_tup <| pas_cons <| pv_int <| pas_cons <| pv_int <| pas_nil ⟨Nat.le_of_ble_eq_true rfl, pas_nil ⟨Nat.le_of_ble_eq_true rfl, ?_, ?_⟩⟩
    · have := kinds_len (s1 := s1) (s2 := s2) (m := m)
      unfold kindsOf at this
      simp only [List.length_append, List.length_map, List.length_cons, List.length_nil] at this ⊢
      omega
    · have e7 : (kindsOf s1 s2 m).map Pd.pairD = (((List.range s1).map fun i => (i + 1, getM m (i + 1))).map Pd.pairD ++ ((List.range s2).filterMap fun j => if j + 1 ∈ m.map (·.2) then none else some (0, j + 1)).map Pd.pairD) ++ [.tup [.int 0, .int 0]] := by
        unfold kindsOf
        rw [List.map_append, List.map_append]; rfl
      rw [← e7]
      exact hR
end FH
set_option Elab.async false
set_option linter.all false
set_option maxRecDepth 100000
set_option maxHeartbeats 4000000
namespace FH
open PySem PySem.Spec PyProof.Rows L2 Pd Fw
variable {P : Program} {wo : World} {K : PySem.W.Frag} {mg : Str → Option Value} {base : Heap}
/-! check_triple, check_words -/
def S_check_triple (C : Addr) (ds : List D) (R : D → Prop) : Prop := ∃ (b : Pt) (t : Tr) (p q : Pl), ds = [bookD C b, bookD C b, trD t] ∧ WF b ∧ TrOk b t p q ∧ R .non
theorem ok_check_triple (c : Ctx K mg) : Cal P wo K mg base 3 (He.ga K "check_triple") ["first", "second", "triple"] [] (spD K (S_check_triple (bC K))) := by
  refine cal0 c.f_check_triple sc_check_triple (fun ds R ⟨_, _, _, _, e, _⟩ => by rw [e]; rfl) (fun _ _ _ _ _ _ us hl => match us, hl with | [_, _, _], _ => rfl) fun cdv A outer s H E hr ds R hS => ?_
  obtain ⟨b, t, p, q, rfl, W, T, hR⟩ := hS
  have h6 := W.ps p T.hp
  refine ss_cons <| s_asg <| pv_nm 2 rfl <| g_tup (.tup _) (gs_cons (g_nm 3 (gs_cons (g_nm 4 (gs_cons (g_nm 5 (gs_nil ?_) sc_check_triple.nd)) sc_check_triple.nd)) sc_check_triple.nd)) rfl
  refine ss_one <| s_if <| pb_not <| pb_pv <| pv_cal (ok_is_matching c) (hr.mono (by decide)) c.g_is_matching <| pas_cons <| pv_calm (pl := _) (ok_Book_slots c) hr c.c_Book c.t_Book_slots <| pv_nm 0 rfl ⟨_, rfl, rfl, pas_cons <| pv_nm 3 rfl <| pas_nil ⟨b, p, by rw [T.ep]; rfl, W.pn, T.hp, pas_cons <| pv_calm (pl := _) (ok_Book_slots c) hr c.c_Book c.t_Book_slots <| pv_nm 1 rfl ⟨_, rfl, rfl, pas_cons <| pv_nm 4 rfl <| pas_nil ⟨b, q, by rw [T.eq]; rfl, W.pn, T.hq, pas_cons <| pv_nm 5 rfl <| pas_nil ⟨_, _, _, rfl, T.mt, by omega, true, rfl, (fun h => nomatch h), fun _ => ss_nil hR⟩⟩⟩⟩⟩
theorem okS_name {s : Str} (h : nameB s = true) : okS s := by
  unfold nameB at h
  simp only [Bool.and_eq_true, List.all_eq_true, decide_eq_true_eq] at h
  have hc : ∀ c ∈ nameChars.cps.toList, c < 0x110000 := by decide +kernel
  show PyData.strOk s = true
  unfold PyData.strOk
  rw [Array.all_eq_true']
  intro c hcm
  exact decide_eq_true (hc c (h.2 c (by simpa using hcm)))
def S_check_words (C : Addr) (ds : List D) (R : D → Prop) : Prop := ∃ b : Pt, ds = [bookD C b, bookD C b] ∧ WF b ∧ R .non
theorem ok_check_words (c : Ctx K mg) : Cal P wo K mg base 1 (He.ga K "check_words") ["first", "second"] [] (spD K (S_check_words (bC K))) := by
  refine cal0 c.f_check_words sc_check_words (fun ds R ⟨_, e, _⟩ => by rw [e]; rfl) (fun _ _ _ _ _ _ us hl => match us, hl with | [_, _], _ => rfl) fun cdv A outer s H E hr ds R hS => ?_
  obtain ⟨b, rfl, W, hR⟩ := hS
  refine ss_one <| s_if <| pb_c <| c_neTS hr.units <| pv_fld <| pv_nm 0 rfl ⟨_, _, _, rfl, c.c_Book, c.n_Book_words, rfl, pv_fld <| pv_nm 1 rfl ⟨_, _, _, rfl, c.c_Book, c.n_Book_words, rfl, b.ws, b.ws, rfl, rfl, fun s hs => okS_name (W.wv s hs), fun s hs => okS_name (W.wv s hs), _, rfl, fun h => ?_, fun _ => ss_nil hR⟩⟩
  rw [decide_eq_true (rfl : b.ws = b.ws)] at h
  exact nomatch h
/-! agree -/
def S_agree (C : Addr) (ds : List D) (R : D → Prop) : Prop := ∃ (b : Pt) (t : Tr) (p q : Pl), ds = [bookD C b, bookD C b, trD t] ∧ WF b ∧ TrOk b t p q ∧ R (.bl (decide (p.2.2 = q.2.2)))
theorem ok_agree (c : Ctx K mg) : Cal P wo K mg base 3 (He.ga K "agree") ["first", "second", "triple"] [] (spD K (S_agree (bC K))) := by
  refine cal0 c.f_agree sc_agree (fun ds R ⟨_, _, _, _, e, _⟩ => by rw [e]; rfl) (fun _ _ _ _ _ _ us hl => match us, hl with | [_, _, _], _ => rfl) fun cdv A outer s H E hr ds R hS => ?_
  obtain ⟨b, t, p, q, rfl, W, T, hR⟩ := hS
  refine ss_one <| s_ret <| pv_c <| c_eqB <| pv_calm (pl := _) (ok_Book_says_yes c) hr c.c_Book c.t_Book_says_yes <| pv_nm 0 rfl ⟨_, rfl, rfl, pas_cons <| pv_ixT <| pv_nm 2 rfl <| pv_int ⟨_, 0, _, .tup _, rfl, rfl, pas_nil ⟨b, p, by rw [T.ep]; rfl, W.pn, T.hp, pv_calm (pl := _) (ok_Book_says_yes c) hr c.c_Book c.t_Book_says_yes <| pv_nm 1 rfl ⟨_, rfl, rfl, pas_cons <| pv_ixT <| pv_nm 2 rfl <| pv_int ⟨_, 1, _, .tup _, rfl, rfl, pas_nil ⟨b, q, by rw [T.eq]; rfl, W.pn, T.hq, _, _, rfl, rfl, hR⟩⟩⟩⟩⟩⟩
/-! behind -/
theorem filterMap_take {α β : Type} (f : α → Option β) {l : List α} {k : Nat} {x : α} (h : l[k]? = some x) : (l.take (k + 1)).filterMap f = (l.take k).filterMap f ++ (f x).toList := by
  rw [List.take_succ, h, List.filterMap_append]
  cases hx : f x <;> simp [hx]
theorem range_take {n k : Nat} (h : k ≤ n) : (List.range n).take k = List.range k := by
  rw [List.take_range, Nat.min_eq_left h]
theorem enD_nats (l : List Nat) (n : Nat) : ∀ {k : Nat} {d : D}, (enD n (natsD l))[k]? = some d → ∃ x, l[k]? = some x ∧ d = Pd.pairD (n + k, x) := by
  intro k d h
  have hk : k < l.length := by have := (List.getElem?_eq_some_iff.mp h).1; rw [enD_len, natsD_len] at this; exact this
  have := enD_get (natsD l) n k (.int (l[k] : Nat)) (by unfold natsD; rw [List.getElem?_map, List.getElem?_eq_getElem hk]; rfl)
  rw [this] at h
  exact ⟨l[k], List.getElem?_eq_getElem hk, (Option.some.inj h).symm⟩
def S_behind (C : Addr) (ds : List D) (R : D → Prop) : Prop := ∃ (b : Pt) (t : Tr) (p q : Pl) (w : Str) (k : Nat × Nat), ds = [bookD C b, bookD C b, trD t, .str w, Pd.pairD k] ∧ WF b ∧ TrOk b t p q ∧ w ∈ b.ws ∧ k ∈ kindsOf p.2.1 q.2.1 t.2.2 ∧ R (trD (behindOf b t w k))
theorem ok_behind (c : Ctx K mg) : Cal P wo K mg base 1 (He.ga K "behind") ["first", "second", "triple", "word", "kind"] [] (spD K (S_behind (bC K))) := by
  refine cal0 c.f_behind sc_behind (fun ds R ⟨_, _, _, _, _, _, e, _⟩ => by rw [e]; rfl) (fun _ _ _ _ _ _ us hl => match us, hl with | [_, _, _, _, _], _ => rfl) fun cdv A outer s H E hr ds R hS => ?_
  obtain ⟨b, t, p, q, w, k, rfl, W, T, hw, hk, hR⟩ := hS
  have hu := hu_of hr
  have hu65 : A.units + 3 + 65 < cLine := by have := hr.un; show (A.units + 3) + 65 < cLine; have e : (A.deeper (envOfC "behind" (defScope s_behind) s.heap.objs.size (He.ga K "behind") cdv)).units = A.units + 3 := rfl; omega
  obtain ⟨k1, k2⟩ := kinds_le T.mt hk
  obtain ⟨hv1, ok1⟩ := W.rule T.hp hw k1
  obtain ⟨hv2, ok2⟩ := W.rule T.hq hw k2
  have l1 := W.len7 T.hp hw k1
  have l2 := W.len7 T.hq hw k2
  rw [T.ep] at hv1 ok1 l1
  rw [T.eq] at hv2 ok2 l2
  have hbh : behindOf b t w k = ((b.rule t.1 w k.1).1, (b.rule t.2.1 w k.2).1, bp k t.2.2 (b.rule t.1 w k.1).2 (b.rule t.2.1 w k.2).2) := rfl
  rw [hbh] at hR
  generalize b.rule t.1 w k.1 = v1 at *
  generalize b.rule t.2.1 w k.2 = v2 at *
  refine ss_cons <| s_asg <| pv_nm 2 rfl <| g_tup (.tup _) (gs_cons (g_nm 5 (gs_cons (g_nm 6 (gs_cons (g_nm 7 (gs_nil ?_) sc_behind.nd)) sc_behind.nd)) sc_behind.nd)) rfl
  refine ss_cons <| s_asg <| pv_dgetT hu <| pt_pv <| pv_fld <| pv_nm 0 rfl ⟨_, _, _, rfl, c.c_Book, c.n_Book_table, rfl, _, rfl, pv_tup <| pas_cons <| pv_nm 5 rfl <| pas_cons <| pv_nm 3 rfl <| pas_cons <| pv_ixT <| pv_nm 4 rfl <| pv_int ⟨_, 0, _, .tup _, rfl, rfl, pas_nil ⟨Nat.le_of_ble_eq_true rfl, keyL (t.1, w, k.1), _, rfl, by rw [tab_val, hv1]; rfl, ?_⟩⟩⟩
  refine g_tup (.tup _) (gs_cons (g_nm 8 (gs_cons (g_nm 9 (gs_nil ?_) sc_behind.nd)) sc_behind.nd)) rfl
  refine ss_cons <| s_asg <| pv_dgetT hu <| pt_pv <| pv_fld <| pv_nm 1 rfl ⟨_, _, _, rfl, c.c_Book, c.n_Book_table, rfl, _, rfl, pv_tup <| pas_cons <| pv_nm 6 rfl <| pas_cons <| pv_nm 3 rfl <| pas_cons <| pv_ixT <| pv_nm 4 rfl <| pv_int ⟨_, 1, _, .tup _, rfl, rfl, pas_nil ⟨Nat.le_of_ble_eq_true rfl, keyL (t.2.1, w, k.2), _, rfl, by rw [tab_val, hv2]; rfl, ?_⟩⟩⟩
  refine g_tup (.tup _) (gs_cons (g_nm 10 (gs_cons (g_nm 11 (gs_nil ?_) sc_behind.nd)) sc_behind.nd)) rfl
  refine ss_cons (s_setN 12 (pn_lst (pas_nil ⟨Nat.le_of_ble_eq_true rfl, ?_⟩)) sc_behind.nd)
  refine ss_cons (s_for (fun i ls' w' => w' = Wd.nil ∧ ∃ x13 x14 x15 x16 x17, ls' = [.im (bookD (bC K) b), .im (bookD (bC K) b), .im (trD t), .im (.str w), .im (Pd.pairD k), .im (.str t.1), .im (.str t.2.1), .im (pairsD t.2.2), .im (.str v1.1), .im (.tup (natsD v1.2)), .im (.str v2.1), .im (.tup (natsD v2.2)),
    .own (((List.range i).flatMap fun i => bpIn k t.2.2 i (v1.2.getD i 0) v2.2).map Pd.pairD), x13, x14, x15, x16, x17]) PassesOwn.never rfl (i_enumT c.z_enumerate <| pv_nm 9 rfl ⟨_, .tup _, ⟨rfl, _, _, _, _, _, rfl⟩, ?_, ?_⟩))
  · rintro i d ls' w' hd ⟨rfl, x13, x14, x15, x16, x17, rfl⟩
    obtain ⟨sv, hs, rfl⟩ := enD_nats v1.2 0 hd
    have hi : i < v1.2.length := (List.getElem?_eq_some_iff.mp hs).1
    have hgs : v1.2.getD i 0 = sv := by rw [List.getD_eq_getElem?_getD, hs]; rfl
    refine g_tup (.tup _) (gs_cons (g_nm 13 (gs_cons (g_nm 14 (gs_nil ?_) sc_behind.nd)) sc_behind.nd)) rfl
    refine ss_one (s_for (fun j ls' w' => w' = Wd.nil ∧ ∃ x15 x16 x17, ls' = [.im (bookD (bC K) b), .im (bookD (bC K) b), .im (trD t), .im (.str w), .im (Pd.pairD k), .im (.str t.1), .im (.str t.2.1), .im (pairsD t.2.2), .im (.str v1.1), .im (.tup (natsD v1.2)), .im (.str v2.1), .im (.tup (natsD v2.2)),
      .own ((((List.range i).flatMap fun i => bpIn k t.2.2 i (v1.2.getD i 0) v2.2) ++ (List.range j).filterMap fun j => if bothR k t.2.2 sv (v2.2.getD j 0) = true then some (i + 1, j + 1) else none).map Pd.pairD), .im (.int ((0 + i : Nat) : Int)), .im (.int (sv : Nat)), x15, x16, x17]) PassesOwn.never rfl (i_enumT c.z_enumerate <| pv_nm 11 rfl ⟨_, .tup _, ⟨rfl, _, _, _, by rw [List.range_zero, List.filterMap_nil, List.append_nil]; rfl⟩, ?_, ?_⟩))
    · rintro j d ls' w' hd ⟨rfl, x15, x16, x17, rfl⟩
      obtain ⟨tv, ht, rfl⟩ := enD_nats v2.2 0 hd
      have hj : j < v2.2.length := (List.getElem?_eq_some_iff.mp ht).1
      have hgt : v2.2.getD j 0 = tv := by rw [List.getD_eq_getElem?_getD, ht]; rfl
      have estep : (List.range (j + 1)).filterMap (fun j => if bothR k t.2.2 sv (v2.2.getD j 0) = true then some (i + 1, j + 1) else none) = (List.range j).filterMap (fun j => if bothR k t.2.2 sv (v2.2.getD j 0) = true then some (i + 1, j + 1) else none) ++ (if bothR k t.2.2 sv tv = true then [(i + 1, j + 1)] else []) := by
        rw [List.range_succ, List.filterMap_append]
        congr 1
        simp only [List.filterMap_cons, List.filterMap_nil, hgt]
        split <;> simp_all
      refine g_tup (.tup _) (gs_cons (g_nm 15 (gs_cons (g_nm 16 (gs_nil ?_) sc_behind.nd)) sc_behind.nd)) rfl
      refine ss_cons (s_set 17 (pv_tup <| pas_cons <| pv_c <| c_eqI <| pv_nm 14 rfl <| pv_ixT <| pv_nm 4 rfl <| pv_int ⟨_, 0, _, .tup _, rfl, rfl, _, _, rfl, rfl, pas_cons <| pv_c <| c_eqI <| pv_nm 16 rfl <| pv_ixT <| pv_nm 4 rfl <| pv_int ⟨_, 1, _, .tup _, rfl, rfl, _, _, rfl, rfl, pas_nil ⟨Nat.le_of_ble_eq_true rfl, ?_⟩⟩⟩) sc_behind.nd)
      have d1 : decide ((sv : Int) = ((k.1 : Nat) : Int)) = decide (sv = k.1) := by rw [Bool.eq_iff_iff, decide_eq_true_eq, decide_eq_true_eq]; omega
      have d2 : decide ((tv : Int) = ((k.2 : Nat) : Int)) = decide (tv = k.2) := by rw [Bool.eq_iff_iff, decide_eq_true_eq, decide_eq_true_eq]; omega
      rw [d1, d2]
      refine ss_one (s_if (PB.imp (R := fun z w' => w' = Wd.nil ∧ z = bothR k t.2.2 sv tv) ?_ fun z w' ⟨e1, e2⟩ => ⟨fun hz => ?_, fun hz => ?_⟩))
      · refine pb_w <| pbw_or <| pb_pv <| pv_allT rfl c.z_all <| pv_nm 17 rfl ⟨_, [decide (sv = k.1), decide (tv = k.2)], .tup _, rfl, _, rfl, ?_⟩
        have ea : ([decide (sv = k.1), decide (tv = k.2)].all fun x => x) = (decide (sv = k.1) && decide (tv = k.2)) := by simp
        have en : ([decide (sv = k.1), decide (tv = k.2)].any fun x => x) = (decide (sv = k.1) || decide (tv = k.2)) := by simp
        rw [ea]
        by_cases hb : (decide (sv = k.1) && decide (tv = k.2)) = true
        · rw [if_pos hb]
          exact ⟨rfl, by unfold bothR; rw [hb]; rfl⟩
        · rw [if_neg hb]
          have hb' : (decide (sv = k.1) && decide (tv = k.2)) = false := by simpa using hb
          refine pbw_or1 <| pb_w <| pbw_and <| pb_not <| pb_pv <| pv_anyT rfl c.z_any <| pv_nm 17 rfl ⟨_, [decide (sv = k.1), decide (tv = k.2)], .tup _, rfl, _, rfl, ?_⟩
          rw [en]
          by_cases hn : (!(decide (sv = k.1) || decide (tv = k.2))) = true
          · rw [if_pos hn]
            exact pbw_and1 <| pb_c <| c_inP hu65 <| pv_tup <| pas_cons <| pv_nm 14 rfl <| pas_cons <| pv_nm 16 rfl <| pas_nil ⟨Nat.le_of_ble_eq_true rfl, pv_nm 7 rfl ⟨(sv, tv), t.2.2, rfl, .ftup _, _, rfl, rfl, by unfold bothR; rw [hb', hn]; simp⟩⟩
          · rw [if_neg hn]
            have hn' : (!(decide (sv = k.1) || decide (tv = k.2))) = false := by simpa using hn
            exact ⟨rfl, by unfold bothR; rw [hb', hn']; rfl⟩
      · subst e1
        rw [hz] at e2
        refine ss_one <| s_append 12 rfl <| pv_tup <| pas_cons <| pv_add <| pv_nm 13 rfl <| pv_int ⟨_, 1, rfl, rfl, pas_cons <| pv_add <| pv_nm 15 rfl <| pv_int ⟨_, 1, rfl, rfl, pas_nil ⟨Nat.le_of_ble_eq_true rfl, ?_, rfl, ?_⟩⟩⟩
        · have q1 := flatMap_len (fun i => bpIn k t.2.2 i (v1.2.getD i 0) v2.2) 7 (List.range i) fun x _ => by
            unfold bpIn
            have := List.length_filterMap_le (fun j => if bothR k t.2.2 (v1.2.getD x 0) (v2.2.getD j 0) = true then some (x + 1, j + 1) else none) (List.range v2.2.length)
            rw [List.length_range] at this
            omega
          have q2 := List.length_filterMap_le (fun j => if bothR k t.2.2 sv (v2.2.getD j 0) = true then some (i + 1, j + 1) else none) (List.range j)
          rw [List.length_range] at q1 q2
          rw [List.length_map, List.length_append]
          omega
        · refine ⟨.im (.int ((0 + j : Nat) : Int)), .im (.int (tv : Nat)), .im (.tup [.bl (decide (sv = k.1)), .bl (decide (tv = k.2))]), ?_⟩
          rw [estep, ← e2, if_pos rfl, ← List.append_assoc, List.map_append (l₂ := [(i + 1, j + 1)])]
          simp [Pd.pairD]
      · subst e1
        rw [hz] at e2
        refine ss_nil ⟨rfl, .im (.int ((0 + j : Nat) : Int)), .im (.int (tv : Nat)), .im (.tup [.bl (decide (sv = k.1)), .bl (decide (tv = k.2))]), ?_⟩
        rw [estep, ← e2, if_neg (by decide), List.append_nil]
        rfl
    · rintro ls' w' ⟨rfl, x15, x16, x17, rfl⟩
      refine ⟨rfl, .im (.int ((0 + i : Nat) : Int)), .im (.int (sv : Nat)), x15, x16, x17, ?_⟩
      rw [enD_len, natsD_len, List.range_succ, List.flatMap_append, List.flatMap_singleton, hgs]
      rfl
  · rintro ls' w' ⟨rfl, x13, x14, x15, x16, x17, rfl⟩
    rw [enD_len, natsD_len]
    exact ss_one <| s_ret <| pv_tup <| pas_cons <| pv_nm 8 rfl <| pas_cons <| pv_nm 10 rfl <| pas_cons <| pv_ftupQ c.z_tuple <| pq_nm 12 rfl <| pas_nil ⟨Nat.le_of_ble_eq_true rfl, hR⟩
end FH
set_option Elab.async false
set_option linter.all false
set_option maxRecDepth 100000
set_option maxHeartbeats 4000000
namespace Fw
open PySem PySem.Spec PyProof.Rows L2 Pd
def pairStep (ys : List Nat) (x : Nat) (m : Mg) : List Mg := ys.filterMap fun y => if y ∈ m.map (·.2) then none else some (m ++ [(x, y)])
def pairingsOf (ys : List Nat) (found : List Mg) (xs : List Nat) : List Mg := xs.foldl (fun found x => found.flatMap (pairStep ys x)) found
def diagW (s sl : Nat) : Mg := (List.range s).filterMap fun i => if i + 1 = sl then none else some (i + 1, i + 1)
end Fw
namespace FH
open PySem PySem.Spec PyProof.Rows L2 Pd Fw
variable {P : Program} {wo : World} {K : PySem.W.Frag} {mg : Str → Option Value} {base : Heap}
/-! steps -/
def stepD (z : Str × (Nat × Nat) × Tr) : D := .tup [.str z.1, Pd.pairD z.2.1, trD z.2.2]
def S_steps (C : Addr) (ds : List D) (R : D → Prop) : Prop := ∃ (b : Pt) (t : Tr) (p q : Pl), ds = [bookD C b, bookD C b, trD t] ∧ WF b ∧ TrOk b t p q ∧ R (.lst ((stepsOf b t p q).map stepD))
theorem ok_steps (c : Ctx K mg) : Cal P wo K mg base 4 (He.ga K "steps") ["first", "second", "triple"] [] (spD K (S_steps (bC K))) := by
  refine cal0 c.f_steps sc_steps (fun ds R ⟨_, _, _, _, e, _⟩ => by rw [e]; rfl) (fun _ _ _ _ _ _ us hl => match us, hl with | [_, _, _], _ => rfl) fun cdv A outer s H E hr ds R hS => ?_
  obtain ⟨b, t, p, q, rfl, W, T, hR⟩ := hS
  have hp6 := W.ps p T.hp
  have hq6 := W.ps q T.hq
  have hkl := kinds_len (s1 := p.2.1) (s2 := q.2.1) (m := t.2.2)
  refine ss_cons <| s_expr <| pv_cal (ok_check_words c) (hr.mono (by decide)) c.g_check_words <| pas_cons <| pv_nm 0 rfl <| pas_cons <| pv_nm 1 rfl <| pas_nil ⟨b, rfl, W, ?_⟩
  refine ss_cons <| s_expr <| pv_cal (ok_check_triple c) (hr.mono (by decide)) c.g_check_triple <| pas_cons <| pv_nm 0 rfl <| pas_cons <| pv_nm 1 rfl <| pas_cons <| pv_nm 2 rfl <| pas_nil ⟨b, t, p, q, rfl, W, T, ?_⟩
  refine ss_cons <| s_asg <| pv_nm 2 rfl <| g_tup (.tup _) (gs_cons (g_nm 3 (gs_cons (g_nm 4 (gs_cons (g_nm 5 (gs_nil ?_) sc_steps.nd)) sc_steps.nd)) sc_steps.nd)) rfl
  refine ss_cons (s_setN 6 (pn_lst (pas_nil ⟨Nat.le_of_ble_eq_true rfl, ?_⟩)) sc_steps.nd)
  refine ss_cons (s_for (fun i ls' w' => w' = Wd.nil ∧ ∃ x7 x8, ls' = [.im (bookD (bC K) b), .im (bookD (bC K) b), .im (trD t), .im (.str t.1), .im (.str t.2.1), .im (pairsD t.2.2), .own (((b.ws.take i).flatMap fun w => (kindsOf p.2.1 q.2.1 t.2.2).map fun k => (w, k, behindOf b t w k)).map stepD), x7, x8]) PassesOwn.never rfl (i_tup <| pv_fld <| pv_nm 0 rfl ⟨_, _, _, rfl, c.c_Book, c.n_Book_words, rfl, _, .tup _, ⟨rfl, _, _, rfl⟩, ?_, ?_⟩))
  · rintro i d ls' w' hd ⟨rfl, x7, x8, rfl⟩
    rw [List.getElem?_map] at hd
    obtain ⟨w, hwi, rfl⟩ := Option.map_eq_some_iff.mp hd
    have hw := List.mem_of_getElem? hwi
    have hil : i < b.ws.length := (List.getElem?_eq_some_iff.mp hwi).1
    refine g_nm 7 ?_ sc_steps.nd
    refine ss_one (s_for (fun j ls' w' => w' = Wd.nil ∧ ∃ x8, ls' = [.im (bookD (bC K) b), .im (bookD (bC K) b), .im (trD t), .im (.str t.1), .im (.str t.2.1), .im (pairsD t.2.2), .own ((((b.ws.take i).flatMap fun w => (kindsOf p.2.1 q.2.1 t.2.2).map fun k => (w, k, behindOf b t w k)) ++ ((kindsOf p.2.1 q.2.1 t.2.2).take j).map fun k => (w, k, behindOf b t w k)).map stepD), .im (.str w), x8]) PassesOwn.never rfl (i_list <|
      pv_cal (ok_kinds c) (hr.mono (by decide)) c.g_kinds <| pas_cons <| pv_calm (pl := _) (ok_Book_slots c) (hr.mono (by decide)) c.c_Book c.t_Book_slots <| pv_nm 0 rfl ⟨_, rfl, rfl, pas_cons <| pv_nm 3 rfl <| pas_nil ⟨b, p, by rw [T.ep]; rfl, W.pn, T.hp, pas_cons <| pv_calm (pl := _) (ok_Book_slots c) (hr.mono (by decide)) c.c_Book c.t_Book_slots <| pv_nm 1 rfl ⟨_, rfl, rfl, pas_cons <| pv_nm 4 rfl <| pas_nil ⟨b, q, by rw [T.eq]; rfl, W.pn, T.hq, pas_cons <| pv_nm 5 rfl <| pas_nil ⟨_, _, _, rfl, T.mt, by omega, by omega, _, rfl, ⟨rfl, x8, by simp⟩, ?_, ?_⟩⟩⟩⟩⟩))
    · rintro j d ls' w' hd ⟨rfl, x8, rfl⟩
      rw [List.getElem?_map] at hd
      obtain ⟨k, hkj, rfl⟩ := Option.map_eq_some_iff.mp hd
      have hk := List.mem_of_getElem? hkj
      refine g_nm 8 ?_ sc_steps.nd
      refine ss_one <| s_append 6 rfl <| pv_tup <| pas_cons <| pv_nm 7 rfl <| pas_cons <| pv_nm 8 rfl <| pas_cons <| pv_cal (ok_behind c) (hr.mono (by decide)) c.g_behind <| pas_cons <| pv_nm 0 rfl <| pas_cons <| pv_nm 1 rfl <| pas_cons <| pv_nm 2 rfl <| pas_cons <| pv_nm 7 rfl <| pas_cons <| pv_nm 8 rfl <| pas_nil ⟨b, t, p, q, w, k, rfl, W, T, hw, hk, pas_nil ⟨Nat.le_of_ble_eq_true rfl, ?_, rfl, .im (Pd.pairD k), ?_⟩⟩
      · have q1 := flatMap_len (fun w => (kindsOf p.2.1 q.2.1 t.2.2).map fun k => (w, k, behindOf b t w k)) 13 (b.ws.take i) fun x _ => by rw [List.length_map]; omega
        have h3 := W.w3
        rw [List.length_map, List.length_append, List.length_map, List.length_take]
        rw [List.length_take] at q1
        have q2 : min i b.ws.length * 13 ≤ 3 * 13 := Nat.mul_le_mul_right _ (by omega)
        omega
      · rw [List.take_succ, hkj]
        simp [stepD]
    · rintro ls' w' ⟨rfl, x8, rfl⟩
      refine ⟨rfl, .im (.str w), x8, ?_⟩
      rw [List.length_map, List.take_length, flatMap_take _ hwi]
  · rintro ls' w' ⟨rfl, x7, x8, rfl⟩
    refine ss_one (sv_fz 6 rfl (s_ret (pv_nm 6 rfl ?_)))
    rw [List.length_map, List.take_length]
    exact hR
/-! without_slot -/
def S_without_slot (C : Addr) (ds : List D) (R : D → Prop) : Prop := ∃ (b : Pt) (p : Pl) (sl : Nat), ds = [bookD C b, .str p.1, .int sl] ∧ WF b ∧ p ∈ b.pl ∧ R (trD (p.1, p.1, diagW p.2.1 sl))
theorem ok_without_slot (c : Ctx K mg) : Cal P wo K mg base 3 (He.ga K "without_slot") ["book", "place", "slot"] [] (spD K (S_without_slot (bC K))) := by
  refine cal0 c.f_without_slot sc_without_slot (fun ds R ⟨_, _, _, e, _⟩ => by rw [e]; rfl) (fun _ _ _ _ _ _ us hl => match us, hl with | [_, _, _], _ => rfl) fun cdv A outer s H E hr ds R hS => ?_
  obtain ⟨b, p, sl, rfl, W, hp, hR⟩ := hS
  have hp6 := W.ps p hp
  refine ss_one <| s_ret <| pv_tup <| pas_cons <| pv_nm 1 rfl <| pas_cons <| pv_nm 1 rfl <| pas_cons <| pv_ftupQ c.z_tuple <| pq_pn <| pn_lcF [("other", 3)] (fun d => match d with | .int i => if i.toNat = sl then none else some (Pd.pairD (i.toNat, i.toNat)) | _ => none) rfl sc_without_slot.nd (blkOk_by (show blkC N_without_slot (defScope s_without_slot) _ _ = true by decide +kernel)) <| i_range2 c.z_range <| pv_int <| pv_add <|
    pv_calm (pl := _) (ok_Book_slots c) hr c.c_Book c.t_Book_slots <| pv_nm 0 rfl ⟨_, rfl, rfl, pas_cons <| pv_nm 1 rfl <| pas_nil ⟨b, p, rfl, W.pn, hp, pv_int ⟨_, 1, rfl, rfl, 1, _, rfl, rfl, by omega, ?_, fun d2 hd2 => ?_, pas_nil ⟨Nat.le_of_ble_eq_true rfl, ?_⟩⟩⟩⟩
  · rw [rgD_len]; omega
  · obtain ⟨i, hi, rfl⟩ := rgD_mem hd2
    have e3 : (1 : Int) + (i : Nat) = ((i + 1 : Nat) : Int) := by omega
    rw [e3]
    refine fun _ _ _ _ _ => g_nm 3 (fun _ _ _ _ _ => t_one <| pb_c <| c_neI <| pv_nm 3 rfl <| pv_nm 2 rfl ⟨_, _, rfl, rfl, _, rfl, rfl, fun h => ?_, fun h => ?_⟩) sc_without_slot.nd
    · have hn : ¬ i + 1 = sl := fun e => by rw [decide_eq_true (by omega)] at h; exact nomatch h
      exact fun _ _ _ _ _ => pv_tup <| pas_cons <| pv_nm 3 rfl <| pas_cons <| pv_nm 3 rfl <| pas_nil ⟨Nat.le_of_ble_eq_true rfl, rfl, by simp only [Int.toNat_natCast]; rw [if_neg hn]; rfl⟩
    · have hn : i + 1 = sl := by
        have h' : decide (((i + 1 : Nat) : Int) = (sl : Int)) = true := by simpa using h
        have := of_decide_eq_true h'
        omega
      simp only [Int.toNat_natCast]
      rw [if_pos hn]
  · have e6 : (rgD 1 ((p.2.1 : Int) + 1 - 1).toNat).filterMap (fun d => match d with | D.int i => if i.toNat = sl then none else some (Pd.pairD (i.toNat, i.toNat)) | _ => none) = (diagW p.2.1 sl).map Pd.pairD := by
      have : ((p.2.1 : Int) + 1 - 1).toNat = p.2.1 := by omega
      rw [this]
      unfold rgD diagW
      rw [List.filterMap_map, List.map_filterMap]
      congr 1
      funext j
      have e5 : ((1 : Int) + (j : Nat)).toNat = j + 1 := by omega
      simp only [Function.comp_def, e5]
      split <;> rfl
    rw [e6]
    exact hR
/-! pairings -/
def S_pairings (ds : List D) (R : D → Prop) : Prop := ∃ xs ys : List Nat, ds = [.lst (natsD xs), .lst (natsD ys)] ∧ xs.length ≤ 3 ∧ ys.length ≤ 3 ∧ R (.lst ((pairingsOf ys [[]] xs).map pairsD))
theorem pairings_len (ys : List Nat) : ∀ (xs : List Nat) (f : List Mg), (pairingsOf ys f xs).length ≤ f.length * ys.length ^ xs.length
  | [], f => by simp [pairingsOf]
  | x :: xs, f => by
    have h := pairings_len ys xs (f.flatMap (pairStep ys x))
    have h2 := flatMap_len (pairStep ys x) ys.length f fun m _ => by unfold pairStep; exact List.length_filterMap_le _ _
    show (pairingsOf ys (f.flatMap (pairStep ys x)) xs).length ≤ _
    rw [List.length_cons, Nat.pow_succ]
    refine Nat.le_trans h ?_
    rw [Nat.mul_comm (ys.length ^ xs.length), ← Nat.mul_assoc]
    exact Nat.mul_le_mul_right _ h2
theorem pairings_take {ys : List Nat} {f : List Mg} {xs : List Nat} {k : Nat} {x : Nat} (h : xs[k]? = some x) : pairingsOf ys f (xs.take (k + 1)) = (pairingsOf ys f (xs.take k)).flatMap (pairStep ys x) := by
  unfold pairingsOf
  rw [List.take_succ, h, List.foldl_append]; rfl
theorem pow_3 {a k : Nat} (ha : a ≤ 3) (hk : k ≤ 3) : a ^ k ≤ 27 := Nat.le_trans (Nat.pow_le_pow_left ha k) (Nat.le_trans (Nat.pow_le_pow_right (by decide) hk) (by decide))
theorem pairings_lens (ys : List Nat) : ∀ (xs : List Nat) (f : List Mg) (c : Nat), (∀ m ∈ f, m.length ≤ c) → ∀ m ∈ pairingsOf ys f xs, m.length ≤ c + xs.length
  | [], f, c, h, m, hm => by simpa using h m hm
  | x :: xs, f, c, h, m, hm => by
    have := pairings_lens ys xs (f.flatMap (pairStep ys x)) (c + 1) (fun m' hm' => by
      obtain ⟨m0, h0, h1⟩ := List.mem_flatMap.mp hm'
      unfold pairStep at h1
      obtain ⟨y, hy, e⟩ := List.mem_filterMap.mp h1
      split at e
      · cases e
      · cases e
        rw [List.length_append, List.length_singleton]
        have := h m0 h0
        omega) m hm
    rw [List.length_cons]
    omega
theorem ok_pairings (c : Ctx K mg) : Cal P wo K mg base 1 (He.ga K "pairings") ["first", "second"] [] (spD K S_pairings) := by
  refine cal0 c.f_pairings sc_pairings (fun ds R ⟨_, _, e, _⟩ => by rw [e]; rfl) (fun _ _ _ _ _ _ us hl => match us, hl with | [_, _], _ => rfl) fun cdv A outer s H E hr ds R hS => ?_
  obtain ⟨xs, ys, rfl, hx, hy, hR⟩ := hS
  refine ss_cons (s_setN 2 (pn_lst <| pas_cons <| pv_ftup0 <| pas_nil ⟨Nat.le_of_ble_eq_true rfl, ?_⟩) sc_pairings.nd)
  refine ss_cons (s_for (fun k ls' w' => w' = Wd.nil ∧ ∃ x3 x4 x5 x6, ls' = [.im (.lst (natsD xs)), .im (.lst (natsD ys)), .own ((pairingsOf ys [[]] (xs.take k)).map pairsD), x3, x4, x5, x6, .no, .no]) PassesOwn.never rfl (i_list <| pv_nm 0 rfl ⟨_, rfl, ⟨rfl, _, _, _, _, rfl⟩, ?_, ?_⟩))
  · rintro k d ls' w' hd ⟨rfl, x3, x4, x5, x6, rfl⟩
    unfold natsD at hd
    rw [List.getElem?_map] at hd
    obtain ⟨x, hxk, rfl⟩ := Option.map_eq_some_iff.mp hd
    have hkl : k < xs.length := (List.getElem?_eq_some_iff.mp hxk).1
    have hfl : (pairingsOf ys [[]] (xs.take k)).length ≤ 27 := by
      have h1 := pairings_len ys (xs.take k) [[]]
      have h2 := pow_3 (a := ys.length) (k := (xs.take k).length) hy (by rw [List.length_take]; omega)
      simp only [List.length_singleton, Nat.one_mul] at h1
      omega
    have hml : ∀ m ∈ pairingsOf ys [[]] (xs.take k), m.length ≤ 3 := fun m hm => by
      have := pairings_lens ys (xs.take k) [[]] 0 (by simp) m hm
      rw [List.length_take] at this
      omega
    have etake := pairings_take (ys := ys) (f := [[]]) hxk
    generalize pairingsOf ys [[]] (xs.take k) = fs at hfl hml etake
    refine g_nm 3 ?_ sc_pairings.nd
    refine ss_fz 2 rfl ?_
    refine ss_cons (s_setN 4 (pn_lst (pas_nil ⟨Nat.le_of_ble_eq_true rfl, ?_⟩)) sc_pairings.nd)
    refine ss_cons (s_for (fun j ls' w' => w' = Wd.nil ∧ ∃ x5 x6, ls' = [.im (.lst (natsD xs)), .im (.lst (natsD ys)), .im (.lst (fs.map pairsD)), .im (.int (x : Nat)), .own (((fs.take j).flatMap (pairStep ys x)).map pairsD), x5, x6, .no, .no]) PassesOwn.never rfl (i_list <| pv_nm 2 rfl ⟨_, rfl, ⟨rfl, _, _, rfl⟩, ?_, ?_⟩))
    · rintro j d ls' w' hd ⟨rfl, x5, x6, rfl⟩
      rw [List.getElem?_map] at hd
      obtain ⟨m, hmj, rfl⟩ := Option.map_eq_some_iff.mp hd
      have hm3 := hml m (List.mem_of_getElem? hmj)
      have hjl : j < fs.length := (List.getElem?_eq_some_iff.mp hmj).1
      have e2 : (m.map Pd.pairD).map (fun d => match d with | .tup [_, x] => x | _ => .non) = natsD (m.map (·.2)) := by unfold natsD; rw [List.map_map, List.map_map]; rfl
      refine g_nm 5 ?_ sc_pairings.nd
      refine ss_cons (s_setN 6 (pn_lcM [("_", 7), ("two", 8)] (fun d => match d with | .tup [_, x] => x | _ => .non) rfl sc_pairings.nd (blkOk_by (show blkC N_pairings (defScope s_pairings) _ _ = true by decide +kernel)) (i_tup <| pv_nm 5 rfl ⟨_, .ftup _, by rw [List.length_map]; omega, fun d2 hd2 => ?_, ?_⟩)) sc_pairings.nd)
      · obtain ⟨z, hz, rfl⟩ := List.mem_map.mp hd2
        exact fun _ _ _ _ _ => g_tup (.tup _) (gs_cons (g_nm 7 (gs_cons (g_nm 8 (gs_nil (fun _ _ _ _ _ => pv_nm 8 rfl ⟨rfl, rfl⟩)) sc_pairings.nd)) sc_pairings.nd)) rfl
      rw [e2]
      refine ss_fz 6 rfl (ss_one (s_extend 4 rfl (pn_lcF [("two", 8)] (fun d => match d with | .int i => if i.toNat ∈ m.map (·.2) then none else some (pairsD (m ++ [(x, i.toNat)])) | _ => none) rfl sc_pairings.nd (blkOk_by (show blkC N_pairings (defScope s_pairings) _ _ = true by decide +kernel)) (i_list <| pv_nm 1 rfl ⟨_, rfl, by rw [natsD_len]; omega, fun d2 hd2 => ?_, ?_, ?_⟩))))
      · obtain ⟨y, hyy, rfl⟩ := List.mem_map.mp hd2
        refine fun _ _ _ _ _ => g_nm 8 (fun _ _ _ _ _ => t_one <| pb_c <| c_notInL <| pv_nm 8 rfl <| pq_pv <| pv_nm 6 rfl ⟨_, rfl, _, by rw [nats_ints]; exact .int (y : Int) _, _, rfl, rfl, fun h => ?_, fun h => ?_⟩) sc_pairings.nd
        · have hn : y ∉ m.map (·.2) := fun hm' => by
            have : (y : Int) ∈ (m.map (·.2)).map fun n : Nat => (n : Int) := List.mem_map.mpr ⟨_, hm', rfl⟩
            rw [decide_eq_true this] at h
            exact nomatch h
          refine fun _ _ _ _ _ => pv_addF <| pv_nm 5 rfl <| pv_tupF <| pas_cons <| pv_tup <| pas_cons <| pv_nm 3 rfl <| pas_cons <| pv_nm 8 rfl <| pas_nil ⟨Nat.le_of_ble_eq_true rfl, pas_nil ⟨Nat.le_of_ble_eq_true rfl, _, _, rfl, rfl, ?_, rfl, ?_⟩⟩
          · rw [List.length_map]; simp; omega
          · simp only [Int.toNat_natCast]
            rw [if_neg hn]
            simp [pairsD, Pd.pairD]
        · have hn : y ∈ m.map (·.2) := by
            have h' : decide ((y : Int) ∈ (m.map (·.2)).map fun n : Nat => (n : Int)) = true := by simpa using h
            obtain ⟨n, hn, e⟩ := List.mem_map.mp (of_decide_eq_true h')
            have : n = y := by omega
            rw [← this]; exact hn
          simp only [Int.toNat_natCast]
          rw [if_pos hn]
      · have q1 := flatMap_len (pairStep ys x) 3 (fs.take j) fun m _ => by unfold pairStep; exact Nat.le_trans (List.length_filterMap_le _ _) hy
        rw [List.length_take] at q1
        have q2 : min j fs.length * 3 ≤ 27 * 3 := Nat.mul_le_mul_right _ (by omega)
        have q3 := List.length_filterMap_le (fun d => match d with | D.int i => if i.toNat ∈ m.map (·.2) then none else some (pairsD (m ++ [(x, i.toNat)])) | _ => none) (natsD ys)
        rw [natsD_len] at q3
        rw [List.length_map]
        omega
      · have e6 : (natsD ys).filterMap (fun d => match d with | D.int i => if i.toNat ∈ m.map (·.2) then none else some (pairsD (m ++ [(x, i.toNat)])) | _ => none) = (pairStep ys x m).map pairsD := by
          unfold natsD pairStep
          rw [List.filterMap_map, List.map_filterMap]
          congr 1
          funext y
          simp only [Function.comp_def, Int.toNat_natCast]
          split <;> rfl
        refine ⟨rfl, .im (pairsD m), .im (.lst (natsD (m.map (·.2)))), ?_⟩
        rw [e6, flatMap_take _ hmj, List.map_append]
        rfl
    · rintro ls' w' ⟨rfl, x5, x6, rfl⟩
      rw [List.length_map, List.take_length]
      refine ss_one (s_move 4 2 (by decide) rfl ⟨rfl, .im (.int (x : Nat)), .no, x5, x6, ?_⟩ sc_pairings.nd)
      rw [etake]
      rfl
  · rintro ls' w' ⟨rfl, x3, x4, x5, x6, rfl⟩
    refine ss_one (sv_fz 2 rfl (s_ret (pv_nm 2 rfl ?_)))
    rw [natsD_len, List.take_length]
    exact hR
end FH
set_option Elab.async false
set_option linter.all false
set_option maxRecDepth 100000
set_option maxHeartbeats 4000000
namespace FH
open PySem PySem.Spec PyProof.Rows L2 Pd Fw
variable {P : Program} {wo : World} {K : PySem.W.Frag} {mg : Str → Option Value} {base : Heap}
/-- numbers below 1009 -/
def NB (l : List Int) : Prop := ∀ x ∈ l, 0 ≤ x ∧ x < 1009
theorem NB.app {l : List Int} {x : Int} (h : NB l) (hx : 0 ≤ x ∧ x < 1009) : NB (l ++ [x]) := fun y hy => by
  rcases List.mem_append.mp hy with q | q
  · exact h y q
  · rw [List.mem_singleton.mp q]; exact hx
theorem mod1009 (x : Int) : 0 ≤ x % 1009 ∧ x % 1009 < 1009 := ⟨Int.emod_nonneg _ (by decide), Int.emod_lt_of_pos _ (by decide)⟩
def S_law_row (ds : List D) (R : D → Prop) : Prop := ∃ (x : Int) (n : Nat), ds = [.int x, .int n] ∧ n ≤ 1000 ∧ ∀ l : List Int, l.length = n → NB l → R (.lst (l.map .int))
theorem ok_law_row (c : Ctx K mg) : Cal P wo K mg base 1 (He.ga K "_law_row") ["_law_cell", "_law_many"] [] (spD K S_law_row) := by
  refine cal0 c.f_law_row sc_law_row (fun ds R ⟨_, _, e, _⟩ => by rw [e]; rfl) (fun _ _ _ _ _ _ us hl => match us, hl with | [_, _], _ => rfl) fun cdv A outer s H E hr ds R hS => ?_
  obtain ⟨x, n, rfl, hn, hR⟩ := hS
  refine ss_cons (s_setN 2 (pn_lst (pas_nil ⟨Nat.le_of_ble_eq_true rfl, ?_⟩)) sc_law_row.nd)
  refine ss_cons (s_set 3 (pv_abs c.z_abs <| pv_nm 0 rfl ⟨_, rfl, ?_⟩) sc_law_row.nd)
  refine ss_cons (s_set 4 (pv_mod <| pv_intI c.z_int <| pv_add <| pv_mul2 <| pv_nm 3 rfl <| pv_int ⟨_, _, rfl, rfl, .inr (by decide), pv_int ⟨_, _, rfl, rfl, _, rfl, pv_int ⟨_, _, rfl, rfl, by decide, ?_⟩⟩⟩) sc_law_row.nd)
  refine ss_cons (s_for (fun k ls' w' => w' = Wd.nil ∧ ∃ (l : List Int) (r m : Int) (y : L), l.length = k ∧ NB l ∧ 0 ≤ m ∧ m < 2147483647 ∧ ls' = [.im (.int x), .im (.int (n : Nat)), .own (l.map .int), .im (.int r), .im (.int m), y]) PassesOwn.never rfl (i_range1 c.z_range <| pv_nm 1 rfl ⟨n, rfl, by omega, ⟨rfl, [], _, _, _, rfl, (fun x hx => by cases hx), Int.emod_nonneg _ (by decide), Int.emod_lt_of_pos _ (by decide), rfl⟩, ?_, ?_⟩))
  · rintro k d ls' w' hd ⟨rfl, l, r, m, y, hl, hb, hm0, hm1, rfl⟩
    obtain ⟨hk, rfl⟩ := rgD_get hd
    refine g_nm 5 ?_ sc_law_row.nd
    refine ss_cons (s_set 4 (pv_mod <| pv_intI c.z_int <| pv_add <| pv_mul2 <| pv_nm 4 rfl <| pv_int ⟨_, _, rfl, rfl, .inr (by decide), pv_mul2 <| pv_int <| pv_add <| pv_nm 5 rfl <| pv_int ⟨_, _, rfl, rfl, _, _, rfl, rfl, .inl (by decide), _, _, rfl, rfl, _, rfl, pv_int ⟨_, _, rfl, rfl, by decide, ?_⟩⟩⟩) sc_law_row.nd)
    have hm2 : ∀ z : Int, 0 ≤ z % 2147483629 ∧ z % 2147483629 < 2147483647 := fun z => ⟨Int.emod_nonneg _ (by decide), Int.lt_trans (Int.emod_lt_of_pos _ (by decide)) (by decide)⟩
    refine ss_one (s_if (pb_c <| c_ge <| pv_abs c.z_abs <| pv_nm 0 rfl ⟨_, rfl, pv_pow <| pv_int <| pv_int ⟨_, _, rfl, rfl, ⟨by decide, by decide, by decide⟩, _, _, rfl, rfl, _, rfl, fun _ => ?_, fun _ => ?_⟩⟩))
    · refine ss_cons <| s_append 2 rfl <| pv_mod <| pv_intI c.z_int <| pv_nm 3 rfl ⟨_, rfl, pv_int ⟨_, _, rfl, rfl, by decide, by rw [List.length_map]; omega, ?_⟩⟩
      refine ss_one (s_set 3 (pv_fdiv <| pv_nm 3 rfl <| pv_int ⟨_, _, rfl, rfl, ⟨by decide, by decide⟩, rfl, l ++ [r % 1009], _, _, _, by rw [List.length_append, List.length_singleton, hl], hb.app (mod1009 r), (hm2 _).1, (hm2 _).2, by rw [List.map_append]; rfl⟩) sc_law_row.nd)
    · refine ss_one <| s_append 2 rfl <| pv_mod <| pv_intI c.z_int <| pv_fdiv <| pv_nm 4 rfl <| pv_int ⟨_, _, rfl, rfl, ⟨by decide, by decide⟩, _, rfl, pv_int ⟨_, _, rfl, rfl, by decide, by rw [List.length_map]; omega, rfl, l ++ [_], _, _, _, by rw [List.length_append, List.length_singleton, hl], hb.app (mod1009 _), (hm2 _).1, (hm2 _).2, by rw [List.map_append]; rfl⟩⟩
  · rintro ls' w' ⟨rfl, l, r, m, y, hl, hb, hm0, hm1, rfl⟩
    rw [rgD_len] at hl
    exact ss_one (sv_fz 2 rfl (s_ret (pv_nm 2 rfl (hR l hl hb))))
/-! _law_numbers -/
def S_law_numbers (ds : List D) (R : D → Prop) : Prop := ∃ xs : List Int, ds = [.lsq (xs.map .int), .int 190] ∧ ∀ l : List Int, l.length = 190 → NB l → R (.lst (l.map .int))
theorem ok_law_numbers (c : Ctx K mg) : Cal P wo K mg base 2 (He.ga K "_law_numbers") ["_law_script", "_law_many"] [] (spD K S_law_numbers) := by
  refine cal0 c.f_law_numbers sc_law_numbers (fun ds R ⟨_, e, _⟩ => by rw [e]; rfl) (fun _ _ _ _ _ _ us hl => match us, hl with | [_, _], _ => rfl) fun cdv A outer s H E hr ds R hS => ?_
  obtain ⟨xs, rfl, hR⟩ := hS
  refine ss_cons (s_set 2 (pv_pn <| pn_sliceQ <| pv_nm 0 rfl ⟨_, rfl, pov_none <| pov_some <| pv_int ⟨63, rfl, ?_⟩⟩) sc_law_numbers.nd)
  have ec : cutD (xs.map D.int) none (some 63) = (xs.take 63).map .int := by
    rw [show (63 : Int) = ((63 : Nat) : Int) from rfl, cut_to, List.map_take]
  rw [ec]
  have hl63 : (xs.take 63).length ≤ 63 := by rw [List.length_take]; omega
  generalize xs.take 63 = cs at hl63
  refine ss_cons (s_set 3 (pv_add <| pv_int <| pv_fdiv <| pv_nm 1 rfl <| pv_max2 rfl c.z_max <| pv_int <| pv_lenQ c.z_len <| pq_pv <| pv_nm 2 rfl ⟨_, rfl, _, _, rfl, rfl, _, _, rfl, rfl, ⟨by rw [List.length_map]; split <;> omega, by rw [List.length_map]; split <;> omega⟩, _, _, rfl, rfl, ?_⟩) sc_law_numbers.nd)
  have en : ∃ n : Nat, n ≤ 191 ∧ (1 + (190 : Int) / (if (((cs.map D.int).length : Nat) : Int) > 1 then (((cs.map D.int).length : Nat) : Int) else 1)) = (n : Int) := by
    have h1 : (1 : Int) ≤ (if (((cs.map D.int).length : Nat) : Int) > 1 then (((cs.map D.int).length : Nat) : Int) else 1) := by split <;> omega
    generalize (if (((cs.map D.int).length : Nat) : Int) > 1 then (((cs.map D.int).length : Nat) : Int) else 1) = z at h1
    have h2 : (0 : Int) ≤ 190 / z := Int.ediv_nonneg (by decide) (by omega)
    have h3 : (190 : Int) / z ≤ 190 := Int.ediv_le_self _ (by decide)
    exact ⟨(1 + 190 / z).toNat, by omega, by omega⟩
  obtain ⟨n, hn, en⟩ := en
  rw [en]
  refine ss_cons (s_setN 4 (pn_lst (pas_nil ⟨Nat.le_of_ble_eq_true rfl, ?_⟩)) sc_law_numbers.nd)
  refine ss_cons (s_for (fun k ls' w' => w' = Wd.nil ∧ ∃ (l : List Int) (y z : L), l.length = k * n ∧ NB l ∧ ls' = [.im (.lsq (xs.map .int)), .im (.int 190), .im (.lst (cs.map .int)), .im (.int (n : Nat)), .own (l.map .int), y, z]) PassesOwn.never rfl (i_list <| pv_nm 2 rfl ⟨_, rfl, ⟨rfl, [], _, _, by simp, (fun x hx => by cases hx), rfl⟩, ?_, ?_⟩))
  · rintro k d ls' w' hd ⟨rfl, l, y, z, hl, hb, rfl⟩
    rw [List.getElem?_map] at hd
    obtain ⟨x, hxk, rfl⟩ := Option.map_eq_some_iff.mp hd
    have hkl : k < cs.length := (List.getElem?_eq_some_iff.mp hxk).1
    refine g_nm 5 ?_ sc_law_numbers.nd
    refine ss_one (s_for (fun j ls' w' => w' = Wd.nil ∧ ∃ (l' : List Int) (z : L), l'.length = k * n + j ∧ NB l' ∧ ls' = [.im (.lsq (xs.map .int)), .im (.int 190), .im (.lst (cs.map .int)), .im (.int (n : Nat)), .own (l'.map .int), .im (.int x), z]) PassesOwn.never rfl (i_list <| pv_cal (ok_law_row c) hr c.g_law_row <| pas_cons <| pv_nm 5 rfl <| pas_cons <| pv_nm 3 rfl <| pas_nil ⟨x, n, rfl, by omega, fun q hq1 hq2 => ⟨_, rfl, ⟨rfl, l, _, hl, hb, rfl⟩, ?_, ?_⟩⟩))
    · rintro j d ls' w' hd ⟨rfl, l', z, hl', hb', rfl⟩
      rw [List.getElem?_map] at hd
      obtain ⟨u, huj, rfl⟩ := Option.map_eq_some_iff.mp hd
      have hjl : j < q.length := (List.getElem?_eq_some_iff.mp huj).1
      refine g_nm 6 ?_ sc_law_numbers.nd
      refine ss_one <| s_append 4 rfl <| pv_nm 6 rfl ⟨?_, rfl, l' ++ [u], .im (.int u), by rw [List.length_append, List.length_singleton, hl']; omega, hb'.app (hq2 u (List.mem_of_getElem? huj)), by rw [List.map_append]; rfl⟩
      rw [List.length_map, hl']
      have : k * n ≤ 63 * 191 := Nat.mul_le_mul (by omega) hn
      omega
    · rintro ls' w' ⟨rfl, l', z, hl', hb', rfl⟩
      refine ⟨rfl, l', .im (.int x), z, ?_, hb', rfl⟩
      rw [List.length_map] at hl'
      rw [hl', hq1, Nat.succ_mul]
  · rintro ls' w' ⟨rfl, l, y, z, hl, hb, rfl⟩
    have hl2 : l.length ≤ 63 * 191 := by
      rw [hl, List.length_map]
      exact Nat.mul_le_mul hl63 hn
    refine ss_cons (s_while (fun m ls' w' => w' = Wd.nil ∧ ∃ l : List Int, m = 190 - l.length ∧ l.length ≤ 63 * 191 + 190 ∧ NB l ∧ ls' = [.im (.lsq (xs.map .int)), .im (.int 190), .im (.lst (cs.map .int)), .im (.int (n : Nat)), .own (l.map .int), y, z]) (190 - l.length) PassesOwn.never ⟨rfl, l, rfl, by omega, hb, rfl⟩ ?_)
    rintro m ls' w' ⟨rfl, l, hm, hl3, hb, rfl⟩
    refine pb_c <| c_lt <| pv_lenQ c.z_len <| pq_nm 4 rfl <| pv_nm 1 rfl ⟨_, _, rfl, rfl, _, rfl, fun h => ?_, fun h => ?_⟩
    · have hlt : l.length < 190 := by have := of_decide_eq_true h; rw [List.length_map] at this; omega
      exact ss_one <| s_append 4 rfl <| pv_int ⟨by rw [List.length_map]; omega, 190 - (l ++ [(0 : Int)]).length, by rw [List.length_append, List.length_singleton]; omega, rfl, l ++ [0], rfl, by rw [List.length_append, List.length_singleton]; omega, hb.app ⟨by decide, by decide⟩, by rw [List.map_append]; rfl⟩
    · have hge : 190 ≤ l.length := by have := of_decide_eq_false h; rw [List.length_map] at this; omega
      refine ss_one <| s_ret <| pv_pn <| pn_slice <| pq_nm 4 rfl <| pov_none <| pov_some <| pv_nm 1 rfl ⟨190, rfl, ?_⟩
      have ec2 : cutD (l.map D.int) none (some 190) = (l.take 190).map .int := by
        rw [show (190 : Int) = ((190 : Nat) : Int) from rfl, cut_to, List.map_take]
      rw [ec2]
      exact hR _ (by rw [List.length_take]; omega) fun x hx => hb x (List.mem_of_mem_take hx)
end FH
set_option Elab.async false
set_option linter.all false
set_option maxRecDepth 100000
set_option maxHeartbeats 4000000
namespace Fw
open PySem PySem.Spec PyProof.Rows L2 Pd
/-! ### drawn names -/
def letter (i : Nat) : Nat := nameChars.cps.toList.getD i 0
def ltrB (s : Str) : Bool := s.cps.toList.any fun c => decide (97 ≤ c ∧ c ≤ 100)
def mkName (a p t : Nat) (r : List Nat) : Str := ⟨([letter a] ++ r.take p ++ [letter t] ++ r.drop p).toArray⟩
theorem letters_len : nameChars.cps.toList.length = 36 := by decide +kernel
theorem letter_mem {i : Nat} (h : i < 36) : letter i ∈ nameChars.cps.toList := by
  unfold letter
  have h' : i < nameChars.cps.toList.length := by rw [letters_len]; exact h
  rw [List.getD_eq_getElem?_getD, List.getElem?_eq_getElem h']
  exact List.getElem_mem h'
theorem letter_low : ∀ i, i < 26 → letter i ∉ digits.cps.toList := by decide +kernel
theorem letter_abc : ∀ i, i < 4 → 97 ≤ letter i ∧ letter i ≤ 100 := by decide +kernel
theorem letter_inj4 : ∀ i, i < 4 → ∀ j, j < 4 → letter i = letter j → i = j := by decide +kernel
theorem mkName_ok {a p t : Nat} {r : List Nat} (ha : a < 26) (ht : t < 4) (hr : ∀ c ∈ r, c ∈ nameChars.cps.toList) (hl : r.length ≤ 9) : nameB (mkName a p t r) = true ∧ ltrB (mkName a p t r) = true := by
  have e : (mkName a p t r).cps.toList = letter a :: (r.take p ++ [letter t] ++ r.drop p) := by simp [mkName]
  have hlen : (mkName a p t r).length = r.length + 2 := by
    show (mkName a p t r).cps.size = _
    rw [← Array.length_toList, e]
    simp
    omega
  constructor
  · unfold nameB
    rw [e, hlen, decide_eq_true (by omega), Bool.true_and]
    have h1 : decide (letter a ∈ digits.cps.toList) = false := decide_eq_false (letter_low a ha)
    show (!decide (letter a ∈ digits.cps.toList) && _) = true
    rw [h1, Bool.not_false, Bool.true_and, List.all_eq_true]
    intro c hc
    refine decide_eq_true ?_
    simp only [List.mem_cons, List.mem_append, List.mem_singleton, List.append_assoc, List.not_mem_nil, or_false] at hc
    rcases hc with rfl | h | rfl | h
    · exact letter_mem (by omega)
    · exact hr c (List.mem_of_mem_take h)
    · exact letter_mem (by omega)
    · exact hr c (List.mem_of_mem_drop h)
  · unfold ltrB
    rw [e, List.any_eq_true]
    exact ⟨letter t, by simp, decide_eq_true (letter_abc t ht)⟩
theorem mkName_inj {a a' p t t' : Nat} {r : List Nat} (ht : t < 4) (ht' : t' < 4) (hp : p ≤ r.length) (h : mkName a p t r = mkName a' p t' r) : t = t' := by
  have h1 : (mkName a p t r).cps.toList[p + 1]? = (mkName a' p t' r).cps.toList[p + 1]? := by rw [h]
  have at_ : ∀ a t, (mkName a p t r).cps.toList[p + 1]? = some (letter t) := fun a t => by
    have e : (mkName a p t r).cps.toList = (letter a :: r.take p) ++ (letter t :: r.drop p) := by simp [mkName]
    rw [e, List.getElem?_append_right (by simp; omega)]
    have : p + 1 - (letter a :: r.take p).length = 0 := by simp; omega
    rw [this]; rfl
  rw [at_, at_] at h1
  exact letter_inj4 t ht t' ht' (Option.some.inj h1)
/-- drawn names -/
structure Names (l : List Str) (n : Nat) : Prop where
  len : l.length = n
  nd : l.Nodup
  ok : ∀ s ∈ l, nameB s = true ∧ ltrB s = true
end Fw
namespace FH
open PySem PySem.Spec PyProof.Rows L2 Pd Fw
variable {P : Program} {wo : World} {K : PySem.W.Frag} {mg : Str → Option Value} {base : Heap}
theorem atI_letter {i : Int} (h0 : 0 ≤ i) (h1 : i < 36) : atI nameChars.cps.toList i = some (letter i.toNat) := by
  have e : i = ((i.toNat : Nat) : Int) := by omega
  rw [e]
  refine atI_nat ?_
  unfold letter
  have h' : i.toNat < nameChars.cps.toList.length := by rw [letters_len]; omega
  rw [Int.toNat_natCast, List.getD_eq_getElem?_getD, List.getElem?_eq_getElem h']; rfl
theorem str_ext {a b : Str} (h : a.cps.toList = b.cps.toList) : a = b := by
  obtain ⟨a⟩ := a
  obtain ⟨b⟩ := b
  have : a = b := by
    have := congrArg List.toArray h
    simpa using this
  rw [this]
theorem len_one (c : Nat) : (⟨#[c]⟩ : Str).length = 1 := rfl
theorem cps_app (a b : Str) : (a ++ b).cps.toList = a.cps.toList ++ b.cps.toList := TL.tl_append a b
theorem len_app (a b : Str) : (a ++ b).length = a.length + b.length := by
  rw [str_len, str_len, str_len, cps_app, List.length_append]
theorem joinL_single : ∀ l : List Nat, TL.joinL [] (l.map fun c => [c]) = l
  | [] => rfl
  | [c] => rfl
  | c :: d :: r => by
    have := joinL_single (d :: r)
    simp only [List.map_cons, TL.joinL] at this ⊢
    rw [this]; rfl
theorem join_chars (l : List Nat) : (Txt.join Str.empty (l.map fun c => (⟨#[c]⟩ : Str))).cps.toList = l := by
  rw [TL.join_eq]
  have := TL.tl_join Str.empty (l.map fun c => (⟨#[c]⟩ : Str))
  rw [List.map_map] at this
  have e : (l.map (TL.tl ∘ fun c => (⟨#[c]⟩ : Str))) = l.map fun c => [c] := rfl
  rw [e] at this
  exact this.trans (joinL_single l)
def S_law_names (ds : List D) (R : D → Prop) : Prop := ∃ (x : Int) (n : Nat), ds = [.int x, .int n] ∧ n ≤ 4 ∧ ∀ l : List Str, Names l n → R (.lst (l.map .str))
theorem ok_law_names (c : Ctx K mg) : Cal P wo K mg base 1 (He.ga K "_law_names") ["_law_number", "_law_many"] [] (spD K S_law_names) := by
  refine cal0 c.f_law_names sc_law_names (fun ds R ⟨_, _, e, _⟩ => by rw [e]; rfl) (fun _ _ _ _ _ _ us hl => match us, hl with | [_, _], _ => rfl) fun cdv A outer s H E hr ds R hS => ?_
  obtain ⟨x, n, rfl, hn, hR⟩ := hS
  have s0 : 0 ≤ x % 10 := Int.emod_nonneg _ (by decide)
  have s1 : x % 10 < 10 := Int.emod_lt_of_pos _ (by decide)
  refine ss_cons (s_set 2 (pv_str ?_) sc_law_names.nd)
  refine ss_cons (s_set 3 (pv_mod <| pv_intI c.z_int <| pv_nm 0 rfl ⟨_, rfl, pv_int ⟨_, _, rfl, rfl, by decide, ?_⟩⟩) sc_law_names.nd)
  have es : x % 10 = (((x % 10).toNat : Nat) : Int) := by omega
  have hsz : (x % 10).toNat ≤ 9 := by omega
  rw [es]
  generalize (x % 10).toNat = sz at hsz
  refine ss_cons (s_set 4 (pv_joinQ <| pv_str ⟨Str.empty, rfl, pq_pn <| pn_lcM [("_law_k", 5)] (fun d => match d with | .int k => .str ⟨#[letter ((x + 7 * k * k) % 36).toNat]⟩ | _ => .non) rfl sc_law_names.nd (blkOk_by (show blkC N_law_names (defScope s_law_names) _ _ = true by decide +kernel)) <| i_range1 c.z_range <| pv_nm 3 rfl ⟨sz, rfl, by omega, by rw [rgD_len]; omega, fun d2 hd2 => ?_, (List.range sz).map fun k => (⟨#[letter ((x + 7 * ((0 : Int) + (k : Nat)) * ((0 : Int) + (k : Nat))) % 36).toNat]⟩ : Str), ?_, ?_, ?_⟩⟩) sc_law_names.nd)
  · obtain ⟨k, hk, rfl⟩ := rgD_mem hd2
    have m0 : 0 ≤ (x + 7 * ((0 : Int) + (k : Nat)) * ((0 : Int) + (k : Nat))) % 36 := Int.emod_nonneg _ (by decide)
    have m1 : (x + 7 * ((0 : Int) + (k : Nat)) * ((0 : Int) + (k : Nat))) % 36 < 36 := Int.emod_lt_of_pos _ (by decide)
    have hb : -(2 ^ 64) < ((0 : Int) + (k : Nat)) ∧ ((0 : Int) + (k : Nat)) < 2 ^ 64 := by constructor <;> omega
    exact fun _ _ _ _ _ => g_nm 5 (fun _ _ _ _ _ => pv_ixS <| pv_nm 2 rfl <| pv_mod <| pv_intI c.z_int <| pv_add <| pv_nm 0 rfl <| pv_mul2 <| pv_mul2 <| pv_int <| pv_nm 5 rfl ⟨_, _, rfl, rfl, .inr hb, pv_nm 5 rfl ⟨_, _, rfl, rfl, .inr hb, _, _, rfl, rfl, _, rfl, pv_int ⟨_, _, rfl, rfl, by decide, nameChars, _, _, rfl, rfl, by decide +kernel, atI_letter m0 m1, rfl, rfl⟩⟩⟩) sc_law_names.nd
  · unfold rgD
    rw [List.map_map, List.map_map]; rfl
  · have q1 : ∀ l : List Nat, ((l.map fun k => (⟨#[letter ((x + 7 * ((0 : Int) + (k : Nat)) * ((0 : Int) + (k : Nat))) % 36).toNat]⟩ : Str)).map (·.length)).sum = l.length := fun l => by
      induction l with
      | nil => rfl
      | cons a l ih =>
        rw [List.map_cons, List.map_cons, List.sum_cons, ih, List.length_cons]
        show 1 + l.length = _
        omega
    rw [q1, List.length_range]
    show sz + _ * 0 ≤ _
    omega
  have er : ∃ r : List Nat, r.length = sz ∧ (∀ c ∈ r, c ∈ nameChars.cps.toList) ∧ (Txt.join Str.empty ((List.range sz).map fun k => (⟨#[letter ((x + 7 * ((0 : Int) + (k : Nat)) * ((0 : Int) + (k : Nat))) % 36).toNat]⟩ : Str))).cps.toList = r := by
    refine ⟨(List.range sz).map fun k : Nat => letter ((x + 7 * ((0 : Int) + (k : Nat)) * ((0 : Int) + (k : Nat))) % 36).toNat, by simp, fun ch hch => ?_, ?_⟩
    · obtain ⟨k, _, rfl⟩ := List.mem_map.mp hch
      have m0 : 0 ≤ (x + 7 * ((0 : Int) + (k : Nat)) * ((0 : Int) + (k : Nat))) % 36 := Int.emod_nonneg _ (by decide)
      have m1 : (x + 7 * ((0 : Int) + (k : Nat)) * ((0 : Int) + (k : Nat))) % 36 < 36 := Int.emod_lt_of_pos _ (by decide)
      exact letter_mem (by omega)
    · have := join_chars ((List.range sz).map fun k : Nat => letter ((x + 7 * ((0 : Int) + (k : Nat)) * ((0 : Int) + (k : Nat))) % 36).toNat)
      rw [List.map_map] at this
      exact this
  obtain ⟨r, hrl, hrc, er⟩ := er
  generalize Txt.join Str.empty ((List.range sz).map fun k => (⟨#[letter ((x + 7 * ((0 : Int) + (k : Nat)) * ((0 : Int) + (k : Nat))) % 36).toNat]⟩ : Str)) = rs at er
  have hrs : rs.length = sz := by rw [str_len, er, hrl]
  have p0 : 0 ≤ (x / 10) % ((sz : Int) + 1) := Int.emod_nonneg _ (by omega)
  have p1 : (x / 10) % ((sz : Int) + 1) < (sz : Int) + 1 := Int.emod_lt_of_pos _ (by omega)
  refine ss_cons (s_set 6 (pv_mod <| pv_intI c.z_int <| pv_fdiv <| pv_nm 0 rfl <| pv_int ⟨_, _, rfl, rfl, ⟨by decide, by decide⟩, _, rfl, pv_add <| pv_nm 3 rfl <| pv_int ⟨_, _, rfl, rfl, _, _, rfl, rfl, by omega, ?_⟩⟩) sc_law_names.nd)
  have ep : (x / 10) % ((sz : Int) + 1) = (((x / 10) % ((sz : Int) + 1)).toNat : Nat) := by omega
  have hp : ((x / 10) % ((sz : Int) + 1)).toNat ≤ sz := by omega
  rw [ep]
  generalize ((x / 10) % ((sz : Int) + 1)).toNat = p at hp
  refine ss_cons (s_setN 7 (pn_lst (pas_nil ⟨Nat.le_of_ble_eq_true rfl, ?_⟩)) sc_law_names.nd)
  -- the turn of k
  have cp : (cutS rs none (some (p : Int))).cps.toList = r.take p := by
    unfold cutS
    rw [HT.sIx_none, HT.sIx_nat, List.drop_zero, er, hrs, Nat.min_eq_left hp]
    simp
  have cs : (cutS rs (some (p : Int)) none).cps.toList = r.drop p := by
    unfold cutS
    rw [HT.sIx_none, HT.sIx_nat, er, hrs, Nat.min_eq_left hp, List.take_of_length_le (by rw [List.length_drop]; omega)]
  have lcp : (cutS rs none (some (p : Int))).length ≤ 9 := by rw [str_len, cp, List.length_take]; omega
  have lcs : (cutS rs (some (p : Int)) none).length ≤ 9 := by rw [str_len, cs, List.length_drop]; omega
  let tk : Nat → Nat := fun k => if (x / 100) % 2 = 1 then n - 1 - k else k
  have tk4 : ∀ k, k < n → tk k < 4 := fun k hk => by show (if (x / 100) % 2 = 1 then n - 1 - k else k) < 4; split <;> omega
  have tki : ∀ j k, j < n → k < n → tk j = tk k → j = k := fun j k hj hk h => by
    have h' : (if (x / 100) % 2 = 1 then n - 1 - j else j) = (if (x / 100) % 2 = 1 then n - 1 - k else k) := h
    split at h' <;> omega
  let nm : Nat → Str := fun k => mkName ((x + 3 * (tk k : Nat)) % 26).toNat p (tk k) r
  have nmk : ∀ k, k < n → nameB (nm k) = true ∧ ltrB (nm k) = true := fun k hk => by
    have m0 : 0 ≤ (x + 3 * (tk k : Nat)) % 26 := Int.emod_nonneg _ (by decide)
    have m1 : (x + 3 * (tk k : Nat)) % 26 < 26 := Int.emod_lt_of_pos _ (by decide)
    exact mkName_ok (by omega) (tk4 k hk) hrc (by omega)
  refine ss_cons (s_for (fun k ls' w' => w' = Wd.nil ∧ ∃ y z, ls' = [.im (.int x), .im (.int (n : Nat)), .im (.str nameChars), .im (.int (sz : Nat)), .im (.str rs), y, .im (.int (p : Nat)), .own (((List.range k).map nm).map .str), z]) PassesOwn.never rfl (i_range1 c.z_range <| pv_nm 1 rfl ⟨n, rfl, by omega, ⟨rfl, _, _, rfl⟩, ?_, ?_⟩))
  · rintro k d ls' w' hd ⟨rfl, y, z, rfl⟩
    obtain ⟨hk, rfl⟩ := rgD_get hd
    refine g_nm 5 ?_ sc_law_names.nd
    refine ss_cons (s_set 8 (pv_nm 5 rfl ?_) sc_law_names.nd)
    refine ss_cons (s_if (pb_c <| c_eqI <| pv_mod <| pv_intI c.z_int <| pv_fdiv <| pv_nm 0 rfl <| pv_int ⟨_, _, rfl, rfl, ⟨by decide, by decide⟩, _, rfl, pv_int ⟨_, _, rfl, rfl, by decide, pv_int ⟨_, _, rfl, rfl, _, rfl, ?_⟩⟩⟩))
    have fin : ∀ (u5 : L) (t : Nat), t = tk k → SVs (XC P wo K mg base N_law_names "_law_names" (defScope s_law_names) (He.ga K "_law_names") cdv A outer s H E) (List.drop 2 (match (defBody s_law_names).getD 5 (.Pass ⟨0,0,0,0⟩) with | .For _ _ b _ _ => b | _ => [])) Wd.nil [.im (.int x), .im (.int (n : Nat)), .im (.str nameChars), .im (.int (sz : Nat)), .im (.str rs), u5, .im (.int (p : Nat)), .own (((List.range k).map nm).map .str), .im (.int (t : Nat))]
        (fun ls' w' => w' = Wd.nil ∧ ∃ y z, ls' = [.im (.int x), .im (.int (n : Nat)), .im (.str nameChars), .im (.int (sz : Nat)), .im (.str rs), y, .im (.int (p : Nat)), .own (((List.range (k + 1)).map nm).map .str), z]) (fun d _ => R d) := fun u5 t et => by
      subst et
      have m0 : 0 ≤ (x + 3 * (tk k : Nat)) % 26 := Int.emod_nonneg _ (by decide)
      have m1 : (x + 3 * (tk k : Nat)) % 26 < 26 := Int.emod_lt_of_pos _ (by decide)
      have t0 : 0 ≤ ((tk k : Nat) : Int) % 36 := Int.emod_nonneg _ (by decide)
      have t1 : ((tk k : Nat) : Int) % 36 = (tk k : Nat) := Int.emod_eq_of_lt (by omega) (by have := tk4 k hk; omega)
      have hb : -(2 ^ 64) < ((tk k : Nat) : Int) ∧ ((tk k : Nat) : Int) < 2 ^ 64 := by have := tk4 k hk; constructor <;> omega
      refine ss_one <| s_append 7 rfl <| pv_addS <| pv_addS <| pv_addS <| pv_ixS <| pv_nm 2 rfl <| pv_mod <| pv_intI c.z_int <| pv_add <| pv_nm 0 rfl <| pv_mul2 <| pv_int <| pv_nm 8 rfl ⟨_, _, rfl, rfl, .inr hb, _, _, rfl, rfl, _, rfl, pv_int ⟨_, _, rfl, rfl, by decide, nameChars, _, _, rfl, rfl, by decide +kernel, atI_letter m0 (by omega), ?_⟩⟩
      refine pv_sliceS <| pv_nm 4 rfl <| pov_none <| pov_some <| pv_nm 6 rfl ⟨_, rfl, rs, rfl, by omega, _, _, rfl, rfl, by rw [len_one]; omega, ?_⟩
      refine pv_ixS <| pv_nm 2 rfl <| pv_mod <| pv_intI c.z_int <| pv_nm 8 rfl ⟨_, rfl, pv_int ⟨_, _, rfl, rfl, by decide, nameChars, _, _, rfl, rfl, by decide +kernel, atI_letter t0 (by have := tk4 k hk; omega), _, _, rfl, rfl, by rw [len_app, len_one, len_one]; omega, ?_⟩⟩
      refine pv_sliceS <| pv_nm 4 rfl <| pov_some <| pv_nm 6 rfl ⟨_, rfl, pov_none ⟨rs, rfl, by omega, _, _, rfl, rfl, by rw [len_app, len_app, len_one, len_one]; omega, by rw [List.length_map, List.length_map, List.length_range]; omega, rfl, u5, .im (.int (tk k : Nat)), ?_⟩⟩
      have e11 : (((⟨#[letter ((x + 3 * (tk k : Nat)) % 26).toNat]⟩ : Str) ++ cutS rs none (some (p : Int)) ++ (⟨#[letter (((tk k : Nat) : Int) % 36).toNat]⟩ : Str)) ++ cutS rs (some (p : Int)) none) = nm k := by
        refine str_ext ?_
        rw [cps_app, cps_app, cps_app]
        show [letter _] ++ (cutS rs none (some (p : Int))).cps.toList ++ [letter _] ++ (cutS rs (some (p : Int)) none).cps.toList = (mkName _ p (tk k) r).cps.toList
        rw [cp, cs, t1, Int.toNat_natCast]
        rfl
      rw [e11, List.range_succ, List.map_append, List.map_append]
      rfl
    refine ⟨fun h => ?_, fun h => ?_⟩
    · have h' := of_decide_eq_true h
      refine ss_one (s_set 8 (pv_sub <| pv_sub <| pv_nm 1 rfl <| pv_int ⟨_, _, rfl, rfl, pv_nm 5 rfl ⟨_, _, rfl, rfl, ?_⟩⟩) sc_law_names.nd)
      have := fin (.im (.int (0 + (k : Nat)))) (n - 1 - k) (by show _ = (if (x / 100) % 2 = 1 then n - 1 - k else k); rw [if_pos h'])
      have e9 : ((n : Int) - 1 - (0 + (k : Nat))) = ((n - 1 - k : Nat) : Int) := by omega
      rw [e9]
      exact this
    · have h' := of_decide_eq_false h
      have := fin (.im (.int (0 + (k : Nat)))) k (by show _ = (if (x / 100) % 2 = 1 then n - 1 - k else k); rw [if_neg h'])
      have e9 : ((0 : Int) + (k : Nat)) = ((k : Nat) : Int) := by omega
      refine ss_nil ?_
      have e10 : L.im (.int ((0 : Int) + (k : Nat))) = L.im (.int (k : Nat)) := by rw [e9]
      show SVs _ _ _ [_, _, _, _, _, _, _, _, L.im (.int ((0 : Int) + (k : Nat)))] _ _
      rw [e10]
      rw [e10] at this
      exact this
  · rintro ls' w' ⟨rfl, y, z, rfl⟩
    rw [rgD_len]
    refine ss_one (sv_fz 7 rfl (s_ret (pv_nm 7 rfl (hR _ ⟨by simp, ?_, ?_⟩))))
    · refine List.pairwise_map.mpr (List.Pairwise.imp_of_mem (fun {a b} ha hb hlt e => ?_) (List.pairwise_lt_range (n := n)))
      have ha' := List.mem_range.mp ha
      have hb' := List.mem_range.mp hb
      have := tki a b ha' hb' (mkName_inj (tk4 a ha') (tk4 b hb') (by omega) e)
      omega
    · intro s' hs'
      obtain ⟨k, hk, rfl⟩ := List.mem_map.mp hs'
      exact nmk k (List.mem_range.mp hk)
end FH
set_option Elab.async false
set_option linter.all false
set_option maxRecDepth 100000
set_option maxHeartbeats 4000000
namespace FH
open PySem PySem.Spec PyProof.Rows L2 Pd Fw
variable {P : Program} {wo : World} {K : PySem.W.Frag} {mg : Str → Option Value} {base : Heap}
theorem atI_int {α : Type} {xs : List α} {i : Int} {x : α} (h0 : 0 ≤ i) (h : xs[i.toNat]? = some x) : atI xs i = some x := by
  have e : i = ((i.toNat : Nat) : Int) := by omega
  rw [e]; exact atI_nat (by simpa using h)
def one_to (n : Nat) : List Nat := (List.range n).map (· + 1)
theorem rg_one (n : Nat) : rgD 1 n = natsD (one_to n) := by
  unfold rgD natsD one_to
  rw [List.map_map]
  exact List.map_congr_left fun k _ => by simp; omega
theorem one_to_mem {n k : Nat} : k ∈ one_to n ↔ 1 ≤ k ∧ k ≤ n := by
  unfold one_to
  rw [List.mem_map]
  constructor
  · rintro ⟨a, h, rfl⟩
    have := List.mem_range.mp h
    omega
  · intro h
    exact ⟨k - 1, List.mem_range.mpr (by omega), by omega⟩
theorem one_to_nd (n : Nat) : (one_to n).Nodup := List.Pairwise.map _ (fun a b h z => h (by omega)) List.nodup_range
theorem nats_rev (l : List Nat) : (natsD l).reverse = natsD l.reverse := by unfold natsD; rw [List.map_reverse]
theorem nats_app (l m : List Nat) : natsD l ++ natsD m = natsD (l ++ m) := by unfold natsD; rw [List.map_append]
theorem nats_take (l : List Nat) (k : Nat) : (natsD l).take k = natsD (l.take k) := by unfold natsD; rw [List.map_take]
theorem nats_drop (l : List Nat) (k : Nat) : (natsD l).drop k = natsD (l.drop k) := by unfold natsD; rw [List.map_drop]
/-- sources of a rule -/
structure Opts (c s : Nat) (o : List Nat) : Prop where
  nd : o.Nodup
  src : ∀ m ∈ o, leastOf c ≤ m ∧ m ≤ s
  len : o.length ≤ s + 1
theorem Opts.rot {c s : Nat} {o : List Nat} (h : Opts c s o) (k : Nat) : Opts c s (o.drop k ++ o.take k) := by
  have pm : (o.drop k ++ o.take k).Perm o := (List.perm_append_comm).trans (by rw [List.take_append_drop])
  exact ⟨pm.symm.nodup h.nd, fun m hm => h.src m (pm.mem_iff.mp hm), by rw [pm.length_eq]; exact h.len⟩
theorem Opts.rev {c s : Nat} {o : List Nat} (h : Opts c s o) : Opts c s o.reverse :=
  ⟨List.pairwise_reverse.mpr (h.nd.imp fun h => Ne.symm h), fun m hm => h.src m (List.mem_reverse.mp hm), by rw [List.length_reverse]; exact h.len⟩
def S_law_drawn_rule (ds : List D) (R : D → Prop) : Prop := ∃ (f s : Int) (pl : List Pl) (sl cs : Nat), ds = [.int f, .int s, .lst (pl.map placeD), .int sl, .int cs] ∧ pl.length ≤ 60 ∧ sl ≤ 6 ∧ (∃ p ∈ pl, p.2.1 = 0) ∧ ∀ v : Rv, RvOk pl cs sl v → R (rvD v)
theorem ok_law_drawn_rule (c : Ctx K mg) : Cal P wo K mg base 1 (He.ga K "_law_drawn_rule") ["_law_first", "_law_second", "_law_places", "_law_slots", "_law_case"] [] (spD K S_law_drawn_rule) := by
  refine cal0 c.f_law_drawn_rule sc_law_drawn_rule (fun ds R ⟨_, _, _, _, _, e, _⟩ => by rw [e]; rfl) (fun _ _ _ _ _ _ us hl => match us, hl with | [_, _, _, _, _], _ => rfl) fun cdv A outer s H E hr ds R hS => ?_
  obtain ⟨f, sd, pl, sl, cs, rfl, h60, h6, hz, hR⟩ := hS
  -- behind the second if
  have fin2 : ∀ (o : List Nat) (g : Pl) (x6 x7 x9 : L), Opts cs sl o → g ∈ pl → g.2.1 ≤ o.length → SVs (XC P wo K mg base N_law_drawn_rule "_law_drawn_rule" (defScope s_law_drawn_rule) (He.ga K "_law_drawn_rule") cdv A outer s H E) (List.drop 7 (defBody s_law_drawn_rule)) Wd.nil
      [.im (.int f), .im (.int sd), .im (.lst (pl.map placeD)), .im (.int (sl : Nat)), .im (.int (cs : Nat)), .own (natsD o), x6, x7, .im (placeD g), x9] (fun _ _ => R .non) (fun d _ => R d) := fun o g x6 x7 x9 ho hg hgl => by
    refine ss_one <| s_ret <| pv_tup <| pas_cons <| pv_ixT <| pv_nm 8 rfl <| pv_int ⟨_, 0, _, .tup _, rfl, rfl, pas_cons <| pv_tupQ c.z_tuple <| pq_pn <| pn_slice <| pq_nm 5 rfl <| pov_none <| pov_some <| pv_ixT <| pv_nm 8 rfl <| pv_int ⟨_, 1, _, .tup _, rfl, rfl, _, rfl, pas_nil ⟨Nat.le_of_ble_eq_true rfl, ?_⟩⟩⟩
    rw [cut_to, nats_take]
    exact hR (g.1, o.take g.2.1) ⟨⟨g, hg, rfl, by show (o.take g.2.1).length = _; rw [List.length_take]; omega⟩, ho.nd.sublist (List.take_sublist _ _), fun m hm => ho.src m (List.mem_of_mem_take hm)⟩
  -- behind the first if
  have fin1 : ∀ (o : List Nat) (x6 x7 x8 x9 : L), Opts cs sl o → SVs (XC P wo K mg base N_law_drawn_rule "_law_drawn_rule" (defScope s_law_drawn_rule) (He.ga K "_law_drawn_rule") cdv A outer s H E) (List.drop 2 (defBody s_law_drawn_rule)) Wd.nil
      [.im (.int f), .im (.int sd), .im (.lst (pl.map placeD)), .im (.int (sl : Nat)), .im (.int (cs : Nat)), .own (natsD o), x6, x7, x8, x9] (fun _ _ => R .non) (fun d _ => R d) := fun o x6 x7 x8 x9 ho => by
    have hol := ho.len
    refine ss_cons (s_setLcF 6 [("_law_place_here", 7)] (fun d => match d with | .tup [a, .int n, b] => if n ≤ (o.length : Int) then some (.tup [a, .int n, b]) else none | _ => none) rfl sc_law_drawn_rule.nd (blkOk_by (show blkC N_law_drawn_rule (defScope s_law_drawn_rule) _ _ = true by decide +kernel)) (i_list <| pv_nm 2 rfl ⟨_, rfl, by rw [List.length_map]; omega, fun d2 hd2 => ?_, ?_⟩) rfl)
    · obtain ⟨p, hp, rfl⟩ := List.mem_map.mp hd2
      refine fun _ _ _ _ _ => g_nm 7 (fun _ _ _ _ _ => t_one <| pb_c <| c_le <| pv_ixT <| pv_nm 7 rfl <| pv_int ⟨_, 1, _, .tup _, rfl, rfl, pv_lenQ c.z_len <| pq_nm 5 rfl ⟨_, _, rfl, rfl, _, rfl, rfl, fun h => ?_, fun h => ?_⟩⟩) sc_law_drawn_rule.nd
      · have h' := of_decide_eq_true h
        rw [natsD_len] at h'
        exact fun _ _ _ _ _ => pv_nm 7 rfl ⟨rfl, by show (if ((p.2.1 : Nat) : Int) ≤ (o.length : Int) then _ else _) = _; rw [if_pos h']; rfl⟩
      · have h' := of_decide_eq_false h
        rw [natsD_len] at h'
        show (if ((p.2.1 : Nat) : Int) ≤ (o.length : Int) then _ else _) = _
        rw [if_neg h']
    have eg : (pl.map placeD).filterMap (fun d => match d with | .tup [a, .int n, b] => if n ≤ (o.length : Int) then some (.tup [a, .int n, b]) else none | _ => none) = (pl.filter fun p => decide (p.2.1 ≤ o.length)).map placeD := by
      rw [List.filterMap_map, ← List.filterMap_eq_filter, List.map_filterMap]
      congr 1
      funext p
      show (if ((p.2.1 : Nat) : Int) ≤ (o.length : Int) then some (placeD p) else none) = _
      by_cases h : p.2.1 ≤ o.length
      · rw [if_pos (by omega)]; simp [Option.guard, h]
      · rw [if_neg (by omega)]; simp [Option.guard, h]
    rw [eg]
    have hne : 0 < (pl.filter fun p => decide (p.2.1 ≤ o.length)).length := by
      obtain ⟨p, hp, h0⟩ := hz
      exact List.length_pos_of_mem (List.mem_filter.mpr ⟨hp, decide_eq_true (by omega)⟩)
    have hgs : ∀ g ∈ pl.filter fun p => decide (p.2.1 ≤ o.length), g ∈ pl ∧ g.2.1 ≤ o.length := fun g hg => by
      have := List.mem_filter.mp hg
      exact ⟨this.1, of_decide_eq_true this.2⟩
    generalize (pl.filter fun p => decide (p.2.1 ≤ o.length)) = gs at hne hgs
    have m0 : 0 ≤ f % (gs.length : Int) := Int.emod_nonneg _ (by omega)
    have m1 : f % (gs.length : Int) < gs.length := Int.emod_lt_of_pos _ (by omega)
    have hgi : (f % (gs.length : Int)).toNat < gs.length := by omega
    refine ss_cons (s_set 8 (pv_ixL <| pq_nm 6 rfl <| pv_mod <| pv_intI c.z_int <| pv_nm 0 rfl ⟨_, rfl, pv_lenQ c.z_len <| pq_nm 6 rfl ⟨_, _, rfl, rfl, by rw [List.length_map]; omega, _, placeD gs[(f % (gs.length : Int)).toNat], rfl, ?_, ?_⟩⟩) sc_law_drawn_rule.nd)
    · rw [List.length_map]
      refine atI_int m0 ?_
      rw [List.getElem?_map, List.getElem?_eq_getElem hgi]; rfl
    obtain ⟨hgp, hgl⟩ := hgs _ (List.getElem_mem hgi)
    generalize gs[(f % (gs.length : Int)).toNat] = g at hgp hgl
    refine ss_cons (s_set 9 (pv_mod <| pv_intI c.z_int <| pv_nm 1 rfl ⟨_, rfl, pv_max2 rfl c.z_max <| pv_int <| pv_lenQ c.z_len <| pq_nm 5 rfl ⟨_, _, rfl, rfl, _, _, rfl, rfl, by split <;> omega, ?_⟩⟩) sc_law_drawn_rule.nd)
    have et : ∃ k : Nat, sd % (if (((natsD o).length : Nat) : Int) > 1 then (((natsD o).length : Nat) : Int) else 1) = (k : Nat) := by
      have h1 : (1 : Int) ≤ (if (((natsD o).length : Nat) : Int) > 1 then (((natsD o).length : Nat) : Int) else 1) := by split <;> omega
      have := Int.emod_nonneg sd (b := (if (((natsD o).length : Nat) : Int) > 1 then (((natsD o).length : Nat) : Int) else 1)) (by omega)
      exact ⟨_, (Int.toNat_of_nonneg this).symm⟩
    obtain ⟨k, et⟩ := et
    rw [et]
    refine ss_cons (s_setN 5 (pn_add <| pq_pn <| pn_slice <| pq_nm 5 rfl <| pov_some <| pv_nm 9 rfl ⟨_, rfl, pov_none <| pq_pn <| pn_slice <| pq_nm 5 rfl <| pov_none <| pov_some <| pv_nm 9 rfl ⟨_, rfl, ?_, ?_⟩⟩) sc_law_drawn_rule.nd)
    · rw [cut_from, cut_to, nats_drop, nats_take, natsD_len, natsD_len, List.length_drop, List.length_take]; omega
    rw [cut_from, cut_to, nats_drop, nats_take, nats_app]
    have ho2 := ho.rot k
    have hl2 : (o.drop k ++ o.take k).length = o.length := by rw [List.length_append, List.length_drop, List.length_take]; omega
    generalize o.drop k ++ o.take k = o2 at ho2 hl2
    refine ss_cons (s_if (pb_c <| c_eqI <| pv_mod <| pv_fdiv <| pv_intI c.z_int <| pv_nm 1 rfl ⟨_, rfl, pv_int ⟨_, _, rfl, rfl, ⟨by decide, by decide⟩, pv_int ⟨_, _, rfl, rfl, by decide, pv_int ⟨_, _, rfl, rfl, _, rfl, fun _ => ?_, fun _ => ?_⟩⟩⟩⟩))
    · refine ss_one (s_setN 5 (pn_rev <| pq_nm 5 rfl ?_) sc_law_drawn_rule.nd)
      rw [nats_rev]
      exact fin2 o2.reverse g _ _ _ ho2.rev hgp (by rw [List.length_reverse]; omega)
    · exact ss_nil (fin2 o2 g _ _ _ ho2 hgp (by omega))
  refine ss_cons (s_setN 5 (pn_listR2 rfl c.z_list c.z_range <| pv_int <| pv_add <| pv_nm 3 rfl <| pv_int ⟨_, 1, rfl, rfl, 1, _, rfl, rfl, by omega, ?_⟩) sc_law_drawn_rule.nd)
  have e1 : ((sl : Int) + 1 - 1).toNat = sl := by omega
  rw [e1, rg_one]
  refine ss_cons (s_if (pb_c <| c_eqI <| pv_nm 4 rfl <| pv_int ⟨_, 0, rfl, rfl, _, rfl, fun h => ?_, fun h => ?_⟩))
  · have h0 : cs = 0 := by have := of_decide_eq_true h; omega
    refine ss_one (s_setN 5 (pn_add <| pq_pn <| pn_lst <| pas_cons <| pv_int <| pas_nil ⟨Nat.le_of_ble_eq_true rfl, pq_nm 5 rfl ⟨?_, ?_⟩⟩) sc_law_drawn_rule.nd)
    · rw [natsD_len]; unfold one_to; simp; omega
    · have := fin1 (0 :: one_to sl) .no .no .no .no ⟨List.nodup_cons.mpr ⟨fun h => by have := one_to_mem.mp h; omega, one_to_nd sl⟩, fun m hm => ?_, by unfold one_to; simp⟩
      · exact this
      · rcases List.mem_cons.mp hm with e | hm
        · rw [e]; unfold leastOf; rw [if_pos h0]; exact ⟨Nat.le_refl _, Nat.zero_le _⟩
        · have := one_to_mem.mp hm
          exact ⟨by unfold leastOf; split <;> omega, this.2⟩
  · refine ss_nil (fin1 (one_to sl) .no .no .no .no ⟨one_to_nd sl, fun m hm => ?_, by unfold one_to; simp⟩)
    have := one_to_mem.mp hm
    exact ⟨by unfold leastOf; split <;> omega, this.2⟩
end FH
set_option Elab.async false
set_option linter.all false
set_option maxRecDepth 100000
set_option maxHeartbeats 4000000
namespace Fw
open PySem PySem.Spec PyProof.Rows L2 Pd
def ask1 (p : Pl) (w : Str) : List Rk := (List.range (p.2.1 + 1)).map fun c => (p.1, w, c)
def askP (ws : List Str) (p : Pl) : List Rk := ws.flatMap (ask1 p)
theorem asked_eq (b : Pt) : b.asked = b.pl.flatMap (askP b.ws) := rfl
theorem ask1_nd (p : Pl) (w : Str) : (ask1 p w).Nodup := List.Pairwise.map _ (fun a b h z => h (by injection z with _ z; injection z)) List.nodup_range
theorem ask1_mem {p : Pl} {w : Str} {k : Rk} : k ∈ ask1 p w ↔ k.1 = p.1 ∧ k.2.1 = w ∧ k.2.2 ≤ p.2.1 := by
  unfold ask1
  rw [List.mem_map]
  constructor
  · rintro ⟨c, hc, rfl⟩; exact ⟨rfl, rfl, Nat.le_of_lt_succ (List.mem_range.mp hc)⟩
  · rintro ⟨h1, h2, h3⟩
    obtain ⟨a, b, c⟩ := k
    exact ⟨c, List.mem_range.mpr (Nat.lt_succ_of_le h3), by rw [← h2, show p.1 = a from h1.symm]⟩
theorem askP_mem {ws : List Str} {p : Pl} {k : Rk} : k ∈ askP ws p ↔ k.1 = p.1 ∧ k.2.1 ∈ ws ∧ k.2.2 ≤ p.2.1 := by
  unfold askP
  rw [List.mem_flatMap]
  constructor
  · rintro ⟨w, hw, h⟩
    obtain ⟨h1, h2, h3⟩ := ask1_mem.mp h
    exact ⟨h1, h2 ▸ hw, h3⟩
  · rintro ⟨h1, h2, h3⟩
    exact ⟨_, h2, ask1_mem.mpr ⟨h1, rfl, h3⟩⟩
theorem askP_nd {ws : List Str} (hw : ws.Nodup) (p : Pl) : (askP ws p).Nodup := by
  unfold askP
  refine List.pairwise_flatMap.mpr ⟨fun w _ => ask1_nd p w, hw.imp fun {w w'} hne x hx y hy e => hne ?_⟩
  rw [← (ask1_mem.mp hx).2.1, ← (ask1_mem.mp hy).2.1, e]
theorem asked_nd {b : Pt} (hw : b.ws.Nodup) (hp : (b.pl.map (·.1)).Nodup) : b.asked.Nodup := by
  rw [asked_eq]
  refine List.pairwise_flatMap.mpr ⟨fun p _ => askP_nd hw p, (List.pairwise_map.mp hp).imp fun {p q} hne x hx y hy e => hne ?_⟩
  rw [← (askP_mem.mp hx).1, ← (askP_mem.mp hy).1, e]
theorem sub_take {α β : Type} (f : α → List β) {l : List α} {k : Nat} {x : α} (h : l[k]? = some x) : ((l.take k).flatMap f ++ f x).Sublist (l.flatMap f) := by
  rw [← FH.flatMap_take f h]
  conv => rhs; rw [← List.take_append_drop (k + 1) l]
  rw [List.flatMap_append]
  exact List.sublist_append_left _ _
/-- the key that comes is new -/
theorem ask_new {ws : List Str} {pl : List Pl} (hw : ws.Nodup) (hp : (pl.map (·.1)).Nodup) {i j c : Nat} {p : Pl} {w : Str} (hi : pl[i]? = some p) (hj : ws[j]? = some w) (hc : c ≤ p.2.1) : (p.1, w, c) ∉ (pl.take i).flatMap (askP ws) ++ ((ws.take j).flatMap (ask1 p) ++ (List.range c).map fun c => (p.1, w, c)) := by
  have s1 : ((List.range c).map (fun c => ((p.1, w, c) : Rk)) ++ [(p.1, w, c)]).Sublist (ask1 p w) := by
    have e : (List.range c).map (fun c => ((p.1, w, c) : Rk)) ++ [(p.1, w, c)] = (List.range (c + 1)).map fun c => (p.1, w, c) := by rw [List.range_succ, List.map_append]; rfl
    rw [e]
    exact List.Sublist.map _ (by rw [← FH.range_take (n := p.2.1 + 1) (k := c + 1) (by omega)]; exact List.take_sublist _ _)
  have s2 : ((ws.take j).flatMap (ask1 p) ++ ((List.range c).map (fun c => ((p.1, w, c) : Rk)) ++ [(p.1, w, c)])).Sublist (askP ws p) := (List.Sublist.append (List.Sublist.refl _) s1).trans (sub_take (ask1 p) hj)
  have s3 : ((pl.take i).flatMap (askP ws) ++ ((ws.take j).flatMap (ask1 p) ++ ((List.range c).map (fun c => ((p.1, w, c) : Rk)) ++ [(p.1, w, c)]))).Sublist (pl.flatMap (askP ws)) := (List.Sublist.append (List.Sublist.refl _) s2).trans (sub_take (askP ws) hi)
  have nd := (asked_nd (b := ⟨ws, pl, Str.empty, []⟩) hw hp).sublist s3
  rw [← List.append_assoc, ← List.append_assoc] at nd
  have := (List.nodup_append.mp nd).2.2
  intro hm
  rw [← List.append_assoc] at hm
  exact this _ hm _ (List.mem_singleton.mpr rfl) rfl
theorem tab_put {rl : List (Rk × Rv)} {k : Rk} {v : Rv} (h : k ∉ rl.map (·.1)) : putD (tabD rl) (keyL k) (rvD v) = tabD (rl ++ [(k, v)]) := by
  have hk : keyL k ∉ (tabD rl).map (·.1) := fun hm => h (by
    unfold tabD at hm
    rw [List.map_map] at hm
    obtain ⟨r, hr, e⟩ := List.mem_map.mp hm
    exact List.mem_map.mpr ⟨r, hr, keyL_inj e⟩)
  rw [putD_new hk]
  unfold tabD
  rw [List.map_append]; rfl
theorem tab_len (rl : List (Rk × Rv)) : (tabD rl).length = rl.length := by unfold tabD; rw [List.length_map]
/-- books of the size that is drawn -/
structure Small (b : Pt) (n s : Nat) : Prop where
  wf : WF b
  w2 : b.ws.length ≤ 2
  pn : b.pl.length ≤ n
  ps : ∀ p ∈ b.pl, p.2.1 ≤ s
  p0 : 0 < b.pl.length
end Fw
namespace FH
open PySem PySem.Spec PyProof.Rows L2 Pd Fw
variable {P : Program} {wo : World} {K : PySem.W.Frag} {mg : Str → Option Value} {base : Heap}
def S_law_parts (ds : List D) (R : D → Prop) : Prop := ∃ (ns : List Int) (ws : List Str), ds = [.lst (ns.map .int), .int 0, .lst (ws.map .str)] ∧ ns.length = 190 ∧ 1 ≤ ws.length ∧ ws.length ≤ 2 ∧ ws.Nodup ∧ (∀ w ∈ ws, nameB w = true) ∧ ∀ b : Pt, Small b 4 3 → b.ws = ws → (∀ p ∈ b.pl, ltrB p.1 = true) → R (partsD b)
theorem ok_law_parts (c : Ctx K mg) : Cal P wo K mg base 2 (He.ga K "_law_parts") ["_law_numbers_here", "_law_at", "_law_words"] [] (spD K S_law_parts) := by
  refine cal0 c.f_law_parts sc_law_parts (fun ds R ⟨_, _, e, _⟩ => by rw [e]; rfl) (fun _ _ _ _ _ _ us hl => match us, hl with | [_, _, _], _ => rfl) fun cdv A outer s H E hr ds R hS => ?_
  obtain ⟨ns, ws, rfl, hn, hw1, hw2, hwn, hwv, hR⟩ := hS
  have hu := hu_of hr
  have num : ∀ i : Nat, i < 190 → ∃ z : Int, atI (ns.map D.int) (i : Nat) = some (.int z) := fun i hi => by
    have hi' : i < ns.length := by omega
    exact ⟨ns[i], atI_nat (by rw [List.getElem?_map, List.getElem?_eq_getElem hi']; rfl)⟩
  obtain ⟨z0, hz0⟩ := num 0 (by decide)
  obtain ⟨z1, hz1⟩ := num 1 (by decide)
  obtain ⟨z2, hz2⟩ := num 2 (by decide)
  refine ss_cons (s_set 3 (pv_cal (ok_law_names c) hr c.g_law_names <| pas_cons <| pv_ixL <| pq_pv <| pv_nm 0 rfl ⟨_, rfl, pv_nm 1 rfl ⟨0, _, rfl, hz0, pas_cons <| pv_int <| pas_nil ⟨z0, 4, rfl, by decide, fun nms hnm => ?_⟩⟩⟩) sc_law_parts.nd)
  obtain ⟨n0, n1, n2, n3, rfl⟩ : ∃ a b c d, nms = [a, b, c, d] := by
    have := hnm.len
    match nms, this with
    | [a, b, c, d], _ => exact ⟨a, b, c, d, rfl⟩
  refine ss_cons (s_setN 4 (pn_lst <| pas_cons <| pv_tup <| pas_cons <| pv_ixL <| pq_pv <| pv_nm 3 rfl ⟨_, rfl, pv_int ⟨0, _, rfl, rfl, pas_cons <| pv_int <| pas_cons <| pv_c <| c_eqI <| pv_mod <| pv_intI c.z_int <| pv_ixL <| pq_pv <| pv_nm 0 rfl ⟨_, rfl, pv_add <| pv_nm 1 rfl <| pv_int ⟨_, _, rfl, rfl, 1, _, rfl, hz1, z1, rfl, pv_int ⟨_, _, rfl, rfl, by decide, pv_int ⟨_, _, rfl, rfl, pas_nil ⟨Nat.le_of_ble_eq_true rfl, pas_nil ⟨Nat.le_of_ble_eq_true rfl, ?_⟩⟩⟩⟩⟩⟩⟩⟩) sc_law_parts.nd)
  generalize decide (z1 % 2 = 1) = y0
  have q0 : 0 ≤ z2 % 3 := Int.emod_nonneg _ (by decide)
  have q1 : z2 % 3 < 3 := Int.emod_lt_of_pos _ (by decide)
  refine ss_cons (s_for (fun k ls' w' => w' = Wd.nil ∧ ∃ (pl : List Pl) (x5 x6 : L), pl.map (·.1) = [n0, n1, n2, n3].take (k + 1) ∧ (∀ p ∈ pl, p.2.1 ≤ 3) ∧ pl[0]? = some (n0, 0, y0) ∧ ls' = [.im (.lst (ns.map .int)), .im (.int 0), .im (.lst (ws.map .str)), .im (.lst ([n0, n1, n2, n3].map .str)), .own (pl.map placeD), x5, x6, .no, .no, .no, .no, .no, .no]) PassesOwn.never rfl
    (i_range2 c.z_range <| pv_int <| pv_add <| pv_int <| pv_mod <| pv_intI c.z_int <| pv_ixL <| pq_pv <| pv_nm 0 rfl ⟨_, rfl, pv_add <| pv_nm 1 rfl <| pv_int ⟨_, _, rfl, rfl, 2, _, rfl, hz2, z2, rfl, pv_int ⟨_, _, rfl, rfl, by decide, _, _, rfl, rfl, 1, _, rfl, rfl, by omega, ⟨rfl, [(n0, 0, y0)], _, _, rfl, by simp, rfl, rfl⟩, ?_, ?_⟩⟩⟩))
  · rintro k d ls' w' hd ⟨rfl, pl, x5, x6, hpn, hps, hp0, rfl⟩
    obtain ⟨hk, rfl⟩ := rgD_get hd
    have hk3 : k < 3 := by omega
    obtain ⟨zk, hzk⟩ := num (2 + (1 + k)) (by omega)
    have ei : (0 : Int) + 2 + (1 + (k : Nat)) = ((2 + (1 + k) : Nat) : Int) := by omega
    have m0 : 0 ≤ zk % 8 := Int.emod_nonneg _ (by decide)
    have m1 : zk % 8 < 8 := Int.emod_lt_of_pos _ (by decide)
    have hsl : ∃ sl : Nat, sl ≤ 3 ∧ atI [D.int 1, .int 2, .int 1, .int 0, .int 2, .int 1, .int 2, .int 3] (zk % 8) = some (.int (sl : Nat)) := by
      have hall : ∀ i : Nat, i < 8 → ∃ sl : Nat, sl ≤ 3 ∧ ([D.int 1, .int 2, .int 1, .int 0, .int 2, .int 1, .int 2, .int 3] : List D)[i]? = some (.int (sl : Nat)) := fun i hi => by
        match i, hi with
        | 0, _ => exact ⟨1, by decide, rfl⟩
        | 1, _ => exact ⟨2, by decide, rfl⟩
        | 2, _ => exact ⟨1, by decide, rfl⟩
        | 3, _ => exact ⟨0, by decide, rfl⟩
        | 4, _ => exact ⟨2, by decide, rfl⟩
        | 5, _ => exact ⟨1, by decide, rfl⟩
        | 6, _ => exact ⟨2, by decide, rfl⟩
        | 7, _ => exact ⟨3, by decide, rfl⟩
      obtain ⟨sl, h1, h2⟩ := hall (zk % 8).toNat (by omega)
      exact ⟨sl, h1, atI_int m0 h2⟩
    obtain ⟨sl, hsl3, hsl⟩ := hsl
    have hnk : ∃ nk, [n0, n1, n2, n3][k + 1]? = some nk := ⟨[n0, n1, n2, n3][k + 1]'(by simp; omega), List.getElem?_eq_getElem _⟩
    obtain ⟨nk, hnk⟩ := hnk
    refine g_nm 5 ?_ sc_law_parts.nd
    refine ss_cons (s_set 6 (pv_ixT <| pv_tup <| pas_cons <| pv_int <| pas_cons <| pv_int <| pas_cons <| pv_int <| pas_cons <| pv_int <| pas_cons <| pv_int <| pas_cons <| pv_int <| pas_cons <| pv_int <| pas_cons <| pv_int <| pas_nil ⟨Nat.le_of_ble_eq_true rfl, pv_mod <| pv_intI c.z_int <| pv_ixL <| pq_pv <| pv_nm 0 rfl ⟨_, rfl, pv_add <| pv_add <| pv_nm 1 rfl <| pv_int ⟨_, _, rfl, rfl, pv_nm 5 rfl ⟨_, _, rfl, rfl, _, _, rfl, by rw [ei]; exact hzk, zk, rfl, pv_int ⟨_, _, rfl, rfl, by decide, _, _, _, .tup _, rfl, hsl, ?_⟩⟩⟩⟩⟩) sc_law_parts.nd)
    refine ss_one <| s_append 4 rfl <| pv_tup <| pas_cons <| pv_ixL <| pq_pv <| pv_nm 3 rfl ⟨_, rfl, pv_nm 5 rfl ⟨_, .str nk, rfl, ?_, pas_cons <| pv_nm 6 rfl <| pas_cons <| pv_c <| c_eqI <| pv_mod <| pv_fdiv <| pv_intI c.z_int <| pv_ixL <| pq_pv <| pv_nm 0 rfl ⟨_, rfl, pv_add <| pv_add <| pv_nm 1 rfl <| pv_int ⟨_, _, rfl, rfl, pv_nm 5 rfl ⟨_, _, rfl, rfl, _, _, rfl, by rw [ei]; exact hzk, zk, rfl, pv_int ⟨_, _, rfl, rfl, ⟨by decide, by decide⟩, pv_int ⟨_, _, rfl, rfl, by decide, pv_int ⟨_, _, rfl, rfl, pas_nil ⟨Nat.le_of_ble_eq_true rfl, ?_, rfl, pl ++ [(nk, sl, decide (zk / 8 % 2 = 1))], .im (.int (1 + (k : Nat))), .im (.int (sl : Nat)), ?_, ?_, ?_, ?_⟩⟩⟩⟩⟩⟩⟩⟩⟩
    · have e : (1 : Int) + (k : Nat) = ((k + 1 : Nat) : Int) := by omega
      rw [e]
      exact atI_nat (by rw [List.getElem?_map, hnk]; rfl)
    · have := congrArg List.length hpn
      rw [List.length_map, List.length_take] at this
      rw [List.length_map]
      simp at this
      omega
    · rw [List.map_append, hpn, List.take_succ (i := k + 1), hnk]; rfl
    · intro p hp
      rcases List.mem_append.mp hp with h | h
      · exact hps p h
      · rw [List.mem_singleton.mp h]; exact hsl3
    · rw [List.getElem?_append_left (List.getElem?_eq_some_iff.mp hp0).1]; exact hp0
    · rw [List.map_append]; rfl
  · rintro ls' w' ⟨rfl, pl, x5, x6, hpn, hps, hp0, rfl⟩
    rw [rgD_len] at hpn
    have hpl4 : pl.length ≤ 4 := by
      have := congrArg List.length hpn
      rw [List.length_map, List.length_take] at this
      simp at this
      omega
    have hpnd : (pl.map (·.1)).Nodup := by rw [hpn]; exact hnm.nd.sublist (List.take_sublist _ _)
    have hpm : ∀ p ∈ pl, nameB p.1 = true ∧ ltrB p.1 = true := fun p hp => hnm.ok _ (List.mem_of_mem_take (by rw [← hpn]; exact List.mem_map.mpr ⟨p, hp, rfl⟩))
    have hp0m := List.mem_of_getElem? hp0
    refine ss_fz 4 rfl ?_
    refine ss_cons (s_setT 7 ?_ sc_law_parts.nd)
    refine ss_cons (s_set 8 (pv_add <| pv_nm 1 rfl <| pv_int ⟨_, _, rfl, rfl, ?_⟩) sc_law_parts.nd)
    have hz : ∃ p ∈ pl, p.2.1 = 0 := ⟨_, hp0m, rfl⟩
    have hA : ∀ p ∈ pl, (askP ws p).length ≤ 8 := fun p hp => by
      have := flatMap_len (ask1 p) 4 ws fun w _ => by unfold ask1; rw [List.length_map, List.length_range]; have := hps p hp; omega
      unfold askP
      omega
    let Ok : List (Rk × Rv) → Prop := fun rl => ∀ r ∈ rl, ∀ p ∈ pl, p.1 = r.1.1 → RvOk pl r.1.2.2 p.2.1 r.2
    let LS : List (Rk × Rv) → L → L → L → L → L → L → List L := fun rl x5 x6 x9 x10 x11 x12 => [.im (.lst (ns.map .int)), .im (.int 0), .im (.lst (ws.map .str)), .im (.lst ([n0, n1, n2, n3].map .str)), .im (.lst (pl.map placeD)), x5, x6, .ownT (tabD rl), .im (.int ((8 + 2 * rl.length : Nat) : Int)), x9, x10, x11, x12]
    refine ss_cons (s_for (fun i ls' w' => w' = Wd.nil ∧ ∃ (rl : List (Rk × Rv)) (x5 x6 x9 x10 x11 x12 : L), rl.map (·.1) = (pl.take i).flatMap (askP ws) ∧ Ok rl ∧ ls' = LS rl x5 x6 x9 x10 x11 x12) PassesOwn.never rfl (i_list <| pv_nm 4 rfl ⟨_, rfl, ⟨rfl, [], _, _, _, _, _, _, rfl, (fun r hr => by cases hr), rfl⟩, ?_, ?_⟩))
    · rintro i d ls' w' hd ⟨rfl, rl, y5, y6, y9, y10, y11, y12, hk, hok, rfl⟩
      rw [List.getElem?_map] at hd
      obtain ⟨p, hpi, rfl⟩ := Option.map_eq_some_iff.mp hd
      have hp := List.mem_of_getElem? hpi
      refine g_tup (.tup _) (gs_cons (g_nm 9 (gs_cons (g_nm 6 (gs_cons (g_nm 10 (gs_nil ?_) sc_law_parts.nd)) sc_law_parts.nd)) sc_law_parts.nd)) rfl
      refine ss_one (s_for (fun j ls' w' => w' = Wd.nil ∧ ∃ (rl : List (Rk × Rv)) (x11 x12 : L), rl.map (·.1) = (pl.take i).flatMap (askP ws) ++ (ws.take j).flatMap (ask1 p) ∧ Ok rl ∧ ls' = LS rl y5 (.im (.int (p.2.1 : Nat))) (.im (.str p.1)) (.im (.bl p.2.2)) x11 x12) PassesOwn.never rfl (i_list <| pv_nm 2 rfl ⟨_, rfl, ⟨rfl, rl, _, _, by rw [List.take_zero, List.flatMap_nil, List.append_nil]; exact hk, hok, rfl⟩, ?_, ?_⟩))
      · rintro j d ls' w' hd ⟨rfl, rl, y11, y12, hk, hok, rfl⟩
        rw [List.getElem?_map] at hd
        obtain ⟨w, hwj, rfl⟩ := Option.map_eq_some_iff.mp hd
        have hw := List.mem_of_getElem? hwj
        refine g_nm 11 ?_ sc_law_parts.nd
        refine ss_one (s_for (fun k ls' w' => w' = Wd.nil ∧ ∃ (rl : List (Rk × Rv)) (x12 : L), rl.map (·.1) = (pl.take i).flatMap (askP ws) ++ ((ws.take j).flatMap (ask1 p) ++ (List.range k).map fun c => (p.1, w, c)) ∧ Ok rl ∧ ls' = LS rl y5 (.im (.int (p.2.1 : Nat))) (.im (.str p.1)) (.im (.bl p.2.2)) (.im (.str w)) x12) PassesOwn.never rfl (i_range1 c.z_range <| pv_add <| pv_nm 6 rfl <| pv_int ⟨_, 1, rfl, rfl, p.2.1 + 1, by simp, by have := hps p hp; omega, ⟨rfl, rl, _, by rw [List.range_zero, List.map_nil, List.append_nil]; exact hk, hok, rfl⟩, ?_, ?_⟩))
        · rintro k d ls' w' hd ⟨rfl, rl, y12, hk, hok, rfl⟩
          obtain ⟨hkl, rfl⟩ := rgD_get hd
          have e0 : (0 : Int) + (k : Nat) = (k : Nat) := by omega
          rw [e0]
          have hnew := ask_new hwn hpnd hpi hwj (c := k) (by omega)
          rw [← hk] at hnew
          have hlen : rl.length ≤ 48 := by
            have e1 := congrArg List.length hk
            rw [List.length_map, List.length_append, List.length_append, List.length_map, List.length_range] at e1
            have q1 := flatMap_len (askP ws) 8 (pl.take i) fun q hq => hA q (List.mem_of_mem_take hq)
            have q2 := flatMap_len (ask1 p) 4 (ws.take j) fun w _ => by unfold ask1; rw [List.length_map, List.length_range]; have := hps p hp; omega
            rw [List.length_take] at q1 q2
            have q3 : min i pl.length * 8 ≤ 4 * 8 := Nat.mul_le_mul_right _ (by omega)
            have q4 : min j ws.length * 4 ≤ 2 * 4 := Nat.mul_le_mul_right _ (by omega)
            have := hps p hp
            omega
          obtain ⟨za, hza⟩ := num (8 + 2 * rl.length) (by omega)
          obtain ⟨zb, hzb⟩ := num (8 + 2 * rl.length + 1) (by omega)
          refine g_nm 12 ?_ sc_law_parts.nd
          refine ss_cons (s_put 7 hu rfl <| pv_cal (ok_law_drawn_rule c) hr c.g_law_drawn_rule <| pas_cons <| pv_ixL <| pq_pv <| pv_nm 0 rfl ⟨_, rfl, pv_nm 8 rfl ⟨_, _, rfl, hza, pas_cons <| pv_ixL <| pq_pv <| pv_nm 0 rfl ⟨_, rfl, pv_add <| pv_nm 8 rfl <| pv_int ⟨_, 1, rfl, rfl, _, _, rfl, hzb, pas_cons <| pv_nm 4 rfl <| pas_cons <| pv_nm 6 rfl <| pas_cons <| pv_nm 12 rfl <| pas_nil ⟨za, zb, pl, p.2.1, k, rfl, by omega, by have := hps p hp; omega, hz, fun v hv => ?_⟩⟩⟩⟩⟩)
          refine pv_tup <| pas_cons <| pv_nm 9 rfl <| pas_cons <| pv_nm 11 rfl <| pas_cons <| pv_nm 12 rfl <| pas_nil ⟨Nat.le_of_ble_eq_true rfl, keyL (p.1, w, k), rfl, by rw [tab_len]; omega, ?_⟩
          rw [tab_put hnew]
          have hok2 : Ok (rl ++ [((p.1, w, k), v)]) := fun r hr q hq e => by
            rcases List.mem_append.mp hr with h | h
            · exact hok r h q hq e
            · rw [List.mem_singleton.mp h] at e ⊢
              have : q = p := by
                have e1 := pof_of hpnd hq
                rw [e, pof_of hpnd hp] at e1
                exact (Option.some.inj e1).symm
              rw [this]; exact hv
          refine ss_one (s_set 8 (pv_add <| pv_nm 8 rfl <| pv_int ⟨_, 2, rfl, rfl, rfl, rl ++ [((p.1, w, k), v)], .im (.int (k : Nat)), ?_, hok2, ?_⟩) sc_law_parts.nd)
          · rw [List.map_append, hk, List.range_succ, List.map_append, List.append_assoc, List.append_assoc]; rfl
          · have e1 : (((8 + 2 * rl.length : Nat) : Int) + 2) = ((8 + 2 * (rl ++ [((p.1, w, k), v)]).length : Nat) : Int) := by
              rw [List.length_append, List.length_singleton]; omega
            rw [e1]
            rfl
        · rintro ls' w' ⟨rfl, rl, y12, hk, hok, rfl⟩
          refine ⟨rfl, rl, .im (.str w), y12, ?_, hok, rfl⟩
          rw [rgD_len] at hk
          rw [hk, flatMap_take _ hwj]
          rfl
      · rintro ls' w' ⟨rfl, rl, y11, y12, hk, hok, rfl⟩
        refine ⟨rfl, rl, y5, .im (.int (p.2.1 : Nat)), .im (.str p.1), .im (.bl p.2.2), y11, y12, ?_, hok, rfl⟩
        rw [List.length_map, List.take_length] at hk
        rw [hk, flatMap_take _ hpi]
        rfl
    · rintro ls' w' ⟨rfl, rl, y5, y6, y9, y10, y11, y12, hk, hok, rfl⟩
      rw [List.length_map, List.take_length] at hk
      have hka : rl.map (·.1) = Pt.asked ⟨ws, pl, n0, rl⟩ := hk
      have W : WF ⟨ws, pl, n0, rl⟩ := {
        w1 := hw1, w3 := by show ws.length ≤ 3; omega, wn := hwn, wv := hwv
        p7 := by show pl.length ≤ 60; omega, pn := hpnd, pv := fun p hp => (hpm p hp).1
        ps := fun p hp => by have := hps p hp; omega
        st := ⟨_, hp0m, rfl, rfl⟩
        kn := by show (rl.map (·.1)).Nodup; rw [hka]; exact asked_nd (b := ⟨ws, pl, n0, rl⟩) hwn hpnd
        ka := fun k => by show k ∈ rl.map (·.1) ↔ _; rw [hka]
        kv := hok }
      refine ss_fzT 7 rfl <| ss_one <| s_ret <| pv_pn <| pn_lst <| pas_cons <| pv_tupQ c.z_tuple <| pq_pv <| pv_nm 2 rfl ⟨_, rfl, pas_cons <| pv_tupQ c.z_tuple <| pq_pv <| pv_nm 4 rfl ⟨_, rfl, pas_cons <| pv_ixL <| pq_pv <| pv_nm 3 rfl ⟨_, rfl, pv_int ⟨0, _, rfl, rfl, pas_cons <| pv_nm 7 rfl <| pas_nil ⟨Nat.le_of_ble_eq_true rfl, ?_⟩⟩⟩⟩⟩
      exact hR ⟨ws, pl, n0, rl⟩ ⟨W, hw2, hpl4, hps, List.length_pos_of_mem hp0m⟩ rfl fun p hp => (hpm p hp).2
end FH
set_option Elab.async false
set_option linter.all false
set_option maxRecDepth 100000
set_option maxHeartbeats 4000000
namespace FH
open PySem PySem.Spec PyProof.Rows L2 Pd Fw
variable {P : Program} {wo : World} {K : PySem.W.Frag} {mg : Str → Option Value} {base : Heap}
/-! _law_place -/
def selP (n : Str) : D → Option D
  | .tup (.str x :: r) => if x = n then some (.tup (.str x :: r)) else none
  | _ => none
theorem selP_pl (n : Str) (q : Pl) : selP n (placeD q) = if q.1 = n then some (placeD q) else none := rfl
theorem selP_first {p : Pl} : ∀ l : List Pl, (l.map (·.1)).Nodup → p ∈ l → ((l.map placeD).filterMap (selP p.1))[0]? = some (placeD p)
  | [], _, h => by cases h
  | q :: l, nd, h => by
    rw [List.map_cons, List.nodup_cons] at nd
    rw [List.map_cons, List.filterMap_cons, selP_pl]
    by_cases e : q.1 = p.1
    · have eq : q = p := by
        rcases List.mem_cons.mp h with z | z
        · exact z.symm
        · exact absurd (List.mem_map.mpr ⟨p, z, rfl⟩) (e ▸ nd.1)
      rw [if_pos e, eq]; rfl
    · rw [if_neg e]
      rcases List.mem_cons.mp h with z | z
      · exact absurd (z ▸ rfl) e
      · exact selP_first l nd.2 z
def S_law_place (ds : List D) (R : D → Prop) : Prop := ∃ (b : Pt) (p : Pl), ds = [partsD b, .str p.1] ∧ (b.pl.map (·.1)).Nodup ∧ p ∈ b.pl ∧ b.pl.length ≤ 60 ∧ R (placeD p)
theorem ok_law_place (c : Ctx K mg) : Cal P wo K mg base 1 (He.ga K "_law_place") ["_law_parts_here", "_law_name"] [] (spD K S_law_place) := by
  refine cal0 c.f_law_place sc_law_place (fun ds R ⟨_, _, e, _⟩ => by rw [e]; rfl) (fun _ _ _ _ _ _ us hl => match us, hl with | [_, _], _ => rfl) fun cdv A outer sh H E hr ds R hS => ?_
  obtain ⟨b, p, rfl, nd, hp, h60, hR⟩ := hS
  refine ss_one <| s_ret <| pv_ixL <| pq_pn <| pn_lcF [("_law_place_here", 2)] (selP p.1) rfl sc_law_place.nd (blkOk_by (show blkC N_law_place (defScope s_law_place) _ _ = true by decide +kernel)) <| i_tup <| pv_ixL <| pq_pv <| pv_nm 0 rfl ⟨_, rfl, pv_int ⟨1, _, rfl, rfl, _, .tup _, by rw [List.length_map]; omega, fun d2 hd2 => ?_, pv_int ⟨0, placeD p, rfl, atI_nat (selP_first b.pl nd hp), hR⟩⟩⟩
  obtain ⟨q, hq, rfl⟩ := List.mem_map.mp hd2
  refine fun _ _ _ _ _ => g_nm 2 (fun _ _ _ _ _ => t_one <| pb_c <| c_eqS <| pv_ixT <| pv_nm 2 rfl <| pv_int ⟨_, 0, _, .tup _, rfl, rfl, pv_nm 1 rfl ⟨_, _, rfl, rfl, _, rfl, rfl, fun h => ?_, fun h => ?_⟩⟩) sc_law_place.nd
  · have h' := of_decide_eq_true h
    exact fun _ _ _ _ _ => pv_nm 2 rfl ⟨rfl, by rw [selP_pl, if_pos h']⟩
  · have h' := of_decide_eq_false h
    rw [selP_pl, if_neg h']
/-! _law_after, _law_read -/
def S_law_after (ds : List D) (R : D → Prop) : Prop := ∃ (b : Pt) (s : Str × List Str) (r : Str × Str), ds = [partsD b, .str s.1, hD s.2, .str r.1, .str r.2] ∧ WF b ∧ Held b s ∧ r.1 ∈ b.ws ∧ R (stD (b.step s r))
theorem ok_law_after (c : Ctx K mg) : Cal P wo K mg base 1 (He.ga K "_law_after") ["_law_parts_here", "_law_place_here", "_law_held", "_law_word", "_law_name"] [] (spD K S_law_after) := by
  refine cal0 c.f_law_after sc_law_after (fun ds R ⟨_, _, _, e, _⟩ => by rw [e]; rfl) (fun _ _ _ _ _ _ us hl => match us, hl with | [_, _, _, _, _], _ => rfl) fun cdv A outer sh H E hr ds R hS => ?_
  obtain ⟨b, s, r, rfl, W, h, hw, hR⟩ := hS
  have hu := hu_of hr
  obtain ⟨p, hp, ep, hl⟩ := h.pl
  have hc : caseOf s.2 r.2 ≤ p.2.1 := hl ▸ caseOf_le
  obtain ⟨hv, ok⟩ := W.rule hp hw hc
  have h7 := W.len7 hp hw hc
  rw [ep] at hv ok h7
  have hst : b.step s r = ((b.rule s.1 r.1 (caseOf s.2 r.2)).1, movedTo s.2 (b.rule s.1 r.1 (caseOf s.2 r.2)).2 r.2) := rfl
  rw [hst] at hR
  generalize b.rule s.1 r.1 (caseOf s.2 r.2) = v at *
  have fin : SVs (XC P wo K mg base N_law_after "_law_after" (defScope s_law_after) (He.ga K "_law_after") cdv A outer sh H E) (List.drop 2 (defBody s_law_after)) Wd.nil
      [.im (partsD b), .im (.str s.1), .im (hD s.2), .im (.str r.1), .im (.str r.2), .im (.int (caseOf s.2 r.2 : Nat)), .no, .no, .no, .no] (fun _ _ => R .non) (fun d _ => R d) := by
    refine ss_cons <| s_asg <| pv_dgetT hu <| pt_pv <| pv_ixL <| pq_pv <| pv_nm 0 rfl ⟨_, rfl, pv_int ⟨3, _, rfl, rfl, _, rfl, pv_tup <| pas_cons <| pv_nm 1 rfl <| pas_cons <| pv_nm 3 rfl <| pas_cons <| pv_nm 5 rfl <| pas_nil ⟨Nat.le_of_ble_eq_true rfl, keyL (s.1, r.1, caseOf s.2 r.2), _, rfl, by rw [tab_val, hv]; rfl, ?_⟩⟩⟩
    refine g_tup (.tup _) (gs_cons (g_nm 6 (gs_cons (g_nm 7 (gs_nil ?_) sc_law_after.nd)) sc_law_after.nd)) rfl
    refine ss_cons (s_setN 8 (pn_lst (pas_nil ⟨Nat.le_of_ble_eq_true rfl, ?_⟩)) sc_law_after.nd)
    refine ss_cons (s_for (fun k ls' w' => w' = Wd.nil ∧ ∃ x9, ls' = [.im (partsD b), .im (.str s.1), .im (hD s.2), .im (.str r.1), .im (.str r.2), .im (.int (caseOf s.2 r.2 : Nat)), .im (.str v.1), .im (.tup (natsD v.2)), .own ((movedTo s.2 (v.2.take k) r.2).map .str), x9]) PassesOwn.never rfl (i_tup <| pv_nm 7 rfl ⟨_, .tup _, ⟨rfl, _, rfl⟩, ?_, ?_⟩))
    · rintro k d ls' w' hd ⟨rfl, x9, rfl⟩
      unfold natsD at hd
      rw [List.getElem?_map] at hd
      obtain ⟨m, hmk, rfl⟩ := Option.map_eq_some_iff.mp hd
      have hm := ok.src m (List.mem_of_getElem? hmk)
      have hk : k < v.2.length := (List.getElem?_eq_some_iff.mp hmk).1
      have hlen : ((movedTo s.2 (v.2.take k) r.2).map D.str).length < 100000 := by unfold movedTo; rw [List.length_map, List.length_map, List.length_take]; omega
      have hstep : ∀ x : Str, x = srcOf s.2 r.2 m → (movedTo s.2 (v.2.take k) r.2).map D.str ++ [D.str x] = (movedTo s.2 (v.2.take (k + 1)) r.2).map .str := fun x hx => by
        unfold movedTo
        rw [List.take_succ, hmk, List.map_append, List.map_append, hx]; rfl
      refine g_nm 9 ?_ sc_law_after.nd
      refine ss_one (s_if (pb_c <| c_eqI <| pv_nm 9 rfl <| pv_int ⟨_, 0, rfl, rfl, _, rfl, fun e => ?_, fun e => ?_⟩))
      · have e0 : m = 0 := by have := of_decide_eq_true e; omega
        refine ss_one <| s_append 8 rfl <| pv_nm 4 rfl ⟨hlen, rfl, .im (.int (m : Nat)), ?_⟩
        rw [hstep r.2 (by unfold srcOf; rw [if_pos e0])]; rfl
      · have e0 : m ≠ 0 := by have := of_decide_eq_false e; omega
        have hlt : m - 1 < s.2.length := by omega
        refine ss_one <| s_append 8 rfl <| pv_ixT <| pv_nm 2 rfl <| pv_sub <| pv_nm 9 rfl <| pv_int ⟨_, 1, rfl, rfl, _, _, .str s.2[m - 1], .ftup _, rfl, ?_, hlen, rfl, .im (.int (m : Nat)), ?_⟩
        · have : ((m : Int) - 1) = ((m - 1 : Nat) : Int) := by omega
          rw [this]
          exact atI_nat (by rw [List.getElem?_map, List.getElem?_eq_getElem hlt]; rfl)
        · rw [hstep s.2[m - 1] (by unfold srcOf; rw [if_neg e0, List.getD_eq_getElem?_getD, List.getElem?_eq_getElem hlt]; rfl)]; rfl
    · rintro ls' w' ⟨rfl, x9, rfl⟩
      rw [natsD_len, List.take_length]
      exact ss_one <| s_ret <| pv_tup <| pas_cons <| pv_nm 6 rfl <| pas_cons <| pv_ftupQ c.z_tuple <| pq_nm 8 rfl <| pas_nil ⟨Nat.le_of_ble_eq_true rfl, hR⟩
  refine ss_cons (s_set 5 (pv_int ?_) sc_law_after.nd)
  refine ss_cons (s_if <| pb_c <| c_inT <| pv_nm 4 rfl <| pv_nm 2 rfl ⟨_, _, .ftup _, .str r.2 s.2, _, rfl, fun e => ?_, fun e => ?_⟩)
  · have hn : r.2 ∈ s.2 := of_decide_eq_true e
    refine ss_one (s_set 5 (pv_add <| pv_tix <| pv_nm 2 rfl ⟨s.2, rfl, pv_nm 4 rfl ⟨r.2, rfl, hn, pv_int ⟨_, 1, rfl, rfl, ?_⟩⟩⟩) sc_law_after.nd)
    have e2 : ((s.2.idxOf r.2 : Nat) : Int) + 1 = (caseOf s.2 r.2 : Nat) := by unfold caseOf; rw [if_pos hn]; simp
    rw [e2]
    exact fin
  · have hn : r.2 ∉ s.2 := of_decide_eq_false e
    have e2 : (0 : Int) = (caseOf s.2 r.2 : Nat) := by unfold caseOf; rw [if_neg hn]; rfl
    refine ss_nil ?_
    rw [← e2] at fin
    exact fin
def S_law_read (ds : List D) (R : D → Prop) : Prop := ∃ (b : Pt) (row : Rws), ds = [partsD b, rowD row] ∧ WF b ∧ (∀ r ∈ row, r.1 ∈ b.ws) ∧ R (stD (b.run (b.st, []) row))
theorem ok_law_read (c : Ctx K mg) : Cal P wo K mg base 2 (He.ga K "_law_read") ["_law_parts_here", "_law_row_here"] [] (spD K S_law_read) := by
  refine cal0 c.f_law_read sc_law_read (fun ds R ⟨_, _, e, _⟩ => by rw [e]; rfl) (fun _ _ _ _ _ _ us hl => match us, hl with | [_, _], _ => rfl) fun cdv A outer sh H E hr ds R hS => ?_
  obtain ⟨b, row, rfl, W, hv, hR⟩ := hS
  refine ss_cons (s_set 2 (pv_ixL <| pq_pv <| pv_nm 0 rfl ⟨_, rfl, pv_int ⟨2, _, rfl, rfl, ?_⟩⟩) sc_law_read.nd)
  refine ss_cons (s_set 3 (pv_ftup0 ?_) sc_law_read.nd)
  refine ss_cons (s_for (fun k ls' w' => w' = Wd.nil ∧ ∃ u v, ls' = [.im (partsD b), .im (rowD row), .im (.str (b.run (b.st, []) (row.take k)).1), .im (hD (b.run (b.st, []) (row.take k)).2), u, v]) PassesOwn.never rfl (i_list <| pv_nm 1 rfl ⟨_, rfl, ⟨rfl, _, _, rfl⟩, ?_, ?_⟩))
  · rintro k d ls' w' hd ⟨rfl, u, v, rfl⟩
    rw [List.getElem?_map] at hd
    obtain ⟨r, hrk, rfl⟩ := Option.map_eq_some_iff.mp hd
    have hrm := List.mem_of_getElem? hrk
    have hh : Held b (b.run (b.st, ([] : List Str)) (row.take k)) := Held.run W (held_start W) fun q hq => hv q (List.mem_of_mem_take hq)
    have e2 : b.run (b.st, []) (row.take (k + 1)) = b.step (b.run (b.st, []) (row.take k)) r := by
      unfold Pt.run
      rw [List.take_succ, hrk, List.foldl_append]; rfl
    refine g_tup (.tup _) (gs_cons (g_nm 4 (gs_cons (g_nm 5 (gs_nil ?_) sc_law_read.nd)) sc_law_read.nd)) rfl
    refine ss_one <| s_asg <| pv_cal (ok_law_after c) hr c.g_law_after <| pas_cons <| pv_nm 0 rfl <| pas_cons <| pv_nm 2 rfl <| pas_cons <| pv_nm 3 rfl <| pas_cons <| pv_nm 4 rfl <| pas_cons <| pv_nm 5 rfl <| pas_nil ⟨b, _, r, rfl, W, hh, hv r hrm, ?_⟩
    rw [← e2]
    exact g_tup (.tup _) (gs_cons (g_nm 2 (gs_cons (g_nm 3 (gs_nil ⟨rfl, _, _, rfl⟩) sc_law_read.nd)) sc_law_read.nd)) rfl
  · rintro ls' w' ⟨rfl, u, v, rfl⟩
    rw [List.length_map, List.take_length]
    exact ss_one <| s_ret <| pv_tup <| pas_cons <| pv_nm 2 rfl <| pas_cons <| pv_nm 3 rfl <| pas_nil ⟨Nat.le_of_ble_eq_true rfl, hR⟩
/-! _law_drawn_row -/
def aName (n : Str) : Prop := ∃ i : Int, 1 ≤ i ∧ i ≤ 4 ∧ n = ("a" : Str) ++ toString i
theorem aName_ok {n : Str} (h : aName n) : nameB n = true ∧ n ≠ "new" := by
  obtain ⟨i, h1, h4, rfl⟩ := h
  have : i = 1 ∨ i = 2 ∨ i = 3 ∨ i = 4 := by omega
  rcases this with rfl | rfl | rfl | rfl <;> exact ⟨by decide +kernel, by decide +kernel⟩
def S_law_drawn_row (ds : List D) (R : D → Prop) : Prop := ∃ (ns : List Int) (a n : Nat) (ws : List Str), ds = [.lst (ns.map .int), .int a, .int n, strsD ws] ∧ ns.length = 190 ∧ 0 < ws.length ∧ a + 2 * n ≤ 190 ∧ ∀ row : Rws, row.length = n → (∀ r ∈ row, r.1 ∈ ws ∧ aName r.2) → R (rowD row)
theorem ok_law_drawn_row (c : Ctx K mg) : Cal P wo K mg base 1 (He.ga K "_law_drawn_row") ["_law_numbers_here", "_law_at", "_law_many", "_law_words"] [] (spD K S_law_drawn_row) := by
  refine cal0 c.f_law_drawn_row sc_law_drawn_row (fun ds R ⟨_, _, _, _, e, _⟩ => by rw [e]; rfl) (fun _ _ _ _ _ _ us hl => match us, hl with | [_, _, _, _], _ => rfl) fun cdv A outer sh H E hr ds R hS => ?_
  obtain ⟨ns, a, n, ws, rfl, hn, hw, han, hR⟩ := hS
  have wi : ∀ z : Int, (z % (ws.length : Int)).toNat < ws.length := fun z => by
    have m0 : 0 ≤ z % (ws.length : Int) := Int.emod_nonneg _ (by omega)
    have m1 : z % (ws.length : Int) < ws.length := Int.emod_lt_of_pos _ (by omega)
    omega
  let rd : Int → Str × Str := fun k => (ws.getD (ns.getD (a + 2 * k.toNat) 0 % (ws.length : Int)).toNat Str.empty, ("a" : Str) ++ toString (1 + ns.getD (a + 2 * k.toNat + 1) 0 % 4))
  have num : ∀ i : Nat, i < 190 → atI (ns.map D.int) (i : Nat) = some (.int (ns.getD i 0)) := fun i hi => by
    have hi' : i < ns.length := by omega
    exact atI_nat (by rw [List.getElem?_map, List.getD_eq_getElem?_getD, List.getElem?_eq_getElem hi']; rfl)
  have rok : ∀ k : Int, (rd k).1 ∈ ws ∧ aName (rd k).2 := fun k => by
    have h1 := wi (ns.getD (a + 2 * k.toNat) 0)
    refine ⟨?_, _, ?_, ?_, rfl⟩
    · show ws.getD _ _ ∈ ws
      rw [List.getD_eq_getElem?_getD, List.getElem?_eq_getElem h1]
      exact List.getElem_mem h1
    · have : 0 ≤ ns.getD (a + 2 * k.toNat + 1) 0 % 4 := Int.emod_nonneg _ (by decide)
      omega
    · have : ns.getD (a + 2 * k.toNat + 1) 0 % 4 < 4 := Int.emod_lt_of_pos _ (by decide)
      omega
  refine ss_one <| s_ret <| pv_pn <| pn_lcM [("_law_k", 4)] (fun d => match d with | .int k => rdD (rd k) | _ => .non) rfl sc_law_drawn_row.nd (blkOk_by (show blkC N_law_drawn_row (defScope s_law_drawn_row) _ _ = true by decide +kernel)) <| i_range1 c.z_range <| pv_nm 2 rfl ⟨n, rfl, by omega, by rw [rgD_len]; omega, fun d2 hd2 => ?_, ?_⟩
  · obtain ⟨k, hk, rfl⟩ := rgD_mem hd2
    have e0 : (0 : Int) + (k : Nat) = (k : Nat) := by omega
    rw [e0]
    have hb : -(2 ^ 64) < ((k : Nat) : Int) ∧ ((k : Nat) : Int) < 2 ^ 64 := by constructor <;> omega
    have i1 : ((a : Nat) : Int) + 2 * ((k : Nat) : Int) = ((a + 2 * k : Nat) : Int) := by omega
    have i2 : ((a : Nat) : Int) + 2 * ((k : Nat) : Int) + 1 = ((a + 2 * k + 1 : Nat) : Int) := by omega
    have h1 := wi (ns.getD (a + 2 * k) 0)
    have hs := (rok (k : Nat)).2
    simp only [rd, Int.toNat_natCast] at hs
    refine fun _ _ _ _ _ => g_nm 4 (fun _ _ _ _ _ => ?_) sc_law_drawn_row.nd
    refine pv_tup <| pas_cons <| pv_ixT <| pv_nm 3 rfl <| pv_mod <| pv_intI c.z_int <| pv_ixL <| pq_pv <| pv_nm 0 rfl ⟨_, rfl, pv_add <| pv_nm 1 rfl <| pv_mul2 <| pv_int <| pv_nm 4 rfl ⟨_, _, rfl, rfl, .inr hb, _, _, rfl, rfl, _, _, rfl, by rw [i1]; exact num _ (by omega), _, rfl, pv_lenT c.z_len <| pv_nm 3 rfl ⟨_, .tup _, _, _, rfl, rfl, by rw [List.length_map]; omega, _, _, .str (ws.getD (ns.getD (a + 2 * k) 0 % (ws.length : Int)).toNat Str.empty), .tup _, rfl, ?_, ?_⟩⟩⟩
    · rw [List.length_map]
      generalize ns.getD (a + 2 * k) 0 = z at h1 ⊢
      refine atI_int (Int.emod_nonneg _ (by omega)) ?_
      rw [List.getElem?_map, List.getD_eq_getElem?_getD, List.getElem?_eq_getElem h1]; rfl
    refine pas_cons <| pv_addS <| pv_str <| pv_strI c.z_str <| pv_add <| pv_int <| pv_mod <| pv_intI c.z_int <| pv_ixL <| pq_pv <| pv_nm 0 rfl ⟨_, rfl, pv_add <| pv_add <| pv_nm 1 rfl <| pv_mul2 <| pv_int <| pv_nm 4 rfl ⟨_, _, rfl, rfl, .inr hb, _, _, rfl, rfl, pv_int ⟨_, 1, rfl, rfl, _, _, rfl, by rw [i2]; exact num _ (by omega), _, rfl, pv_int ⟨_, 4, rfl, rfl, by decide, _, _, rfl, rfl, _, rfl, ?_, _, _, rfl, rfl, ?_, pas_nil ⟨Nat.le_of_ble_eq_true rfl, rfl, ?_⟩⟩⟩⟩⟩
    · have m0 : 0 ≤ ns.getD (a + 2 * k + 1) 0 % 4 := Int.emod_nonneg _ (by decide)
      have m1 : ns.getD (a + 2 * k + 1) 0 % 4 < 4 := Int.emod_lt_of_pos _ (by decide)
      have : (1 + ns.getD (a + 2 * k + 1) 0 % 4).natAbs ≤ 4 := by omega
      exact Nat.lt_of_le_of_lt (Nat.log2_le_self _) (by omega)
    · have := nameB_len (aName_ok hs).1
      rw [len_app] at this
      omega
    · simp [rdD, rd]
  · have e : (rgD 0 n).map (fun d => match d with | .int k => rdD (rd k) | _ => .non) = ((List.range n).map fun k => rd ((0 : Int) + (k : Nat))).map rdD := by
      unfold rgD
      rw [List.map_map, List.map_map]; rfl
    rw [e]
    exact hR _ (by simp) fun r hr => by
      obtain ⟨k, _, rfl⟩ := List.mem_map.mp hr
      exact rok _
/-! _law_names_of -/
def S_law_names_of (ds : List D) (R : D → Prop) : Prop := ∃ row : Rws, ds = [rowD row] ∧ row.length ≤ 1000 ∧ ∀ ys : List Str, ys.Nodup → (∀ x, x ∈ ys ↔ x ∈ row.map (·.2)) → R (.lst (ys.map .str))
theorem ok_law_names_of (c : Ctx K mg) : Cal P wo K mg base 1 (He.ga K "_law_names_of") ["_law_row_here"] [] (spD K S_law_names_of) := by
  refine cal0 c.f_law_names_of sc_law_names_of (fun ds R ⟨_, e, _⟩ => by rw [e]; rfl) (fun _ _ _ _ _ _ us hl => match us, hl with | [_], _ => rfl) fun cdv A outer sh H E hr ds R hS => ?_
  obtain ⟨row, rfl, hl, hR⟩ := hS
  refine ss_cons (s_setN 1 (pn_lst (pas_nil ⟨Nat.le_of_ble_eq_true rfl, ?_⟩)) sc_law_names_of.nd)
  refine ss_cons (s_for (fun k ls' w' => w' = Wd.nil ∧ ∃ (ys : List Str) (u v : L), ys.Nodup ∧ ys.length ≤ k ∧ (∀ x, x ∈ ys ↔ x ∈ (row.take k).map (·.2)) ∧ ls' = [.im (rowD row), .own (ys.map .str), u, v]) PassesOwn.never rfl (i_list <| pv_nm 0 rfl ⟨_, rfl, ⟨rfl, [], _, _, List.nodup_nil, Nat.le_refl _, fun x => by simp, rfl⟩, ?_, ?_⟩))
  · rintro k d ls' w' hd ⟨rfl, ys, u, v, hnd, hlen, hmem, rfl⟩
    rw [List.getElem?_map] at hd
    obtain ⟨r, hrk, rfl⟩ := Option.map_eq_some_iff.mp hd
    have hk : k < row.length := (List.getElem?_eq_some_iff.mp hrk).1
    have ht : (row.take (k + 1)).map (·.2) = (row.take k).map (·.2) ++ [r.2] := by rw [List.take_succ, hrk, List.map_append]; rfl
    refine g_tup (.tup _) (gs_cons (g_nm 2 (gs_cons (g_nm 3 (gs_nil ?_) sc_law_names_of.nd)) sc_law_names_of.nd)) rfl
    refine ss_one (s_if <| pb_c <| c_notInL <| pv_nm 3 rfl <| pq_nm 1 rfl ⟨_, .str r.2 ys, _, rfl, fun h => ?_, fun h => ?_⟩)
    · have hn : r.2 ∉ ys := fun hm => by rw [decide_eq_true hm] at h; exact nomatch h
      refine ss_one <| s_append 1 rfl <| pv_nm 3 rfl ⟨by rw [List.length_map]; omega, rfl, ys ++ [r.2], .im (.str r.1), .im (.str r.2), ?_, by rw [List.length_append, List.length_singleton]; omega, fun x => ?_, by rw [List.map_append]; rfl⟩
      · exact List.nodup_append.mpr ⟨hnd, by simp, fun a ha b hb e => hn (by rw [List.mem_singleton.mp hb] at e; exact e ▸ ha)⟩
      · rw [ht, List.mem_append, List.mem_append, hmem]
    · have hn : r.2 ∈ ys := by
        have h' : decide (r.2 ∈ ys) = true := by simpa using h
        exact of_decide_eq_true h'
      refine ss_nil ⟨rfl, ys, .im (.str r.1), .im (.str r.2), hnd, by omega, fun x => ?_, rfl⟩
      rw [ht, List.mem_append, ← hmem, List.mem_singleton]
      exact ⟨.inl, fun h => h.elim (fun z => z) fun z => z ▸ hn⟩
  · rintro ls' w' ⟨rfl, ys, u, v, hnd, hlen, hmem, rfl⟩
    rw [List.length_map, List.take_length] at hmem
    exact ss_one (sv_fz 1 rfl (s_ret (pv_nm 1 rfl (hR ys hnd hmem))))
/-! _law_read_book -/
def Pt.norm (b : Pt) : Pt := ⟨b.ws, b.pl, b.st, b.asked.map fun k => (k, b.rule k.1 k.2.1 k.2.2)⟩
def S_law_read_book (C : Addr) (ds : List D) (R : D → Prop) : Prop := ∃ b : Pt, ds = [bookD C b] ∧ WF b ∧ R (partsD (Pt.norm b))
theorem ok_law_read_book (c : Ctx K mg) : Cal P wo K mg base 4 (He.ga K "_law_read_book") ["_law_book"] [] (spD K (S_law_read_book (bC K))) := by
  refine cal0 c.f_law_read_book sc_law_read_book (fun ds R ⟨_, e, _⟩ => by rw [e]; rfl) (fun _ _ _ _ _ _ us hl => match us, hl with | [_], _ => rfl) fun cdv A outer sh H E hr ds R hS => ?_
  obtain ⟨b, rfl, W, hR⟩ := hS
  have hu := hu_of hr
  have hal := asked_len W
  have hnd := asked_nd W.wn W.pn
  refine ss_cons (s_setT 1 ?_ sc_law_read_book.nd)
  refine ss_cons (s_for (fun k ls' w' => w' = Wd.nil ∧ ∃ x2 x3 x4 x5 x6, ls' = [.im (bookD (bC K) b), .ownT (tabD ((b.asked.take k).map fun k => (k, b.rule k.1 k.2.1 k.2.2))), x2, x3, x4, x5, x6]) PassesOwn.never rfl (i_tup <| pv_calp (ok_Book_rules c) hr c.c_Book c.p_rules <| pv_nm 0 rfl ⟨_, rfl, b, rfl, W, _, .tup _, ⟨rfl, _, _, _, _, _, rfl⟩, ?_, ?_⟩))
  · rintro i d ls' w' hd ⟨rfl, x2, x3, x4, x5, x6, rfl⟩
    rw [List.getElem?_map] at hd
    obtain ⟨k, hki, rfl⟩ := Option.map_eq_some_iff.mp hd
    have hi : i < b.asked.length := (List.getElem?_eq_some_iff.mp hki).1
    have hnew : k ∉ ((b.asked.take i).map fun k => (k, b.rule k.1 k.2.1 k.2.2)).map (·.1) := by
      rw [List.map_map]
      have e : (b.asked.take i).map ((fun (x : Rk × Rv) => x.1) ∘ fun k => (k, b.rule k.1 k.2.1 k.2.2)) = b.asked.take i := by
        rw [show ((fun (x : Rk × Rv) => x.1) ∘ fun k : Rk => (k, b.rule k.1 k.2.1 k.2.2)) = id from rfl, List.map_id]
      rw [e]
      intro hm
      obtain ⟨j, hj, ej⟩ := List.getElem_of_mem hm
      rw [List.length_take] at hj
      rw [List.getElem_take] at ej
      have := nodup_at hnd (i := j) (j := i) (x := k) (by rw [List.getElem?_eq_getElem (by omega), ej]) hki
      omega
    refine g_tup (.tup _) (gs_cons (g_nm 2 (gs_cons (g_nm 3 (gs_cons (g_nm 4 (gs_cons (g_nm 5 (gs_cons (g_nm 6 (gs_nil ?_) sc_law_read_book.nd)) sc_law_read_book.nd)) sc_law_read_book.nd)) sc_law_read_book.nd)) sc_law_read_book.nd)) rfl
    refine ss_one <| s_put 1 hu rfl <| pv_tup <| pas_cons <| pv_nm 5 rfl <| pas_cons <| pv_nm 6 rfl <| pas_nil ⟨Nat.le_of_ble_eq_true rfl, pv_tup <| pas_cons <| pv_nm 2 rfl <| pas_cons <| pv_nm 3 rfl <| pas_cons <| pv_nm 4 rfl <| pas_nil ⟨Nat.le_of_ble_eq_true rfl, keyL k, rfl, by rw [tab_len, List.length_map, List.length_take]; omega, rfl, ?_⟩⟩
    have e1 := tab_put (rl := (b.asked.take i).map fun k => (k, b.rule k.1 k.2.1 k.2.2)) (k := k) (v := b.rule k.1 k.2.1 k.2.2) hnew
    have e2 : (b.asked.take (i + 1)).map (fun k => (k, b.rule k.1 k.2.1 k.2.2)) = (b.asked.take i).map (fun k => (k, b.rule k.1 k.2.1 k.2.2)) ++ [(k, b.rule k.1 k.2.1 k.2.2)] := by rw [List.take_succ, hki, List.map_append]; rfl
    rw [e2, ← e1]
    exact ⟨_, _, _, _, _, rfl⟩
  · rintro ls' w' ⟨rfl, x2, x3, x4, x5, x6, rfl⟩
    rw [List.length_map, List.take_length]
    exact ss_fzT 1 rfl <| ss_one <| s_ret <| pv_pn <| pn_lst <| pas_cons <| pv_fld <| pv_nm 0 rfl ⟨_, _, _, rfl, c.c_Book, c.n_Book_words, rfl, pas_cons <| pv_fld <| pv_nm 0 rfl ⟨_, _, _, rfl, c.c_Book, c.n_Book_places, rfl, pas_cons <| pv_fld <| pv_nm 0 rfl ⟨_, _, _, rfl, c.c_Book, c.n_Book_start, rfl, pas_cons <| pv_nm 1 rfl <| pas_nil ⟨Nat.le_of_ble_eq_true rfl, hR⟩⟩⟩⟩
end FH
set_option Elab.async false
set_option linter.all false
set_option maxRecDepth 100000
set_option maxHeartbeats 4000000
namespace Fw
open PySem PySem.Spec PyProof.Rows L2 Pd
theorem pl_uniq {pl : List Pl} (nd : (pl.map (·.1)).Nodup) {p q : Pl} (hp : p ∈ pl) (hq : q ∈ pl) (e : p.1 = q.1) : p = q := by
  have e1 := FH.pof_of nd hp
  rw [e, FH.pof_of nd hq] at e1
  exact (Option.some.inj e1).symm
theorem WF.rl_len {b : Pt} (W : WF b) : b.rl.length = b.asked.length := by
  have := len_eq_of_mem W.kn (asked_nd W.wn W.pn) W.ka
  rwa [List.length_map] at this
theorem WF.rl_key {b : Pt} (W : WF b) {r : Rk × Rv} (hr : r ∈ b.rl) : ∃ p ∈ b.pl, p.1 = r.1.1 ∧ r.1.2.1 ∈ b.ws ∧ r.1.2.2 ≤ p.2.1 ∧ RvOk b.pl r.1.2.2 p.2.1 r.2 := by
  obtain ⟨p, hp, e, hw, hc⟩ := asked_mem.mp ((W.ka r.1).mp (List.mem_map.mpr ⟨r, hr, rfl⟩))
  exact ⟨p, hp, e, hw, hc, W.kv r hr p hp e⟩
/-! slots permuted -/
def sg (o : List Nat) (c : Nat) : Nat := if c = 0 then 0 else o.idxOf c + 1
def pmF (o : List Nat) (nm : Str) (r : Rk × Rv) : Rk × Rv :=
  let ms := if r.1.1 = nm then r.2.2.map (sg o) else r.2.2
  ((r.1.1, r.1.2.1, if r.1.1 = nm then sg o r.1.2.2 else r.1.2.2), (r.2.1, if r.2.1 = nm then o.map fun k => ms.getD (k - 1) 0 else ms))
section
variable {o : List Nat} {s : Nat}
theorem sg_le (h : o.Perm (FH.one_to s)) {c : Nat} (hc : c ≤ s) : sg o c ≤ s := by
  unfold sg
  split
  · omega
  · rename_i h0
    have hm : c ∈ o := h.mem_iff.mpr (FH.one_to_mem.mpr ⟨by omega, hc⟩)
    have := List.idxOf_lt_length_of_mem hm
    rw [h.length_eq] at this
    unfold FH.one_to at this
    rw [List.length_map, List.length_range] at this
    omega
theorem sg_pos {c : Nat} (hc : 1 ≤ c) : 1 ≤ sg o c := by unfold sg; rw [if_neg (by omega)]; omega
theorem sg_inj (h : o.Perm (FH.one_to s)) {c d : Nat} (hc : c ≤ s) (hd : d ≤ s) (e : sg o c = sg o d) : c = d := by
  unfold sg at e
  split at e
  · split at e <;> omega
  · split at e
    · omega
    · have h1 : c ∈ o := h.mem_iff.mpr (FH.one_to_mem.mpr ⟨by omega, hc⟩)
      have h2 : d ∈ o := h.mem_iff.mpr (FH.one_to_mem.mpr ⟨by omega, hd⟩)
      have e1 := (idx_spec h1).1
      have e2 := (idx_spec h2).1
      have e3 : o.idxOf c = o.idxOf d := by omega
      rw [e3, e2] at e1
      exact (Option.some.inj e1).symm
theorem leastOf_sg {c : Nat} : leastOf (sg o c) = leastOf c := by
  unfold leastOf sg
  by_cases h : c = 0
  · simp [h]
  · simp [h]
theorem pmF_wf {b : Pt} (W : WF b) {p : Pl} (hp : p ∈ b.pl) (h : o.Perm (FH.one_to p.2.1)) : WF ⟨b.ws, b.pl, b.st, b.rl.map (pmF o p.1)⟩ := by
  have hkeys : ((b.rl.map (pmF o p.1)).map (·.1)) = (b.rl.map (·.1)).map fun k => (k.1, k.2.1, if k.1 = p.1 then sg o k.2.2 else k.2.2) := by rw [List.map_map, List.map_map]; rfl
  have hcs : ∀ k ∈ b.rl.map (·.1), k.1 = p.1 → k.2.2 ≤ p.2.1 := fun k hk e => by
    obtain ⟨q, hq, eq, _, hc⟩ := asked_mem.mp ((W.ka k).mp hk)
    have := pl_uniq W.pn hq hp (eq.trans e)
    rw [this] at hc; exact hc
  have hnd : ((b.rl.map (pmF o p.1)).map (·.1)).Nodup := by
    rw [hkeys]
    refine List.pairwise_map.mpr (List.Pairwise.imp_of_mem (fun {x y} hx hy hne e => hne ?_) W.kn)
    obtain ⟨x1, x2, x3⟩ := x
    obtain ⟨y1, y2, y3⟩ := y
    injection e with e1 e2
    injection e2 with e2 e3
    dsimp only at e1 e2 e3
    subst e1 e2
    by_cases hq : x1 = p.1
    · rw [if_pos hq, if_pos hq] at e3
      have e4 : x3 = y3 := sg_inj h (hcs _ hx hq) (hcs _ hy hq) e3
      rw [e4]
    · rw [if_neg hq, if_neg hq] at e3
      rw [e3]
  have hsub : ∀ k ∈ (b.rl.map (pmF o p.1)).map (·.1), k ∈ b.asked := fun k hk => by
    rw [hkeys] at hk
    obtain ⟨k0, hk0, rfl⟩ := List.mem_map.mp hk
    obtain ⟨q, hq, eq, hw, hc⟩ := asked_mem.mp ((W.ka k0).mp hk0)
    refine asked_mem.mpr ⟨q, hq, eq, hw, ?_⟩
    show (if k0.1 = p.1 then sg o k0.2.2 else k0.2.2) ≤ q.2.1
    split
    · rename_i e
      have := pl_uniq W.pn hq hp (eq.trans e)
      rw [this] at hc ⊢
      exact sg_le h hc
    · exact hc
  refine { w1 := W.w1, w3 := W.w3, wn := W.wn, wv := W.wv, p7 := W.p7, pn := W.pn, pv := W.pv, ps := W.ps, st := W.st, kn := hnd, ka := fun k => ⟨hsub k, fun hk => ?_⟩, kv := fun r hr q hq e => ?_ }
  · refine mem_of_nodup_len hnd hsub ?_ k hk
    rw [List.length_map, List.length_map]; exact W.rl_len
  · obtain ⟨r0, hr0, rfl⟩ := List.mem_map.mp hr
    have e' : q.1 = r0.1.1 := e
    have ok := W.kv r0 hr0 q hq e'
    -- moves behind the first change
    have ok1 : (if r0.1.1 = p.1 then r0.2.2.map (sg o) else r0.2.2).Nodup ∧ ∀ m ∈ (if r0.1.1 = p.1 then r0.2.2.map (sg o) else r0.2.2), leastOf (if r0.1.1 = p.1 then sg o r0.1.2.2 else r0.1.2.2) ≤ m ∧ m ≤ q.2.1 := by
      by_cases hq1 : r0.1.1 = p.1
      · rw [if_pos hq1, if_pos hq1]
        have eqp := pl_uniq W.pn hq hp (e'.trans hq1)
        rw [eqp] at ok ⊢
        refine ⟨List.pairwise_map.mpr (List.Pairwise.imp_of_mem (fun {x y} hx hy hne e => hne (sg_inj h (ok.src x hx).2 (ok.src y hy).2 e)) ok.nd), fun m hm => ?_⟩
        obtain ⟨m0, hm0, rfl⟩ := List.mem_map.mp hm
        have := ok.src m0 hm0
        rw [leastOf_sg]
        refine ⟨?_, sg_le h this.2⟩
        unfold leastOf at this ⊢
        split
        · exact Nat.zero_le _
        · rename_i h0
          rw [if_neg h0] at this
          exact sg_pos this.1
      · rw [if_neg hq1, if_neg hq1]
        exact ⟨ok.nd, ok.src⟩
    have len1 : (if r0.1.1 = p.1 then r0.2.2.map (sg o) else r0.2.2).length = r0.2.2.length := by split <;> simp
    obtain ⟨g, hg, eg, hgl⟩ := ok.goal
    show RvOk b.pl (if r0.1.1 = p.1 then sg o r0.1.2.2 else r0.1.2.2) q.2.1 (r0.2.1, if r0.2.1 = p.1 then o.map fun k => (if r0.1.1 = p.1 then r0.2.2.map (sg o) else r0.2.2).getD (k - 1) 0 else (if r0.1.1 = p.1 then r0.2.2.map (sg o) else r0.2.2))
    generalize (if r0.1.1 = p.1 then r0.2.2.map (sg o) else r0.2.2) = ms at ok1 len1
    by_cases hg1 : r0.2.1 = p.1
    · rw [if_pos hg1]
      have egp := pl_uniq W.pn hg hp (eg.trans hg1)
      have hol : o.length = p.2.1 := by rw [h.length_eq]; unfold FH.one_to; rw [List.length_map, List.length_range]
      have hml : ms.length = p.2.1 := by rw [len1, hgl, egp]
      have at_ : ∀ k ∈ o, ∃ hk : k - 1 < ms.length, ms.getD (k - 1) 0 = ms[k - 1] := fun k hk => by
        have := FH.one_to_mem.mp (h.mem_iff.mp hk)
        have hk' : k - 1 < ms.length := by omega
        exact ⟨hk', by rw [List.getD_eq_getElem?_getD, List.getElem?_eq_getElem hk']; rfl⟩
      refine ⟨⟨g, hg, eg, by show (o.map _).length = _; rw [List.length_map, hol, egp]⟩, ?_, fun m hm => ?_⟩
      · refine List.pairwise_map.mpr (List.Pairwise.imp_of_mem (fun {x y} hx hy hne e => hne ?_) (h.symm.nodup (FH.one_to_nd _)))
        obtain ⟨h1, e1⟩ := at_ x hx
        obtain ⟨h2, e2⟩ := at_ y hy
        rw [e1, e2] at e
        have := nodup_at ok1.1 (i := x - 1) (j := y - 1) (x := ms[y - 1]) (by rw [List.getElem?_eq_getElem h1, e]) (List.getElem?_eq_getElem h2)
        have hx1 := FH.one_to_mem.mp (h.mem_iff.mp hx)
        have hy1 := FH.one_to_mem.mp (h.mem_iff.mp hy)
        omega
      · obtain ⟨k, hk, rfl⟩ := List.mem_map.mp hm
        obtain ⟨h1, e1⟩ := at_ k hk
        rw [e1]
        exact ok1.2 _ (List.getElem_mem h1)
    · rw [if_neg hg1]
      exact ⟨⟨g, hg, eg, len1.trans hgl⟩, ok1.1, ok1.2⟩
end
end Fw
namespace FH
open PySem PySem.Spec PyProof.Rows L2 Pd Fw
variable {P : Program} {wo : World} {K : PySem.W.Frag} {mg : Str → Option Value} {base : Heap}
theorem take_new {rl : List (Rk × Rv)} {f : Rk × Rv → Rk × Rv} (nd : ((rl.map f).map (·.1)).Nodup) {i : Nat} {r : Rk × Rv} (h : rl[i]? = some r) : (f r).1 ∉ ((rl.take i).map f).map (·.1) := by
  intro hm
  obtain ⟨r2, hr2, e⟩ := List.mem_map.mp hm
  obtain ⟨r1, hr1, rfl⟩ := List.mem_map.mp hr2
  obtain ⟨j, hj, ej⟩ := List.getElem_of_mem hr1
  rw [List.length_take] at hj
  rw [List.getElem_take] at ej
  have := nodup_at nd (i := j) (j := i) (x := (f r).1) (by rw [List.getElem?_map, List.getElem?_map, List.getElem?_eq_getElem (by omega), ej]; exact congrArg some e) (by rw [List.getElem?_map, List.getElem?_map, h]; rfl)
  omega
theorem take_map_succ {α β : Type} {l : List α} {f : α → β} {i : Nat} {x : α} (h : l[i]? = some x) : (l.take (i + 1)).map f = (l.take i).map f ++ [f x] := by rw [List.take_succ, h, List.map_append]; rfl
def S_law_permuted (ds : List D) (R : D → Prop) : Prop := ∃ (b : Pt) (p : Pl) (o : List Nat), ds = [partsD b, .str p.1, .lst (natsD o)] ∧ WF b ∧ p ∈ b.pl ∧ o.Perm (one_to p.2.1) ∧ ∀ rl', WF ⟨b.ws, b.pl, b.st, rl'⟩ → R (partsD ⟨b.ws, b.pl, b.st, rl'⟩)
theorem ok_law_permuted (c : Ctx K mg) : Cal P wo K mg base 1 (He.ga K "_law_permuted") ["_law_parts_here", "_law_name", "_law_order"] [] (spD K S_law_permuted) := by
  refine cal0 c.f_law_permuted sc_law_permuted (fun ds R ⟨_, _, _, e, _⟩ => by rw [e]; rfl) (fun _ _ _ _ _ _ us hl => match us, hl with | [_, _, _], _ => rfl) fun cdv A outer sh H E hr ds R hS => ?_
  obtain ⟨b, p, o, rfl, W, hp, ho, hR⟩ := hS
  have hu := hu_of hr
  have W' := pmF_wf W hp ho
  have hol : o.length = p.2.1 := by rw [ho.length_eq]; unfold one_to; rw [List.length_map, List.length_range]
  have hp6 := W.ps p hp
  have hrl := W.rl_len
  have hal := asked_len W
  have eph : ([.int 0] : List D) ++ (rgD 0 o.length).map (fun d => match d with | .int k => .int ((sg o (k.toNat + 1) : Nat) : Int) | _ => .non) = natsD ((List.range (p.2.1 + 1)).map (sg o)) := by
    rw [List.range_succ_eq_map, List.map_cons, List.map_map]
    unfold rgD natsD
    rw [List.map_map, List.map_cons, List.map_map, hol]
    show _ :: _ = _ :: _
    congr 1
    exact List.map_congr_left fun k _ => by simp
  refine ss_cons (s_setN 3 (pn_add <| pq_pn <| pn_lst <| pas_cons <| pv_int <| pas_nil ⟨Nat.le_of_ble_eq_true rfl, pq_pn <| pn_lcM [("_law_k", 4)] (fun d => match d with | .int k => .int ((sg o (k.toNat + 1) : Nat) : Int) | _ => .non) rfl sc_law_permuted.nd (blkOk_by (show blkC N_law_permuted (defScope s_law_permuted) _ _ = true by decide +kernel)) <| i_range1 c.z_range <| pv_lenQ c.z_len <| pq_pv <| pv_nm 2 rfl ⟨_, rfl, o.length, by rw [natsD_len], by omega, by rw [rgD_len]; omega, fun d2 hd2 => ?_, by rw [List.length_map, rgD_len]; simp; omega, ?_⟩⟩) sc_law_permuted.nd)
  · obtain ⟨k, hk, rfl⟩ := rgD_mem hd2
    have e0 : (0 : Int) + (k : Nat) = (k : Nat) := by omega
    rw [e0]
    have hm : k + 1 ∈ o := ho.mem_iff.mpr (one_to_mem.mpr ⟨by omega, by omega⟩)
    have hmi : (((k + 1 : Nat) : Nat) : Int) ∈ o.map fun n : Nat => (n : Int) := List.mem_map.mpr ⟨_, hm, rfl⟩
    have hidx : ∀ l : List Nat, (l.map fun n : Nat => (n : Int)).idxOf (((k + 1 : Nat) : Nat) : Int) = l.idxOf (k + 1) := fun l => by
      induction l with
      | nil => rfl
      | cons a l ih =>
        rw [List.map_cons, List.idxOf_cons, List.idxOf_cons, ih]
        have : ((a : Int) == ((k + 1 : Nat) : Int)) = (a == k + 1) := by rw [Bool.eq_iff_iff, beq_iff_eq, beq_iff_eq]; omega
        rw [this]
    exact fun _ _ _ _ _ => g_nm 4 (fun _ _ _ _ _ => pv_add <| pv_idxI <| pq_pv <| pv_nm 2 rfl ⟨_, rfl, pv_add <| pv_nm 4 rfl <| pv_int ⟨_, 1, rfl, rfl, o.map fun n : Nat => (n : Int), _, nats_ints o, rfl, hmi, pv_int ⟨_, 1, rfl, rfl, rfl, by
      have e9 : ((k : Int) + 1) = ((k + 1 : Nat) : Int) := by omega
      rw [e9, hidx]
      simp [sg]⟩⟩⟩) sc_law_permuted.nd
  rw [eph]
  refine ss_fz 3 rfl <| ss_cons (s_setT 5 ?_ sc_law_permuted.nd)
  let f := pmF o p.1
  have fcase : ∀ (x4 x6 x9 x10 x11 x12 : L) (r : Rk × Rv) (i : Nat) (cs : Nat) (ms : List Nat), b.rl[i]? = some r → cs = (if r.1.1 = p.1 then sg o r.1.2.2 else r.1.2.2) → ms = (if r.1.1 = p.1 then r.2.2.map (sg o) else r.2.2) →
      SVs (XC P wo K mg base N_law_permuted "_law_permuted" (defScope s_law_permuted) (He.ga K "_law_permuted") cdv A outer sh H E) (List.drop 3 (match (defBody s_law_permuted).getD 2 (.Pass ⟨0,0,0,0⟩) with | .For _ _ b _ _ => b | _ => [])) Wd.nil
        [.im (partsD b), .im (.str p.1), .im (.lst (natsD o)), .im (.lst (natsD ((List.range (p.2.1 + 1)).map (sg o)))), x4, .ownT (tabD ((b.rl.take i).map f)), x6, .im (.str r.2.1), .im (.tup (natsD ms)), .im (.str r.1.1), .im (.str r.1.2.1), .im (.int (cs : Nat)), x12]
        (fun ls' w' => w' = Wd.nil ∧ ∃ x4 x6 x7 x8 x9 x10 x11 x12, ls' = [.im (partsD b), .im (.str p.1), .im (.lst (natsD o)), .im (.lst (natsD ((List.range (p.2.1 + 1)).map (sg o)))), x4, .ownT (tabD ((b.rl.take (i + 1)).map f)), x6, x7, x8, x9, x10, x11, x12]) (fun d _ => R d) := fun x4 x6 x9 x10 x11 x12 r i cs ms hri ecs ems => by
    have hil : i < b.rl.length := (List.getElem?_eq_some_iff.mp hri).1
    have hrm := List.mem_of_getElem? hri
    obtain ⟨q, hq, eq, hw, hc, ok⟩ := W.rl_key hrm
    obtain ⟨g, hg, eg, hgl⟩ := ok.goal
    have hml : ms.length = r.2.2.length := by rw [ems]; split <;> simp
    have hg6 := W.ps g hg
    have last : ∀ (ms2 : List Nat), ms2 = (if r.2.1 = p.1 then o.map fun k => ms.getD (k - 1) 0 else ms) →
        SVs (XC P wo K mg base N_law_permuted "_law_permuted" (defScope s_law_permuted) (He.ga K "_law_permuted") cdv A outer sh H E) (List.drop 4 (match (defBody s_law_permuted).getD 2 (.Pass ⟨0,0,0,0⟩) with | .For _ _ b _ _ => b | _ => [])) Wd.nil
        [.im (partsD b), .im (.str p.1), .im (.lst (natsD o)), .im (.lst (natsD ((List.range (p.2.1 + 1)).map (sg o)))), x4, .ownT (tabD ((b.rl.take i).map f)), x6, .im (.str r.2.1), .im (.tup (natsD ms2)), .im (.str r.1.1), .im (.str r.1.2.1), .im (.int (cs : Nat)), x12]
        (fun ls' w' => w' = Wd.nil ∧ ∃ x4 x6 x7 x8 x9 x10 x11 x12, ls' = [.im (partsD b), .im (.str p.1), .im (.lst (natsD o)), .im (.lst (natsD ((List.range (p.2.1 + 1)).map (sg o)))), x4, .ownT (tabD ((b.rl.take (i + 1)).map f)), x6, x7, x8, x9, x10, x11, x12]) (fun d _ => R d) := fun ms2 ems2 => by
      have ef : f r = ((r.1.1, r.1.2.1, cs), (r.2.1, ms2)) := by
        show pmF o p.1 r = _
        unfold pmF
        rw [ecs, ems2, ems]
      have hnew := take_new W'.kn hri
      have hput := tab_put (v := (f r).2) hnew
      refine ss_one <| s_put 5 hu rfl <| pv_tup <| pas_cons <| pv_nm 7 rfl <| pas_cons <| pv_nm 8 rfl <| pas_nil ⟨Nat.le_of_ble_eq_true rfl, pv_tup <| pas_cons <| pv_nm 9 rfl <| pas_cons <| pv_nm 10 rfl <| pas_cons <| pv_nm 11 rfl <| pas_nil ⟨Nat.le_of_ble_eq_true rfl, keyL (r.1.1, r.1.2.1, cs), rfl, by rw [tab_len, List.length_map, List.length_take]; omega, rfl, ?_⟩⟩
      have e5 : (b.rl.take (i + 1)).map f = (b.rl.take i).map f ++ [((f r).1, (f r).2)] := take_map_succ hri
      rw [e5, ← hput]
      show ∃ _, _
      rw [show pmF o p.1 r = f r from rfl, ef]
      exact ⟨_, _, _, _, _, _, _, _, rfl⟩
    refine ss_cons (s_if <| pb_c <| c_eqS <| pv_nm 7 rfl <| pv_nm 1 rfl ⟨_, _, rfl, rfl, _, rfl, fun h => ?_, fun h => ?_⟩)
    · have hgn : r.2.1 = p.1 := of_decide_eq_true h
      have egp := pl_uniq W.pn hg hp (eg.trans hgn)
      have hml2 : ms.length = p.2.1 := by rw [hml, hgl, egp]
      refine ss_one (s_set 8 (pv_tupQ c.z_tuple <| pq_pn <| pn_lcM [("_law_k", 4)] (fun d => match d with | .int k => .int ((ms.getD (k.toNat - 1) 0 : Nat) : Int) | _ => .non) rfl sc_law_permuted.nd (blkOk_by (show blkC N_law_permuted (defScope s_law_permuted) _ _ = true by decide +kernel)) <| i_list <| pv_nm 2 rfl ⟨_, rfl, by rw [natsD_len]; omega, fun d2 hd2 => ?_, ?_⟩) sc_law_permuted.nd)
      · obtain ⟨k, hk, rfl⟩ := List.mem_map.mp hd2
        have hk1 := one_to_mem.mp (ho.mem_iff.mp hk)
        have hk' : k - 1 < ms.length := by omega
        refine fun _ _ _ _ _ => g_nm 4 (fun _ _ _ _ _ => pv_ixT <| pv_nm 8 rfl <| pv_sub <| pv_nm 4 rfl <| pv_int ⟨_, 1, rfl, rfl, _, _, .int (ms[k - 1] : Nat), .tup _, rfl, ?_, rfl, ?_⟩) sc_law_permuted.nd
        · have : ((k : Int) - 1) = ((k - 1 : Nat) : Int) := by omega
          rw [this]
          exact atI_nat (by unfold natsD; rw [List.getElem?_map, List.getElem?_eq_getElem hk']; rfl)
        · simp only [Int.toNat_natCast]
          rw [List.getD_eq_getElem?_getD, List.getElem?_eq_getElem hk']; rfl
      · have e6 : (natsD o).map (fun d => match d with | .int k => D.int ((ms.getD (k.toNat - 1) 0 : Nat) : Int) | _ => .non) = natsD (o.map fun k => ms.getD (k - 1) 0) := by
          unfold natsD
          rw [List.map_map, List.map_map]; rfl
        rw [e6]
        exact last _ (by rw [if_pos hgn])
    · have hgn : ¬ r.2.1 = p.1 := of_decide_eq_false h
      exact ss_nil (last ms (by rw [if_neg hgn]))
  refine ss_cons (s_for (fun i ls' w' => w' = Wd.nil ∧ ∃ x4 x6 x7 x8 x9 x10 x11 x12, ls' = [.im (partsD b), .im (.str p.1), .im (.lst (natsD o)), .im (.lst (natsD ((List.range (p.2.1 + 1)).map (sg o)))), x4, .ownT (tabD ((b.rl.take i).map f)), x6, x7, x8, x9, x10, x11, x12]) PassesOwn.never rfl (i_dt <| pv_ixL <| pq_pv <| pv_nm 0 rfl ⟨_, rfl, pv_int ⟨3, _, rfl, rfl, _, rfl, ⟨rfl, _, _, _, _, _, _, _, _, rfl⟩, ?_, ?_⟩⟩))
  · rintro i d ls' w' hd ⟨rfl, x4, x6, x7, x8, x9, x10, x11, x12, rfl⟩
    unfold tabD at hd
    rw [List.map_map, List.getElem?_map] at hd
    obtain ⟨r, hri, rfl⟩ := Option.map_eq_some_iff.mp hd
    have hrm := List.mem_of_getElem? hri
    have hlk : look b.rl r.1 = some r.2 := look_of W.kn hrm
    obtain ⟨q, hq, eq, hw, hc, ok⟩ := W.rl_key hrm
    obtain ⟨g, hg, eg, hgl⟩ := ok.goal
    have hg6 := W.ps g hg
    refine g_nm 6 ?_ sc_law_permuted.nd
    refine ss_cons <| s_asg <| pv_dgetT hu <| pt_pv <| pv_ixL <| pq_pv <| pv_nm 0 rfl ⟨_, rfl, pv_int ⟨3, _, rfl, rfl, _, rfl, pv_nm 6 rfl ⟨keyL r.1, _, rfl, by rw [tab_val, hlk]; rfl, ?_⟩⟩⟩
    refine g_tup (.tup _) (gs_cons (g_nm 7 (gs_cons (g_nm 8 (gs_nil ?_) sc_law_permuted.nd)) sc_law_permuted.nd)) rfl
    refine ss_cons <| s_asg <| pv_nm 6 rfl <| g_tup (.tup _) (gs_cons (g_nm 9 (gs_cons (g_nm 10 (gs_cons (g_nm 11 (gs_nil ?_) sc_law_permuted.nd)) sc_law_permuted.nd)) sc_law_permuted.nd)) rfl
    refine ss_cons (s_if <| pb_c <| c_eqS <| pv_nm 9 rfl <| pv_nm 1 rfl ⟨_, _, rfl, rfl, _, rfl, fun h => ?_, fun h => ?_⟩)
    · have hqn : r.1.1 = p.1 := of_decide_eq_true h
      have eqp := pl_uniq W.pn hq hp (eq.trans hqn)
      rw [eqp] at hc ok
      have at_ : ∀ k, k ≤ p.2.1 → atI (natsD ((List.range (p.2.1 + 1)).map (sg o))) (k : Nat) = some (.int (sg o k : Nat)) := fun k hk => atI_nat (by unfold natsD; rw [List.getElem?_map, List.getElem?_map, List.getElem?_range (by omega)]; rfl)
      refine ss_cons (s_set 11 (pv_ixL <| pq_pv <| pv_nm 3 rfl ⟨_, rfl, pv_nm 11 rfl ⟨_, _, rfl, at_ r.1.2.2 hc, ?_⟩⟩) sc_law_permuted.nd)
      refine ss_one (s_set 8 (pv_tupQ c.z_tuple <| pq_pn <| pn_lcM [("_law_one_here", 12)] (fun d => match d with | .int k => .int ((sg o k.toNat : Nat) : Int) | _ => .non) rfl sc_law_permuted.nd (blkOk_by (show blkC N_law_permuted (defScope s_law_permuted) _ _ = true by decide +kernel)) <| i_tup <| pv_nm 8 rfl ⟨_, .tup _, by rw [natsD_len]; omega, fun d2 hd2 => ?_, ?_⟩) sc_law_permuted.nd)
      · obtain ⟨k, hk, rfl⟩ := List.mem_map.mp hd2
        exact fun _ _ _ _ _ => g_nm 12 (fun _ _ _ _ _ => pv_ixL <| pq_pv <| pv_nm 3 rfl ⟨_, rfl, pv_nm 12 rfl ⟨_, _, rfl, at_ k (ok.src k hk).2, rfl, rfl⟩⟩) sc_law_permuted.nd
      · have e6 : (natsD r.2.2).map (fun d => match d with | .int k => D.int ((sg o k.toNat : Nat) : Int) | _ => .non) = natsD (r.2.2.map (sg o)) := by
          unfold natsD
          rw [List.map_map, List.map_map]; rfl
        rw [e6]
        exact fcase _ _ .no .no .no _ r i _ _ hri (by rw [if_pos hqn]) (by rw [if_pos hqn])
    · have hqn : ¬ r.1.1 = p.1 := of_decide_eq_false h
      exact ss_nil (fcase _ _ .no .no .no _ r i _ _ hri (by rw [if_neg hqn]) (by rw [if_neg hqn]))
  · rintro ls' w' ⟨rfl, x4, x6, x7, x8, x9, x10, x11, x12, rfl⟩
    rw [List.length_map, tab_len, List.take_length]
    exact ss_fzT 5 rfl <| ss_one <| s_ret <| pv_pn <| pn_lst <| pas_cons <| pv_ixL <| pq_pv <| pv_nm 0 rfl ⟨_, rfl, pv_int ⟨0, _, rfl, rfl, pas_cons <| pv_ixL <| pq_pv <| pv_nm 0 rfl ⟨_, rfl, pv_int ⟨1, _, rfl, rfl, pas_cons <| pv_ixL <| pq_pv <| pv_nm 0 rfl ⟨_, rfl, pv_int ⟨2, _, rfl, rfl, pas_cons <| pv_nm 5 rfl <| pas_nil ⟨Nat.le_of_ble_eq_true rfl, hR (b.rl.map f) W'⟩⟩⟩⟩⟩⟩⟩
end FH
set_option Elab.async false
set_option linter.all false
set_option maxRecDepth 100000
set_option maxHeartbeats 4000000
namespace Fw
open PySem PySem.Spec PyProof.Rows L2 Pd
/-! a place split -/
def freshPl (f : Str) (p : Pl) : Pl := (f, p.2.1, p.2.2)
def splitX (f : Str) (p : Pl) (rl : List (Rk × Rv)) : List (Rk × Rv) := (rl.filter fun r => decide (r.1.1 = p.1)).map fun r => ((f, r.1.2), r.2)
/-- some goals p are f now -/
def Redir (b : Pt) (p : Pl) (f : Str) (rl1 : List (Rk × Rv)) : Prop := ∀ r1 ∈ rl1, ∃ r ∈ b.rl, r1.1 = r.1 ∧ r1.2.2 = r.2.2 ∧ (r1.2.1 = r.2.1 ∨ (r.2.1 = p.1 ∧ r1.2.1 = f))
theorem split_wf {b : Pt} (W : WF b) {p : Pl} (hp : p ∈ b.pl) {f : Str} (hf : f ∉ b.pl.map (·.1)) (hfn : nameB f = true) (h60 : b.pl.length + 1 ≤ 60) {rl1 : List (Rk × Rv)} (hk : rl1.map (·.1) = b.rl.map (·.1)) (hr : Redir b p f rl1) :
    WF ⟨b.ws, b.pl ++ [freshPl f p], b.st, rl1 ++ splitX f p rl1⟩ := by
  have hpn : ((b.pl ++ [freshPl f p]).map (·.1)).Nodup := by
    rw [List.map_append]
    exact List.nodup_append.mpr ⟨W.pn, by simp, fun a ha c hc e => hf (by simp [freshPl] at hc; rw [← hc, ← e]; exact ha)⟩
  have old : ∀ r1 ∈ rl1, ∃ q ∈ b.pl, q.1 = r1.1.1 ∧ r1.1.2.1 ∈ b.ws ∧ r1.1.2.2 ≤ q.2.1 ∧ RvOk (b.pl ++ [freshPl f p]) r1.1.2.2 q.2.1 r1.2 := fun r1 h1 => by
    obtain ⟨r, hrm, e1, e2, e3⟩ := hr r1 h1
    obtain ⟨q, hq, eq, hw, hc, ok⟩ := W.rl_key hrm
    rw [← e1] at eq hw hc ok
    refine ⟨q, hq, eq, hw, hc, ?_, ?_, ?_⟩
    · obtain ⟨g, hg, eg, hgl⟩ := ok.goal
      rcases e3 with e3 | ⟨e3, e4⟩
      · exact ⟨g, List.mem_append_left _ hg, by rw [e3]; exact eg, by rw [e2]; exact hgl⟩
      · refine ⟨freshPl f p, List.mem_append_right _ (List.mem_singleton.mpr rfl), e4.symm, ?_⟩
        have : g = p := pl_uniq W.pn hg hp (eg.trans e3)
        rw [e2, hgl, this]; rfl
    · rw [e2]; exact ok.nd
    · rw [e2]; exact ok.src
  have hx : ∀ r ∈ splitX f p rl1, ∃ r1 ∈ rl1, r1.1.1 = p.1 ∧ r = ((f, r1.1.2), r1.2) := fun r h => by
    obtain ⟨r1, h1, rfl⟩ := List.mem_map.mp h
    obtain ⟨h2, h3⟩ := List.mem_filter.mp h1
    exact ⟨r1, h2, of_decide_eq_true h3, rfl⟩
  have kn1 : (rl1.map (·.1)).Nodup := hk ▸ W.kn
  refine { w1 := W.w1, w3 := W.w3, wn := W.wn, wv := W.wv, p7 := by show (b.pl ++ [_]).length ≤ 60; rw [List.length_append, List.length_singleton]; exact h60, pn := hpn, pv := fun q hq => ?_, ps := fun q hq => ?_, st := ?_, kn := ?_, ka := fun k => ?_, kv := fun r hrm q hq e => ?_ }
  · rcases List.mem_append.mp hq with h | h
    · exact W.pv q h
    · rw [List.mem_singleton.mp h]; exact hfn
  · rcases List.mem_append.mp hq with h | h
    · exact W.ps q h
    · rw [List.mem_singleton.mp h]; exact W.ps p hp
  · obtain ⟨q, hq, e⟩ := W.st
    exact ⟨q, List.mem_append_left _ hq, e⟩
  · show ((rl1 ++ splitX f p rl1).map (·.1)).Nodup
    rw [List.map_append]
    refine List.nodup_append.mpr ⟨kn1, ?_, fun a ha c hc e => ?_⟩
    · unfold splitX
      rw [List.map_map]
      have nf : ((rl1.filter fun r => decide (r.1.1 = p.1)).map (·.1)).Nodup := kn1.sublist (List.Sublist.map _ List.filter_sublist)
      refine List.pairwise_map.mpr (List.Pairwise.imp_of_mem (fun {x y} hx hy hne e => hne ?_) (List.pairwise_map.mp nf))
      have h1 := of_decide_eq_true (List.mem_filter.mp hx).2
      have h2 := of_decide_eq_true (List.mem_filter.mp hy).2
      have e' : ((f, x.1.2) : Rk) = (f, y.1.2) := e
      injection e' with _ e'
      exact Prod.ext (h1.trans h2.symm) e'
    · obtain ⟨r1, h1, rfl⟩ := List.mem_map.mp ha
      obtain ⟨r2, h2, rfl⟩ := List.mem_map.mp hc
      obtain ⟨q, hq, eq, _⟩ := old r1 h1
      obtain ⟨r3, _, _, rfl⟩ := hx r2 h2
      have : r1.1.1 = f := by rw [e]
      exact hf (by rw [← this, ← eq]; exact List.mem_map.mpr ⟨q, hq, rfl⟩)
  · show k ∈ (rl1 ++ splitX f p rl1).map (·.1) ↔ k ∈ Pt.asked ⟨b.ws, b.pl ++ [freshPl f p], b.st, _⟩
    rw [List.map_append, List.mem_append, asked_mem]
    constructor
    · rintro (h | h)
      · obtain ⟨r1, h1, rfl⟩ := List.mem_map.mp h
        obtain ⟨q, hq, eq, hw, hc, _⟩ := old r1 h1
        exact ⟨q, List.mem_append_left _ hq, eq, hw, hc⟩
      · obtain ⟨r2, h2, rfl⟩ := List.mem_map.mp h
        obtain ⟨r1, h1, e1, rfl⟩ := hx r2 h2
        obtain ⟨q, hq, eq, hw, hc, _⟩ := old r1 h1
        have : q = p := pl_uniq W.pn hq hp (eq.trans e1)
        rw [this] at hc
        exact ⟨freshPl f p, List.mem_append_right _ (List.mem_singleton.mpr rfl), rfl, hw, hc⟩
    · rintro ⟨q, hq, eq, hw, hc⟩
      rcases List.mem_append.mp hq with h | h
      · left
        rw [hk]
        exact (W.ka k).mpr (asked_mem.mpr ⟨q, h, eq, hw, hc⟩)
      · right
        rw [List.mem_singleton.mp h] at eq hc
        have hm : (p.1, k.2) ∈ rl1.map (·.1) := by
          rw [hk]
          exact (W.ka _).mpr (asked_mem.mpr ⟨p, hp, rfl, hw, hc⟩)
        obtain ⟨r1, h1, e1⟩ := List.mem_map.mp hm
        refine List.mem_map.mpr ⟨((f, r1.1.2), r1.2), List.mem_map.mpr ⟨r1, List.mem_filter.mpr ⟨h1, decide_eq_true (by rw [e1])⟩, rfl⟩, ?_⟩
        show (f, r1.1.2) = k
        rw [e1]
        exact Prod.ext eq rfl
  · rcases List.mem_append.mp hrm with h | h
    · obtain ⟨q', hq', eq', _, _, ok⟩ := old r h
      have : q = q' := pl_uniq hpn hq (List.mem_append_left _ hq') (e.trans eq'.symm)
      rw [this]; exact ok
    · obtain ⟨r1, h1, e1, rfl⟩ := hx r h
      obtain ⟨q', hq', eq', _, _, ok⟩ := old r1 h1
      have e2 : q' = p := pl_uniq W.pn hq' hp (eq'.trans e1)
      have e3 : q = freshPl f p := pl_uniq hpn hq (List.mem_append_right _ (List.mem_singleton.mpr rfl)) e
      rw [e2] at ok
      rw [e3]; exact ok
theorem look_app {β κ : Type} [DecidableEq κ] {l m : List (κ × β)} {k : κ} {v : β} (h : look l k = some v) : look (l ++ m) k = some v := by
  induction l with
  | nil => simp [look] at h
  | cons p r ih =>
    rw [List.cons_append, look_cons]
    rw [look_cons] at h
    by_cases e : p.1 = k
    · rw [if_pos e] at h ⊢; exact h
    · rw [if_neg e] at h ⊢; exact ih h
end Fw
namespace FH
open PySem PySem.Spec PyProof.Rows L2 Pd Fw
variable {P : Program} {wo : World} {K : PySem.W.Frag} {mg : Str → Option Value} {base : Heap}
def S_law_split (ds : List D) (R : D → Prop) : Prop := ∃ (b : Pt) (p : Pl) (f : Str) (n : Int), ds = [partsD b, .str p.1, .str f, .int n] ∧ WF b ∧ p ∈ b.pl ∧ f ∉ b.pl.map (·.1) ∧ nameB f = true ∧ b.pl.length + 1 ≤ 60 ∧ ∀ rl', WF ⟨b.ws, b.pl ++ [freshPl f p], b.st, rl'⟩ → R (partsD ⟨b.ws, b.pl ++ [freshPl f p], b.st, rl'⟩)
theorem ok_law_split (c : Ctx K mg) : Cal P wo K mg base 2 (He.ga K "_law_split") ["_law_parts_here", "_law_name", "_law_fresh", "_law_number"] [] (spD K S_law_split) := by
  refine cal0 c.f_law_split sc_law_split (fun ds R ⟨_, _, _, _, e, _⟩ => by rw [e]; rfl) (fun _ _ _ _ _ _ us hl => match us, hl with | [_, _, _, _], _ => rfl) fun cdv A outer sh H E hr ds R hS => ?_
  obtain ⟨b, p, f, n, rfl, W, hp, hf, hfn, h60, hR⟩ := hS
  have hu := hu_of hr
  have hrl := W.rl_len
  have hal := asked_len W
  refine ss_cons (s_set 4 (pv_cal (ok_law_place c) hr c.g_law_place <| pas_cons <| pv_nm 0 rfl <| pas_cons <| pv_nm 1 rfl <| pas_nil ⟨b, p, rfl, W.pn, hp, by omega, ?_⟩) sc_law_split.nd)
  refine ss_cons (s_setT 5 ?_ sc_law_split.nd)
  refine ss_cons (s_set 6 (pv_int ?_) sc_law_split.nd)
  let LS : List (Rk × Rv) → L → L → L → L → List L := fun rl x6 x7 x8 x9 => [.im (partsD b), .im (.str p.1), .im (.str f), .im (.int n), .im (placeD p), .ownT (tabD rl), x6, x7, x8, x9]
  refine ss_cons (s_for (fun i ls' w' => w' = Wd.nil ∧ ∃ (rl1 : List (Rk × Rv)) (x7 x8 x9 : L), rl1.map (·.1) = (b.rl.take i).map (·.1) ∧ Redir b p f rl1 ∧ ls' = LS rl1 (.im (.int (i : Nat))) x7 x8 x9) PassesOwn.never rfl (i_dt <| pv_ixL <| pq_pv <| pv_nm 0 rfl ⟨_, rfl, pv_int ⟨3, _, rfl, rfl, _, rfl, ⟨rfl, [], _, _, _, rfl, (fun r h => by cases h), rfl⟩, ?_, ?_⟩⟩))
  · rintro i d ls' w' hd ⟨rfl, rl1, x7, x8, x9, hk, hre, rfl⟩
    unfold tabD at hd
    rw [List.map_map, List.getElem?_map] at hd
    obtain ⟨r, hri, rfl⟩ := Option.map_eq_some_iff.mp hd
    have hil : i < b.rl.length := (List.getElem?_eq_some_iff.mp hri).1
    have hrm := List.mem_of_getElem? hri
    have hlk : look b.rl r.1 = some r.2 := look_of W.kn hrm
    have hl1 : rl1.length = i := by
      have := congrArg List.length hk
      rw [List.length_map, List.length_map, List.length_take] at this
      omega
    have hnew : r.1 ∉ rl1.map (·.1) := by
      rw [hk]
      have := take_new (f := id) (by rw [List.map_id]; exact W.kn) hri
      rw [List.map_id] at this
      exact this
    have last : ∀ g : Str, (g = r.2.1 ∨ (r.2.1 = p.1 ∧ g = f)) → SVs (XC P wo K mg base N_law_split "_law_split" (defScope s_law_split) (He.ga K "_law_split") cdv A outer sh H E) (List.drop 3 (match (defBody s_law_split).getD 3 (.Pass ⟨0,0,0,0⟩) with | .For _ _ b _ _ => b | _ => [])) Wd.nil
        (LS rl1 (.im (.int ((i : Nat) + 1))) (.im (.tup ((keyL r.1).map kD))) (.im (.str g)) (.im (.tup (natsD r.2.2)))) (fun ls' w' => w' = Wd.nil ∧ ∃ (rl1 : List (Rk × Rv)) (x7 x8 x9 : L), rl1.map (·.1) = (b.rl.take (i + 1)).map (·.1) ∧ Redir b p f rl1 ∧ ls' = LS rl1 (.im (.int ((i + 1 : Nat) : Int))) x7 x8 x9) (fun d _ => R d) := fun g hg => by
      have hput := tab_put (v := (g, r.2.2)) hnew
      refine ss_one <| s_put 5 hu rfl <| pv_tup <| pas_cons <| pv_nm 8 rfl <| pas_cons <| pv_nm 9 rfl <| pas_nil ⟨Nat.le_of_ble_eq_true rfl, pv_nm 7 rfl ⟨keyL r.1, rfl, by rw [tab_len]; omega, rfl, rl1 ++ [(r.1, (g, r.2.2))], .im (.tup ((keyL r.1).map kD)), .im (.str g), .im (.tup (natsD r.2.2)), ?_, ?_, ?_⟩⟩
      · rw [List.map_append, hk, take_map_succ hri]; rfl
      · intro r1 h1
        rcases List.mem_append.mp h1 with h | h
        · exact hre r1 h
        · rw [List.mem_singleton.mp h]; exact ⟨r, hrm, rfl, rfl, hg⟩
      · simp only [LS]; rw [← hput]; rfl
    refine g_nm 7 ?_ sc_law_split.nd
    refine ss_cons <| s_asg <| pv_dgetT hu <| pt_pv <| pv_ixL <| pq_pv <| pv_nm 0 rfl ⟨_, rfl, pv_int ⟨3, _, rfl, rfl, _, rfl, pv_nm 7 rfl ⟨keyL r.1, _, rfl, by rw [tab_val, hlk]; rfl, ?_⟩⟩⟩
    refine g_tup (.tup _) (gs_cons (g_nm 8 (gs_cons (g_nm 9 (gs_nil ?_) sc_law_split.nd)) sc_law_split.nd)) rfl
    refine ss_cons (s_set 6 (pv_add <| pv_nm 6 rfl <| pv_int ⟨_, 1, rfl, rfl, ?_⟩) sc_law_split.nd)
    refine ss_cons (s_if <| pb_w <| pbw_and <| pb_c <| c_eqS <| pv_nm 8 rfl <| pv_nm 1 rfl ⟨_, _, rfl, rfl, _, rfl, ?_⟩)
    by_cases hg : r.2.1 = p.1
    · rw [decide_eq_true hg, if_pos rfl]
      refine pbw_and1 <| pb_c <| c_eqI <| pv_mod <| pv_fdiv <| pv_intI c.z_int <| pv_nm 3 rfl ⟨_, rfl, pv_nm 6 rfl ⟨_, _, rfl, rfl, ⟨by omega, by omega⟩, pv_int ⟨_, 2, rfl, rfl, by decide, pv_int ⟨_, _, rfl, rfl, _, rfl, fun _ => ?_, fun _ => ?_⟩⟩⟩⟩
      · exact ss_one (s_set 8 (pv_nm 2 rfl (last f (.inr ⟨hg, rfl⟩))) sc_law_split.nd)
      · exact ss_nil (last r.2.1 (.inl rfl))
    · rw [decide_eq_false hg, if_neg (by decide)]
      exact ⟨(fun h => nomatch h), fun _ => ss_nil (last r.2.1 (.inl rfl))⟩
  · rintro ls' w' ⟨rfl, rl1, x7, x8, x9, hk, hre, rfl⟩
    rw [List.length_map, tab_len, List.take_length] at hk
    have kn1 : (rl1.map (·.1)).Nodup := hk ▸ W.kn
    have hl1 : rl1.length = b.rl.length := by
      have := congrArg List.length hk
      rwa [List.length_map, List.length_map] at this
    have hx6 : (b.rl.length : Nat) ≤ 1260 := by omega
    refine ss_cons (s_for (fun i ls' w' => w' = Wd.nil ∧ ∃ x6 x7 x8 x9, ls' = LS (rl1 ++ splitX f p (rl1.take i)) x6 x7 x8 x9) PassesOwn.never rfl (i_list <| pv_pn <| pn_listKT rfl c.z_list <| pt_nm 5 rfl ⟨_, rfl, ⟨rfl, _, _, _, _, by show LS rl1 _ _ _ _ = _; rw [List.take_zero]; show _ = LS (rl1 ++ []) _ _ _ _; rw [List.append_nil]⟩, ?_, ?_⟩))
    · rintro i d ls' w' hd ⟨rfl, x6, x7, x8, x9, rfl⟩
      unfold tabD at hd
      rw [List.map_map, List.getElem?_map] at hd
      obtain ⟨r, hri, rfl⟩ := Option.map_eq_some_iff.mp hd
      have hrm := List.mem_of_getElem? hri
      have hil : i < rl1.length := (List.getElem?_eq_some_iff.mp hri).1
      have hlk : look (rl1 ++ splitX f p (rl1.take i)) r.1 = some r.2 := look_app (look_of kn1 hrm)
      have estep : splitX f p (rl1.take (i + 1)) = splitX f p (rl1.take i) ++ (if r.1.1 = p.1 then [((f, r.1.2), r.2)] else []) := by
        unfold splitX
        rw [List.take_succ, hri, List.filter_append, List.map_append]
        congr 1
        by_cases h : r.1.1 = p.1 <;> simp [h]
      refine g_nm 7 ?_ sc_law_split.nd
      refine ss_one (s_if <| pb_c <| c_eqS <| pv_ixT <| pv_nm 7 rfl <| pv_int ⟨_, 0, _, .tup _, rfl, rfl, pv_nm 1 rfl ⟨_, _, rfl, rfl, _, rfl, fun h => ?_, fun h => ?_⟩⟩)
      · have hn : r.1.1 = p.1 := of_decide_eq_true h
        have hnew : (f, r.1.2) ∉ (rl1 ++ splitX f p (rl1.take i)).map (·.1) := by
          rw [List.map_append, List.mem_append]
          rintro (h | h)
          · obtain ⟨r1, h1, e1⟩ := List.mem_map.mp h
            obtain ⟨r0, h0, e0, _⟩ := hre r1 h1
            obtain ⟨q, hq, eq, _⟩ := W.rl_key h0
            exact hf (List.mem_map.mpr ⟨q, hq, by rw [eq, ← e0, e1]⟩)
          · obtain ⟨r2, h2, e2⟩ := List.mem_map.mp h
            obtain ⟨r1, h1, rfl⟩ := List.mem_map.mp h2
            obtain ⟨h3, h4⟩ := List.mem_filter.mp h1
            have h4 := of_decide_eq_true h4
            injection e2 with _ e2
            have e3 : r1.1 = r.1 := Prod.ext (h4.trans hn.symm) e2
            obtain ⟨j, hj, ej⟩ := List.getElem_of_mem h3
            rw [List.length_take] at hj
            rw [List.getElem_take] at ej
            have := nodup_at kn1 (i := j) (j := i) (x := r.1) (by rw [List.getElem?_map, List.getElem?_eq_getElem (by omega), ej]; exact congrArg some e3) (by rw [List.getElem?_map, hri]; rfl)
            omega
        have hput := tab_put (v := r.2) hnew
        have hlen : (splitX f p (rl1.take i)).length ≤ rl1.length := by
          unfold splitX
          rw [List.length_map]
          exact Nat.le_trans (List.length_filter_le _ _) (by rw [List.length_take]; omega)
        refine ss_one <| s_put 5 hu rfl <| pv_dgetT hu <| pt_nm 5 rfl <| pv_nm 7 rfl ⟨keyL r.1, _, rfl, by rw [tab_val, hlk]; rfl, pv_tup <| pas_cons <| pv_nm 2 rfl <| pas_cons <| pv_ixT <| pv_nm 7 rfl <| pv_int ⟨_, 1, _, .tup _, rfl, rfl, pas_cons <| pv_ixT <| pv_nm 7 rfl <| pv_int ⟨_, 2, _, .tup _, rfl, rfl, pas_nil ⟨Nat.le_of_ble_eq_true rfl, keyL (f, r.1.2), rfl, by rw [tab_len, List.length_append]; omega, rfl, x6, .im (.tup ((keyL r.1).map kD)), x8, x9, ?_⟩⟩⟩⟩
        simp only [LS]
        rw [estep, if_pos hn, ← List.append_assoc, ← hput]
        rfl
      · have hn : ¬ r.1.1 = p.1 := of_decide_eq_false h
        refine ss_nil ⟨rfl, x6, .im (.tup ((keyL r.1).map kD)), x8, x9, ?_⟩
        rw [estep, if_neg hn, List.append_nil]
        rfl
    · rintro ls' w' ⟨rfl, x6, x7, x8, x9, rfl⟩
      rw [List.length_map, tab_len, List.take_length]
      have W' := split_wf W hp hf hfn h60 hk hre
      refine ss_fzT 5 rfl <| ss_one <| s_ret <| pv_pn <| pn_lst <| pas_cons <| pv_ixL <| pq_pv <| pv_nm 0 rfl ⟨_, rfl, pv_int ⟨0, _, rfl, rfl, pas_cons <| pv_addT <| pv_ixL <| pq_pv <| pv_nm 0 rfl ⟨_, rfl, pv_int ⟨1, _, rfl, rfl, pv_tup <| pas_cons <| pv_tup <| pas_cons <| pv_nm 2 rfl <| pas_cons <| pv_ixT <| pv_nm 4 rfl <| pv_int ⟨_, 1, _, .tup _, rfl, rfl, pas_cons <| pv_ixT <| pv_nm 4 rfl <| pv_int ⟨_, 2, _, .tup _, rfl, rfl, pas_nil ⟨Nat.le_of_ble_eq_true rfl, pas_nil ⟨Nat.le_of_ble_eq_true rfl, _, _, rfl, rfl, ?_, pas_cons <| pv_ixL <| pq_pv <| pv_nm 0 rfl ⟨_, rfl, pv_int ⟨2, _, rfl, rfl, pas_cons <| pv_nm 5 rfl <| pas_nil ⟨Nat.le_of_ble_eq_true rfl, ?_⟩⟩⟩⟩⟩⟩⟩⟩⟩⟩⟩
      · rw [List.length_map]; simp; omega
      · have := hR _ W'
        unfold partsD plsD at this
        rw [List.map_append] at this
        exact this
end FH
set_option Elab.async false
set_option linter.all false
set_option maxRecDepth 100000
set_option maxHeartbeats 4000000
namespace Fw
open PySem PySem.Spec PyProof.Rows L2 Pd
/-! an idle slot -/
def bump (p q : Pl) : Pl := if q.1 = p.1 then (q.1, q.2.1 + 1, q.2.2) else q
theorem bump_fst (p q : Pl) : (bump p q).1 = q.1 := by unfold bump; split <;> rfl
theorem bump_map (p : Pl) (pl : List Pl) : (pl.map (bump p)).map (·.1) = pl.map (·.1) := by
  rw [List.map_map]
  exact List.map_congr_left fun q _ => bump_fst p q
theorem bump_ge (p q : Pl) : q.2.1 ≤ (bump p q).2.1 := by unfold bump; split <;> simp
theorem bump_self (p : Pl) : (bump p p).2.1 = p.2.1 + 1 := by unfold bump; rw [if_pos rfl]
theorem bump_other {p q : Pl} (h : q.1 ≠ p.1) : bump p q = q := by unfold bump; rw [if_neg h]
/-- what is behind the first loop: every rule is one of the new book -/
def Idl (b : Pt) (p : Pl) (rl1 : List (Rk × Rv)) : Prop := ∀ r1 ∈ rl1, ∀ q ∈ b.pl.map (bump p), q.1 = r1.1.1 → RvOk (b.pl.map (bump p)) r1.1.2.2 q.2.1 r1.2
theorem idle_wf {b : Pt} (W : WF b) {p : Pl} (hp : p ∈ b.pl) (hst : p.1 ≠ b.st) (h5 : p.2.1 ≤ 5) {rl1 : List (Rk × Rv)} (hk : rl1.map (·.1) = b.rl.map (·.1) ++ b.ws.map fun w => (p.1, w, p.2.1 + 1)) (hr : Idl b p rl1) : WF ⟨b.ws, b.pl.map (bump p), b.st, rl1⟩ := by
  have hkey : ∀ k ∈ b.rl.map (·.1), k.1 = p.1 → k.2.2 ≤ p.2.1 := fun k hk e => by
    obtain ⟨q, hq, eq, _, hc⟩ := asked_mem.mp ((W.ka k).mp hk)
    rw [pl_uniq W.pn hq hp (eq.trans e)] at hc
    exact hc
  refine { w1 := W.w1, w3 := W.w3, wn := W.wn, wv := W.wv, p7 := by show (b.pl.map _).length ≤ 60; rw [List.length_map]; exact W.p7, pn := by show ((b.pl.map _).map _).Nodup; rw [bump_map]; exact W.pn, pv := fun q hq => ?_, ps := fun q hq => ?_, st := ?_, kn := ?_, ka := fun k => ?_, kv := hr }
  · obtain ⟨q0, h0, rfl⟩ := List.mem_map.mp hq
    rw [bump_fst]; exact W.pv q0 h0
  · obtain ⟨q0, h0, rfl⟩ := List.mem_map.mp hq
    by_cases e : q0.1 = p.1
    · rw [pl_uniq W.pn h0 hp e, bump_self]; omega
    · rw [bump_other e]; exact W.ps q0 h0
  · obtain ⟨q, hq, e, e0⟩ := W.st
    refine ⟨bump p q, List.mem_map.mpr ⟨q, hq, rfl⟩, by rw [bump_fst]; exact e, ?_⟩
    rw [bump_other (fun h => hst (h.symm.trans e))]
    exact e0
  · show (rl1.map (·.1)).Nodup
    rw [hk]
    refine List.nodup_append.mpr ⟨W.kn, List.Pairwise.map _ (fun a c h e => h (by injection e with _ e; injection e)) W.wn, fun a ha c hc e => ?_⟩
    obtain ⟨w, hw, rfl⟩ := List.mem_map.mp hc
    have := hkey a ha (by rw [e])
    rw [e] at this
    have : p.2.1 + 1 ≤ p.2.1 := this
    omega
  · show k ∈ rl1.map (·.1) ↔ _
    rw [hk, List.mem_append, asked_mem]
    constructor
    · rintro (h | h)
      · obtain ⟨q, hq, eq, hw, hc⟩ := asked_mem.mp ((W.ka k).mp h)
        exact ⟨bump p q, List.mem_map.mpr ⟨q, hq, rfl⟩, by rw [bump_fst]; exact eq, hw, Nat.le_trans hc (bump_ge p q)⟩
      · obtain ⟨w, hw, rfl⟩ := List.mem_map.mp h
        exact ⟨bump p p, List.mem_map.mpr ⟨p, hp, rfl⟩, bump_fst p p, hw, by rw [bump_self]; exact Nat.le_refl _⟩
    · rintro ⟨q', hq', eq, hw, hc⟩
      obtain ⟨q, hq, rfl⟩ := List.mem_map.mp hq'
      rw [bump_fst] at eq
      by_cases h : k.2.2 ≤ q.2.1
      · exact .inl ((W.ka k).mpr (asked_mem.mpr ⟨q, hq, eq, hw, h⟩))
      · by_cases e : q.1 = p.1
        · right
          have e2 := pl_uniq W.pn hq hp e
          rw [e2] at h eq hc
          rw [bump_self] at hc
          refine List.mem_map.mpr ⟨k.2.1, hw, ?_⟩
          have : p.2.1 + 1 = k.2.2 := by omega
          rw [this, eq]
        · rw [bump_other e] at hc
          exact absurd hc h
end Fw
namespace FH
open PySem PySem.Spec PyProof.Rows L2 Pd Fw
variable {P : Program} {wo : World} {K : PySem.W.Frag} {mg : Str → Option Value} {base : Heap}
theorem idl_ok {b : Pt} (W : WF b) {p : Pl} (hp : p ∈ b.pl) {r : Rk × Rv} (hrm : r ∈ b.rl) {ms : List Nat} (h : (r.2.1 ≠ p.1 → ms = r.2.2) ∧ (r.2.1 = p.1 → ∃ o, ms = r.2.2 ++ [o] ∧ o ∉ r.2.2 ∧ leastOf r.1.2.2 ≤ o ∧ ∀ q ∈ b.pl, q.1 = r.1.1 → o ≤ (bump p q).2.1)) :
    ∀ q ∈ b.pl.map (bump p), q.1 = r.1.1 → RvOk (b.pl.map (bump p)) r.1.2.2 q.2.1 (r.2.1, ms) := fun q' hq' e => by
  obtain ⟨q, hq, rfl⟩ := List.mem_map.mp hq'
  rw [bump_fst] at e
  have ok := W.kv r hrm q hq e
  obtain ⟨g, hg, eg, hgl⟩ := ok.goal
  by_cases hn : r.2.1 = p.1
  · obtain ⟨o, e1, ho, h1, h2⟩ := h.2 hn
    have egp : g = p := pl_uniq W.pn hg hp (eg.trans hn)
    refine ⟨⟨bump p g, List.mem_map.mpr ⟨g, hg, rfl⟩, by rw [bump_fst]; exact eg, ?_⟩, ?_, fun m hm => ?_⟩
    · show ms.length = _
      rw [e1, egp, bump_self, List.length_append, List.length_singleton, hgl, egp]
    · show ms.Nodup
      rw [e1]
      exact List.nodup_append.mpr ⟨ok.nd, by simp, fun a ha c hc e => ho (by rw [List.mem_singleton.mp hc] at e; exact e ▸ ha)⟩
    · have hm' : m ∈ ms := hm
      rw [e1] at hm'
      rcases List.mem_append.mp hm' with z | z
      · exact ⟨(ok.src m z).1, Nat.le_trans (ok.src m z).2 (bump_ge p q)⟩
      · rw [List.mem_singleton.mp z]; exact ⟨h1, h2 q hq e⟩
  · have e1 := h.1 hn
    refine ⟨⟨bump p g, List.mem_map.mpr ⟨g, hg, rfl⟩, by rw [bump_fst]; exact eg, ?_⟩, ?_, fun m hm => ?_⟩
    · show ms.length = _
      rw [e1, bump_other (fun z => hn (eg.symm.trans z))]
      exact hgl
    · show ms.Nodup
      rw [e1]; exact ok.nd
    · have hm' : m ∈ ms := hm
      rw [e1] at hm'
      exact ⟨(ok.src m hm').1, Nat.le_trans (ok.src m hm').2 (bump_ge p q)⟩
def S_law_idle (ds : List D) (R : D → Prop) : Prop := ∃ (b : Pt) (p : Pl) (n : Int), ds = [partsD b, .str p.1, .int n] ∧ WF b ∧ p ∈ b.pl ∧ p.1 ≠ b.st ∧ p.2.1 ≤ 5 ∧ R .non ∧ ∀ rl', WF ⟨b.ws, b.pl.map (bump p), b.st, rl'⟩ → R (partsD ⟨b.ws, b.pl.map (bump p), b.st, rl'⟩)
theorem ok_law_idle (c : Ctx K mg) : Cal P wo K mg base 2 (He.ga K "_law_idle") ["_law_parts_here", "_law_name", "_law_number"] [] (spD K S_law_idle) := by
  refine cal0 c.f_law_idle sc_law_idle (fun ds R ⟨_, _, _, e, _⟩ => by rw [e]; rfl) (fun _ _ _ _ _ _ us hl => match us, hl with | [_, _, _], _ => rfl) fun cdv A outer sh H E hr ds R hS => ?_
  obtain ⟨b, p, n, rfl, W, hp, hst, h5, hN, hR⟩ := hS
  have hu := hu_of hr
  have hrl := W.rl_len
  have hal := asked_len W
  have h60 := W.p7
  refine ss_cons (s_set 3 (pv_cal (ok_law_place c) hr c.g_law_place <| pas_cons <| pv_nm 0 rfl <| pas_cons <| pv_nm 1 rfl <| pas_nil ⟨b, p, rfl, W.pn, hp, by omega, ?_⟩) sc_law_idle.nd)
  refine ss_cons (s_setT 4 ?_ sc_law_idle.nd)
  let LS : List (Rk × Rv) → L → L → L → L → L → L → L → List L := fun rl x5 x6 x7 x8 x9 x10 x11 => [.im (partsD b), .im (.str p.1), .im (.int n), .im (placeD p), .ownT (tabD rl), x5, x6, x7, x8, x9, x10, x11, .no, .no]
  refine ss_cons (s_for (fun i ls' w' => w' = Wd.nil ∧ ∃ (rl1 : List (Rk × Rv)) (x5 x6 x7 x8 x9 x10 : L), rl1.map (·.1) = (b.rl.take i).map (·.1) ∧ Idl b p rl1 ∧ ls' = LS rl1 x5 x6 x7 x8 x9 x10 .no) PassesOwn.never rfl (i_dt <| pv_ixL <| pq_pv <| pv_nm 0 rfl ⟨_, rfl, pv_int ⟨3, _, rfl, rfl, _, rfl, ⟨rfl, [], _, _, _, _, _, _, rfl, (fun r h => by cases h), rfl⟩, ?_, ?_⟩⟩))
  · rintro i d ls' w' hd ⟨rfl, rl1, x5, x6, x7, x8, x9, x10, hk, hid, rfl⟩
    unfold tabD at hd
    rw [List.map_map, List.getElem?_map] at hd
    obtain ⟨r, hri, rfl⟩ := Option.map_eq_some_iff.mp hd
    have hil : i < b.rl.length := (List.getElem?_eq_some_iff.mp hri).1
    have hrm := List.mem_of_getElem? hri
    have hlk : look b.rl r.1 = some r.2 := look_of W.kn hrm
    obtain ⟨q, hq, eq, hw, hc, ok⟩ := W.rl_key hrm
    obtain ⟨g, hg, eg, hgl⟩ := ok.goal
    have hg6 := W.ps g hg
    have hq6 := W.ps q hq
    have hl1 : rl1.length = i := by
      have := congrArg List.length hk
      rw [List.length_map, List.length_map, List.length_take] at this
      omega
    have hnew : r.1 ∉ rl1.map (·.1) := by
      rw [hk]
      have := take_new (f := id) (by rw [List.map_id]; exact W.kn) hri
      rw [List.map_id] at this
      exact this
    have last : ∀ (ms : List Nat) (x8 x9 x10 : L), ((r.2.1 ≠ p.1 → ms = r.2.2) ∧ (r.2.1 = p.1 → ∃ o, ms = r.2.2 ++ [o] ∧ o ∉ r.2.2 ∧ leastOf r.1.2.2 ≤ o ∧ ∀ q ∈ b.pl, q.1 = r.1.1 → o ≤ (bump p q).2.1)) → SVs (XC P wo K mg base N_law_idle "_law_idle" (defScope s_law_idle) (He.ga K "_law_idle") cdv A outer sh H E) (List.drop 2 (match (defBody s_law_idle).getD 2 (.Pass ⟨0,0,0,0⟩) with | .For _ _ b _ _ => b | _ => [])) Wd.nil
        (LS rl1 (.im (.tup ((keyL r.1).map kD))) (.im (.str r.2.1)) (.im (.tup (natsD ms))) x8 x9 x10 .no) (fun ls' w' => w' = Wd.nil ∧ ∃ (rl1 : List (Rk × Rv)) (x5 x6 x7 x8 x9 x10 : L), rl1.map (·.1) = (b.rl.take (i + 1)).map (·.1) ∧ Idl b p rl1 ∧ ls' = LS rl1 x5 x6 x7 x8 x9 x10 .no) (fun d _ => R d) := fun ms x8 x9 x10 hms => by
      have hput := tab_put (v := (r.2.1, ms)) hnew
      refine ss_one <| s_put 4 hu rfl <| pv_tup <| pas_cons <| pv_nm 6 rfl <| pas_cons <| pv_nm 7 rfl <| pas_nil ⟨Nat.le_of_ble_eq_true rfl, pv_nm 5 rfl ⟨keyL r.1, rfl, by rw [tab_len]; omega, rfl, rl1 ++ [(r.1, (r.2.1, ms))], .im (.tup ((keyL r.1).map kD)), .im (.str r.2.1), .im (.tup (natsD ms)), x8, x9, x10, ?_, ?_, ?_⟩⟩
      · rw [List.map_append, hk, take_map_succ hri]; rfl
      · intro r1 h1
        rcases List.mem_append.mp h1 with h | h
        · exact hid r1 h
        · rw [List.mem_singleton.mp h]; exact idl_ok W hp hrm hms
      · simp only [LS]; rw [← hput]; rfl
    refine g_nm 5 ?_ sc_law_idle.nd
    refine ss_cons <| s_asg <| pv_dgetT hu <| pt_pv <| pv_ixL <| pq_pv <| pv_nm 0 rfl ⟨_, rfl, pv_int ⟨3, _, rfl, rfl, _, rfl, pv_nm 5 rfl ⟨keyL r.1, _, rfl, by rw [tab_val, hlk]; rfl, ?_⟩⟩⟩
    refine g_tup (.tup _) (gs_cons (g_nm 6 (gs_cons (g_nm 7 (gs_nil ?_) sc_law_idle.nd)) sc_law_idle.nd)) rfl
    refine ss_cons (s_if <| pb_c <| c_eqS <| pv_nm 6 rfl <| pv_nm 1 rfl ⟨_, _, rfl, rfl, _, rfl, fun h => ?_, fun h => ss_nil (last r.2.2 _ _ _ ⟨fun _ => rfl, fun h2 => absurd h2 (of_decide_eq_false h)⟩)⟩)
    have hgn : r.2.1 = p.1 := of_decide_eq_true h
    -- the options
    have fin : ∀ (os : List Nat) (x8 x10 : L), os.length ≤ 100 → (∀ o ∈ os, o ∉ r.2.2 ∧ leastOf r.1.2.2 ≤ o ∧ ∀ q ∈ b.pl, q.1 = r.1.1 → o ≤ (bump p q).2.1) → SVs (XC P wo K mg base N_law_idle "_law_idle" (defScope s_law_idle) (He.ga K "_law_idle") cdv A outer sh H E) (List.drop 3 (match (match (defBody s_law_idle).getD 2 (.Pass ⟨0,0,0,0⟩) with | .For _ _ b _ _ => b | _ => []).getD 1 (.Pass ⟨0,0,0,0⟩) with | .If _ b _ _ => b | _ => [])) Wd.nil
        (LS rl1 (.im (.tup ((keyL r.1).map kD))) (.im (.str r.2.1)) (.im (.tup (natsD r.2.2))) x8 (.own (natsD os)) x10 .no) (fun ls' w' => SVs (XC P wo K mg base N_law_idle "_law_idle" (defScope s_law_idle) (He.ga K "_law_idle") cdv A outer sh H E) (List.drop 2 (match (defBody s_law_idle).getD 2 (.Pass ⟨0,0,0,0⟩) with | .For _ _ b _ _ => b | _ => [])) w' ls' (fun ls' w' => w' = Wd.nil ∧ ∃ (rl1 : List (Rk × Rv)) (x5 x6 x7 x8 x9 x10 : L), rl1.map (·.1) = (b.rl.take (i + 1)).map (·.1) ∧ Idl b p rl1 ∧ ls' = LS rl1 x5 x6 x7 x8 x9 x10 .no) (fun d _ => R d)) (fun d _ => R d) := fun os x8 x10 hol hos => by
      refine ss_cons (s_if <| pb_c <| c_eqI <| pv_lenQ c.z_len <| pq_nm 9 rfl <| pv_int ⟨_, 0, rfl, rfl, _, rfl, fun h => ?_, fun h => ?_⟩)
      · exact ss_one (s_ret (pv_non hN))
      · have hne : 0 < os.length := by
          have := of_decide_eq_false h
          rw [natsD_len] at this
          omega
        have m0 : 0 ≤ n % (os.length : Int) := Int.emod_nonneg _ (by omega)
        have m1 : n % (os.length : Int) < os.length := Int.emod_lt_of_pos _ (by omega)
        have hoi : (n % (os.length : Int)).toNat < os.length := by omega
        refine ss_nil <| ss_one (s_set 7 (pv_addT <| pv_nm 7 rfl <| pv_tup <| pas_cons <| pv_ixL <| pq_nm 9 rfl <| pv_mod <| pv_intI c.z_int <| pv_nm 2 rfl ⟨_, rfl, pv_lenQ c.z_len <| pq_nm 9 rfl ⟨_, _, rfl, rfl, by rw [natsD_len]; omega, _, .int ((os[(n % (os.length : Int)).toNat] : Nat) : Int), rfl, ?_, pas_nil ⟨Nat.le_of_ble_eq_true rfl, _, _, rfl, rfl, ?_, ?_⟩⟩⟩) sc_law_idle.nd)
        · rw [natsD_len]
          exact atI_int m0 (by unfold natsD; rw [List.getElem?_map, List.getElem?_eq_getElem hoi]; rfl)
        · rw [natsD_len]; simp; omega
        · have e6 : natsD r.2.2 ++ [.int ((os[(n % (os.length : Int)).toNat] : Nat) : Int)] = natsD (r.2.2 ++ [os[(n % (os.length : Int)).toNat]]) := by unfold natsD; rw [List.map_append]; rfl
          rw [e6]
          exact last _ _ _ _ ⟨fun h2 => absurd hgn h2, fun _ => ⟨_, rfl, hos _ (List.getElem_mem hoi)⟩⟩
    refine ss_cons (s_set 8 (pv_ixT <| pv_cal (ok_law_place c) hr c.g_law_place <| pas_cons <| pv_nm 0 rfl <| pas_cons <| pv_ixT <| pv_nm 5 rfl <| pv_int ⟨_, 0, _, .tup _, rfl, rfl, pas_nil ⟨b, q, by rw [eq]; rfl, W.pn, hq, by omega, pv_int ⟨_, 1, _, .tup _, rfl, rfl, ?_⟩⟩⟩) sc_law_idle.nd)
    let base0 : Nat := leastOf r.1.2.2
    let os0 : List Nat := ((List.range (q.2.1 + 1 - base0)).map (· + base0)).filter fun o => decide (o ∉ r.2.2)
    have os0m : ∀ o ∈ os0, o ∉ r.2.2 ∧ leastOf r.1.2.2 ≤ o ∧ o ≤ q.2.1 := fun o ho => by
      obtain ⟨h1, h2⟩ := List.mem_filter.mp ho
      obtain ⟨a, ha, rfl⟩ := List.mem_map.mp h1
      have := List.mem_range.mp ha
      exact ⟨of_decide_eq_true h2, Nat.le_add_left _ _, by omega⟩
    have os0l : os0.length ≤ 8 := by
      have := List.length_filter_le (fun o => decide (o ∉ r.2.2)) ((List.range (q.2.1 + 1 - base0)).map (· + base0))
      rw [List.length_map, List.length_range] at this
      show (List.filter _ _).length ≤ 8
      omega
    have eb : (if decide (((r.1.2.2 : Nat) : Int) > 0) = true then (1 : Int) else 0) = (base0 : Nat) := by
      show _ = ((leastOf r.1.2.2 : Nat) : Int)
      unfold leastOf
      by_cases h0 : r.1.2.2 = 0
      · simp [h0]
      · have : 0 < r.1.2.2 := by omega
        simp [h0, this]
    refine ss_cons (s_setLcF 9 [("_law_one_here", 10)] (fun d => match d with | .int k => if k.toNat ∈ r.2.2 then none else some (.int k) | _ => none) rfl sc_law_idle.nd (blkOk_by (show blkC N_law_idle (defScope s_law_idle) _ _ = true by decide +kernel)) (i_range2 c.z_range <| pv_intB c.z_int <| pv_c <| c_gt <| pv_ixT <| pv_nm 5 rfl <| pv_int ⟨_, 2, _, .tup _, rfl, rfl, pv_int ⟨_, 0, rfl, rfl, _, rfl, pv_add <| pv_nm 8 rfl <| pv_int ⟨_, 1, rfl, rfl, _, _, rfl, rfl, ?_, ?_, fun d2 hd2 => ?_, ?_⟩⟩⟩) rfl)
    · split <;> omega
    · rw [rgD_len]; split <;> omega
    · obtain ⟨k, hk, rfl⟩ := rgD_mem hd2
      have e9 : ∃ z : Nat, (if decide (((r.1.2.2 : Nat) : Int) > 0) = true then (1 : Int) else 0) + (k : Nat) = (z : Nat) := ⟨base0 + k, by rw [eb]; omega⟩
      obtain ⟨z, e9⟩ := e9
      rw [e9]
      refine fun _ _ _ _ _ => g_nm 10 (fun _ _ _ _ _ => t_one <| pb_c <| c_notInT <| pv_nm 10 rfl <| pv_nm 7 rfl ⟨_, _, .tup _, by rw [nats_ints]; exact .int (z : Int) _, _, rfl, rfl, fun h => ?_, fun h => ?_⟩) sc_law_idle.nd
      · have hn : z ∉ r.2.2 := fun hm' => by
          have : (z : Int) ∈ r.2.2.map fun n : Nat => (n : Int) := List.mem_map.mpr ⟨_, hm', rfl⟩
          rw [decide_eq_true this] at h
          exact nomatch h
        exact fun _ _ _ _ _ => pv_nm 10 rfl ⟨rfl, by simp only [Int.toNat_natCast]; rw [if_neg hn]⟩
      · have hn : z ∈ r.2.2 := by
          have h' : decide ((z : Int) ∈ r.2.2.map fun n : Nat => (n : Int)) = true := by simpa using h
          obtain ⟨m, hm, e⟩ := List.mem_map.mp (of_decide_eq_true h')
          have : m = z := by omega
          rw [← this]; exact hm
        simp only [Int.toNat_natCast]
        rw [if_pos hn]
    rw [eb]
    have eo : (rgD (base0 : Nat) (((q.2.1 : Nat) : Int) + 1 - (base0 : Nat)).toNat).filterMap (fun d => match d with | .int k => if k.toNat ∈ r.2.2 then none else some (D.int k) | _ => none) = natsD os0 := by
      have e1 : (((q.2.1 : Nat) : Int) + 1 - (base0 : Nat)).toNat = q.2.1 + 1 - base0 := by omega
      rw [e1]
      show _ = natsD (List.filter _ _)
      unfold rgD natsD
      rw [List.filterMap_map, ← List.filterMap_eq_filter, List.map_filterMap, List.filterMap_map]
      congr 1
      funext k
      have e2 : ((base0 : Nat) : Int) + (k : Nat) = ((k + base0 : Nat) : Int) := by omega
      simp only [Function.comp_def, e2, Int.toNat_natCast]
      by_cases h : k + base0 ∈ r.2.2 <;> simp [h, Option.guard]
    rw [eo]
    have hb1 : ∀ q' ∈ b.pl, q'.1 = r.1.1 → q' = q := fun q' hq' e => pl_uniq W.pn hq' hq (e.trans eq.symm)
    have f0 := fin os0 (.im (.int (q.2.1 : Nat))) x10 (by omega) fun o ho => by
      obtain ⟨h1, h2, h3⟩ := os0m o ho
      exact ⟨h1, h2, fun q' hq' e => by rw [hb1 q' hq' e]; exact Nat.le_trans h3 (bump_ge p q)⟩
    refine ss_cons (s_if <| pb_w <| pbw_and <| pb_c <| c_eqS <| pv_ixT <| pv_nm 5 rfl <| pv_int ⟨_, 0, _, .tup _, rfl, rfl, pv_nm 1 rfl ⟨_, _, rfl, rfl, _, rfl, ?_⟩⟩)
    by_cases hsp : r.1.1 = p.1
    · rw [decide_eq_true hsp, if_pos rfl]
      refine pbw_and1 <| pb_c <| c_eqI <| pv_ixT <| pv_nm 5 rfl <| pv_int ⟨_, 2, _, .tup _, rfl, rfl, pv_int ⟨_, 0, rfl, rfl, _, rfl, fun h0 => ?_, fun _ => ss_nil f0⟩⟩
      have h0' : r.1.2.2 = 0 := by have := of_decide_eq_true h0; omega
      have eqp : q = p := pl_uniq W.pn hq hp (eq.trans hsp)
      refine ss_one (s_setN 9 (pn_add <| pq_nm 9 rfl <| pq_pn <| pn_lst <| pas_cons <| pv_add <| pv_ixT <| pv_nm 3 rfl <| pv_int ⟨_, 1, _, .tup _, rfl, rfl, pv_int ⟨_, 1, rfl, rfl, pas_nil ⟨Nat.le_of_ble_eq_true rfl, by rw [natsD_len]; simp; omega, ?_⟩⟩⟩) sc_law_idle.nd)
      have e6 : natsD os0 ++ [.int (((p.2.1 : Nat) : Int) + 1)] = natsD (os0 ++ [p.2.1 + 1]) := by unfold natsD; rw [List.map_append]; simp
      rw [e6]
      refine fin (os0 ++ [p.2.1 + 1]) (.im (.int (q.2.1 : Nat))) x10 (by rw [List.length_append, List.length_singleton]; omega) fun o ho => ?_
      rcases List.mem_append.mp ho with ho | ho
      · obtain ⟨h1, h2, h3⟩ := os0m o ho
        exact ⟨h1, h2, fun q' hq' e => by rw [hb1 q' hq' e]; exact Nat.le_trans h3 (bump_ge p q)⟩
      · rw [List.mem_singleton.mp ho]
        refine ⟨fun hm => ?_, ?_, fun q' hq' e => ?_⟩
        · have := (ok.src _ hm).2
          rw [eqp] at this
          omega
        · unfold leastOf; split <;> omega
        · rw [hb1 q' hq' e, eqp, bump_self]; exact Nat.le_refl _
    · rw [decide_eq_false hsp, if_neg (by decide)]
      exact ⟨(fun h => nomatch h), fun _ => ss_nil f0⟩
  · rintro ls' w' ⟨rfl, rl1, x5, x6, x7, x8, x9, x10, hk, hid, rfl⟩
    rw [List.length_map, tab_len, List.take_length] at hk
    refine ss_cons (s_for (fun j ls' w' => w' = Wd.nil ∧ ∃ (rl2 : List (Rk × Rv)) (x5 x6 x7 x8 x9 x10 x11 : L), rl2.map (·.1) = b.rl.map (·.1) ++ (b.ws.take j).map (fun w => (p.1, w, p.2.1 + 1)) ∧ Idl b p rl2 ∧ ls' = LS rl2 x5 x6 x7 x8 x9 x10 x11) PassesOwn.never rfl (i_tup <| pv_ixL <| pq_pv <| pv_nm 0 rfl ⟨_, rfl, pv_int ⟨0, _, rfl, rfl, _, .tup _, ⟨rfl, rl1, _, _, _, _, _, _, _, by rw [List.take_zero, List.map_nil, List.append_nil]; exact hk, hid, rfl⟩, ?_, ?_⟩⟩))
    · rintro j d ls' w' hd ⟨rfl, rl2, x5, x6, x7, x8, x9, x10, x11, hk2, hid2, rfl⟩
      rw [List.getElem?_map] at hd
      obtain ⟨w, hwj, rfl⟩ := Option.map_eq_some_iff.mp hd
      have hw := List.mem_of_getElem? hwj
      have hjl : j < b.ws.length := (List.getElem?_eq_some_iff.mp hwj).1
      have h3 := W.w3
      have kn2 : (rl2.map (·.1)).Nodup := by
        rw [hk2]
        refine List.nodup_append.mpr ⟨W.kn, List.Pairwise.map _ (fun a c h e => h (by injection e with _ e; injection e)) (W.wn.sublist (List.take_sublist _ _)), fun a ha c hc e => ?_⟩
        obtain ⟨w', hw', rfl⟩ := List.mem_map.mp hc
        obtain ⟨q, hq, eq, _, hc'⟩ := asked_mem.mp ((W.ka a).mp ha)
        rw [e] at eq hc'
        rw [pl_uniq W.pn hq hp eq] at hc'
        have : p.2.1 + 1 ≤ p.2.1 := hc'
        omega
      have hk0 : (p.1, w, 0) ∈ rl2.map (·.1) := by
        rw [hk2]
        exact List.mem_append_left _ ((W.ka _).mpr (asked_mem.mpr ⟨p, hp, rfl, hw, Nat.zero_le _⟩))
      obtain ⟨r0, hr0, e0⟩ := List.mem_map.mp hk0
      have hlk : look rl2 (p.1, w, 0) = some r0.2 := look_of kn2 (by rw [← e0]; exact hr0)
      have ok0 := hid2 r0 hr0 (bump p p) (List.mem_map.mpr ⟨p, hp, rfl⟩) (by rw [bump_fst, e0])
      rw [e0, bump_self] at ok0
      have hnew : (p.1, w, p.2.1 + 1) ∉ rl2.map (·.1) := by
        rw [hk2, List.mem_append]
        rintro (h | h)
        · obtain ⟨q, hq, eq, _, hc'⟩ := asked_mem.mp ((W.ka _).mp h)
          rw [pl_uniq W.pn hq hp eq] at hc'
          have : p.2.1 + 1 ≤ p.2.1 := hc'
          omega
        · obtain ⟨w', hw', e⟩ := List.mem_map.mp h
          injection e with _ e
          injection e with e _
          subst e
          obtain ⟨i, hi, ei⟩ := List.getElem_of_mem hw'
          rw [List.length_take] at hi
          rw [List.getElem_take] at ei
          have := nodup_at W.wn (i := i) (j := j) (x := w') (by rw [List.getElem?_eq_getElem (by omega), ei]) hwj
          omega
      have hl2 : rl2.length ≤ 1260 + 3 := by
        have := congrArg List.length hk2
        rw [List.length_map, List.length_append, List.length_map, List.length_map, List.length_take] at this
        omega
      have hml : r0.2.2.length ≤ 8 := by
        have := nodup_bound ok0.nd (m := p.2.1 + 1) fun m hm => (ok0.src m hm).2
        omega
      let ms2 : List Nat := r0.2.2.map fun o => if o > 0 then o else p.2.1 + 1
      have hml2 : ms2.length = r0.2.2.length := by show (List.map _ _).length = _; rw [List.length_map]
      refine g_nm 11 ?_ sc_law_idle.nd
      refine ss_cons <| s_asg <| pv_dgetT hu <| pt_nm 4 rfl <| pv_tup <| pas_cons <| pv_nm 1 rfl <| pas_cons <| pv_nm 11 rfl <| pas_cons <| pv_int <| pas_nil ⟨Nat.le_of_ble_eq_true rfl, keyL (p.1, w, 0), _, rfl, by rw [tab_val, hlk]; rfl, ?_⟩
      refine g_tup (.tup _) (gs_cons (g_nm 6 (gs_cons (g_nm 7 (gs_nil ?_) sc_law_idle.nd)) sc_law_idle.nd)) rfl
      refine ss_cons (s_put 4 hu rfl <| pv_tup <| pas_cons <| pv_nm 6 rfl <| pas_cons <| pv_tupQ c.z_tuple <| pq_pn <| pn_lcM [("_law_one_here", 10)] (fun d => match d with | .int k => if k > 0 then .int k else .int (((p.2.1 : Nat) : Int) + 1) | _ => .non) rfl sc_law_idle.nd (blkOk_by (show blkC N_law_idle (defScope s_law_idle) _ _ = true by decide +kernel)) <| i_tup <| pv_nm 7 rfl ⟨_, .tup _, by rw [natsD_len]; omega, fun d2 hd2 => ?_, pas_nil ⟨Nat.le_of_ble_eq_true rfl, ?_⟩⟩)
      · obtain ⟨k, hk, rfl⟩ := List.mem_map.mp hd2
        refine fun _ _ _ _ _ => g_nm 10 (fun _ _ _ _ _ => pv_ifx <| pb_c <| c_gt <| pv_nm 10 rfl <| pv_int ⟨_, 0, rfl, rfl, _, rfl, fun e => ?_, fun e => ?_⟩) sc_law_idle.nd
        · exact pv_nm 10 rfl ⟨rfl, by show _ = if ((k : Nat) : Int) > 0 then _ else _; rw [if_pos (of_decide_eq_true e)]⟩
        · exact pv_add <| pv_ixT <| pv_nm 3 rfl <| pv_int ⟨_, 1, _, .tup _, rfl, rfl, pv_int ⟨_, 1, rfl, rfl, rfl, by show _ = if ((k : Nat) : Int) > 0 then _ else _; rw [if_neg (of_decide_eq_false e)]⟩⟩
      have e6 : (natsD r0.2.2).map (fun d => match d with | .int k => if k > 0 then D.int k else .int (((p.2.1 : Nat) : Int) + 1) | _ => .non) = natsD ms2 := by
        show _ = natsD (List.map _ _)
        unfold natsD
        rw [List.map_map, List.map_map]
        refine List.map_congr_left fun k _ => ?_
        by_cases h : k > 0
        · have : ((k : Nat) : Int) > 0 := by omega
          simp [h, this]
        · have : ¬ ((k : Nat) : Int) > 0 := by omega
          simp [h, this]
      rw [e6]
      have hput := tab_put (v := (r0.2.1, ms2)) hnew
      have e7 : ((p.2.1 : Nat) : Int) + 1 = ((p.2.1 + 1 : Nat) : Int) := by omega
      refine pv_tup <| pas_cons <| pv_nm 1 rfl <| pas_cons <| pv_nm 11 rfl <| pas_cons <| pv_add <| pv_ixT <| pv_nm 3 rfl <| pv_int ⟨_, 1, _, .tup _, rfl, rfl, pv_int ⟨_, 1, rfl, rfl, pas_nil ⟨Nat.le_of_ble_eq_true rfl, keyL (p.1, w, p.2.1 + 1), by rw [e7]; rfl, by rw [tab_len]; omega, ?_⟩⟩⟩
      have e8 : putD (tabD rl2) (keyL (p.1, w, p.2.1 + 1)) (.tup [.str r0.2.1, .tup (natsD ms2)]) = tabD (rl2 ++ [((p.1, w, p.2.1 + 1), (r0.2.1, ms2))]) := hput
      rw [e8]
      have hlk2 : look (rl2 ++ [((p.1, w, p.2.1 + 1), (r0.2.1, ms2))]) (p.1, w, p.2.1 + 1) = some (r0.2.1, ms2) := look_of (by
        rw [List.map_append]
        exact List.nodup_append.mpr ⟨kn2, by simp, fun a ha c hc e => hnew (by simp at hc; rw [← hc, ← e]; exact ha)⟩) (List.mem_append_right _ (List.mem_singleton.mpr rfl))
      refine ss_one (s_if <| pb_c <| c_lt <| pv_lenSetT rfl c.z_len c.z_set <| pv_ixT <| pv_dgetT hu <| pt_nm 4 rfl <| pv_tup <| pas_cons <| pv_nm 1 rfl <| pas_cons <| pv_nm 11 rfl <| pas_cons <| pv_add <| pv_ixT <| pv_nm 3 rfl <| pv_int ⟨_, 1, _, .tup _, rfl, rfl, pv_int ⟨_, 1, rfl, rfl, pas_nil ⟨Nat.le_of_ble_eq_true rfl, keyL (p.1, w, p.2.1 + 1), _, by rw [e7]; rfl, by rw [tab_val, hlk2]; rfl, pv_int ⟨_, 1, _, .tup _, rfl, rfl, _, _, .tup _, nats_ints ms2, by rw [List.length_map]; omega, fun cc hc1 hc2 => pv_lenT c.z_len <| pv_nm 7 rfl ⟨_, .tup _, _, _, rfl, rfl, _, rfl, fun h => ss_one (s_ret (pv_non hN)), fun h => ?_⟩⟩⟩⟩⟩)
      have hge := of_decide_eq_false h
      rw [natsD_len] at hge
      rw [List.length_map] at hc1
      have hnd := hc2 (by rw [List.length_map]; omega)
      have hnd2 : ms2.Nodup := List.Pairwise.of_map (f := fun n : Nat => (n : Int)) (R := (· ≠ ·)) (S := (· ≠ ·)) (fun a b h e => h (by rw [e])) hnd
      refine ss_nil ⟨rfl, rl2 ++ [((p.1, w, p.2.1 + 1), (r0.2.1, ms2))], x5, _, _, x8, x9, x10, .im (.str w), ?_, ?_, rfl⟩
      · rw [List.map_append, hk2, take_map_succ hwj, List.append_assoc]; rfl
      · intro r1 h1
        rcases List.mem_append.mp h1 with h | h
        · exact hid2 r1 h
        · rw [List.mem_singleton.mp h]
          intro q' hq' e
          obtain ⟨q, hq, rfl⟩ := List.mem_map.mp hq'
          rw [bump_fst] at e
          rw [pl_uniq W.pn hq hp e, bump_self]
          obtain ⟨g, hg, eg, hgl⟩ := ok0.goal
          refine ⟨⟨g, hg, eg, hml2.trans hgl⟩, hnd2, fun m hm => ?_⟩
          obtain ⟨o, ho, rfl⟩ := List.mem_map.mp hm
          have := (ok0.src o ho).2
          show leastOf (p.2.1 + 1) ≤ (if o > 0 then o else p.2.1 + 1) ∧ (if o > 0 then o else p.2.1 + 1) ≤ p.2.1 + 1
          have : leastOf (p.2.1 + 1) = 1 := rfl
          rw [this]
          split <;> omega
    · rintro ls' w' ⟨rfl, rl2, x5, x6, x7, x8, x9, x10, x11, hk2, hid2, rfl⟩
      rw [List.length_map, List.take_length] at hk2
      have W' := idle_wf W hp hst h5 hk2 hid2
      refine ss_fzT 4 rfl ?_
      refine ss_cons (s_set 12 (pv_tupQ c.z_tuple <| pq_pn <| pn_lcM [("_law_place_here", 13)] (fun d => match d with | .tup [.str x, .int k, y] => .tup [.str x, .int (k + (if decide (x = p.1) = true then 1 else 0)), y] | _ => .non) rfl sc_law_idle.nd (blkOk_by (show blkC N_law_idle (defScope s_law_idle) _ _ = true by decide +kernel)) <| i_tup <| pv_ixL <| pq_pv <| pv_nm 0 rfl ⟨_, rfl, pv_int ⟨1, _, rfl, rfl, _, .tup _, by rw [List.length_map]; omega, fun d2 hd2 => ?_, ?_⟩⟩) sc_law_idle.nd)
      · obtain ⟨q, hq, rfl⟩ := List.mem_map.mp hd2
        exact fun _ _ _ _ _ => g_nm 13 (fun _ _ _ _ _ => pv_tup <| pas_cons <| pv_ixT <| pv_nm 13 rfl <| pv_int ⟨_, 0, _, .tup _, rfl, rfl, pas_cons <| pv_add <| pv_ixT <| pv_nm 13 rfl <| pv_int ⟨_, 1, _, .tup _, rfl, rfl, pv_intB c.z_int <| pv_c <| c_eqS <| pv_ixT <| pv_nm 13 rfl <| pv_int ⟨_, 0, _, .tup _, rfl, rfl, pv_nm 1 rfl ⟨_, _, rfl, rfl, _, rfl, _, _, rfl, rfl, pas_cons <| pv_ixT <| pv_nm 13 rfl <| pv_int ⟨_, 2, _, .tup _, rfl, rfl, pas_nil ⟨Nat.le_of_ble_eq_true rfl, rfl, rfl⟩⟩⟩⟩⟩⟩) sc_law_idle.nd
      have e6 : (b.pl.map placeD).map (fun d => match d with | .tup [.str x, .int k, y] => .tup [.str x, .int (k + (if decide (x = p.1) = true then 1 else 0)), y] | _ => .non) = (b.pl.map (bump p)).map placeD := by
        rw [List.map_map, List.map_map]
        refine List.map_congr_left fun q _ => ?_
        show D.tup [.str q.1, .int (((q.2.1 : Nat) : Int) + (if decide (q.1 = p.1) = true then 1 else 0)), .bl q.2.2] = placeD (bump p q)
        by_cases h : q.1 = p.1
        · rw [decide_eq_true h]; unfold Fw.bump; rw [if_pos h]; simp [placeD]
        · rw [decide_eq_false h, bump_other h]; simp [placeD]
      rw [e6]
      exact ss_one <| s_ret <| pv_pn <| pn_lst <| pas_cons <| pv_ixL <| pq_pv <| pv_nm 0 rfl ⟨_, rfl, pv_int ⟨0, _, rfl, rfl, pas_cons <| pv_nm 12 rfl <| pas_cons <| pv_ixL <| pq_pv <| pv_nm 0 rfl ⟨_, rfl, pv_int ⟨2, _, rfl, rfl, pas_cons <| pv_nm 4 rfl <| pas_nil ⟨Nat.le_of_ble_eq_true rfl, hR _ W'⟩⟩⟩⟩⟩
end FH
set_option Elab.async false
set_option linter.all false
set_option maxRecDepth 100000
set_option maxHeartbeats 4000000
namespace FH
open PySem PySem.Spec PyProof.Rows L2 Pd Fw
variable {P : Program} {wo : World} {K : PySem.W.Frag} {mg : Str → Option Value} {base : Heap}
/-! _law_pick -/
def S_law_pick (ds : List D) (R : D → Prop) : Prop := ∃ (ns : List Int) (i m n : Int), ds = [.lst (ns.map .int), .int i, .int m] ∧ atI (ns.map D.int) i = some (.int n) ∧ 0 < m ∧ R (.int (n % m))
theorem ok_law_pick (c : Ctx K mg) : Cal P wo K mg base 1 (He.ga K "_law_pick") ["_law_numbers_here", "_law_at", "_law_most"] [] (spD K S_law_pick) := by
  refine cal0 c.f_law_pick sc_law_pick (fun ds R ⟨_, _, _, _, e, _⟩ => by rw [e]; rfl) (fun _ _ _ _ _ _ us hl => match us, hl with | [_, _, _], _ => rfl) fun cdv A outer s H E hr ds R hS => ?_
  obtain ⟨ns, i, m, n, rfl, hi, hm, hR⟩ := hS
  exact ss_one <| s_ret <| pv_mod <| pv_intI c.z_int <| pv_ixL <| pq_pv <| pv_nm 0 rfl ⟨_, rfl, pv_nm 1 rfl ⟨i, _, rfl, hi, n, rfl, pv_nm 2 rfl ⟨_, _, rfl, rfl, hm, hR⟩⟩⟩
/-! _law_like -/
def likeN (n : Nat) : Str := ("like" : Str) ++ toString ((n : Nat) : Int)
theorem like_ok : ∀ n, n < 7 → nameB (likeN n) = true ∧ ltrB (likeN n) = false := by decide +kernel
theorem like_inj : ∀ n, n < 7 → ∀ m, m < 7 → likeN n = likeN m → n = m := by decide +kernel
structure Lk (b : Pt) : Prop where
  sm : Small b 7 4
  nm : ∀ p ∈ b.pl, ltrB p.1 = true ∨ ∃ k, k < b.pl.length ∧ p.1 = likeN k
theorem Lk.fresh {b : Pt} (h : Lk b) (h7 : b.pl.length < 7) : likeN b.pl.length ∉ b.pl.map (·.1) := fun hm => by
  obtain ⟨p, hp, e⟩ := List.mem_map.mp hm
  rcases h.nm p hp with h1 | ⟨k, hk, h1⟩
  · rw [e, (like_ok _ h7).2] at h1; cases h1
  · rw [e] at h1
    have := like_inj _ h7 k (by omega) h1
    omega
def S_law_like (ds : List D) (R : D → Prop) : Prop := ∃ (ns : List Int) (b0 : Pt), ds = [.lst (ns.map .int), .int 100, partsD b0] ∧ ns.length = 190 ∧ Lk b0 ∧ ∀ b : Pt, Lk b → R (partsD b)
theorem ok_law_like (c : Ctx K mg) : Cal P wo K mg base 3 (He.ga K "_law_like") ["_law_numbers_here", "_law_at", "_law_parts_here"] [] (spD K S_law_like) := by
  refine cal0 c.f_law_like sc_law_like (fun ds R ⟨_, _, e, _⟩ => by rw [e]; rfl) (fun _ _ _ _ _ _ us hl => match us, hl with | [_, _, _], _ => rfl) fun cdv A outer sh H E hr ds R hS => ?_
  obtain ⟨ns, b0, rfl, hn, hb0, hR⟩ := hS
  have num : ∀ i : Nat, i < 190 → ∃ z : Int, atI (ns.map D.int) (i : Nat) = some (.int z) := fun i hi => by
    have hi' : i < ns.length := by omega
    exact ⟨ns[i], atI_nat (by rw [List.getElem?_map, List.getElem?_eq_getElem hi']; rfl)⟩
  obtain ⟨z0, hz0⟩ := num 100 (by decide)
  have q0 : 0 ≤ z0 % 3 := Int.emod_nonneg _ (by decide)
  have q1 : z0 % 3 < 3 := Int.emod_lt_of_pos _ (by decide)
  refine ss_cons (s_for (fun k ls' w' => w' = Wd.nil ∧ ∃ (b : Pt) (x3 x4 x5 x6 x7 x8 x9 : L), Lk b ∧ ls' = [.im (.lst (ns.map .int)), .im (.int 100), .im (partsD b), x3, x4, x5, x6, x7, x8, x9]) PassesOwn.never rfl
    (i_range1 c.z_range <| pv_add <| pv_int <| pv_mod <| pv_intI c.z_int <| pv_ixL <| pq_pv <| pv_nm 0 rfl ⟨_, rfl, pv_nm 1 rfl ⟨100, _, rfl, hz0, z0, rfl, pv_int ⟨_, _, rfl, rfl, by decide, _, _, rfl, rfl, (1 + z0 % 3).toNat, by congr 1; omega, by omega, ⟨rfl, b0, _, _, _, _, _, _, _, hb0, rfl⟩, ?_, ?_⟩⟩⟩))
  · rintro k d ls' w' hd ⟨rfl, b, x3, x4, x5, x6, x7, x8, x9, hb, rfl⟩
    obtain ⟨hk, rfl⟩ := rgD_get hd
    have hk3 : k < 3 := by omega
    have W := hb.sm.wf
    have hpl0 := hb.sm.p0
    have hpl7 := hb.sm.pn
    obtain ⟨z1, hz1⟩ := num (101 + 3 * k) (by omega)
    obtain ⟨z2, hz2⟩ := num (101 + 3 * k + 1) (by omega)
    obtain ⟨z3, hz3⟩ := num (101 + 3 * k + 2) (by omega)
    have hbk : -(2 ^ 64) < ((0 : Int) + (k : Nat)) ∧ ((0 : Int) + (k : Nat)) < 2 ^ 64 := by constructor <;> omega
    refine g_nm 3 ?_ sc_law_like.nd
    refine ss_cons (s_set 4 (pv_add <| pv_add <| pv_nm 1 rfl <| pv_int ⟨_, 1, rfl, rfl, pv_mul2 <| pv_int <| pv_nm 3 rfl ⟨_, _, rfl, rfl, .inr hbk, _, _, rfl, rfl, ?_⟩⟩) sc_law_like.nd)
    have es : (100 : Int) + 1 + 3 * (0 + (k : Nat)) = ((101 + 3 * k : Nat) : Int) := by omega
    rw [es]
    have m0 : 0 ≤ z1 % (b.pl.length : Int) := Int.emod_nonneg _ (by omega)
    have m1 : z1 % (b.pl.length : Int) < b.pl.length := Int.emod_lt_of_pos _ (by omega)
    have hpi : (z1 % (b.pl.length : Int)).toNat < b.pl.length := by omega
    obtain ⟨p, hp, hpe⟩ : ∃ p ∈ b.pl, atI (b.pl.map placeD) (z1 % (b.pl.length : Int)) = some (placeD p) := ⟨b.pl[(z1 % (b.pl.length : Int)).toNat], List.getElem_mem hpi, atI_int m0 (by rw [List.getElem?_map, List.getElem?_eq_getElem hpi]; rfl)⟩
    have hp4 := hb.sm.ps p hp
    refine ss_cons (s_set 5 (pv_ixT <| pv_ixL <| pq_pv <| pv_nm 2 rfl ⟨_, rfl, pv_int ⟨1, _, rfl, rfl, pv_mod <| pv_intI c.z_int <| pv_ixL <| pq_pv <| pv_nm 0 rfl ⟨_, rfl, pv_nm 4 rfl ⟨_, _, rfl, hz1, z1, rfl, pv_lenT c.z_len <| pv_ixL <| pq_pv <| pv_nm 2 rfl ⟨_, rfl, pv_int ⟨1, _, rfl, rfl, _, .tup _, _, _, rfl, rfl, by rw [List.length_map]; omega, _, _, _, .tup _, rfl, by rw [List.length_map]; exact hpe, ?_⟩⟩⟩⟩⟩⟩) sc_law_like.nd)
    refine ss_cons (s_set 6 (pv_mod <| pv_intI c.z_int <| pv_ixL <| pq_pv <| pv_nm 0 rfl ⟨_, rfl, pv_add <| pv_nm 4 rfl <| pv_int ⟨_, 1, rfl, rfl, _, _, rfl, hz2, z2, rfl, pv_int ⟨_, 3, rfl, rfl, by decide, ?_⟩⟩⟩) sc_law_like.nd)
    have stay : ∃ (b' : Pt) (y3 y4 y5 y6 y7 y8 y9 : L), Lk b' ∧ [.im (.lst (ns.map .int)), .im (.int 100), .im (partsD b), .im (.int (0 + (k : Nat))), .im (.int ((101 + 3 * k : Nat) : Int)), .im (placeD p), .im (.int (z2 % 3)), x7, x8, x9] = [L.im (.lst (ns.map .int)), .im (.int 100), .im (partsD b'), y3, y4, y5, y6, y7, y8, y9] := ⟨b, _, _, _, _, _, _, _, hb, rfl⟩
    refine ss_one (s_if (PB.imp (R := fun t w' => w' = Wd.nil ∧ t = (decide (z2 % 3 = 0) && decide (b.pl.length < 7))) ?_ fun t w' ⟨e1, e2⟩ => ?_))
    · refine pb_w <| pbw_and <| pb_c <| c_eqI <| pv_nm 6 rfl <| pv_int ⟨_, 0, rfl, rfl, _, rfl, ?_⟩
      by_cases h : z2 % 3 = 0
      · rw [decide_eq_true h, if_pos rfl]
        exact pbw_and1 <| pb_c <| c_lt <| pv_lenT c.z_len <| pv_ixL <| pq_pv <| pv_nm 2 rfl ⟨_, rfl, pv_int ⟨1, _, rfl, rfl, _, .tup _, pv_int ⟨_, 7, rfl, rfl, _, rfl, rfl, by
          rw [List.length_map, Bool.true_and, Bool.eq_iff_iff, decide_eq_true_eq, decide_eq_true_eq]; omega⟩⟩⟩
      · rw [decide_eq_false h, if_neg (by decide)]
        exact ⟨rfl, rfl⟩
    subst e1
    refine ⟨fun ht => ?_, fun ht => ?_⟩
    · -- split
      rw [ht] at e2
      have h7 : b.pl.length < 7 := by
        have := e2.symm
        rw [Bool.and_eq_true] at this
        exact of_decide_eq_true this.2
      refine ss_one (s_set 2 (pv_cal (ok_law_split c) hr c.g_law_split <| pas_cons <| pv_nm 2 rfl <| pas_cons <| pv_ixT <| pv_nm 5 rfl <| pv_int ⟨_, 0, _, .tup _, rfl, rfl, pas_cons <| pv_addS <| pv_str <| pv_strI c.z_str <| pv_lenT c.z_len <| pv_ixL <| pq_pv <| pv_nm 2 rfl ⟨_, rfl, pv_int ⟨1, _, rfl, rfl, _, .tup _, _, rfl, ?_, _, _, rfl, rfl, ?_, ?_⟩⟩⟩) sc_law_like.nd)
      · rw [List.length_map]
        have : ((b.pl.length : Nat) : Int).natAbs ≤ 7 := by omega
        exact Nat.lt_of_le_of_lt (Nat.log2_le_self _) (by omega)
      · rw [List.length_map]
        have := nameB_len (like_ok _ h7).1
        unfold likeN at this
        rw [len_app] at this
        omega
      · rw [List.length_map]
        refine pas_cons <| pv_intI c.z_int <| pv_ixL <| pq_pv <| pv_nm 0 rfl ⟨_, rfl, pv_add <| pv_nm 4 rfl <| pv_int ⟨_, 2, rfl, rfl, _, _, rfl, hz3, z3, rfl, pas_nil ⟨b, p, likeN b.pl.length, z3, rfl, W, hp, hb.fresh h7, (like_ok _ h7).1, by omega, fun rl' W' => ?_⟩⟩⟩
        refine ⟨rfl, _, _, _, _, _, x7, x8, x9, ⟨⟨W', hb.sm.w2, ?_, ?_, ?_⟩, ?_⟩, rfl⟩
        · show (b.pl ++ [_]).length ≤ 7; rw [List.length_append, List.length_singleton]; omega
        · intro q hq
          rcases List.mem_append.mp hq with h | h
          · exact hb.sm.ps q h
          · rw [List.mem_singleton.mp h]; exact hp4
        · show 0 < (b.pl ++ [_]).length; rw [List.length_append]; omega
        · intro q hq
          show ltrB q.1 = true ∨ ∃ k, k < (b.pl ++ [freshPl (likeN b.pl.length) p]).length ∧ q.1 = likeN k
          rw [List.length_append, List.length_singleton]
          rcases List.mem_append.mp hq with h | h
          · rcases hb.nm q h with h | ⟨j, hj, h⟩
            · exact .inl h
            · exact .inr ⟨j, by omega, h⟩
          · rw [List.mem_singleton.mp h]; exact .inr ⟨b.pl.length, by omega, rfl⟩
    · refine ss_one (s_if (PB.imp (R := fun t w' => w' = Wd.nil ∧ t = (decide (z2 % 3 = 1) && decide (1 < p.2.1))) ?_ fun t w' ⟨e3, e4⟩ => ?_))
      · refine pb_w <| pbw_and <| pb_c <| c_eqI <| pv_nm 6 rfl <| pv_int ⟨_, 1, rfl, rfl, _, rfl, ?_⟩
        by_cases h : z2 % 3 = 1
        · rw [decide_eq_true h, if_pos rfl]
          exact pbw_and1 <| pb_c <| c_gt <| pv_ixT <| pv_nm 5 rfl <| pv_int ⟨_, 1, _, .tup _, rfl, rfl, pv_int ⟨_, 1, rfl, rfl, _, rfl, rfl, by
            rw [Bool.true_and, Bool.eq_iff_iff, decide_eq_true_eq, decide_eq_true_eq]; omega⟩⟩
        · rw [decide_eq_false h, if_neg (by decide)]
          exact ⟨rfl, rfl⟩
      subst e3
      refine ⟨fun ht2 => ?_, fun ht2 => ?_⟩
      · -- permuted
        rw [ht2] at e4
        have h1 : 1 < p.2.1 := by
          have := e4.symm
          rw [Bool.and_eq_true] at this
          exact of_decide_eq_true this.2
        have t0 : 0 ≤ z3 % (((p.2.1 : Nat) : Int) - 1) := Int.emod_nonneg _ (by omega)
        refine ss_cons (s_set 7 (pv_add <| pv_int <| pv_mod <| pv_intI c.z_int <| pv_ixL <| pq_pv <| pv_nm 0 rfl ⟨_, rfl, pv_add <| pv_nm 4 rfl <| pv_int ⟨_, 2, rfl, rfl, _, _, rfl, hz3, z3, rfl, pv_sub <| pv_ixT <| pv_nm 5 rfl <| pv_int ⟨_, 1, _, .tup _, rfl, rfl, pv_int ⟨_, 1, rfl, rfl, _, _, rfl, rfl, by omega, _, _, rfl, rfl, ?_⟩⟩⟩⟩) sc_law_like.nd)
        obtain ⟨t, et⟩ : ∃ t : Nat, 1 + z3 % (((p.2.1 : Nat) : Int) - 1) = (t : Nat) := ⟨_, (Int.toNat_of_nonneg (by omega)).symm⟩
        rw [et]
        refine ss_cons (s_setN 8 (pn_listR2 rfl c.z_list c.z_range <| pv_int <| pv_add <| pv_ixT <| pv_nm 5 rfl <| pv_int ⟨_, 1, _, .tup _, rfl, rfl, pv_int ⟨_, 1, rfl, rfl, 1, _, rfl, rfl, by omega, ?_⟩⟩) sc_law_like.nd)
        have e1 : (((p.2.1 : Nat) : Int) + 1 - 1).toNat = p.2.1 := by omega
        rw [e1, rg_one]
        refine ss_one (s_set 2 (pv_cal (ok_law_permuted c) (hr.mono (by decide)) c.g_law_permuted <| pas_cons <| pv_nm 2 rfl <| pas_cons <| pv_ixT <| pv_nm 5 rfl <| pv_int ⟨_, 0, _, .tup _, rfl, rfl, pas_cons <| pv_pn <| pn_add <| pq_pn <| pn_slice <| pq_nm 8 rfl <| pov_some <| pv_nm 7 rfl ⟨_, rfl, pov_none <| pq_pn <| pn_slice <| pq_nm 8 rfl <| pov_none <| pov_some <| pv_nm 7 rfl ⟨_, rfl, ?_, ?_⟩⟩⟩) sc_law_like.nd)
        · rw [cut_from, cut_to, nats_drop, nats_take, natsD_len, natsD_len, List.length_drop, List.length_take]
          unfold one_to
          rw [List.length_map, List.length_range]
          omega
        · rw [cut_from, cut_to, nats_drop, nats_take, nats_app]
          refine pas_nil ⟨b, p, _, rfl, W, hp, (List.perm_append_comm).trans (by rw [List.take_append_drop]), fun rl' W' => ⟨rfl, _, _, _, _, _, _, .own (natsD (one_to p.2.1)), x9, ⟨⟨W', hb.sm.w2, hb.sm.pn, hb.sm.ps, hb.sm.p0⟩, hb.nm⟩, rfl⟩⟩
      · refine ss_one (s_if (PB.imp (R := fun t w' => w' = Wd.nil ∧ (t = true → p.1 ≠ b.st ∧ p.2.1 < 4)) ?_ fun t w' ⟨e5, e6⟩ => ?_))
        · refine pb_w <| pbw_and <| pb_c <| c_eqI <| pv_nm 6 rfl <| pv_int ⟨_, 2, rfl, rfl, _, rfl, ?_⟩
          by_cases h : z2 % 3 = 2
          · rw [decide_eq_true h, if_pos rfl]
            refine pbw_and <| pb_c <| c_neS <| pv_ixT <| pv_nm 5 rfl <| pv_int ⟨_, 0, _, .tup _, rfl, rfl, pv_ixL <| pq_pv <| pv_nm 2 rfl ⟨_, rfl, pv_int ⟨2, _, rfl, rfl, _, _, rfl, rfl, _, rfl, ?_⟩⟩⟩
            by_cases h2 : p.1 = b.st
            · rw [decide_eq_true h2, if_neg (by decide)]
              exact ⟨rfl, fun h => nomatch h⟩
            · rw [decide_eq_false h2, if_pos (by decide)]
              exact pbw_and1 <| pb_c <| c_lt <| pv_ixT <| pv_nm 5 rfl <| pv_int ⟨_, 1, _, .tup _, rfl, rfl, pv_int ⟨_, 4, rfl, rfl, _, rfl, rfl, fun h => ⟨h2, by have := of_decide_eq_true h; omega⟩⟩⟩
          · rw [decide_eq_false h, if_neg (by decide)]
            exact ⟨rfl, fun h => nomatch h⟩
        subst e5
        refine ⟨fun ht3 => ?_, fun _ => ss_nil ⟨rfl, stay⟩⟩
        obtain ⟨hst, h4⟩ := e6 ht3
        have afterI : ∀ (d : D) (k0 : Bool), isN d = some k0 → (k0 = false → ∃ b' : Pt, Lk b' ∧ d = partsD b') → SVs (XC P wo K mg base N_law_like "_law_like" (defScope s_law_like) (He.ga K "_law_like") cdv A outer sh H E) (List.drop 1 (match (match (match (match (defBody s_law_like).getD 0 (.Pass ⟨0,0,0,0⟩) with | .For _ _ b _ _ => b | _ => []).getD 3 (.Pass ⟨0,0,0,0⟩) with | .If _ _ b _ => b | _ => []).getD 0 (.Pass ⟨0,0,0,0⟩) with | .If _ _ b _ => b | _ => []).getD 0 (.Pass ⟨0,0,0,0⟩) with | .If _ b _ _ => b | _ => [])) Wd.nil
            [.im (.lst (ns.map .int)), .im (.int 100), .im (partsD b), .im (.int (0 + (k : Nat))), .im (.int ((101 + 3 * k : Nat) : Int)), .im (placeD p), .im (.int (z2 % 3)), x7, x8, .im d] (fun ls' w' => w' = Wd.nil ∧ ∃ (b : Pt) (x3 x4 x5 x6 x7 x8 x9 : L), Lk b ∧ ls' = [.im (.lst (ns.map .int)), .im (.int 100), .im (partsD b), x3, x4, x5, x6, x7, x8, x9]) (fun d _ => R d) := fun d k0 hk0 hd => by
          refine ss_one (s_if <| pb_c <| c_notN <| pv_nm 9 rfl ⟨k0, hk0, _, rfl, fun h => ?_, fun h => ?_⟩)
          · have : k0 = false := by simpa using h
            obtain ⟨b', hb', e⟩ := hd this
            exact ss_one (s_set 2 (pv_nm 9 rfl ⟨rfl, b', _, _, _, _, x7, x8, .im d, hb', by rw [e]; rfl⟩) sc_law_like.nd)
          · exact ss_nil ⟨rfl, b, _, _, _, _, x7, x8, .im d, hb, rfl⟩
        refine ss_cons (s_set 9 (pv_cal (ok_law_idle c) hr c.g_law_idle <| pas_cons <| pv_nm 2 rfl <| pas_cons <| pv_ixT <| pv_nm 5 rfl <| pv_int ⟨_, 0, _, .tup _, rfl, rfl, pas_cons <| pv_intI c.z_int <| pv_ixL <| pq_pv <| pv_nm 0 rfl ⟨_, rfl, pv_add <| pv_nm 4 rfl <| pv_int ⟨_, 2, rfl, rfl, _, _, rfl, hz3, z3, rfl, pas_nil ⟨b, p, z3, rfl, W, hp, hst, by omega, ?_, fun rl' W' => ?_⟩⟩⟩⟩) sc_law_like.nd)
        · exact afterI .non true rfl fun h => nomatch h
        · refine afterI _ false rfl fun _ => ⟨_, ⟨⟨W', hb.sm.w2, ?_, ?_, ?_⟩, ?_⟩, rfl⟩
          · show (b.pl.map _).length ≤ 7; rw [List.length_map]; exact hpl7
          · intro q' hq'
            obtain ⟨q, hq, rfl⟩ := List.mem_map.mp hq'
            by_cases e : q.1 = p.1
            · rw [pl_uniq W.pn hq hp e, bump_self]; omega
            · rw [bump_other e]; exact hb.sm.ps q hq
          · show 0 < (b.pl.map _).length; rw [List.length_map]; exact hpl0
          · intro q' hq'
            obtain ⟨q, hq, rfl⟩ := List.mem_map.mp hq'
            rw [bump_fst]
            show ltrB q.1 = true ∨ ∃ k, k < (b.pl.map (Fw.bump p)).length ∧ q.1 = likeN k
            rw [List.length_map]
            exact hb.nm q hq
  · rintro ls' w' ⟨rfl, b, x3, x4, x5, x6, x7, x8, x9, hb, rfl⟩
    exact ss_one (s_ret (pv_nm 2 rfl (hR b hb)))
/-! _law_one -/
def S_law_one (ds : List D) (R : D → Prop) : Prop := ∃ ns : List Int, ds = [.lst (ns.map .int)] ∧ ns.length = 190 ∧ ∀ b : Pt, Small b 7 3 → R (partsD b)
theorem ok_law_one (c : Ctx K mg) : Cal P wo K mg base 4 (He.ga K "_law_one") ["_law_numbers_here"] [] (spD K S_law_one) := by
  refine cal0 c.f_law_one sc_law_one (fun ds R ⟨_, e, _⟩ => by rw [e]; rfl) (fun _ _ _ _ _ _ us hl => match us, hl with | [_], _ => rfl) fun cdv A outer sh H E hr ds R hS => ?_
  obtain ⟨ns, rfl, hn, hR⟩ := hS
  have num : ∀ i : Nat, i < 190 → ∃ z : Int, atI (ns.map D.int) (i : Nat) = some (.int z) := fun i hi => by
    have hi' : i < ns.length := by omega
    exact ⟨ns[i], atI_nat (by rw [List.getElem?_map, List.getElem?_eq_getElem hi']; rfl)⟩
  obtain ⟨z0, hz0⟩ := num 120 (by decide)
  obtain ⟨z1, hz1⟩ := num 121 (by decide)
  obtain ⟨z2, hz2⟩ := num 122 (by decide)
  have q0 : 0 ≤ z1 % 2 := Int.emod_nonneg _ (by decide)
  have q1 : z1 % 2 < 2 := Int.emod_lt_of_pos _ (by decide)
  refine ss_cons (s_set 1 (pv_cal (ok_law_names c) (hr.mono (by decide)) c.g_law_names <| pas_cons <| pv_ixL <| pq_pv <| pv_nm 0 rfl ⟨_, rfl, pv_int ⟨120, _, rfl, hz0, pas_cons <| pv_add <| pv_int <| pv_cal (ok_law_pick c) (hr.mono (by decide)) c.g_law_pick <| pas_cons <| pv_nm 0 rfl <| pas_cons <| pv_int <| pas_cons <| pv_int <| pas_nil ⟨ns, 121, 2, z1, rfl, hz1, by decide, _, _, rfl, rfl, pas_nil ⟨z0, (1 + z1 % 2).toNat, by congr 2; congr 1; omega, by omega, fun ws hws => ?_⟩⟩⟩⟩) sc_law_one.nd)
  have hwl : 1 ≤ ws.length ∧ ws.length ≤ 2 := by rw [hws.len]; omega
  refine ss_cons (s_set 2 (pv_cal (ok_law_parts c) (hr.mono (by decide)) c.g_law_parts <| pas_cons <| pv_nm 0 rfl <| pas_cons <| pv_int <| pas_cons <| pv_nm 1 rfl <| pas_nil ⟨ns, ws, rfl, hn, hwl.1, hwl.2, hws.nd, fun w hw => (hws.ok w hw).1, fun b hb hbw hbl => ?_⟩) sc_law_one.nd)
  have sb : Small b 7 3 := ⟨hb.wf, hb.w2, Nat.le_trans hb.pn (by decide), hb.ps, hb.p0⟩
  refine ss_cons (s_if <| pb_c <| c_gt <| pv_cal (ok_law_pick c) (hr.mono (by decide)) c.g_law_pick <| pas_cons <| pv_nm 0 rfl <| pas_cons <| pv_int <| pas_cons <| pv_int <| pas_nil ⟨ns, 122, 3, z2, rfl, hz2, by decide, pv_int ⟨_, 0, rfl, rfl, _, rfl, fun _ => ?_, fun _ => ss_nil (ss_one (s_ret (pv_nm 2 rfl (hR b sb))))⟩⟩)
  refine ss_cons (s_set 3 (pv_cal (ok_law_like c) hr c.g_law_like <| pas_cons <| pv_nm 0 rfl <| pas_cons <| pv_int <| pas_cons <| pv_nm 2 rfl <| pas_nil ⟨ns, b, rfl, hn, ⟨⟨hb.wf, hb.w2, Nat.le_trans hb.pn (by decide), fun p hp => Nat.le_trans (hb.ps p hp) (by decide), hb.p0⟩, fun p hp => .inl (hbl p hp)⟩, fun b2 hb2 => ?_⟩) sc_law_one.nd)
  have hb27 := hb2.sm.pn
  refine ss_one (s_if <| pb_c <| c_lt <| pv_maxQ rfl c.z_max <| pq_pn <| pn_lcM [("_law_place_here", 4)] (fun d => match d with | .tup (_ :: x :: _) => x | _ => .non) rfl sc_law_one.nd (blkOk_by (show blkC N_law_one (defScope s_law_one) _ _ = true by decide +kernel)) <| i_tup <| pv_ixL <| pq_pv <| pv_nm 3 rfl ⟨_, rfl, pv_int ⟨1, _, rfl, rfl, _, .tup _, by rw [List.length_map]; omega, fun d2 hd2 => ?_, b2.pl.map fun p => ((p.2.1 : Nat) : Int), ?_, ?_, fun m hm hmax => pv_int ⟨_, 4, rfl, rfl, _, rfl, fun h => ?_, fun _ => ss_nil (ss_one (s_ret (pv_nm 2 rfl (hR b sb))))⟩⟩⟩)
  · obtain ⟨q, hq, rfl⟩ := List.mem_map.mp hd2
    exact fun _ _ _ _ _ => g_nm 4 (fun _ _ _ _ _ => pv_ixT <| pv_nm 4 rfl <| pv_int ⟨_, 1, _, .tup _, rfl, rfl, rfl, rfl⟩) sc_law_one.nd
  · rw [List.map_map, List.map_map]; rfl
  · rw [List.length_map]; exact hb2.sm.p0
  · have h4 := of_decide_eq_true h
    exact ss_one (s_ret (pv_nm 3 rfl (hR b2 ⟨hb2.sm.wf, hb2.sm.w2, hb2.sm.pn, fun p hp => by have := hmax _ (List.mem_map.mpr ⟨p, hp, rfl⟩); omega, hb2.sm.p0⟩)))
end FH
set_option Elab.async false
set_option linter.all false
set_option maxRecDepth 100000
set_option maxHeartbeats 4000000
/-! dicts whose keys are nested tuples -/
namespace Pd
open PySem PySem.Spec PyProof.Rows L2
open Evl (Ex)

mutual
/-- the value is the key, by what is tracked -/
inductive NkV (H : Hp) : V → NestedKey → Prop
  | int (i : Int) : NkV H (.int i) (.num i)
  | str (x : Str) : NkV H (.str x) (.text x)
  | tup {b : Addr} {xs : List V} {ks : List NestedKey} : H b = some (.tup xs) → NkL H xs ks → NkV H (.ref b) (.tup ks)
  | ftup {b : Addr} {ob : Obj} {xs : List V} {ks : List NestedKey} : H b = some (.frz ob (.tup xs)) → NkL H xs ks → NkV H (.ref b) (.tup ks)
inductive NkL (H : Hp) : List V → List NestedKey → Prop
  | nil : NkL H [] []
  | cons {v : V} {vs : List V} {k : NestedKey} {ks : List NestedKey} : NkV H v k → NkL H vs ks → NkL H (v :: vs) (k :: ks)
end
section
variable {P : Program} {w : World} {H H' : Hp} {h : Heap}
mutual
theorem NkV.ex (e : Ex H H') : ∀ {v : V} {k : NestedKey}, NkV H v k → NkV H' v k
  | _, _, .int i => .int i
  | _, _, .str x => .str x
  | _, _, .tup e1 r => .tup (e _ _ e1) (NkL.ex e r)
  | _, _, .ftup e1 r => .ftup (e _ _ e1) (NkL.ex e r)
theorem NkL.ex (e : Ex H H') : ∀ {vs : List V} {ks : List NestedKey}, NkL H vs ks → NkL H' vs ks
  | _, _, .nil => .nil
  | _, _, .cons a r => .cons (NkV.ex e a) (NkL.ex e r)
end
mutual
theorem NkV.is (ok : HOk P w H h) : ∀ {v : V} {k : NestedKey} {u : Value}, NkV H v k → RelV v u → NestedIs h k u
  | _, _, u, .int i, r => by obtain ⟨t, e⟩ := (show ∃ t, u = Value.int i t from r); subst e; exact .int _ _
  | _, _, u, .str x, r => by obtain ⟨t, e⟩ := (show ∃ t, u = Value.str x t from r); subst e; exact .text _ _
  | _, _, u, .tup (b := b) (xs := xs) e1 q, r => by
    obtain rfl : u = Value.ref b := r
    obtain ⟨_, its, r2, o, h1, h2, n, h3⟩ := (show ObjOk P w H h b (.tup xs) from ok b _ e1)
    exact .tup h1 h2 h3 (by simpa using NkL.is ok q r2)
  | _, _, u, .ftup (b := b) (ob := ob) (xs := xs) e1 q, r => by
    obtain rfl : u = Value.ref b := r
    obtain ⟨_, _, its, r2, o, h1, h2, n, h3⟩ := (show ObjOk P w H h b (.frz ob (.tup xs)) from ok b _ e1)
    exact .tup h1 h2 h3 (by simpa using NkL.is ok q r2)
theorem NkL.is (ok : HOk P w H h) : ∀ {vs : List V} {ks : List NestedKey} {us : List Value}, NkL H vs ks → Vals vs us → NestedAll h ks us
  | _, _, _, .nil, r => by cases r; exact .nil
  | _, _, _, .cons a q, r => by
    cases r with
    | cons r1 r2 => exact .cons (NkV.is ok a r1) (NkL.is ok q r2)
end
end

/-- an entry: the key, where its tuple stands, the value -/
abbrev NE := NestedKey × Addr × V
abbrev PN3 : List NE → List (NestedKey × Addr × Value) → Prop := Paired fun y x => y.1 = x.1 ∧ y.2.1 = x.2.1 ∧ RelV y.2.2 x.2.2
def RawN (P : Program) (w : World) (a : Addr) (ys : List NE) (h : Heap) : Prop := ys.length ≤ sizeLine ∧ (a == sysModules) = false ∧ ∃ xs, PN3 ys xs ∧
  ∃ o es ep, h.get? a = some o ∧ o.ExactDict ∧ o.data = .dict es ep ∧ es.toList = xs.map (entryOfKey (nestedKind P w)) ∧ (xs.map (·.1)).Nodup
def NHO (P : Program) (w : World) (a : Addr) (ys : List NE) : HO := .ext (RawN P w a ys)
/-- the keys are tracked -/
def NKeys (H : Hp) (ys : List NE) : Prop := ∀ y ∈ ys, NkV H (.ref y.2.1) y.1 ∧ y.1.depth ≤ 8
def atN (ys : List NE) (k : NestedKey) : Option V := (ys.find? fun y => decide (y.1 = k)).map (·.2.2)
def putN (ys : List NE) (k : NestedKey) (b : Addr) (v : V) : List NE :=
  if (atN ys k).isSome then ys.map (fun y => if y.1 = k then (y.1, y.2.1, v) else y) else ys ++ [(k, b, v)]
theorem PN3.val {ys : List NE} {xs : List (NestedKey × Addr × Value)} (r : PN3 ys xs) (k : NestedKey) : RelO (atN ys k) ((atKey xs k).map (·.2)) := by
  induction r with
  | nil => exact True.intro
  | @cons p q ps qs h t ih =>
    obtain ⟨h1, _, h2⟩ := h
    by_cases e : p.1 = k
    · have e' : q.1 = k := h1.symm.trans e
      have b : atKey (q :: qs) k = some q.2 := by simp [atKey, List.find?_cons, e']
      have c : atN (p :: ps) k = some p.2.2 := by simp [atN, List.find?_cons, e]
      rw [b, c]; exact h2
    · have e' : ¬ q.1 = k := fun z => e (h1.trans z)
      have b : atKey (q :: qs) k = atKey qs k := by simp [atKey, List.find?_cons, e']
      have c : atN (p :: ps) k = atN ps k := by simp [atN, List.find?_cons, e]
      rw [b, c]; exact ih
theorem PN3.repl {ys : List NE} {xs : List (NestedKey × Addr × Value)} (r : PN3 ys xs) (k : NestedKey) {y : V} {u : Value} (ry : RelV y u) :
    PN3 (ys.map fun z => if z.1 = k then (z.1, z.2.1, y) else z) (xs.map (putAt k u)) := by
  induction r with
  | nil => exact .nil
  | @cons p q ps qs h t ih =>
    rw [List.map_cons, List.map_cons]
    refine .cons ?_ ih
    obtain ⟨h1, h2, h3⟩ := h
    unfold putAt
    by_cases e : p.1 = k
    · rw [if_pos e, if_pos (h1.symm.trans e)]; exact ⟨h1, h2, ry⟩
    · rw [if_neg e, if_neg (fun z => e (h1.trans z))]; exact ⟨h1, h2, h3⟩
theorem PN3.put {ys : List NE} {xs : List (NestedKey × Addr × Value)} (r : PN3 ys xs) (k : NestedKey) {b : Addr} {y : V} {u : Value} (ry : RelV y u) : PN3 (putN ys k b y) (storedH xs k b u) := by
  have e : (atN ys k).isSome = (atKey xs k).isSome := by rw [(r.val k).isSome_eq, Option.isSome_map]
  unfold putN storedH
  rw [e]
  by_cases q : (atKey xs k).isSome = true
  · rw [if_pos q, if_pos q]; exact r.repl k ry
  · rw [if_neg q, if_neg q]; exact Paired.snoc r ⟨rfl, rfl, ry⟩
theorem putN_len (ys : List NE) (k : NestedKey) (b : Addr) (v : V) : (putN ys k b v).length ≤ ys.length + 1 := by
  unfold putN
  split
  · rw [List.length_map]; omega
  · rw [List.length_append]; exact Nat.le_refl _

theorem room9 {P : Program} {w : World} {A : Around} (hu : A.units + 9 < cLine) : (nestedKind P w).room A.in1 := by
  show A.units + 1 + 8 < cLine
  omega
section
variable {X : Cx} {pins : List (Addr × Obj)} {σ : St} {H : Hp} {s : Shared} {a b : Addr} {ys : List NE} {k : NestedKey} {v : V} {r : Value} {A : Around} {E : Value → Shared → Prop}
theorem raw_of (I : Inv X pins σ H s) (e : H a = some (NHO X.prog X.w a ys)) : RawN X.prog X.w a ys s.heap :=
  (show ObjOk X.prog X.w H s.heap a (.ext (RawN X.prog X.w a ys)) from I.hok a _ e).1
theorem raw_dict (I : Inv X pins σ H s) (e : H a = some (NHO X.prog X.w a ys)) (ks : NKeys H ys) : ∃ xs, PN3 ys xs ∧ s.heap.DictOfH (nestedKind X.prog X.w) a xs := by
  obtain ⟨z, y, xs, rel, o, es, ep, h1, h2, h3, h4, h5⟩ := raw_of I e
  refine ⟨xs, rel, o, es, ep, h1, h2, h3, h4, fun x hx => ?_, h5⟩
  have all : ∀ {l : List NE} {m : List (NestedKey × Addr × Value)}, PN3 l m → NKeys H l → ∀ x ∈ m, (nestedKind X.prog X.w).is s.heap x.1 x.2.1 := by
    intro l m q
    induction q with
    | nil => intro _ x hx; exact nomatch hx
    | @cons p q ps qs hq t ih =>
      intro nk x hx
      rcases List.mem_cons.mp hx with e | hx
      · subst e
        obtain ⟨k1, k2⟩ := nk p (List.mem_cons_self ..)
        rw [hq.1, hq.2.1] at k1
        rw [hq.1] at k2
        exact ⟨NkV.is I.hok k1 rfl, k2⟩
      · exact ih (fun z hz => nk z (List.mem_cons_of_mem _ hz)) x hx
  exact all rel ks x hx
theorem n_getItem {Q : Value → Shared → Prop} (hu : A.units + 9 < cLine) (I : Inv X pins σ H s) (e : H a = some (NHO X.prog X.w a ys)) (ks : NKeys H ys) (kb : NkV H (.ref b) k) (kd : k.depth ≤ 8) (l : atN ys k = some v)
    (h : ∀ w' s', Inv X pins σ H s' → RelV v w' → Q w' s') : wpAny (model X.prog X.w) A (getItem (.ref a) (.ref b)) Q E s := by
  obtain ⟨xs, rel, dd⟩ := raw_dict I e ks
  obtain ⟨w', hw, rw'⟩ := RelO.some_of (v := v) (o := (atKey xs k).map (·.2)) (by rw [← l]; exact rel.val k)
  obtain ⟨p, hp, hp2⟩ := Option.map_eq_some_iff.mp hw
  refine wpAny_getItem_heap (knd := nestedKind X.prog X.w) (room9 hu) ⟨NkV.is I.hok kb rfl, kd⟩ dd hp ?_
  rw [hp2]
  exact h w' _ (I.tok _) rw'
theorem n_in {Q : Value → Shared → Prop} (hu : A.units + 9 < cLine) (I : Inv X pins σ H s) (e : H a = some (NHO X.prog X.w a ys)) (ks : NKeys H ys) (kb : NkV H (.ref b) k) (kd : k.depth ≤ 8)
    (h : ∀ s', Inv X pins σ H s' → Q (.bool (atN ys k).isSome) s') : wpAny (model X.prog X.w) A (compareOp .In (.ref b) (.ref a)) Q E s := by
  obtain ⟨xs, rel, dd⟩ := raw_dict I e ks
  refine wpAny_in_heap (knd := nestedKind X.prog X.w) (room9 hu) ⟨NkV.is I.hok kb rfl, kd⟩ (raw_of I e).2.1 dd ?_
  have q := (rel.val k).isSome_eq
  rw [Option.isSome_map] at q
  rw [← q]
  exact h _ (I.tok _)
theorem n_notIn {Q : Value → Shared → Prop} (hu : A.units + 9 < cLine) (I : Inv X pins σ H s) (e : H a = some (NHO X.prog X.w a ys)) (ks : NKeys H ys) (kb : NkV H (.ref b) k) (kd : k.depth ≤ 8)
    (h : ∀ s', Inv X pins σ H s' → Q (.bool (!(atN ys k).isSome)) s') : wpAny (model X.prog X.w) A (compareOp .NotIn (.ref b) (.ref a)) Q E s := by
  obtain ⟨xs, rel, dd⟩ := raw_dict I e ks
  refine wpAny_notIn_heap (knd := nestedKind X.prog X.w) (room9 hu) ⟨NkV.is I.hok kb rfl, kd⟩ (raw_of I e).2.1 dd ?_
  have q := (rel.val k).isSome_eq
  rw [Option.isSome_map] at q
  rw [← q]
  exact h _ (I.tok _)
theorem n_ok {P : Program} {w : World} {H : Hp} {h : Heap} {ys : List NE} (r : RawN P w a ys h) : ObjOk P w H h a (NHO P w a ys) := by
  refine ⟨r, ?_, fun h1 h2 r1 k => ?_⟩
  · obtain ⟨_, _, _, _, o, _, _, h1, _⟩ := r; exact ⟨o, h1⟩
  · obtain ⟨z, y, xs, rel, o, es, ep, g1, g2⟩ := r1
    exact ⟨z, y, xs, rel, o, es, ep, k _ g1, g2⟩
theorem n_setItem {Q : Unit → Shared → Prop} (hu : A.units + 9 < cLine) (I : Inv X pins σ H s) (e : H a = some (NHO X.prog X.w a ys)) (ks : NKeys H ys) (kb : NkV H (.ref b) k) (kd : k.depth ≤ 8) (hl : ys.length < sizeLine) (rv : RelV v r)
    (h : ∀ s', Inv X pins σ (upd H a (NHO X.prog X.w a (putN ys k b v))) s' → Q () s') : wpAny (model X.prog X.w) A (setItem (.ref a) (.ref b) r) Q E s := by
  obtain ⟨xs, rel, dd⟩ := raw_dict I e ks
  obtain ⟨z, hd, _⟩ := raw_of I e
  have hz : xs.length ≤ sizeLine := by rw [← Paired.length rel]; exact z
  have hl' : (putN ys k b v).length ≤ sizeLine := by have := putN_len ys k b v; omega
  refine wpAny_setItem_heap (hsz := hz) (knd := nestedKind X.prog X.w) (room9 hu) ⟨NkV.is I.hok kb rfl, kd⟩ dd fun h' dd' hs => h _ ?_
  obtain ⟨q, es, ep, hq, h2, h3, h4, _, h5⟩ := dd'
  exact d_write I (by rw [e]; exact True.intro) hs ⟨q, hq⟩ (n_ok ⟨hl', hd, _, rel.put k rv, q, es, ep, hq, h2, h3, h4, h5⟩)
theorem n_typeIs (I : Inv X pins σ H s) (e : H a = some (NHO X.prog X.w a ys)) : s.TypeIs (.ref a) "dict" := by
  obtain ⟨_, _, xs, _, o, _, _, h1, h2, _⟩ := raw_of I e
  exact ⟨o, h1, h2.1⟩
end

/-! ### readings -/
def NAt (P : Program) (w : World) (H : Hp) (a b : Addr) (ys : List NE) (k : NestedKey) : Prop := H a = some (NHO P w a ys) ∧ NKeys H ys ∧ NkV H (.ref b) k ∧ k.depth ≤ 8
def tNGet (X : Cx) (td ty : TE) : TE := fun σ H Q => td σ H fun x H1 => ty σ H1 fun y H2 => ∃ a b ys k v, x = .ref a ∧ y = .ref b ∧ NAt X.prog X.w H2 a b ys k ∧ atN ys k = some v ∧ Q v H2
def tNIn (X : Cx) (ty td : TE) : TE := fun σ H Q => ty σ H fun y H1 => td σ H1 fun x H2 => ∃ a b ys k, x = .ref a ∧ y = .ref b ∧ NAt X.prog X.w H2 a b ys k ∧ Q (.bl (atN ys k).isSome) H2
def tNNotIn (X : Cx) (ty td : TE) : TE := fun σ H Q => ty σ H fun y H1 => td σ H1 fun x H2 => ∃ a b ys k, x = .ref a ∧ y = .ref b ∧ NAt X.prog X.w H2 a b ys k ∧ Q (.bl (!(atN ys k).isSome)) H2
def sNPut (X : Cx) (td ty tv : TE) : TS := fun D σ H => tv σ H fun v H1 => td σ H1 fun x H2 => ty σ H2 fun y H3 => ∃ a b ys k, x = .ref a ∧ y = .ref b ∧ NAt X.prog X.w H3 a b ys k ∧ ys.length < sizeLine ∧ D.nx σ (upd H3 a (NHO X.prog X.w a (putN ys k b v)))
def tDNewN (X : Cx) : TE := fun _ H Q => ∀ p, H p = none → Q (.ref p) (upd H p (NHO X.prog X.w p []))
section
variable {X : Cx} {o i e value : Expr} {pos pos' tpos : Pos} {td ty tv : TE}
theorem pe_nget (hu : X.A.units + 9 < cLine) (ho : PE X o td) (hi : PE X i ty) (hs : NoSl i) : PE X (.Subscript o i pos) (tNGet X td ty) := by
  refine ⟨fun pins s σ H Q I h => ?_⟩
  refine subD_of PySem.F.slot_dict_getitem.lookup hs (thn (ho.run pins s σ H _ I h) fun u s1 ⟨x, H1, I1, rx, q1⟩ => thn (hi.run pins s1 σ H1 _ I1 q1) fun iv s2 ⟨y, H2, I2, ry, a, b, ys, k, v, ex, ey, ⟨e, ks, kb, kd⟩, l, q2⟩ => ?_)
  subst ex ey
  obtain rfl : u = Value.ref a := rx
  obtain rfl : iv = Value.ref b := ry
  exact ⟨n_typeIs I2 e, n_getItem hu I2 e ks kb kd l fun w' s3 I3 rw' => ⟨v, H2, I3, rw', q2⟩⟩
theorem pc_nin (hu : X.A.units + 9 < cLine) (hi : PE X i ty) (ho : PE X o td) : PC X .In i o (tNIn X ty td) := by
  refine ⟨fun pins s σ H Q I h => ?_⟩
  refine thn (hi.run pins s σ H _ I h) fun iv s1 ⟨y, H1, I1, ry, q1⟩ => thn (ho.run pins s1 σ H1 _ I1 q1) fun u s2 ⟨x, H2, I2, rx, a, b, ys, k, ex, ey, ⟨e, ks, kb, kd⟩, q2⟩ => ?_
  subst ex ey
  obtain rfl : u = Value.ref a := rx
  obtain rfl : iv = Value.ref b := ry
  exact n_in hu I2 e ks kb kd fun s3 I3 => ⟨.bl _, H2, I3, rfl, q2⟩
theorem pc_nnotin (hu : X.A.units + 9 < cLine) (hi : PE X i ty) (ho : PE X o td) : PC X .NotIn i o (tNNotIn X ty td) := by
  refine ⟨fun pins s σ H Q I h => ?_⟩
  refine thn (hi.run pins s σ H _ I h) fun iv s1 ⟨y, H1, I1, ry, q1⟩ => thn (ho.run pins s1 σ H1 _ I1 q1) fun u s2 ⟨x, H2, I2, rx, a, b, ys, k, ex, ey, ⟨e, ks, kb, kd⟩, q2⟩ => ?_
  subst ex ey
  obtain rfl : u = Value.ref a := rx
  obtain rfl : iv = Value.ref b := ry
  exact n_notIn hu I2 e ks kb kd fun s3 I3 => ⟨.bl _, H2, I3, rfl, q2⟩
theorem ps_nput (hu : X.A.units + 9 < cLine) (ho : PE X o td) (hi : PE X i ty) (hv : PE X value tv) (hs : swapsWith value (some (.Subscript o i pos')) pos.line X.env = pure false) :
    PS X (.Assign [.Subscript o i pos'] value pos) (sNPut X td ty tv) := by
  refine ⟨fun pins s σ H D I h => ?_⟩
  refine wpAny_Assign_Subscript (thn (hv.run pins s σ H _ I h) fun r s1 ⟨v, H1, I1, rv, q1⟩ => thn (ho.run pins s1 σ H1 _ I1 q1) fun u s2 ⟨x, H2, I2, rx, q2⟩ => thn (hi.run pins s2 σ H2 _ I2 q2) fun iv s3 ⟨y, H3, I3, ry, a, b, ys, k, ex, ey, ⟨e, ks, kb, kd⟩, hl, q3⟩ => ?_) hs
  subst ex ey
  obtain rfl : u = Value.ref a := rx
  obtain rfl : iv = Value.ref b := ry
  exact n_setItem hu I3 e ks kb kd hl rv fun s4 I4 => ⟨σ, _, I4, q3⟩
theorem n_empty {P : Program} {w : World} {H : Hp} (h : Heap) (hb : sysModules < h.objs.size) : ObjOk P w H (h.push { cls := .type "dict", data := .dict #[] }) h.objs.size (NHO P w h.objs.size []) :=
  n_ok ⟨Nat.zero_le _, beq_eq_false_iff_ne.mpr (Ne.symm (Nat.ne_of_lt hb)), [], .nil, _, #[], 0, Heap.get?_push_size _ rfl, ⟨rfl, rfl, rfl⟩, rfl, rfl, List.nodup_nil⟩
theorem pe_dnewN : PE X (.Dict [] [] pos) (tDNewN X) := ⟨fun pins s σ H Q I h =>
  wpAny_Dict_empty ⟨.ref s.heap.objs.size, _, I.laid (a := s.heap.objs.size) (o := NHO X.prog X.w s.heap.objs.size []) (t' := s.toks) (fun _ _ q => Heap.get?_push_of_some _ q) (Nat.le_refl _) (n_empty s.heap I.big), rfl, h _ (I.hok.fresh (Nat.le_refl _))⟩⟩
end
end Pd
set_option Elab.async false
set_option linter.all false
set_option maxRecDepth 100000
set_option maxHeartbeats 4000000
/-! worlds of mutable objects -/
namespace Pd
open PySem PySem.Spec PyProof.Rows L2
open Evl (Ex)

inductive Cell where
  | lst (ds : List D)
  | ins (C : Addr) (fs : List (Str × D))
  | dk (ks : List (Key × D))
  | dt (ks : List (List Key × D))
  | dtF (ks : List (List Key × D))
  | nk (ks : List (NestedKey × D))
abbrev Bag := Addr → Option Cell
def CellOk (K : PySem.W.Frag) (P : Program) (wo : World) (H0 H : Hp) (a : Addr) : Cell → Prop
  | .lst ds => ∃ vs, H a = some (.lst vs) ∧ RpL K H0 vs ds
  | .ins C fs => ∃ dx gs, H a = some (.ins C dx gs) ∧ gs.map (·.1) = fs.map (·.1) ∧ RpL K H0 (gs.map (·.2)) (fs.map (·.2))
  | .dk ks => ∃ gs, H a = some (.dK gs) ∧ gs.map (·.1) = ks.map (·.1) ∧ RpL K H0 (gs.map (·.2)) (ks.map (·.2))
  | .dt ks => ∃ gs, H a = some (.dT gs) ∧ gs.map (·.1) = ks.map (·.1) ∧ RpL K H0 (gs.map (·.2)) (ks.map (·.2))
  | .dtF ks => ∃ o gs, H a = some (.frz o (.dT gs)) ∧ gs.map (·.1) = ks.map (·.1) ∧ RpL K H0 (gs.map (·.2)) (ks.map (·.2))
  | .nk ks => ∃ ys, H a = some (NHO P wo a ys) ∧ NKeys H0 ys ∧ ys.map (·.1) = ks.map (·.1) ∧ RpL K H0 (ys.map (·.2.2)) (ks.map (·.2))
section
variable {K : PySem.W.Frag} {P : Program} {wo : World} {H0 H H0' H' : Hp} {a : Addr} {k : Cell}
theorem NKeys.ex {ys : List NE} (e : Ex H0 H0') (n : NKeys H0 ys) : NKeys H0' ys := fun y hy => ⟨(n y hy).1.ex e, (n y hy).2⟩
theorem CellOk.ex (x : CellOk K P wo H0 H a k) (e : Ex H0 H0') (h : H' a = H a) : CellOk K P wo H0' H' a k := by
  cases k with
  | lst ds => obtain ⟨vs, h1, h2⟩ := x; exact ⟨vs, h.trans h1, h2.ex e⟩
  | ins C fs => obtain ⟨dx, gs, h1, h2, h3⟩ := x; exact ⟨dx, gs, h.trans h1, h2, h3.ex e⟩
  | dk ks => obtain ⟨gs, h1, h2, h3⟩ := x; exact ⟨gs, h.trans h1, h2, h3.ex e⟩
  | dt ks => obtain ⟨gs, h1, h2, h3⟩ := x; exact ⟨gs, h.trans h1, h2, h3.ex e⟩
  | dtF ks => obtain ⟨o, gs, h1, h2, h3⟩ := x; exact ⟨o, gs, h.trans h1, h2, h3.ex e⟩
  | nk ks => obtain ⟨ys, h1, h4, h2, h3⟩ := x; exact ⟨ys, h.trans h1, h4.ex e, h2, h3.ex e⟩
theorem CellOk.solid (x : CellOk K P wo H0 H a k) : Solid H a := by
  cases k with
  | lst ds => obtain ⟨vs, h1, _⟩ := x; exact .of h1 fun _ z => nomatch z
  | ins C fs => obtain ⟨dx, gs, h1, _⟩ := x; exact .of h1 fun _ z => nomatch z
  | dk ks => obtain ⟨gs, h1, _⟩ := x; exact .of h1 fun _ z => nomatch z
  | dt ks => obtain ⟨gs, h1, _⟩ := x; exact .of h1 fun _ z => nomatch z
  | dtF ks => obtain ⟨o, gs, h1, _⟩ := x; exact .of h1 fun _ z => nomatch z
  | nk ks => obtain ⟨ys, h1, _⟩ := x; exact .of h1 fun xs z => by unfold NHO at z; exact nomatch z
end
/-- the bag's cells, beside F -/
def bagW (K : PySem.W.Frag) (P : Program) (wo : World) (B : Bag) (F : Wd) : Wd where
  p := fun c H0 H => ∃ c2 : Addr → Prop, (∀ a, c a ↔ (B a ≠ none ∨ c2 a)) ∧ (∀ a, B a ≠ none → ¬ c2 a) ∧ F.p c2 H0 H ∧ ∀ a k, B a = some k → H0 a = none ∧ CellOk K P wo H0 H a k
  live := fun {c H0 H a} ⟨c2, h1, h2, h3, h4⟩ hc => by
    rcases (h1 a).mp hc with z | z
    · cases g : B a with
      | none => exact absurd g z
      | some k => exact ⟨(h4 a k g).2.solid, (h4 a k g).1⟩
    · exact F.live h3 z
  stable := fun {c H0 H H0' H'} ⟨c2, h1, h2, h3, h4⟩ e k z n => by
    refine ⟨c2, h1, h2, F.stable h3 e (fun a q => k a ((h1 a).mpr (.inr q))) (fun a q => z a ((h1 a).mpr (.inr q))) n, fun a kk g => ?_⟩
    have hc : c a := (h1 a).mpr (.inl (by rw [g]; exact fun z => nomatch z))
    exact ⟨z a hc, (h4 a kk g).2.ex e (k a hc)⟩
abbrev Bg (X : Cx) (B : Bag) (F : Wd) : Wd := bagW X.K X.prog X.w B F
def setB (B : Bag) (a : Addr) (k : Cell) : Bag := fun b => if b = a then some k else B b
theorem setB_same {B : Bag} {a : Addr} {k : Cell} : setB B a k a = some k := if_pos rfl
theorem setB_ne {B : Bag} {a b : Addr} {k : Cell} (h : b ≠ a) : setB B a k b = B b := if_neg h
section
variable {K : PySem.W.Frag} {P : Program} {wo : World} {c : Addr → Prop} {H0 H : Hp} {B : Bag} {F : Wd} {a p : Addr} {k k' : Cell} {o : HO}
/-- a cell's object is changed -/
theorem bag_put (h : (bagW K P wo B F).p c H0 H) (e : B a = some k) (n : CellOk K P wo H0 (upd H a o) a k') : (bagW K P wo (setB B a k') F).p c H0 (upd H a o) := by
  obtain ⟨c2, h1, h2, h3, h4⟩ := h
  have hB : ∀ b, setB B a k' b ≠ none ↔ B b ≠ none := fun b => by
    by_cases q : b = a
    · subst q; rw [setB_same, e]; exact ⟨fun _ z => (nomatch z), fun _ z => (nomatch z)⟩
    · rw [setB_ne q]
  refine ⟨c2, fun b => by rw [hB b]; exact h1 b, fun b hb => h2 b ((hB b).mp hb), F.stable h3 (Ex.refl _) (fun b hb => upd_ne fun z => ?_) (fun b hb => (F.live h3 hb).2) upd_alive, fun b kk g => ?_⟩
  · subst z; exact h2 b (by rw [e]; exact fun z => nomatch z) hb
  · by_cases q : b = a
    · subst q; rw [setB_same] at g; cases g; exact ⟨(h4 b k e).1, n⟩
    · rw [setB_ne q] at g
      exact ⟨(h4 b kk g).1, (h4 b kk g).2.ex (Ex.refl _) (upd_ne q)⟩
/-- a cell more -/
theorem bag_new (h : (bagW K P wo B F).p c H0 H) (h0 : H0 p = none) (nc : ¬ c p) (n : CellOk K P wo H0 H p k) : B p = none ∧ (bagW K P wo (setB B p k) F).p (fun a => c a ∨ a = p) H0 H := by
  obtain ⟨c2, h1, h2, h3, h4⟩ := h
  have hp : B p = none := by
    cases g : B p with
    | none => rfl
    | some kk => exact absurd ((h1 p).mpr (.inl (by rw [g]; exact fun z => nomatch z))) nc
  refine ⟨hp, c2, fun b => ?_, fun b hb hc => ?_, h3, fun b kk g => ?_⟩
  · by_cases q : b = p
    · subst q; rw [setB_same]; exact ⟨fun _ => .inl fun z => (nomatch z), fun _ => .inr rfl⟩
    · rw [setB_ne q]
      exact ⟨fun z => (h1 b).mp (z.resolve_right q), fun z => .inl ((h1 b).mpr z)⟩
  · by_cases q : b = p
    · subst q; exact nc ((h1 b).mpr (.inr hc))
    · rw [setB_ne q] at hb; exact h2 b hb hc
  · by_cases q : b = p
    · subst q; rw [setB_same] at g; cases g; exact ⟨h0, n⟩
    · rw [setB_ne q] at g; exact h4 b kk g
theorem bag_c (h : (bagW K P wo B F).p c H0 H) (e : B a = some k) : c a ∧ H0 a = none ∧ CellOk K P wo H0 H a k := by
  obtain ⟨c2, h1, h2, h3, h4⟩ := h
  exact ⟨(h1 a).mpr (.inl (by rw [e]; exact fun z => nomatch z)), h4 a k e⟩
/-- an object of the world is written -/
theorem Stp.write (e : Ex H0 H) (hc : c a) (h0 : H0 a = none) (ht : ∀ xs, o ≠ .tup xs) : Stp c H0 H c H0 (upd H a o) where
  e0 := Ex.refl _
  ex := fun b u h => by
    have q : b ≠ a := fun z => by subst z; rw [h0] at h; cases h
    rw [upd_ne q]; exact e _ _ h
  e := fun b u h n => by
    have q : b ≠ a := fun z => n (z ▸ hc)
    rw [upd_ne q]; exact h
  f := fun _ h _ => h
  g := fun _ h => .inl h
  h := upd_alive
  hs := fun b n => by
    by_cases q : b = a
    · subst q; exact .of upd_same ht
    · unfold Solid; rw [upd_ne q]; exact n
/-- what is new comes into the world -/
theorem Stp.grow {c' : Addr → Prop} {H0' H' : Hp} (s : Stp c H0 H c' H0' H') (hn : H p = none) : Stp c H0 H (fun a => c' a ∨ a = p) H0' H' :=
  ⟨s.e0, s.ex, s.e, s.f, fun a z => z.elim (s.g a) fun z => .inr (by rw [z]; exact hn), s.h, s.hs⟩
/-- nothing is a bag without a cell -/
theorem Wd.bag0 (h : F.p c H0 H) : (bagW K P wo (fun _ => none) F).p c H0 H :=
  ⟨c, fun a => ⟨fun z => .inr z, fun z => z.elim (fun q => absurd rfl q) fun q => q⟩, fun a z => absurd rfl z, h, fun a k e => nomatch e⟩
end
/-- from one world to a weaker -/
def Wd.le (w w' : Wd) : Prop := ∀ {c : Addr → Prop} {H0 H : Hp}, w.p c H0 H → w'.p c H0 H

section
variable {X : Cx} {e a b o i : Expr} {es : List Expr} {w w' : Wd} {ls : List L} {R : D → Wd → Prop} {pos p : Pos} {N : List L → Wd → Prop} {st : Stmt} {sts : List Stmt} {x m : Str} {F : Wd} {B : Bag}
theorem pv_le (l : w.le w') (h : PV X e w' ls R) : PV X e w ls R := PE.mono h fun σ H Q ⟨c, H0, r, q⟩ => ⟨c, H0, r.same (l r.wd), q⟩
theorem sv_le (l : w.le w') (h : SV X st w' ls N R) : SV X st w ls N R := PS.mono h fun Dn σ H ⟨E, c, H0, r, s, o, q1, q2⟩ => ⟨E, c, H0, r.same (l r.wd), s, o, q1, q2⟩
theorem ss_le (l : w.le w') (h : SVs X sts w' ls N R) : SVs X sts w ls N R := PSs.mono h fun Dn σ H ⟨E, c, H0, r, s, o, q1, q2⟩ => ⟨E, c, H0, r.same (l r.wd), s, o, q1, q2⟩
theorem ss_bag0 (h : SVs X sts (Bg X (fun _ => none) w) ls N R) : SVs X sts w ls N R := ss_le (fun z => Wd.bag0 z) h

/-! ### what is new as a cell -/
theorem pv_cellL (h : PN X e w ls fun ds w1 => ∃ B F, w1 = Bg X B F ∧ ∀ p, B p = none → R (.raw (.ref p)) (Bg X (setB B p (.lst ds)) F)) : PV X e w ls R :=
  PE.mono h fun σ H Q ⟨c, H0, r, q⟩ => ⟨c, H0, r, fun p vs ds w1 c1 H01 H1 s pw hn h0 nc h1 rp ⟨B, F, ew, k⟩ => by
    subst ew
    obtain ⟨hB, hw⟩ := bag_new (k := .lst ds) pw h0 nc ⟨vs, h1, rp⟩
    exact q _ _ _ _ _ _ (s.grow hn) hw (.raw _) (k p hB)⟩
theorem stp_newC {c : Addr → Prop} {H0 H : Hp} {p : Addr} {o : HO} (e : Ex H0 H) (hp : H p = none) : Stp c H0 H (fun a => c a ∨ a = p) H0 (upd H p o) := (Stp.newO e hp).grow hp
theorem pv_cellK {dp : Pos} (h : ∀ p, B p = none → R (.raw (.ref p)) (Bg X (setB B p (.dk [])) F)) : PV X (.Dict [] [] dp) (Bg X B F) ls R :=
  PE.mono pe_dnewK fun σ H Q ⟨c, H0, r, q⟩ => fun n hn => by
    have hw := Wd.newO (o := .dK []) r.wd hn
    obtain ⟨hB, hw'⟩ := bag_new (p := n) (k := .dk []) hw (none_of_ex r.ex hn) (fun z => ((Bg X B F).live r.wd z).1.1 hn) ⟨[], upd_same, rfl, .nil⟩
    exact q _ _ _ _ _ _ (stp_newC r.ex hn) hw' (.raw _) (h n hB)
theorem pv_cellT {dp : Pos} (h : ∀ p, B p = none → R (.raw (.ref p)) (Bg X (setB B p (.dt [])) F)) : PV X (.Dict [] [] dp) (Bg X B F) ls R :=
  PE.mono pe_dnewT fun σ H Q ⟨c, H0, r, q⟩ => fun n hn => by
    have hw := Wd.newO (o := .dT []) r.wd hn
    obtain ⟨hB, hw'⟩ := bag_new (p := n) (k := .dt []) hw (none_of_ex r.ex hn) (fun z => ((Bg X B F).live r.wd z).1.1 hn) ⟨[], upd_same, rfl, .nil⟩
    exact q _ _ _ _ _ _ (stp_newC r.ex hn) hw' (.raw _) (h n hB)
theorem pv_cellN {dp : Pos} (h : ∀ p, B p = none → R (.raw (.ref p)) (Bg X (setB B p (.nk [])) F)) : PV X (.Dict [] [] dp) (Bg X B F) ls R :=
  PE.mono pe_dnewN fun σ H Q ⟨c, H0, r, q⟩ => fun n hn => by
    have hw := Wd.newO (o := NHO X.prog X.w n []) r.wd hn
    obtain ⟨hB, hw'⟩ := bag_new (p := n) (k := .nk []) hw (none_of_ex r.ex hn) (fun z => ((Bg X B F).live r.wd z).1.1 hn) ⟨[], upd_same, fun _ z => (nomatch z), rfl, .nil⟩
    exact q _ _ _ _ _ _ (stp_newC r.ex hn) hw' (.raw _) (h n hB)
end
end Pd
set_option Elab.async false
set_option linter.all false
set_option maxRecDepth 100000
set_option maxHeartbeats 4000000
/-! cells that are read and written -/
namespace Pd
open PySem PySem.Spec PyProof.Rows L2
open Evl (Ex)
section
variable {X : Cx} {e a b o i tg iter : Expr} {es : List Expr} {w : Wd} {ls : List L} {R : D → Wd → Prop} {pos p : Pos} {x y m : Str} {st : Stmt} {rest body : List Stmt} {N : List L → Wd → Prop} {js : Nat → Prop} {F : Wd} {B : Bag} {k k' : Cell} {ho : HO} {c : Addr → Prop} {H0 H : Hp} {σ : St} {ad : Addr}
theorem bag_write (r : Rel X.K c (Bg X B F) H0 σ H ls) (e1 : B ad = some k) (ht : ∀ xs, ho ≠ .tup xs) (n : CellOk X.K X.prog X.w H0 (upd H ad ho) ad k') : Rel X.K c (Bg X (setB B ad k') F) H0 σ (upd H ad ho) ls ∧ Stp c H0 H c H0 (upd H ad ho) := by
  obtain ⟨hc, h0, _⟩ := bag_c r.wd e1
  have s : Stp c H0 H c H0 (upd H ad ho) := Stp.write r.ex hc h0 ht
  exact ⟨r.step s (bag_put r.wd e1 n), s⟩
/-- self.f -/
theorem pv_fldW (h : PV X a w ls fun x w1 => ∃ ad B F C fs d, x = .raw (.ref ad) ∧ w1 = Bg X B F ∧ B ad = some (.ins C fs) ∧ Cls X.K C ∧ NoAttr X.K C m ∧ fs.lookup m = some d ∧ R d w1) (hb : attributeBase a m X.env (eval a X.env) = eval a X.env := by rfl) : PV X (.Attribute a m pos) w ls R :=
  PE.mono (pe_fld h hb) fun σ H Q ⟨c, H0, r, q⟩ => ⟨c, H0, r, fun v x w1 c1 H01 H1 s1 p1 rx ⟨ad, B, F, C, fs, d, e1, ew, eB, hC, hA, hl, z⟩ => by
    subst e1 ew
    rw [rx.raw_inv]
    obtain ⟨_, _, dx, gs, g1, g2, g3⟩ := bag_c p1 eB
    obtain ⟨u, f1, f2⟩ := lookup_rpl g2 g3 hl
    exact ⟨_, C, _, _, u, rfl, g1, hC, hA, f1, q u d _ c1 H01 H1 s1 p1 f2 z⟩⟩
def putFD (f : Str) (v : D) : List (Str × D) → List (Str × D)
  | [] => [(f, v)]
  | (g, x) :: r => if g = f then (g, v) :: r else (g, x) :: putFD f v r
theorem rpl_putF {K : PySem.W.Frag} {H : Hp} (f : Str) {v : V} {d : D} (hv : Rp K H v d) : ∀ {gs : List (Str × V)} {fs : List (Str × D)}, gs.map (·.1) = fs.map (·.1) → RpL K H (gs.map (·.2)) (fs.map (·.2)) →
    (putF f v gs).map (·.1) = (putFD f d fs).map (·.1) ∧ RpL K H ((putF f v gs).map (·.2)) ((putFD f d fs).map (·.2))
  | [], [], _, _ => ⟨rfl, .cons hv .nil⟩
  | [], _ :: _, e, _ => by simp at e
  | _ :: _, [], e, _ => by simp at e
  | (g1, v1) :: r1, (g2, d2) :: r2, e, h => by
    rw [List.map_cons, List.map_cons] at e
    injection e with e1 e2
    have e1' : g1 = g2 := e1
    subst e1'
    have hh : RpL K H (v1 :: r1.map (·.2)) (d2 :: r2.map (·.2)) := h
    cases hh with
    | cons q1 q2 =>
      show ((if g1 = f then (g1, v) :: r1 else (g1, v1) :: putF f v r1).map (·.1)) = ((if g1 = f then (g1, d) :: r2 else (g1, d2) :: putFD f d r2).map (·.1)) ∧
        RpL K H ((if g1 = f then (g1, v) :: r1 else (g1, v1) :: putF f v r1).map (·.2)) ((if g1 = f then (g1, d) :: r2 else (g1, d2) :: putFD f d r2).map (·.2))
      by_cases z : g1 = f
      · rw [if_pos z, if_pos z]
        exact ⟨by rw [List.map_cons, List.map_cons, e2], .cons hv q2⟩
      · rw [if_neg z, if_neg z]
        obtain ⟨i1, i2⟩ := rpl_putF f hv e2 q2
        exact ⟨by rw [List.map_cons, List.map_cons, i1], .cons q1 i2⟩
/-- self.f = e -/
theorem s_setF {ap : Pos} (h : PV X e w ls fun d w1 => PV X a w1 ls fun x w2 => ∃ ad B F C fs, x = .raw (.ref ad) ∧ w2 = Bg X B F ∧ B ad = some (.ins C fs) ∧ Cls X.K C ∧ NoAttr X.K C m ∧ fs.length < 1000 ∧ N ls (Bg X (setB B ad (.ins C (putFD m d fs))) F))
    (hs : swapsWith e (some (.Attribute a m ap)) pos.line X.env = pure false := by rfl) : SV X (.Assign [.Attribute a m ap] e pos) w ls N R :=
  PS.mono (ps_fld (pe_any (e := a)) h hs) fun Dn σ H ⟨E, c, H0, r, s, o, q1, q2⟩ => ⟨c, H0, r, fun v d w1 c1 H01 H1 s1 p1 rv hb => ⟨_, hb, c1, H01, r.step s1 p1, fun u x w2 c2 H02 H2 s2 p2 rx ⟨ad, B, F, C, fs, e1, ew, eB, hC, hA, hl, z⟩ => by
    subst e1 ew
    rw [rx.raw_inv]
    obtain ⟨_, _, dx, gs, g1, g2, g3⟩ := bag_c p2 eB
    have hl' : gs.length < 1000 := by
      have := congrArg List.length g2
      rw [List.length_map, List.length_map] at this
      omega
    obtain ⟨k1, k2⟩ := rpl_putF m (rv.ex s2.e0) g2 g3
    obtain ⟨r', s'⟩ := bag_write (k' := .ins C (putFD m d fs)) ((r.step s1 p1).step s2 p2) eB (ho := .ins C dx (putF m v gs)) (fun _ z => nomatch z) ⟨dx, _, upd_same, k1, k2⟩
    exact ⟨ad, C, dx, gs, rfl, g1, hC, hA, hl', q1 _ _ c2 H02 σ _ r' (((s.trans s1).trans s2).trans s') o z⟩⟩⟩
/-- o.append(e), o a cell -/
theorem s_appendW {apos : Pos} (h : PV X o w ls fun x w1 => ∃ ad B1 F1 ds1, x = .raw (.ref ad) ∧ w1 = Bg X B1 F1 ∧ B1 ad = some (.lst ds1) ∧ PV X e w1 ls fun d w2 => ∃ B F ds, w2 = Bg X B F ∧ B ad = some (.lst ds) ∧ ds.length < 100000 ∧ N ls (Bg X (setB B ad (.lst (ds ++ [d]))) F))
    (hpe : ∀ {to te : TE}, PE X o to → PE X e te → PS X (.Expr (.Call (.Attribute o "append" apos) [e] [] p) pos) (tDrop (tBM X.K "list" rAppend to (tCons te tNil))) := by
      intro to te h1 h2; exact ps_expr (pe_bm PySem.F.plainAttrs_list PySem.F.slot_list_append PySem.F.type_list_append mt_append h1 (pa_cons h2 pa_nil))) :
    SV X (.Expr (.Call (.Attribute o "append" apos) [e] [] p) pos) w ls N R :=
  PS.mono (hpe h (pe_any (e := e))) fun Dn σ H ⟨E, c, H0, r, s, ow, q1, q2⟩ => ⟨c, H0, r, fun v x w1 c1 H01 H1 s1 p1 rx ⟨ad, B1, F1, ds1, e1, ew, eB, hb⟩ => by
    subst e1 ew
    rw [rx.raw_inv]
    obtain ⟨_, _, vs1, g1, _⟩ := bag_c p1 eB
    refine ⟨.inl ⟨rfl, vs1, .inl (.inl g1)⟩, _, hb, c1, H01, r.step s1 p1, fun u d w2 c2 H02 H2 s2 p2 rd ⟨B, F, ds, ew, eB2, hl, z⟩ => ?_⟩
    subst ew
    obtain ⟨_, _, vs, g2, g3⟩ := bag_c p2 eB2
    obtain ⟨r', s'⟩ := bag_write (k' := .lst (ds ++ [d])) ((r.step s1 p1).step s2 p2) eB2 (ho := .lst (vs ++ [u])) (fun _ z => nomatch z) ⟨_, upd_same, g3.append (.cons rd .nil)⟩
    exact ⟨ad, vs, u, rfl, rfl, g2, by rw [g3.length]; exact Evl.sz_lt hl, q1 _ _ c2 H02 σ _ r' (((s.trans s1).trans s2).trans s') ow z⟩⟩
/-- xs.extend(ys), xs owned, ys a cell -/
theorem s_extendW (j : Nat) {ds : List D} {apos : Pos} {xp : Pos} (hl : ls[j]? = some (.own ds)) (h : PV X e w ls fun d w' => ∃ ad B F es, d = .raw (.ref ad) ∧ w' = Bg X B F ∧ B ad = some (.lst es) ∧ ds.length + es.length ≤ 100000 ∧ N (ls.set j (.own (ds ++ es))) w') (hN : X.N[j]? = some x := by rfl) (hv : Vis X.env.scope x := by first | exact Or.inl rfl | exact Or.inr (Or.inl rfl) | exact Or.inr (Or.inr rfl))
    (hd : (x == ("__debug__" : Str)) = false := by decide) (hcd : (x == ("__classdict__" : Str)) = false := by decide)
    (hpe : ∀ {to te : TE}, PE X (.Name x xp) to → PE X e te → PS X (.Expr (.Call (.Attribute (.Name x xp) "extend" apos) [e] [] p) pos) (tDrop (tBM X.K "list" rExtend to (tCons te tNil))) := by
      intro to te h1 h2; exact ps_expr (pe_bm PySem.F.plainAttrs_list PySem.F.slot_list_extend PySem.F.type_list_extend mt_extend h1 (pa_cons h2 pa_nil))) :
    SV X (.Expr (.Call (.Attribute (.Name x xp) "extend" apos) [e] [] p) pos) w ls N R :=
  PS.mono (hpe (pe_var (i := j) hN hv hd hcd) h) fun Dn σ H ⟨E, c, H0, r, s, o, q1, q2⟩ => by
    obtain ⟨p', vs, e1, f0, f1, f2⟩ := r.at_ j _ hl
    refine ⟨.ref p', e1, .inl ⟨rfl, vs, .inl (.inl f1)⟩, c, H0, r, fun u d w' c' H0' H' s2 pw rp ⟨ad, B, F, es2, e2, ew, eB, hlen, z⟩ => ?_⟩
    subst e2 ew
    rw [rp.raw_inv]
    obtain ⟨_, _, us, g5, g6⟩ := bag_c pw eB
    have nc := r.out j _ p' hl trivial e1
    have g1 := s2.e _ _ f1 nc
    have g0 := s2.f p' f0 (.of f1 fun _ z => nomatch z)
    refine ⟨p', ad, vs, us, rfl, rfl, g1, g5, by rw [f2.length, g6.length]; exact Evl.sz_of hlen, ?_⟩
    exact q1 _ _ c' H0' σ _ ((r.step s2 pw).put (l' := .own (ds ++ es2)) hl trivial e1 g0 ⟨p', vs ++ us, rfl, g0, upd_same, (f2.ex s2.e0).append g6⟩) ((s.trans s2).put (o j _ p' hl trivial e1) g0) (o.put hl trivial e1) z
/-- len of a cell -/
theorem pv_lenW (hm : X.mg "len" = none) (h : PV X e w ls fun d w1 => ∃ ad B F ds, d = .raw (.ref ad) ∧ w1 = Bg X B F ∧ B ad = some (.lst ds) ∧ R (.int ds.length) w1) (hg : Gl X "len" := by rfl)
    (he : starEach [e] X.env = (false, eval e X.env) :: starEach [] X.env := by rfl) (hpl : (backTo pos (starEach [] X.env)).any (·.1) = false := by rfl) : PV X (.Call (.Name "len" p) [e] [] pos) w ls R :=
  PE.mono (pe_callB call_len_seq hg hm PySem.boot_len (pa_cons h pa_nil he) (by decide) (by decide) he hpl) fun σ H Q ⟨c, H0, r, q⟩ => ⟨c, H0, r, fun v d w' c' H0' H' s pw rp ⟨ad, B, F, ds, e1, ew, eB, z⟩ => by
    subst e1 ew
    rw [rp.raw_inv]
    obtain ⟨_, _, vs, g1, g2⟩ := bag_c pw eB
    exact ⟨ad, vs, rfl, .inl (.inl (.inl g1)), by rw [g2.length]; exact q _ _ _ c' H0' H' s pw (.int _) z⟩⟩
/-- cell[i] -/
theorem pv_ixW (h : PV X a w ls fun x w1 => PV X b w1 ls fun y w2 => ∃ ad B F ds i d, x = .raw (.ref ad) ∧ w2 = Bg X B F ∧ B ad = some (.lst ds) ∧ y = .int i ∧ atI ds i = some d ∧ R d w2) (hs : PlainIx b := by exact fun _ _ => rfl) : PV X (.Subscript a b pos) w ls R := by
  refine PE.mono (pe_ix ix_list h (pe_any (e := b)) hs) fun σ H Q ⟨c, H0, r0, q⟩ => ?_
  refine ⟨c, H0, r0, fun u x w1 c1 H01 H1 s1 p1 rx hb => ⟨_, hb, c1, H01, r0.step s1 p1, fun u2 y w2 c2 H02 H2 s2 p2 ry ⟨ad, B, F, ds, i, d, e1, ew, eB, ey, e2, z⟩ => ?_⟩⟩
  subst e1 ew ey
  obtain ⟨_, _, vs, g1, hr⟩ := bag_c p2 eB
  obtain ⟨v, f1, f2⟩ := atI_rpl hr e2
  rw [rx.raw_inv, ry.int_inv]
  exact ⟨ad, vs, i, v, rfl, rfl, .inl (.inl g1), f1, q v d _ c2 H02 H2 (s1.trans s2) p2 f2 z⟩
end
end Pd
set_option Elab.async false
set_option linter.all false
set_option maxRecDepth 100000
set_option maxHeartbeats 4000000
/-! dict cells -/
namespace Pd
open PySem PySem.Spec PyProof.Rows L2
open Evl (Ex)
/-! nested keys as data -/
mutual
inductive NkD : D → NestedKey → Prop
  | int (i : Int) : NkD (.int i) (.num i)
  | str (x : Str) : NkD (.str x) (.text x)
  | tup {ds : List D} {ks : List NestedKey} : NkDs ds ks → NkD (.tup ds) (.tup ks)
  | ftup {ds : List D} {ks : List NestedKey} : NkDs ds ks → NkD (.ftup ds) (.tup ks)
inductive NkDs : List D → List NestedKey → Prop
  | nil : NkDs [] []
  | cons {d : D} {ds : List D} {k : NestedKey} {ks : List NestedKey} : NkD d k → NkDs ds ks → NkDs (d :: ds) (k :: ks)
end
section
variable {K : PySem.W.Frag} {H : Hp}
mutual
theorem NkD.v : ∀ {d : D} {k : NestedKey} {v : V}, NkD d k → Rp K H v d → NkV H v k
  | _, _, _, .int i, r => by rw [r.int_inv]; exact .int i
  | _, _, _, .str x, r => by rw [r.str_inv]; exact .str x
  | _, _, _, .tup q, r => by
    cases r with
    | tup h1 h2 => exact .tup h1 (NkDs.v q h2)
  | _, _, _, .ftup q, r => by
    cases r with
    | ftup h1 _ _ h2 => exact .ftup h1 (NkDs.v q h2)
theorem NkDs.v : ∀ {ds : List D} {ks : List NestedKey} {vs : List V}, NkDs ds ks → RpL K H vs ds → NkL H vs ks
  | _, _, _, .nil, r => by cases r; exact .nil
  | _, _, _, .cons a q, r => by
    cases r with
    | cons r1 r2 => exact .cons (NkD.v a r1) (NkDs.v q r2)
end
theorem NkD.tup_ref {d : D} {ks : List NestedKey} {v : V} (n : NkD d (.tup ks)) (r : Rp K H v d) : ∃ b, v = .ref b := by
  cases n with
  | tup q =>
    cases r with
    | tup h1 h2 => exact ⟨_, rfl⟩
  | ftup q =>
    cases r with
    | ftup h1 _ _ h2 => exact ⟨_, rfl⟩
end
theorem atN_kvs (ys : List NE) (k : NestedKey) : atN ys k = valV (ys.map fun y => (y.1, y.2.2)) k := by
  induction ys with
  | nil => rfl
  | cons y r ih =>
    by_cases e : y.1 = k
    · have c : atN (y :: r) k = some y.2.2 := by simp [atN, List.find?_cons, e]
      rw [c, List.map_cons, valV_pos (p := (y.1, y.2.2)) e]
    · have c : atN (y :: r) k = atN r k := by simp [atN, List.find?_cons, e]
      rw [c, List.map_cons, valV_neg (p := (y.1, y.2.2)) e, ih]
theorem putN_kvs (ys : List NE) (k : NestedKey) (b : Addr) (v : V) : (putN ys k b v).map (fun y => (y.1, y.2.2)) = putK (ys.map fun y => (y.1, y.2.2)) k v := by
  unfold putN putK
  rw [show ((ys.map fun y : NE => (y.1, y.2.2)).any fun kv => decide (kv.1 = k)) = (atN ys k).isSome from by rw [valV_any, atN_kvs]]
  by_cases q : (atN ys k).isSome = true
  · rw [if_pos q, if_pos q, List.map_map, List.map_map]
    apply List.map_congr_left
    intro y _
    show (fun z : NE => (z.1, z.2.2)) (if y.1 = k then (y.1, y.2.1, v) else y) = (if y.1 = k then (y.1, v) else (y.1, y.2.2))
    by_cases z : y.1 = k
    · rw [if_pos z, if_pos z]
    · rw [if_neg z, if_neg z]
  · rw [if_neg q, if_neg q, List.map_append]; rfl
theorem nkeys_put {H : Hp} {ys : List NE} {k : NestedKey} {b : Addr} {v : V} (n : NKeys H ys) (kb : NkV H (.ref b) k) (kd : k.depth ≤ 8) : NKeys H (putN ys k b v) := by
  intro y hy
  unfold putN at hy
  split at hy
  · obtain ⟨z, hz, e⟩ := List.mem_map.mp hy
    by_cases q : z.1 = k
    · rw [if_pos q] at e; subst e; exact n z hz
    · rw [if_neg q] at e; subst e; exact n z hz
  · rcases List.mem_append.mp hy with h | h
    · exact n y h
    · rw [List.mem_singleton] at h; subst h; exact ⟨kb, kd⟩

section
variable {X : Cx} {e a b o i tg iter : Expr} {es : List Expr} {w : Wd} {ls : List L} {R : D → Wd → Prop} {pos p : Pos} {x y m : Str} {st : Stmt} {rest body : List Stmt} {N : List L → Wd → Prop} {js : Nat → Prop}
/-! text and int keys -/
theorem pv_getKW (hu : X.A.units + 1 < cLine) (h : PV X a w ls fun x w1 => PV X b w1 ls fun y w2 => ∃ ad B F ks k d, x = .raw (.ref ad) ∧ w2 = Bg X B F ∧ B ad = some (.dk ks) ∧ y = kD k ∧ valD ks k = some d ∧ R d w2) (hs : NoSl b := by exact fun _ _ => rfl) : PV X (.Subscript a b pos) w ls R := by
  refine PE.mono (pe_dget hu h (pe_any (e := b)) hs) fun σ H Q ⟨c, H0, r0, q⟩ => ?_
  refine ⟨c, H0, r0, fun v x w1 c1 H01 H1 s1 p1 rx hb => ⟨_, hb, c1, H01, r0.step s1 p1, fun u y w2 c2 H02 H2 s2 p2 ry ⟨ad, B, F, ks, k, d, e0, ew, eB, e1, e2, z⟩ => ?_⟩⟩
  subst e0 ew e1
  obtain ⟨_, _, gs, g1, g2, g3⟩ := bag_c p2 eB
  rcases rpl_val k g2 g3 with ⟨_, f⟩ | ⟨v', d', f1, f2, f3⟩
  · rw [f] at e2; cases e2
  · rw [e2] at f2; cases f2
    rw [rx.raw_inv]
    refine ⟨ad, v', rfl, .inl ⟨gs, k, .inl g1, rp_kD ry, f1.symm⟩, q v' d _ c2 H02 H2 (s1.trans s2) p2 f3 z⟩
theorem dk_inW (hu : X.A.units + 1 < cLine) (h : PV X a w ls fun y w1 => PV X b w1 ls fun x w2 => ∃ ad B F ks k, x = .raw (.ref ad) ∧ w2 = Bg X B F ∧ B ad = some (.dk ks) ∧ y = kD k ∧ R (.bl (valD ks k).isSome) w2) : PCv X .In a b w ls R := by
  refine PC.mono (pc_din hu h (pe_any (e := b))) fun σ H Q ⟨c, H0, r0, q⟩ => ?_
  refine ⟨c, H0, r0, fun u y w1 c1 H01 H1 s1 p1 ry hb => ⟨_, hb, c1, H01, r0.step s1 p1, fun v x w2 c2 H02 H2 s2 p2 rx ⟨ad, B, F, ks, k, e0, ew, eB, e1, z⟩ => ?_⟩⟩
  subst e0 ew e1
  obtain ⟨_, _, gs, g1, g2, g3⟩ := bag_c p2 eB
  have z' : (valV gs k).isSome = (valD ks k).isSome := by
    rcases rpl_val k g2 g3 with ⟨g, f⟩ | ⟨v', d', f1, f2, f3⟩
    · rw [g, f]; rfl
    · rw [f1, f2]; rfl
  rw [rx.raw_inv]
  refine ⟨ad, _, rfl, .inl ⟨gs, k, .inl g1, rp_kD ry, rfl⟩, q _ _ _ c2 H02 H2 (s1.trans s2) p2 (.bl _) (by rw [z']; exact z)⟩
theorem dk_notinW (hu : X.A.units + 1 < cLine) (h : PV X a w ls fun y w1 => PV X b w1 ls fun x w2 => ∃ ad B F ks k, x = .raw (.ref ad) ∧ w2 = Bg X B F ∧ B ad = some (.dk ks) ∧ y = kD k ∧ R (.bl (!(valD ks k).isSome)) w2) : PCv X .NotIn a b w ls R := by
  refine PC.mono (pc_dnotin hu h (pe_any (e := b))) fun σ H Q ⟨c, H0, r0, q⟩ => ?_
  refine ⟨c, H0, r0, fun u y w1 c1 H01 H1 s1 p1 ry hb => ⟨_, hb, c1, H01, r0.step s1 p1, fun v x w2 c2 H02 H2 s2 p2 rx ⟨ad, B, F, ks, k, e0, ew, eB, e1, z⟩ => ?_⟩⟩
  subst e0 ew e1
  obtain ⟨_, _, gs, g1, g2, g3⟩ := bag_c p2 eB
  have z' : (valV gs k).isSome = (valD ks k).isSome := by
    rcases rpl_val k g2 g3 with ⟨g, f⟩ | ⟨v', d', f1, f2, f3⟩
    · rw [g, f]; rfl
    · rw [f1, f2]; rfl
  rw [rx.raw_inv]
  refine ⟨ad, _, rfl, .inl ⟨gs, k, .inl g1, rp_kD ry, rfl⟩, q _ _ _ c2 H02 H2 (s1.trans s2) p2 (.bl _) (by rw [z']; exact z)⟩
theorem s_putKW {v kx : Expr} {dp : Pos} (hu : X.A.units + 1 < cLine) (h : PV X v w ls fun dv w1 => PV X o w1 ls fun x w2 => PV X kx w2 ls fun y w3 => ∃ ad B F ks k, x = .raw (.ref ad) ∧ w3 = Bg X B F ∧ B ad = some (.dk ks) ∧ y = kD k ∧ ks.length < 100000 ∧ N ls (Bg X (setB B ad (.dk (putD ks k dv))) F))
    (hs : swapsWith v (some (.Subscript o kx dp)) pos.line X.env = pure false := by rfl) : SV X (.Assign [.Subscript o kx dp] v pos) w ls N R :=
  PS.mono (ps_dput hu (pe_any (e := o)) (pe_any (e := kx)) h hs) fun Dn σ H ⟨E, c, H0, r, s, ow, q1, q2⟩ => by
    refine ⟨c, H0, r, fun v d w1 c1 H01 H1 s1 p1 rp hb => ⟨_, hb, c1, H01, r.step s1 p1, fun ux x w2 c2 H02 H2 s2 p2 rx hb2 => ⟨_, hb2, c2, H02, (r.step s1 p1).step s2 p2, fun u y w3 c3 H03 H3 s3 p3 ry ⟨ad, B, F, ks, k, e0, ew, eB, e2, hlen, z⟩ => ?_⟩⟩⟩
    subst e0 ew e2
    obtain ⟨_, _, gs, g1, g2, g3⟩ := bag_c p3 eB
    have hl' : gs.length = ks.length := by
      have := congrArg List.length g2
      simpa using this
    obtain ⟨k1, k2⟩ := rpl_put k (rp.ex (s2.e0.trans s3.e0)) g2 g3
    obtain ⟨r', s'⟩ := bag_write (k' := .dk (putD ks k d)) (((r.step s1 p1).step s2 p2).step s3 p3) eB (ho := .dK (putK gs k v)) (fun _ z => nomatch z) ⟨_, upd_same, k1, k2⟩
    rw [rx.raw_inv]
    exact ⟨ad, _, rfl, .inl ⟨gs, k, g1, rp_kD ry, by rw [hl']; exact Evl.sz_lt hlen, rfl⟩, q1 _ _ c3 H03 σ _ r' ((((s.trans s1).trans s2).trans s3).trans s') ow z⟩
/-! tuple keys -/
theorem dt_notinW (hu : X.A.units + 1 < cLine) (h : PV X a w ls fun y w1 => PV X b w1 ls fun x w2 => ∃ ad B F ks k, x = .raw (.ref ad) ∧ w2 = Bg X B F ∧ B ad = some (.dt ks) ∧ y = .tup (k.map kD) ∧ R (.bl (!(valD ks k).isSome)) w2) : PCv X .NotIn a b w ls R := by
  refine PC.mono (pc_dnotin hu h (pe_any (e := b))) fun σ H Q ⟨c, H0, r0, q⟩ => ?_
  refine ⟨c, H0, r0, fun u y w1 c1 H01 H1 s1 p1 ry hb => ⟨_, hb, c1, H01, r0.step s1 p1, fun v x w2 c2 H02 H2 s2 p2 rx ⟨ad, B, F, ks, k, e0, ew, eB, e1, z⟩ => ?_⟩⟩
  subst e0 ew e1
  obtain ⟨_, _, gs, g1, g2, g3⟩ := bag_c p2 eB
  have z' : (valV gs k).isSome = (valD ks k).isSome := by
    rcases rpl_val k g2 g3 with ⟨g, f⟩ | ⟨v', d', f1, f2, f3⟩
    · rw [g, f]; rfl
    · rw [f1, f2]; rfl
  rw [rx.raw_inv]
  cases ry with
  | tup h1 h2 =>
    refine ⟨ad, _, rfl, .inr ⟨gs, k, _, .inl g1, rfl, ?_, rfl⟩, q _ _ _ c2 H02 H2 (s1.trans s2) p2 (.bl _) (by rw [z']; exact z)⟩
    rw [s2.ex _ _ (s2.e0 _ _ h1), rpl_kD h2]
theorem s_putTW {v kx : Expr} {dp : Pos} (hu : X.A.units + 1 < cLine) (h : PV X v w ls fun dv w1 => PV X o w1 ls fun x w2 => PV X kx w2 ls fun y w3 => ∃ ad B F ks k, x = .raw (.ref ad) ∧ w3 = Bg X B F ∧ B ad = some (.dt ks) ∧ y = .tup (k.map kD) ∧ ks.length < 100000 ∧ N ls (Bg X (setB B ad (.dt (putD ks k dv))) F))
    (hs : swapsWith v (some (.Subscript o kx dp)) pos.line X.env = pure false := by rfl) : SV X (.Assign [.Subscript o kx dp] v pos) w ls N R :=
  PS.mono (ps_dput hu (pe_any (e := o)) (pe_any (e := kx)) h hs) fun Dn σ H ⟨E, c, H0, r, s, ow, q1, q2⟩ => by
    refine ⟨c, H0, r, fun v d w1 c1 H01 H1 s1 p1 rp hb => ⟨_, hb, c1, H01, r.step s1 p1, fun ux x w2 c2 H02 H2 s2 p2 rx hb2 => ⟨_, hb2, c2, H02, (r.step s1 p1).step s2 p2, fun u y w3 c3 H03 H3 s3 p3 ry ⟨ad, B, F, ks, k, e0, ew, eB, e2, hlen, z⟩ => ?_⟩⟩⟩
    subst e0 ew e2
    obtain ⟨_, _, gs, g1, g2, g3⟩ := bag_c p3 eB
    have hl' : gs.length = ks.length := by
      have := congrArg List.length g2
      simpa using this
    obtain ⟨k1, k2⟩ := rpl_put k (rp.ex (s2.e0.trans s3.e0)) g2 g3
    obtain ⟨r', s'⟩ := bag_write (k' := .dt (putD ks k d)) (((r.step s1 p1).step s2 p2).step s3 p3) eB (ho := .dT (putK gs k v)) (fun _ z => nomatch z) ⟨_, upd_same, k1, k2⟩
    rw [rx.raw_inv]
    cases ry with
    | tup h1 h2 =>
      exact ⟨ad, _, rfl, .inr ⟨gs, k, _, g1, rfl, by rw [s3.ex _ _ h1, rpl_kD h2], by rw [hl']; exact Evl.sz_lt hlen, rfl⟩, q1 _ _ c3 H03 σ _ r' ((((s.trans s1).trans s2).trans s3).trans s') ow z⟩
/-! nested keys -/
theorem nkv_ex {H0 H : Hp} (e : Ex H0 H) {ys : List NE} (n : NKeys H0 ys) : NKeys H ys := n.ex e
theorem nk_val {K : PySem.W.Frag} {H : Hp} {ys : List NE} {ks : List (NestedKey × D)} (k : NestedKey) (e : ys.map (·.1) = ks.map (·.1)) (h : RpL K H (ys.map (·.2.2)) (ks.map (·.2))) :
    (atN ys k = none ∧ valD ks k = none) ∨ ∃ v d, atN ys k = some v ∧ valD ks k = some d ∧ Rp K H v d := by
  rw [atN_kvs]
  exact rpl_val k (by rw [List.map_map]; exact e) (by rw [List.map_map]; exact h)
theorem nk_put {K : PySem.W.Frag} {H : Hp} {ys : List NE} {ks : List (NestedKey × D)} (k : NestedKey) (b : Addr) {v : V} {d : D} (hv : Rp K H v d) (e : ys.map (·.1) = ks.map (·.1)) (h : RpL K H (ys.map (·.2.2)) (ks.map (·.2))) :
    (putN ys k b v).map (·.1) = (putD ks k d).map (·.1) ∧ RpL K H ((putN ys k b v).map (·.2.2)) ((putD ks k d).map (·.2)) := by
  obtain ⟨k1, k2⟩ := rpl_put k hv (kvs := ys.map fun y => (y.1, y.2.2)) (by rw [List.map_map]; exact e) (by rw [List.map_map]; exact h)
  rw [← putN_kvs ys k b v, List.map_map] at k1 k2
  exact ⟨k1, k2⟩
theorem pv_getNW (hu : X.A.units + 9 < cLine) (h : PV X a w ls fun x w1 => PV X b w1 ls fun y w2 => ∃ ad B F ks k d, x = .raw (.ref ad) ∧ w2 = Bg X B F ∧ B ad = some (.nk ks) ∧ NkD y (.tup k) ∧ (NestedKey.tup k).depth ≤ 8 ∧ valD ks (.tup k) = some d ∧ R d w2) (hs : NoSl b := by exact fun _ _ => rfl) : PV X (.Subscript a b pos) w ls R := by
  refine PE.mono (pe_nget hu h (pe_any (e := b)) hs) fun σ H Q ⟨c, H0, r0, q⟩ => ?_
  refine ⟨c, H0, r0, fun v x w1 c1 H01 H1 s1 p1 rx hb => ⟨_, hb, c1, H01, r0.step s1 p1, fun u y w2 c2 H02 H2 s2 p2 ry ⟨ad, B, F, ks, k, d, e0, ew, eB, e1, kd, e2, z⟩ => ?_⟩⟩
  subst e0 ew
  obtain ⟨_, _, ys, g1, gk, g2, g3⟩ := bag_c p2 eB
  obtain ⟨bb, rfl⟩ := e1.tup_ref ry
  rcases nk_val (.tup k) g2 g3 with ⟨_, f⟩ | ⟨v', d', f1, f2, f3⟩
  · rw [f] at e2; cases e2
  · rw [e2] at f2; cases f2
    rw [rx.raw_inv]
    exact ⟨ad, bb, ys, _, v', rfl, rfl, ⟨g1, gk.ex s2.ex, (e1.v ry).ex s2.ex, kd⟩, f1, q v' d _ c2 H02 H2 (s1.trans s2) p2 f3 z⟩
theorem nk_inW (hu : X.A.units + 9 < cLine) (h : PV X a w ls fun y w1 => PV X b w1 ls fun x w2 => ∃ ad B F ks k, x = .raw (.ref ad) ∧ w2 = Bg X B F ∧ B ad = some (.nk ks) ∧ NkD y (.tup k) ∧ (NestedKey.tup k).depth ≤ 8 ∧ R (.bl (valD ks (.tup k)).isSome) w2) : PCv X .In a b w ls R := by
  refine PC.mono (pc_nin hu h (pe_any (e := b))) fun σ H Q ⟨c, H0, r0, q⟩ => ?_
  refine ⟨c, H0, r0, fun u y w1 c1 H01 H1 s1 p1 ry hb => ⟨_, hb, c1, H01, r0.step s1 p1, fun v x w2 c2 H02 H2 s2 p2 rx ⟨ad, B, F, ks, k, e0, ew, eB, e1, kd, z⟩ => ?_⟩⟩
  subst e0 ew
  obtain ⟨_, _, ys, g1, gk, g2, g3⟩ := bag_c p2 eB
  obtain ⟨bb, rfl⟩ := e1.tup_ref ry
  have z' : (atN ys (.tup k)).isSome = (valD ks (.tup k)).isSome := by
    rcases nk_val (.tup k) g2 g3 with ⟨g, f⟩ | ⟨v', d', f1, f2, f3⟩
    · rw [g, f]; rfl
    · rw [f1, f2]; rfl
  rw [rx.raw_inv]
  exact ⟨ad, bb, ys, _, rfl, rfl, ⟨g1, gk.ex s2.ex, (e1.v (ry.ex s2.e0)).ex s2.ex, kd⟩, q _ _ _ c2 H02 H2 (s1.trans s2) p2 (.bl _) (by rw [z']; exact z)⟩
theorem nk_notinW (hu : X.A.units + 9 < cLine) (h : PV X a w ls fun y w1 => PV X b w1 ls fun x w2 => ∃ ad B F ks k, x = .raw (.ref ad) ∧ w2 = Bg X B F ∧ B ad = some (.nk ks) ∧ NkD y (.tup k) ∧ (NestedKey.tup k).depth ≤ 8 ∧ R (.bl (!(valD ks (.tup k)).isSome)) w2) : PCv X .NotIn a b w ls R := by
  refine PC.mono (pc_nnotin hu h (pe_any (e := b))) fun σ H Q ⟨c, H0, r0, q⟩ => ?_
  refine ⟨c, H0, r0, fun u y w1 c1 H01 H1 s1 p1 ry hb => ⟨_, hb, c1, H01, r0.step s1 p1, fun v x w2 c2 H02 H2 s2 p2 rx ⟨ad, B, F, ks, k, e0, ew, eB, e1, kd, z⟩ => ?_⟩⟩
  subst e0 ew
  obtain ⟨_, _, ys, g1, gk, g2, g3⟩ := bag_c p2 eB
  obtain ⟨bb, rfl⟩ := e1.tup_ref ry
  have z' : (atN ys (.tup k)).isSome = (valD ks (.tup k)).isSome := by
    rcases nk_val (.tup k) g2 g3 with ⟨g, f⟩ | ⟨v', d', f1, f2, f3⟩
    · rw [g, f]; rfl
    · rw [f1, f2]; rfl
  rw [rx.raw_inv]
  exact ⟨ad, bb, ys, _, rfl, rfl, ⟨g1, gk.ex s2.ex, (e1.v (ry.ex s2.e0)).ex s2.ex, kd⟩, q _ _ _ c2 H02 H2 (s1.trans s2) p2 (.bl _) (by rw [z']; exact z)⟩
theorem s_putNW {v kx : Expr} {dp : Pos} (hu : X.A.units + 9 < cLine) (h : PV X v w ls fun dv w1 => PV X o w1 ls fun x w2 => PV X kx w2 ls fun y w3 => ∃ ad B F ks k, x = .raw (.ref ad) ∧ w3 = Bg X B F ∧ B ad = some (.nk ks) ∧ NkD y (.tup k) ∧ (NestedKey.tup k).depth ≤ 8 ∧ ks.length < 100000 ∧ N ls (Bg X (setB B ad (.nk (putD ks (.tup k) dv))) F))
    (hs : swapsWith v (some (.Subscript o kx dp)) pos.line X.env = pure false := by rfl) : SV X (.Assign [.Subscript o kx dp] v pos) w ls N R :=
  PS.mono (ps_nput hu (pe_any (e := o)) (pe_any (e := kx)) h hs) fun Dn σ H ⟨E, c, H0, r, s, ow, q1, q2⟩ => by
    refine ⟨c, H0, r, fun v d w1 c1 H01 H1 s1 p1 rp hb => ⟨_, hb, c1, H01, r.step s1 p1, fun ux x w2 c2 H02 H2 s2 p2 rx hb2 => ⟨_, hb2, c2, H02, (r.step s1 p1).step s2 p2, fun u y w3 c3 H03 H3 s3 p3 ry ⟨ad, B, F, ks, k, e0, ew, eB, e2, kd, hlen, z⟩ => ?_⟩⟩⟩
    subst e0 ew
    obtain ⟨_, _, ys, g1, gk, g2, g3⟩ := bag_c p3 eB
    obtain ⟨bb, rfl⟩ := e2.tup_ref ry
    have hl' : ys.length = ks.length := by
      have := congrArg List.length g2
      simpa using this
    obtain ⟨k1, k2⟩ := nk_put (.tup k) bb (rp.ex (s2.e0.trans s3.e0)) g2 g3
    obtain ⟨r', s'⟩ := bag_write (k' := .nk (putD ks (.tup k) d)) (((r.step s1 p1).step s2 p2).step s3 p3) eB (ho := NHO X.prog X.w ad (putN ys (.tup k) bb v)) (fun _ z => by unfold NHO at z; exact nomatch z) ⟨_, upd_same, nkeys_put gk (e2.v ry) kd, k1, k2⟩
    rw [rx.raw_inv]
    exact ⟨ad, bb, ys, _, rfl, rfl, ⟨g1, gk.ex s3.ex, (e2.v ry).ex s3.ex, kd⟩, by rw [hl']; exact Evl.sz_lt hlen, q1 _ _ c3 H03 σ _ r' ((((s.trans s1).trans s2).trans s3).trans s') ow z⟩
end
end Pd
set_option Elab.async false
set_option linter.all false
set_option maxRecDepth 100000
set_option maxHeartbeats 4000000
/-! loops over cells, pop; calls that change the world -/
namespace Pd
open PySem PySem.Spec PyProof.Rows L2
open Evl (Ex)
section
variable {X : Cx} {e a b o i tg iter : Expr} {es : List Expr} {w : Wd} {ls : List L} {R : D → Wd → Prop} {pos p : Pos} {x y m : Str} {st : Stmt} {rest body : List Stmt} {N : List L → Wd → Prop} {js : Nat → Prop}
/-- for t in a cell (a list) that stays -/
theorem s_forW (Inv : Nat → List L → Wd → Prop) (hp : PassesOwn (model X.prog X.w) X.A X.env X.xe) (hc : X.calm = true)
    (h : PV X iter w ls fun x w1 => ∃ ad ds, x = .raw (.ref ad) ∧ Inv 0 ls w1 ∧ (∀ k ls' w', Inv k ls' w' → ∃ B F, w' = Bg X B F ∧ B ad = some (.lst ds)) ∧ (∀ k d ls' w', ds[k]? = some d → Inv k ls' w' → PGv X tg (fun _ => True) w' ls' d fun ls2 => SVs X body w' ls2 (Inv (k + 1)) R) ∧ (∀ ls' w', Inv ds.length ls' w' → N ls' w'))
    (hs : ∀ x, foldedSetIterable iter X.env x = pure x := by intro _; rfl) : SV X (.For tg iter body [] pos) w ls N R :=
  PS.mono (ps_for hp hc (pi_list h) (pg_any (e := tg)) (pss_any (st := body)) hs) fun Dn σ H ⟨E, c, H0, r, s, o, q1, q2⟩ => ⟨c, H0, r, fun v x w' c' Hb Hx s2 p2 rx ⟨ad, ds, e1, i0, cell, step, fin⟩ => by
    subst e1
    rw [rx.raw_inv]
    have cl : ∀ {k ls' w' c' H0' H'}, Inv k ls' w' → w'.p c' H0' H' → ∃ vs, H' ad = some (.lst vs) ∧ RpL X.K H0' vs ds := by
      intro k ls' w' c' H0' H' i1 p1
      obtain ⟨B, F, rfl, eB⟩ := cell k ls' w' i1
      obtain ⟨_, _, h3⟩ := bag_c p1 eB
      exact h3
    obtain ⟨vs0, g0, _⟩ := cl i0 p2
    refine ⟨ad, rfl, ⟨vs0, .inl (.inl g0)⟩, fun k m σ' H' => k + m = ds.length ∧ ∃ ls' w'' c'' H0'', Inv k ls' w'' ∧ Rel X.K c'' w'' H0'' σ' H' ls' ∧ Stp E.c E.H0 E.H c'' H0'' H' ∧ ownNew E σ' ls', ⟨ds.length, by omega, ls, w', c', Hb, i0, r.step s2 p2, s.trans s2, o⟩, ?_⟩
    rintro k m σ1 H1 ⟨hm, ls1, w1, c1, H01, i1, r1, s1, o1⟩
    obtain ⟨vs, g1, g2⟩ := cl i1 r1.wd
    by_cases hk : k < ds.length
    · obtain ⟨d, hd⟩ := lt_get hk
      obtain ⟨u, hu, ru⟩ := g2.get hd
      refine .inr ⟨⟨vs, u, .inl (.inl g1), hu⟩, fun σ' H' => ∃ ls' w'' c'' H0'', Inv (k + 1) ls' w'' ∧ Rel X.K c'' w'' H0'' σ' H' ls' ∧ Stp E.c E.H0 E.H c'' H0'' H' ∧ ownNew E σ' ls', fun σ' H' hN => ⟨m - 1, by omega, by omega, hN⟩, fun z Hv ⟨hv1, hv2⟩ => ?_⟩
      subst hv1
      have e2 := hv2 vs (.inl (.inl g1))
      rw [hu] at e2; cases e2
      refine ⟨_, step k d ls1 w1 hd i1, c1, H01, r1, ru, fun ls2 σ2 r2 o2 _ z => ⟨_, z, E, c1, H01, r2, s1, fun n l a e ow q => ?_, fun ls3 w3 c3 H03 σ3 H3 r3 s3 o3 z3 => ⟨ls3, w3, c3, H03, z3, r3, s3, o3⟩, q2⟩⟩
      obtain ⟨f1, f2⟩ := o2 n l e ow
      exact o1 n l a f1 ow (by rw [← f2]; exact q)
    · have ek : k = ds.length := by omega
      subst ek
      exact .inl ⟨⟨vs, .inl (.inl g1), by rw [g2.length]; exact Nat.le_refl _⟩, q1 ls1 w1 c1 H01 σ1 H1 r1 s1 o1 (fin ls1 w1 i1)⟩⟩
/-- if xs, xs owned -/
theorem pb_own (j : Nat) {ds : List D} {R : Bool → Wd → Prop} (hl : ls[j]? = some (.own ds)) (h : R (!ds.isEmpty) w) (hN : X.N[j]? = some x := by rfl) (hv : Vis X.env.scope x := by first | exact Or.inl rfl | exact Or.inr (Or.inl rfl) | exact Or.inr (Or.inr rfl))
    (hd : (x == ("__debug__" : Str)) = false := by decide) (hcd : (x == ("__classdict__" : Str)) = false := by decide)
    (he : ∀ whole, isTrue (.Name x pos) X.env whole = (do let v ← whole; standAt (Expr.Name x pos).pos; holding [v] (truthy v)) := by intro _; rfl) : PB X (.Name x pos) w ls R :=
  PT.mono (pt_truth (pe_var (i := j) hN hv hd hcd) he) fun σ H Q ⟨c, H0, r, q⟩ => by
    obtain ⟨p', vs, e1, f0, f1, f2⟩ := r.at_ j _ hl
    refine ⟨_, e1, !vs.isEmpty, .inl ⟨vs, .inl (.inl f1), rfl⟩, ?_⟩
    have ee : (!vs.isEmpty) = !ds.isEmpty := by cases f2 <;> rfl
    rw [ee]
    exact q _ w c H0 H (Stp.refl r.ex) r.wd h
/-- y = xs.pop(), xs owned -/
theorem s_pop (j i : Nat) {ds : List D} {d : D} {apos xp p2 : Pos} (hl : ls[j]? = some (.own (ds ++ [d]))) (hne : j ≠ i) (h : N ((ls.set j (.own ds)).set i (.im d)) w) (hNd : X.N.Nodup) (hN : X.N[j]? = some x := by rfl) (hv : Vis X.env.scope x := by first | exact Or.inl rfl | exact Or.inr (Or.inl rfl) | exact Or.inr (Or.inr rfl))
    (hs : swapsWith (.Call (.Attribute (.Name x xp) "pop" apos) [] [] p2) (some (.Name y p)) pos.line X.env = pure false := by rfl) (hi : X.N[i]? = some y := by rfl) (hx : Loc X.env.scope y := by first | exact Or.inl rfl | exact Or.inr rfl)
    (hf : X.fn y = true ∨ X.env.scope.names.lookup y = some .local := by first | exact .inl rfl | exact .inr rfl)
    (hd : (x == ("__debug__" : Str)) = false := by decide) (hcd : (x == ("__classdict__" : Str)) = false := by decide)
    (hpe : ∀ {to : TE}, PE X (.Name x xp) to → PE X (.Call (.Attribute (.Name x xp) "pop" apos) [] [] p2) (tBM0 X.K "list" rPop to) := by
      intro to h1; exact pe_bm0 PySem.F.plainAttrs_list PySem.F.slot_list_pop PySem.F.type_list_pop mt_pop h1) :
    SV X (.Assign [.Name y p] (.Call (.Attribute (.Name x xp) "pop" apos) [] [] p2) pos) w ls N R :=
  PS.mono (ps_set hNd hi hx (hpe (pe_var (i := j) hN hv hd hcd)) hs hf) fun Dn σ H ⟨E, c, H0, r, s, o, q1, q2⟩ => by
    obtain ⟨p', vs, e1, f0, f1, f2⟩ := r.at_ j _ hl
    have hlen : vs.length = ds.length + 1 := by have := f2.length; rw [List.length_append] at this; simpa using this
    obtain ⟨u, hu, ru⟩ := f2.get (i := ds.length) (d := d) (by rw [List.getElem?_append_right (Nat.le_refl _), Nat.sub_self]; rfl)
    have f3 : RpL X.K H0 vs.dropLast ds := by
      rw [List.dropLast_eq_take, hlen]
      have := f2.take ds.length
      rw [List.take_left] at this
      exact this
    refine ⟨.ref p', e1, .inl ⟨rfl, vs, .inl (.inl f1)⟩, p', vs, u, rfl, rfl, f1, by rw [hlen]; exact hu, ?_⟩
    have r1 := r.put (l' := .own ds) (ho := .lst vs.dropLast) hl trivial e1 f0 ⟨p', vs.dropLast, rfl, f0, upd_same, f3⟩
    exact q1 _ w c H0 _ _ (r1.set i ru) (s.put (o j _ p' hl trivial e1) f0) (fun n l a e ow q => by
      obtain ⟨g1, g2⟩ := own_set (σ := σ) (v := u) n l e ow
      exact (o.put (l' := .own ds) hl trivial e1) n l a g1 ow (by rw [← g2]; exact q)) h
end
end Pd
set_option Elab.async false
set_option linter.all false
set_option maxRecDepth 100000
set_option maxHeartbeats 4000000
/-! defs that change the world -/
namespace Pd
open PySem PySem.Spec PyProof.Rows L2
open Evl (Ex)
/-- two worlds side by side -/
def Wd.sep (u v : Wd) : Wd where
  p := fun c H0 H => ∃ c1 c2 : Addr → Prop, (∀ a, c a ↔ (c1 a ∨ c2 a)) ∧ (∀ a, c1 a → ¬ c2 a) ∧ u.p c1 H0 H ∧ v.p c2 H0 H
  live := fun ⟨c1, c2, h1, h2, h3, h4⟩ hc => ((h1 _).mp hc).elim (u.live h3) (v.live h4)
  stable := fun {c H0 H H0' H'} ⟨c1, c2, h1, h2, h3, h4⟩ e k z n => ⟨c1, c2, h1, h2, u.stable h3 e (fun a q => k a ((h1 a).mpr (.inl q))) (fun a q => z a ((h1 a).mpr (.inl q))) n, v.stable h4 e (fun a q => k a ((h1 a).mpr (.inr q))) (fun a q => z a ((h1 a).mpr (.inr q))) n⟩
/-- a part F of the world w; behind a step that changes F alone, G of what F became -/
structure Frm (w F : Wd) (G : Wd → Wd) : Prop where
  run : ∀ (c : Addr → Prop) (H0 H : Hp), w.p c H0 H → ∃ c2 : Addr → Prop, F.p c2 H0 H ∧ ∀ (c2' : Addr → Prop) (H0' H' : Hp) (F' : Wd), Stp c2 H0 H c2' H0' H' → F'.p c2' H0' H' → ∃ c', Stp c H0 H c' H0' H' ∧ (G F').p c' H0' H'
theorem Frm.all {w : Wd} : Frm w w fun F' => F' := ⟨fun c H0 H h => ⟨c, h, fun c2' H0' H' F' s p => ⟨c2', s, p⟩⟩⟩
theorem Frm.none {w : Wd} : Frm w Wd.nil fun F' => Wd.sep F' w := ⟨fun c H0 H h => ⟨fun _ => False, fun a z => z, fun c2' H0' H' F' s p => by
  have n : ∀ a, c a → ¬ c2' a := fun a q z => (s.g a z).elim (fun z => z) fun z => (w.live h q).1.1 z
  refine ⟨fun a => c2' a ∨ c a, ⟨s.e0, s.ex, fun a o h _ => s.e a o h (fun z => z), s.f, fun a z => z.elim (fun z => (s.g a z).elim (fun z => z.elim) .inr) .inl, s.h, s.hs⟩, c2', c, fun a => Iff.rfl, fun a z q => n a q z, p, ?_⟩
  refine w.stable h s.e0 (fun a q => ?_) (fun a q => s.f a (w.live h q).2 (w.live h q).1) s.h
  cases g : H a with
  | none => exact absurd g (w.live h q).1.1
  | some o => exact s.e a o g (fun z => z)⟩⟩
theorem Frm.sepL {u v : Wd} : Frm (Wd.sep u v) u fun F' => Wd.sep F' v := ⟨fun c H0 H ⟨c1, c2, h1, h2, h3, h4⟩ => ⟨c1, h3, fun c2' H0' H' F' s p => by
  have n : ∀ a, c2 a → ¬ c2' a := fun a q z => (s.g a z).elim (fun z => h2 a z q) fun z => (v.live h4 q).1.1 z
  refine ⟨fun a => c2' a ∨ c2 a, ⟨s.e0, s.ex, fun a o h z => s.e a o h (fun q => z ((h1 a).mpr (.inl q))), s.f, fun a z => z.elim (fun z => (s.g a z).elim (fun z => .inl ((h1 a).mpr (.inl z))) .inr) (fun z => .inl ((h1 a).mpr (.inr z))), s.h, s.hs⟩, c2', c2, fun a => Iff.rfl, fun a z q => n a q z, p, ?_⟩
  refine v.stable h4 s.e0 (fun a q => ?_) (fun a q => s.f a (v.live h4 q).2 (v.live h4 q).1) s.h
  cases g : H a with
  | none => exact absurd g (v.live h4 q).1.1
  | some o => exact s.e a o g (fun z => h2 a z q)⟩⟩
theorem Wd.sepC {u v : Wd} : (Wd.sep u v).le (Wd.sep v u) := fun ⟨c1, c2, h1, h2, h3, h4⟩ => ⟨c2, c1, fun a => (h1 a).trans Or.comm, fun a z q => h2 a q z, h4, h3⟩
theorem Frm.le {w w1 F : Wd} {G G1 : Wd → Wd} (f : Frm w F G) (l : w1.le w) (g : ∀ F', (G F').le (G1 F')) : Frm w1 F G1 := ⟨fun c H0 H h => by
  obtain ⟨c2, k1, k2⟩ := f.run c H0 H (l h)
  refine ⟨c2, k1, fun c2' H0' H' F' s p => ?_⟩
  obtain ⟨c', s', p'⟩ := k2 c2' H0' H' F' s p
  exact ⟨c', s', g F' p'⟩⟩
section
variable {K : PySem.W.Frag} {P : Program} {wo : World} {B : Bag} {F : Wd}
/-- a bag is its cells beside F -/
theorem bag_sep : (bagW K P wo B F).le (Wd.sep (bagW K P wo B Wd.nil) F) := fun {c H0 H} ⟨c2, h1, h2, h3, h4⟩ =>
  ⟨fun a => B a ≠ none, c2, h1, h2, ⟨fun _ => False, fun a => ⟨fun z => .inl z, fun z => z.elim (fun z => z) fun z => z.elim⟩, fun a _ z => z, fun a z => z, h4⟩, h3⟩
theorem sep_bag : (Wd.sep (bagW K P wo B Wd.nil) F).le (bagW K P wo B F) := fun {c H0 H} ⟨c1, c2, h1, h2, ⟨c3, k1, k2, k3, k4⟩, h4⟩ => by
  have e : ∀ a, c1 a ↔ B a ≠ none := fun a => (k1 a).trans ⟨fun z => z.elim (fun z => z) fun z => absurd z (k3 a), .inl⟩
  exact ⟨c2, fun a => by rw [h1 a, e a], fun a z => h2 a ((e a).mpr z), h4, k4⟩
theorem Frm.bag : Frm (bagW K P wo B F) F fun F' => bagW K P wo B F' := (Frm.sepL (u := F) (v := bagW K P wo B Wd.nil)).le (fun {_ _ _} h => Wd.sepC (bag_sep h)) fun F' => fun {_ _ _} h => sep_bag (Wd.sepC h)
end
/-- a promise with a world: S of the data, the world, of what is wanted of the answer and the world behind -/
def spW (K : PySem.W.Frag) (S : List D → Wd → (D → Wd → Prop) → Prop) : Sp := fun vs H Q _ => ∃ (c : Addr → Prop) (H0 : Hp) (ds : List D) (w : Wd) (R : D → Wd → Prop), Ex H0 H ∧ w.p c H0 H ∧ RpL K H0 vs ds ∧ S ds w R ∧
  ∀ v d w' c' H0' H', Stp c H0 H c' H0' H' → w'.p c' H0' H' → Rp K H0' v d → R d w' → Q v H'
section
variable {X : Cx} {e a b o i : Expr} {es : List Expr} {w : Wd} {ls : List L} {R : D → Wd → Prop} {pos p : Pos} {CX : CXT} {k : Nat} {f C : Addr} {fd : FuncData} {ps : List Str} {S : List D → Wd → (D → Wd → Prop) → Prop} {dvs : List V} {dds : List D} {dvl : List Value} {E : XK} {x m : Str}
theorem call_world {c c1 : Addr → Prop} {H0 H H01 H1 : Hp} {Q : VK} {vs : List V} {ds : List D} {w1 F : Wd} {G : Wd → Wd} (q : ∀ v d w' c' H0' H', Stp c H0 H c' H0' H' → w'.p c' H0' H' → Rp X.K H0' v d → R d w' → Q v H') (s : Stp c H0 H c1 H01 H1) (p1 : w1.p c1 H01 H1)
    (rps : RpL X.K H01 vs ds) (fr : Frm w1 F G) (z : S ds F fun d F' => R d (G F')) : spW X.K S vs H1 Q E := by
  obtain ⟨c2, k1, k2⟩ := fr.run c1 H01 H1 p1
  refine ⟨c2, H01, ds, F, _, s.ex, k1, rps, z, fun v d F' c2' H0' H' s2 p2 rp z2 => ?_⟩
  obtain ⟨c', s3, p3⟩ := k2 c2' H0' H' F' s2 p2
  exact q v d (G F') c' H0' H' (s.trans s3) p3 rp z2
/-- f(e, ..) -/
theorem pv_callW (F : FnOk X.prog X.w X.K X.mg X.base CX k f fd ps (spW X.K S)) (hr : Room k X.A) (hm : X.mg x = some (.ref f)) (hk : PySem.W.keepIn X.K (.ref f) = true) (hb : Binds X.K fd ps dvl) (hd : Vals dvs dvl) (hx : Passes CX X E) (hdd : ∀ H, RpL X.K H dvs dds)
    (h : PAs X (e :: es) w ls fun ds w1 => ∃ F G, Frm w1 F G ∧ S (ds ++ dds) F fun d F' => R d (G F')) (hg : Gl X x := by rfl) (hdb : (x == ("__debug__" : Str)) = false := by decide) (he : starEach (e :: es) X.env = (false, eval e X.env) :: starEach es X.env := by rfl) (hpl : (backTo pos (starEach es X.env)).any (·.1) = false := by rfl) :
    PV X (.Call (.Name x p) (e :: es) [] pos) w ls R :=
  PE.mono (pe_call F hr hg hm hk hb hd hx h hdb he hpl) fun σ H Q ⟨c, H0, r, q⟩ => ⟨c, H0, r, fun vs ds w1 c1 H01 H1 s p1 rps ⟨F, G, fr, z⟩ => call_world (E := E) q s p1 (rps.append (hdd _)) fr z⟩
/-- an instance of the class stands there -/
def HasIns (w : Wd) (ad C : Addr) (m : Str) : Prop := ∀ (c : Addr → Prop) (H0 H : Hp), w.p c H0 H → ∃ dx fs, H ad = some (.ins C dx fs) ∧ fs.lookup m = none
/-- o.m(e, ..) -/
theorem pv_methW {apos : Pos} {pl : Sem Bool} (hC : Cls X.K C) (hm : Meth X.K C m f) (F : FnOk X.prog X.w X.K X.mg X.base CX k f fd ps (spW X.K S)) (hr : Room k X.A) (hb : Binds X.K fd ps dvl) (hd : Vals dvs dvl) (hx : Passes CX X E) (hdd : ∀ H, RpL X.K H dvs dds)
    (h : PV X o w ls fun x w1 => ∃ ad, x = .raw (.ref ad) ∧ HasIns w1 ad C m ∧ PAs X (e :: es) w1 ls fun ds w2 => ∃ F G, Frm w2 F G ∧ S (x :: (ds ++ dds)) F fun d F' => R d (G F'))
    (he : starEach (e :: es) X.env = (false, eval e X.env) :: starEach es X.env := by rfl) (hpl : (backTo pos (starEach es X.env)).any (·.1) = false := by rfl)
    (ht : eval (.Call (.Attribute o m apos) (e :: es) [] pos) X.env = (do
      let ov ← eval o X.env
      standAt apos.atName
      let (f, first) ← holding [ov] (getMethod ov m pl)
      callWith pos f first (backTo pos (starEach (e :: es) X.env)) (backToKw pos (keywordEach [] X.env))) := by rfl) : PV X (.Call (.Attribute o m apos) (e :: es) [] pos) w ls R := by
  refine PE.mono (pe_meth h hC hm F hr hb hd hx (pa_any (es := e :: es)) he hpl ht) fun σ H Q ⟨c, H0, r, q⟩ => ⟨c, H0, r, fun v d w1 c1 H01 H1 s p1 rp ⟨ad, e1, hi, z⟩ => ?_⟩
  subst e1
  obtain ⟨dx, fs, g1, g2⟩ := hi c1 H01 H1 p1
  rw [rp.raw_inv]
  exact ⟨ad, _, _, rfl, g1, g2, _, z, c1, H01, r.step s p1, fun vs ds w2 c2 H02 H2 s2 p2 rps ⟨F, G, fr, z2⟩ => call_world (E := E) q (s.trans s2) p2 (.cons (.raw _) (rps.append (hdd _))) fr z2⟩
/-- o.m() -/
theorem pv_methW0 {apos : Pos} {pl : Sem Bool} (hC : Cls X.K C) (hm : Meth X.K C m f) (F : FnOk X.prog X.w X.K X.mg X.base CX k f fd ps (spW X.K S)) (hr : Room k X.A) (hb : Binds X.K fd ps dvl) (hd : Vals dvs dvl) (hx : Passes CX X E) (hdd : ∀ H, RpL X.K H dvs dds)
    (h : PV X o w ls fun x w1 => ∃ ad F G, x = .raw (.ref ad) ∧ HasIns w1 ad C m ∧ Frm w1 F G ∧ S (x :: dds) F fun d F' => R d (G F'))
    (ht : eval (.Call (.Attribute o m apos) [] [] pos) X.env = (do
      let ov ← eval o X.env
      standAt apos.atName
      let (f, first) ← holding [ov] (getMethod ov m pl)
      callWith pos f first (backTo pos (starEach [] X.env)) (backToKw pos (keywordEach [] X.env))) := by rfl) : PV X (.Call (.Attribute o m apos) [] [] pos) w ls R := by
  refine PE.mono (pe_meth0 h hC hm F hr hb hd hx ht) fun σ H Q ⟨c, H0, r, q⟩ => ⟨c, H0, r, fun v d w1 c1 H01 H1 s p1 rp ⟨ad, F, G, e1, hi, fr, z⟩ => ?_⟩
  subst e1
  obtain ⟨dx, fs, g1, g2⟩ := hi c1 H01 H1 p1
  rw [rp.raw_inv]
  exact ⟨ad, _, _, rfl, g1, g2, call_world (E := E) q s p1 (.cons (.raw _) (hdd _)) fr z⟩
/-- C(e, ..): __init__ of a new instance -/
def oneB (a : Addr) (k : Cell) : Bag := setB (fun _ => none) a k
theorem make_world {c c1 : Addr → Prop} {H0 H H01 H1 : Hp} {Q : VK} {vs : List V} {ds : List D} {w1 : Wd} {xa dx : Addr} (q : ∀ v d w' c' H0' H', Stp c H0 H c' H0' H' → w'.p c' H0' H' → Rp X.K H0' v d → R d w' → Q v H') (s : Stp c H0 H c1 H01 H1) (p1 : w1.p c1 H01 H1)
    (rps : RpL X.K H01 vs ds) (hx : H1 xa = none) (hdx : H1 dx = none) (hne : dx ≠ xa) (z : S (.raw (.ref xa) :: ds) (Bg X (oneB xa (.ins C [])) Wd.nil) fun d F' => d = .non ∧ R (.raw (.ref xa)) (Wd.sep F' w1)) :
    spW X.K S (.ref xa :: vs) (upd (upd H1 dx (.own xa)) xa (.ins C dx [])) (fun v H2 => v = .non ∧ Q (.ref xa) H2) E := by
  have hx2 : upd H1 dx (.own xa) xa = none := by rw [upd_ne (fun z => hne z.symm)]; exact hx
  have s1 : Stp c1 H01 H1 c1 H01 (upd H1 dx (.own xa)) := Stp.newO s.ex hdx
  have w1a := Wd.newO (o := .own xa) p1 hdx
  have s2 : Stp c1 H01 (upd H1 dx (.own xa)) (fun a => c1 a ∨ a = xa) H01 (upd (upd H1 dx (.own xa)) xa (.ins C dx [])) := stp_newC s1.ex hx2
  have w2a := Wd.newO (o := .ins C dx []) w1a hx2
  have nc : ¬ c1 xa := fun z => (w1.live p1 z).1.1 hx
  have h0 : H01 xa = none := none_of_ex s.ex hx
  obtain ⟨_, hw⟩ := bag_new (K := X.K) (P := X.prog) (wo := X.w) (p := xa) (k := .ins C []) (Wd.bag0 w2a) h0 nc ⟨dx, [], upd_same, rfl, .nil⟩
  have s12 := s1.trans s2
  refine call_world (X := X) (E := E) (R := fun d w' => d = .non ∧ R (.raw (.ref xa)) w') (F := Bg X (oneB xa (.ins C [])) Wd.nil) (G := fun F' => Wd.sep F' w1) (fun v d w' c' H0' H' s' p' rp ⟨e1, z'⟩ => ?_) (s.trans s12) hw (.cons (.raw _) rps) ?_ z
  · subst e1
    exact ⟨rp.non_inv, q _ _ w' c' H0' H' s' p' (.raw _) z'⟩
  · exact Frm.sepL.le (fun {_ _ _} h => bag_sep h) fun F' => fun {_ _ _} h => h
theorem pv_makeW {f : Addr} (M : Mk X.K C f) (F : FnOk X.prog X.w X.K X.mg X.base CX k f fd ps (spW X.K S)) (hr : Room (k + 1) X.A) (hm : X.mg x = some (.ref C)) (hb : Binds X.K fd ps dvl) (hd : Vals dvs dvl) (hx : Passes CX X E) (hdd : ∀ H, RpL X.K H dvs dds)
    (h : PAs X (e :: es) w ls fun ds w1 => ∀ xa, S (.raw (.ref xa) :: (ds ++ dds)) (Bg X (oneB xa (.ins C [])) Wd.nil) fun d F' => d = .non ∧ R (.raw (.ref xa)) (Wd.sep F' w1))
    (hg : Gl X x := by rfl) (hdb : (x == ("__debug__" : Str)) = false := by decide) (he : starEach (e :: es) X.env = (false, eval e X.env) :: starEach es X.env := by rfl) (hpl : (backTo pos (starEach es X.env)).any (·.1) = false := by rfl) : PV X (.Call (.Name x p) (e :: es) [] pos) w ls R :=
  PE.mono (pe_make M F hr hg hm hb hd hx h hdb he hpl) fun σ H Q ⟨c, H0, r, q⟩ => ⟨c, H0, r, fun vs ds w1 c1 H01 H1 s p1 rps z xa dx hx hdx hne => make_world q s p1 (rps.append (hdd _)) hx hdx hne (z xa)⟩
end
end Pd
set_option Elab.async false
set_option linter.all false
set_option maxRecDepth 100000
set_option maxHeartbeats 4000000
/-! a def with a world; a glance at what is in the making; a dict locked for good -/
namespace Pd
open PySem PySem.Spec PyProof.Rows L2
open Evl (Ex)
theorem startL_no {N : List Str} {ds : List D} (n : Nat) (l : L) (e : (startL N ds)[n]? = some l) : ¬ l.isOwn := by
  have hm := List.mem_of_getElem? e
  unfold startL at hm
  rcases List.mem_append.mp hm with h | h
  · obtain ⟨d, _, rfl⟩ := List.mem_map.mp h; exact fun z => z
  · rw [(List.mem_replicate.mp h).2]; exact fun z => z
theorem rel_startW {K : PySem.W.Frag} {N : List Str} {vs : List V} {ds : List D} {c : Addr → Prop} {w : Wd} {H0 H : Hp} (e : Ex H0 H) (hw : w.p c H0 H) (r : RpL K H0 vs ds) : Rel K c w H0 (L2.start N vs) H (startL N ds) := by
  have r0 := rel_start (N := N) e r
  exact ⟨e, hw, r0.len, r0.at_, r0.sep, fun n l p e1 o => absurd o (startL_no n l e1)⟩
section
variable {P : Program} {wo : World} {K : PySem.W.Frag} {mg : Str → Option Value} {base : Heap} {x qual : Str} {params : Arguments} {body : List Stmt} {scope : Scope} {dvs : List V} {kws : List (Str × V)} {f : Addr} {fd : FuncData}
/-- THE RULE for a def with a world -/
theorem fn_world {N ps : List Str} {k : Nat} {S : List D → Wd → (D → Wd → Prop) → Prop} (F : FunD K x qual params body scope dvs kws f fd) (Sc : FnScope N ps scope) (len : ∀ ds w R, S ds w R → ds.length = ps.length)
    (hb : ∀ (cdv : Value) (A : Around) (outer : List Env) (s : Shared) (H : Hp) (E : XK), Room k (A.deeper (envOfC qual scope s.heap.objs.size f cdv)) → ∀ (ds : List D) (w : Wd) (R : D → Wd → Prop), S ds w R →
      SVs (XC P wo K mg base N qual scope f cdv A outer s H E) body w (startL N ds) (fun _ w' => R .non w') R) : FnOk P wo K mg base CX0 (k + 1) f fd ps (spW K S) := by
  refine F.ok Sc (fun vs H Q E ⟨c, H0, ds, w, R, _, _, r, s, _⟩ => r.length.trans (len ds w R s)) fun cdv A outer s H vs Q E hr ⟨c, H0, ds, w, R, e, hw, r, hS, q⟩ => ?_
  refine ⟨_, (hb cdv A outer s H E hr ds w R hS).nox, ⟨c, H0, H⟩, c, H0, rel_startW e hw r, Stp.refl e, fun n l p e1 o _ => absurd o (startL_no n l e1), fun ls' w' c' H0' σ' H' r' s' _ z => ?_, fun v d w' c' H0' H' s' p' rp z => ?_⟩
  · exact q .non .non w' c' H0' H' s' r'.wd .non z
  · exact q v d w' c' H0' H' s' p' rp z
end

/-! ### a glance -/
mutual
/-- no instance, nothing locked or read by reference within -/
inductive Plain : D → Prop
  | non : Plain .non
  | bl (b : Bool) : Plain (.bl b)
  | int (i : Int) : Plain (.int i)
  | str (x : Str) : Plain (.str x)
  | lst {ds : List D} : Plains ds → Plain (.lst ds)
  | tup {ds : List D} : Plains ds → Plain (.tup ds)
  | ftup {ds : List D} : Plains ds → Plain (.ftup ds)
inductive Plains : List D → Prop
  | nil : Plains []
  | cons {d : D} {ds : List D} : Plain d → Plains ds → Plains (d :: ds)
end
/-- H without a -/
def del (H : Hp) (a : Addr) : Hp := fun b => if b = a then none else H b
theorem del_ne {H : Hp} {a b : Addr} (h : b ≠ a) : del H a b = H b := if_neg h
theorem del_same {H : Hp} {a : Addr} : del H a a = none := if_pos rfl
section
variable {K : PySem.W.Frag} {H : Hp} {a C dx : Addr} {gs : List (Str × V)}
mutual
theorem Plain.del (h : H a = some (.ins C dx gs)) : ∀ {v : V} {d : D}, Plain d → Rp K H v d → Rp K (del H a) v d
  | _, _, .non, .non => .non
  | _, _, .bl _, .bl b => .bl b
  | _, _, .int _, .int i => .int i
  | _, _, .str _, .str s => .str s
  | _, _, .lst q, .lst (a := b) h1 r => .lst (by rw [del_ne fun z => by subst z; rw [h] at h1; cases h1]; exact h1) (Plains.del h q r)
  | _, _, .tup q, .tup (a := b) h1 r => .tup (by rw [del_ne fun z => by subst z; rw [h] at h1; cases h1]; exact h1) (Plains.del h q r)
  | _, _, .ftup q, .ftup (a := b) h1 k1 k2 r => .ftup (by rw [del_ne fun z => by subst z; rw [h] at h1; cases h1]; exact h1) k1 k2 (Plains.del h q r)
theorem Plains.del (h : H a = some (.ins C dx gs)) : ∀ {vs : List V} {ds : List D}, Plains ds → RpL K H vs ds → RpL K (del H a) vs ds
  | _, _, .nil, .nil => .nil
  | _, _, .cons p q, .cons h1 h2 => .cons (Plain.del h p h1) (Plains.del h q h2)
end
end
section
variable {X : Cx} {e a b o i : Expr} {es : List Expr} {w : Wd} {ls : List L} {R : D → Wd → Prop} {pos p : Pos} {CX : CXT} {k : Nat} {f C : Addr} {fd : FuncData} {ps : List Str} {S : List D → (D → Prop) → Prop} {dvl : List Value} {E : XK} {x m : Str} {B : Bag} {F : Wd}
/-- a pure def is called with an instance that is in the making: ad's fields fs -/
theorem call_glance {c c1 : Addr → Prop} {H0 H H01 H1 : Hp} {Q : VK} {vs : List V} {ds : List D} {ad : Addr} {fs : List (Str × D)} (q : ∀ v d w' c' H0' H', Stp c H0 H c' H0' H' → w'.p c' H0' H' → Rp X.K H0' v d → R d w' → Q v H') (s : Stp c H0 H c1 H01 H1) (p1 : (Bg X B F).p c1 H01 H1)
    (eB : B ad = some (.ins C fs)) (rps : RpL X.K H01 vs ds) (z : S (.ins C fs :: ds) fun d => Plain d ∧ R d (Bg X B F)) : spD X.K S (.ref ad :: vs) H1 Q E := by
  obtain ⟨hc, h0, dx, gs, g1, g2, g3⟩ := bag_c p1 eB
  have e0 : Ex H01 (upd H01 ad (.ins C dx gs)) := Ex.new h0
  refine ⟨upd H01 ad (.ins C dx gs), _, _, fun b u hb => ?_, .cons (.ins upd_same g2 (g3.ex e0)) (rps.ex e0), z, fun v d H0' H' s2 rp ⟨pl, zR⟩ => ?_⟩
  · by_cases n : b = ad
    · subst n; rw [upd_same] at hb; cases hb; exact g1
    · rw [upd_ne n] at hb; exact s.ex _ _ hb
  · have ha : H0' ad = some (.ins C dx gs) := s2.e0 _ _ upd_same
    have st : Stp c1 H01 H1 c1 (del H0' ad) H' := by
      refine ⟨fun b u hb => ?_, fun b u hb => ?_, fun b u hb _ => s2.e b u hb (fun z => z), fun b hb n => ?_, fun _ z => .inl z, s2.h, s2.hs⟩
      · have n : b ≠ ad := fun z => by subst z; rw [h0] at hb; cases hb
        rw [del_ne n]; exact s2.e0 _ _ (e0 _ _ hb)
      · by_cases n : b = ad
        · subst n; rw [del_same] at hb; cases hb
        · rw [del_ne n] at hb; exact s2.ex _ _ hb
      · by_cases z : b = ad
        · subst z; exact del_same
        · rw [del_ne z]; exact s2.f b (by rw [upd_ne z]; exact hb) n
    refine q v d (Bg X B F) c1 (del H0' ad) H' (s.trans st) (Wd.step p1 st fun b hb => ?_) (pl.del ha rp) zR
    cases g : H1 b with
    | none => exact absurd g ((Bg X B F).live p1 hb).1.1
    | some u => exact s2.e b u g fun z => z
theorem pv_glance {apos : Pos} {pl : Sem Bool} (hC : Cls X.K C) (hm : Meth X.K C m f) (Fn : FnOk X.prog X.w X.K X.mg X.base CX k f fd ps (spD X.K S)) (hr : Room k X.A) (hb : Binds X.K fd ps dvl) (hd : Vals [] dvl) (hx : Passes CX X E)
    (h : PV X o w ls fun x w1 => ∃ ad, x = .raw (.ref ad) ∧ HasIns w1 ad C m ∧ PAs X (e :: es) w1 ls fun ds w2 => ∃ B F fs, w2 = Bg X B F ∧ B ad = some (.ins C fs) ∧ S (.ins C fs :: ds) fun d => Plain d ∧ R d w2)
    (he : starEach (e :: es) X.env = (false, eval e X.env) :: starEach es X.env := by rfl) (hpl : (backTo pos (starEach es X.env)).any (·.1) = false := by rfl)
    (ht : eval (.Call (.Attribute o m apos) (e :: es) [] pos) X.env = (do
      let ov ← eval o X.env
      standAt apos.atName
      let (f, first) ← holding [ov] (getMethod ov m pl)
      callWith pos f first (backTo pos (starEach (e :: es) X.env)) (backToKw pos (keywordEach [] X.env))) := by rfl) : PV X (.Call (.Attribute o m apos) (e :: es) [] pos) w ls R := by
  refine PE.mono (pe_meth h hC hm Fn hr hb hd hx (pa_any (es := e :: es)) he hpl ht) fun σ H Q ⟨c, H0, r, q⟩ => ⟨c, H0, r, fun v d w1 c1 H01 H1 s p1 rp ⟨ad, e1, hi, z⟩ => ?_⟩
  subst e1
  obtain ⟨dx, fs, g1, g2⟩ := hi c1 H01 H1 p1
  rw [rp.raw_inv]
  refine ⟨ad, _, _, rfl, g1, g2, _, z, c1, H01, r.step s p1, fun vs ds w2 c2 H02 H2 s2 p2 rps ⟨B, F, fs, ew, eB, z2⟩ => ?_⟩
  subst ew
  rw [List.append_nil]
  exact call_glance (E := E) q (s.trans s2) p2 eB rps z2
theorem pv_glance0 {apos : Pos} {pl : Sem Bool} (hC : Cls X.K C) (hm : Meth X.K C m f) (Fn : FnOk X.prog X.w X.K X.mg X.base CX k f fd ps (spD X.K S)) (hr : Room k X.A) (hb : Binds X.K fd ps dvl) (hd : Vals [] dvl) (hx : Passes CX X E)
    (h : PV X o w ls fun x w1 => ∃ ad B F fs, x = .raw (.ref ad) ∧ w1 = Bg X B F ∧ B ad = some (.ins C fs) ∧ fs.lookup m = none ∧ S [.ins C fs] fun d => Plain d ∧ R d w1)
    (ht : eval (.Call (.Attribute o m apos) [] [] pos) X.env = (do
      let ov ← eval o X.env
      standAt apos.atName
      let (f, first) ← holding [ov] (getMethod ov m pl)
      callWith pos f first (backTo pos (starEach [] X.env)) (backToKw pos (keywordEach [] X.env))) := by rfl) : PV X (.Call (.Attribute o m apos) [] [] pos) w ls R := by
  refine PE.mono (pe_meth0 h hC hm Fn hr hb hd hx ht) fun σ H Q ⟨c, H0, r, q⟩ => ⟨c, H0, r, fun v d w1 c1 H01 H1 s p1 rp ⟨ad, B, F, fs, e1, ew, eB, hl, z⟩ => ?_⟩
  subst e1 ew
  rw [rp.raw_inv]
  obtain ⟨_, _, dx, gs, g1, g2, _⟩ := bag_c p1 eB
  exact ⟨ad, _, _, rfl, g1, lookup_none g2 hl, call_glance (E := E) q s p1 eB .nil z⟩
/-- a property -/
theorem pv_glanceP {g pa : Addr} (hC : Cls X.K C) (hp : PropOf X.K C m pa g) (Fn : FnOk X.prog X.w X.K X.mg X.base CX k g fd ps (spD X.K S)) (hr : Room (k + 1) X.A) (hb : Binds X.K fd ps dvl) (hd : Vals [] dvl) (hx : Passes CX X.nox E)
    (h : PV X o w ls fun x w1 => ∃ ad B F fs, x = .raw (.ref ad) ∧ w1 = Bg X B F ∧ B ad = some (.ins C fs) ∧ S [.ins C fs] fun d => Plain d ∧ R d w1) (hab : attributeBase o m X.env (eval o X.env) = eval o X.env := by rfl) : PV X (.Attribute o m pos) w ls R := by
  refine PE.mono (pe_prop h hC hp Fn hr hb hd hx hab) fun σ H Q ⟨c, H0, r, q⟩ => ⟨c, H0, r, fun v d w1 c1 H01 H1 s p1 rp ⟨ad, B, F, fs, e1, ew, eB, z⟩ => ?_⟩
  subst e1 ew
  rw [rp.raw_inv]
  obtain ⟨_, _, dx, gs, g1, g2, _⟩ := bag_c p1 eB
  exact ⟨ad, _, _, rfl, g1, call_glance (E := E) q s p1 eB .nil z⟩
end
end Pd
set_option Elab.async false
set_option linter.all false
set_option maxRecDepth 100000
set_option maxHeartbeats 4000000
/-! instances that are whole once they are made -/
namespace Pd
open PySem PySem.Spec PyProof.Rows L2
open Evl (Ex)
/-- what the bag's cells come to when nothing changes them any more: at x the datum d -/
def Melt (K : PySem.W.Frag) (P : Program) (wo : World) (B : Bag) (x : Addr) (d : D) : Prop := ∀ (c : Addr → Prop) (H0 H : Hp), Ex H0 H → (bagW K P wo B Wd.nil).p c H0 H → ∃ H0', Ex H0 H0' ∧ Ex H0' H ∧ (∀ a, H0 a = none → H0' a ≠ none → c a) ∧ Rp K H0' (.ref x) d
section
variable {X : Cx} {e a b o i : Expr} {es : List Expr} {w : Wd} {ls : List L} {R : D → Wd → Prop} {pos p : Pos} {CX : CXT} {k : Nat} {f C : Addr} {fd : FuncData} {ps ks : List Str} {S : List D → Wd → (D → Wd → Prop) → Prop} {dvs : List V} {dds : List D} {dvl : List Value} {E : XK} {x m : Str}
theorem make_melt {c c1 : Addr → Prop} {H0 H H01 H1 : Hp} {Q : VK} {vs : List V} {ds : List D} {w1 : Wd} {xa dx : Addr} (q : ∀ v d w' c' H0' H', Stp c H0 H c' H0' H' → w'.p c' H0' H' → Rp X.K H0' v d → R d w' → Q v H') (s : Stp c H0 H c1 H01 H1) (p1 : w1.p c1 H01 H1)
    (rps : RpL X.K H01 vs ds) (hx : H1 xa = none) (hdx : H1 dx = none) (hne : dx ≠ xa) (z : S (.raw (.ref xa) :: ds) (Bg X (oneB xa (.ins C [])) Wd.nil) fun d F' => d = .non ∧ ∃ B' d', F' = Bg X B' Wd.nil ∧ Melt X.K X.prog X.w B' xa d' ∧ R d' w1) :
    spW X.K S (.ref xa :: vs) (upd (upd H1 dx (.own xa)) xa (.ins C dx [])) (fun v H2 => v = .non ∧ Q (.ref xa) H2) E := by
  have hx2 : upd H1 dx (.own xa) xa = none := by rw [upd_ne (fun z => hne z.symm)]; exact hx
  have s1 : Stp c1 H01 H1 c1 H01 (upd H1 dx (.own xa)) := Stp.newO s.ex hdx
  have w1a := Wd.newO (o := .own xa) p1 hdx
  have s2 : Stp c1 H01 (upd H1 dx (.own xa)) (fun a => c1 a ∨ a = xa) H01 (upd (upd H1 dx (.own xa)) xa (.ins C dx [])) := stp_newC s1.ex hx2
  have s12 := s1.trans s2
  have h0 : H01 xa = none := none_of_ex s.ex hx
  have ex2 : Ex H01 (upd (upd H1 dx (.own xa)) xa (.ins C dx [])) := s12.ex
  have hw : (Bg X (oneB xa (.ins C [])) Wd.nil).p (fun a => a = xa) H01 (upd (upd H1 dx (.own xa)) xa (.ins C dx [])) := by
    refine ⟨fun _ => False, fun a => ?_, fun a _ z => z, fun a z => z, fun a kk g => ?_⟩
    · unfold oneB
      by_cases n : a = xa
      · subst n; rw [setB_same]; exact ⟨fun _ => .inl fun z => (nomatch z), fun _ => rfl⟩
      · rw [setB_ne n]; exact ⟨fun z => absurd z n, fun z => z.elim (fun z => absurd rfl z) fun z => z.elim⟩
    · unfold oneB at g
      by_cases n : a = xa
      · subst n; rw [setB_same] at g; cases g; exact ⟨h0, dx, [], upd_same, rfl, .nil⟩
      · rw [setB_ne n] at g; cases g
  refine ⟨fun a => a = xa, H01, _, _, _, ex2, hw, .cons (.raw _) rps, z, fun v d F' cF H0' H' s3 pF rp ⟨e1, B', d', eF, ml, zR⟩ => ?_⟩
  subst e1 eF
  refine ⟨rp.non_inv, ?_⟩
  obtain ⟨H0b, k1, k2, k3, k4⟩ := ml cF H0' H' s3.ex pF
  -- what stood there ahead of the call
  have up : ∀ b, H1 b ≠ none → upd (upd H1 dx (.own xa)) xa (.ins C dx []) b = H1 b := fun b n => by
    rw [upd_ne fun z => by subst z; exact n hx, upd_ne fun z => by subst z; exact n hdx]
  have keep : ∀ b u, H1 b = some u → H' b = some u := fun b u g => by
    refine s3.e b u ?_ fun z => by rw [z, hx] at g; cases g
    rw [up b (by rw [g]; exact fun z => nomatch z)]; exact g
  have newc : ∀ b, cF b → H1 b = none := fun b z => by
    rcases s3.g b z with g | g
    · rw [g]; exact hx
    · cases q : H1 b with
      | none => rfl
      | some u => rw [up b (by rw [q]; exact fun z => nomatch z), q] at g; cases g
  have hf : ∀ b, H01 b = none → Solid H1 b → H0b b = none := fun b g n => by
    cases q : H0b b with
    | none => rfl
    | some u =>
      have g1 : H0' b = none := s3.f b g (by unfold Solid; rw [up b n.1]; exact n)
      exact absurd (newc b (k3 b g1 (by rw [q]; exact fun z => nomatch z))) n.1
  have hh : ∀ b, H1 b ≠ none → H' b ≠ none := fun b n => by
    cases g : H1 b with
    | none => exact absurd g n
    | some u => rw [keep b u g]; exact fun z => (nomatch z)
  have hs : ∀ b, Solid H1 b → Solid H' b := fun b n => by
    cases g : H1 b with
    | none => exact absurd g n.1
    | some u =>
      have e : H' b = H1 b := by rw [keep b u g, g]
      unfold Solid
      rw [e]; exact n
  have st : Stp c1 H01 H1 c1 H0b H' := ⟨s3.e0.trans k1, k2, fun b u g _ => keep b u g, hf, fun b z => .inl z, hh, hs⟩
  refine q _ _ w1 c1 H0b H' (s.trans st) (Wd.step p1 st fun b hb => ?_) k4 zR
  cases g : H1 b with
  | none => exact absurd g (w1.live p1 hb).1.1
  | some u => exact keep b u g
/-- C(e, ..) -/
theorem pv_makeM (M : Mk X.K C f) (F : FnOk X.prog X.w X.K X.mg X.base CX k f fd ps (spW X.K S)) (hr : Room (k + 1) X.A) (hm : X.mg x = some (.ref C)) (hb : Binds X.K fd ps dvl) (hd : Vals dvs dvl) (hx : Passes CX X E) (hdd : ∀ H, RpL X.K H dvs dds)
    (h : PAs X (e :: es) w ls fun ds w1 => ∀ xa, S (.raw (.ref xa) :: (ds ++ dds)) (Bg X (oneB xa (.ins C [])) Wd.nil) fun d F' => d = .non ∧ ∃ B' d', F' = Bg X B' Wd.nil ∧ Melt X.K X.prog X.w B' xa d' ∧ R d' w1)
    (hg : Gl X x := by rfl) (hdb : (x == ("__debug__" : Str)) = false := by decide) (he : starEach (e :: es) X.env = (false, eval e X.env) :: starEach es X.env := by rfl) (hpl : (backTo pos (starEach es X.env)).any (·.1) = false := by rfl) : PV X (.Call (.Name x p) (e :: es) [] pos) w ls R :=
  PE.mono (pe_make M F hr hg hm hb hd hx h hdb he hpl) fun σ H Q ⟨c, H0, r, q⟩ => ⟨c, H0, r, fun vs ds w1 c1 H01 H1 s p1 rps z xa dx hx hdx hne => make_melt q s p1 (rps.append (hdd _)) hx hdx hne (z xa)⟩
/-! keywords -/
def PKs (X : Cx) (kws : List Keyword) (w : Wd) (ls : List L) (R : List D → Wd → Prop) : Prop := L2.PK X kws (AI X.K w ls R)
theorem PK.mono {kws : List Keyword} {t t' : TA} (h : L2.PK X kws t) (k : ∀ σ H Q, t' σ H Q → t σ H Q) : L2.PK X kws t' := ⟨fun pos pins s σ H Q I q => h.run pos pins s σ H Q I (k σ H Q q)⟩
def anyK (X : Cx) (kws : List Keyword) : TA := fun σ H Q => ∃ t, L2.PK X kws t ∧ t σ H Q
theorem pk_any {kws : List Keyword} : L2.PK X kws (anyK X kws) := ⟨fun pos pins s σ H Q I ⟨_, h, q⟩ => h.run pos pins s σ H Q I q⟩
theorem pks_nil {R : List D → Wd → Prop} (h : R [] w) : PKs X [] w ls R := PK.mono L2.pk_nil fun σ H Q ⟨c, H0, r, q⟩ => q [] [] w c H0 H (Stp.refl r.ex) r.wd .nil h
theorem pks_cons {nm : Option Str} {kpos : Pos} {kws : List Keyword} {R : List D → Wd → Prop} (h : PV X e w ls fun d w1 => PKs X kws w1 ls fun ds w2 => R (d :: ds) w2) : PKs X (⟨nm, e, kpos⟩ :: kws) w ls R :=
  PK.mono (L2.pk_cons h (pk_any (kws := kws))) fun σ H Q ⟨c, H0, r, q⟩ => ⟨c, H0, r, fun v d w1 c1 H01 H1 s1 p1 rp hb => ⟨_, hb, c1, H01, r.step s1 p1, fun vs ds w2 c2 H02 H2 s2 p2 rps z => q (v :: vs) (d :: ds) w2 c2 H02 H2 (s1.trans s2) p2 (.cons (rp.ex s2.e0) rps) z⟩⟩
theorem kb_all {K : PySem.W.Frag} {x qual : Str} {params : Arguments} {body : List Stmt} {scope : Scope} {kws : List (Str × V)} {f : Addr} {fd : FuncData} {ps ks : List Str} {n : Nat} (F : FunD K x qual params body scope [] kws f fd)
    (h : ∀ (kV doc pm : Value) (an : Option Addr) (cdv ct : Value) (us ws : List Value), us.length = n → ws.length = ks.length → bindArgs (PySem.W.fnOf x qual params body scope .none kV doc pm an cdv ct) ⟨us, ks.zip ws⟩ = pure (ps.zip (us ++ ws))) :
    KBn K fd ps n ks (fun us ws => us ++ ws) (fun vs zs => vs ++ zs) := by
  obtain ⟨oc, od, dV, kV, doc, pm, an, cdv, ct, osl, rfl, lk, hcd, hD, hK⟩ := F.ex
  rcases hD with ⟨_, rfl⟩ | ⟨e, _⟩
  · exact ⟨fun s us ws _ l1 l2 => .of_eq (h kV doc pm an cdv ct us ws l1 l2), fun r1 r2 => r1.append r2⟩
  · exact absurd rfl e
/-- C(k = v, ..), all by keyword -/
theorem pv_makeMK {kws : List Keyword} {g : List Value → List Value → List Value} (M : Mk X.K C f) (F : FnOk X.prog X.w X.K X.mg X.base CX k f fd ps (spW X.K S)) (hr : Room (k + 1) X.A) (hm : X.mg x = some (.ref C)) (hb : KBn X.K fd ps 1 ks g (fun vs zs => vs ++ zs)) (hx : Passes CX X E)
    (h : PKs X kws w ls fun ds w1 => ds.length = ks.length ∧ ∀ xa, S (.raw (.ref xa) :: ds) (Bg X (oneB xa (.ins C [])) Wd.nil) fun d F' => d = .non ∧ ∃ B' d', F' = Bg X B' Wd.nil ∧ Melt X.K X.prog X.w B' xa d' ∧ R d' w1)
    (hg : Gl X x := by rfl) (hall : (backToKw pos (keywordEach kws X.env)).all (·.1.isSome) = true := by rfl) (hks : (backToKw pos (keywordEach kws X.env)).filterMap (·.1) = ks := by rfl) (hdb : (x == ("__debug__" : Str)) = false := by decide)
    (hpl : ((backTo pos (starEach [] X.env)).any (·.1) || (backToKw pos (keywordEach kws X.env)).any (·.1.isNone)) = false := by rfl) : PV X (.Call (.Name x p) [] kws pos) w ls R :=
  PE.mono (pe_makeK0 M F hr hg hm hb hx h hall hks hdb hpl) fun σ H Q ⟨c, H0, r, q⟩ => ⟨c, H0, r, fun vs ds w1 c1 H01 H1 s p1 rps ⟨hl, z⟩ => ⟨rfl, by rw [rps.length]; exact hl, fun xa dx hx hdx hne => make_melt q s p1 rps hx hdx hne (z xa)⟩⟩
end
end Pd
set_option Elab.async false
set_option linter.all false
set_option maxRecDepth 100000
set_option maxHeartbeats 4000000
namespace Pd
open PySem PySem.Spec PyProof.Rows L2
open Evl (Ex)
section
variable {X : Cx} {e a b o i : Expr} {es : List Expr} {w : Wd} {ls : List L} {R : D → Wd → Prop} {pos p : Pos} {N : List L → Wd → Prop} {st : Stmt} {sts : List Stmt} {x m : Str} {F : Wd} {B : Bag}
/-- {k: v} as a cell -/
theorem pv_cellD1 {kx vx : Expr} {dp : Pos} (h : PV X kx w ls fun y w1 => PV X vx w1 ls fun dv w2 => ∃ B F k, w2 = Bg X B F ∧ y = kD k ∧ ∀ p, B p = none → R (.raw (.ref p)) (Bg X (setB B p (.dk [(k, dv)])) F)) : PV X (.Dict [some kx] [vx] dp) w ls R :=
  PE.mono (pe_disp (pps_cons h (pe_any (e := vx)) pps_nil) rfl rfl (by simp) (by simp)) fun σ H Q ⟨c, H0, r, q⟩ => fun n hn => by
    have s0 : Stp c H0 H c H0 (upd H n (.dK [])) := Stp.newO r.ex hn
    have h0 : H0 n = none := none_of_ex r.ex hn
    have nc : ¬ c n := fun z => (w.live r.wd z).1.1 hn
    refine ⟨c, H0, r.step s0 (Wd.newO r.wd hn), fun y dy w1 c1 H01 H1 s1 p1 ry hb => ⟨_, hb, c1, H01, (r.step s0 (Wd.newO r.wd hn)).step s1 p1, fun v dv w2 c2 H02 H2 s2 p2 rv ⟨B, F, k, ew, ek, z⟩ => ?_⟩⟩
    subst ew ek
    have s12 := s1.trans s2
    have g2 : H2 n = some (.dK []) := s12.e n _ upd_same nc
    have g0 : H02 n = none := s12.f n h0 (.of upd_same fun _ z => nomatch z)
    have nc2 : ¬ c2 n := stp_notc s12 nc (by rw [upd_same]; exact fun z => nomatch z)
    refine ⟨g2, [(k, v)], by rw [rp_kD ry]; rfl, by simp, ?_⟩
    have hw : (Bg X B F).p c2 H02 (upd H2 n (.dK (mergeK [] [(k, v)]))) := (Bg X B F).stable p2 (Ex.refl _) (fun a ha => upd_ne fun z => nc2 (by rw [← z]; exact ha)) (fun a ha => ((Bg X B F).live p2 ha).2) upd_alive
    obtain ⟨hB, hw'⟩ := bag_new (p := n) (k := .dk [(k, dv)]) hw g0 nc2 ⟨_, upd_same, rfl, .cons rv .nil⟩
    exact q _ _ _ _ _ _ (((s0.trans s12).put hn g0).grow hn) hw' (.raw _) (z n hB)
/-- a dict with tuple keys is locked for good -/
theorem SI.lockW {R : D → Wd → Prop} {ad : Addr} {ks : List (List Key × D)} (eB : B ad = some (.dt ks)) (Dn : Ends) (σ : St) (H : Hp) (h : SI X.K (Bg X B F) ls N R Dn σ H) : tFrzS (SI X.K (Bg X (setB B ad (.dtF ks)) F) ls N R) Dn σ H := by
  obtain ⟨E, c, H0, r, s, o, q1, q2⟩ := h
  obtain ⟨_, _, gs, g1, g2, g3⟩ := bag_c r.wd eB
  refine ⟨ad, _, g1, trivial, fun od => ?_⟩
  obtain ⟨r', s'⟩ := bag_write (k' := .dtF ks) r eB (ho := .frz od (.dT gs)) (fun _ z => nomatch z) ⟨od, gs, upd_same, g2, g3⟩
  exact ⟨E, c, H0, r', s.trans s', o, q1, q2⟩
theorem ss_lockW {ad : Addr} {ks : List (List Key × D)} (eB : B ad = some (.dt ks)) (h : SVs X sts (Bg X (setB B ad (.dtF ks)) F) ls N R) : SVs X sts (Bg X B F) ls N R := PSs.mono (pss_frz h) fun Dn σ H q => SI.lockW eB Dn σ H q
theorem sv_lockW {ad : Addr} {ks : List (List Key × D)} (eB : B ad = some (.dt ks)) (h : SV X st (Bg X (setB B ad (.dtF ks)) F) ls N R) : SV X st (Bg X B F) ls N R := PS.mono (ps_frz h) fun Dn σ H q => SI.lockW eB Dn σ H q
end
/-! ### melting -/
theorem rpl_swap {K : PySem.W.Frag} {H : Hp} {u : V} {d' : D} (h : Rp K H u d') : ∀ (pre : List D) {post : List D} {vs : List V}, RpL K H vs (pre ++ .raw u :: post) → RpL K H vs (pre ++ d' :: post)
  | [], _, _, .cons h1 h2 => by rw [h1.raw_inv]; exact .cons h h2
  | _ :: r, _, _, .cons h1 h2 => .cons h1 (rpl_swap h r h2)
def cellD : Cell → Option D
  | .lst ds => some (.lst ds)
  | .ins C fs => some (.ins C fs)
  | .dk ks => some (.dk ks)
  | .dtF ks => some (.dt ks)
  | _ => none
theorem melt1 {K : PySem.W.Frag} {P : Program} {wo : World} {H0 H : Hp} {a : Addr} {k : Cell} {d : D} (ex : Ex H0 H) (h0 : H0 a = none) (x : CellOk K P wo H0 H a k) (e : cellD k = some d) :
    ∃ H0', Ex H0 H0' ∧ Ex H0' H ∧ (∀ b, b ≠ a → H0' b = H0 b) ∧ Rp K H0' (.ref a) d := by
  have go : ∀ (u : HO), H a = some u → Ex H0 (upd H0 a u) ∧ Ex (upd H0 a u) H ∧ ∀ b, b ≠ a → upd H0 a u b = H0 b := fun u g => ⟨Ex.new h0, fun b v hb => by
    by_cases z : b = a
    · subst z; rw [upd_same] at hb; cases hb; exact g
    · rw [upd_ne z] at hb; exact ex _ _ hb, fun b z => upd_ne z⟩
  cases k with
  | lst ds => cases e; obtain ⟨vs, h1, h2⟩ := x; obtain ⟨g1, g2, g3⟩ := go _ h1; exact ⟨_, g1, g2, g3, .lst upd_same (h2.ex g1)⟩
  | ins C fs => cases e; obtain ⟨dx, gs, h1, h2, h3⟩ := x; obtain ⟨g1, g2, g3⟩ := go _ h1; exact ⟨_, g1, g2, g3, .ins upd_same h2 (h3.ex g1)⟩
  | dk ks => cases e; obtain ⟨gs, h1, h2, h3⟩ := x; obtain ⟨g1, g2, g3⟩ := go _ h1; exact ⟨_, g1, g2, g3, .dk (.inl upd_same) h2 (h3.ex g1)⟩
  | dt ks => cases e
  | dtF ks => cases e; obtain ⟨o, gs, h1, h2, h3⟩ := x; obtain ⟨g1, g2, g3⟩ := go _ h1; exact ⟨_, g1, g2, g3, .dt upd_same h2 (h3.ex g1)⟩
  | nk ks => cases e
/-- some cells in turn, then the rest -/
structure Mlt (K : PySem.W.Frag) (P : Program) (wo : World) (B : Bag) (H0 H : Hp) (c : Addr → Prop) (H1 : Hp) (done : List Addr) : Prop where
  e0 : Ex H0 H1
  e1 : Ex H1 H
  new : ∀ a, H0 a = none → H1 a ≠ none → c a
  cell : ∀ a k, B a = some k → CellOk K P wo H1 H a k
  left : ∀ a k, B a = some k → a ∉ done → H1 a = none
theorem Mlt.start {K : PySem.W.Frag} {P : Program} {wo : World} {B : Bag} {H0 H : Hp} {c : Addr → Prop} (e : Ex H0 H) (h : (bagW K P wo B Wd.nil).p c H0 H) : Mlt K P wo B H0 H c H0 [] ∧ ∀ a k, B a = some k → c a := by
  obtain ⟨c2, h1, h2, h3, h4⟩ := h
  exact ⟨⟨Ex.refl _, e, fun a z n => absurd z n, fun a k g => (h4 a k g).2, fun a k g _ => (h4 a k g).1⟩, fun a k g => (h1 a).mpr (.inl (by rw [g]; exact fun z => nomatch z))⟩
theorem Mlt.one {K : PySem.W.Frag} {P : Program} {wo : World} {B : Bag} {H0 H : Hp} {c : Addr → Prop} {H1 : Hp} {done : List Addr} {a : Addr} {k : Cell} {d : D} (m : Mlt K P wo B H0 H c H1 done) (hc : ∀ a k, B a = some k → c a) (e : B a = some k) (n : a ∉ done) {k' : Cell} (x : CellOk K P wo H1 H a k') (ed : cellD k' = some d) :
    ∃ H2, Mlt K P wo B H0 H c H2 (a :: done) ∧ Ex H1 H2 ∧ Rp K H2 (.ref a) d := by
  obtain ⟨H2, g1, g2, g3, g4⟩ := melt1 m.e1 (m.left a k e n) x ed
  refine ⟨H2, ⟨m.e0.trans g1, g2, fun b z nz => ?_, fun b kk g => (m.cell b kk g).ex g1 rfl, fun b kk g nb => ?_⟩, g1, g4⟩
  · by_cases q : b = a
    · subst q; exact hc _ _ e
    · rw [g3 b q] at nz; exact m.new b z nz
  · rw [g3 b fun z => nb (by rw [z]; exact List.mem_cons_self ..)]
    exact m.left b kk g fun z => nb (List.mem_cons_of_mem _ z)
end Pd
set_option Elab.async false
set_option linter.all false
set_option maxRecDepth 100000
set_option maxHeartbeats 4000000
namespace FH
open PySem PySem.Spec PyProof.Rows L2 Pd
open Evl (Ex)
section
variable {X : Cx} {e a b o : Expr} {es : List Expr} {w : Wd} {ls : List L} {R : D → Wd → Prop} {pos p : Pos} {k : Nat} {f C : Addr} {ps : List Str} {S : List D → Wd → (D → Wd → Prop) → Prop} {S0 : List D → (D → Prop) → Prop} {x m : Str}
theorem pas_map {R R' : List D → Wd → Prop} (h : PAs X es w ls R) (k : ∀ ds w, R ds w → R' ds w) : PAs X es w ls R' := PA.mono h fun σ H Q ⟨c, H0, r, q⟩ => ⟨c, H0, r, fun vs ds w' c' H0' H' s p rp z => q vs ds w' c' H0' H' s p rp (k _ _ z)⟩
theorem pv_calW (c : Cal X.prog X.w X.K X.mg X.base k f ps [] (spW X.K S)) (hr : Room k X.A) (hm : X.mg x = some (.ref f)) (h : PAs X (e :: es) w ls fun ds w1 => ∃ F G, Frm w1 F G ∧ S ds F fun d F' => R d (G F')) (hg : Gl X x := by rfl) (hdb : (x == ("__debug__" : Str)) = false := by decide)
    (he : starEach (e :: es) X.env = (false, eval e X.env) :: starEach es X.env := by rfl) (hpl : (backTo pos (starEach es X.env)).any (·.1) = false := by rfl) : PV X (.Call (.Name x p) (e :: es) [] pos) w ls R := by
  obtain ⟨fd, ds, F, hb, hd, kp⟩ := c
  exact pv_callW (dds := []) F hr hm kp hb hd pass0 (fun _ => .nil) (pas_map h fun ds w1 z => by rw [List.append_nil]; exact z) hg hdb he hpl
theorem pv_calWm {apos : Pos} {pl : Sem Bool} (c : Cal X.prog X.w X.K X.mg X.base k f ps [] (spW X.K S)) (hr : Room k X.A) (hC : Cls X.K C) (hm : Meth X.K C m f) (h : PV X o w ls fun x w1 => ∃ ad, x = .raw (.ref ad) ∧ HasIns w1 ad C m ∧ PAs X (e :: es) w1 ls fun ds w2 => ∃ F G, Frm w2 F G ∧ S (x :: ds) F fun d F' => R d (G F'))
    (he : starEach (e :: es) X.env = (false, eval e X.env) :: starEach es X.env := by rfl) (hpl : (backTo pos (starEach es X.env)).any (·.1) = false := by rfl)
    (ht : eval (.Call (.Attribute o m apos) (e :: es) [] pos) X.env = (do
      let ov ← eval o X.env
      standAt apos.atName
      let (f, first) ← holding [ov] (getMethod ov m pl)
      callWith pos f first (backTo pos (starEach (e :: es) X.env)) (backToKw pos (keywordEach [] X.env))) := by rfl) : PV X (.Call (.Attribute o m apos) (e :: es) [] pos) w ls R := by
  obtain ⟨fd, ds, F, hb, hd, kp⟩ := c
  exact pv_methW (dds := []) hC hm F hr hb hd pass0 (fun _ => .nil) (h.imp fun x w1 ⟨ad, e1, hi, z⟩ => ⟨ad, e1, hi, pas_map z fun ds w2 z => by rw [List.append_nil]; exact z⟩) he hpl ht
theorem pv_calWm0 {apos : Pos} {pl : Sem Bool} (c : Cal X.prog X.w X.K X.mg X.base k f ps [] (spW X.K S)) (hr : Room k X.A) (hC : Cls X.K C) (hm : Meth X.K C m f) (h : PV X o w ls fun x w1 => ∃ ad F G, x = .raw (.ref ad) ∧ HasIns w1 ad C m ∧ Frm w1 F G ∧ S [x] F fun d F' => R d (G F'))
    (ht : eval (.Call (.Attribute o m apos) [] [] pos) X.env = (do
      let ov ← eval o X.env
      standAt apos.atName
      let (f, first) ← holding [ov] (getMethod ov m pl)
      callWith pos f first (backTo pos (starEach [] X.env)) (backToKw pos (keywordEach [] X.env))) := by rfl) : PV X (.Call (.Attribute o m apos) [] [] pos) w ls R := by
  obtain ⟨fd, ds, F, hb, hd, kp⟩ := c
  exact pv_methW0 (dds := []) hC hm F hr hb hd pass0 (fun _ => .nil) h ht
theorem pv_calg {apos : Pos} {pl : Sem Bool} (c : Cal X.prog X.w X.K X.mg X.base k f ps [] (spD X.K S0)) (hr : Room k X.A) (hC : Cls X.K C) (hm : Meth X.K C m f)
    (h : PV X o w ls fun x w1 => ∃ ad, x = .raw (.ref ad) ∧ HasIns w1 ad C m ∧ PAs X (e :: es) w1 ls fun ds w2 => ∃ B F fs, w2 = Bg X B F ∧ B ad = some (.ins C fs) ∧ S0 (.ins C fs :: ds) fun d => Plain d ∧ R d w2)
    (he : starEach (e :: es) X.env = (false, eval e X.env) :: starEach es X.env := by rfl) (hpl : (backTo pos (starEach es X.env)).any (·.1) = false := by rfl)
    (ht : eval (.Call (.Attribute o m apos) (e :: es) [] pos) X.env = (do
      let ov ← eval o X.env
      standAt apos.atName
      let (f, first) ← holding [ov] (getMethod ov m pl)
      callWith pos f first (backTo pos (starEach (e :: es) X.env)) (backToKw pos (keywordEach [] X.env))) := by rfl) : PV X (.Call (.Attribute o m apos) (e :: es) [] pos) w ls R := by
  obtain ⟨fd, ds, F, hb, hd, kp⟩ := c
  exact pv_glance hC hm F hr hb hd pass0 h he hpl ht
theorem pv_calg0 {apos : Pos} {pl : Sem Bool} (c : Cal X.prog X.w X.K X.mg X.base k f ps [] (spD X.K S0)) (hr : Room k X.A) (hC : Cls X.K C) (hm : Meth X.K C m f)
    (h : PV X o w ls fun x w1 => ∃ ad B F fs, x = .raw (.ref ad) ∧ w1 = Bg X B F ∧ B ad = some (.ins C fs) ∧ fs.lookup m = none ∧ S0 [.ins C fs] fun d => Plain d ∧ R d w1)
    (ht : eval (.Call (.Attribute o m apos) [] [] pos) X.env = (do
      let ov ← eval o X.env
      standAt apos.atName
      let (f, first) ← holding [ov] (getMethod ov m pl)
      callWith pos f first (backTo pos (starEach [] X.env)) (backToKw pos (keywordEach [] X.env))) := by rfl) : PV X (.Call (.Attribute o m apos) [] [] pos) w ls R := by
  obtain ⟨fd, ds, F, hb, hd, kp⟩ := c
  exact pv_glance0 hC hm F hr hb hd pass0 h ht
theorem pv_calgp {g pa : Addr} (c : Cal X.prog X.w X.K X.mg X.base k g ps [] (spD X.K S0)) (hr : Room (k + 1) X.A) (hC : Cls X.K C) (hp : PropOf X.K C m pa g)
    (h : PV X o w ls fun x w1 => ∃ ad B F fs, x = .raw (.ref ad) ∧ w1 = Bg X B F ∧ B ad = some (.ins C fs) ∧ S0 [.ins C fs] fun d => Plain d ∧ R d w1) (hab : attributeBase o m X.env (eval o X.env) = eval o X.env := by rfl) : PV X (.Attribute o m pos) w ls R := by
  obtain ⟨fd, ds, F, hb, hd, kp⟩ := c
  exact pv_glanceP hC hp F hr hb hd pass0 h hab
/-- C(e, ..), mutable behind -/
theorem pv_calmk {f : Addr} (c : Cal X.prog X.w X.K X.mg X.base k f ps [] (spW X.K S)) (M : Mk X.K C f) (hr : Room (k + 1) X.A) (hm : X.mg x = some (.ref C))
    (h : PAs X (e :: es) w ls fun ds w1 => ∀ xa, S (.raw (.ref xa) :: ds) (Bg X (oneB xa (.ins C [])) Wd.nil) fun d F' => d = .non ∧ R (.raw (.ref xa)) (Wd.sep F' w1))
    (hg : Gl X x := by rfl) (hdb : (x == ("__debug__" : Str)) = false := by decide) (he : starEach (e :: es) X.env = (false, eval e X.env) :: starEach es X.env := by rfl) (hpl : (backTo pos (starEach es X.env)).any (·.1) = false := by rfl) : PV X (.Call (.Name x p) (e :: es) [] pos) w ls R := by
  obtain ⟨fd, ds, F, hb, hd, kp⟩ := c
  exact pv_makeW (dds := []) M F hr hm hb hd pass0 (fun _ => .nil) (pas_map h fun ds w1 z => by rw [List.append_nil]; exact z) hg hdb he hpl
/-- C(e, ..), whole behind -/
theorem pv_calmm {f : Addr} (c : Cal X.prog X.w X.K X.mg X.base k f ps [] (spW X.K S)) (M : Mk X.K C f) (hr : Room (k + 1) X.A) (hm : X.mg x = some (.ref C))
    (h : PAs X (e :: es) w ls fun ds w1 => ∀ xa, S (.raw (.ref xa) :: ds) (Bg X (oneB xa (.ins C [])) Wd.nil) fun d F' => d = .non ∧ ∃ B' d', F' = Bg X B' Wd.nil ∧ Melt X.K X.prog X.w B' xa d' ∧ R d' w1)
    (hg : Gl X x := by rfl) (hdb : (x == ("__debug__" : Str)) = false := by decide) (he : starEach (e :: es) X.env = (false, eval e X.env) :: starEach es X.env := by rfl) (hpl : (backTo pos (starEach es X.env)).any (·.1) = false := by rfl) : PV X (.Call (.Name x p) (e :: es) [] pos) w ls R := by
  obtain ⟨fd, ds, F, hb, hd, kp⟩ := c
  exact pv_makeM (dds := []) M F hr hm hb hd pass0 (fun _ => .nil) (pas_map h fun ds w1 z => by rw [List.append_nil]; exact z) hg hdb he hpl
end
section
variable {X : Cx} {e : Expr} {w : Wd} {ls : List L} {R : D → Wd → Prop} {pos p : Pos}
/-- len of a dict cell, tuple keys -/
theorem pv_lenTW (hm : X.mg "len" = none) (h : PV X e w ls fun d w1 => ∃ ad B F ks, d = .raw (.ref ad) ∧ w1 = Bg X B F ∧ B ad = some (.dt ks) ∧ R (.int ks.length) w1) (hg : Gl X "len" := by rfl)
    (he : starEach [e] X.env = (false, eval e X.env) :: starEach [] X.env := by rfl) (hpl : (backTo pos (starEach [] X.env)).any (·.1) = false := by rfl) : PV X (.Call (.Name "len" p) [e] [] pos) w ls R :=
  PE.mono (pe_callB call_len_dT hg hm PySem.boot_len (pa_cons h pa_nil he) (by decide) (by decide) he hpl) fun σ H Q ⟨c, H0, r, q⟩ => ⟨c, H0, r, fun v d w' c' H0' H' s pw rp ⟨ad, B, F, ks, e1, ew, eB, z⟩ => by
    subst e1 ew
    rw [rp.raw_inv]
    obtain ⟨_, _, gs, g1, g2, g3⟩ := bag_c pw eB
    have hl' : gs.length = ks.length := by
      have := congrArg List.length g2
      simpa using this
    exact ⟨ad, gs, rfl, g1, by rw [hl']; exact q _ _ _ c' H0' H' s pw (.int _) z⟩⟩
end
/-- a def without defaults, with a world -/
theorem cal0W {P : Program} {wo : World} {K : PySem.W.Frag} {mg : Str → Option Value} {base : Heap} {x qual : Str} {params : Arguments} {body : List Stmt} {scope : Scope} {f : Addr} {N ps : List Str} {k : Nat} {S : List D → Wd → (D → Wd → Prop) → Prop}
    (F : ∃ fd, FunD K x qual params body scope [] [] f fd) (Sc : FnScope N ps scope) (len : ∀ ds w R, S ds w R → ds.length = ps.length)
    (hbind : ∀ (kV doc pm : Value) (an : Option Addr) (cdv ct : Value) (us : List Value), us.length = ps.length → bindArgs (PySem.W.fnOf x qual params body scope .none kV doc pm an cdv ct) ⟨us, []⟩ = pure (ps.zip us))
    (hb : ∀ (cdv : Value) (A : Around) (outer : List Env) (s : Shared) (H : Hp) (E : XK), Room k (A.deeper (envOfC qual scope s.heap.objs.size f cdv)) → ∀ (ds : List D) (w : Wd) (R : D → Wd → Prop), S ds w R →
      SVs (XC P wo K mg base N qual scope f cdv A outer s H E) body w (startL N ds) (fun _ w' => R .non w') R) : Cal P wo K mg base (k + 1) f ps [] (spW K S) := by
  obtain ⟨fd, F⟩ := F
  exact ⟨fd, [], fn_world F Sc len hb, F.bindsN hbind, .nil, F.kp⟩
end FH
set_option Elab.async false
set_option linter.all false
set_option maxRecDepth 100000
set_option maxHeartbeats 4000000
namespace FH
open PySem PySem.Spec PyProof.Rows L2 Pd Fw
variable {P : Program} {wo : World} {K : PySem.W.Frag} {mg : Str → Option Value} {base : Heap}
theorem plains_map {α : Type} {f : α → D} : ∀ {l : List α}, (∀ x ∈ l, Plain (f x)) → Plains (l.map f)
  | [], _ => .nil
  | x :: l, h => .cons (h x List.mem_cons_self) (plains_map fun y hy => h y (List.mem_cons_of_mem _ hy))
theorem plains_nats (ns : List Nat) : Plains (natsD ns) := plains_map fun _ _ => .int _
theorem plain_rk (k : Rk) : Plain (rkD k) := .tup (.cons (.str _) (.cons (.str _) (.cons (.int _) .nil)))
theorem plain_rv (v : Rv) : Plain (rvD v) := .tup (.cons (.str _) (.cons (.tup (plains_nats _)) .nil))
theorem hasIns_bag {B : Bag} {F : Wd} {ad C : Addr} {fs : List (Str × D)} {m : Str} (e : B ad = some (.ins C fs)) (l : fs.lookup m = none) : HasIns (bagW K P wo B F) ad C m := fun c H0 H h => by
  obtain ⟨_, _, dx, gs, g1, g2, _⟩ := bag_c h e
  exact ⟨dx, gs, g1, lookup_none g2 l⟩
/-! Book.__init__ -/
def bookF (b : Pt) (t : Addr) : List (Str × D) := [("words", strsD b.ws), ("places", plsD b.pl), ("known", .dk (knownD b.pl)), ("start", .str b.st), ("table", .raw (.ref t))]
def S_Book_init (K : PySem.W.Frag) (P : Program) (wo : World) (C : Addr) (ds : List D) (w : Wd) (R : D → Wd → Prop) : Prop := ∃ (xa : Addr) (b : Pt) (wd : D), ds = [.raw (.ref xa), wd, .lst (b.pl.map placeD), .str b.st, .lst (b.rl.map fun r => rule5D r.1 r.2)] ∧
  (wd = strsD b.ws ∨ wd = .lst (b.ws.map .str)) ∧ WF b ∧ w = bagW K P wo (oneB xa (.ins C [])) Wd.nil ∧ ∀ (B : Bag) (t : Addr), xa ≠ t → B xa = some (.ins C (bookF b t)) → B t = some (.dtF (tabD b.rl)) → R .non (bagW K P wo B Wd.nil)
theorem ok_Book_init0 (c : Ctx K mg) {fd : FuncData} (F : FunD K "__init__" "Book.__init__" (defArgs s_Book_init) (defBody s_Book_init) (defScope s_Book_init) [] [] (He.ma K (He.ga K "Book") "__init__") fd) :
    FnOk P wo K mg base CX0 4 (He.ma K (bC K) "__init__") fd ["self", "words", "places", "start", "rules"] (spW K (S_Book_init K P wo (bC K))) := by
  refine fn_world F sc_Book_init (fun ds w R ⟨_, _, _, e, _⟩ => by rw [e]; rfl) fun cdv A outer s H E hr ds w R hS => ?_
  obtain ⟨xa, b, wd, rfl, hwd, W, rfl, hR⟩ := hS
  have hu := hu_of hr
  have w3 := W.w3
  have w1 := W.w1
  have p7 := W.p7
  obtain ⟨sp, hsp, esp, hs0⟩ := W.st
  have vst : valD (knownD b.pl) (.inr b.st) = some (placeD sp) := by rw [known_val, ← esp, pof_of W.pn hsp]; rfl
  have hwd2 : IsT wd (b.ws.map .str) ∨ wd = .lst (b.ws.map .str) := hwd.imp (fun e => by rw [e]; exact .tup _) id
  refine ss_cons <| s_expr <| pv_cal (ok_require_names c) (hr.mono (by decide)) c.g_require_names <| pas_cons <| pv_nm 1 rfl <| pas_cons <| pv_gint c.k_MOST_WORDS <| pas_nil ⟨wd, b.ws, 3, rfl, hwd2, w1, by omega, by omega, W.wv, W.wn, ?_⟩
  -- self.words
  refine ss_cons <| s_setF (PV.imp (R := fun d w' => w' = bagW K P wo (oneB xa (.ins (bC K) [])) Wd.nil ∧ d = strsD b.ws) ?_ fun d w' ⟨e1, e2⟩ => ?_)
  · rcases hwd with hd | hd
    · subst hd; exact pv_tupT c.z_tuple <| pv_nm 1 rfl ⟨_, .tup _, rfl, rfl⟩
    · exact pv_tupQ c.z_tuple <| pq_pv <| pv_nm 1 rfl ⟨_, hd, rfl, rfl⟩
  subst e1 e2
  refine pv_nm 0 rfl ⟨xa, _, _, _, _, rfl, rfl, setB_same, c.c_Book, c.n_Book_words, Nat.le_of_ble_eq_true rfl, ?_⟩
  -- self.places
  refine ss_cons <| s_setF <| pv_tupQ c.z_tuple <| pq_pn <| pn_lcM [("place", 5)] (fun d => d) rfl sc_Book_init.nd (blkOk_by (show blkC N_Book_init (defScope s_Book_init) _ _ = true by decide +kernel)) <| i_list <| pv_nm 2 rfl ⟨_, rfl, by rw [List.length_map]; omega, fun d2 hd2 => ?_, ?_⟩
  · obtain ⟨p, hpm, rfl⟩ := List.mem_map.mp hd2
    exact fun _ _ _ _ _ => g_nm 5 (fun _ _ _ _ _ => pv_cal (ok_checked_place c) (hr.mono (by decide)) c.g_checked_place <| pas_cons <| pv_nm 5 rfl <| pas_nil ⟨p, rfl, W.ps p hpm, rfl, rfl⟩) sc_Book_init.nd
  rw [List.map_id']
  refine pv_nm 0 rfl ⟨xa, _, _, _, _, rfl, rfl, setB_same, c.c_Book, c.n_Book_places, Nat.le_of_ble_eq_true rfl, ?_⟩
  -- require_names(self.place_names)
  have pl1 : 1 ≤ b.pl.length := List.length_pos_of_mem hsp
  refine ss_cons <| s_expr <| pv_cal (ok_require_names c) (hr.mono (by decide)) c.g_require_names <| pas_cons <| pv_calgp (ok_Book_place_names c) (hr.mono (by decide)) c.c_Book c.p_place_names <| pv_nm 0 rfl ⟨xa, _, _, _, rfl, rfl, setB_same, _, b.pl, rfl, rfl, p7, ?_, ?_⟩
  · exact .tup (plains_map fun _ _ => .str _)
  refine pas_cons <| pv_gint c.k_MOST_PLACES <| pas_nil ⟨_, b.pl.map (·.1), 60, rfl, .inl (by rw [List.map_map]; exact .tup _), by rw [List.length_map]; exact pl1, by rw [List.length_map]; omega, by rw [List.length_map]; omega, fun s hs => ?_, W.pn, ?_⟩
  · obtain ⟨p, hp, rfl⟩ := List.mem_map.mp hs; exact W.pv p hp
  -- self.known
  refine ss_cons <| s_setF <| pv_pk <| pk_dcF [("place", 5)] (fun d => match d with | .tup (.str x :: _) => .inr x | _ => .inl 0) (fun d => d) rfl sc_Book_init.nd (blkOk_by (show blkC N_Book_init (defScope s_Book_init) _ _ = true by decide +kernel)) <| i_tup <| pv_fldW <| pv_nm 0 rfl ⟨xa, _, _, _, _, _, rfl, rfl, setB_same, c.c_Book, c.n_Book_places, rfl, _, .tup _, by rw [List.length_map]; omega, fun d2 hd2 => ?_, ?_⟩
  · obtain ⟨p, hpm, rfl⟩ := List.mem_map.mp hd2
    exact fun _ _ _ _ _ => g_nm 5 (fun _ _ _ _ _ => pv_ixT <| pv_nm 5 rfl <| pv_int ⟨_, 0, _, .tup _, rfl, rfl, rfl, rfl, fun _ _ _ _ _ => pv_nm 5 rfl ⟨rfl, rfl⟩⟩) sc_Book_init.nd
  have ek : mkD [] (fun d => match d with | .tup (.str x :: _) => (.inr x : Key) | _ => .inl 0) (fun d => d) (b.pl.map placeD) = knownD b.pl := by
    have nd := nd_inr W.pn
    rw [List.map_map] at nd
    rw [mkD_new _ _ _ _ (by show ((b.pl.map placeD).map _).Nodup; rw [List.map_map]; exact nd)]
    rw [List.nil_append, List.map_map]; rfl
  rw [ek]
  refine pv_nm 0 rfl ⟨xa, _, _, _, _, rfl, rfl, setB_same, c.c_Book, c.n_Book_known, Nat.le_of_ble_eq_true rfl, ?_⟩
  -- require(start in self.known ..)
  refine ss_cons <| s_expr <| pv_cal (ok_require c) (hr.mono (by decide)) c.g_require <| pas_cons <| pv_and <| pv_c <| dk_in hu <| pv_nm 3 rfl <| pv_fldW <| pv_nm 0 rfl ⟨xa, _, _, _, _, _, rfl, rfl, setB_same, c.c_Book, c.n_Book_known, rfl, _, .inr b.st, rfl, rfl, true, by rw [vst]; rfl, ?_⟩
  refine pv_one <| pv_c <| c_eqI <| pv_ixT <| pv_dget hu <| pv_fldW <| pv_nm 0 rfl ⟨xa, _, _, _, _, _, rfl, rfl, setB_same, c.c_Book, c.n_Book_known, rfl, pv_nm 3 rfl ⟨_, .inr b.st, _, rfl, rfl, vst, pv_int ⟨_, 1, _, .tup _, rfl, rfl, pv_int ⟨_, 0, rfl, rfl, pas_nil ⟨by rw [hs0]; rfl, ?_⟩⟩⟩⟩⟩
  -- self.start, self.table
  refine ss_cons <| s_setF <| pv_nm 3 rfl <| pv_nm 0 rfl ⟨xa, _, _, _, _, rfl, rfl, setB_same, c.c_Book, c.n_Book_start, Nat.le_of_ble_eq_true rfl, ?_⟩
  refine ss_cons <| s_setF <| pv_cellT fun t ht => ?_
  have hxt : xa ≠ t := fun z => by rw [← z, setB_same] at ht; cases ht
  refine pv_nm 0 rfl ⟨xa, _, _, _, _, rfl, rfl, (setB_ne hxt).trans setB_same, c.c_Book, c.n_Book_table, Nat.le_of_ble_eq_true rfl, ?_⟩
  -- the rules
  refine ss_cons <| s_for (fun k ls' w' => ∃ B x6 x7 x8, w' = bagW K P wo B Wd.nil ∧ B xa = some (.ins (bC K) (bookF b t)) ∧ B t = some (.dt (tabD (b.rl.take k))) ∧ ls' = [.im (.raw (.ref xa)), .im wd, .im (.lst (b.pl.map placeD)), .im (.str b.st), .im (.lst (b.rl.map fun r => rule5D r.1 r.2)), .no, x6, x7, x8]) PassesOwn.never rfl <| i_list <| pv_nm 4 rfl ⟨_, rfl, ⟨_, _, _, _, rfl, setB_same, (setB_ne hxt.symm).trans setB_same, rfl⟩, ?_, ?_⟩
  · rintro k d ls' w' hd ⟨B, x6, x7, x8, rfl, hB1, hB2, rfl⟩
    obtain ⟨r, hr1, rfl⟩ : ∃ r, b.rl[k]? = some r ∧ d = rule5D r.1 r.2 := by
      rw [List.getElem?_map] at hd
      cases g : b.rl[k]? with
      | none => rw [g] at hd; cases hd
      | some r => rw [g] at hd; cases hd; exact ⟨r, rfl, rfl⟩
    have hrm := List.mem_of_getElem? hr1
    obtain ⟨p, hp, ep, hw, hc⟩ := asked_mem.mp ((W.ka r.1).mp (List.mem_map.mpr ⟨r, hrm, rfl⟩))
    have ok := W.kv r hrm p hp ep
    have hn : r.2.2.length ≤ 7 := by
      have := nodup_bound ok.nd (m := p.2.1) fun n hn => (ok.src n hn).2
      have := W.ps p hp
      omega
    have hlen := asked_len W
    have hk : k < b.rl.length := (List.getElem?_eq_some_iff.mp hr1).1
    have hl2 : b.rl.length = b.asked.length := by
      have := len_eq_of_mem W.kn (asked_nd W.wn W.pn) W.ka
      rwa [List.length_map] at this
    have new : r.1 ∉ (b.rl.take k).map (·.1) := fun z => by
      have nd := W.kn
      rw [← List.take_append_drop k b.rl, List.map_append, List.nodup_append] at nd
      refine nd.2.2 _ z _ (List.mem_map.mpr ⟨r, ?_, rfl⟩) rfl
      exact List.mem_of_getElem? (i := 0) (by rw [List.getElem?_drop]; exact hr1)
    have vno : valD (tabD (b.rl.take k)) (keyL r.1) = none := by
      rw [tab_val]
      cases g : look (b.rl.take k) r.1 with
      | none => rfl
      | some v => exact absurd (List.mem_map.mpr ⟨_, look_mem g, rfl⟩) new
    refine g_nm 6 ?_ sc_Book_init.nd
    refine ss_cons <| s_asg <| pv_calg (pl := _) (ok_Book_checked_rule c) (hr.mono (by decide)) c.c_Book c.t_Book_checked_rule <| pv_nm 0 rfl ⟨xa, rfl, hasIns_bag hB1 rfl, pas_cons <| pv_nm 6 rfl <| pas_nil ⟨B, _, _, rfl, hB1, _, b.pl, b.ws, r.1, r.2, p, rfl, rfl, rfl, W.pn, hp, ep, hc, ok, hw, by omega, .tup (.cons (plain_rk _) (.cons (plain_rv _) .nil)), ?_⟩⟩
    refine g_tup (.tup _) (gs_cons (g_nm 7 (gs_cons (g_nm 8 (gs_nil ?_) sc_Book_init.nd)) sc_Book_init.nd)) rfl
    refine ss_cons <| s_expr <| pv_cal (ok_require c) (hr.mono (by decide)) c.g_require <| pas_cons <| pv_c <| dt_notinW hu <| pv_nm 7 rfl <| pv_fldW <| pv_nm 0 rfl ⟨xa, _, _, _, _, _, rfl, rfl, hB1, c.c_Book, c.n_Book_table, rfl, t, B, _, _, keyL r.1, rfl, rfl, hB2, rfl, pas_nil ⟨by rw [vno]; rfl, ?_⟩⟩
    refine ss_one <| s_putTW hu <| pv_nm 8 rfl <| pv_fldW <| pv_nm 0 rfl ⟨xa, _, _, _, _, _, rfl, rfl, hB1, c.c_Book, c.n_Book_table, rfl, pv_nm 7 rfl ⟨t, B, _, _, keyL r.1, rfl, rfl, hB2, rfl, ?_, _, _, _, _, rfl, (setB_ne hxt).trans hB1, ?_, rfl⟩⟩
    · unfold tabD; rw [List.length_map, List.length_take]; omega
    · rw [setB_same]
      have hnew : keyL r.1 ∉ (tabD (b.rl.take k)).map (·.1) := fun z => by
        unfold tabD at z
        rw [List.map_map] at z
        obtain ⟨q, hq, eq⟩ := List.mem_map.mp z
        exact new (List.mem_map.mpr ⟨q, hq, keyL_inj eq⟩)
      rw [putD_new hnew, List.take_succ, hr1]
      unfold tabD
      rw [List.map_append]; rfl
  · rintro ls' w' ⟨B, x6, x7, x8, rfl, hB1, hB2, rfl⟩
    rw [List.length_map, List.take_length] at hB2
    have hl2 : b.rl.length = b.asked.length := by
      have := len_eq_of_mem W.kn (asked_nd W.wn W.pn) W.ka
      rwa [List.length_map] at this
    have hal : (b.pl.flatMap fun p => askW b.ws p).length = b.asked.length := by rw [← asked_D b.pl b.ws b.st b.rl, List.length_map]
    refine ss_cons <| s_expr <| pv_cal (ok_require c) (hr.mono (by decide)) c.g_require <| pas_cons <| pv_c <| c_eqI <| pv_lenTW c.z_len <| pv_fldW <| pv_nm 0 rfl ⟨xa, _, _, _, _, _, rfl, rfl, hB1, c.c_Book, c.n_Book_table, rfl, t, B, _, _, rfl, rfl, hB2, ?_⟩
    refine pv_lenQ c.z_len <| pq_pv <| pv_calg0 (pl := _) (ok_Book_asked c) (hr.mono (by decide)) c.c_Book c.t_Book_asked <| pv_nm 0 rfl ⟨xa, _, _, _, rfl, rfl, hB1, rfl, _, b.pl, b.ws, rfl, rfl, rfl, w3, p7, W.ps, ?_, _, rfl, _, _, rfl, rfl, ?_⟩
    · rw [← asked_D b.pl b.ws b.st b.rl]
      exact .lst (plains_map fun k _ => plain_rk k)
    · refine pas_nil ⟨by rw [hal, decide_eq_true]; unfold tabD; rw [List.length_map, hl2], ?_⟩
      refine ss_lockW hB2 (ss_nil ?_)
      exact hR _ t hxt ((setB_ne hxt).trans hB1) setB_same
end FH
set_option Elab.async false
set_option linter.all false
set_option maxRecDepth 100000
set_option maxHeartbeats 4000000
namespace FH
open PySem PySem.Spec PyProof.Rows L2 Pd Fw
open Evl (Ex)
variable {P : Program} {wo : World} {K : PySem.W.Frag} {mg : Str → Option Value} {base : Heap}
theorem book_melt {B : Bag} {xa t C : Addr} {b : Pt} (hxt : xa ≠ t) (hB1 : B xa = some (.ins C (bookF b t))) (hB2 : B t = some (.dtF (tabD b.rl))) : Melt K P wo B xa (bookD C b) := fun c H0 H e h => by
  obtain ⟨m0, hc⟩ := Mlt.start e h
  obtain ⟨H1, m1, e1, r1⟩ := m0.one hc hB2 (fun z => nomatch z) (m0.cell t _ hB2) rfl
  have x1 : CellOk K P wo H1 H xa (.ins C [("words", strsD b.ws), ("places", plsD b.pl), ("known", .dk (knownD b.pl)), ("start", .str b.st), ("table", .dt (tabD b.rl))]) := by
    obtain ⟨dx, gs, g1, g2, g3⟩ := m1.cell xa _ hB1
    exact ⟨dx, gs, g1, g2, rpl_swap r1 [strsD b.ws, plsD b.pl, .dk (knownD b.pl), .str b.st] (post := []) g3⟩
  obtain ⟨H2, m2, e2, r2⟩ := m1.one hc hB1 (fun z => hxt (List.mem_singleton.mp z)) x1 rfl
  exact ⟨H2, m2.e0, m2.e1, m2.new, r2⟩
section
variable {X : Cx} {w : Wd} {ls : List L} {R : D → Wd → Prop} {pos p : Pos} {kws : List Keyword}
/-- Book(words = .., places = .., start = .., rules = ..) -/
theorem pv_book (c : Ctx X.K X.mg) (hr : Room 5 X.A) (h : PKs X kws w ls fun ds w1 => ∃ (b : Pt) (wd : D), ds = [wd, .lst (b.pl.map placeD), .str b.st, .lst (b.rl.map fun r => rule5D r.1 r.2)] ∧ (wd = strsD b.ws ∨ wd = .lst (b.ws.map .str)) ∧ WF b ∧ R (bookD (bC X.K) b) w1)
    (hg : Gl X "Book" := by rfl) (hall : (backToKw pos (keywordEach kws X.env)).all (·.1.isSome) = true := by rfl) (hks : (backToKw pos (keywordEach kws X.env)).filterMap (·.1) = (["words", "places", "start", "rules"] : List Str) := by rfl)
    (hpl : ((backTo pos (starEach [] X.env)).any (·.1) || (backToKw pos (keywordEach kws X.env)).any (·.1.isNone)) = false := by rfl) : PV X (.Call (.Name "Book" p) [] kws pos) w ls R := by
  obtain ⟨fd, F⟩ := c.f_Book_init
  refine pv_makeMK (ks := ["words", "places", "start", "rules"]) (E := E0) c.m_Book (ok_Book_init0 c F) hr c.g_Book (kb_all F fun _ _ _ _ _ _ us ws h1 h2 => match us, ws, h1, h2 with | [_], [_, _, _, _], _, _ => rfl) pass0 ?_ hg hall hks (by decide) hpl
  refine PK.mono h fun σ H Q ⟨cc, H0, r, q⟩ => ⟨cc, H0, r, fun vs ds w' c' H0' H' s pw rp ⟨b, wd, e1, hw, W, z⟩ => q vs ds w' c' H0' H' s pw rp ⟨by rw [e1]; rfl, fun xa => ?_⟩⟩
  subst e1
  exact ⟨xa, b, wd, rfl, hw, W, rfl, fun B t hxt hB1 hB2 => ⟨rfl, B, _, rfl, book_melt hxt hB1 hB2, z⟩⟩
end
end FH
set_option Elab.async false
set_option linter.all false
set_option maxRecDepth 100000
set_option maxHeartbeats 4000000
namespace Fw
open PySem PySem.Spec PyProof.Rows L2 Pd
theorem WF.perm {b : Pt} (W : WF b) {pl : List Pl} (h : pl.Perm b.pl) : WF ⟨b.ws, pl, b.st, b.rl⟩ where
  w1 := W.w1
  w3 := W.w3
  wn := W.wn
  wv := W.wv
  p7 := by show pl.length ≤ 60; rw [h.length_eq]; exact W.p7
  pn := (h.map _).nodup_iff.mpr W.pn
  pv := fun p hp => W.pv p (h.mem_iff.mp hp)
  ps := fun p hp => W.ps p (h.mem_iff.mp hp)
  st := let ⟨p, hp, e⟩ := W.st; ⟨p, h.mem_iff.mpr hp, e⟩
  kn := W.kn
  ka := fun k => (W.ka k).trans <| by
    rw [asked_mem, asked_mem]
    exact ⟨fun ⟨p, hp, e⟩ => ⟨p, h.mem_iff.mpr hp, e⟩, fun ⟨p, hp, e⟩ => ⟨p, h.mem_iff.mp hp, e⟩⟩
  kv := fun r hr p hp e => by
    have ok := W.kv r hr p (h.mem_iff.mp hp) e
    obtain ⟨g, hg, eg⟩ := ok.goal
    exact ⟨⟨g, h.mem_iff.mpr hg, eg⟩, ok.nd, ok.src⟩
end Fw
namespace FH
open PySem PySem.Spec PyProof.Rows L2 Pd Fw
variable {P : Program} {wo : World} {K : PySem.W.Frag} {mg : Str → Option Value} {base : Heap}
/-! _law_make -/
def S_law_make (C : Addr) (ds : List D) (R : D → Prop) : Prop := ∃ b : Pt, ds = [partsD b] ∧ WF b ∧ ∀ pl' : List Pl, pl'.Perm b.pl → R (bookD C ⟨b.ws, pl', b.st, b.rl⟩)
theorem ok_law_make (c : Ctx K mg) : Cal P wo K mg base 6 (He.ga K "_law_make") ["_law_parts_here"] [] (spD K (S_law_make (bC K))) := by
  refine cal0 c.f_law_make sc_law_make (fun ds R ⟨_, e, _⟩ => by rw [e]; rfl) (fun _ _ _ _ _ _ us hl => match us, hl with | [_], _ => rfl) fun cdv A outer s H E hr ds R hS => ?_
  obtain ⟨b, rfl, W, hR⟩ := hS
  have hu := hu_of hr
  have hlen := asked_len W
  have hl2 := W.rl_len
  have p7 := W.p7
  refine ss_cons (s_setLcM 1 [("_law_key", 2)] (fun d => match d with | .tup [.str p, .str w, .int n] => rule5D (p, w, n.toNat) (b.rule p w n.toNat) | _ => .non) rfl sc_law_make.nd (blkOk_by (show blkC N_law_make (defScope s_law_make) _ _ = true by decide +kernel)) (i_dt <| pv_ixL <| pq_pv <| pv_nm 0 rfl ⟨_, rfl, pv_int ⟨3, _, rfl, rfl, _, rfl, ?_, fun d2 hd2 => ?_, ?_⟩⟩) rfl)
  · unfold tabD; rw [List.length_map, List.length_map]; omega
  · unfold tabD at hd2
    rw [List.map_map] at hd2
    obtain ⟨r, hrm, rfl⟩ := List.mem_map.mp hd2
    have hlk : look b.rl r.1 = some r.2 := look_of W.kn hrm
    have hlr : b.rule r.1.1 r.1.2.1 r.1.2.2 = r.2 := by unfold Pt.rule; rw [hlk]; rfl
    refine fun _ _ _ _ _ => g_nm 2 (fun _ _ _ _ _ => pv_tup <| pas_cons <| pv_ixT <| pv_nm 2 rfl <| pv_int ⟨_, 0, _, .tup _, rfl, rfl, pas_cons <| pv_ixT <| pv_nm 2 rfl <| pv_int ⟨_, 1, _, .tup _, rfl, rfl, pas_cons <| pv_ixT <| pv_nm 2 rfl <| pv_int ⟨_, 2, _, .tup _, rfl, rfl,
      pas_cons <| pv_ixT <| pv_dgetT hu <| pt_pv <| pv_ixL <| pq_pv <| pv_nm 0 rfl ⟨_, rfl, pv_int ⟨3, _, rfl, rfl, _, rfl, pv_nm 2 rfl ⟨keyL r.1, _, rfl, by rw [tab_val, hlk]; rfl, pv_int ⟨_, 0, _, .tup _, rfl, rfl,
      pas_cons <| pv_ixT <| pv_dgetT hu <| pt_pv <| pv_ixL <| pq_pv <| pv_nm 0 rfl ⟨_, rfl, pv_int ⟨3, _, rfl, rfl, _, rfl, pv_nm 2 rfl ⟨keyL r.1, _, rfl, by rw [tab_val, hlk]; rfl, pv_int ⟨_, 1, _, .tup _, rfl, rfl, pas_nil ⟨Nat.le_of_ble_eq_true rfl, rfl, ?_⟩⟩⟩⟩⟩⟩⟩⟩⟩⟩⟩⟩) sc_law_make.nd
    simp [keyL, kD, rule5D, hlr, kint_map]
  have e5 : (((tabD b.rl).map fun kv => D.tup (kv.1.map kD)).map fun d => match d with | .tup [.str p, .str w, .int n] => rule5D (p, w, n.toNat) (b.rule p w n.toNat) | _ => .non) = b.rl.map fun r => rule5D r.1 r.2 := by
    unfold tabD
    rw [List.map_map, List.map_map]
    refine List.map_congr_left fun r hrm => ?_
    have hlk : look b.rl r.1 = some r.2 := look_of W.kn hrm
    have hlr : b.rule r.1.1 r.1.2.1 r.1.2.2 = r.2 := by unfold Pt.rule; rw [hlk]; rfl
    simp [keyL, kD, hlr]
  rw [e5]
  refine ss_cons (s_setN 3 (pn_listT c.z_list <| pv_ixL <| pq_pv <| pv_nm 0 rfl ⟨_, rfl, pv_int ⟨1, _, rfl, rfl, _, .inl (.tup _), ?_⟩⟩) sc_law_make.nd)
  have fin : ∀ pl' : List Pl, pl'.Perm b.pl → SVs (XC P wo K mg base N_law_make "_law_make" (defScope s_law_make) (He.ga K "_law_make") cdv A outer s H E) (List.drop 3 (defBody s_law_make)) Wd.nil [.im (partsD b), .own (b.rl.map fun r => rule5D r.1 r.2), .no, .own (pl'.map placeD)] (fun _ _ => R .non) (fun d _ => R d) := fun pl' hp => by
    refine ss_fz 1 rfl <| ss_fz 3 rfl <| ss_one <| s_ret <| pv_book c hr <| pks_cons <| pv_pn <| pn_listT c.z_list <| pv_ixL <| pq_pv <| pv_nm 0 rfl ⟨_, rfl, pv_int ⟨0, _, rfl, rfl, _, .inl (.tup _), pks_cons <| pv_nm 3 rfl <| pks_cons <| pv_ixL <| pq_pv <| pv_nm 0 rfl ⟨_, rfl, pv_int ⟨2, _, rfl, rfl, pks_cons <| pv_nm 1 rfl <| pks_nil ⟨⟨b.ws, pl', b.st, b.rl⟩, _, rfl, .inr rfl, W.perm hp, hR pl' hp⟩⟩⟩⟩⟩
  refine ss_cons (s_if <| pb_c <| c_eqI <| pv_mod <| pv_lenQ c.z_len <| pq_nm 1 rfl <| pv_int ⟨_, 2, rfl, rfl, by decide, pv_int ⟨_, 0, rfl, rfl, _, rfl, fun _ => ?_, fun _ => ss_nil (fin b.pl (List.Perm.refl _))⟩⟩)
  refine ss_one (s_setN 3 (pn_add <| pq_pn <| pn_slice <| pq_nm 3 rfl <| pov_some <| pv_int ⟨1, rfl, pov_none <| pq_pn <| pn_slice <| pq_nm 3 rfl <| pov_none <| pov_some <| pv_int ⟨1, rfl, ?_, ?_⟩⟩) sc_law_make.nd)
  · rw [show (1 : Int) = ((1 : Nat) : Int) from rfl, cut_from, cut_to, List.length_drop, List.length_take, List.length_map]; omega
  · have e6 : cutD (b.pl.map placeD) (some 1) none ++ cutD (b.pl.map placeD) none (some 1) = (b.pl.drop 1 ++ b.pl.take 1).map placeD := by
      rw [show (1 : Int) = ((1 : Nat) : Int) from rfl, cut_from, cut_to, List.map_append, List.map_drop, List.map_take]
    rw [e6]
    refine fin (b.pl.drop 1 ++ b.pl.take 1) ?_
    have := List.perm_append_comm (l₁ := b.pl.drop 1) (l₂ := b.pl.take 1)
    rwa [List.take_append_drop] at this
end FH
set_option Elab.async false
set_option linter.all false
set_option maxRecDepth 100000
set_option maxHeartbeats 4000000
namespace Fw
open PySem PySem.Spec PyProof.Rows L2 Pd
/-! ### the search for alikes, on paper -/
section
variable {b : Pt}
theorem pl_one (W : (b.pl.map (·.1)).Nodup) {p q : Pl} (hp : p ∈ b.pl) (hq : q ∈ b.pl) (e : p.1 = q.1) : p = q := by
  obtain ⟨i, hi⟩ := List.getElem?_of_mem hp
  obtain ⟨j, hj⟩ := List.getElem?_of_mem hq
  have := nodup_at W (i := i) (j := j) (x := p.1) (by rw [List.getElem?_map, hi]; rfl) (by rw [List.getElem?_map, hj]; exact congrArg some e.symm)
  subst this
  rw [hi] at hj
  exact Option.some.inj hj
theorem pof_eq (W : (b.pl.map (·.1)).Nodup) {p : Pl} (hp : p ∈ b.pl) : pof b.pl p.1 = some p := by
  unfold pof
  cases h : b.pl.find? fun q => decide (q.1 = p.1) with
  | none => exact absurd (List.find?_eq_none.mp h p hp) (by simp)
  | some q =>
    have h1 := List.find?_some h
    have h2 := List.mem_of_find?_eq_some h
    rw [pl_one W h2 hp (of_decide_eq_true h1)]
theorem slots_of (W : (b.pl.map (·.1)).Nodup) {p : Pl} (hp : p ∈ b.pl) : b.slots p.1 = p.2.1 := by
  unfold Pt.slots; rw [pof_eq W hp]; rfl
theorem yes_of (W : (b.pl.map (·.1)).Nodup) {p : Pl} (hp : p ∈ b.pl) : b.yes p.1 = p.2.2 := by
  unfold Pt.yes; rw [pof_eq W hp]; rfl
/-- the triples behind -/
def nxt (b : Pt) (t : Tr) : List Tr := b.ws.flatMap fun w => (kindsOf (b.slots t.1) (b.slots t.2.1) t.2.2).map fun k => behindOf b t w k
theorem nxt_mem {t t' : Tr} : t' ∈ nxt b t ↔ ∃ w ∈ b.ws, ∃ k ∈ kindsOf (b.slots t.1) (b.slots t.2.1) t.2.2, t' = behindOf b t w k := by
  unfold nxt
  rw [List.mem_flatMap]
  constructor
  · rintro ⟨w, hw, h⟩
    obtain ⟨k, hk, e⟩ := List.mem_map.mp h
    exact ⟨w, hw, k, hk, e.symm⟩
  · rintro ⟨w, hw, k, hk, e⟩
    exact ⟨w, hw, List.mem_map.mpr ⟨k, hk, e.symm⟩⟩
def Agr (b : Pt) (t : Tr) : Prop := b.yes t.1 = b.yes t.2.1
def TrW (b : Pt) (t : Tr) : Prop := ∃ p q, TrOk b t p q
theorem TrOk.sl (W : WF b) {t : Tr} {p q : Pl} (T : TrOk b t p q) : b.slots t.1 = p.2.1 ∧ b.slots t.2.1 = q.2.1 := by
  rw [← T.ep, ← T.eq]; exact ⟨slots_of W.pn T.hp, slots_of W.pn T.hq⟩
theorem TrOk.ys (W : WF b) {t : Tr} {p q : Pl} (T : TrOk b t p q) : b.yes t.1 = p.2.2 ∧ b.yes t.2.1 = q.2.2 := by
  rw [← T.ep, ← T.eq]; exact ⟨yes_of W.pn T.hp, yes_of W.pn T.hq⟩
theorem nxt_eq (W : WF b) {t : Tr} {p q : Pl} (T : TrOk b t p q) : (stepsOf b t p q).map (·.2.2) = nxt b t := by
  unfold stepsOf nxt
  rw [(T.sl W).1, (T.sl W).2, List.map_flatMap]
  simp only [List.map_map]
  rfl
theorem nxt_ok (W : WF b) {t t' : Tr} (T : TrW b t) (h : t' ∈ nxt b t) : TrW b t' := by
  obtain ⟨p, q, T⟩ := T
  obtain ⟨w, hw, k, hk, rfl⟩ := nxt_mem.mp h
  rw [(T.sl W).1, (T.sl W).2] at hk
  exact T.behind W hw hk
inductive Rch (b : Pt) : Tr → Tr → Prop
  | refl (t : Tr) : Rch b t t
  | head {t t' t'' : Tr} : t' ∈ nxt b t → Rch b t' t'' → Rch b t t''
def Good (b : Pt) (t : Tr) : Prop := ∀ t', Rch b t t' → Agr b t'
theorem Good.agr {t : Tr} (h : Good b t) : Agr b t := h _ (.refl t)
theorem Good.next {t t' : Tr} (h : Good b t) (n : t' ∈ nxt b t) : Good b t' := fun u r => h u (.head n r)
theorem good_of {G : Tr → Prop} (h1 : ∀ t, G t → Agr b t) (h2 : ∀ t, G t → ∀ t' ∈ nxt b t, G t') {t : Tr} (h : G t) : Good b t := fun u r => by
  induction r with
  | refl t => exact h1 _ h
  | head n _ ih => exact ih (h2 _ h _ n)
end
/-! ### what is alike, by the answers -/
section
variable {α : Type} [DecidableEq α] {b : Pt}
def Eqv (b : Pt) (s t : Str × List α) : Prop := ∀ row : List (Str × α), (∀ r ∈ row, r.1 ∈ b.ws) → b.yes (b.run s row).1 = b.yes (b.run t row).1
theorem Eqv.refl (s : Str × List α) : Eqv b s s := fun _ _ => rfl
theorem Eqv.symm {s t : Str × List α} (h : Eqv b s t) : Eqv b t s := fun row hr => (h row hr).symm
theorem Eqv.trans {s t u : Str × List α} (h : Eqv b s t) (k : Eqv b t u) : Eqv b s u := fun row hr => (h row hr).trans (k row hr)
theorem Eqv.step {s t : Str × List α} (h : Eqv b s t) {r : Str × α} (hr : r.1 ∈ b.ws) : Eqv b (b.step s r) (b.step t r) := fun row hw => h (r :: row) fun q hq => (List.mem_cons.mp hq).elim (fun e => e ▸ hr) (hw q)
def Exact (m : Mg) (h g : List α) : Prop := ∀ i j, (i, j) ∈ m ↔ ∃ i' j' x, i = i' + 1 ∧ j = j' + 1 ∧ h[i']? = some x ∧ g[j']? = some x
/-- the kind that a name has -/
theorem exact_kind {t : Tr} {p q : Pl} (T : TrOk b t p q) {h g : List α} (hl : h.length = p.2.1) (gl : g.length = q.2.1) (nh : h.Nodup) (ng : g.Nodup) (E : Exact t.2.2 h g) (n : α) : (caseOf h n, caseOf g n) ∈ kindsOf p.2.1 q.2.1 t.2.2 := by
  rw [kinds_mem]
  by_cases hn : n ∈ h
  · obtain ⟨c1, c2⟩ := caseOf_at hn
    refine .inl ⟨c1, hl ▸ caseOf_le, ?_⟩
    show caseOf g n = getM t.2.2 (caseOf h n)
    by_cases gn : n ∈ g
    · obtain ⟨d1, d2⟩ := caseOf_at gn
      exact (getM_some T.mt ((E _ _).mpr ⟨caseOf h n - 1, caseOf g n - 1, n, by omega, by omega, c2, d2⟩)).symm
    · rw [caseOf_zero.mpr gn, getM_none]
      intro z
      obtain ⟨⟨a, c⟩, hz, e⟩ := List.mem_map.mp z
      have e : a = caseOf h n := e
      subst e
      obtain ⟨i', j', x, e1, e2, e3, e4⟩ := (E _ _).mp hz
      have : caseOf h n - 1 = i' := by omega
      rw [this, e3] at c2
      cases c2
      exact gn (List.mem_of_getElem? e4)
  · by_cases gn : n ∈ g
    · obtain ⟨d1, d2⟩ := caseOf_at gn
      refine .inr (.inl ⟨caseOf_zero.mpr hn, d1, gl ▸ caseOf_le, fun z => ?_⟩)
      obtain ⟨⟨a, c⟩, hz, e⟩ := List.mem_map.mp z
      have e : c = caseOf g n := e
      subst e
      obtain ⟨i', j', x, e1, e2, e3, e4⟩ := (E _ _).mp hz
      have : caseOf g n - 1 = j' := by omega
      rw [this, e4] at d2
      cases d2
      exact hn (List.mem_of_getElem? e3)
    · refine .inr (.inr ?_)
      rw [caseOf_zero.mpr hn, caseOf_zero.mpr gn]
/-- what a source gives -/
theorem src_val {h : List α} {n : α} (nd : h.Nodup) {s : Nat} (hs : leastOf (caseOf h n) ≤ s ∧ s ≤ h.length) : (s = caseOf h n ∧ srcOf h n s = n) ∨ (s ≠ caseOf h n ∧ 1 ≤ s ∧ h[s - 1]? = some (srcOf h n s) ∧ srcOf h n s ≠ n) := by
  have at_ : s ≠ 0 → h[s - 1]? = some (srcOf h n s) := fun h0 => by
    unfold srcOf
    rw [if_neg h0]
    have : s - 1 < h.length := by omega
    rw [List.getD_eq_getElem?_getD, List.getElem?_eq_getElem this]; rfl
  by_cases e : s = caseOf h n
  · refine .inl ⟨e, ?_⟩
    by_cases h0 : s = 0
    · unfold srcOf; rw [if_pos h0]
    · have hn : n ∈ h := by
        by_cases hn : n ∈ h
        · exact hn
        · exact absurd (e.trans (caseOf_zero.mpr hn)) h0
      have h1 := at_ h0
      rw [e, (caseOf_at hn).2] at h1
      rw [e]
      exact (Option.some.inj h1).symm
  · have h0 : s ≠ 0 := fun z => by
      have : caseOf h n ≠ 0 := fun q => e (z.trans q.symm)
      unfold leastOf at hs
      rw [if_neg this] at hs
      omega
    refine .inr ⟨e, by omega, at_ h0, fun z => e ?_⟩
    have h1 := at_ h0
    rw [z] at h1
    have := caseOf_of nd h1
    omega
theorem moved_at {h : List α} {n : α} {ms : List Nat} {i : Nat} {x : α} : (movedTo h ms n)[i]? = some x ↔ ∃ s, ms[i]? = some s ∧ x = srcOf h n s := by
  unfold movedTo
  rw [List.getElem?_map, Option.map_eq_some_iff]
  constructor
  · rintro ⟨s, h1, h2⟩; exact ⟨s, h1, h2.symm⟩
  · rintro ⟨s, h1, h2⟩; exact ⟨s, h1, h2.symm⟩
theorem bp_exact {h g : List α} {n : α} {m : Mg} {a c : List Nat} (nh : h.Nodup) (ng : g.Nodup) (ha : ∀ s ∈ a, leastOf (caseOf h n) ≤ s ∧ s ≤ h.length) (hc : ∀ s ∈ c, leastOf (caseOf g n) ≤ s ∧ s ≤ g.length) (E : Exact m h g) :
    Exact (bp (caseOf h n, caseOf g n) m a c) (movedTo h a n) (movedTo g c n) := fun i j => by
  have key : ∀ {s t}, s ∈ a → t ∈ c → (bothR (caseOf h n, caseOf g n) m s t = true ↔ srcOf h n s = srcOf g n t) := fun {s t} hs ht => by
    rw [bothR_iff]
    show (s = caseOf h n ∧ t = caseOf g n) ∨ (s ≠ caseOf h n ∧ t ≠ caseOf g n ∧ (s, t) ∈ m) ↔ _
    rcases src_val nh (ha s hs) with ⟨e1, v1⟩ | ⟨e1, p1, v1, n1⟩ <;> rcases src_val ng (hc t ht) with ⟨e2, v2⟩ | ⟨e2, p2, v2, n2⟩
    · rw [v1, v2]; exact ⟨fun _ => rfl, fun _ => .inl ⟨e1, e2⟩⟩
    · rw [v1]
      exact ⟨fun z => z.elim (fun z => absurd z.2 e2) fun z => absurd e1 z.1, fun z => absurd z.symm n2⟩
    · rw [v2]
      exact ⟨fun z => z.elim (fun z => absurd z.1 e1) fun z => absurd e2 z.2.1, fun z => absurd z n1⟩
    · constructor
      · rintro (z | ⟨_, _, z⟩)
        · exact absurd z.1 e1
        · obtain ⟨i', j', x, q1, q2, q3, q4⟩ := (E _ _).mp z
          have : s - 1 = i' := by omega
          rw [this, q3] at v1
          have : t - 1 = j' := by omega
          rw [this, q4] at v2
          rw [← Option.some.inj v1, ← Option.some.inj v2]
      · intro z
        refine .inr ⟨e1, e2, (E _ _).mpr ⟨s - 1, t - 1, srcOf h n s, by omega, by omega, v1, ?_⟩⟩
        rw [z]; exact v2
  rw [bp_mem]
  constructor
  · rintro ⟨i', j', s, t, h1, h2, hb, e⟩
    cases e
    have hs := List.mem_of_getElem? h1
    have ht := List.mem_of_getElem? h2
    exact ⟨i', j', srcOf h n s, rfl, rfl, moved_at.mpr ⟨s, h1, rfl⟩, moved_at.mpr ⟨t, h2, (key hs ht).mp hb⟩⟩
  · rintro ⟨i', j', x, e1, e2, h1, h2⟩
    obtain ⟨s, a1, a2⟩ := moved_at.mp h1
    obtain ⟨t, c1, c2⟩ := moved_at.mp h2
    exact ⟨i', j', s, t, a1, c1, (key (List.mem_of_getElem? a1) (List.mem_of_getElem? c1)).mpr (a2.symm.trans c2), by rw [e1, e2]⟩
theorem held_len (W : WF b) {p : Pl} {h : List α} (hp : p ∈ b.pl) (H : Held b (p.1, h)) : h.length = p.2.1 := by
  obtain ⟨q, hq, e, l⟩ := H.pl
  rw [pl_one W.pn hp hq e.symm]; exact l
theorem exact_step (W : WF b) {t : Tr} {p q : Pl} (T : TrOk b t p q) {h g : List α} (Hh : Held b (t.1, h)) (Hg : Held b (t.2.1, g)) (E : Exact t.2.2 h g) {w : Str} (hw : w ∈ b.ws) (n : α) :
    ∃ t' ∈ nxt b t, ∃ h1 g1, b.step (t.1, h) (w, n) = (t'.1, h1) ∧ b.step (t.2.1, g) (w, n) = (t'.2.1, g1) ∧ Exact t'.2.2 h1 g1 ∧ t' = behindOf b t w (caseOf h n, caseOf g n) := by
  have hl := held_len W T.hp (by rw [T.ep]; exact Hh)
  have gl := held_len W T.hq (by rw [T.eq]; exact Hg)
  have hk := exact_kind T hl gl Hh.nd Hg.nd E n
  refine ⟨behindOf b t w (caseOf h n, caseOf g n), nxt_mem.mpr ⟨w, hw, _, ?_, rfl⟩, _, _, rfl, rfl, ?_, rfl⟩
  · rw [(T.sl W).1, (T.sl W).2]; exact hk
  · obtain ⟨_, ok1⟩ := W.rule T.hp hw (c := caseOf h n) (hl ▸ caseOf_le)
    obtain ⟨_, ok2⟩ := W.rule T.hq hw (c := caseOf g n) (gl ▸ caseOf_le)
    rw [T.ep] at ok1
    rw [T.eq] at ok2
    exact bp_exact Hh.nd Hg.nd (fun s hs => ⟨(ok1.src s hs).1, by rw [hl]; exact (ok1.src s hs).2⟩) (fun s hs => ⟨(ok2.src s hs).1, by rw [gl]; exact (ok2.src s hs).2⟩) E
/-- alike on paper is alike by the answers -/
theorem Good.eqv (W : WF b) {t : Tr} (G : Good b t) (T : TrW b t) {h g : List α} (Hh : Held b (t.1, h)) (Hg : Held b (t.2.1, g)) (E : Exact t.2.2 h g) : Eqv b (t.1, h) (t.2.1, g) := fun row => by
  induction row generalizing t h g with
  | nil => exact fun _ => G.agr
  | cons r row ih =>
    intro hw
    obtain ⟨p, q, T⟩ := T
    have hr := hw r List.mem_cons_self
    obtain ⟨t', ht', h1, g1, e1, e2, E', _⟩ := exact_step W T Hh Hg E hr r.2
    have s1 := Hh.step W (r := r) hr
    have s2 := Hg.step W (r := r) hr
    rw [show r = (r.1, r.2) from rfl, e1] at s1
    rw [show r = (r.1, r.2) from rfl, e2] at s2
    have := ih (G.next ht') (nxt_ok W ⟨p, q, T⟩ ht') s1 s2 E' fun q hq => hw q (List.mem_cons_of_mem _ hq)
    show b.yes (b.run (b.step (t.1, h) (r.1, r.2)) row).1 = b.yes (b.run (b.step (t.2.1, g) (r.1, r.2)) row).1
    rw [e1, e2]; exact this
/-- a name of a kind -/
theorem kind_name (fr : ∀ l : List α, ∃ x, x ∉ l) {t : Tr} {p q : Pl} (T : TrOk b t p q) {h g : List α} (hl : h.length = p.2.1) (gl : g.length = q.2.1) (nh : h.Nodup) (ng : g.Nodup) (E : Exact t.2.2 h g) {k : Nat × Nat} (hk : k ∈ kindsOf p.2.1 q.2.1 t.2.2) : ∃ n, (caseOf h n, caseOf g n) = k := by
  rcases kinds_mem.mp hk with ⟨k1, k2, k3⟩ | ⟨k1, k2, k3, k4⟩ | e
  · have hlt : k.1 - 1 < h.length := by omega
    have hx : h[k.1 - 1]? = some h[k.1 - 1] := List.getElem?_eq_getElem hlt
    have hc : caseOf h (h[k.1 - 1]) = k.1 := by rw [caseOf_of nh hx]; omega
    refine ⟨h[k.1 - 1], Prod.ext hc ?_⟩
    have := exact_kind T hl gl nh ng E (h[k.1 - 1])
    show caseOf g (h[k.1 - 1]) = k.2
    rw [hc] at this
    rcases kinds_mem.mp this with ⟨_, _, z⟩ | ⟨z, _⟩ | z
    · rw [k3]; exact z
    · have z : k.1 = 0 := z
      omega
    · have : k.1 = 0 := congrArg (·.1) z
      omega
  · have hlt : k.2 - 1 < g.length := by omega
    have hx : g[k.2 - 1]? = some g[k.2 - 1] := List.getElem?_eq_getElem hlt
    have hc : caseOf g (g[k.2 - 1]) = k.2 := by rw [caseOf_of ng hx]; omega
    refine ⟨g[k.2 - 1], Prod.ext ?_ hc⟩
    show caseOf h (g[k.2 - 1]) = k.1
    rw [k1, caseOf_zero]
    intro z
    obtain ⟨i, hi⟩ := List.getElem?_of_mem z
    exact k4 (List.mem_map.mpr ⟨(i + 1, k.2), (E _ _).mpr ⟨i, k.2 - 1, _, rfl, by omega, hi, hx⟩, rfl⟩)
  · obtain ⟨x, hx⟩ := fr (h ++ g)
    rw [List.mem_append] at hx
    refine ⟨x, ?_⟩
    rw [e, caseOf_zero.mpr fun z => hx (.inl z), caseOf_zero.mpr fun z => hx (.inr z)]
theorem good_of_eqv (fr : ∀ l : List α, ∃ x, x ∉ l) (W : WF b) {t : Tr} (T : TrW b t) {h g : List α} (Hh : Held b (t.1, h)) (Hg : Held b (t.2.1, g)) (E : Exact t.2.2 h g) (V : Eqv b (t.1, h) (t.2.1, g)) : Good b t := by
  refine good_of (G := fun t => TrW b t ∧ ∃ h g : List α, Held b (t.1, h) ∧ Held b (t.2.1, g) ∧ Exact t.2.2 h g ∧ Eqv b (t.1, h) (t.2.1, g)) (fun t ⟨_, h, g, _, _, _, V⟩ => V [] (fun _ z => nomatch z)) (fun t ⟨T, h, g, Hh, Hg, E, V⟩ t' ht' => ⟨nxt_ok W T ht', ?_⟩) ⟨T, h, g, Hh, Hg, E, V⟩
  obtain ⟨p, q, T⟩ := T
  obtain ⟨w, hw, k, hk, rfl⟩ := nxt_mem.mp ht'
  rw [(T.sl W).1, (T.sl W).2] at hk
  obtain ⟨n, rfl⟩ := kind_name fr T (held_len W T.hp (by rw [T.ep]; exact Hh)) (held_len W T.hq (by rw [T.eq]; exact Hg)) Hh.nd Hg.nd E hk
  obtain ⟨t', ht', h1, g1, e1, e2, E', e3⟩ := exact_step W T Hh Hg E hw n
  subst e3
  have s1 := Hh.step W (r := (w, n)) hw
  have s2 := Hg.step W (r := (w, n)) hw
  have s3 := V.step (r := (w, n)) hw
  rw [e1] at s1 s3
  rw [e2] at s2 s3
  exact ⟨h1, g1, s1, s2, E', s3⟩
/-! names exchanged -/
def swp (n f x : α) : α := if x = n then f else if x = f then n else x
theorem swp_swp {n f x : α} : swp n f (swp n f x) = x := by
  unfold swp
  by_cases h1 : x = n
  · rw [if_pos h1]
    by_cases h2 : f = n
    · rw [if_pos h2, h1, h2]
    · rw [if_neg h2, if_pos rfl, h1]
  · rw [if_neg h1]
    by_cases h2 : x = f
    · rw [if_pos h2, if_pos rfl, h2]
    · rw [if_neg h2, if_neg h1, if_neg h2]
theorem swp_inj {n f x y : α} (e : swp n f x = swp n f y) : x = y := by
  have := congrArg (swp n f) e
  rwa [swp_swp, swp_swp] at this
theorem swp_ne {n f x : α} (h1 : x ≠ n) (h2 : x ≠ f) : swp n f x = x := by
  unfold swp; rw [if_neg h1, if_neg h2]
theorem swp_n {n f : α} : swp n f n = f := by unfold swp; rw [if_pos rfl]
theorem swp_map_not {n f : α} {h : List α} (h1 : n ∉ h) (h2 : f ∉ h) : h.map (swp n f) = h := by
  have : ∀ x ∈ h, swp n f x = x := fun x hx => swp_ne (fun e => h1 (e ▸ hx)) fun e => h2 (e ▸ hx)
  rw [List.map_congr_left this]; simp
theorem caseOf_map {σ : α → α} (inj : ∀ x y, σ x = σ y → x = y) {h : List α} {n : α} : caseOf (h.map σ) (σ n) = caseOf h n := by
  unfold caseOf
  by_cases hn : n ∈ h
  · rw [if_pos hn, if_pos (List.mem_map.mpr ⟨n, hn, rfl⟩)]
    congr 1
    clear hn
    induction h with
    | nil => rfl
    | cons x h ih =>
      rw [List.map_cons, List.idxOf_cons, List.idxOf_cons, ih]
      by_cases e : x = n
      · rw [e]; simp
      · have : σ x ≠ σ n := fun z => e (inj _ _ z)
        have b1 : (x == n) = false := by simpa using e
        have b2 : (σ x == σ n) = false := by simpa using this
        rw [b1, b2]
  · rw [if_neg hn, if_neg]
    intro z
    obtain ⟨y, hy, e⟩ := List.mem_map.mp z
    exact hn (inj _ _ e ▸ hy)
theorem step_map {σ : α → α} (inj : ∀ x y, σ x = σ y → x = y) (s : Str × List α) (r : Str × α) : b.step (s.1, s.2.map σ) (r.1, σ r.2) = ((b.step s r).1, (b.step s r).2.map σ) := by
  unfold Pt.step
  show ((b.rule s.1 r.1 (caseOf (s.2.map σ) (σ r.2))).1, movedTo (s.2.map σ) (b.rule s.1 r.1 (caseOf (s.2.map σ) (σ r.2))).2 (σ r.2)) = ((b.rule s.1 r.1 (caseOf s.2 r.2)).1, (movedTo s.2 (b.rule s.1 r.1 (caseOf s.2 r.2)).2 r.2).map σ)
  rw [caseOf_map inj]
  refine Prod.ext rfl ?_
  unfold movedTo
  rw [List.map_map]
  refine List.map_congr_left fun u _ => ?_
  show (if u = 0 then σ r.2 else (s.2.map σ).getD (u - 1) (σ r.2)) = σ (if u = 0 then r.2 else s.2.getD (u - 1) r.2)
  split
  · rfl
  · rw [List.getD_eq_getElem?_getD, List.getD_eq_getElem?_getD, List.getElem?_map]
    cases s.2[u - 1]? <;> rfl
theorem run_map {σ : α → α} (inj : ∀ x y, σ x = σ y → x = y) : ∀ (row : List (Str × α)) (s : Str × List α), b.run (s.1, s.2.map σ) (row.map fun r => (r.1, σ r.2)) = ((b.run s row).1, (b.run s row).2.map σ)
  | [], s => rfl
  | r :: row, s => by
    show b.run (b.step (s.1, s.2.map σ) (r.1, σ r.2)) (row.map fun r => (r.1, σ r.2)) = _
    rw [step_map inj]
    exact run_map inj row (b.step s r)
/-- n and f exchanged in what is held -/
def swS (n f : α) (s : Str × List α) : Str × List α := (s.1, s.2.map (swp n f))
theorem Eqv.sw {s t : Str × List α} (h : Eqv b s t) (n f : α) : Eqv b (swS n f s) (swS n f t) := fun row hw => by
  have e : row = (row.map fun r => (r.1, swp n f r.2)).map fun r => (r.1, swp n f r.2) := by
    rw [List.map_map]
    have : ∀ r ∈ row, ((fun r : Str × α => (r.1, swp n f r.2)) ∘ fun r => (r.1, swp n f r.2)) r = r := fun r _ => by
      show (r.1, swp n f (swp n f r.2)) = r
      rw [swp_swp]
    rw [List.map_congr_left this]; simp
  rw [e]
  unfold swS
  rw [run_map (fun x y => swp_inj), run_map (fun x y => swp_inj)]
  refine h _ fun r hr => ?_
  obtain ⟨q, hq, rfl⟩ := List.mem_map.mp hr
  exact hw q hq
theorem Held.sw {s : Str × List α} (h : Held b s) (n f : α) : Held b (swS n f s) := by
  obtain ⟨p, hp, e, l⟩ := h.pl
  exact ⟨⟨p, hp, e, by unfold swS; rw [List.length_map]; exact l⟩, List.pairwise_map.mpr (h.nd.imp fun hne e => hne (swp_inj e))⟩
theorem diagW_mem {s sl : Nat} {i j : Nat} : (i, j) ∈ diagW s sl ↔ i = j ∧ 1 ≤ i ∧ i ≤ s ∧ i ≠ sl := by
  unfold diagW
  rw [List.mem_filterMap]
  constructor
  · rintro ⟨k, hk, e⟩
    have := List.mem_range.mp hk
    split at e
    · cases e
    · rename_i hne
      cases e
      exact ⟨rfl, by omega, by omega, hne⟩
  · rintro ⟨e, h1, h2, h3⟩
    refine ⟨i - 1, List.mem_range.mpr (by omega), ?_⟩
    have e1 : i - 1 + 1 = i := by omega
    rw [e1, if_neg h3, e]
theorem diagW_ok {p : Pl} (hp : p ∈ b.pl) (sl : Nat) : TrOk b (p.1, p.1, diagW p.2.1 sl) p p := by
  refine ⟨hp, rfl, hp, rfl, ?_, ?_, fun z hz => ?_⟩
  · show ((diagW p.2.1 sl).map (·.1)).Pairwise (· < ·)
    unfold diagW
    rw [List.map_filterMap]
    refine List.pairwise_filterMap.mpr (List.pairwise_lt_range.imp fun {i j} hlt z hz z' hz' => ?_)
    split at hz <;> simp at hz
    split at hz' <;> simp at hz'
    omega
  · show ((diagW p.2.1 sl).map (·.2)).Nodup
    unfold diagW
    rw [List.map_filterMap]
    refine List.pairwise_filterMap.mpr (List.pairwise_lt_range.imp fun {i j} hlt z hz z' hz' => ?_)
    split at hz <;> simp at hz
    split at hz' <;> simp at hz'
    omega
  · obtain ⟨e, h1, h2, _⟩ := diagW_mem.mp (show (z.1, z.2) ∈ _ from hz)
    exact ⟨h1, h2, e ▸ h1, e ▸ h2⟩
/-- the row's answers do not rest on the name n -/
def Idle (b : Pt) (s : Str × List α) (n f : α) : Prop := Eqv b s (swS n f s)
theorem idle_eqv {s t : Str × List α} {n f : α} (h : Eqv b s t) (k : Idle b s n f) : Idle b t n f := (h.symm.trans k).trans (h.sw n f)
theorem idle_not {s : Str × List α} {n f : α} (h1 : n ∉ s.2) (h2 : f ∉ s.2) : Idle b s n f := by
  unfold Idle swS; rw [swp_map_not h1 h2]; exact Eqv.refl s
theorem exact_minus {p : Pl} {h : List α} {n f : α} {a : Nat} (hl : h.length = p.2.1) (nd : h.Nodup) (ha : h[a]? = some n) (hf : f ∉ h) : Exact (diagW p.2.1 (a + 1)) h (h.map (swp n f)) := fun i j => by
  rw [diagW_mem]
  constructor
  · rintro ⟨e, h1, h2, h3⟩
    have hlt : i - 1 < h.length := by omega
    have hx : h[i - 1]? = some h[i - 1] := List.getElem?_eq_getElem hlt
    have hne : h[i - 1] ≠ n := fun z => by
      rw [z] at hx
      have := nodup_at nd hx ha
      omega
    refine ⟨i - 1, i - 1, h[i - 1], by omega, by omega, hx, ?_⟩
    rw [List.getElem?_map, hx]
    show some (swp n f h[i - 1]) = _
    rw [swp_ne hne fun z : h[i - 1] = f => hf (z ▸ List.getElem_mem hlt)]
  · rintro ⟨i', j', x, rfl, rfl, h1, h2⟩
    rw [List.getElem?_map] at h2
    obtain ⟨y, hy, e⟩ := Option.map_eq_some_iff.mp h2
    have hxh := List.mem_of_getElem? h1
    have hyh := List.mem_of_getElem? hy
    have hy1 : y ≠ n := fun z => by
      rw [z, swp_n] at e
      exact hf (e ▸ hxh)
    rw [swp_ne hy1 fun z : y = f => hf (z ▸ hyh)] at e
    subst e
    have := nodup_at nd h1 hy
    subst this
    have hlt := (List.getElem?_eq_some_iff.mp h1).1
    refine ⟨rfl, by omega, by omega, fun z => hy1 ?_⟩
    have : i' = a := by omega
    rw [this, ha] at h1
    exact (Option.some.inj h1).symm
/-- a slot is idle where the answers do not rest on the name that it holds -/
theorem good_iff_idle (fr : ∀ l : List α, ∃ x, x ∉ l) (W : WF b) {p : Pl} (hp : p ∈ b.pl) {h : List α} (H : Held b (p.1, h)) {a : Nat} {n f : α} (ha : h[a]? = some n) (hf : f ∉ h) : Good b (p.1, p.1, diagW p.2.1 (a + 1)) ↔ Idle b (p.1, h) n f :=
  ⟨fun G => G.eqv W ⟨p, p, diagW_ok hp _⟩ H (H.sw n f) (exact_minus (held_len W hp H) H.nd ha hf), fun V => good_of_eqv fr W ⟨p, p, diagW_ok hp _⟩ H (H.sw n f) (exact_minus (held_len W hp H) H.nd ha hf) V⟩
theorem idle_step {s : Str × List α} {n f : α} {r : Str × α} (k : Idle b s n f) (hw : r.1 ∈ b.ws) (h1 : r.2 ≠ n) (h2 : r.2 ≠ f) : Idle b (b.step s r) n f := by
  have := Eqv.step k hw (r := r)
  unfold Idle
  have e : b.step (swS n f s) r = swS n f (b.step s r) := by
    unfold swS
    have := step_map (b := b) (σ := swp n f) (fun x y => swp_inj) s r
    rw [swp_ne h1 h2] at this
    exact this
  rw [e] at this
  exact this
end
end Fw
set_option Elab.async false
set_option linter.all false
set_option maxRecDepth 100000
set_option maxHeartbeats 4000000
namespace Fw
open PySem PySem.Spec PyProof.Rows L2 Pd
section
variable {α : Type} [DecidableEq α]
/-! fresh names -/
noncomputable def freshL (fr : ∀ l : List α, ∃ x, x ∉ l) (L : List α) : Nat → List α
  | 0 => L
  | n + 1 => Classical.choose (fr (freshL fr L n)) :: freshL fr L n
theorem freshL_sub (fr : ∀ l : List α, ∃ x, x ∉ l) (L : List α) {x : α} {m : Nat} : ∀ {n : Nat}, m ≤ n → x ∈ freshL fr L m → x ∈ freshL fr L n := fun {n} h hx => by
  induction n with
  | zero => have : m = 0 := by omega
            subst this; exact hx
  | succ n ih =>
    by_cases e : m = n + 1
    · rw [← e]; exact hx
    · exact List.mem_cons_of_mem _ (ih (by omega))
theorem freshSeq (fr : ∀ l : List α, ∃ x, x ∉ l) (L : List α) : ∃ F : Nat → α, (∀ i j, F i = F j → i = j) ∧ ∀ i, F i ∉ L := by
  refine ⟨fun n => Classical.choose (fr (freshL fr L n)), ?_, fun i h => Classical.choose_spec (fr (freshL fr L i)) (freshL_sub fr L (Nat.zero_le i) h)⟩
  have key : ∀ i j, i < j → Classical.choose (fr (freshL fr L i)) ≠ Classical.choose (fr (freshL fr L j)) := fun i j h e => by
    have h1 : Classical.choose (fr (freshL fr L i)) ∈ freshL fr L (i + 1) := List.mem_cons_self
    have h2 := freshL_sub fr L (show i + 1 ≤ j by omega) h1
    rw [e] at h2
    exact Classical.choose_spec (fr (freshL fr L j)) h2
  intro i j e
  rcases Nat.lt_trichotomy i j with h | h | h
  · exact absurd e (key i j h)
  · exact h
  · exact absurd e.symm (key j i h)
def fill (s : Nat) (φ : Nat → Option α) (F : Nat → α) : List α := (List.range s).map fun i => (φ i).getD (F i)
theorem fill_len {s : Nat} {φ : Nat → Option α} {F : Nat → α} : (fill s φ F).length = s := by unfold fill; simp
theorem fill_at {s : Nat} {φ : Nat → Option α} {F : Nat → α} {i : Nat} {x : α} : (fill s φ F)[i]? = some x ↔ i < s ∧ x = (φ i).getD (F i) := by
  unfold fill
  rw [List.getElem?_map, Option.map_eq_some_iff]
  constructor
  · rintro ⟨k, h1, h2⟩
    obtain ⟨h3, h4⟩ := List.getElem?_eq_some_iff.mp h1
    rw [List.getElem_range] at h4
    subst h4
    exact ⟨by simpa using h3, h2.symm⟩
  · rintro ⟨h1, h2⟩
    exact ⟨i, by rw [List.getElem?_range h1], h2.symm⟩
theorem nodup_of_at {l : List α} (h : ∀ (i j : Nat) (x : α), l[i]? = some x → l[j]? = some x → i = j) : l.Nodup := by
  refine List.pairwise_iff_getElem.mpr fun i j hi hj hij e => ?_
  have := h i j _ (List.getElem?_eq_getElem hi) (by rw [List.getElem?_eq_getElem hj, e])
  omega
theorem fill_nd {s : Nat} {φ : Nat → Option α} {F : Nat → α} {L : List α} (h1 : ∀ i j x, φ i = some x → φ j = some x → i = j) (h2 : ∀ i x, φ i = some x → x ∈ L) (h3 : ∀ i j, F i = F j → i = j) (h4 : ∀ i, F i ∉ L) : (fill s φ F).Nodup := nodup_of_at fun i j x hi hj => by
  obtain ⟨_, e1⟩ := fill_at.mp hi
  obtain ⟨_, e2⟩ := fill_at.mp hj
  cases hp : φ i with
  | none =>
    rw [hp] at e1
    cases hq : φ j with
    | none => rw [hq] at e2; exact h3 i j (e1.symm.trans e2)
    | some y => rw [hq] at e2; exact absurd (h2 j y hq) (by rw [show y = F i from e2.symm.trans e1]; exact h4 i)
  | some y =>
    rw [hp] at e1
    cases hq : φ j with
    | none => rw [hq] at e2; exact absurd (h2 i y hp) (by rw [show y = F j from e1.symm.trans e2]; exact h4 j)
    | some z =>
      rw [hq] at e2
      have e1 : x = y := e1
      have e2 : x = z := e2
      exact h1 i j x (by rw [hp, e1]) (by rw [hq, e2])
end
/-! ### kept slots -/
open Classical in
noncomputable def keptOf (b : Pt) (p : Str) : List Nat := (List.range (b.slots p)).filterMap fun i => if Good b (p, p, diagW (b.slots p) (i + 1)) then none else some (i + 1)
theorem kept_mem {b : Pt} {p : Str} {a : Nat} : a ∈ keptOf b p ↔ 1 ≤ a ∧ a ≤ b.slots p ∧ ¬ Good b (p, p, diagW (b.slots p) a) := by
  unfold keptOf
  rw [List.mem_filterMap]
  constructor
  · rintro ⟨i, hi, e⟩
    split at e
    · cases e
    · cases e; exact ⟨by omega, by have := List.mem_range.mp hi; omega, by assumption⟩
  · rintro ⟨h1, h2, h3⟩
    refine ⟨a - 1, List.mem_range.mpr (by omega), ?_⟩
    have e : a - 1 + 1 = a := by omega
    rw [e, if_neg h3]
theorem kept_inc {b : Pt} {p : Str} : (keptOf b p).Pairwise (· < ·) := by
  unfold keptOf
  refine List.pairwise_filterMap.mpr (List.pairwise_lt_range.imp fun {i j} hlt z hz z' hz' => ?_)
  split at hz <;> simp at hz
  split at hz' <;> simp at hz'
  omega
theorem kept_nd {b : Pt} {p : Str} : (keptOf b p).Nodup := kept_inc.imp fun h => Nat.ne_of_lt h
theorem kept_len {b : Pt} {p : Str} : (keptOf b p).length ≤ b.slots p := by
  unfold keptOf
  exact Nat.le_trans (List.length_filterMap_le _ _) (by simp)
section
variable {α : Type} [DecidableEq α] {b : Pt}
/-- the kept names are those on which the answers rest -/
theorem kept_names (fr : ∀ l : List α, ∃ x, x ∉ l) (W : WF b) {s : Str × List α} (H : Held b s) {n f : α} (hf : f ∉ s.2) : (∃ a ∈ keptOf b s.1, s.2[a - 1]? = some n) ↔ ¬ Idle b s n f := by
  obtain ⟨p, hp, e, hl⟩ := H.pl
  obtain ⟨s1, h⟩ := s
  have e : p.1 = s1 := e
  subst e
  have sl := slots_of W.pn hp
  constructor
  · rintro ⟨a, ha, hx⟩ hI
    obtain ⟨k1, k2, k3⟩ := kept_mem.mp ha
    rw [sl] at k3
    have e1 : a - 1 + 1 = a := by omega
    exact k3 (by have := (good_iff_idle fr W hp H hx hf).mpr hI; rw [e1] at this; exact this)
  · intro hI
    by_cases hn : n ∈ h
    · obtain ⟨i, hi⟩ := List.getElem?_of_mem hn
      refine ⟨i + 1, kept_mem.mpr ⟨by omega, ?_, ?_⟩, hi⟩
      · rw [sl, ← hl]; exact (List.getElem?_eq_some_iff.mp hi).1
      · rw [sl]; exact fun G => hI ((good_iff_idle fr W hp H hi hf).mp G)
    · exact absurd (idle_not hn hf) hI
/-- the same names in the kept slots: the same answers -/
theorem kept_eqv (fr : ∀ l : List α, ∃ x, x ∉ l) (W : WF b) {p : Str} {h g : List α} (Hh : Held b (p, h)) (Hg : Held b (p, g)) (e : ∀ a ∈ keptOf b p, h[a - 1]? = g[a - 1]?) : Eqv b (p, h) (p, g) := by
  obtain ⟨q, hq, ep, hl⟩ := Hh.pl
  have ep : q.1 = p := ep
  subst ep
  have hl : h.length = q.2.1 := hl
  have gl := held_len W hq Hg
  have sl := slots_of W.pn hq
  obtain ⟨F, F1, F2⟩ := freshSeq fr (h ++ g)
  have half : ∀ {u : List α}, (∀ x ∈ u, x ∈ h ++ g) → Held b (q.1, u) → ∀ k, k ≤ q.2.1 → Held b (q.1, fill q.2.1 (fun i => if i < k ∧ i + 1 ∉ keptOf b q.1 then none else u[i]?) F) ∧ Eqv b (q.1, u) (q.1, fill q.2.1 (fun i => if i < k ∧ i + 1 ∉ keptOf b q.1 then none else u[i]?) F) := fun {u} hu Hu k => by
    have ul := held_len W hq Hu
    have hnd : ∀ k, (fill q.2.1 (fun i => if i < k ∧ i + 1 ∉ keptOf b q.1 then none else u[i]?) F).Nodup := fun k => fill_nd (L := h ++ g) (fun i j x h1 h2 => by
      split at h1
      · cases h1
      · split at h2
        · cases h2
        · exact nodup_at Hu.nd h1 h2) (fun i x h1 => by
      split at h1
      · cases h1
      · exact hu x (List.mem_of_getElem? h1)) F1 F2
    have hH : ∀ k, Held b (q.1, fill q.2.1 (fun i => if i < k ∧ i + 1 ∉ keptOf b q.1 then none else u[i]?) F) := fun k => ⟨⟨q, hq, rfl, fill_len⟩, hnd k⟩
    induction k with
    | zero =>
      intro _
      have e0 : fill q.2.1 (fun i => if i < 0 ∧ i + 1 ∉ keptOf b q.1 then none else u[i]?) F = u := by
        refine List.ext_getElem? fun i => ?_
        by_cases hi : i < q.2.1
        · have : u[i]? = some u[i] := List.getElem?_eq_getElem (by omega)
          rw [this]
          refine fill_at.mpr ⟨hi, ?_⟩
          rw [if_neg (by omega), this]; rfl
        · rw [List.getElem?_eq_none (by rw [fill_len]; omega), List.getElem?_eq_none (by omega)]
      exact ⟨hH 0, by rw [e0]; exact Eqv.refl _⟩
    | succ k ih =>
      intro hk
      obtain ⟨_, i2⟩ := ih (by omega)
      refine ⟨hH _, i2.trans ?_⟩
      by_cases hkk : k + 1 ∈ keptOf b q.1
      · have : (fun i => if i < k + 1 ∧ i + 1 ∉ keptOf b q.1 then none else u[i]?) = fun i => if i < k ∧ i + 1 ∉ keptOf b q.1 then none else u[i]? := by
          funext i
          by_cases hi : i = k
          · subst hi
            rw [if_neg fun z => z.2 hkk, if_neg fun z => z.2 hkk]
          · have : i < k + 1 ↔ i < k := by omega
            simp only [this]
        rw [this]; exact Eqv.refl _
      · have hku : u[k]? = some u[k] := List.getElem?_eq_getElem (by omega)
        have hat : (fill q.2.1 (fun i => if i < k ∧ i + 1 ∉ keptOf b q.1 then none else u[i]?) F)[k]? = some u[k] := fill_at.mpr ⟨by omega, by rw [if_neg (by omega), hku]; rfl⟩
        have hfk : F k ∉ fill q.2.1 (fun i => if i < k ∧ i + 1 ∉ keptOf b q.1 then none else u[i]?) F := fun z => by
          obtain ⟨i, hi⟩ := List.getElem?_of_mem z
          obtain ⟨h1, h2⟩ := fill_at.mp hi
          by_cases c : i < k ∧ i + 1 ∉ keptOf b q.1
          · rw [if_pos c] at h2
            have := F1 k i h2
            omega
          · rw [if_neg c] at h2
            have hui : u[i]? = some u[i] := List.getElem?_eq_getElem (by omega)
            rw [hui] at h2
            exact F2 k (hu _ (by have h2 : F k = u[i] := h2; rw [h2]; exact List.getElem_mem _))
        have G : Good b (q.1, q.1, diagW q.2.1 (k + 1)) := by
          by_cases G : Good b (q.1, q.1, diagW q.2.1 (k + 1))
          · exact G
          · exact absurd (kept_mem.mpr ⟨by omega, by rw [sl]; omega, by rw [sl]; exact G⟩) hkk
        have I := (good_iff_idle fr W hq (hH k) hat hfk).mp G
        have e3 : fill q.2.1 (fun i => if i < k + 1 ∧ i + 1 ∉ keptOf b q.1 then none else u[i]?) F = (fill q.2.1 (fun i => if i < k ∧ i + 1 ∉ keptOf b q.1 then none else u[i]?) F).map (swp u[k] (F k)) := by
          refine List.ext_getElem? fun i => ?_
          rw [List.getElem?_map]
          by_cases hi : i < q.2.1
          · have hui : u[i]? = some u[i] := List.getElem?_eq_getElem (by omega)
            rw [show (fill q.2.1 (fun i => if i < k ∧ i + 1 ∉ keptOf b q.1 then none else u[i]?) F)[i]? = some ((if i < k ∧ i + 1 ∉ keptOf b q.1 then none else u[i]?).getD (F i)) from fill_at.mpr ⟨hi, rfl⟩]
            refine fill_at.mpr ⟨hi, ?_⟩
            by_cases ik : i = k
            · subst ik
              rw [if_neg (by omega), if_pos ⟨by omega, hkk⟩, hui]
              exact swp_n
            · by_cases c : i < k ∧ i + 1 ∉ keptOf b q.1
              · rw [if_pos c, if_pos ⟨by omega, c.2⟩]
                show swp u[k] (F k) (F i) = F i
                refine swp_ne (fun z => F2 i ?_) fun z => ik (F1 _ _ z)
                rw [z]; exact hu _ (List.getElem_mem _)
              · rw [if_neg c, if_neg fun z => c ⟨by omega, z.2⟩, hui]
                show swp u[k] (F k) u[i] = u[i]
                refine swp_ne (fun z => ik ?_) fun z => F2 k ?_
                · rw [z] at hui
                  exact nodup_at Hu.nd hui hku
                · rw [← z]; exact hu _ (List.getElem_mem _)
          · rw [List.getElem?_eq_none (by rw [fill_len]; omega), List.getElem?_eq_none (by rw [fill_len]; omega)]; rfl
        rw [e3]; exact I
  have h1 := (half (u := h) (fun x hx => List.mem_append_left _ hx) Hh q.2.1 (Nat.le_refl _)).2
  have h2 := (half (u := g) (fun x hx => List.mem_append_right _ hx) Hg q.2.1 (Nat.le_refl _)).2
  have e3 : fill q.2.1 (fun i => if i < q.2.1 ∧ i + 1 ∉ keptOf b q.1 then none else h[i]?) F = fill q.2.1 (fun i => if i < q.2.1 ∧ i + 1 ∉ keptOf b q.1 then none else g[i]?) F := by
    unfold fill
    refine List.map_congr_left fun i hi => ?_
    have hi := List.mem_range.mp hi
    show (if i < q.2.1 ∧ i + 1 ∉ keptOf b q.1 then none else h[i]?).getD (F i) = (if i < q.2.1 ∧ i + 1 ∉ keptOf b q.1 then none else g[i]?).getD (F i)
    by_cases c : i + 1 ∈ keptOf b q.1
    · rw [if_neg fun z => z.2 c, if_neg fun z => z.2 c, show h[i]? = g[i]? from e _ c]
    · rw [if_pos ⟨hi, c⟩, if_pos ⟨hi, c⟩]
  rw [e3] at h1
  exact h1.trans h2.symm
end
/-- some names, one behind the other -/
theorem natFr : ∀ l : List Nat, ∃ x, x ∉ l := fun l => by
  have : ∀ l : List Nat, ∃ m, ∀ x ∈ l, x < m := fun l => by
    induction l with
    | nil => exact ⟨0, fun _ h => nomatch h⟩
    | cons y l ih =>
      obtain ⟨m, hm⟩ := ih
      exact ⟨m + y + 1, fun x hx => (List.mem_cons.mp hx).elim (fun e => by omega) fun h => by have := hm x h; omega⟩
  obtain ⟨m, hm⟩ := this l
  exact ⟨m, fun h => Nat.lt_irrefl _ (hm m h)⟩
section
variable {b : Pt}
/-- what a kept slot takes from a slot, is kept there -/
theorem kept_source (W : WF b) {p : Pl} (hp : p ∈ b.pl) {w : Str} (hw : w ∈ b.ws) {c : Nat} (hc : c = 0 ∨ c ∈ keptOf b p.1) {j u : Nat} (hj : j ∈ keptOf b (b.rule p.1 w c).1) (hu : (b.rule p.1 w c).2[j - 1]? = some u) (h0 : u ≠ 0) : u ∈ keptOf b p.1 := by
  have sl := slots_of W.pn hp
  have hcs : c ≤ p.2.1 := hc.elim (fun e => by omega) fun h => by have := (kept_mem.mp h).2.1; omega
  obtain ⟨_, ok⟩ := W.rule hp hw hcs
  obtain ⟨g, hg, eg, gl⟩ := ok.goal
  have hus := ok.src u (List.mem_of_getElem? hu)
  by_cases hk : u ∈ keptOf b p.1
  · exact hk
  · exfalso
    have huc : u ≠ c := fun e => hc.elim (fun z => h0 (e.trans z)) fun z => hk (e ▸ z)
    let h : List Nat := List.range p.2.1
    have hnd : h.Nodup := List.nodup_range
    have Hh : Held b (p.1, h) := ⟨⟨p, hp, rfl, by simp [h]⟩, hnd⟩
    let n : Nat := if c = 0 then p.2.1 else c - 1
    have hn : caseOf h n = c := by
      by_cases z : c = 0
      · rw [z]
        refine caseOf_zero.mpr fun q => ?_
        have : n = p.2.1 := by show (if c = 0 then p.2.1 else c - 1) = _; rw [if_pos z]
        rw [this] at q
        exact absurd (List.mem_range.mp q) (Nat.lt_irrefl _)
      · have : n = c - 1 := by show (if c = 0 then p.2.1 else c - 1) = _; rw [if_neg z]
        rw [this, caseOf_of hnd (i := c - 1) (List.getElem?_range (by omega))]
        omega
    have hx : h[u - 1]? = some (u - 1) := List.getElem?_range (by omega)
    have hf : p.2.1 + 1 ∉ h := fun q => by have := List.mem_range.mp q; omega
    have hnx : n ≠ u - 1 := fun e => by
      have e1 : (if c = 0 then p.2.1 else c - 1) = u - 1 := e
      split at e1 <;> omega
    have hnf : n ≠ p.2.1 + 1 := fun e => by
      have e1 : (if c = 0 then p.2.1 else c - 1) = p.2.1 + 1 := e
      split at e1 <;> omega
    have I : Idle b (p.1, h) (u - 1) (p.2.1 + 1) := by
      refine (good_iff_idle natFr W hp Hh hx hf).mp ?_
      by_cases G : Good b (p.1, p.1, diagW p.2.1 (u - 1 + 1))
      · exact G
      · exact absurd (kept_mem.mpr ⟨by omega, by omega, by rw [sl]; have e1 : u - 1 + 1 = u := by omega
                                                           rw [e1] at G; exact G⟩) hk
    have I2 := idle_step (r := (w, n)) I hw hnx hnf
    have e2 : b.step (p.1, h) (w, n) = ((b.rule p.1 w c).1, movedTo h (b.rule p.1 w c).2 n) := by
      unfold Pt.step
      show ((b.rule p.1 w (caseOf h n)).1, movedTo h (b.rule p.1 w (caseOf h n)).2 n) = _
      rw [hn]
    have H1 := Hh.step W (r := (w, n)) hw
    rw [e2] at I2 H1
    have hat : (movedTo h (b.rule p.1 w c).2 n)[j - 1]? = some (u - 1) := by
      refine moved_at.mpr ⟨u, hu, ?_⟩
      unfold srcOf
      rw [if_neg h0, List.getD_eq_getElem?_getD, hx]; rfl
    refine (kept_names natFr W H1 (n := u - 1) (f := p.2.1 + 1) fun z => ?_).mp ⟨j, hj, hat⟩ I2
    obtain ⟨i, hi⟩ := List.getElem?_of_mem z
    obtain ⟨s, h1, h2⟩ := moved_at.mp hi
    unfold srcOf at h2
    split at h2
    · exact hnf h2.symm
    · rw [List.getD_eq_getElem?_getD] at h2
      have hs := ok.src s (List.mem_of_getElem? h1)
      rw [List.getElem?_range (by omega)] at h2
      have h2 : p.2.1 + 1 = s - 1 := h2
      omega
/-- what is found of the book: the places reached, the heads, and where each place stands -/
structure StOk (b : Pt) (heads : List Str) (q : Str) (v : Str × Mg) : Prop where
  hd : v.1 ∈ heads
  tr : TrW b (v.1, q, v.2)
  gd : Good b (v.1, q, v.2)
  e1 : v.2.map (·.1) = keptOf b v.1
  e2 : ∀ x ∈ v.2.map (·.2), x ∈ keptOf b q
structure RedOk (b : Pt) (reached heads : List Str) (st : Str → Str × Mg) : Prop where
  r2 : ∀ q ∈ reached, ∃ p ∈ b.pl, p.1 = q
  r3 : b.st ∈ reached
  r4 : ∀ q ∈ reached, ∀ w ∈ b.ws, ∀ c, c ≤ b.slots q → (b.rule q w c).1 ∈ reached
  h0 : b.st ∈ heads
  h1 : heads.Nodup
  h2 : ∀ hd ∈ heads, hd ∈ reached
  s : ∀ q ∈ reached, StOk b heads q (st q)
noncomputable def oldOf (b : Pt) (hd : Str) (c : Nat) : Nat := if c = 0 then 0 else (keptOf b hd).getD (c - 1) 0
noncomputable def newSrc (b : Pt) (hd : Str) (ms : List Nat) (pr : Nat × Nat) : Nat := if ms.getD (pr.2 - 1) 0 = 0 then 0 else (keptOf b hd).idxOf (ms.getD (pr.2 - 1) 0) + 1
noncomputable def lrule (b : Pt) (st : Str → Str × Mg) (hd w : Str) (c : Nat) : Rv := ((st (b.rule hd w (oldOf b hd c)).1).1, (st (b.rule hd w (oldOf b hd c)).1).2.map (newSrc b hd (b.rule hd w (oldOf b hd c)).2))
noncomputable def leastPl (b : Pt) (heads : List Str) (nm : Str → Str) : List Pl := heads.map fun hd => (nm hd, (keptOf b hd).length, b.yes hd)
noncomputable def leastRl (b : Pt) (heads : List Str) (st : Str → Str × Mg) (nm : Str → Str) : List (Rk × Rv) := heads.flatMap fun hd => b.ws.flatMap fun w => (List.range ((keptOf b hd).length + 1)).map fun c => ((nm hd, w, c), (nm (lrule b st hd w c).1, (lrule b st hd w c).2))
noncomputable def leastPt (b : Pt) (heads : List Str) (st : Str → Str × Mg) (nm : Str → Str) : Pt := ⟨b.ws, leastPl b heads nm, nm b.st, leastRl b heads st nm⟩
theorem least_keys {heads : List Str} {st : Str → Str × Mg} {nm : Str → Str} : (leastRl b heads st nm).map (·.1) = (leastPt b heads st nm).asked := by
  unfold leastRl Pt.asked leastPt leastPl
  show _ = (heads.map fun hd => (nm hd, (keptOf b hd).length, b.yes hd)).flatMap fun p => b.ws.flatMap fun w => (List.range (p.2.1 + 1)).map fun c => (p.1, w, c)
  rw [List.map_flatMap, List.flatMap_map]
  simp only [List.map_flatMap, List.map_map]
  rfl
theorem oldOf_ok {hd : Str} {c : Nat} (hc : c ≤ (keptOf b hd).length) : (c = 0 ∧ oldOf b hd c = 0) ∨ (c ≠ 0 ∧ oldOf b hd c ∈ keptOf b hd ∧ (keptOf b hd)[c - 1]? = some (oldOf b hd c)) := by
  unfold oldOf
  by_cases h : c = 0
  · exact .inl ⟨h, if_pos h⟩
  · have hlt : c - 1 < (keptOf b hd).length := by omega
    have e : (keptOf b hd).getD (c - 1) 0 = (keptOf b hd)[c - 1] := by rw [List.getD_eq_getElem?_getD, List.getElem?_eq_getElem hlt]; rfl
    rw [if_neg h, e]
    exact .inr ⟨h, List.getElem_mem _, List.getElem?_eq_getElem hlt⟩
theorem oldOf_or {hd : Str} {c : Nat} (hc : c ≤ (keptOf b hd).length) : oldOf b hd c = 0 ∨ oldOf b hd c ∈ keptOf b hd := (oldOf_ok hc).elim (fun z => .inl z.2) fun z => .inr z.2.1
/-- a rule of the least book, its parts -/
theorem lrule_ok {reached heads : List Str} {st : Str → Str × Mg} (W : WF b) (Rd : RedOk b reached heads st) {p : Pl} (hp : p ∈ b.pl) (hh : p.1 ∈ heads) {w : Str} (hw : w ∈ b.ws) {c : Nat} (hc : c ≤ (keptOf b p.1).length) :
    ∃ q : Pl, q ∈ b.pl ∧ q.1 = (b.rule p.1 w (oldOf b p.1 c)).1 ∧ RvOk b.pl (oldOf b p.1 c) p.2.1 (b.rule p.1 w (oldOf b p.1 c)) ∧ (b.rule p.1 w (oldOf b p.1 c)).2.length = q.2.1 ∧ StOk b heads q.1 (st q.1) ∧
      ∀ pr ∈ (st q.1).2, ∃ u, (b.rule p.1 w (oldOf b p.1 c)).2[pr.2 - 1]? = some u ∧ pr.2 ≠ 0 ∧ pr.2 ∈ keptOf b q.1 ∧ (u = 0 ∨ u ∈ keptOf b p.1) ∧ newSrc b p.1 (b.rule p.1 w (oldOf b p.1 c)).2 pr = if u = 0 then 0 else (keptOf b p.1).idxOf u + 1 := by
  have sl := slots_of W.pn hp
  have ho : oldOf b p.1 c ≤ p.2.1 := (oldOf_or hc).elim (fun e => by omega) fun h => by have := (kept_mem.mp h).2.1; omega
  obtain ⟨_, ok⟩ := W.rule hp hw ho
  obtain ⟨q, hq, eq, ql⟩ := ok.goal
  have hr := Rd.r4 p.1 (Rd.h2 _ hh) w hw _ (by rw [sl]; exact ho)
  have S := Rd.s _ hr
  rw [← eq] at S
  refine ⟨q, hq, eq, ok, ql, S, fun pr hpr => ?_⟩
  have hk := S.e2 pr.2 (List.mem_map.mpr ⟨pr, hpr, rfl⟩)
  obtain ⟨k1, k2, _⟩ := kept_mem.mp hk
  rw [slots_of W.pn hq] at k2
  have hlt : pr.2 - 1 < (b.rule p.1 w (oldOf b p.1 c)).2.length := by omega
  refine ⟨_, List.getElem?_eq_getElem hlt, by omega, hk, ?_, ?_⟩
  · by_cases z : (b.rule p.1 w (oldOf b p.1 c)).2[pr.2 - 1] = 0
    · exact .inl z
    · exact .inr (kept_source W hp hw (oldOf_or hc) (by rw [eq] at hk; exact hk) (List.getElem?_eq_getElem hlt) z)
  · unfold newSrc
    have : (b.rule p.1 w (oldOf b p.1 c)).2.getD (pr.2 - 1) 0 = (b.rule p.1 w (oldOf b p.1 c)).2[pr.2 - 1] := by rw [List.getD_eq_getElem?_getD, List.getElem?_eq_getElem hlt]; rfl
    rw [this]
end
end Fw
set_option Elab.async false
set_option linter.all false
set_option maxRecDepth 100000
set_option maxHeartbeats 4000000
namespace Fw
open PySem PySem.Spec PyProof.Rows L2 Pd
section
variable {b : Pt} {reached heads : List Str} {st : Str → Str × Mg} {nm : Str → Str}
theorem least_pl_mem {x : Pl} : x ∈ leastPl b heads nm ↔ ∃ hd ∈ heads, x = (nm hd, (keptOf b hd).length, b.yes hd) := by
  unfold leastPl
  rw [List.mem_map]
  exact ⟨fun ⟨hd, h, e⟩ => ⟨hd, h, e.symm⟩, fun ⟨hd, h, e⟩ => ⟨hd, h, e.symm⟩⟩
theorem least_rl_mem {x : Rk × Rv} : x ∈ leastRl b heads st nm ↔ ∃ hd ∈ heads, ∃ w ∈ b.ws, ∃ c, c ≤ (keptOf b hd).length ∧ x = ((nm hd, w, c), (nm (lrule b st hd w c).1, (lrule b st hd w c).2)) := by
  unfold leastRl
  simp only [List.mem_flatMap, List.mem_map, List.mem_range]
  constructor
  · rintro ⟨hd, h, w, hw, c, hc, e⟩
    exact ⟨hd, h, w, hw, c, by omega, e.symm⟩
  · rintro ⟨hd, h, w, hw, c, hc, e⟩
    exact ⟨hd, h, w, hw, c, by omega, e.symm⟩
theorem least_nm_nd (Rd : RedOk b reached heads st) (ni : ∀ x ∈ heads, ∀ y ∈ heads, nm x = nm y → x = y) : ((leastPl b heads nm).map (·.1)).Nodup := by
  unfold leastPl
  rw [List.map_map]
  exact List.pairwise_map.mpr (List.Pairwise.imp_of_mem (fun {x y} hx hy hne e => hne (ni x hx y hy e)) Rd.h1)
theorem idxOf_inj {l : List Nat} {x y : Nat} (hx : x ∈ l) (hy : y ∈ l) (e : l.idxOf x = l.idxOf y) : x = y := by
  have h1 := (idx_spec hx).1
  have h2 := (idx_spec hy).1
  rw [e, h2] at h1
  exact (Option.some.inj h1).symm
theorem least_wf (W : WF b) (Rd : RedOk b reached heads st) (ni : ∀ x ∈ heads, ∀ y ∈ heads, nm x = nm y → x = y) (nv : ∀ x ∈ heads, nameB (nm x) = true) : WF (leastPt b heads st nm) := by
  have nmnd := least_nm_nd (nm := nm) Rd ni
  refine ⟨W.w1, W.w3, W.wn, W.wv, ?_, nmnd, ?_, ?_, ?_, ?_, ?_, ?_⟩
  · show (leastPl b heads nm).length ≤ 60
    unfold leastPl
    rw [List.length_map]
    have := nodup_le Rd.h1 (m := b.pl.map (·.1)) fun x hx => by
      obtain ⟨p, hp, e⟩ := Rd.r2 x (Rd.h2 x hx)
      exact List.mem_map.mpr ⟨p, hp, e⟩
    rw [List.length_map] at this
    exact Nat.le_trans this W.p7
  · intro x hx
    obtain ⟨hd, hh, rfl⟩ := least_pl_mem.mp hx
    exact nv hd hh
  · intro x hx
    obtain ⟨hd, hh, rfl⟩ := least_pl_mem.mp hx
    obtain ⟨p, hp, e⟩ := Rd.r2 hd (Rd.h2 hd hh)
    have := slots_of W.pn hp
    rw [e] at this
    have := W.ps p hp
    have := kept_len (b := b) (p := hd)
    show (keptOf b hd).length ≤ 6
    omega
  · refine ⟨_, least_pl_mem.mpr ⟨b.st, Rd.h0, rfl⟩, rfl, ?_⟩
    obtain ⟨p, hp, e, h0⟩ := W.st
    have := slots_of W.pn hp
    rw [e] at this
    have := kept_len (b := b) (p := b.st)
    show (keptOf b b.st).length = 0
    omega
  · show ((leastRl b heads st nm).map (·.1)).Nodup
    rw [least_keys]
    exact asked_nd W.wn nmnd
  · intro k
    show k ∈ (leastRl b heads st nm).map (·.1) ↔ _
    rw [least_keys]
  · intro r hr x hx e
    obtain ⟨hd, hh, w, hw, c, hc, rfl⟩ := least_rl_mem.mp hr
    obtain ⟨hd', hh', rfl⟩ := least_pl_mem.mp hx
    have := ni _ hh' _ hh e
    subst this
    obtain ⟨p, hp, ep⟩ := Rd.r2 hd' (Rd.h2 _ hh)
    subst ep
    obtain ⟨q, hq, eq, ok, ql, S, hs⟩ := lrule_ok W Rd hp hh hw hc
    have e2 : lrule b st p.1 w c = ((st q.1).1, (st q.1).2.map (newSrc b p.1 (b.rule p.1 w (oldOf b p.1 c)).2)) := by unfold lrule; rw [← eq]
    show RvOk (leastPl b heads nm) c (keptOf b p.1).length (nm (lrule b st p.1 w c).1, (lrule b st p.1 w c).2)
    rw [e2]
    obtain ⟨x1, x2, T⟩ := S.tr
    refine ⟨⟨_, least_pl_mem.mpr ⟨_, S.hd, rfl⟩, rfl, ?_⟩, ?_, ?_⟩
    · show ((st q.1).2.map _).length = (keptOf b (st q.1).1).length
      rw [← S.e1, List.length_map, List.length_map]
    · have nd2 := T.mt.nd
      refine List.pairwise_map.mpr (List.Pairwise.imp_of_mem (fun {a c'} ha hc' hne e3 => ?_) (List.pairwise_map.mp nd2))
      obtain ⟨u1, a1, a2, a3, a4, a5⟩ := hs a ha
      obtain ⟨u2, b1, b2, b3, b4, b5⟩ := hs c' hc'
      have e3 : newSrc b p.1 (b.rule p.1 w (oldOf b p.1 c)).2 a = newSrc b p.1 (b.rule p.1 w (oldOf b p.1 c)).2 c' := e3
      rw [a5, b5] at e3
      have hu : u1 = u2 := by
        split at e3
        · split at e3
          · omega
          · omega
        · split at e3
          · omega
          · exact idxOf_inj (a4.resolve_left (by assumption)) (b4.resolve_left (by assumption)) (by omega)
      subst hu
      have := nodup_at ok.nd a1 b1
      exact hne (show a.2 = c'.2 by omega)
    · intro m hm
      obtain ⟨pr, hpr, rfl⟩ := List.mem_map.mp hm
      obtain ⟨u, a1, a2, a3, a4, a5⟩ := hs pr hpr
      rw [a5]
      have hsrc := ok.src u (List.mem_of_getElem? a1)
      constructor
      · unfold leastOf
        split
        · omega
        · have ho : oldOf b p.1 c ≠ 0 := by
            rcases oldOf_ok hc with z | z
            · omega
            · have := (kept_mem.mp z.2.1).1
              omega
          have h1 := hsrc.1
          unfold leastOf at h1
          rw [if_neg ho] at h1
          rw [if_neg (by omega)]
          omega
      · split
        · omega
        · have := List.idxOf_lt_length_of_mem (a4.resolve_left (by assumption))
          omega
theorem least_rule (W : WF b) (Rd : RedOk b reached heads st) (ni : ∀ x ∈ heads, ∀ y ∈ heads, nm x = nm y → x = y) {hd w : Str} (hh : hd ∈ heads) (hw : w ∈ b.ws) {c : Nat} (hc : c ≤ (keptOf b hd).length) : (leastPt b heads st nm).rule (nm hd) w c = (nm (lrule b st hd w c).1, (lrule b st hd w c).2) := by
  have : look (leastPt b heads st nm).rl (nm hd, w, c) = some (nm (lrule b st hd w c).1, (lrule b st hd w c).2) := look_of (by
    show ((leastRl b heads st nm).map (·.1)).Nodup
    rw [least_keys]
    exact asked_nd W.wn (least_nm_nd Rd ni)) (least_rl_mem.mpr ⟨hd, hh, w, hw, c, hc, rfl⟩)
  unfold Pt.rule
  rw [this]; rfl
variable {α : Type} [DecidableEq α]
/-- the least book goes along -/
structure Trk (b : Pt) (heads : List Str) (nm : Str → Str) (s l : Str × List α) (hd : Str) (H : List α) : Prop where
  h1 : hd ∈ heads
  h2 : Held b (hd, H)
  h3 : Eqv b (hd, H) s
  h4 : l.1 = nm hd
  h5 : l.2.length = (keptOf b hd).length
  h6 : ∀ (i a : Nat), (keptOf b hd)[i]? = some a → l.2[i]? = H[a - 1]?
theorem Trk.start (W : WF b) (Rd : RedOk b reached heads st) : Trk (α := α) b heads nm (b.st, []) (nm b.st, []) b.st [] := by
  obtain ⟨p, hp, e, h0⟩ := W.st
  have := slots_of W.pn hp
  rw [e] at this
  have := kept_len (b := b) (p := b.st)
  have z : keptOf b b.st = [] := List.length_eq_zero_iff.mp (by omega)
  exact ⟨Rd.h0, held_start W, Eqv.refl _, rfl, by rw [z]; rfl, fun i a h => by rw [z] at h; cases h⟩
theorem Trk.step (fr : ∀ l : List α, ∃ x, x ∉ l) (W : WF b) (Rd : RedOk b reached heads st) (ni : ∀ x ∈ heads, ∀ y ∈ heads, nm x = nm y → x = y) {s l : Str × List α} {hd : Str} {H : List α} (T : Trk b heads nm s l hd H) (hs : Held b s) {r : Str × α} (hw : r.1 ∈ b.ws) :
    ∃ hd' H', Trk b heads nm (b.step s r) ((leastPt b heads st nm).step l r) hd' H' := by
  obtain ⟨w, n⟩ := r
  obtain ⟨l1, g⟩ := l
  obtain ⟨h1, h2, h3, h4, h5, h6⟩ := T
  have h4 : l1 = nm hd := h4
  subst h4
  have h5 : g.length = (keptOf b hd).length := h5
  have h6 : ∀ (i a : Nat), (keptOf b hd)[i]? = some a → g[i]? = H[a - 1]? := h6
  obtain ⟨p, hp, ep, hl⟩ := h2.pl
  have ep : p.1 = hd := ep
  subst ep
  have hl : H.length = p.2.1 := hl
  have sl := slots_of W.pn hp
  obtain ⟨F, F1, F2⟩ := freshSeq fr (n :: H)
  let φ : Nat → Option α := fun i => if i + 1 ∈ keptOf b p.1 then H[i]? else none
  let G : List α := fill p.2.1 φ F
  have φ1 : ∀ i x, φ i = some x → i + 1 ∈ keptOf b p.1 ∧ H[i]? = some x := fun i x h => by
    have h : (if i + 1 ∈ keptOf b p.1 then H[i]? else none) = some x := h
    split at h
    · exact ⟨by assumption, h⟩
    · cases h
  have Gn : G.Nodup := fill_nd (L := n :: H) (fun i j x h h' => nodup_at h2.nd (φ1 i x h).2 (φ1 j x h').2) (fun i x h => List.mem_cons_of_mem _ (List.mem_of_getElem? (φ1 i x h).2)) F1 F2
  have GH : Held b (p.1, G) := ⟨⟨p, hp, rfl, fill_len⟩, Gn⟩
  have Gk : ∀ a ∈ keptOf b p.1, G[a - 1]? = H[a - 1]? := fun a ha => by
    obtain ⟨k1, k2, _⟩ := kept_mem.mp ha
    have hx : H[a - 1]? = some H[a - 1] := List.getElem?_eq_getElem (by omega)
    have e1 : a - 1 + 1 = a := by omega
    rw [hx]
    refine fill_at.mpr ⟨by omega, ?_⟩
    show H[a - 1] = (if a - 1 + 1 ∈ keptOf b p.1 then H[a - 1]? else none).getD (F (a - 1))
    rw [e1, if_pos ha, hx]; rfl
  have GE : Eqv b (p.1, G) s := (kept_eqv fr W GH h2 Gk).trans h3
  have hc : caseOf g n ≤ (keptOf b p.1).length := h5 ▸ caseOf_le
  have hold : caseOf G n = oldOf b p.1 (caseOf g n) := by
    by_cases hn : n ∈ g
    · obtain ⟨c1, c2⟩ := caseOf_at hn
      rcases oldOf_ok hc with z | ⟨z1, z2, z3⟩
      · omega
      · have e2 := h6 _ _ z3
        rw [c2, ← Gk _ z2] at e2
        have := (kept_mem.mp z2).1
        rw [caseOf_of Gn e2.symm]
        omega
    · rw [caseOf_zero.mpr hn]
      show _ = if 0 = 0 then 0 else _
      rw [if_pos rfl, caseOf_zero]
      intro hz
      obtain ⟨i, hi⟩ := List.getElem?_of_mem hz
      obtain ⟨_, e2⟩ := fill_at.mp hi
      have e2 : n = (if i + 1 ∈ keptOf b p.1 then H[i]? else none).getD (F i) := e2
      split at e2
      · rename_i hk
        obtain ⟨j, hj⟩ := List.getElem?_of_mem hk
        have e3 := h6 _ _ hj
        have hx : H[i]? = some H[i] := List.getElem?_eq_getElem (by have := (kept_mem.mp hk).2.1; omega)
        rw [hx] at e2
        have e2 : n = H[i] := e2
        have e3 : g[j]? = H[i]? := e3
        rw [hx, ← e2] at e3
        exact hn (List.mem_of_getElem? e3)
      · have e2 : n = F i := e2
        exact F2 i (e2 ▸ List.mem_cons_self)
  obtain ⟨q, hq, eq, ok, ql, S, hsrc⟩ := lrule_ok W Rd hp h1 hw hc
  have e1 : b.step (p.1, G) (w, n) = (q.1, movedTo G (b.rule p.1 w (oldOf b p.1 (caseOf g n))).2 n) := by
    unfold Pt.step
    show ((b.rule p.1 w (caseOf G n)).1, movedTo G (b.rule p.1 w (caseOf G n)).2 n) = _
    rw [hold, eq]
  have H1 := GH.step W (r := (w, n)) hw
  have E1 := GE.step (r := (w, n)) hw
  rw [e1] at H1 E1
  have el : (leastPt b heads st nm).step (nm p.1, g) (w, n) = (nm (st q.1).1, movedTo g ((st q.1).2.map (newSrc b p.1 (b.rule p.1 w (oldOf b p.1 (caseOf g n))).2)) n) := by
    unfold Pt.step
    show (((leastPt b heads st nm).rule (nm p.1) w (caseOf g n)).1, movedTo g ((leastPt b heads st nm).rule (nm p.1) w (caseOf g n)).2 n) = _
    rw [least_rule W Rd ni h1 hw hc]
    unfold lrule
    rw [← eq]
  rw [el]
  -- the head that stands for q
  obtain ⟨x1, x2, T⟩ := S.tr
  have hlen1 := held_len W hq H1
  obtain ⟨F', F1', F2'⟩ := freshSeq fr (movedTo G (b.rule p.1 w (oldOf b p.1 (caseOf g n))).2 n)
  generalize hHH : movedTo G (b.rule p.1 w (oldOf b p.1 (caseOf g n))).2 n = HH at *
  let ψ : Nat → Option α := fun i => (look (st q.1).2 (i + 1)).bind fun j => HH[j - 1]?
  have ψ1 : ∀ i x, ψ i = some x → ∃ j, (i + 1, j) ∈ (st q.1).2 ∧ j ≠ 0 ∧ HH[j - 1]? = some x := fun i x h => by
    have h : (look (st q.1).2 (i + 1)).bind (fun j => HH[j - 1]?) = some x := h
    obtain ⟨j, h1, h2⟩ := Option.bind_eq_some_iff.mp h
    have := look_mem h1
    exact ⟨j, this, by have := (T.mt.rng _ this).2.2.1; omega, h2⟩
  have Pn : (fill x1.2.1 ψ F').Nodup := fill_nd (L := HH) (fun i i' x h h' => by
    obtain ⟨j, a1, a2, a3⟩ := ψ1 i x h
    obtain ⟨j', b1, b2, b3⟩ := ψ1 i' x h'
    have := nodup_at H1.nd a3 b3
    have : j = j' := by omega
    subst this
    have := T.mt.inj2 a1 b1
    omega) (fun i x h => by
    obtain ⟨j, a1, a2, a3⟩ := ψ1 i x h
    exact List.mem_of_getElem? a3) F1' F2'
  have hx1 : x1.1 = (st q.1).1 := T.ep
  have hx2 : x2 = q := pl_one W.pn T.hq hq T.eq
  subst hx2
  have PH : Held b ((st x2.1).1, fill x1.2.1 ψ F') := ⟨⟨x1, T.hp, hx1, fill_len⟩, Pn⟩
  have at_ : ∀ {i j : Nat}, (i, j) ∈ (st x2.1).2 → i ≠ 0 ∧ j ≠ 0 ∧ ∃ x, (fill x1.2.1 ψ F')[i - 1]? = some x ∧ HH[j - 1]? = some x := fun {i j} hij => by
    obtain ⟨r1, r2, r3, r4⟩ := T.mt.rng _ hij
    have r1 : 1 ≤ i := r1
    have r2 : i ≤ x1.2.1 := r2
    have r3 : 1 ≤ j := r3
    have r4 : j ≤ x2.2.1 := r4
    have hx : HH[j - 1]? = some HH[j - 1] := List.getElem?_eq_getElem (by omega)
    refine ⟨by omega, by omega, _, fill_at.mpr ⟨by omega, ?_⟩, hx⟩
    show HH[j - 1] = ((look (st x2.1).2 (i - 1 + 1)).bind fun j => HH[j - 1]?).getD (F' (i - 1))
    have e1 : i - 1 + 1 = i := by omega
    rw [e1, look_of T.mt.nodup1 hij]
    show HH[j - 1] = (HH[j - 1]?).getD _
    rw [hx]; rfl
  have EX : Exact (st x2.1).2 (fill x1.2.1 ψ F') HH := fun i j => by
    constructor
    · intro hij
      obtain ⟨r1, r3, x, a1, a2⟩ := at_ hij
      exact ⟨i - 1, j - 1, x, by omega, by omega, a1, a2⟩
    · rintro ⟨i', j', x, rfl, rfl, a1, a2⟩
      obtain ⟨_, e2⟩ := fill_at.mp a1
      cases hψ : ψ i' with
      | none =>
        rw [hψ] at e2
        have e2 : x = F' i' := e2
        exact absurd (List.mem_of_getElem? a2) (e2 ▸ F2' i')
      | some y =>
        rw [hψ] at e2
        have e2 : x = y := e2
        subst e2
        obtain ⟨j, b1, b2, b3⟩ := ψ1 i' x hψ
        have := nodup_at H1.nd b3 a2
        have : j = j' + 1 := by omega
        rw [← this]; exact b1
  have EP := S.gd.eqv W ⟨x1, x2, T⟩ PH H1 EX
  refine ⟨(st x2.1).1, fill x1.2.1 ψ F', S.hd, PH, EP.trans E1, rfl, ?_, ?_⟩
  · show (movedTo g _ n).length = _
    unfold movedTo
    rw [List.length_map, List.length_map, ← S.e1, List.length_map]
  · intro i a ha
    rw [← S.e1, List.getElem?_map] at ha
    obtain ⟨pr, hpr, rfl⟩ := Option.map_eq_some_iff.mp ha
    have hm := List.mem_of_getElem? hpr
    obtain ⟨u, a1, a2, a3, a4, a5⟩ := hsrc pr hm
    obtain ⟨_, _, x, c1, c2⟩ := at_ (i := pr.1) (j := pr.2) hm
    rw [c1]
    rw [← hHH] at c2
    obtain ⟨u', d1, d2⟩ := moved_at.mp c2
    rw [a1] at d1
    cases d1
    refine moved_at.mpr ⟨newSrc b p.1 (b.rule p.1 w (oldOf b p.1 (caseOf g n))).2 pr, by rw [List.getElem?_map, hpr]; rfl, ?_⟩
    rw [d2, a5]
    unfold srcOf
    by_cases hu : u = 0
    · rw [if_pos hu, if_pos hu, if_pos rfl]
    · rw [if_neg hu, if_neg hu, if_neg (by omega)]
      have hk := a4.resolve_left hu
      have e3 := h6 _ _ (idx_spec hk).1
      rw [← Gk u hk] at e3
      rw [Nat.add_sub_cancel, List.getD_eq_getElem?_getD, List.getD_eq_getElem?_getD, e3]
theorem Trk.run (fr : ∀ l : List α, ∃ x, x ∉ l) (W : WF b) (Rd : RedOk b reached heads st) (ni : ∀ x ∈ heads, ∀ y ∈ heads, nm x = nm y → x = y) : ∀ (row : List (Str × α)) {s l : Str × List α} {hd : Str} {H : List α}, Trk b heads nm s l hd H → Held b s → (∀ r ∈ row, r.1 ∈ b.ws) →
    ∃ hd' H', Trk b heads nm (b.run s row) ((leastPt b heads st nm).run l row) hd' H'
  | [], _, _, hd, H, T, _, _ => ⟨hd, H, T⟩
  | r :: row, s, l, hd, H, T, hs, hw => by
    obtain ⟨hd', H', T'⟩ := T.step fr W Rd ni hs (hw r List.mem_cons_self)
    exact Trk.run fr W Rd ni row T' (hs.step W (hw r List.mem_cons_self)) fun q hq => hw q (List.mem_cons_of_mem _ hq)
/-- the least book holds the kept names -/
theorem least_names (fr : ∀ l : List α, ∃ x, x ∉ l) (W : WF b) (Rd : RedOk b reached heads st) (ni : ∀ x ∈ heads, ∀ y ∈ heads, nm x = nm y → x = y) {row : List (Str × α)} (hw : ∀ r ∈ row, r.1 ∈ b.ws) (n : α) :
    n ∈ ((leastPt b heads st nm).run (nm b.st, []) row).2 ↔ ∃ a ∈ keptOf b (b.run (b.st, []) row).1, (b.run (b.st, []) row).2[a - 1]? = some n := by
  obtain ⟨hd, H, T⟩ := Trk.run fr W Rd ni row (Trk.start (nm := nm) W Rd) (held_start W) hw
  have hs := Held.run W (held_start W) hw
  obtain ⟨f, hf⟩ := fr (H ++ (b.run (b.st, []) row).2)
  rw [List.mem_append] at hf
  have k1 := kept_names fr W T.h2 (n := n) (f := f) fun z => hf (.inl z)
  have k2 := kept_names fr W hs (n := n) (f := f) fun z => hf (.inr z)
  have k3 : Idle b (hd, H) n f ↔ Idle b (b.run (b.st, []) row) n f := ⟨idle_eqv T.h3, idle_eqv T.h3.symm⟩
  rw [k2, ← k3, ← k1]
  constructor
  · intro hn
    obtain ⟨i, hi⟩ := List.getElem?_of_mem hn
    have hlt : i < (keptOf b hd).length := by rw [← T.h5]; exact (List.getElem?_eq_some_iff.mp hi).1
    have e := List.getElem?_eq_getElem hlt
    refine ⟨_, List.getElem_mem hlt, ?_⟩
    show H[_]? = _
    rw [← T.h6 _ _ e]; exact hi
  · rintro ⟨a, ha, hx⟩
    obtain ⟨i, hi⟩ := List.getElem?_of_mem ha
    have := T.h6 _ _ hi
    rw [hx] at this
    exact List.mem_of_getElem? this
theorem run_names : ∀ (row : List (Str × α)) (s : Str × List α) (n : α), n ∈ (b.run s row).2 → n ∈ s.2 ∨ n ∈ row.map (·.2)
  | [], s, n, h => .inl h
  | r :: row, s, n, h => by
    rcases run_names row (b.step s r) n h with h | h
    · obtain ⟨i, hi⟩ := List.getElem?_of_mem h
      obtain ⟨u, _, e⟩ := moved_at.mp hi
      unfold srcOf at e
      split at e
      · exact .inr (by rw [e]; exact List.mem_cons_self)
      · rw [List.getD_eq_getElem?_getD] at e
        cases hg : s.2[u - 1]? with
        | none => rw [hg] at e; exact .inr (by rw [show n = r.2 from e]; exact List.mem_cons_self)
        | some y => rw [hg] at e; exact .inl (by rw [show n = y from e]; exact List.mem_of_getElem? hg)
    · exact .inr (List.mem_cons_of_mem _ h)
/-- a name that is not told may be exchanged for a new one -/
theorem turned_same (fr : ∀ l : List α, ∃ x, x ∉ l) (W : WF b) {row rest : List (Str × α)} (hw : ∀ r ∈ row, r.1 ∈ b.ws) (hv : ∀ r ∈ rest, r.1 ∈ b.ws) {n f : α} (hn : ¬ ∃ a ∈ keptOf b (b.run (b.st, []) row).1, (b.run (b.st, []) row).2[a - 1]? = some n) (hf : f ∉ row.map (·.2)) :
    b.yes (b.run (b.st, []) (row ++ rest)).1 = b.yes (b.run (b.st, []) ((row.map fun r => (r.1, if r.2 = n then f else r.2)) ++ rest)).1 := by
  have hs := Held.run W (held_start (α := α) W) hw
  have hff : f ∉ (b.run (b.st, []) row).2 := fun z => (run_names row _ f z).elim (fun z => nomatch z) hf
  have I : Idle b (b.run (b.st, []) row) n f := by
    by_cases I : Idle b (b.run (b.st, []) row) n f
    · exact I
    · exact absurd ((kept_names fr W hs hff).mpr I) hn
  have e : (row.map fun r => (r.1, if r.2 = n then f else r.2)) = row.map fun r => (r.1, swp n f r.2) := List.map_congr_left fun r hr => by
    unfold swp
    have : r.2 ≠ f := fun z => hf (List.mem_map.mpr ⟨r, hr, z⟩)
    rw [if_neg this]
  have e2 : b.run (b.st, []) (row.map fun r => (r.1, swp n f r.2)) = swS n f (b.run (b.st, []) row) := run_map (fun x y => swp_inj) row (b.st, [])
  unfold Pt.run at *
  rw [e, List.foldl_append, List.foldl_append, e2]
  exact I rest hv
end
end Fw
set_option Elab.async false
set_option linter.all false
set_option maxRecDepth 100000
set_option maxHeartbeats 4000000
namespace Fw
open PySem PySem.Spec PyProof.Rows L2 Pd
/-! ### the search, step by step -/
structure FewT (b : Pt) : Prop where
  n1 : ∀ l : List Tr, l.Nodup → (∀ t ∈ l, TrW b t) → l.length ≤ 3136
  n2 : ∀ t, TrW b t → (nxt b t).length ≤ 21
structure ASt where
  order : List Tr
  ah : Tr → List Tr
  unl : List Tr
def ASt.note (s : ASt) (t : Tr) : ASt := if t ∈ s.order then s else ⟨s.order ++ [t], fun x => if x = t then [] else s.ah x, s.unl⟩
def ASt.push (s : ASt) (g t : Tr) : ASt := ⟨s.order, fun x => if x = g then s.ah g ++ [t] else s.ah x, s.unl⟩
def ASt.mark (s : ASt) (t : Tr) : ASt := ⟨s.order, s.ah, s.unl ++ [t]⟩
def ASt.total (s : ASt) : Nat := (s.order.map fun g => (s.ah g).length).sum
def ASt.pend (s : ASt) : Nat := ((s.order.filter fun g => decide (g ∉ s.unl)).map fun g => (s.ah g).length).sum
theorem sum_le {α : Type} (l : List α) (p : α → Bool) (f : α → Nat) : ((l.filter p).map f).sum ≤ (l.map f).sum := by
  induction l with
  | nil => exact Nat.le_refl _
  | cons x l ih =>
    rw [List.filter_cons]
    split
    · rw [List.map_cons, List.map_cons, List.sum_cons, List.sum_cons]; omega
    · rw [List.map_cons, List.sum_cons]; omega
theorem ASt.pend_le (s : ASt) : s.pend ≤ s.total := sum_le _ _ _
theorem mem_sum {α : Type} {l : List α} {f : α → Nat} {x : α} (h : x ∈ l) : f x ≤ (l.map f).sum := by
  induction l with
  | nil => cases h
  | cons y l ih =>
    rw [List.map_cons, List.sum_cons]
    rcases List.mem_cons.mp h with e | h
    · rw [e]; omega
    · have := ih h; omega
/-- what holds of the search while it goes on: behind `at` nothing is looked at -/
structure InvC (b : Pt) (s : ASt) (first at_ : Nat) : Prop where
  hf : first ≤ at_
  ha : at_ ≤ s.order.length
  nd : s.order.Nodup
  ok : ∀ t ∈ s.order, TrW b t
  proc : ∀ i t, i < at_ → s.order[i]? = some t → ∀ g ∈ nxt b t, g ∈ s.order ∧ t ∈ s.ah g
  un : ∀ t ∈ s.unl, t ∈ s.order ∧ ¬ Good b t
  und : s.unl.Nodup
  comp : ∀ i t, i < first → s.order[i]? = some t → ¬ Good b t → t ∈ s.unl
  ahs : ∀ g x, g ∈ s.order → x ∈ s.ah g → g ∈ nxt b x ∧ x ∈ s.order
section
variable {b : Pt} {s : ASt} {first at_ : Nat}
theorem note_mem {t : Tr} : ∀ {x : Tr}, x ∈ (s.note t).order ↔ x ∈ s.order ∨ x = t := fun {x} => by
  unfold ASt.note
  split
  · exact ⟨.inl, fun z => z.elim (fun z => z) fun z => z ▸ (by assumption)⟩
  · show x ∈ s.order ++ [t] ↔ _
    rw [List.mem_append, List.mem_singleton]
theorem note_at {t : Tr} {i : Nat} (hi : i < s.order.length) : (s.note t).order[i]? = s.order[i]? := by
  unfold ASt.note
  split
  · rfl
  · exact List.getElem?_append_left hi
theorem note_len {t : Tr} : s.order.length ≤ (s.note t).order.length := by
  unfold ASt.note
  split
  · exact Nat.le_refl _
  · show _ ≤ (s.order ++ [t]).length
    rw [List.length_append]; omega
theorem note_unl {t : Tr} : (s.note t).unl = s.unl := by unfold ASt.note; split <;> rfl
theorem note_ah {t x : Tr} (h : x ∈ s.order) : (s.note t).ah x = s.ah x := by
  unfold ASt.note
  split
  · rfl
  · show (if x = t then [] else s.ah x) = _
    rw [if_neg]; intro e; exact absurd (e ▸ h) (by assumption)
theorem note_ah' {t x : Tr} {y : Tr} (h : y ∈ (s.note t).ah x) (hx : x ∈ (s.note t).order) : x ∈ s.order ∧ y ∈ s.ah x := by
  unfold ASt.note at h hx
  split at h
  · rename_i ht
    rw [if_pos ht] at hx
    exact ⟨hx, h⟩
  · rename_i ht
    rw [if_neg ht] at hx
    have h : y ∈ (if x = t then [] else s.ah x) := h
    have hx : x ∈ s.order ++ [t] := hx
    split at h
    · cases h
    · rw [List.mem_append, List.mem_singleton] at hx
      exact ⟨hx.resolve_right (by assumption), h⟩
theorem note_total {t : Tr} : (s.note t).total = s.total := by
  unfold ASt.note ASt.total
  split
  · rfl
  · rename_i ht
    show ((s.order ++ [t]).map fun g => (if g = t then [] else s.ah g).length).sum = _
    rw [List.map_append, List.sum_append]
    have : (s.order.map fun g => (if g = t then [] else s.ah g).length) = s.order.map fun g => (s.ah g).length := List.map_congr_left fun g hg => by
      rw [if_neg]; intro e; exact ht (e ▸ hg)
    rw [this]
    simp
theorem InvC.note (I : InvC b s first at_) {t : Tr} (T : TrW b t) : InvC b (s.note t) first at_ := by
  have hl := note_len (s := s) (t := t)
  refine ⟨I.hf, Nat.le_trans I.ha hl, ?_, fun x hx => ?_, fun i x hi hx g hg => ?_, fun x hx => ?_, ?_, fun i x hi hx hG => ?_, fun g x hg hx => ?_⟩
  · unfold ASt.note
    split
    · exact I.nd
    · rename_i ht
      exact List.nodup_append.mpr ⟨I.nd, by simp, fun a ha c hc e => ht (by rw [List.mem_singleton] at hc; rw [← hc, ← e]; exact ha)⟩
  · rcases note_mem.mp hx with z | z
    · exact I.ok x z
    · rw [z]; exact T
  · rw [note_at (Nat.lt_of_lt_of_le hi I.ha)] at hx
    obtain ⟨h1, h2⟩ := I.proc i x hi hx g hg
    exact ⟨note_mem.mpr (.inl h1), by rw [note_ah h1]; exact h2⟩
  · rw [note_unl] at hx
    exact ⟨note_mem.mpr (.inl (I.un x hx).1), (I.un x hx).2⟩
  · rw [note_unl]; exact I.und
  · have := I.hf; have := I.ha
    rw [note_at (by omega)] at hx
    rw [note_unl]; exact I.comp i x hi hx hG
  · obtain ⟨h1, h2⟩ := note_ah' hx hg
    obtain ⟨h3, h4⟩ := I.ahs g x h1 h2
    exact ⟨h3, note_mem.mpr (.inl h4)⟩
theorem InvC.push (I : InvC b s first at_) {g t : Tr} (ht : t ∈ s.order) (hg : g ∈ nxt b t) : InvC b (s.push g t) first at_ := by
  refine ⟨I.hf, I.ha, I.nd, I.ok, fun i x hi hx y hy => ?_, I.un, I.und, I.comp, fun y x hy hx => ?_⟩
  · obtain ⟨h1, h2⟩ := I.proc i x hi hx y hy
    refine ⟨h1, ?_⟩
    show x ∈ (if y = g then s.ah g ++ [t] else s.ah y)
    split
    · rename_i e; rw [← e]; exact List.mem_append_left _ h2
    · exact h2
  · have hx : x ∈ (if y = g then s.ah g ++ [t] else s.ah y) := hx
    split at hx
    · rename_i e
      subst e
      rcases List.mem_append.mp hx with z | z
      · exact I.ahs y x hy z
      · rw [List.mem_singleton] at z; rw [z]; exact ⟨hg, ht⟩
    · exact I.ahs y x hy hx
theorem sum_one {α : Type} [DecidableEq α] {l : List α} (nd : l.Nodup) {f f' : α → Nat} {x : α} (hx : x ∈ l) {k : Nat} (h1 : f' x = f x + k) (h2 : ∀ y, y ≠ x → f' y = f y) : (l.map f').sum = (l.map f).sum + k := by
  induction l with
  | nil => cases hx
  | cons y l ih =>
    rw [List.nodup_cons] at nd
    rw [List.map_cons, List.map_cons, List.sum_cons, List.sum_cons]
    rcases List.mem_cons.mp hx with e | hx
    · subst e
      have : l.map f' = l.map f := List.map_congr_left fun z hz => h2 z fun e => nd.1 (e ▸ hz)
      rw [this, h1]; omega
    · have := ih nd.2 hx
      rw [this, h2 y fun e => nd.1 (e ▸ hx)]; omega
theorem push_total (nd : s.order.Nodup) {g t : Tr} (hg : g ∈ s.order) : (s.push g t).total = s.total + 1 := by
  unfold ASt.push ASt.total
  refine sum_one nd (x := g) hg ?_ fun y hy => ?_
  · show (if g = g then s.ah g ++ [t] else s.ah g).length = _
    rw [if_pos rfl, List.length_append]; rfl
  · show (if y = g then s.ah g ++ [t] else s.ah y).length = _
    rw [if_neg hy]
/-- the goals of the triple at `at` are noted -/
theorem InvC.next (I : InvC b s first at_) {t : Tr} (ht : s.order[at_]? = some t) (h : ∀ g ∈ nxt b t, g ∈ s.order ∧ t ∈ s.ah g) : InvC b s first (at_ + 1) := by
  have hl := (List.getElem?_eq_some_iff.mp ht).1
  refine ⟨Nat.le_succ_of_le I.hf, hl, I.nd, I.ok, fun i x hi hx g hg => ?_, I.un, I.und, I.comp, I.ahs⟩
  by_cases e : i = at_
  · subst e
    rw [ht] at hx
    cases hx
    exact h g hg
  · exact I.proc i x (by omega) hx g hg
structure Inv1 (b : Pt) (s : ASt) (wt : List Tr) (first at_ k : Nat) : Prop where
  c : InvC b s first at_
  w1 : ∀ x ∈ wt, x ∈ s.order ∧ ¬ Good b x
  w2 : ∀ i x, first ≤ i → i < at_ → s.order[i]? = some x → (¬ Agr b x ∨ ∃ g ∈ nxt b x, g ∈ s.unl) → x ∈ wt
  wl : wt.length ≤ at_
  tl : s.total ≤ 21 * at_ + k
structure Inv2 (b : Pt) (s : ASt) (wt : List Tr) : Prop where
  nd : s.order.Nodup
  ok : ∀ t ∈ s.order, TrW b t
  proc : ∀ t ∈ s.order, ∀ g ∈ nxt b t, g ∈ s.order ∧ t ∈ s.ah g
  un : ∀ t ∈ s.unl, t ∈ s.order ∧ ¬ Good b t
  und : s.unl.Nodup
  ahs : ∀ g x, g ∈ s.order → x ∈ s.ah g → g ∈ nxt b x ∧ x ∈ s.order
  w1 : ∀ x ∈ wt, x ∈ s.order ∧ ¬ Good b x
  c1 : ∀ x ∈ s.order, ¬ Agr b x → x ∈ s.unl ∨ x ∈ wt
  c2 : ∀ x ∈ s.order, ∀ g ∈ nxt b x, g ∈ s.unl → x ∈ s.unl ∨ x ∈ wt
  ml : wt.length + s.pend ≤ 100000
  tl : s.total ≤ 21 * s.order.length
theorem Inv1.two (F : FewT b) {wt : List Tr} (I : Inv1 b s wt first at_ 0) (he : at_ = s.order.length) : Inv2 b s wt := by
  have proc : ∀ t ∈ s.order, ∀ g ∈ nxt b t, g ∈ s.order ∧ t ∈ s.ah g := fun t ht => by
    obtain ⟨i, hi⟩ := List.getElem?_of_mem ht
    exact I.c.proc i t (by rw [he]; exact (List.getElem?_eq_some_iff.mp hi).1) hi
  refine ⟨I.c.nd, I.c.ok, proc, I.c.un, I.c.und, I.c.ahs, I.w1, fun x hx ha => ?_, fun x hx g hg hu => ?_, ?_, by rw [← he]; exact I.tl⟩
  · obtain ⟨i, hi⟩ := List.getElem?_of_mem hx
    by_cases hif : i < first
    · exact .inl (I.c.comp i x hif hi fun G => ha G.agr)
    · exact .inr (I.w2 i x (by omega) (by rw [he]; exact (List.getElem?_eq_some_iff.mp hi).1) hi (.inl ha))
  · obtain ⟨i, hi⟩ := List.getElem?_of_mem hx
    by_cases hif : i < first
    · exact .inl (I.c.comp i x hif hi fun G => (I.c.un g hu).2 (G.next hg))
    · exact .inr (I.w2 i x (by omega) (by rw [he]; exact (List.getElem?_eq_some_iff.mp hi).1) hi (.inr ⟨g, hg, hu⟩))
  · have h1 := F.n1 s.order I.c.nd I.c.ok
    have h2 := I.wl
    have h3 := I.tl
    have h4 := s.pend_le
    omega
theorem Inv1.note {wt : List Tr} {k : Nat} (I : Inv1 b s wt first at_ k) {t : Tr} (T : TrW b t) : Inv1 b (s.note t) wt first at_ k := by
  refine ⟨I.c.note T, fun x hx => ⟨note_mem.mpr (.inl (I.w1 x hx).1), (I.w1 x hx).2⟩, fun i x h1 h2 hx hb => ?_, I.wl, by rw [note_total]; exact I.tl⟩
  rw [note_at (Nat.lt_of_lt_of_le h2 I.c.ha)] at hx
  rw [note_unl] at hb
  exact I.w2 i x h1 h2 hx hb
theorem Inv1.push {wt : List Tr} {k : Nat} (I : Inv1 b s wt first at_ k) {g t : Tr} (ht : t ∈ s.order) (hg : g ∈ nxt b t) (ho : g ∈ s.order) : Inv1 b (s.push g t) wt first at_ (k + 1) := by
  refine ⟨I.c.push ht hg, I.w1, I.w2, I.wl, ?_⟩
  rw [push_total I.c.nd ho]
  have := I.tl
  omega
theorem Inv1.nextT {wt : List Tr} {k : Nat} (I : Inv1 b s wt first at_ k) (hk : k ≤ 21) {t : Tr} (ht : s.order[at_]? = some t) (h : ∀ g ∈ nxt b t, g ∈ s.order ∧ t ∈ s.ah g) (bad : ¬ Agr b t ∨ ∃ g ∈ nxt b t, g ∈ s.unl) : Inv1 b s (wt ++ [t]) first (at_ + 1) 0 := by
  refine ⟨I.c.next ht h, fun x hx => ?_, fun i x h1 h2 hx hb => ?_, ?_, ?_⟩
  · rcases List.mem_append.mp hx with z | z
    · exact I.w1 x z
    · rw [List.mem_singleton] at z
      subst z
      refine ⟨List.mem_of_getElem? ht, fun G => bad.elim (fun z => z G.agr) fun ⟨g, hg, hu⟩ => (I.c.un g hu).2 (G.next hg)⟩
  · by_cases e : i = at_
    · subst e
      rw [ht] at hx
      cases hx
      exact List.mem_append_right _ List.mem_cons_self
    · exact List.mem_append_left _ (I.w2 i x h1 (by omega) hx hb)
  · have := I.wl
    rw [List.length_append, List.length_singleton]; omega
  · have := I.tl
    omega
theorem Inv1.nextF {wt : List Tr} {k : Nat} (I : Inv1 b s wt first at_ k) (hk : k ≤ 21) {t : Tr} (ht : s.order[at_]? = some t) (h : ∀ g ∈ nxt b t, g ∈ s.order ∧ t ∈ s.ah g) (bad : ¬ (¬ Agr b t ∨ ∃ g ∈ nxt b t, g ∈ s.unl)) : Inv1 b s wt first (at_ + 1) 0 := by
  refine ⟨I.c.next ht h, I.w1, fun i x h1 h2 hx hb => ?_, Nat.le_succ_of_le I.wl, ?_⟩
  · by_cases e : i = at_
    · subst e
      rw [ht] at hx
      cases hx
      exact absurd hb bad
    · exact I.w2 i x h1 (by omega) hx hb
  · have := I.tl
    omega
theorem Inv2.skip {wt : List Tr} {x : Tr} (I : Inv2 b s (wt ++ [x])) (hx : x ∈ s.unl) : Inv2 b s wt := by
  have ml := I.ml
  rw [List.length_append] at ml
  refine ⟨I.nd, I.ok, I.proc, I.un, I.und, I.ahs, fun y hy => I.w1 y (List.mem_append_left _ hy), fun y hy ha => ?_, fun y hy g hg hu => ?_, by omega, I.tl⟩
  · rcases I.c1 y hy ha with z | z
    · exact .inl z
    · rcases List.mem_append.mp z with z | z
      · exact .inr z
      · rw [List.mem_singleton] at z; rw [z]; exact .inl hx
  · rcases I.c2 y hy g hg hu with z | z
    · exact .inl z
    · rcases List.mem_append.mp z with z | z
      · exact .inr z
      · rw [List.mem_singleton] at z; rw [z]; exact .inl hx
theorem pend_mark (nd : s.order.Nodup) {x : Tr} (hx : x ∈ s.order) (hu : x ∉ s.unl) : (s.mark x).pend + (s.ah x).length = s.pend := by
  unfold ASt.mark ASt.pend
  show ((s.order.filter fun g => decide (g ∉ s.unl ++ [x])).map fun g => (s.ah g).length).sum + (s.ah x).length = _
  generalize s.order = l at *
  induction l with
  | nil => cases hx
  | cons y l ih =>
    rw [List.nodup_cons] at nd
    rw [List.filter_cons, List.filter_cons]
    rcases List.mem_cons.mp hx with e | hx
    · subst e
      rw [if_neg (by simp), if_pos (by simpa using hu)]
      have : (l.filter fun g => decide (g ∉ s.unl ++ [x])) = l.filter fun g => decide (g ∉ s.unl) := List.filter_congr fun z hz => by
        have : z ≠ x := fun e => nd.1 (e ▸ hz)
        simp [this]
      rw [this, List.map_cons, List.sum_cons]; omega
    · have := ih nd.2 hx
      have hyx : y ≠ x := fun e => nd.1 (e ▸ hx)
      by_cases hy : y ∈ s.unl
      · rw [if_neg (by simp [hy]), if_neg (by simp [hy])]; exact this
      · rw [if_pos (by simp [hy, hyx]), if_pos (by simp [hy]), List.map_cons, List.map_cons, List.sum_cons, List.sum_cons]; omega
theorem Inv2.mark {wt : List Tr} {x : Tr} (I : Inv2 b s (wt ++ [x])) (hx : x ∉ s.unl) : Inv2 b (s.mark x) (wt ++ s.ah x) := by
  obtain ⟨hxo, hxg⟩ := I.w1 x (List.mem_append_right _ List.mem_cons_self)
  have mem : ∀ y, y ∈ s.unl ∨ y ∈ wt ++ [x] → y ∈ (s.mark x).unl ∨ y ∈ wt ++ s.ah x := fun y z => by
    rcases z with z | z
    · exact .inl (List.mem_append_left _ z)
    · rcases List.mem_append.mp z with z | z
      · exact .inr (List.mem_append_left _ z)
      · exact .inl (List.mem_append_right _ z)
  refine ⟨I.nd, I.ok, I.proc, fun y hy => ?_, ?_, I.ahs, fun y hy => ?_, fun y hy ha => mem y (I.c1 y hy ha), fun y hy g hg hu => ?_, ?_, I.tl⟩
  · rcases List.mem_append.mp hy with z | z
    · exact I.un y z
    · rw [List.mem_singleton] at z; rw [z]; exact ⟨hxo, hxg⟩
  · exact List.nodup_append.mpr ⟨I.und, by simp, fun a ha c hc e => hx (by rw [List.mem_singleton] at hc; rw [← hc, ← e]; exact ha)⟩
  · rcases List.mem_append.mp hy with z | z
    · exact I.w1 y (List.mem_append_left _ z)
    · obtain ⟨h1, h2⟩ := I.ahs x y hxo z
      exact ⟨h2, fun G => hxg (G.next h1)⟩
  · rcases List.mem_append.mp hu with z | z
    · exact mem y (I.c2 y hy g hg z)
    · rw [List.mem_singleton] at z
      subst z
      exact .inr (List.mem_append_right _ (I.proc y hy g hg).2)
  · have h1 := I.ml
    have h2 := pend_mark I.nd hxo hx
    rw [List.length_append] at h1 ⊢
    simp only [List.length_singleton] at h1
    omega
/-- what holds of the search between two questions -/
structure InvA (b : Pt) (s : ASt) : Prop where
  nd : s.order.Nodup
  ok : ∀ t ∈ s.order, TrW b t
  proc : ∀ t ∈ s.order, ∀ g ∈ nxt b t, g ∈ s.order ∧ t ∈ s.ah g
  un : ∀ t ∈ s.unl, t ∈ s.order ∧ ¬ Good b t
  und : s.unl.Nodup
  ahs : ∀ g x, g ∈ s.order → x ∈ s.ah g → g ∈ nxt b x ∧ x ∈ s.order
  comp : ∀ t ∈ s.order, ¬ Good b t → t ∈ s.unl
  tl : s.total ≤ 21 * s.order.length
theorem Inv2.fin (I : Inv2 b s []) : InvA b s := by
  refine ⟨I.nd, I.ok, I.proc, I.un, I.und, I.ahs, fun t ht hG => ?_, I.tl⟩
  by_cases hu : t ∈ s.unl
  · exact hu
  · refine absurd (good_of (G := fun t => t ∈ s.order ∧ t ∉ s.unl) (fun t ⟨h1, h2⟩ => ?_) (fun t ⟨h1, h2⟩ g hg => ⟨(I.proc t h1 g hg).1, fun z => ?_⟩) ⟨ht, hu⟩) hG
    · by_cases ha : Agr b t
      · exact ha
      · exact absurd ((I.c1 t h1 ha).resolve_right fun z => nomatch z) h2
    · exact h2 ((I.c2 t h1 g hg z).resolve_right fun z => nomatch z)
theorem InvA.start (I : InvA b s) {t : Tr} (T : TrW b t) : Inv1 b (s.note t) [] s.order.length s.order.length 0 := by
  refine ⟨InvC.note ⟨Nat.le_refl _, Nat.le_refl _, I.nd, I.ok, fun i x hi hx => I.proc x (List.mem_of_getElem? hx), I.un, I.und, fun i x hi hx => I.comp x (List.mem_of_getElem? hx), I.ahs⟩ T, fun _ z => (nomatch z), fun i x h1 h2 => by omega, Nat.zero_le _, ?_⟩
  rw [note_total]; exact I.tl
theorem InvA.ask (I : InvA b s) {t : Tr} (ht : t ∈ s.order) : t ∈ s.unl ↔ ¬ Good b t := ⟨fun h => (I.un t h).2, I.comp t ht⟩
theorem InvA.empty : InvA b ⟨[], fun _ => [], []⟩ := ⟨List.nodup_nil, fun _ z => (nomatch z), fun _ z => (nomatch z), fun _ z => (nomatch z), List.nodup_nil, fun _ _ z => (nomatch z), fun _ z => (nomatch z), Nat.zero_le _⟩
end
end Fw
set_option Elab.async false
set_option linter.all false
set_option maxRecDepth 100000
set_option maxHeartbeats 4000000
namespace Fw
open PySem PySem.Spec PyProof.Rows L2 Pd
theorem sorted_ext : ∀ {l m : Mg}, (l.map (·.1)).Pairwise (· < ·) → (m.map (·.1)).Pairwise (· < ·) → (∀ x, x ∈ l ↔ x ∈ m) → l = m
  | [], [], _, _, _ => rfl
  | [], y :: m, _, _, h => nomatch (h y).mpr List.mem_cons_self
  | x :: l, [], _, _, h => nomatch (h x).mp List.mem_cons_self
  | x :: l, y :: m, h1, h2, h => by
    rw [List.map_cons, List.pairwise_cons] at h1 h2
    have e : x = y := by
      rcases List.mem_cons.mp ((h x).mp List.mem_cons_self) with e | hx
      · exact e
      · rcases List.mem_cons.mp ((h y).mpr List.mem_cons_self) with e | hy
        · exact e.symm
        · have a := h2.1 x.1 (List.mem_map.mpr ⟨x, hx, rfl⟩)
          have c := h1.1 y.1 (List.mem_map.mpr ⟨y, hy, rfl⟩)
          exact absurd a (Nat.lt_asymm c)
    subst e
    congr 1
    refine sorted_ext h1.2 h2.2 fun z => ⟨fun hz => ?_, fun hz => ?_⟩
    · refine (List.mem_cons.mp ((h z).mp (List.mem_cons_of_mem _ hz))).resolve_left fun e => ?_
      have := h1.1 z.1 (List.mem_map.mpr ⟨z, hz, rfl⟩)
      rw [e] at this; exact Nat.lt_irrefl _ this
    · refine (List.mem_cons.mp ((h z).mpr (List.mem_cons_of_mem _ hz))).resolve_left fun e => ?_
      have := h2.1 z.1 (List.mem_map.mpr ⟨z, hz, rfl⟩)
      rw [e] at this; exact Nat.lt_irrefl _ this
def mOf (c : Nat × Nat × Nat) : Mg := [(1, c.1), (2, c.2.1), (3, c.2.2)].filter fun x => decide (x.2 ≠ 0)
def codes : List (Nat × Nat × Nat) := (List.range 4).flatMap fun x => (List.range 4).flatMap fun y => (List.range 4).map fun z => (x, y, z)
theorem codes_mem {x y z : Nat} (hx : x ≤ 3) (hy : y ≤ 3) (hz : z ≤ 3) : (x, y, z) ∈ codes := by
  unfold codes
  simp only [List.mem_flatMap, List.mem_map, List.mem_range]
  exact ⟨x, by omega, y, by omega, z, by omega, rfl⟩
theorem mOf_of {s1 s2 : Nat} {m : Mg} (h : Mt s1 s2 m) (h1 : s1 ≤ 3) : m = mOf (getM m 1, getM m 2, getM m 3) := by
  refine sorted_ext h.inc ?_ fun x => ?_
  · exact (show (([(1, getM m 1), (2, getM m 2), (3, getM m 3)] : Mg).map (·.1)).Pairwise (· < ·) from (by decide : ([1, 2, 3] : List Nat).Pairwise (· < ·))).sublist (List.Sublist.map _ List.filter_sublist)
  · obtain ⟨i, j⟩ := x
    unfold mOf
    rw [List.mem_filter]
    constructor
    · intro hm
      obtain ⟨r1, r2, r3, r4⟩ := h.rng _ hm
      have r1 : 1 ≤ i := r1
      have r2 : i ≤ s1 := r2
      have r3 : 1 ≤ j := r3
      have e := getM_some h hm
      refine ⟨?_, decide_eq_true (show j ≠ 0 by omega)⟩
      have : i = 1 ∨ i = 2 ∨ i = 3 := by omega
      rcases this with z | z | z <;> subst z <;> simp [e]
    · rintro ⟨hm, hj⟩
      have hj : j ≠ 0 := of_decide_eq_true hj
      have e : getM m i = j := by
        simp only [List.mem_cons, List.not_mem_nil, or_false, Prod.mk.injEq] at hm
        rcases hm with ⟨z1, z2⟩ | ⟨z1, z2⟩ | ⟨z1, z2⟩ <;> rw [z1, z2]
      have : i ∈ m.map (·.1) := by
        by_cases z : i ∈ m.map (·.1)
        · exact z
        · rw [getM_none z] at e; exact absurd e.symm hj
      obtain ⟨⟨i', j'⟩, hp, rfl⟩ := List.mem_map.mp this
      have := getM_some h hp
      rw [e] at this
      rw [this]; exact hp
theorem flatMap_len_le {α β : Type} (f : α → List β) (k : Nat) : ∀ (l : List α), (∀ x ∈ l, (f x).length ≤ k) → (l.flatMap f).length ≤ l.length * k
  | [], _ => by simp
  | x :: l, h => by
    rw [List.flatMap_cons, List.length_append, List.length_cons, Nat.add_mul]
    have := flatMap_len_le f k l fun y hy => h y (List.mem_cons_of_mem _ hy)
    have := h x List.mem_cons_self
    omega
theorem few_of {b : Pt} (W : WF b) (hn : b.pl.length ≤ 7) (hs : ∀ p ∈ b.pl, p.2.1 ≤ 3) : FewT b := by
  refine ⟨fun l nd hl => ?_, fun t ⟨p, q, T⟩ => ?_⟩
  · have := nodup_le nd (m := b.pl.flatMap fun p => b.pl.flatMap fun q => codes.map fun c => ((p.1, q.1, mOf c) : Tr)) fun t ht => by
      obtain ⟨p, q, T⟩ := hl t ht
      obtain ⟨t1, t2, m⟩ := t
      have e1 : p.1 = t1 := T.ep
      have e2 : q.1 = t2 := T.eq
      have g := fun i => getM_le T.mt (i := i)
      have hq := hs q T.hq
      refine List.mem_flatMap.mpr ⟨p, T.hp, List.mem_flatMap.mpr ⟨q, T.hq, List.mem_map.mpr ⟨_, codes_mem (Nat.le_trans (g 1) hq) (Nat.le_trans (g 2) hq) (Nat.le_trans (g 3) hq), ?_⟩⟩⟩
      rw [← mOf_of T.mt (hs p T.hp), e1, e2]
    refine Nat.le_trans this ?_
    have h1 := flatMap_len_le (fun p : Pl => b.pl.flatMap fun q => codes.map fun c => ((p.1, q.1, mOf c) : Tr)) (7 * 64) b.pl fun p _ => by
      refine Nat.le_trans (flatMap_len_le (fun q : Pl => codes.map fun c => ((p.1, q.1, mOf c) : Tr)) 64 b.pl fun q _ => by rw [List.length_map]; exact Nat.le_of_eq rfl) (Nat.mul_le_mul_right _ hn)
    exact Nat.le_trans h1 (Nat.le_trans (Nat.mul_le_mul_right _ hn) (by decide))
  · have h1 := flatMap_len_le (fun w => (kindsOf (b.slots t.1) (b.slots t.2.1) t.2.2).map fun k => behindOf b t w k) 7 b.ws fun w _ => by
      rw [List.length_map, (T.sl W).1, (T.sl W).2]
      have := kinds_len (s1 := p.2.1) (s2 := q.2.1) (m := t.2.2)
      have := hs p T.hp
      have := hs q T.hq
      omega
    exact Nat.le_trans h1 (Nat.mul_le_mul_right 7 W.w3)
end Fw
set_option Elab.async false
set_option linter.all false
set_option maxRecDepth 100000
set_option maxHeartbeats 4000000
namespace Fw
open PySem PySem.Spec PyProof.Rows L2 Pd
theorem valD_set {α κ : Type} [DecidableEq α] [DecidableEq κ] {f : α → κ} (hf : ∀ a b, f a = f b → a = b) (g : α → D) : ∀ (l : List α) (k : α), valD (l.map fun t => (f t, g t)) (f k) = if k ∈ l then some (g k) else none
  | [], k => rfl
  | t :: l, k => by
    rw [List.map_cons]
    by_cases e : t = k
    · subst e
      rw [valD_pos (by rfl), if_pos List.mem_cons_self]
    · rw [valD_neg (fun z => e (hf _ _ z)), valD_set hf g l k]
      by_cases h : k ∈ l
      · rw [if_pos h, if_pos (List.mem_cons_of_mem _ h)]
      · rw [if_neg h, if_neg fun z => (List.mem_cons.mp z).elim (fun z => e z.symm) h]
theorem putD_set {α κ : Type} [DecidableEq α] [DecidableEq κ] {f : α → κ} (hf : ∀ a b, f a = f b → a = b) (g : α → D) {l : List α} {k : α} (h : k ∉ l) : putD (l.map fun t => (f t, g t)) (f k) (g k) = (l ++ [k]).map fun t => (f t, g t) := by
  rw [putD_new, List.map_append]; rfl
  intro z
  rw [List.map_map] at z
  obtain ⟨t, ht, e⟩ := List.mem_map.mp z
  exact h (hf _ _ e ▸ ht)
/-- the places reached so far -/
structure RP (b : Pt) (rs : List Str) (at_ : Nat) : Prop where
  nd : rs.Nodup
  mem : ∀ q ∈ rs, ∃ p ∈ b.pl, p.1 = q
  hd : rs[0]? = some b.st
  ha : at_ ≤ rs.length
  cl : ∀ i q, i < at_ → rs[i]? = some q → ∀ w ∈ b.ws, ∀ c, c ≤ b.slots q → (b.rule q w c).1 ∈ rs
def addR (rs : List Str) (g : Str) : List Str := if g ∈ rs then rs else rs ++ [g]
theorem addR_mem {rs : List Str} {g x : Str} : x ∈ addR rs g ↔ x ∈ rs ∨ x = g := by
  unfold addR
  split
  · exact ⟨.inl, fun z => z.elim id fun z => z ▸ (by assumption)⟩
  · rw [List.mem_append, List.mem_singleton]
theorem addR_at {rs : List Str} {g x : Str} {i : Nat} (h : rs[i]? = some x) : (addR rs g)[i]? = some x := by
  unfold addR
  split
  · exact h
  · rw [List.getElem?_append_left (List.getElem?_eq_some_iff.mp h).1]; exact h
theorem addR_len {rs : List Str} {g : Str} : rs.length ≤ (addR rs g).length := by
  unfold addR
  split
  · exact Nat.le_refl _
  · rw [List.length_append]; omega
theorem RP.len {b : Pt} {rs : List Str} {at_ : Nat} (h : RP b rs at_) : rs.length ≤ b.pl.length := by
  have := nodup_le h.nd (m := b.pl.map (·.1)) fun x hx => by
    obtain ⟨p, hp, e⟩ := h.mem x hx
    exact List.mem_map.mpr ⟨p, hp, e⟩
  rwa [List.length_map] at this
theorem RP.add {b : Pt} {rs : List Str} {at_ : Nat} (h : RP b rs at_) {g : Str} (hg : ∃ p ∈ b.pl, p.1 = g) : RP b (addR rs g) at_ := by
  refine ⟨?_, fun q hq => ?_, addR_at h.hd, Nat.le_trans h.ha addR_len, fun i q hi hq w hw c hc => ?_⟩
  · unfold addR
    split
    · exact h.nd
    · rename_i hn
      exact List.nodup_append.mpr ⟨h.nd, by simp, fun a ha c hc e => hn (by rw [List.mem_singleton] at hc; rw [← hc, ← e]; exact ha)⟩
  · rcases addR_mem.mp hq with z | z
    · exact h.mem q z
    · rw [z]; exact hg
  · have hi' : i < rs.length := Nat.lt_of_lt_of_le hi h.ha
    have e := List.getElem?_eq_getElem hi'
    have e2 := addR_at (g := g) e
    rw [hq] at e2
    cases e2
    exact addR_mem.mpr (.inl (h.cl i _ hi e w hw c hc))
end Fw
namespace FH
open PySem PySem.Spec PyProof.Rows L2 Pd Fw
variable {P : Program} {wo : World} {K : PySem.W.Frag} {mg : Str → Option Value} {base : Heap}
def knR (rs : List Str) : List (Key × D) := rs.map fun q => (.inr q, .bl true)
theorem inrS_inj : ∀ a b : Str, (Sum.inr a : Key) = .inr b → a = b := fun _ _ e => Sum.inr.inj e
def S_reached_places (C : Addr) (ds : List D) (R : D → Prop) : Prop := ∃ b : Pt, ds = [bookD C b] ∧ WF b ∧ ∀ rs : List Str, RP b rs rs.length → R (.lst (rs.map .str))
theorem ok_reached_places (c : Ctx K mg) : Cal P wo K mg base 4 (He.ga K "reached_places") ["book"] [] (spD K (S_reached_places (bC K))) := by
  refine cal0 c.f_reached_places sc_reached_places (fun ds R ⟨_, e, _⟩ => by rw [e]; rfl) (fun _ _ _ _ _ _ us hl => match us, hl with | [_], _ => rfl) fun cdv A outer s H E hr ds R hS => ?_
  obtain ⟨b, rfl, W, hR⟩ := hS
  have hu := hu_of hr
  have p7 := W.p7
  obtain ⟨sp, hsp, esp, hs0⟩ := W.st
  refine ss_bag0 <| ss_cons (s_setN 1 (pn_lst (pas_cons <| pv_fld <| pv_nm 0 rfl ⟨_, _, _, rfl, c.c_Book, c.n_Book_start, rfl, pas_nil ⟨Nat.le_of_ble_eq_true rfl, ?_⟩⟩)) sc_reached_places.nd)
  refine ss_cons <| s_set 2 (pv_cellD1 <| pv_fld <| pv_nm 0 rfl ⟨_, _, _, rfl, c.c_Book, c.n_Book_start, rfl, pv_bl ⟨_, _, .inr b.st, rfl, rfl, fun kn hk => ?_⟩⟩) sc_reached_places.nd
  refine ss_cons <| s_set 3 (pv_int ?_) sc_reached_places.nd
  refine ss_cons <| s_while (fun m ls' w' => ∃ rs at_ y4 y5 y6 B, w' = bagW K P wo B Wd.nil ∧ B kn = some (.dk (knR rs)) ∧ RP b rs at_ ∧ m = 61 - at_ ∧ ls' = [.im (bookD (bC K) b), .own (rs.map .str), .im (.raw (.ref kn)), .im (.int (at_ : Nat)), y4, y5, y6]) 61 PassesOwn.never ⟨[b.st], 0, _, _, _, _, rfl, setB_same, ⟨by simp, fun q hq => ⟨sp, hsp, by rw [List.mem_singleton.mp hq]; exact esp⟩, rfl, Nat.zero_le _, fun i q h => absurd h (Nat.not_lt_zero _)⟩, rfl, rfl⟩ ?_
  rintro m ls' w' ⟨rs, at_, y4, y5, y6, B, rfl, hB, I, hm, rfl⟩
  have hrl := I.len
  refine pb_c <| c_lt <| pv_nm 3 rfl <| pv_lenQ c.z_len <| pq_nm 1 rfl ⟨_, _, rfl, rfl, _, rfl, fun h => ?_, fun h => ?_⟩
  · have hlt : at_ < rs.length := by have := of_decide_eq_true h; rw [List.length_map] at this; omega
    have hq := List.getElem?_eq_getElem hlt
    generalize rs[at_] = q at hq
    obtain ⟨p, hp, rfl⟩ := I.mem q (List.mem_of_getElem? hq)
    have sl := slots_of W.pn hp
    have hp6 := W.ps p hp
    refine ss_cons <| s_for (fun i ls' w' => ∃ rs y4 y5 y6 B, w' = bagW K P wo B Wd.nil ∧ B kn = some (.dk (knR rs)) ∧ RP b rs at_ ∧ rs[at_]? = some p.1 ∧ (∀ w ∈ b.ws.take i, ∀ k, k ≤ p.2.1 → (b.rule p.1 w k).1 ∈ rs) ∧ ls' = [.im (bookD (bC K) b), .own (rs.map .str), .im (.raw (.ref kn)), .im (.int (at_ : Nat)), y4, y5, y6]) PassesOwn.never rfl <| i_tup <| pv_fld <| pv_nm 0 rfl ⟨_, _, _, rfl, c.c_Book, c.n_Book_words, rfl, _, .tup _, ⟨rs, y4, y5, y6, B, rfl, hB, I, hq, fun w hw => by simp at hw, rfl⟩, ?_, ?_⟩
    · rintro i d ls' w' hd ⟨rs, y4, y5, y6, B, rfl, hB, I, hq, hi, rfl⟩
      rw [List.getElem?_map] at hd
      obtain ⟨w, hwi, rfl⟩ := Option.map_eq_some_iff.mp hd
      have hw := List.mem_of_getElem? hwi
      refine g_nm 4 ?_ sc_reached_places.nd
      refine ss_one <| s_for (fun j ls' w' => ∃ rs y5 y6 B, w' = bagW K P wo B Wd.nil ∧ B kn = some (.dk (knR rs)) ∧ RP b rs at_ ∧ rs[at_]? = some p.1 ∧ (∀ w ∈ b.ws.take i, ∀ k, k ≤ p.2.1 → (b.rule p.1 w k).1 ∈ rs) ∧ (∀ k, k < j → (b.rule p.1 w k).1 ∈ rs) ∧ ls' = [.im (bookD (bC K) b), .own (rs.map .str), .im (.raw (.ref kn)), .im (.int (at_ : Nat)), .im (.str w), y5, y6]) PassesOwn.never rfl <|
        i_range1 c.z_range <| pv_add <| pv_calm (pl := _) (ok_Book_slots c) (hr.mono (by decide)) c.c_Book c.t_Book_slots <| pv_nm 0 rfl ⟨_, rfl, rfl, pas_cons <| pv_ixL <| pq_nm 1 rfl <| pv_nm 3 rfl ⟨_, .str p.1, rfl, atI_nat (by rw [List.getElem?_map, hq]; rfl), pas_nil ⟨b, p, rfl, W.pn, hp, pv_int ⟨_, 1, rfl, rfl, p.2.1 + 1, by simp, by omega, ⟨rs, y5, y6, B, rfl, hB, I, hq, hi, fun k hk => absurd hk (Nat.not_lt_zero _), rfl⟩, ?_, ?_⟩⟩⟩⟩
      · rintro j d ls' w' hd ⟨rs, y5, y6, B, rfl, hB, I, hq, hi, hj, rfl⟩
        obtain ⟨hjl, rfl⟩ := rgD_get hd
        obtain ⟨hv, ok⟩ := W.rule hp hw (show j ≤ p.2.1 by omega)
        obtain ⟨g, hg, eg, _⟩ := ok.goal
        have e0 : (0 : Int) + (j : Nat) = ((j : Nat) : Int) := by omega
        rw [e0]
        have fin : ∀ (rs' : List Str) (B : Bag) (y6 : L), rs' = addR rs g.1 → B kn = some (.dk (knR rs')) → ∃ rs y5 y6' B', bagW K P wo B Wd.nil = bagW K P wo B' Wd.nil ∧ B' kn = some (.dk (knR rs)) ∧ RP b rs at_ ∧ rs[at_]? = some p.1 ∧ (∀ w ∈ b.ws.take i, ∀ k, k ≤ p.2.1 → (b.rule p.1 w k).1 ∈ rs) ∧ (∀ k, k < j + 1 → (b.rule p.1 w k).1 ∈ rs) ∧ [L.im (bookD (bC K) b), .own (rs'.map .str), .im (.raw (.ref kn)), .im (.int (at_ : Nat)), .im (.str w), .im (.int (j : Nat)), y6] = [.im (bookD (bC K) b), .own (rs.map .str), .im (.raw (.ref kn)), .im (.int (at_ : Nat)), .im (.str w), y5, y6'] := fun rs' B y6 e hB' => by
          refine ⟨rs', _, y6, B, rfl, hB', by rw [e]; exact I.add ⟨g, hg, rfl⟩, by rw [e]; exact addR_at hq, fun w hw k hk => by rw [e]; exact addR_mem.mpr (.inl (hi w hw k hk)), fun k hk => ?_, rfl⟩
          rw [e]
          by_cases z : k = j
          · subst z; exact addR_mem.mpr (.inr eg.symm)
          · exact addR_mem.mpr (.inl (hj k (by omega)))
        refine g_nm 5 ?_ sc_reached_places.nd
        refine ss_cons <| s_set 6 (pv_ixT <| pv_calm (pl := _) (ok_Book_rule c) (hr.mono (by decide)) c.c_Book c.t_Book_rule <| pv_nm 0 rfl ⟨_, rfl, rfl, pas_cons <| pv_ixL <| pq_nm 1 rfl <| pv_nm 3 rfl ⟨_, .str p.1, rfl, atI_nat (by rw [List.getElem?_map, hq]; rfl), pas_cons <| pv_nm 4 rfl <| pas_cons <| pv_nm 5 rfl <| pas_nil ⟨b, p, w, j, _, rfl, W.pn, hp, hw, by omega, hv, pv_int ⟨_, 0, _, .tup _, rfl, rfl, ?_⟩⟩⟩⟩) sc_reached_places.nd
        rw [← eg]
        have hval : valD (knR rs) (.inr g.1) = if g.1 ∈ rs then some (.bl true) else none := valD_set inrS_inj (fun _ => .bl true) rs g.1
        refine ss_one <| s_if <| pb_c <| dk_notinW hu <| pv_nm 6 rfl <| pv_nm 2 rfl ⟨kn, B, _, _, .inr g.1, rfl, rfl, hB, rfl, _, rfl, fun h => ?_, fun h => ?_⟩
        · have hn : g.1 ∉ rs := fun z => by rw [hval, if_pos z] at h; exact nomatch h
          have hal : rs.length ≤ 60 := Nat.le_trans I.len p7
          refine ss_cons <| s_putKW hu <| pv_bl <| pv_nm 2 rfl <| pv_nm 6 rfl ⟨kn, B, _, _, .inr g.1, rfl, rfl, hB, rfl, by unfold knR; rw [List.length_map]; omega, ?_⟩
          refine ss_one <| s_append 1 rfl <| pv_nm 6 rfl ⟨by rw [List.length_map]; omega, ?_⟩
          have e1 : (rs.map D.str) ++ [.str g.1] = (addR rs g.1).map .str := by unfold addR; rw [if_neg hn, List.map_append]; rfl
          have e2 : putD (knR rs) (.inr g.1) (.bl true) = knR (addR rs g.1) := by
            unfold addR knR
            rw [if_neg hn]
            exact putD_set inrS_inj (fun _ => .bl true) hn
          have := fin (addR rs g.1) (setB B kn (.dk (knR (addR rs g.1)))) (.im (.str g.1)) rfl setB_same
          rw [← e1, ← e2] at this
          exact this
        · have hn : g.1 ∈ rs := by
            by_cases z : g.1 ∈ rs
            · exact z
            · rw [hval, if_neg z] at h; exact nomatch h
          exact ss_nil (fin rs B (.im (.str g.1)) (by unfold addR; rw [if_pos hn]) hB)
      · rintro ls' w' ⟨rs, y5, y6, B, rfl, hB, I, hq, hi, hj, rfl⟩
        refine ⟨rs, _, y5, y6, B, rfl, hB, I, hq, fun w' hw' k hk => ?_, rfl⟩
        rw [List.take_succ, hwi] at hw'
        rcases List.mem_append.mp hw' with z | z
        · exact hi w' z k hk
        · have e : w' = w := by simpa using z
          rw [e]; exact hj k (by rw [rgD_len]; omega)
    · rintro ls' w' ⟨rs, y4, y5, y6, B, rfl, hB, I, hq, hi, rfl⟩
      rw [List.length_map, List.take_length] at hi
      have hat := (List.getElem?_eq_some_iff.mp hq).1
      have hl := I.len
      refine ss_one <| s_aug 3 rfl (pv_int ⟨_, rfl, m - 1, by omega, rs, at_ + 1, y4, y5, y6, B, rfl, hB, ⟨I.nd, I.mem, I.hd, hat, fun i' q' hi' hq' w hw k hk => ?_⟩, by omega, by simp⟩) sc_reached_places.nd
      by_cases z : i' = at_
      · subst z
        rw [hq] at hq'
        cases hq'
        exact hi w hw k (by rw [← sl]; exact hk)
      · exact I.cl i' q' (by omega) hq' w hw k hk
  · have hge : at_ = rs.length := by have := of_decide_eq_false h; rw [List.length_map] at this; have := I.ha; omega
    subst hge
    exact ss_one (sv_fz 1 rfl (s_ret (pv_nm 1 rfl (hR rs I))))
end FH
set_option Elab.async false
set_option linter.all false
set_option maxRecDepth 100000
set_option maxHeartbeats 4000000
namespace FH
open PySem PySem.Spec PyProof.Rows L2 Pd Fw
open Evl (Ex)
variable {P : Program} {wo : World} {K : PySem.W.Frag} {mg : Str → Option Value} {base : Heap}
theorem hu9_of {k : Nat} {A : Around} (h : Room k A) : A.units + 9 < cLine := by have := h.units; omega
/-! triples as keys -/
def pairK (p : Nat × Nat) : NestedKey := .tup [.num p.1, .num p.2]
def trK (t : Tr) : List NestedKey := [.text t.1, .text t.2.1, .tup (t.2.2.map pairK)]
def tkey (t : Tr) : NestedKey := .tup (trK t)
theorem pairK_inj : ∀ a b : Nat × Nat, pairK a = pairK b → a = b := fun (a1, a2) (b1, b2) h => by
  unfold pairK at h
  injection h with h
  injection h with h1 h2
  injection h2 with h2 _
  injection h1 with h1
  injection h2 with h2
  have h1 : a1 = b1 := Int.ofNat.inj h1
  have h2 : a2 = b2 := Int.ofNat.inj h2
  rw [h1, h2]
theorem map_inj {α β : Type} {f : α → β} (hf : ∀ a b, f a = f b → a = b) : ∀ {l m : List α}, l.map f = m.map f → l = m
  | [], [], _ => rfl
  | [], _ :: _, h => by simp at h
  | _ :: _, [], h => by simp at h
  | a :: l, b :: m, h => by
    rw [List.map_cons, List.map_cons] at h
    injection h with h1 h2
    rw [hf _ _ h1, map_inj hf h2]
theorem tkey_inj : ∀ a b : Tr, tkey a = tkey b → a = b := fun (a1, a2, a3) (b1, b2, b3) h => by
  unfold tkey trK at h
  injection h with h
  injection h with h1 h
  injection h with h2 h
  injection h with h3 _
  injection h1 with h1
  injection h2 with h2
  injection h3 with h3
  have h3 := map_inj pairK_inj h3
  have h1 : a1 = b1 := h1
  have h2 : a2 = b2 := h2
  have h3 : a3 = b3 := h3
  rw [h1, h2, h3]
theorem nkd_pairs : ∀ m : Mg, NkDs (m.map Pd.pairD) (m.map pairK)
  | [] => .nil
  | p :: m => .cons (.tup (.cons (.int _) (.cons (.int _) .nil))) (nkd_pairs m)
theorem nkd_tr (t : Tr) : NkD (trD t) (.tup (trK t)) := .tup (.cons (.str _) (.cons (.str _) (.cons (.ftup (nkd_pairs t.2.2)) .nil)))
theorem depth_pairs : ∀ m : Mg, NestedKey.depthAll (m.map pairK) ≤ 2
  | [] => by simp [NestedKey.depthAll]
  | p :: m => by
    have := depth_pairs m
    rw [List.map_cons]
    simp only [NestedKey.depthAll, pairK, NestedKey.depth]
    omega
theorem depth_tr (t : Tr) : (NestedKey.tup (trK t)).depth ≤ 8 := by
  have := depth_pairs t.2.2
  simp only [trK, NestedKey.depth, NestedKey.depthAll]
  omega
/-! the cells of an Alikes -/
structure AlA where
  xa : Addr
  o : Addr
  k : Addr
  h : Addr
  a : Addr
  u : Addr
def alF (C : Addr) (b : Pt) (A : AlA) : List (Str × D) := [("book", bookD C b), ("limit", .int 20000), ("order", .raw (.ref A.o)), ("known", .raw (.ref A.k)), ("behind", .raw (.ref A.h)), ("ahead", .raw (.ref A.a)), ("unlike", .raw (.ref A.u))]
def knT (l : List Tr) : List (NestedKey × D) := l.map fun t => (tkey t, .bl true)
def ahT (f : Tr → Addr) (l : List Tr) : List (NestedKey × D) := l.map fun t => (tkey t, .raw (.ref (f t)))
structure AlB (Ca Cb : Addr) (b : Pt) (B : Bag) (A : AlA) (f : Tr → Addr) (s : ASt) : Prop where
  x : B A.xa = some (.ins Ca (alF Cb b A))
  o : B A.o = some (.lst (s.order.map trD))
  k : B A.k = some (.nk (knT s.order))
  a : B A.a = some (.nk (ahT f s.order))
  u : B A.u = some (.nk (knT s.unl))
  l : ∀ t ∈ s.order, B (f t) = some (.lst ((s.ah t).map trD))
  ak : A.k ≠ A.a
  ku : A.k ≠ A.u
  au : A.a ≠ A.u
  fi : ∀ t ∈ s.order, ∀ t' ∈ s.order, f t = f t' → t = t'
  fo : ∀ t ∈ s.order, f t ≠ A.o
theorem cell_ne {B : Bag} {a b : Addr} {k1 k2 : Cell} (h1 : B a = some k1) (h2 : B b = some k2) (h : k1 ≠ k2) : a ≠ b := fun e => by
  subst e
  rw [h1] at h2
  exact h (Option.some.inj h2)
theorem kn_in {l : List Tr} {t : Tr} (h : t ∈ l) : valD (knT l) (.tup (trK t)) = some (.bl true) := (valD_set tkey_inj (fun _ => .bl true) l t).trans (if_pos h)
theorem kn_out {l : List Tr} {t : Tr} (h : t ∉ l) : valD (knT l) (.tup (trK t)) = none := (valD_set tkey_inj (fun _ => .bl true) l t).trans (if_neg h)
theorem ah_in (f : Tr → Addr) {l : List Tr} {t : Tr} (h : t ∈ l) : valD (ahT f l) (.tup (trK t)) = some (.raw (.ref (f t))) := (valD_set tkey_inj (fun t => .raw (.ref (f t))) l t).trans (if_pos h)
theorem kn_some {l : List Tr} {t : Tr} : (valD (knT l) (.tup (trK t))).isSome = decide (t ∈ l) := by
  by_cases h : t ∈ l
  · rw [kn_in h, decide_eq_true h]; rfl
  · rw [kn_out h, decide_eq_false h]; rfl
theorem kn_put {l : List Tr} {t : Tr} (h : t ∉ l) : putD (knT l) (.tup (trK t)) (.bl true) = knT (l ++ [t]) := putD_set tkey_inj (fun _ => .bl true) h
theorem ah_put {f : Tr → Addr} {l : List Tr} {t : Tr} {p : Addr} (h : t ∉ l) : putD (ahT f l) (.tup (trK t)) (.raw (.ref p)) = ahT (fun x => if x = t then p else f x) (l ++ [t]) := by
  have e : ahT f l = ahT (fun x => if x = t then p else f x) l := List.map_congr_left fun x hx => by
    show _ = (tkey x, D.raw (.ref (if x = t then p else f x)))
    have hne : ¬ x = t := fun e => h (e ▸ hx)
    rw [if_neg hne]
  rw [e]
  have := putD_set tkey_inj (fun x => D.raw (.ref (if x = t then p else f x))) h
  simp only [if_pos] at this
  exact this
section
variable {Ca Cb : Addr} {b : Pt} {B : Bag} {A : AlA} {f : Tr → Addr} {s : ASt}
theorem note_new {t : Tr} (h : t ∉ s.order) : s.note t = ⟨s.order ++ [t], fun x => if x = t then [] else s.ah x, s.unl⟩ := by unfold ASt.note; rw [if_neg h]
theorem note_old {t : Tr} (h : t ∈ s.order) : s.note t = s := by unfold ASt.note; rw [if_pos h]
theorem AlB.note (h : AlB Ca Cb b B A f s) {t : Tr} (ht : t ∉ s.order) {p : Addr} (hp : B p = none) :
    AlB Ca Cb b (setB (setB (setB (setB B A.k (.nk (knT (s.order ++ [t])))) p (.lst [])) A.a (.nk (ahT (fun x => if x = t then p else f x) (s.order ++ [t])))) A.o (.lst ((s.order ++ [t]).map trD))) A (fun x => if x = t then p else f x) (s.note t) := by
  have xk := cell_ne h.x h.k (fun z => nomatch z)
  have xa := cell_ne h.x h.a (fun z => nomatch z)
  have xo := cell_ne h.x h.o (fun z => nomatch z)
  have ok := cell_ne h.o h.k (fun z => nomatch z)
  have oa := cell_ne h.o h.a (fun z => nomatch z)
  have ou := cell_ne h.o h.u (fun z => nomatch z)
  have np : ∀ {a : Addr} {c : Cell}, B a = some c → a ≠ p := fun e z => by rw [z, hp] at e; cases e
  have hl : ∀ t ∈ s.order, f t ≠ A.k ∧ f t ≠ A.a ∧ f t ≠ p := fun t ht => ⟨cell_ne (h.l t ht) h.k (fun z => nomatch z), cell_ne (h.l t ht) h.a (fun z => nomatch z), np (h.l t ht)⟩
  rw [note_new ht]
  have ft : ∀ x ∈ s.order, x ≠ t := fun x hx e => ht (e ▸ hx)
  refine ⟨?_, ?_, ?_, ?_, ?_, fun x hx => ?_, h.ak, h.ku, h.au, fun x hx y hy e => ?_, fun x hx => ?_⟩
  · rw [setB_ne xo, setB_ne xa, setB_ne (np h.x), setB_ne xk]; exact h.x
  · exact setB_same
  · rw [setB_ne ok.symm, setB_ne h.ak, setB_ne (np h.k)]; exact setB_same
  · rw [setB_ne oa.symm]; exact setB_same
  · rw [setB_ne ou.symm, setB_ne h.au.symm, setB_ne (np h.u), setB_ne h.ku.symm]; exact h.u
  · have hx : x ∈ s.order ++ [t] := hx
    show setB _ _ _ (if x = t then p else f x) = some (.lst ((if x = t then [] else s.ah x).map trD))
    by_cases e : x = t
    · rw [if_pos e, if_pos e, setB_ne (np h.o).symm, setB_ne (np h.a).symm]; exact setB_same
    · have hxo : x ∈ s.order := (List.mem_append.mp hx).resolve_right fun z => e (List.mem_singleton.mp z)
      obtain ⟨l1, l2, l3⟩ := hl x hxo
      rw [if_neg e, if_neg e, setB_ne (h.fo x hxo), setB_ne l2, setB_ne l3, setB_ne l1]
      exact h.l x hxo
  · have hx : x ∈ s.order ++ [t] := hx
    have hy : y ∈ s.order ++ [t] := hy
    have e : (if x = t then p else f x) = (if y = t then p else f y) := e
    by_cases e1 : x = t
    · by_cases e2 : y = t
      · rw [e1, e2]
      · have hyo : y ∈ s.order := (List.mem_append.mp hy).resolve_right fun z => e2 (List.mem_singleton.mp z)
        rw [if_pos e1, if_neg e2] at e
        exact absurd e.symm (hl y hyo).2.2
    · have hxo : x ∈ s.order := (List.mem_append.mp hx).resolve_right fun z => e1 (List.mem_singleton.mp z)
      by_cases e2 : y = t
      · rw [if_neg e1, if_pos e2] at e
        exact absurd e (hl x hxo).2.2
      · have hyo : y ∈ s.order := (List.mem_append.mp hy).resolve_right fun z => e2 (List.mem_singleton.mp z)
        rw [if_neg e1, if_neg e2] at e
        exact h.fi x hxo y hyo e
  · have hx : x ∈ s.order ++ [t] := hx
    show (if x = t then p else f x) ≠ A.o
    by_cases e : x = t
    · rw [if_pos e]; exact (np h.o).symm
    · rw [if_neg e]
      exact h.fo x ((List.mem_append.mp hx).resolve_right fun z => e (List.mem_singleton.mp z))
theorem AlB.push (h : AlB Ca Cb b B A f s) {g t : Tr} (hg : g ∈ s.order) : AlB Ca Cb b (setB B (f g) (.lst ((s.ah g).map trD ++ [trD t]))) A f (s.push g t) := by
  have hc := h.l g hg
  refine ⟨?_, ?_, ?_, ?_, ?_, fun x hx => ?_, h.ak, h.ku, h.au, h.fi, h.fo⟩
  · rw [setB_ne (cell_ne h.x hc (fun z => nomatch z))]; exact h.x
  · rw [setB_ne (h.fo g hg).symm]; exact h.o
  · rw [setB_ne (cell_ne h.k hc (fun z => nomatch z))]; exact h.k
  · rw [setB_ne (cell_ne h.a hc (fun z => nomatch z))]; exact h.a
  · rw [setB_ne (cell_ne h.u hc (fun z => nomatch z))]; exact h.u
  · show setB _ _ _ (f x) = some (.lst ((if x = g then s.ah g ++ [t] else s.ah x).map trD))
    by_cases e : x = g
    · rw [if_pos e, e, setB_same, List.map_append]; rfl
    · rw [if_neg e, setB_ne fun z => e (h.fi x hx g hg z)]; exact h.l x hx
theorem AlB.mark (h : AlB Ca Cb b B A f s) {t : Tr} : AlB Ca Cb b (setB B A.u (.nk (knT (s.unl ++ [t])))) A f (s.mark t) := by
  refine ⟨?_, ?_, ?_, ?_, setB_same, fun x hx => ?_, h.ak, h.ku, h.au, h.fi, h.fo⟩
  · rw [setB_ne (cell_ne h.x h.u (fun z => nomatch z))]; exact h.x
  · rw [setB_ne (cell_ne h.o h.u (fun z => nomatch z))]; exact h.o
  · rw [setB_ne h.ku]; exact h.k
  · rw [setB_ne h.au]; exact h.a
  · rw [setB_ne (cell_ne (h.l x hx) h.u (fun z => nomatch z))]; exact h.l x hx
end
/-! note -/
def aC (K : PySem.W.Frag) : Addr := He.ga K "Alikes"
def S_note (K : PySem.W.Frag) (P : Program) (wo : World) (ds : List D) (w : Wd) (R : D → Wd → Prop) : Prop := ∃ (b : Pt) (A : AlA) (f : Tr → Addr) (s : ASt) (B : Bag) (t : Tr), ds = [.raw (.ref A.xa), trD t] ∧ w = bagW K P wo B Wd.nil ∧ AlB (aC K) (bC K) b B A f s ∧ s.order.length < 20000 ∧
  ∀ (B' : Bag) (f' : Tr → Addr), AlB (aC K) (bC K) b B' A f' (s.note t) → R .non (bagW K P wo B' Wd.nil)
theorem ok_Alikes_note (c : Ctx K mg) : Cal P wo K mg base 1 (He.ma K (aC K) "note") ["self", "triple"] [] (spW K (S_note K P wo)) := by
  refine cal0W c.f_Alikes_note sc_Alikes_note (fun ds w R ⟨_, _, _, _, _, _, e, _⟩ => by rw [e]; rfl) (fun _ _ _ _ _ _ us hl => match us, hl with | [_, _], _ => rfl) fun cdv A0 outer s0 H E hr ds w R hS => ?_
  obtain ⟨b, A, f, s, B, t, rfl, rfl, h, hlen, hR⟩ := hS
  have hu := hu9_of hr
  refine ss_one <| s_if <| pb_c <| nk_notinW hu <| pv_nm 1 rfl <| pv_fldW <| pv_nm 0 rfl ⟨A.xa, _, _, _, _, _, rfl, rfl, h.x, c.c_Alikes, c.n_Alikes_known, rfl, A.k, B, _, _, trK t, rfl, rfl, h.k, nkd_tr t, depth_tr t, _, rfl, fun hn => ?_, fun hn => ?_⟩
  · have ht : t ∉ s.order := fun z => by rw [kn_in z] at hn; exact nomatch hn
    have xk := cell_ne h.x h.k (fun z => nomatch z)
    have xa := cell_ne h.x h.a (fun z => nomatch z)
    have oa := cell_ne h.o h.a (fun z => nomatch z)
    have ok := cell_ne h.o h.k (fun z => nomatch z)
    refine ss_cons <| s_if <| pb_c <| c_eqI <| pv_lenW c.z_len <| pv_fldW <| pv_nm 0 rfl ⟨A.xa, B, _, _, _, _, rfl, rfl, h.x, c.c_Alikes, c.n_Alikes_order, rfl, A.o, B, _, _, rfl, rfl, h.o, pv_fldW <| pv_nm 0 rfl ⟨A.xa, B, _, _, _, _, rfl, rfl, h.x, c.c_Alikes, c.n_Alikes_limit, rfl, _, _, rfl, rfl, _, rfl, fun z => absurd (of_decide_eq_true z) (by rw [List.length_map]; omega), fun _ => ss_nil ?_⟩⟩
    refine ss_cons <| s_putNW hu <| pv_bl <| pv_fldW <| pv_nm 0 rfl ⟨A.xa, B, _, _, _, _, rfl, rfl, h.x, c.c_Alikes, c.n_Alikes_known, rfl, pv_nm 1 rfl ⟨A.k, B, _, _, trK t, rfl, rfl, h.k, nkd_tr t, depth_tr t, by unfold knT; rw [List.length_map]; omega, ?_⟩⟩
    rw [kn_put ht]
    refine ss_cons <| s_putNW hu <| pv_cellL <| pn_lst <| pas_nil ⟨Nat.le_of_ble_eq_true rfl, _, _, rfl, fun p hp => ?_⟩
    have pk : p ≠ A.k := fun e => by rw [e, setB_same] at hp; cases hp
    rw [setB_ne pk] at hp
    have np : ∀ {a : Addr} {c : Cell}, B a = some c → a ≠ p := fun e z => by rw [z, hp] at e; cases e
    have hx2 := ((setB_ne (k := .lst []) (np h.x)).trans (setB_ne (k := .nk (knT (s.order ++ [t]))) xk)).trans h.x
    have ha2 := ((setB_ne (k := .lst []) (np h.a)).trans (setB_ne (k := .nk (knT (s.order ++ [t]))) h.ak.symm)).trans h.a
    have ho2 := ((setB_ne (k := .lst []) (np h.o)).trans (setB_ne (k := .nk (knT (s.order ++ [t]))) ok)).trans h.o
    refine pv_fldW <| pv_nm 0 rfl ⟨A.xa, _, _, _, _, _, rfl, rfl, hx2, c.c_Alikes, c.n_Alikes_ahead, rfl, pv_nm 1 rfl ⟨A.a, _, _, _, trK t, rfl, rfl, ha2, nkd_tr t, depth_tr t, by unfold ahT; rw [List.length_map]; omega, ?_⟩⟩
    rw [ah_put ht]
    have hx3 := (setB_ne (k := .nk (ahT (fun x => if x = t then p else f x) (s.order ++ [t]))) xa).trans hx2
    have ho3 := (setB_ne (k := .nk (ahT (fun x => if x = t then p else f x) (s.order ++ [t]))) oa).trans ho2
    refine ss_one <| s_appendW <| pv_fldW <| pv_nm 0 rfl ⟨A.xa, _, _, _, _, _, rfl, rfl, hx3, c.c_Alikes, c.n_Alikes_order, rfl, A.o, _, _, _, rfl, rfl, ho3, pv_nm 1 rfl ⟨_, _, _, rfl, ho3, by rw [List.length_map]; omega, ?_⟩⟩
    have := hR _ _ (h.note ht hp)
    rw [List.map_append] at this
    exact this
  · have ht : t ∈ s.order := by
      by_cases z : t ∈ s.order
      · exact z
      · rw [kn_out z] at hn; exact nomatch hn
    refine ss_nil ?_
    have := hR B f
    rw [note_old ht] at this
    exact this h
end FH
set_option Elab.async false
set_option linter.all false
set_option maxRecDepth 100000
set_option maxHeartbeats 4000000
namespace FH
open PySem PySem.Spec PyProof.Rows L2 Pd Fw
open Evl (Ex)
variable {P : Program} {wo : World} {K : PySem.W.Frag} {mg : Str → Option Value} {base : Heap}
theorem pairD_inj : ∀ a b : Nat × Nat, Pd.pairD a = Pd.pairD b → a = b := fun (a1, a2) (b1, b2) h => by
  unfold Pd.pairD at h
  injection h with h
  injection h with h1 h2
  injection h2 with h2 _
  injection h1 with h1
  injection h2 with h2
  have h1 : a1 = b1 := Int.ofNat.inj h1
  have h2 : a2 = b2 := Int.ofNat.inj h2
  rw [h1, h2]
theorem trD_inj : ∀ a b : Tr, trD a = trD b → a = b := fun (a1, a2, a3) (b1, b2, b3) h => by
  unfold trD at h
  injection h with h
  injection h with h1 h
  injection h with h2 h
  injection h with h3 _
  injection h1 with h1
  injection h2 with h2
  injection h3 with h3
  have h3 : a3 = b3 := map_inj pairD_inj h3
  have h1 : a1 = b1 := h1
  have h2 : a2 = b2 := h2
  rw [h1, h2, h3]
open Classical in
noncomputable def inT (l : List Tr) (d : D) : D := .bl (decide (∃ g, d = trD g ∧ g ∈ l))
theorem inT_tr (l : List Tr) (g : Tr) : inT l (trD g) = .bl (decide (g ∈ l)) := by
  unfold inT
  exact congrArg D.bl (decide_eq_decide.mpr ⟨fun ⟨g', e, h'⟩ => trD_inj _ _ e ▸ h', fun h => ⟨g, rfl, h⟩⟩)
def S_close (K : PySem.W.Frag) (P : Program) (wo : World) (ds : List D) (w : Wd) (R : D → Wd → Prop) : Prop := ∃ (b : Pt) (A : AlA) (f : Tr → Addr) (s : ASt) (B : Bag) (first : Nat), ds = [.raw (.ref A.xa), .int (first : Nat)] ∧ w = bagW K P wo B Wd.nil ∧ AlB (aC K) (bC K) b B A f s ∧ WF b ∧ FewT b ∧ Inv1 b s [] first first 0 ∧
  ∀ (B' : Bag) (f' : Tr → Addr) (s' : ASt), AlB (aC K) (bC K) b B' A f' s' → InvA b s' → (∀ t ∈ s.order, t ∈ s'.order) → R .non (bagW K P wo B' Wd.nil)
theorem ok_Alikes_close (c : Ctx K mg) : Cal P wo K mg base 5 (He.ma K (aC K) "close") ["self", "first"] [] (spW K (S_close K P wo)) := by
  refine cal0W c.f_Alikes_close sc_Alikes_close (fun ds w R ⟨_, _, _, _, _, _, e, _⟩ => by rw [e]; rfl) (fun _ _ _ _ _ _ us hl => match us, hl with | [_, _], _ => rfl) fun cdv A0 outer s0 H E hr ds w R hS => ?_
  obtain ⟨b, A, f, s, B, first, rfl, rfl, h, W, F, I, hR⟩ := hS
  have hu := hu9_of hr
  refine ss_cons (s_setN 2 (pn_lst (pas_nil ⟨Nat.le_of_ble_eq_true rfl, ?_⟩)) sc_Alikes_close.nd)
  refine ss_cons <| s_set 3 (pv_nm 1 rfl ?_) sc_Alikes_close.nd
  refine ss_cons <| s_while (fun m ls' w' => ∃ B f s' wt at_ y4 y5 y7, w' = bagW K P wo B Wd.nil ∧ AlB (aC K) (bC K) b B A f s' ∧ Inv1 b s' wt first at_ 0 ∧ (∀ t ∈ s.order, t ∈ s'.order) ∧ m = 3137 - at_ ∧ ls' = [.im (.raw (.ref A.xa)), .im (.int (first : Nat)), .own (wt.map trD), .im (.int (at_ : Nat)), y4, y5, .no, y7]) (3137 - first) PassesOwn.never ⟨B, f, s, [], first, _, _, _, rfl, h, I, fun _ z => z, rfl, rfl⟩ ?_
  rintro m ls' w' ⟨B, f, s', wt, at_, y4, y5, y7, rfl, h, I, hsub, hm, rfl⟩
  have ho := F.n1 _ I.c.nd I.c.ok
  have hat := I.c.ha
  have hwl := I.wl
  refine pb_c <| c_lt <| pv_nm 3 rfl <| pv_lenW c.z_len <| pv_fldW <| pv_nm 0 rfl ⟨A.xa, B, _, _, _, _, rfl, rfl, h.x, c.c_Alikes, c.n_Alikes_order, rfl, A.o, B, _, _, rfl, rfl, h.o, _, _, rfl, rfl, _, rfl, fun hlt => ?_, fun hge => ?_⟩
  · have hlt : at_ < s'.order.length := by have := of_decide_eq_true hlt; rw [List.length_map] at this; omega
    obtain ⟨t, ht⟩ : ∃ t, s'.order[at_]? = some t := ⟨_, List.getElem?_eq_getElem hlt⟩
    have hto := List.mem_of_getElem? ht
    obtain ⟨p, q, T⟩ := I.c.ok t hto
    have hn21 := F.n2 t ⟨p, q, T⟩
    refine ss_cons <| s_set 4 (pv_ixW <| pv_fldW <| pv_nm 0 rfl ⟨A.xa, B, _, _, _, _, rfl, rfl, h.x, c.c_Alikes, c.n_Alikes_order, rfl, pv_nm 3 rfl ⟨A.o, B, _, _, _, trD t, rfl, rfl, h.o, rfl, atI_nat (by rw [List.getElem?_map, ht]; rfl), ?_⟩⟩) sc_Alikes_close.nd
    have eg : ((stepsOf b t p q).map stepD).map (fun d => match d with | .tup [_, _, x] => x | _ => .non) = (nxt b t).map trD := by
      rw [← nxt_eq W T, List.map_map, List.map_map]; rfl
    have hsl : (stepsOf b t p q).length ≤ 21 := by
      have := congrArg List.length (nxt_eq W T)
      rw [List.length_map] at this
      omega
    refine ss_cons (s_setLcM 5 [("_", 6), ("goal", 7)] (fun d => match d with | .tup [_, _, x] => x | _ => .non) rfl sc_Alikes_close.nd (blkOk_by (show blkC N_Alikes_close (defScope s_Alikes_close) _ _ = true by decide +kernel)) (i_list <| pv_cal (ok_steps c) (hr.mono (by decide)) c.g_steps <| pas_cons <| pv_fldW <| pv_nm 0 rfl ⟨A.xa, B, _, _, _, _, rfl, rfl, h.x, c.c_Alikes, c.n_Alikes_book, rfl, pas_cons <| pv_fldW <| pv_nm 0 rfl ⟨A.xa, B, _, _, _, _, rfl, rfl, h.x, c.c_Alikes, c.n_Alikes_book, rfl, pas_cons <| pv_nm 4 rfl <| pas_nil ⟨b, t, p, q, rfl, W, T, _, rfl, by rw [List.length_map]; omega, fun d2 hd2 => ?_, ?_⟩⟩⟩) rfl)
    · obtain ⟨z, hz, rfl⟩ := List.mem_map.mp hd2
      exact fun _ _ _ _ _ => g_tup (.tup _) (gs_cons (g_nm 6 (gs_cons (g_nm 6 (gs_cons (g_nm 7 (gs_nil (fun _ _ _ _ _ => pv_nm 7 rfl ⟨rfl, rfl⟩)) sc_Alikes_close.nd)) sc_Alikes_close.nd)) sc_Alikes_close.nd)) rfl
    rw [eg]
    refine ss_fz 5 rfl (ss_cons <| s_for (fun j ls' w' => ∃ B f s2 y7, w' = bagW K P wo B Wd.nil ∧ AlB (aC K) (bC K) b B A f s2 ∧ Inv1 b s2 wt first at_ j ∧ (∀ t ∈ s'.order, t ∈ s2.order) ∧ s2.order[at_]? = some t ∧ (∀ g ∈ (nxt b t).take j, g ∈ s2.order ∧ t ∈ s2.ah g) ∧ ls' = [.im (.raw (.ref A.xa)), .im (.int (first : Nat)), .own (wt.map trD), .im (.int (at_ : Nat)), .im (trD t), .im (.lst ((nxt b t).map trD)), .no, y7]) PassesOwn.never rfl <| i_list <| pv_nm 5 rfl ⟨_, rfl, ⟨B, f, s', y7, rfl, h, I, fun _ z => z, ht, fun g hg => by simp at hg, rfl⟩, ?_, ?_⟩)
    · rintro j d ls' w' hd ⟨B, f, s2, y7, rfl, h, I, hsub2, ht, hj, rfl⟩
      rw [List.getElem?_map] at hd
      obtain ⟨g, hgj, rfl⟩ := Option.map_eq_some_iff.mp hd
      have hg := List.mem_of_getElem? hgj
      have hjl : j < (nxt b t).length := (List.getElem?_eq_some_iff.mp hgj).1
      have ho := F.n1 _ I.c.nd I.c.ok
      have hat := I.c.ha
      have hal : at_ < s2.order.length := (List.getElem?_eq_some_iff.mp ht).1
      refine g_nm 7 ?_ sc_Alikes_close.nd
      refine ss_cons <| s_expr <| pv_calWm (pl := _) (ok_Alikes_note c) (hr.mono (by decide)) c.c_Alikes c.t_Alikes_note <| pv_nm 0 rfl ⟨A.xa, rfl, hasIns_bag h.x rfl, pas_cons <| pv_nm 7 rfl <| pas_nil ⟨_, fun F' => F', Frm.all, b, A, f, s2, B, g, rfl, rfl, h, by omega, fun B' f' h' => ?_⟩⟩
      have I' := I.note (nxt_ok W ⟨p, q, T⟩ hg)
      have hgo : g ∈ (s2.note g).order := note_mem.mpr (.inr rfl)
      have hto' : t ∈ (s2.note g).order := note_mem.mpr (.inl (List.mem_of_getElem? ht))
      have ht' : (s2.note g).order[at_]? = some t := by rw [note_at hal]; exact ht
      have hj' : ∀ g' ∈ (nxt b t).take j, g' ∈ (s2.note g).order ∧ t ∈ (s2.note g).ah g' := fun g' hg' => by
        obtain ⟨h1, h2⟩ := hj g' hg'
        exact ⟨note_mem.mpr (.inl h1), by rw [note_ah h1]; exact h2⟩
      have hsub' : ∀ t ∈ s'.order, t ∈ (s2.note g).order := fun t z => note_mem.mpr (.inl (hsub2 t z))
      generalize s2.note g = s3 at h' I' hgo hto' ht' hj' hsub'
      have hlen : (s3.ah g).length ≤ s3.total := mem_sum (f := fun g => (s3.ah g).length) hgo
      have htl := I'.tl
      have ho3 := F.n1 _ I'.c.nd I'.c.ok
      have hat3 := I'.c.ha
      refine ss_one <| s_appendW <| pv_getNW hu <| pv_fldW <| pv_nm 0 rfl ⟨A.xa, B', _, _, _, _, rfl, rfl, h'.x, c.c_Alikes, c.n_Alikes_ahead, rfl, pv_nm 7 rfl ⟨A.a, B', _, _, trK g, _, rfl, rfl, h'.a, nkd_tr g, depth_tr g, ah_in f' hgo, f' g, B', _, _, rfl, rfl, h'.l g hgo, pv_nm 4 rfl ⟨B', _, _, rfl, h'.l g hgo, by rw [List.length_map]; omega, ?_⟩⟩⟩
      refine ⟨_, f', s3.push g t, _, rfl, h'.push hgo, I'.push hto' hg hgo, hsub', ht', fun x hx => ?_, rfl⟩
      rw [List.take_succ, hgj] at hx
      show x ∈ s3.order ∧ t ∈ (if x = g then s3.ah g ++ [t] else s3.ah x)
      rcases List.mem_append.mp hx with z | z
      · obtain ⟨h1, h2⟩ := hj' x z
        refine ⟨h1, ?_⟩
        split
        · rename_i e; exact List.mem_append_left _ (e ▸ h2)
        · exact h2
      · have e : x = g := by simpa using z
        rw [if_pos e, e]
        exact ⟨hgo, List.mem_append_right _ List.mem_cons_self⟩
    · rintro ls' w' ⟨B, f, s2, y7, rfl, h, I, hsub2, ht, hj, rfl⟩
      rw [List.length_map] at hj I
      rw [List.take_length] at hj
      have ho := F.n1 _ I.c.nd I.c.ok
      have hal : at_ < s2.order.length := (List.getElem?_eq_some_iff.mp ht).1
      have Tys := T.ys W
      refine ss_cons <| s_if (PB.imp (R := fun k w' => w' = bagW K P wo B Wd.nil ∧ (k = true ↔ (¬ Agr b t ∨ ∃ g ∈ nxt b t, g ∈ s2.unl))) ?_ fun k w' ⟨e1, e2⟩ => ?_)
      · refine pb_w <| pbw_or <| pb_not <| pb_pv <| pv_cal (ok_agree c) (hr.mono (by decide)) c.g_agree <| pas_cons <| pv_fldW <| pv_nm 0 rfl ⟨A.xa, B, _, _, _, _, rfl, rfl, h.x, c.c_Alikes, c.n_Alikes_book, rfl, pas_cons <| pv_fldW <| pv_nm 0 rfl ⟨A.xa, B, _, _, _, _, rfl, rfl, h.x, c.c_Alikes, c.n_Alikes_book, rfl, pas_cons <| pv_nm 4 rfl <| pas_nil ⟨b, t, p, q, rfl, W, T, _, rfl, ?_⟩⟩⟩
        by_cases hy : p.2.2 = q.2.2
        · rw [decide_eq_true hy]
          have ha : Agr b t := by unfold Agr; rw [Tys.1, Tys.2]; exact hy
          refine pbw_or1 <| pb_pv <| pv_anyQ rfl c.z_any <| pq_pn <| pn_lcM [("goal", 7)] (inT s2.unl) rfl sc_Alikes_close.nd (blkOk_by (show blkC N_Alikes_close (defScope s_Alikes_close) _ _ = true by decide +kernel)) <| i_list <| pv_nm 5 rfl ⟨_, rfl, by rw [List.length_map]; omega, fun d2 hd2 => ?_, (nxt b t).map (fun g => decide (g ∈ s2.unl)), ?_, _, rfl, rfl, ?_⟩
          · obtain ⟨g, hg, rfl⟩ := List.mem_map.mp hd2
            exact fun _ _ _ _ _ => g_nm 7 (fun _ _ _ _ _ => pv_c <| nk_inW hu <| pv_nm 7 rfl <| pv_fldW <| pv_nm 0 rfl ⟨A.xa, B, _, _, _, _, rfl, rfl, h.x, c.c_Alikes, c.n_Alikes_unlike, rfl, A.u, B, _, _, trK g, rfl, rfl, h.u, nkd_tr g, depth_tr g, rfl, by rw [kn_some, inT_tr]⟩) sc_Alikes_close.nd
          · rw [List.map_map, List.map_map]
            exact List.map_congr_left fun g _ => inT_tr s2.unl g
          · rw [List.any_map, List.any_eq_true]
            constructor
            · rintro ⟨g, hg, e⟩; exact .inr ⟨g, hg, of_decide_eq_true e⟩
            · rintro (z | ⟨g, hg, e⟩)
              · exact absurd ha z
              · exact ⟨g, hg, decide_eq_true e⟩
        · rw [decide_eq_false hy]
          have ha : ¬ Agr b t := by unfold Agr; rw [Tys.1, Tys.2]; exact hy
          exact ⟨rfl, fun _ => .inl ha, fun _ => rfl⟩
      · subst e1
        refine ⟨fun ek => ?_, fun ek => ?_⟩
        · have I2 := I.nextT hn21 ht hj (e2.mp ek)
          refine ss_one <| s_append 2 rfl <| pv_nm 4 rfl ⟨by rw [List.length_map]; omega, ?_⟩
          refine ss_one <| s_aug 3 rfl (pv_int ⟨_, rfl, m - 1, by omega, B, f, s2, wt ++ [t], at_ + 1, _, _, _, rfl, h, I2, fun x hx => hsub2 x (hsub x hx), by omega, by rw [List.map_append]; rfl⟩) sc_Alikes_close.nd
        · have I2 := I.nextF hn21 ht hj (fun z => by rw [e2.mpr z] at ek; cases ek)
          refine ss_nil ?_
          refine ss_one <| s_aug 3 rfl (pv_int ⟨_, rfl, m - 1, by omega, B, f, s2, wt, at_ + 1, _, _, _, rfl, h, I2, fun x hx => hsub2 x (hsub x hx), by omega, rfl⟩) sc_Alikes_close.nd
  · have hge : at_ = s'.order.length := by have := of_decide_eq_false hge; rw [List.length_map] at this; omega
    have I2 := I.two F hge
    refine ss_one <| s_while (fun m ls' w' => ∃ B f s2 wt y4, w' = bagW K P wo B Wd.nil ∧ AlB (aC K) (bC K) b B A f s2 ∧ Inv2 b s2 wt ∧ (∀ t ∈ s.order, t ∈ s2.order) ∧ m = wt.length + s2.pend ∧ ls' = [.im (.raw (.ref A.xa)), .im (.int (first : Nat)), .own (wt.map trD), .im (.int (at_ : Nat)), y4, y5, .no, y7]) (wt.length + s'.pend) PassesOwn.never ⟨B, f, s', wt, y4, rfl, h, I2, hsub, rfl, rfl⟩ ?_
    rintro m ls' w' ⟨B, f, s2, wt, y4, rfl, h, I, hsub, hm, rfl⟩
    rcases List.eq_nil_or_concat wt with e | ⟨wt, x, e⟩
    · subst e
      exact pb_own 2 rfl ⟨fun z => (nomatch z), fun _ => hR B f s2 h I.fin hsub⟩
    · rw [List.concat_eq_append] at e
      subst e
      have hx := I.w1 x (List.mem_append_right _ List.mem_cons_self)
      have ho := F.n1 _ I.nd I.ok
      have hun := nodup_le I.und fun y hy => (I.un y hy).1
      have hml := I.ml
      have hpm := fun hu => pend_mark I.nd hx.1 hu
      rw [List.length_append, List.length_singleton] at hm hml
      rw [List.map_append]
      refine pb_own 2 rfl ⟨fun _ => ?_, fun z => ?_⟩
      · refine ss_cons <| s_pop 2 4 rfl (by decide) ?_ sc_Alikes_close.nd
        refine ss_one <| s_if <| pb_c <| nk_notinW hu <| pv_nm 4 rfl <| pv_fldW <| pv_nm 0 rfl ⟨A.xa, B, _, _, _, _, rfl, rfl, h.x, c.c_Alikes, c.n_Alikes_unlike, rfl, A.u, B, _, _, trK x, rfl, rfl, h.u, nkd_tr x, depth_tr x, _, rfl, fun hn => ?_, fun hn => ?_⟩
        · have hnu : x ∉ s2.unl := fun z => by rw [kn_in z] at hn; exact nomatch hn
          have hpm := hpm hnu
          refine ss_cons <| s_putNW hu <| pv_bl <| pv_fldW <| pv_nm 0 rfl ⟨A.xa, B, _, _, _, _, rfl, rfl, h.x, c.c_Alikes, c.n_Alikes_unlike, rfl, pv_nm 4 rfl ⟨A.u, B, _, _, trK x, rfl, rfl, h.u, nkd_tr x, depth_tr x, by unfold knT; rw [List.length_map]; omega, ?_⟩⟩
          rw [kn_put hnu]
          have h' := h.mark (t := x)
          refine ss_one <| s_extendW 2 rfl <| pv_getNW hu <| pv_fldW <| pv_nm 0 rfl ⟨A.xa, _, _, _, _, _, rfl, rfl, h'.x, c.c_Alikes, c.n_Alikes_ahead, rfl, pv_nm 4 rfl ⟨A.a, _, _, _, trK x, _, rfl, rfl, h'.a, nkd_tr x, depth_tr x, ah_in f hx.1, f x, _, _, _, rfl, rfl, h'.l x hx.1, ?_, ?_⟩⟩
          · show (wt.map trD).length + ((s2.ah x).map trD).length ≤ 100000
            rw [List.length_map, List.length_map]; omega
          · refine ⟨(wt ++ s2.ah x).length + (s2.mark x).pend, by rw [List.length_append]; omega, _, f, s2.mark x, wt ++ s2.ah x, _, rfl, h', I.mark hnu, hsub, rfl, by rw [List.map_append]; rfl⟩
        · have hu2 : x ∈ s2.unl := by
            by_cases z : x ∈ s2.unl
            · exact z
            · rw [kn_out z] at hn; exact nomatch hn
          exact ss_nil ⟨wt.length + s2.pend, by omega, B, f, s2, wt, _, rfl, h, I.skip hu2, hsub, rfl, rfl⟩
      · simp at z
end FH
set_option Elab.async false
set_option linter.all false
set_option maxRecDepth 100000
set_option maxHeartbeats 4000000
namespace FH
open PySem PySem.Spec PyProof.Rows L2 Pd Fw
open Evl (Ex)
variable {P : Program} {wo : World} {K : PySem.W.Frag} {mg : Str → Option Value} {base : Heap}
/-! are_alike -/
def S_are_alike (K : PySem.W.Frag) (P : Program) (wo : World) (ds : List D) (w : Wd) (R : D → Wd → Prop) : Prop := ∃ (b : Pt) (A : AlA) (f : Tr → Addr) (s : ASt) (B : Bag) (t : Tr), ds = [.raw (.ref A.xa), trD t] ∧ w = bagW K P wo B Wd.nil ∧ AlB (aC K) (bC K) b B A f s ∧ WF b ∧ FewT b ∧ InvA b s ∧ TrW b t ∧
  ∀ (B' : Bag) (f' : Tr → Addr) (s' : ASt) (k : Bool), AlB (aC K) (bC K) b B' A f' s' → InvA b s' → (k = true ↔ Good b t) → R (.bl k) (bagW K P wo B' Wd.nil)
theorem ok_Alikes_are_alike (c : Ctx K mg) : Cal P wo K mg base 6 (He.ma K (aC K) "are_alike") ["self", "triple"] [] (spW K (S_are_alike K P wo)) := by
  refine cal0W c.f_Alikes_are_alike sc_Alikes_are_alike (fun ds w R ⟨_, _, _, _, _, _, e, _⟩ => by rw [e]; rfl) (fun _ _ _ _ _ _ us hl => match us, hl with | [_, _], _ => rfl) fun cdv A0 outer s0 H E hr ds w R hS => ?_
  obtain ⟨b, A, f, s, B, t, rfl, rfl, h, W, F, I, T, hR⟩ := hS
  have hu := hu9_of hr
  have ho := F.n1 _ I.nd I.ok
  refine ss_cons <| s_set 2 (pv_lenW c.z_len <| pv_fldW <| pv_nm 0 rfl ⟨A.xa, B, _, _, _, _, rfl, rfl, h.x, c.c_Alikes, c.n_Alikes_order, rfl, A.o, B, _, _, rfl, rfl, h.o, ?_⟩) sc_Alikes_are_alike.nd
  rw [List.length_map]
  refine ss_cons <| s_expr <| pv_calWm (pl := _) (ok_Alikes_note c) (hr.mono (by decide)) c.c_Alikes c.t_Alikes_note <| pv_nm 0 rfl ⟨A.xa, rfl, hasIns_bag h.x rfl, pas_cons <| pv_nm 1 rfl <| pas_nil ⟨_, fun F' => F', Frm.all, b, A, f, s, B, t, rfl, rfl, h, by omega, fun B' f' h' => ?_⟩⟩
  refine ss_cons <| s_expr <| pv_calWm (pl := _) (ok_Alikes_close c) (hr.mono (by decide)) c.c_Alikes c.t_Alikes_close <| pv_nm 0 rfl ⟨A.xa, rfl, hasIns_bag h'.x rfl, pas_cons <| pv_nm 2 rfl <| pas_nil ⟨_, fun F' => F', Frm.all, b, A, f', s.note t, B', s.order.length, rfl, rfl, h', W, F, I.start T, fun B2 f2 s2 h2 I2 sub => ?_⟩⟩
  have hto := sub t (note_mem.mpr (.inr rfl))
  refine ss_one <| s_ret <| pv_c <| nk_notinW hu <| pv_nm 1 rfl <| pv_fldW <| pv_nm 0 rfl ⟨A.xa, B2, _, _, _, _, rfl, rfl, h2.x, c.c_Alikes, c.n_Alikes_unlike, rfl, A.u, B2, _, _, trK t, rfl, rfl, h2.u, nkd_tr t, depth_tr t, ?_⟩
  rw [kn_some]
  refine hR B2 f2 s2 _ h2 I2 ?_
  have := I2.ask hto
  by_cases hu : t ∈ s2.unl
  · rw [decide_eq_true hu]
    exact ⟨fun z => (nomatch z), fun G => absurd G (this.mp hu)⟩
  · rw [decide_eq_false hu]
    refine ⟨fun _ => ?_, fun _ => rfl⟩
    by_cases G : Good b t
    · exact G
    · exact absurd (this.mpr G) hu
/-! kept_slots -/
open Classical in
noncomputable def keptTo (b : Pt) (p : Str) (k : Nat) : List Nat := (List.range k).filterMap fun i => if Good b (p, p, diagW (b.slots p) (i + 1)) then none else some (i + 1)
theorem keptTo_all (b : Pt) (p : Str) : keptTo b p (b.slots p) = keptOf b p := rfl
theorem keptTo_len (b : Pt) (p : Str) (k : Nat) : (keptTo b p k).length ≤ k := by
  unfold keptTo
  exact Nat.le_trans (List.length_filterMap_le _ _) (by simp)
theorem keptTo_bad {b : Pt} {p : Str} {k : Nat} (h : ¬ Good b (p, p, diagW (b.slots p) (k + 1))) : keptTo b p (k + 1) = keptTo b p k ++ [k + 1] := by
  unfold keptTo
  rw [List.range_succ, List.filterMap_append]
  simp [h]
theorem keptTo_good {b : Pt} {p : Str} {k : Nat} (h : Good b (p, p, diagW (b.slots p) (k + 1))) : keptTo b p (k + 1) = keptTo b p k := by
  unfold keptTo
  rw [List.range_succ, List.filterMap_append]
  simp [h]
def S_kept_slots (K : PySem.W.Frag) (P : Program) (wo : World) (ds : List D) (w : Wd) (R : D → Wd → Prop) : Prop := ∃ (b : Pt) (A : AlA) (f : Tr → Addr) (s : ASt) (B : Bag) (p : Pl), ds = [.raw (.ref A.xa), .str p.1] ∧ w = bagW K P wo B Wd.nil ∧ AlB (aC K) (bC K) b B A f s ∧ WF b ∧ FewT b ∧ InvA b s ∧ p ∈ b.pl ∧
  ∀ (B' : Bag) (f' : Tr → Addr) (s' : ASt), AlB (aC K) (bC K) b B' A f' s' → InvA b s' → R (.lst (natsD (keptOf b p.1))) (bagW K P wo B' Wd.nil)
theorem ok_Alikes_kept_slots (c : Ctx K mg) : Cal P wo K mg base 7 (He.ma K (aC K) "kept_slots") ["self", "place"] [] (spW K (S_kept_slots K P wo)) := by
  refine cal0W c.f_Alikes_kept_slots sc_Alikes_kept_slots (fun ds w R ⟨_, _, _, _, _, _, e, _⟩ => by rw [e]; rfl) (fun _ _ _ _ _ _ us hl => match us, hl with | [_, _], _ => rfl) fun cdv A0 outer s0 H E hr ds w R hS => ?_
  obtain ⟨b, A, f, s, B, p, rfl, rfl, h, W, F, I, hp, hR⟩ := hS
  have hp6 := W.ps p hp
  have sl := slots_of W.pn hp
  refine ss_cons <| s_set 2 (pv_rng2 c.z_range <| pv_int <| pv_add <| pv_calm (pl := _) (ok_Book_slots c) (hr.mono (by decide)) c.c_Book c.t_Book_slots <| pv_fldW <| pv_nm 0 rfl ⟨A.xa, B, _, _, _, _, rfl, rfl, h.x, c.c_Alikes, c.n_Alikes_book, rfl, _, rfl, rfl, pas_cons <| pv_nm 1 rfl <| pas_nil ⟨b, p, rfl, W.pn, hp, pv_int ⟨_, 1, rfl, rfl, 1, _, rfl, rfl, ?_⟩⟩⟩) sc_Alikes_kept_slots.nd
  refine ss_one <| s_ret <| pv_pn <| pn_lc [("slot", 3)] (fun k acc w' => ∃ B f s, w' = bagW K P wo B Wd.nil ∧ AlB (aC K) (bC K) b B A f s ∧ InvA b s ∧ acc = natsD (keptTo b p.1 k)) rfl sc_Alikes_kept_slots.nd (blkOk_by (show blkC N_Alikes_kept_slots (defScope s_Alikes_kept_slots) _ _ = true by decide +kernel)) <| i_rngO <| pv_nm 2 rfl ⟨1, _, rfl, by omega, ⟨B, f, s, rfl, h, I, rfl⟩, ?_, ?_⟩
  · rintro k d acc w' hd ⟨B, f, s, rfl, h, I, rfl⟩
    obtain ⟨hk, rfl⟩ := rgD_get hd
    have e3 : (1 : Int) + (k : Nat) = ((k + 1 : Nat) : Int) := by omega
    rw [e3]
    refine fun _ _ _ _ _ => g_nm 3 (fun _ _ _ _ _ => t_one <| pb_not <| pb_pv <| pv_calWm (pl := _) (ok_Alikes_are_alike c) hr c.c_Alikes c.t_Alikes_are_alike <| pv_nm 0 rfl ⟨A.xa, rfl, hasIns_bag h.x rfl, pas_cons <| pv_cal (ok_without_slot c) (hr.mono (by decide)) c.g_without_slot <| pas_cons <| pv_fldW <| pv_nm 0 rfl ⟨A.xa, B, _, _, _, _, rfl, rfl, h.x, c.c_Alikes, c.n_Alikes_book, rfl, pas_cons <| pv_nm 1 rfl <| pas_cons <| pv_nm 3 rfl <| pas_nil ⟨b, p, k + 1, rfl, W, hp, pas_nil ⟨_, fun F' => F', Frm.all, b, A, f, s, B, _, rfl, rfl, h, W, F, I, ⟨p, p, diagW_ok hp _⟩, fun B' f' s' kk h' I' hk => ⟨kk, rfl, fun e => ?_, fun e => ?_⟩⟩⟩⟩⟩) sc_Alikes_kept_slots.nd
    · have G : ¬ Good b (p.1, p.1, diagW (b.slots p.1) (k + 1)) := fun G => by rw [sl] at G; rw [hk.mpr G] at e; cases e
      refine fun _ _ _ _ _ => pv_nm 3 rfl ⟨?_, B', f', s', rfl, h', I', ?_⟩
      · have := keptTo_len b p.1 k
        unfold natsD; rw [List.length_map]; omega
      · rw [keptTo_bad G]; unfold natsD; rw [List.map_append]; rfl
    · have G : Good b (p.1, p.1, diagW (b.slots p.1) (k + 1)) := by rw [sl]; refine hk.mp ?_; cases kk <;> simp_all
      exact ⟨B', f', s', rfl, h', I', by rw [keptTo_good G]⟩
  · rintro acc w' ⟨B, f, s, rfl, h, I, rfl⟩
    rw [rgD_len, show ((p.2.1 : Int) + 1 - 1).toNat = p.2.1 by omega, ← sl, keptTo_all]
    exact hR B f s h I
/-! Alikes.__init__ -/
def S_Alikes_init (K : PySem.W.Frag) (P : Program) (wo : World) (ds : List D) (w : Wd) (R : D → Wd → Prop) : Prop := ∃ (xa : Addr) (b : Pt), ds = [.raw (.ref xa), bookD (bC K) b, .int 20000] ∧ w = bagW K P wo (oneB xa (.ins (aC K) [])) Wd.nil ∧
  ∀ (B : Bag) (A : AlA), A.xa = xa → AlB (aC K) (bC K) b B A (fun _ => xa) ⟨[], fun _ => [], []⟩ → R .non (bagW K P wo B Wd.nil)
theorem new_ne {B : Bag} {a p : Addr} {c : Cell} (e : B a = some c) (h : B p = none) : a ≠ p := fun z => by rw [z, h] at e; cases e
theorem set2 {B : Bag} {x p a : Addr} {c1 c2 c : Cell} (hp : B p = none) (e : B a = some c) (hx : a ≠ x) : setB (setB B p c1) x c2 a = some c := by rw [setB_ne hx, setB_ne (new_ne e hp)]; exact e
theorem ok_Alikes_init (c : Ctx K mg) : Cal P wo K mg base 1 (He.ma K (aC K) "__init__") ["self", "book", "limit"] [] (spW K (S_Alikes_init K P wo)) := by
  refine cal0W c.f_Alikes_init sc_Alikes_init (fun ds w R ⟨_, _, e, _⟩ => by rw [e]; rfl) (fun _ _ _ _ _ _ us hl => match us, hl with | [_, _, _], _ => rfl) fun cdv A0 outer s0 H E hr ds w R hS => ?_
  obtain ⟨xa, b, rfl, rfl, hR⟩ := hS
  refine ss_cons <| s_setF <| pv_nm 1 rfl <| pv_nm 0 rfl ⟨xa, _, _, _, _, rfl, rfl, setB_same, c.c_Alikes, c.n_Alikes_book, Nat.le_of_ble_eq_true rfl, ?_⟩
  refine ss_cons <| s_setF <| pv_nm 2 rfl <| pv_nm 0 rfl ⟨xa, _, _, _, _, rfl, rfl, setB_same, c.c_Alikes, c.n_Alikes_limit, Nat.le_of_ble_eq_true rfl, ?_⟩
  have hx0 := setB_same (B := setB (oneB xa (.ins (aC K) [])) xa (.ins (aC K) (putFD "book" (bookD (bC K) b) []))) (a := xa) (k := .ins (aC K) (putFD "limit" (.int 20000) (putFD "book" (bookD (bC K) b) [])))
  generalize setB (setB (oneB xa (.ins (aC K) [])) xa (.ins (aC K) (putFD "book" (bookD (bC K) b) []))) xa (.ins (aC K) (putFD "limit" (.int 20000) (putFD "book" (bookD (bC K) b) []))) = B0 at hx0 ⊢
  refine ss_cons <| s_setF <| pv_cellL <| pn_lst <| pas_nil ⟨Nat.le_of_ble_eq_true rfl, _, _, rfl, fun po hpo => pv_nm 0 rfl ⟨xa, _, _, _, _, rfl, rfl, (setB_ne (new_ne hx0 hpo)).trans hx0, c.c_Alikes, c.n_Alikes_order, Nat.le_of_ble_eq_true rfl, ?_⟩⟩
  have xo := new_ne hx0 hpo
  have ho1 := (setB_ne (B := setB B0 po (.lst [])) (k := .ins (aC K) (putFD "order" (.raw (.ref po)) (putFD "limit" (.int 20000) (putFD "book" (bookD (bC K) b) [])))) xo.symm).trans setB_same
  have hx1 := setB_same (B := setB B0 po (.lst [])) (a := xa) (k := .ins (aC K) (putFD "order" (.raw (.ref po)) (putFD "limit" (.int 20000) (putFD "book" (bookD (bC K) b) []))))
  generalize setB (setB B0 po (.lst [])) xa (.ins (aC K) (putFD "order" (.raw (.ref po)) (putFD "limit" (.int 20000) (putFD "book" (bookD (bC K) b) [])))) = B1 at ho1 hx1 ⊢
  refine ss_cons <| s_setF <| pv_cellN fun pk hpk => pv_nm 0 rfl ⟨xa, _, _, _, _, rfl, rfl, (setB_ne (new_ne hx1 hpk)).trans hx1, c.c_Alikes, c.n_Alikes_known, Nat.le_of_ble_eq_true rfl, ?_⟩
  have xk := new_ne hx1 hpk
  have ho2 := set2 (c1 := .nk []) (c2 := .ins (aC K) (putFD "known" (.raw (.ref pk)) (putFD "order" (.raw (.ref po)) (putFD "limit" (.int 20000) (putFD "book" (bookD (bC K) b) []))))) hpk ho1 xo.symm
  have hk2 := (setB_ne (B := setB B1 pk (.nk [])) (k := .ins (aC K) (putFD "known" (.raw (.ref pk)) (putFD "order" (.raw (.ref po)) (putFD "limit" (.int 20000) (putFD "book" (bookD (bC K) b) []))))) xk.symm).trans setB_same
  have hx2 := setB_same (B := setB B1 pk (.nk [])) (a := xa) (k := .ins (aC K) (putFD "known" (.raw (.ref pk)) (putFD "order" (.raw (.ref po)) (putFD "limit" (.int 20000) (putFD "book" (bookD (bC K) b) [])))))
  generalize setB (setB B1 pk (.nk [])) xa (.ins (aC K) (putFD "known" (.raw (.ref pk)) (putFD "order" (.raw (.ref po)) (putFD "limit" (.int 20000) (putFD "book" (bookD (bC K) b) []))))) = B2 at ho2 hk2 hx2 ⊢
  refine ss_cons <| s_setF <| pv_cellN fun ph hph => pv_nm 0 rfl ⟨xa, _, _, _, _, rfl, rfl, (setB_ne (new_ne hx2 hph)).trans hx2, c.c_Alikes, c.n_Alikes_behind, Nat.le_of_ble_eq_true rfl, ?_⟩
  generalize hf3 : putFD "behind" (.raw (.ref ph)) (putFD "known" (.raw (.ref pk)) (putFD "order" (.raw (.ref po)) (putFD "limit" (.int 20000) (putFD "book" (bookD (bC K) b) [])))) = f3
  have ho3 := set2 (c1 := .nk []) (c2 := .ins (aC K) f3) hph ho2 xo.symm
  have hk3 := set2 (c1 := .nk []) (c2 := .ins (aC K) f3) hph hk2 xk.symm
  have hx3 := setB_same (B := setB B2 ph (.nk [])) (a := xa) (k := .ins (aC K) f3)
  generalize setB (setB B2 ph (.nk [])) xa (.ins (aC K) f3) = B3 at ho3 hk3 hx3 ⊢
  refine ss_cons <| s_setF <| pv_cellN fun pa hpa => pv_nm 0 rfl ⟨xa, _, _, _, _, rfl, rfl, (setB_ne (new_ne hx3 hpa)).trans hx3, c.c_Alikes, c.n_Alikes_ahead, by rw [← hf3]; exact Nat.le_of_ble_eq_true rfl, ?_⟩
  have xq := new_ne hx3 hpa
  generalize hf4 : putFD "ahead" (.raw (.ref pa)) f3 = f4
  have ho4 := set2 (c1 := .nk []) (c2 := .ins (aC K) f4) hpa ho3 xo.symm
  have hk4 := set2 (c1 := .nk []) (c2 := .ins (aC K) f4) hpa hk3 xk.symm
  have ha4 := (setB_ne (B := setB B3 pa (.nk [])) (k := .ins (aC K) f4) xq.symm).trans setB_same
  have hx4 := setB_same (B := setB B3 pa (.nk [])) (a := xa) (k := .ins (aC K) f4)
  have nka := new_ne hk3 hpa
  generalize setB (setB B3 pa (.nk [])) xa (.ins (aC K) f4) = B4 at ho4 hk4 ha4 hx4 ⊢
  refine ss_one <| s_setF <| pv_cellN fun pu hpu => pv_nm 0 rfl ⟨xa, _, _, _, _, rfl, rfl, (setB_ne (new_ne hx4 hpu)).trans hx4, c.c_Alikes, c.n_Alikes_unlike, by rw [← hf4, ← hf3]; exact Nat.le_of_ble_eq_true rfl, ?_⟩
  have xu := new_ne hx4 hpu
  refine hR _ ⟨xa, po, pk, ph, pa, pu⟩ rfl ⟨?_, set2 hpu ho4 xo.symm, set2 hpu hk4 xk.symm, set2 hpu ha4 xq.symm, (setB_ne xu.symm).trans setB_same, fun t z => (nomatch z), nka, new_ne hk4 hpu, new_ne ha4 hpu, fun t z => (nomatch z), fun t z => (nomatch z)⟩
  rw [setB_same, ← hf4, ← hf3]
  rfl
end FH
set_option Elab.async false
set_option linter.all false
set_option maxRecDepth 100000
set_option maxHeartbeats 4000000
namespace Fw
open PySem PySem.Spec PyProof.Rows L2 Pd
theorem pairings_ok (ys : List Nat) : ∀ (xs : List Nat) (found : List Mg) (m : Mg), (∀ m0 ∈ found, (m0.map (·.2)).Nodup ∧ ∀ y ∈ m0.map (·.2), y ∈ ys) → m ∈ pairingsOf ys found xs → ((m.map (·.2)).Nodup ∧ ∀ y ∈ m.map (·.2), y ∈ ys) ∧ ∃ m0 ∈ found, m.map (·.1) = m0.map (·.1) ++ xs
  | [], found, m, h, hm => ⟨h m hm, m, hm, by simp⟩
  | x :: xs, found, m, h, hm => by
    obtain ⟨h1, m1, h2, h3⟩ := pairings_ok ys xs (found.flatMap (pairStep ys x)) m (fun m' hm' => by
      obtain ⟨m0, h0, h4⟩ := List.mem_flatMap.mp hm'
      unfold pairStep at h4
      obtain ⟨y, hy, e⟩ := List.mem_filterMap.mp h4
      split at e
      · cases e
      · rename_i hn
        cases e
        rw [List.map_append]
        refine ⟨List.nodup_append.mpr ⟨(h m0 h0).1, by simp, fun a ha c hc e => hn ?_⟩, fun z hz => ?_⟩
        · simp at hc
          rw [← hc, ← e]; exact ha
        · rcases List.mem_append.mp hz with z1 | z1
          · exact (h m0 h0).2 z z1
          · simp at z1
            rw [z1]; exact hy) hm
    refine ⟨h1, ?_⟩
    obtain ⟨m0, h0, h4⟩ := List.mem_flatMap.mp h2
    unfold pairStep at h4
    obtain ⟨y, hy, e⟩ := List.mem_filterMap.mp h4
    split at e
    · cases e
    · cases e
      refine ⟨m0, h0, ?_⟩
      rw [h3, List.map_append]
      simp
theorem pair_ok {b : Pt} (W : WF b) {p q : Pl} (hp : p ∈ b.pl) (hq : q ∈ b.pl) {m : Mg} (hm : m ∈ pairingsOf (keptOf b q.1) [[]] (keptOf b p.1)) : TrW b (p.1, q.1, m) ∧ m.map (·.1) = keptOf b p.1 ∧ ∀ x ∈ m.map (·.2), x ∈ keptOf b q.1 := by
  obtain ⟨⟨h1, h2⟩, m0, h0, h3⟩ := pairings_ok _ _ _ _ (fun m0 h0 => by
    rw [List.mem_singleton] at h0
    rw [h0]; exact ⟨List.nodup_nil, fun _ z => nomatch z⟩) hm
  rw [List.mem_singleton] at h0
  rw [h0] at h3
  have h3 : m.map (·.1) = keptOf b p.1 := h3
  refine ⟨⟨p, q, hp, rfl, hq, rfl, by rw [h3]; exact kept_inc, h1, fun z hz => ?_⟩, h3, h2⟩
  have a1 : z.1 ∈ keptOf b p.1 := by rw [← h3]; exact List.mem_map.mpr ⟨z, hz, rfl⟩
  have a2 := h2 z.2 (List.mem_map.mpr ⟨z, hz, rfl⟩)
  obtain ⟨c1, c2, _⟩ := kept_mem.mp a1
  obtain ⟨d1, d2, _⟩ := kept_mem.mp a2
  rw [slots_of W.pn hp] at c2
  rw [slots_of W.pn hq] at d2
  exact ⟨c1, c2, d1, d2⟩
def diagK (l : List Nat) : Mg := l.map fun k => (k, k)
theorem diagK_mem {l : List Nat} {i j : Nat} : (i, j) ∈ diagK l ↔ i = j ∧ i ∈ l := by
  unfold diagK
  rw [List.mem_map]
  constructor
  · rintro ⟨k, hk, e⟩
    cases e
    exact ⟨rfl, hk⟩
  · rintro ⟨e, h⟩
    exact ⟨i, h, by rw [e]⟩
theorem diagK_fst (l : List Nat) : (diagK l).map (·.1) = l := by unfold diagK; rw [List.map_map]; exact List.map_id' l
theorem diagK_snd (l : List Nat) : (diagK l).map (·.2) = l := by unfold diagK; rw [List.map_map]; exact List.map_id' l
theorem self_tr {b : Pt} (W : WF b) {p : Pl} (hp : p ∈ b.pl) : TrOk b (p.1, p.1, diagK (keptOf b p.1)) p p := by
  refine ⟨hp, rfl, hp, rfl, ?_, ?_, fun z hz => ?_⟩
  · show ((diagK (keptOf b p.1)).map (·.1)).Pairwise (· < ·)
    rw [diagK_fst]; exact kept_inc
  · show ((diagK (keptOf b p.1)).map (·.2)).Nodup
    rw [diagK_snd]; exact kept_nd
  · obtain ⟨e, h⟩ := diagK_mem.mp (show (z.1, z.2) ∈ _ from hz)
    obtain ⟨c1, c2, _⟩ := kept_mem.mp h
    rw [slots_of W.pn hp] at c2
    exact ⟨c1, c2, e ▸ c1, e ▸ c2⟩
theorem self_good {b : Pt} (W : WF b) {p : Pl} (hp : p ∈ b.pl) : Good b (p.1, p.1, diagK (keptOf b p.1)) := by
  have sl := slots_of W.pn hp
  obtain ⟨F, F1, F2⟩ := freshSeq natFr (List.range p.2.1)
  have hnd : (List.range p.2.1).Nodup := List.nodup_range
  have Hh : Held b (p.1, List.range p.2.1) := ⟨⟨p, hp, rfl, by simp⟩, hnd⟩
  have Hg : Held b (p.1, fill p.2.1 (fun i => if i + 1 ∈ keptOf b p.1 then some i else none) F) := ⟨⟨p, hp, rfl, fill_len⟩, fill_nd (L := List.range p.2.1 ) (fun i j x h1 h2 => by
      split at h1 <;> simp at h1
      split at h2 <;> simp at h2
      omega) (fun i x h1 => by
      split at h1 <;> simp at h1
      rename_i hk
      have := (kept_mem.mp hk).2.1
      exact List.mem_range.mpr (by omega)) F1 F2⟩
  refine good_of_eqv natFr W ⟨p, p, self_tr W hp⟩ Hh Hg (fun i j => ?_) (kept_eqv natFr W Hh Hg fun a ha => ?_)
  · rw [diagK_mem]
    constructor
    · rintro ⟨e, h⟩
      obtain ⟨c1, c2, _⟩ := kept_mem.mp h
      have e1 : i - 1 + 1 = i := by omega
      refine ⟨i - 1, i - 1, i - 1, by omega, by omega, List.getElem?_range (by omega), fill_at.mpr ⟨by omega, ?_⟩⟩
      rw [e1, if_pos h]; rfl
    · rintro ⟨i', j', x, rfl, rfl, h1, h2⟩
      obtain ⟨h3, h4⟩ := fill_at.mp h2
      obtain ⟨h5, h6⟩ := List.getElem?_eq_some_iff.mp h1
      rw [List.getElem_range] at h6
      subst h6
      split at h4
      · rename_i hk
        have h4 : i' = j' := h4
        subst h4
        exact ⟨rfl, hk⟩
      · have h4 : i' = F j' := h4
        refine absurd (List.mem_range.mpr ?_) (h4 ▸ F2 j')
        simpa using h5
  · obtain ⟨c1, c2, _⟩ := kept_mem.mp ha
    have c2 : a ≤ b.slots p.1 := c2
    have e1 : a - 1 + 1 = a := by omega
    rw [List.getElem?_range (by omega)]
    refine (fill_at.mpr ⟨by omega, ?_⟩).symm
    rw [e1, if_pos ha]; rfl
theorem StOk.more {b : Pt} {hs hs' : List Str} {q : Str} {v : Str × Mg} (h : StOk b hs q v) (hm : ∀ x ∈ hs, x ∈ hs') : StOk b hs' q v := ⟨hm _ h.hd, h.tr, h.gd, h.e1, h.e2⟩
/-- the places that stand, so far -/
structure RdI (b : Pt) (reached heads : List Str) (sts : List (Str × (Str × Mg))) (k : Nat) : Prop where
  ks : sts.map (·.1) = reached.take k
  hn : heads.Nodup
  hr : ∀ h ∈ heads, h ∈ reached.take k
  h0 : 0 < k → b.st ∈ heads ∧ heads[0]? = some b.st
  so : ∀ x ∈ sts, StOk b heads x.1 x.2
def stOf (sts : List (Str × (Str × Mg))) (q : Str) : Str × Mg := (look sts q).getD (q, [])
theorem RdI.red {b : Pt} {reached heads : List Str} {sts : List (Str × (Str × Mg))} (R : RP b reached reached.length) (I : RdI b reached heads sts reached.length) : RedOk b reached heads (stOf sts) := by
  have hl : 0 < reached.length := (List.getElem?_eq_some_iff.mp R.hd).1
  refine ⟨R.mem, List.mem_of_getElem? R.hd, fun q hq w hw c hc => ?_, (I.h0 hl).1, I.hn, fun h hh => ?_, fun q hq => ?_⟩
  · obtain ⟨i, hi⟩ := List.getElem?_of_mem hq
    exact R.cl i q (List.getElem?_eq_some_iff.mp hi).1 hi w hw c hc
  · have := I.hr h hh
    rwa [List.take_length] at this
  · have hk : q ∈ sts.map (·.1) := by rw [I.ks, List.take_length]; exact hq
    obtain ⟨v, hv⟩ := look_some hk
    have := I.so _ (look_mem hv)
    unfold stOf
    rw [hv]; exact this
end Fw
set_option Elab.async false
set_option linter.all false
set_option maxRecDepth 100000
set_option maxHeartbeats 4000000
namespace FH
open PySem PySem.Spec PyProof.Rows L2 Pd Fw
open Evl (Ex)
variable {P : Program} {wo : World} {K : PySem.W.Frag} {mg : Str → Option Value} {base : Heap}
def rC (K : PySem.W.Frag) : Addr := He.ga K "Reduction"
structure RdA where
  xr : Addr
  st : Addr
  hd : Addr
structure BkOk (b : Pt) : Prop where
  w : WF b
  f : FewT b
  s3 : ∀ p ∈ b.pl, p.2.1 ≤ 3
  n7 : b.pl.length ≤ 7
abbrev Sts := List (Str × (Str × Mg))
noncomputable def keptD (b : Pt) (reached : List Str) : List (Key × D) := reached.map fun q => (.inr q, .lst (natsD (keptOf b q)))
def stD1 (v : Str × Mg) : D := .tup [.str v.1, pairsD v.2]
def stsD (sts : Sts) : List (Key × D) := sts.map fun x => (.inr x.1, stD1 x.2)
noncomputable def rdF (Cb : Addr) (b : Pt) (reached : List Str) (A : AlA) (r : RdA) : List (Str × D) := [("book", bookD Cb b), ("alikes", .raw (.ref A.xa)), ("reached", .lst (reached.map .str)), ("kept", .dk (keptD b reached)), ("stands", .raw (.ref r.st)), ("heads", .raw (.ref r.hd))]
structure RedB (Cr Ca Cb : Addr) (b : Pt) (reached : List Str) (Br Bal : Bag) (r : RdA) (A : AlA) (f : Tr → Addr) (s : ASt) (heads : List Str) (sts : Sts) : Prop where
  x : Br r.xr = some (.ins Cr (rdF Cb b reached A r))
  st : Br r.st = some (.dk (stsD sts))
  hd : Br r.hd = some (.lst (heads.map .str))
  al : AlB Ca Cb b Bal A f s
  iv : InvA b s
theorem kept_val {b : Pt} {reached : List Str} {q : Str} (h : q ∈ reached) : valD (keptD b reached) (.inr q) = some (.lst (natsD (keptOf b q))) := (valD_set inrS_inj (fun q => D.lst (natsD (keptOf b q))) reached q).trans (if_pos h)
theorem hasIns_fr {B : Bag} {F : Wd} {ad C : Addr} {m : Str} (h : HasIns F ad C m) : HasIns (bagW K P wo B F) ad C m := fun c H0 H ⟨c2, _, _, h3, _⟩ => h c2 H0 H h3
theorem hasIns_sep {u v : Wd} {ad C : Addr} {m : Str} (h : HasIns u ad C m) : HasIns (Wd.sep u v) ad C m := fun c H0 H ⟨c1, _, _, _, h3, _⟩ => h c1 H0 H h3
/-! match -/
def S_match (K : PySem.W.Frag) (P : Program) (wo : World) (ds : List D) (w : Wd) (R : D → Wd → Prop) : Prop := ∃ (b : Pt) (reached : List Str) (Br Bal : Bag) (r : RdA) (A : AlA) (f : Tr → Addr) (s : ASt) (heads : List Str) (sts : Sts) (p q : Pl),
  ds = [.raw (.ref r.xr), .str p.1, .str q.1] ∧ w = bagW K P wo Br (bagW K P wo Bal Wd.nil) ∧ BkOk b ∧ RedB (rC K) (aC K) (bC K) b reached Br Bal r A f s heads sts ∧ p ∈ b.pl ∧ q ∈ b.pl ∧ p.1 ∈ reached ∧ q.1 ∈ reached ∧
  ∀ (Bal' : Bag) (f' : Tr → Addr) (s' : ASt), RedB (rC K) (aC K) (bC K) b reached Br Bal' r A f' s' heads sts → R .non (bagW K P wo Br (bagW K P wo Bal' Wd.nil)) ∧
    ∀ m : Mg, TrW b (p.1, q.1, m) → Good b (p.1, q.1, m) → m.map (·.1) = keptOf b p.1 → (∀ x ∈ m.map (·.2), x ∈ keptOf b q.1) → R (pairsD m) (bagW K P wo Br (bagW K P wo Bal' Wd.nil))
theorem ok_Reduction_match (c : Ctx K mg) : Cal P wo K mg base 7 (He.ma K (rC K) "match") ["self", "head", "place"] [] (spW K (S_match K P wo)) := by
  refine cal0W c.f_Reduction_match sc_Reduction_match (fun ds w R ⟨_, _, _, _, _, _, _, _, _, _, _, _, e, _⟩ => by rw [e]; rfl) (fun _ _ _ _ _ _ us hl => match us, hl with | [_, _, _], _ => rfl) fun cdv A0 outer s0 H E hr ds w R hS => ?_
  obtain ⟨b, reached, Br, Bal, r, A, f, s, heads, sts, p, q, rfl, rfl, Bk, h, hp, hq, hpr, hqr, hR⟩ := hS
  have W := Bk.w
  have hu := hu_of hr
  have h3 := Bk.s3 p hp
  have h4 := Bk.s3 q hq
  have l3 := kept_len (b := b) (p := p.1)
  have l4 := kept_len (b := b) (p := q.1)
  rw [slots_of W.pn hp] at l3
  rw [slots_of W.pn hq] at l4
  refine ss_cons <| s_if <| pb_c <| c_neI <| pv_lenQ c.z_len <| pq_pv <| pv_dget hu <| pv_fldW <| pv_nm 0 rfl ⟨r.xr, Br, _, _, _, _, rfl, rfl, h.x, c.c_Reduction, c.n_Reduction_kept, rfl, pv_nm 1 rfl ⟨_, .inr p.1, _, rfl, rfl, kept_val hpr, _, rfl, pv_lenQ c.z_len <| pq_pv <| pv_dget hu <| pv_fldW <| pv_nm 0 rfl ⟨r.xr, Br, _, _, _, _, rfl, rfl, h.x, c.c_Reduction, c.n_Reduction_kept, rfl, pv_nm 2 rfl ⟨_, .inr q.1, _, rfl, rfl, kept_val hqr, _, rfl, _, _, rfl, rfl, _, rfl, fun _ => ?_, fun _ => ss_nil ?_⟩⟩⟩⟩
  · exact ss_one <| s_ret <| pv_non (hR Bal f s h).1
  refine ss_cons <| s_for (fun k ls' w' => ∃ Bal f s y3, w' = bagW K P wo Br (bagW K P wo Bal Wd.nil) ∧ RedB (rC K) (aC K) (bC K) b reached Br Bal r A f s heads sts ∧ ls' = [.im (.raw (.ref r.xr)), .im (.str p.1), .im (.str q.1), y3]) PassesOwn.never rfl <| i_list <| pv_cal (ok_pairings c) (hr.mono (by decide)) c.g_pairings <| pas_cons <| pv_dget hu <| pv_fldW <| pv_nm 0 rfl ⟨r.xr, Br, _, _, _, _, rfl, rfl, h.x, c.c_Reduction, c.n_Reduction_kept, rfl, pv_nm 1 rfl ⟨_, .inr p.1, _, rfl, rfl, kept_val hpr, pas_cons <| pv_dget hu <| pv_fldW <| pv_nm 0 rfl ⟨r.xr, Br, _, _, _, _, rfl, rfl, h.x, c.c_Reduction, c.n_Reduction_kept, rfl, pv_nm 2 rfl ⟨_, .inr q.1, _, rfl, rfl, kept_val hqr, pas_nil ⟨_, _, rfl, by omega, by omega, _, rfl, ⟨Bal, f, s, _, rfl, h, rfl⟩, ?_, ?_⟩⟩⟩⟩⟩
  · rintro k d ls' w' hd ⟨Bal, f, s, y3, rfl, h, rfl⟩
    rw [List.getElem?_map] at hd
    obtain ⟨m, hmk, rfl⟩ := Option.map_eq_some_iff.mp hd
    obtain ⟨m1, m2, m3⟩ := pair_ok W hp hq (List.mem_of_getElem? hmk)
    refine g_nm 3 ?_ sc_Reduction_match.nd
    refine ss_one <| s_if <| pb_pv <| pv_calWm (pl := _) (ok_Alikes_are_alike c) hr c.c_Alikes c.t_Alikes_are_alike <| pv_fldW <| pv_nm 0 rfl ⟨r.xr, Br, _, _, _, _, rfl, rfl, h.x, c.c_Reduction, c.n_Reduction_alikes, rfl, A.xa, rfl, hasIns_fr (hasIns_bag h.al.x rfl), pas_cons <| pv_tup <| pas_cons <| pv_nm 1 rfl <| pas_cons <| pv_nm 2 rfl <| pas_cons <| pv_nm 3 rfl <| pas_nil ⟨Nat.le_of_ble_eq_true rfl, pas_nil ⟨bagW K P wo Bal Wd.nil, fun F' => bagW K P wo Br F', Frm.bag, b, A, f, s, Bal, (p.1, q.1, m), rfl, rfl, h.al, W, Bk.f, h.iv, m1, fun B' f' s' kk h' I' hk => ⟨kk, rfl, fun e => ?_, fun e => ?_⟩⟩⟩⟩
    · exact ss_one <| s_ret <| pv_nm 3 rfl ((hR B' f' s' ⟨h.x, h.st, h.hd, h', I'⟩).2 m m1 (hk.mp e) m2 m3)
    · exact ss_nil ⟨B', f', s', _, rfl, ⟨h.x, h.st, h.hd, h', I'⟩, rfl⟩
  · rintro ls' w' ⟨Bal, f, s, y3, rfl, h, rfl⟩
    exact ss_one <| s_ret <| pv_non (hR Bal f s h).1
end FH
set_option Elab.async false
set_option linter.all false
set_option maxRecDepth 100000
set_option maxHeartbeats 4000000
namespace FH
open PySem PySem.Spec PyProof.Rows L2 Pd Fw
open Evl (Ex)
variable {P : Program} {wo : World} {K : PySem.W.Frag} {mg : Str → Option Value} {base : Heap}
theorem sts_put {sts : Sts} {q : Str} {v : Str × Mg} (h : q ∉ sts.map (·.1)) : putD (stsD sts) (.inr q) (stD1 v) = stsD (sts ++ [(q, v)]) := by
  unfold stsD
  rw [putD_new, List.map_append]; rfl
  intro z
  rw [List.map_map] at z
  obtain ⟨x, hx, e⟩ := List.mem_map.mp z
  exact h (List.mem_map.mpr ⟨x, hx, Sum.inr.inj e⟩)
/-! stand -/
def S_stand (K : PySem.W.Frag) (P : Program) (wo : World) (ds : List D) (w : Wd) (R : D → Wd → Prop) : Prop := ∃ (b : Pt) (reached : List Str) (Br Bal : Bag) (r : RdA) (A : AlA) (f : Tr → Addr) (s : ASt) (heads : List Str) (sts : Sts) (q : Pl),
  ds = [.raw (.ref r.xr), .str q.1] ∧ w = bagW K P wo Br (bagW K P wo Bal Wd.nil) ∧ BkOk b ∧ RedB (rC K) (aC K) (bC K) b reached Br Bal r A f s heads sts ∧ q ∈ b.pl ∧ q.1 ∈ reached ∧ q.1 ∉ sts.map (·.1) ∧ (∀ h ∈ heads, h ∈ reached ∧ ∃ p ∈ b.pl, p.1 = h) ∧ sts.length < 1000 ∧ heads.length < 1000 ∧
  ∀ (Br' Bal' : Bag) (f' : Tr → Addr) (s' : ASt) (heads' : List Str) (v : Str × Mg), RedB (rC K) (aC K) (bC K) b reached Br' Bal' r A f' s' heads' (sts ++ [(q.1, v)]) → StOk b heads' q.1 v → ((heads' = heads ∧ heads ≠ []) ∨ heads' = heads ++ [q.1]) → R .non (bagW K P wo Br' (bagW K P wo Bal' Wd.nil))
theorem ok_Reduction_stand (c : Ctx K mg) : Cal P wo K mg base 8 (He.ma K (rC K) "stand") ["self", "place"] [] (spW K (S_stand K P wo)) := by
  refine cal0W c.f_Reduction_stand sc_Reduction_stand (fun ds w R ⟨_, _, _, _, _, _, _, _, _, _, _, e, _⟩ => by rw [e]; rfl) (fun _ _ _ _ _ _ us hl => match us, hl with | [_, _], _ => rfl) fun cdv A0 outer s0 H E hr ds w R hS => ?_
  obtain ⟨b, reached, Br, Bal, r, A, f, s, heads, sts, q, rfl, rfl, Bk, h, hq, hqr, hqn, hh, ls1, lh1, hR⟩ := hS
  have W := Bk.w
  have hu := hu_of hr
  have h4 := Bk.s3 q hq
  have l4 := kept_len (b := b) (p := q.1)
  rw [slots_of W.pn hq] at l4
  have xst := cell_ne h.x h.st (fun z => nomatch z)
  have xhd := cell_ne h.x h.hd (fun z => nomatch z)
  have hst := cell_ne h.hd h.st (fun z => nomatch z)
  refine ss_cons <| s_forW (fun k ls' w' => ∃ Bal f s y2 y3, w' = bagW K P wo Br (bagW K P wo Bal Wd.nil) ∧ RedB (rC K) (aC K) (bC K) b reached Br Bal r A f s heads sts ∧ ls' = [.im (.raw (.ref r.xr)), .im (.str q.1), y2, y3, .no]) PassesOwn.never rfl <| pv_fldW <| pv_nm 0 rfl ⟨r.xr, Br, _, _, _, _, rfl, rfl, h.x, c.c_Reduction, c.n_Reduction_heads, rfl, r.hd, heads.map .str, rfl, ⟨Bal, f, s, _, _, rfl, h, rfl⟩, ?_, ?_, ?_⟩
  · rintro k ls' w' ⟨Bal, f, s, y2, y3, rfl, h, rfl⟩
    exact ⟨Br, _, rfl, h.hd⟩
  · rintro k d ls' w' hd ⟨Bal, f, s, y2, y3, rfl, h, rfl⟩
    rw [List.getElem?_map] at hd
    obtain ⟨hn, hk, rfl⟩ := Option.map_eq_some_iff.mp hd
    have hnm := List.mem_of_getElem? hk
    obtain ⟨hpr, p, hp, rfl⟩ := hh hn hnm
    refine g_nm 2 ?_ sc_Reduction_stand.nd
    refine ss_cons <| s_set 3 (pv_calWm (pl := _) (ok_Reduction_match c) hr c.c_Reduction c.t_Reduction_match <| pv_nm 0 rfl ⟨r.xr, rfl, hasIns_bag h.x rfl, pas_cons <| pv_nm 2 rfl <| pas_cons <| pv_nm 1 rfl <| pas_nil ⟨_, fun F' => F', Frm.all, b, reached, Br, Bal, r, A, f, s, heads, sts, p, q, rfl, rfl, Bk, h, hp, hq, hpr, hqr, fun Bal' f' s' h' => ⟨?_, fun m m1 m2 m3 m4 => ?_⟩⟩⟩) sc_Reduction_stand.nd
    · refine ss_one <| s_if <| pb_c <| c_notN <| pv_nm 3 rfl ⟨true, rfl, _, rfl, fun e => (nomatch e), fun _ => ss_nil ?_⟩
      exact ⟨Bal', f', s', _, _, rfl, h', rfl⟩
    · refine ss_one <| s_if <| pb_c <| c_notN <| pv_nm 3 rfl ⟨false, rfl, _, rfl, fun _ => ?_, fun e => (nomatch e)⟩
      refine ss_cons <| s_putKW hu <| pv_tup <| pas_cons <| pv_nm 2 rfl <| pas_cons <| pv_nm 3 rfl <| pas_nil ⟨Nat.le_of_ble_eq_true rfl, pv_fldW <| pv_nm 0 rfl ⟨r.xr, Br, _, _, _, _, rfl, rfl, h'.x, c.c_Reduction, c.n_Reduction_stands, rfl, pv_nm 1 rfl ⟨r.st, Br, _, _, .inr q.1, rfl, rfl, h'.st, rfl, by unfold stsD; rw [List.length_map]; omega, ?_⟩⟩⟩
      rw [show putD (stsD sts) (.inr q.1) (.tup [.str p.1, pairsD m]) = stsD (sts ++ [(q.1, (p.1, m))]) from sts_put (v := (p.1, m)) hqn]
      refine ss_one <| s_retN <| hR _ Bal' f' s' heads (p.1, m) ⟨(setB_ne xst).trans h'.x, setB_same, (setB_ne hst).trans h'.hd, h'.al, h'.iv⟩ ⟨hnm, m1, m2, m3, m4⟩ (.inl ⟨rfl, fun e => ?_⟩)
      rw [e] at hnm
      cases hnm
  · rintro ls' w' ⟨Bal, f, s, y2, y3, rfl, h, rfl⟩
    refine ss_cons <| s_appendW <| pv_fldW <| pv_nm 0 rfl ⟨r.xr, Br, _, _, _, _, rfl, rfl, h.x, c.c_Reduction, c.n_Reduction_heads, rfl, r.hd, Br, _, _, rfl, rfl, h.hd, pv_nm 1 rfl ⟨Br, _, _, rfl, h.hd, by rw [List.length_map]; omega, ?_⟩⟩
    have hx1 := (setB_ne (k := .lst (heads.map D.str ++ [.str q.1])) xhd).trans h.x
    have hs1 := (setB_ne (k := .lst (heads.map D.str ++ [.str q.1])) hst.symm).trans h.st
    have ed : (natsD (keptOf b q.1)).map (fun d => match d with | .int i => Pd.pairD (i.toNat, i.toNat) | _ => .non) = (diagK (keptOf b q.1)).map Pd.pairD := by
      unfold natsD diagK
      rw [List.map_map, List.map_map]; rfl
    refine ss_one <| s_putKW hu <| pv_tup <| pas_cons <| pv_nm 1 rfl <| pas_cons <| pv_ftupQ c.z_tuple <| pq_pn <| pn_lcM [("slot", 4)] (fun d => match d with | .int i => Pd.pairD (i.toNat, i.toNat) | _ => .non) rfl sc_Reduction_stand.nd (blkOk_by (show blkC N_Reduction_stand (defScope s_Reduction_stand) _ _ = true by decide +kernel)) <| i_list <| pv_dget hu <| pv_fldW <| pv_nm 0 rfl ⟨r.xr, _, _, _, _, _, rfl, rfl, hx1, c.c_Reduction, c.n_Reduction_kept, rfl, pv_nm 1 rfl ⟨_, .inr q.1, _, rfl, rfl, kept_val hqr, _, rfl, by unfold natsD; rw [List.length_map]; omega, fun d2 hd2 => ?_, pas_nil ⟨Nat.le_of_ble_eq_true rfl, pv_fldW <| pv_nm 0 rfl ⟨r.xr, _, _, _, _, _, rfl, rfl, hx1, c.c_Reduction, c.n_Reduction_stands, rfl, pv_nm 1 rfl ⟨r.st, _, _, _, .inr q.1, rfl, rfl, hs1, rfl, by unfold stsD; rw [List.length_map]; omega, ?_⟩⟩⟩⟩⟩
    · obtain ⟨n, hn, rfl⟩ := List.mem_map.mp hd2
      exact fun _ _ _ _ _ => g_nm 4 (fun _ _ _ _ _ => pv_tup <| pas_cons <| pv_nm 4 rfl <| pas_cons <| pv_nm 4 rfl <| pas_nil ⟨Nat.le_of_ble_eq_true rfl, rfl, rfl⟩) sc_Reduction_stand.nd
    · rw [ed]
      rw [show putD (stsD sts) (.inr q.1) (.tup [.str q.1, .ftup ((diagK (keptOf b q.1)).map Pd.pairD)]) = stsD (sts ++ [(q.1, (q.1, diagK (keptOf b q.1)))]) from sts_put (v := (q.1, diagK (keptOf b q.1))) hqn]
      refine hR _ Bal f s (heads ++ [q.1]) (q.1, diagK (keptOf b q.1)) ⟨(setB_ne xst).trans hx1, setB_same, ((setB_ne hst).trans setB_same).trans (by rw [List.map_append]; rfl), h.al, h.iv⟩ ⟨List.mem_append_right _ List.mem_cons_self, ⟨q, q, self_tr W hq⟩, self_good W hq, diagK_fst _, fun x hx => ?_⟩ (.inr rfl)
      have hx : x ∈ (diagK (keptOf b q.1)).map (·.2) := hx
      rw [diagK_snd] at hx
      exact hx
end FH
set_option Elab.async false
set_option linter.all false
set_option maxRecDepth 100000
set_option maxHeartbeats 4000000
namespace FH
open PySem PySem.Spec PyProof.Rows L2 Pd Fw
open Evl (Ex)
variable {P : Program} {wo : World} {K : PySem.W.Frag} {mg : Str → Option Value} {base : Heap}
theorem keptD_put {b : Pt} {l : List Str} {q : Str} (h : q ∉ l) : putD (keptD b l) (.inr q) (.lst (natsD (keptOf b q))) = keptD b (l ++ [q]) := putD_set inrS_inj (fun q => D.lst (natsD (keptOf b q))) h
theorem take_out {α : Type} {l : List α} (nd : l.Nodup) {k : Nat} {x : α} (h : l[k]? = some x) : x ∉ l.take k := fun z => by
  rw [← List.take_append_drop k l, List.nodup_append] at nd
  exact nd.2.2 x z x (List.mem_of_getElem? (i := 0) (by rw [List.getElem?_drop]; exact h)) rfl
/-- one bag of two -/
def unB (B B2 : Bag) : Bag := fun a => match B a with | some k => some k | none => B2 a
theorem un_bag {B B2 : Bag} : (bagW K P wo B (bagW K P wo B2 Wd.nil)).le (bagW K P wo (unB B B2) Wd.nil) := fun {c H0 H} ⟨c2, h1, h2, ⟨c3, k1, k2, k3, k4⟩, h4⟩ => by
  have e : ∀ a, unB B B2 a ≠ none ↔ (B a ≠ none ∨ B2 a ≠ none) := fun a => by
    unfold unB
    cases g : B a with
    | none => simp
    | some k => simp
  refine ⟨c3, fun a => ?_, fun a _ z => k3 a z, k3, fun a k g => ?_⟩
  · rw [h1 a, k1 a, e a, or_assoc]
  · unfold unB at g
    cases q : B a with
    | none => rw [q] at g; exact k4 a k g
    | some k2 => rw [q] at g; cases g; exact h4 a _ q
theorem un_l {B B2 : Bag} {a : Addr} {k : Cell} (h : B a = some k) : unB B B2 a = some k := by unfold unB; rw [h]
/-! Reduction.__init__ -/
def S_Reduction_init (K : PySem.W.Frag) (P : Program) (wo : World) (ds : List D) (w : Wd) (R : D → Wd → Prop) : Prop := ∃ (xr : Addr) (b : Pt), ds = [.raw (.ref xr), bookD (bC K) b, .int 20000] ∧ w = bagW K P wo (oneB xr (.ins (rC K) [])) Wd.nil ∧ BkOk b ∧
  ∀ (B : Bag) (r : RdA) (A : AlA) (reached heads : List Str) (sts : Sts), r.xr = xr → RP b reached reached.length → RdI b reached heads sts reached.length → B xr = some (.ins (rC K) (rdF (bC K) b reached A r)) → B r.st = some (.dk (stsD sts)) → B r.hd = some (.lst (heads.map .str)) → R .non (bagW K P wo B Wd.nil)
theorem ok_Reduction_init (c : Ctx K mg) : Cal P wo K mg base 9 (He.ma K (rC K) "__init__") ["self", "book", "limit"] [] (spW K (S_Reduction_init K P wo)) := by
  refine cal0W c.f_Reduction_init sc_Reduction_init (fun ds w R ⟨_, _, e, _⟩ => by rw [e]; rfl) (fun _ _ _ _ _ _ us hl => match us, hl with | [_, _, _], _ => rfl) fun cdv A0 outer s0 H E hr ds w R hS => ?_
  obtain ⟨xr, b, rfl, rfl, Bk, hR⟩ := hS
  have W := Bk.w
  have hu := hu_of hr
  refine ss_cons <| s_setF <| pv_nm 1 rfl <| pv_nm 0 rfl ⟨xr, _, _, _, _, rfl, rfl, setB_same, c.c_Reduction, c.n_Reduction_book, Nat.le_of_ble_eq_true rfl, ?_⟩
  have hx0 := setB_same (B := oneB xr (.ins (rC K) [])) (a := xr) (k := .ins (rC K) (putFD "book" (bookD (bC K) b) []))
  generalize setB (oneB xr (.ins (rC K) [])) xr (.ins (rC K) (putFD "book" (bookD (bC K) b) [])) = B0 at hx0 ⊢
  refine ss_cons <| s_setF <| pv_calmk (ok_Alikes_init c) c.m_Alikes (hr.mono (by decide)) c.g_Alikes <| pas_cons <| pv_nm 1 rfl <| pas_cons <| pv_nm 2 rfl <| pas_nil fun xa => ⟨xa, b, rfl, rfl, fun Bal A eA hA => ⟨rfl, pv_le (fun h => sep_bag (Wd.sepC h)) ?_⟩⟩
  subst eA
  refine pv_nm 0 rfl ⟨xr, B0, _, _, _, rfl, rfl, hx0, c.c_Reduction, c.n_Reduction_alikes, Nat.le_of_ble_eq_true rfl, ?_⟩
  have hx1 := setB_same (B := B0) (a := xr) (k := .ins (rC K) (putFD "alikes" (.raw (.ref A.xa)) (putFD "book" (bookD (bC K) b) [])))
  generalize setB B0 xr (.ins (rC K) (putFD "alikes" (.raw (.ref A.xa)) (putFD "book" (bookD (bC K) b) []))) = B1 at hx1 ⊢
  refine ss_cons <| s_setF <| pv_cal (ok_reached_places c) (hr.mono (by decide)) c.g_reached_places <| pas_cons <| pv_nm 1 rfl <| pas_nil ⟨b, rfl, W, fun reached hrp => pv_nm 0 rfl ⟨xr, B1, _, _, _, rfl, rfl, hx1, c.c_Reduction, c.n_Reduction_reached, Nat.le_of_ble_eq_true rfl, ?_⟩⟩
  have hlen := hrp.len
  have p7 := W.p7
  generalize hf2 : putFD "reached" (.lst (reached.map .str)) (putFD "alikes" (.raw (.ref A.xa)) (putFD "book" (bookD (bC K) b) [])) = f2
  have hx2 := setB_same (B := B1) (a := xr) (k := .ins (rC K) f2)
  generalize setB B1 xr (.ins (rC K) f2) = B2 at hx2 ⊢
  refine ss_cons <| s_setF <| pv_pk <| pk_dcE [("place", 3)] rfl sc_Reduction_init.nd (blkOk_by (show blkC N_Reduction_init (defScope s_Reduction_init) _ _ = true by decide +kernel)) <| i_list <| pv_fldW <| pv_nm 0 rfl ⟨xr, B2, _, _, _, _, rfl, rfl, hx2, c.c_Reduction, c.n_Reduction_reached, by rw [← hf2]; rfl, reached.map .str, rfl, fun k acc w' => ∃ Bal f s, w' = bagW K P wo B2 (bagW K P wo Bal Wd.nil) ∧ AlB (aC K) (bC K) b Bal A f s ∧ InvA b s ∧ acc = keptD b (reached.take k), ⟨Bal, _, _, rfl, hA, InvA.empty, rfl⟩, ?_, ?_⟩
  · rintro k d acc w' hd ⟨Bal, f, s, rfl, hA, I, rfl⟩
    rw [List.getElem?_map] at hd
    obtain ⟨q, hk, rfl⟩ := Option.map_eq_some_iff.mp hd
    obtain ⟨p, hp, rfl⟩ := hrp.mem q (List.mem_of_getElem? hk)
    refine fun _ _ _ _ _ => g_nm 3 (fun _ _ _ _ _ => t_nil ⟨fun _ => fun _ _ _ _ _ => pv_nm 3 rfl <| fun _ _ _ _ _ => pv_calWm (pl := _) (ok_Alikes_kept_slots c) (hr.mono (by decide)) c.c_Alikes c.t_Alikes_kept_slots <| pv_fldW <| pv_nm 0 rfl ⟨xr, B2, _, _, _, _, rfl, rfl, hx2, c.c_Reduction, c.n_Reduction_alikes, by rw [← hf2]; rfl, A.xa, rfl, hasIns_fr (hasIns_bag hA.x rfl), pas_cons <| pv_nm 3 rfl <| pas_nil ⟨bagW K P wo Bal Wd.nil, fun F' => bagW K P wo B2 F', Frm.bag, b, A, f, s, Bal, p, rfl, rfl, hA, W, Bk.f, I, hp, fun B' f' s' h' I' => ⟨.inr p.1, rfl, ?_, B', f', s', rfl, h', I', ?_⟩⟩⟩, fun e => nomatch e⟩) sc_Reduction_init.nd
    · unfold keptD; rw [List.length_map, List.length_take]; omega
    · rw [keptD_put (take_out hrp.nd hk), List.take_succ, hk]; rfl
  rintro acc w' ⟨Bal, f, s, rfl, hA, I, rfl⟩
  rw [List.length_map, List.take_length]
  refine pv_nm 0 rfl ⟨xr, B2, _, _, _, rfl, rfl, hx2, c.c_Reduction, c.n_Reduction_kept, by rw [← hf2]; exact Nat.le_of_ble_eq_true rfl, ?_⟩
  generalize hf3 : putFD "kept" (.dk (keptD b reached)) f2 = f3
  have hx3 := setB_same (B := B2) (a := xr) (k := .ins (rC K) f3)
  generalize setB B2 xr (.ins (rC K) f3) = B3 at hx3 ⊢
  refine ss_cons <| s_setF <| pv_cellK fun st hst => pv_nm 0 rfl ⟨xr, _, _, _, _, rfl, rfl, (setB_ne (new_ne hx3 hst)).trans hx3, c.c_Reduction, c.n_Reduction_stands, by rw [← hf3, ← hf2]; exact Nat.le_of_ble_eq_true rfl, ?_⟩
  have xst := new_ne hx3 hst
  generalize hf4 : putFD "stands" (.raw (.ref st)) f3 = f4
  have hs4 := (setB_ne (B := setB B3 st (.dk [])) (k := .ins (rC K) f4) xst.symm).trans setB_same
  have hx4 := setB_same (B := setB B3 st (.dk [])) (a := xr) (k := .ins (rC K) f4)
  generalize setB (setB B3 st (.dk [])) xr (.ins (rC K) f4) = B4 at hs4 hx4 ⊢
  refine ss_cons <| s_setF <| pv_cellL <| pn_lst <| pas_nil ⟨Nat.le_of_ble_eq_true rfl, _, _, rfl, fun hd hhd => pv_nm 0 rfl ⟨xr, _, _, _, _, rfl, rfl, (setB_ne (new_ne hx4 hhd)).trans hx4, c.c_Reduction, c.n_Reduction_heads, by rw [← hf4, ← hf3, ← hf2]; exact Nat.le_of_ble_eq_true rfl, ?_⟩⟩
  have xhd := new_ne hx4 hhd
  have ef : putFD "heads" (.raw (.ref hd)) f4 = rdF (bC K) b reached A ⟨xr, st, hd⟩ := by rw [← hf4, ← hf3, ← hf2]; rfl
  rw [ef]
  have hs5 := set2 (c1 := .lst []) (c2 := .ins (rC K) (rdF (bC K) b reached A ⟨xr, st, hd⟩)) hhd hs4 xst.symm
  have hh5 := (setB_ne (B := setB B4 hd (.lst [])) (k := .ins (rC K) (rdF (bC K) b reached A ⟨xr, st, hd⟩)) xhd.symm).trans setB_same
  have hx5 := setB_same (B := setB B4 hd (.lst [])) (a := xr) (k := .ins (rC K) (rdF (bC K) b reached A ⟨xr, st, hd⟩))
  generalize setB (setB B4 hd (.lst [])) xr (.ins (rC K) (rdF (bC K) b reached A ⟨xr, st, hd⟩)) = B5 at hs5 hh5 hx5 ⊢
  refine ss_cons <| s_for (fun k ls' w' => ∃ Br Bal f s heads sts y3, w' = bagW K P wo Br (bagW K P wo Bal Wd.nil) ∧ RedB (rC K) (aC K) (bC K) b reached Br Bal ⟨xr, st, hd⟩ A f s heads sts ∧ RdI b reached heads sts k ∧ ls' = [.im (.raw (.ref xr)), .im (bookD (bC K) b), .im (.int 20000), y3]) PassesOwn.never rfl <| i_list <| pv_fldW <| pv_nm 0 rfl ⟨xr, B5, _, _, _, _, rfl, rfl, hx5, c.c_Reduction, c.n_Reduction_reached, rfl, _, rfl, ⟨B5, Bal, f, s, [], [], _, rfl, ⟨hx5, hs5, hh5, hA, I⟩, ⟨rfl, List.nodup_nil, fun _ z => (nomatch z), fun z => absurd z (Nat.lt_irrefl _), fun _ z => (nomatch z)⟩, rfl⟩, ?_, ?_⟩
  · rintro k d ls' w' hdk ⟨Br, Bal, f, s, heads, sts, y3, rfl, h, J, rfl⟩
    rw [List.getElem?_map] at hdk
    obtain ⟨q, hk, rfl⟩ := Option.map_eq_some_iff.mp hdk
    have hqr := List.mem_of_getElem? hk
    obtain ⟨p, hp, rfl⟩ := hrp.mem q hqr
    have hout := take_out hrp.nd hk
    have hkl : k < reached.length := (List.getElem?_eq_some_iff.mp hk).1
    have lsts : sts.length = k := by
      have := congrArg List.length J.ks
      rw [List.length_map, List.length_take] at this
      omega
    have lhd : heads.length ≤ k := by
      have := nodup_le J.hn J.hr
      rw [List.length_take] at this
      omega
    have et : reached.take (k + 1) = reached.take k ++ [p.1] := by rw [List.take_succ, hk]; rfl
    refine g_nm 3 ?_ sc_Reduction_init.nd
    refine ss_one <| s_expr <| pv_calWm (pl := _) (ok_Reduction_stand c) hr c.c_Reduction c.t_Reduction_stand <| pv_nm 0 rfl ⟨xr, rfl, hasIns_bag h.x rfl, pas_cons <| pv_nm 3 rfl <| pas_nil ⟨_, fun F' => F', Frm.all, b, reached, Br, Bal, ⟨xr, st, hd⟩, A, f, s, heads, sts, p, rfl, rfl, Bk, h, hp, hqr, by rw [J.ks]; exact hout, fun x hx => ?_, by omega, by omega, fun Br' Bal' f' s' heads' v h' so hc => ?_⟩⟩
    · have := List.mem_of_mem_take (J.hr x hx)
      exact ⟨this, hrp.mem x this⟩
    · refine ⟨Br', Bal', f', s', heads', _, _, rfl, h', ⟨?_, ?_, fun x hx => ?_, fun _ => ?_, fun x hx => ?_⟩, rfl⟩
      · rw [List.map_append, J.ks, et]; rfl
      · rcases hc with ⟨e, _⟩ | e
        · rw [e]; exact J.hn
        · rw [e]
          exact List.nodup_append.mpr ⟨J.hn, by simp, fun a ha c hc e => hout (by rw [List.mem_singleton] at hc; rw [← hc, ← e]; exact J.hr a ha)⟩
      · rw [et]
        rcases hc with ⟨e, _⟩ | e
        · rw [e] at hx; exact List.mem_append_left _ (J.hr x hx)
        · rw [e] at hx
          rcases List.mem_append.mp hx with z | z
          · exact List.mem_append_left _ (J.hr x z)
          · exact List.mem_append_right _ z
      · rcases hc with ⟨e, en⟩ | e
        · rw [e]
          have hk0 : 0 < k := by
            cases heads with
            | nil => exact absurd rfl en
            | cons y l => rw [List.length_cons] at lhd; omega
          exact J.h0 hk0
        · by_cases hk0 : 0 < k
          · obtain ⟨h1, h2⟩ := J.h0 hk0
            rw [e]
            exact ⟨List.mem_append_left _ h1, by rw [List.getElem?_append_left (List.getElem?_eq_some_iff.mp h2).1]; exact h2⟩
          · have k0 : k = 0 := by omega
            subst k0
            have e0 : heads = [] := List.length_eq_zero_iff.mp (by omega)
            have e1 : p.1 = b.st := by
              have := hrp.hd
              rw [hk] at this
              exact Option.some.inj this
            rw [e, e0, e1]
            exact ⟨List.mem_cons_self, rfl⟩
      · rcases List.mem_append.mp hx with z | z
        · refine (J.so x z).more fun y hy => ?_
          rcases hc with ⟨e, _⟩ | e
          · rw [e]; exact hy
          · rw [e]; exact List.mem_append_left _ hy
        · rw [List.mem_singleton] at z; rw [z]; exact so
  · rintro ls' w' ⟨Br, Bal, f, s, heads, sts, y3, rfl, h, J, rfl⟩
    rw [List.length_map] at J
    exact ss_le un_bag (ss_nil (hR (unB Br Bal) ⟨xr, st, hd⟩ A reached heads sts rfl hrp J (un_l h.x) (un_l h.st) (un_l h.hd)))
end FH
set_option Elab.async false
set_option linter.all false
set_option maxRecDepth 100000
set_option maxHeartbeats 4000000
namespace FH
open PySem PySem.Spec PyProof.Rows L2 Pd Fw
open Evl (Ex)
variable {P : Program} {wo : World} {K : PySem.W.Frag} {mg : Str → Option Value} {base : Heap}
/-! the Reduction that is made -/
noncomputable def rdD (Cr Cb : Addr) (b : Pt) (reached heads : List Str) (sts : Sts) (xa : Addr) : D := .ins Cr [("book", bookD Cb b), ("alikes", .raw (.ref xa)), ("reached", .lst (reached.map .str)), ("kept", .dk (keptD b reached)), ("stands", .dk (stsD sts)), ("heads", .lst (heads.map .str))]
structure RdOk (b : Pt) (reached heads : List Str) (sts : Sts) : Prop where
  bk : BkOk b
  rp : RP b reached reached.length
  rd : RdI b reached heads sts reached.length
theorem RdOk.red {b : Pt} {reached heads : List Str} {sts : Sts} (h : RdOk b reached heads sts) : RedOk b reached heads (stOf sts) := h.rd.red h.rp
theorem RdOk.len {b : Pt} {reached heads : List Str} {sts : Sts} (h : RdOk b reached heads sts) : heads.length ≤ 7 := by
  have h1 := nodup_le h.rd.hn h.rd.hr
  rw [List.take_length] at h1
  have h2 := h.rp.len
  have h3 := h.bk.n7
  omega
def pN (n : Nat) : Str := ("p" : Str) ++ toString ((n : Nat) : Int)
theorem pN_ok : ∀ n, n < 9 → nameB (pN n) = true := by decide +kernel
theorem pN_inj : ∀ n, n < 9 → ∀ m, m < 9 → pN n = pN m → n = m := by decide +kernel
theorem pN_one : pN 1 = "p1" := by decide +kernel
theorem pN_len : ∀ n, n < 9 → (pN n).length ≤ 1000 := by decide +kernel
theorem pN_log : ∀ n : Nat, n < 9 → (((n : Nat) : Int)).natAbs.log2 < 1920 := by decide +kernel
def nmR (heads : List Str) (q : Str) : Str := pN (heads.idxOf q + 1)
theorem nmR_inj {heads : List Str} (h : heads.length ≤ 7) : ∀ x ∈ heads, ∀ y ∈ heads, nmR heads x = nmR heads y → x = y := fun x hx y hy e => by
  have h1 := List.idxOf_lt_length_of_mem hx
  have h2 := List.idxOf_lt_length_of_mem hy
  have h3 := pN_inj _ (by omega) _ (by omega) e
  have h4 := (idx_spec hx).1
  have h5 := (idx_spec hy).1
  rw [show heads.idxOf x = heads.idxOf y by omega, h5] at h4
  exact (Option.some.inj h4).symm
theorem nmR_ok {heads : List Str} (h : heads.length ≤ 7) : ∀ x ∈ heads, nameB (nmR heads x) = true := fun x hx => by
  have h1 := List.idxOf_lt_length_of_mem hx
  exact pN_ok _ (by omega)
theorem nmR_st {b : Pt} {reached heads : List Str} {sts : Sts} (h : RdOk b reached heads sts) : nmR heads b.st = "p1" := by
  have hl : 0 < reached.length := (List.getElem?_eq_some_iff.mp h.rp.hd).1
  obtain ⟨h1, h2⟩ := h.rd.h0 hl
  have h3 := (idx_spec h1).1
  have h4 : heads.idxOf b.st = 0 := nodup_at h.rd.hn h3 h2
  unfold nmR
  rw [h4]; exact pN_one
/-! name -/
def S_Rname (Cr Cb : Addr) (ds : List D) (R : D → Prop) : Prop := ∃ (b : Pt) (reached heads : List Str) (sts : Sts) (xa : Addr) (q : Str), ds = [rdD Cr Cb b reached heads sts xa, .str q] ∧ heads.length ≤ 7 ∧ q ∈ heads ∧ R (.str (nmR heads q))
theorem ok_Reduction_name (c : Ctx K mg) : Cal P wo K mg base 1 (He.ma K (rC K) "name") ["self", "head"] [] (spD K (S_Rname (rC K) (bC K))) := by
  refine cal0 c.f_Reduction_name sc_Reduction_name (fun ds R ⟨_, _, _, _, _, _, e, _⟩ => by rw [e]; rfl) (fun _ _ _ _ _ _ us hl => match us, hl with | [_, _], _ => rfl) fun cdv A0 outer s0 H E hr ds R hS => ?_
  obtain ⟨b, reached, heads, sts, xa, q, rfl, h7, hq, hR⟩ := hS
  have h1 := List.idxOf_lt_length_of_mem hq
  have e1 : ((heads.idxOf q : Nat) : Int) + 1 = ((heads.idxOf q + 1 : Nat) : Int) := by omega
  refine ss_one <| s_ret <| pv_fstr (pv_add <| pv_idxS <| pq_pv <| pv_fld <| pv_nm 0 rfl ⟨_, _, _, rfl, c.c_Reduction, c.n_Reduction_heads, rfl, _, rfl, pv_nm 1 rfl ⟨heads, q, rfl, rfl, hq, pv_int ⟨_, 1, rfl, rfl, _, rfl, ?_, ?_, ?_⟩⟩⟩) (by decide)
  · rw [e1]; exact pN_log _ (by omega)
  · rw [e1]; exact pN_len _ (by omega)
  · rw [e1]; exact hR
/-! rule -/
theorem idx_ints {l : List Nat} {x : Nat} : (l.map fun n : Nat => (n : Int)).idxOf (x : Int) = l.idxOf x := by
  induction l with
  | nil => rfl
  | cons y l ih =>
    rw [List.map_cons, List.idxOf_cons, List.idxOf_cons, ih]
    by_cases e : y = x
    · subst e; simp
    · have b1 : (y == x) = false := by simpa using e
      have b2 : ((y : Int) == (x : Int)) = false := by
        have : (y : Int) ≠ (x : Int) := fun z => e (Int.ofNat.inj z)
        simpa using this
      rw [b1, b2]
theorem sts_val {sts : Sts} {q : Str} {v : Str × Mg} (h : look sts q = some v) : valD (stsD sts) (.inr q) = some (stD1 v) := by
  have := valD_map (f := fun q : Str => (Sum.inr q : Key)) (g := stD1) inrS_inj (l := sts) (k := q)
  unfold stsD
  rw [this, h]; rfl
def S_Rrule (Cr Cb : Addr) (ds : List D) (R : D → Prop) : Prop := ∃ (b : Pt) (reached heads : List Str) (sts : Sts) (xa : Addr) (p : Pl) (w : Str) (k : Nat), ds = [rdD Cr Cb b reached heads sts xa, .str p.1, .str w, .int (k : Nat)] ∧ RdOk b reached heads sts ∧ p ∈ b.pl ∧ p.1 ∈ heads ∧ w ∈ b.ws ∧ k ≤ (keptOf b p.1).length ∧
  R (rvD (lrule b (stOf sts) p.1 w k))
theorem ok_Reduction_rule (c : Ctx K mg) : Cal P wo K mg base 4 (He.ma K (rC K) "rule") ["self", "head", "word", "case"] [] (spD K (S_Rrule (rC K) (bC K))) := by
  refine cal0 c.f_Reduction_rule sc_Reduction_rule (fun ds R ⟨_, _, _, _, _, _, _, _, e, _⟩ => by rw [e]; rfl) (fun _ _ _ _ _ _ us hl => match us, hl with | [_, _, _, _], _ => rfl) fun cdv A0 outer s0 H E hr ds R hS => ?_
  obtain ⟨b, reached, heads, sts, xa, p, w, k, rfl, ok, hp, hh, hw, hk, hR⟩ := hS
  have hu := hu_of hr
  have W := ok.bk.w
  have Rd := ok.red
  have hpr := Rd.h2 _ hh
  have sl := slots_of W.pn hp
  have l3 := kept_len (b := b) (p := p.1)
  have s3 := ok.bk.s3 p hp
  refine ss_cons <| s_set 4 (pv_dget hu <| pv_fld <| pv_nm 0 rfl ⟨_, _, _, rfl, c.c_Reduction, c.n_Reduction_kept, rfl, pv_nm 1 rfl ⟨_, .inr p.1, _, rfl, rfl, kept_val hpr, ?_⟩⟩) sc_Reduction_rule.nd
  obtain ⟨q, hq, eq, okv, ql, S, hs⟩ := lrule_ok W Rd hp hh hw hk
  have ho := oldOf_ok hk
  have hold : oldOf b p.1 k ≤ p.2.1 := by
    rcases ho with z | z
    · omega
    · have := (kept_mem.mp z.2.1).2.1; omega
  refine ss_cons <| s_set 5 (PV.imp (R := fun d w' => w' = Wd.nil ∧ d = .int (oldOf b p.1 k : Nat)) ?_ fun d w' ⟨e1, e2⟩ => ?_) sc_Reduction_rule.nd
  · refine pv_ifx <| pb_c <| c_gt <| pv_nm 3 rfl <| pv_int ⟨_, _, rfl, rfl, _, rfl, fun h => ?_, fun h => ?_⟩
    · have h := of_decide_eq_true h
      rcases ho with z | ⟨z1, z2, z3⟩
      · omega
      · exact pv_ixL <| pq_pv <| pv_nm 4 rfl ⟨_, rfl, pv_sub <| pv_nm 3 rfl <| pv_int ⟨_, 1, rfl, rfl, _, .int (oldOf b p.1 k : Nat), rfl, by
          rw [show (k : Int) - 1 = ((k - 1 : Nat) : Int) by omega]
          exact atI_nat (by unfold natsD; rw [List.getElem?_map, z3]; rfl), rfl, rfl⟩⟩
    · have h := of_decide_eq_false h
      rcases ho with z | z
      · exact pv_int ⟨rfl, by rw [z.2]; rfl⟩
      · omega
  subst e1 e2
  obtain ⟨hv, _⟩ := W.rule hp hw hold
  generalize hve : b.rule p.1 w (oldOf b p.1 k) = v at *
  refine ss_cons <| s_asg <| pv_calm (pl := _) (ok_Book_rule c) (hr.mono (by decide)) c.c_Book c.t_Book_rule <| pv_fld <| pv_nm 0 rfl ⟨_, _, _, rfl, c.c_Reduction, c.n_Reduction_book, rfl, _, rfl, rfl, pas_cons <| pv_nm 1 rfl <| pas_cons <| pv_nm 2 rfl <| pas_cons <| pv_nm 5 rfl <| pas_nil ⟨b, p, w, _, v, rfl, W.pn, hp, hw, hold, hv, g_tup (.tup _) (gs_cons (g_nm 6 (gs_cons (g_nm 7 (gs_nil ?_) sc_Reduction_rule.nd)) sc_Reduction_rule.nd)) rfl⟩⟩
  have hqk : q.1 ∈ sts.map (·.1) := by
    rw [ok.rd.ks, List.take_length, eq, ← hve]
    exact Rd.r4 p.1 hpr w hw _ (by rw [sl]; exact hold)
  obtain ⟨z, hz⟩ := look_some hqk
  have hst : stOf sts q.1 = z := by unfold stOf; rw [hz]; rfl
  have hlr : lrule b (stOf sts) p.1 w k = (z.1, z.2.map (newSrc b p.1 v.2)) := by
    unfold lrule
    rw [hve, ← eq, hst]
  rw [hst] at hs S
  obtain ⟨x1, x2, T⟩ := S.tr
  refine ss_cons <| s_asg <| pv_dget hu <| pv_fld <| pv_nm 0 rfl ⟨_, _, _, rfl, c.c_Reduction, c.n_Reduction_stands, rfl, pv_nm 6 rfl ⟨_, .inr q.1, stD1 z, rfl, by rw [eq]; rfl, sts_val hz, g_tup (.tup _) (gs_cons (g_nm 8 (gs_cons (g_nm 9 (gs_nil ?_) sc_Reduction_rule.nd)) sc_Reduction_rule.nd)) rfl⟩⟩
  have hzl : z.2.length ≤ 3 := by
    have : z.2.length ≤ x1.2.1 := T.mt.len
    have h3 := ok.bk.s3 x1 T.hp
    omega
  have hvl : ∀ pr ∈ z.2, (v.2.map fun n : Nat => D.int (n : Nat))[pr.2 - 1]? = some (.int (v.2.getD (pr.2 - 1) 0 : Nat)) ∧ 1 ≤ pr.2 := fun pr hpr => by
    obtain ⟨u, a1, a2, _⟩ := hs pr hpr
    rw [List.getElem?_map, a1, List.getD_eq_getElem?_getD, a1]
    exact ⟨rfl, by omega⟩
  refine ss_cons (s_setLcM 10 [("_", 11), ("slot", 12)] (fun d => match d with | .tup [_, .int j] => .int (v.2.getD (j.toNat - 1) 0 : Nat) | _ => .non) rfl sc_Reduction_rule.nd (blkOk_by (show blkC N_Reduction_rule (defScope s_Reduction_rule) _ _ = true by decide +kernel)) (i_tup <| pv_nm 9 rfl ⟨_, .ftup _, by rw [List.length_map]; omega, fun d2 hd2 => ?_, ?_⟩) rfl)
  · obtain ⟨pr, hpr, rfl⟩ := List.mem_map.mp hd2
    obtain ⟨a1, a2⟩ := hvl pr hpr
    exact fun _ _ _ _ _ => g_tup (.tup _) (gs_cons (g_nm 11 (gs_cons (g_nm 12 (gs_nil (fun _ _ _ _ _ => pv_ixT <| pv_nm 7 rfl <| pv_sub <| pv_nm 12 rfl <| pv_int ⟨_, 1, rfl, rfl, _, _, _, .tup _, rfl, by
      rw [show (pr.2 : Int) - 1 = ((pr.2 - 1 : Nat) : Int) by omega]
      exact atI_nat a1, rfl, rfl⟩)) sc_Reduction_rule.nd)) sc_Reduction_rule.nd)) rfl
  have e2 : (z.2.map Pd.pairD).map (fun d => match d with | .tup [_, .int j] => .int (v.2.getD (j.toNat - 1) 0 : Nat) | _ => .non) = natsD (z.2.map fun pr => v.2.getD (pr.2 - 1) 0) := by unfold natsD; rw [List.map_map, List.map_map]; rfl
  rw [e2]
  have e3 : (natsD (z.2.map fun pr => v.2.getD (pr.2 - 1) 0)).map (fun d => match d with | .int u => if u.toNat = 0 then .int 0 else .int ((keptOf b p.1).idxOf u.toNat + 1 : Nat) | _ => .non) = natsD (z.2.map (newSrc b p.1 v.2)) := by
    unfold natsD
    rw [List.map_map, List.map_map, List.map_map]
    refine List.map_congr_left fun pr _ => ?_
    show (if (v.2.getD (pr.2 - 1) 0 : Nat) = 0 then D.int 0 else .int ((keptOf b p.1).idxOf (v.2.getD (pr.2 - 1) 0) + 1 : Nat)) = .int (newSrc b p.1 v.2 pr : Nat)
    unfold newSrc
    split <;> rfl
  refine ss_fz 10 rfl <| ss_one <| s_ret <| pv_tup <| pas_cons <| pv_nm 8 rfl <| pas_cons <| pv_tupQ c.z_tuple <| pq_pn <| pn_lcM [("source", 13)] (fun d => match d with | .int u => if u.toNat = 0 then .int 0 else .int ((keptOf b p.1).idxOf u.toNat + 1 : Nat) | _ => .non) rfl sc_Reduction_rule.nd (blkOk_by (show blkC N_Reduction_rule (defScope s_Reduction_rule) _ _ = true by decide +kernel)) <| i_list <| pv_nm 10 rfl ⟨_, rfl, by unfold natsD; rw [List.length_map, List.length_map]; omega, fun d2 hd2 => ?_, pas_nil ⟨Nat.le_of_ble_eq_true rfl, ?_⟩⟩
  · obtain ⟨u, hu', rfl⟩ := List.mem_map.mp hd2
    obtain ⟨pr, hpr, rfl⟩ := List.mem_map.mp hu'
    obtain ⟨u, a1, a2, a3, a4, a5⟩ := hs pr hpr
    have eu : v.2.getD (pr.2 - 1) 0 = u := by rw [List.getD_eq_getElem?_getD, a1]; rfl
    rw [eu]
    refine fun _ _ _ _ _ => g_nm 13 (fun _ _ _ _ _ => pv_ifx <| pb_c <| c_gt <| pv_nm 13 rfl <| pv_int ⟨_, _, rfl, rfl, _, rfl, fun h => ?_, fun h => ?_⟩) sc_Reduction_rule.nd
    · have h := of_decide_eq_true h
      have hu0 : u ≠ 0 := by omega
      refine pv_add <| pv_idxI <| pq_pv <| pv_nm 4 rfl ⟨_, rfl, pv_nm 13 rfl ⟨(keptOf b p.1).map fun n : Nat => (n : Int), (u : Int), nats_ints _, rfl, List.mem_map.mpr ⟨u, a4.resolve_left hu0, rfl⟩, pv_int ⟨_, 1, rfl, rfl, rfl, ?_⟩⟩⟩
      rw [idx_ints]
      show _ = (if (u : Nat) = 0 then D.int 0 else .int ((keptOf b p.1).idxOf u + 1 : Nat))
      rw [if_neg hu0]
      congr 1
    · have h := of_decide_eq_false h
      have hu0 : u = 0 := by omega
      subst hu0
      exact pv_int ⟨rfl, rfl⟩
  · rw [e3]
    rw [hlr] at hR
    exact hR
end FH
set_option Elab.async false
set_option linter.all false
set_option maxRecDepth 100000
set_option maxHeartbeats 4000000
namespace FH
open PySem PySem.Spec PyProof.Rows L2 Pd Fw
open Evl (Ex)
variable {P : Program} {wo : World} {K : PySem.W.Frag} {mg : Str → Option Value} {base : Heap}
/-! Reduction.least -/
section
variable (b : Pt) (st : Str → Str × Mg) (nm : Str → Str)
noncomputable def lr3 (hd w : Str) (k : Nat) : Rk × Rv := ((nm hd, w, k), (nm (lrule b st hd w k).1, (lrule b st hd w k).2))
noncomputable def lr2 (hd w : Str) : List (Rk × Rv) := (List.range ((keptOf b hd).length + 1)).map (lr3 b st nm hd w)
noncomputable def lr1 (hd : Str) : List (Rk × Rv) := b.ws.flatMap (lr2 b st nm hd)
theorem lr_all (heads : List Str) : leastRl b heads st nm = heads.flatMap (lr1 b st nm) := rfl
end
def r5 (r : Rk × Rv) : D := rule5D r.1 r.2
def S_Rleast (Cr Cb : Addr) (ds : List D) (R : D → Prop) : Prop := ∃ (b : Pt) (reached heads : List Str) (sts : Sts) (xa : Addr), ds = [rdD Cr Cb b reached heads sts xa] ∧ RdOk b reached heads sts ∧ R (bookD Cb (leastPt b heads (stOf sts) (nmR heads)))
theorem ok_Reduction_least (c : Ctx K mg) : Cal P wo K mg base 6 (He.ma K (rC K) "least") ["self"] [] (spD K (S_Rleast (rC K) (bC K))) := by
  refine cal0 c.f_Reduction_least sc_Reduction_least (fun ds R ⟨_, _, _, _, _, e, _⟩ => by rw [e]; rfl) (fun _ _ _ _ _ _ us hl => match us, hl with | [_], _ => rfl) fun cdv A0 outer s0 H E hr ds R hS => ?_
  obtain ⟨b, reached, heads, sts, xa, rfl, ok, hR⟩ := hS
  have hu := hu_of hr
  have W := ok.bk.w
  have Rd := ok.red
  have h7 := ok.len
  have w3 := W.w3
  have hhd : ∀ x ∈ heads, x ∈ reached ∧ ∃ p ∈ b.pl, p.1 = x ∧ (keptOf b x).length ≤ 3 := fun x hx => by
    have h1 := Rd.h2 x hx
    obtain ⟨p, hp, e⟩ := Rd.r2 x h1
    have h2 := kept_len (b := b) (p := x)
    have h3 := slots_of W.pn hp
    have h4 := ok.bk.s3 p hp
    rw [e] at h3
    exact ⟨h1, p, hp, e, by omega⟩
  refine ss_cons (s_setLcM 1 [("head", 2)] (fun d => match d with | .str q => placeD (nmR heads q, (keptOf b q).length, b.yes q) | _ => .non) rfl sc_Reduction_least.nd (blkOk_by (show blkC N_Reduction_least (defScope s_Reduction_least) _ _ = true by decide +kernel)) (i_list <| pv_fld <| pv_nm 0 rfl ⟨_, _, _, rfl, c.c_Reduction, c.n_Reduction_heads, rfl, _, rfl, by rw [List.length_map]; omega, fun d2 hd2 => ?_, ?_⟩) rfl)
  · obtain ⟨q, hq, rfl⟩ := List.mem_map.mp hd2
    obtain ⟨h1, p, hp, rfl, h2⟩ := hhd q hq
    refine fun _ _ _ _ _ => g_nm 2 (fun _ _ _ _ _ => pv_tup <| pas_cons <| pv_calm (pl := _) (ok_Reduction_name c) (hr.mono (by decide)) c.c_Reduction c.t_Reduction_name <| pv_nm 0 rfl ⟨_, rfl, rfl, pas_cons <| pv_nm 2 rfl <| pas_nil ⟨b, reached, heads, sts, xa, p.1, rfl, h7, hq, pas_cons <| pv_lenQ c.z_len <| pq_pv <| pv_dget hu <| pv_fld <| pv_nm 0 rfl ⟨_, _, _, rfl, c.c_Reduction, c.n_Reduction_kept, rfl, pv_nm 2 rfl ⟨_, .inr p.1, _, rfl, rfl, kept_val h1, _, rfl,
      pas_cons <| pv_calm (pl := _) (ok_Book_says_yes c) (hr.mono (by decide)) c.c_Book c.t_Book_says_yes <| pv_fld <| pv_nm 0 rfl ⟨_, _, _, rfl, c.c_Reduction, c.n_Reduction_book, rfl, _, rfl, rfl, pas_cons <| pv_nm 2 rfl <| pas_nil ⟨b, p, rfl, W.pn, hp, pas_nil ⟨Nat.le_of_ble_eq_true rfl, rfl, ?_⟩⟩⟩⟩⟩⟩⟩) sc_Reduction_least.nd
    show D.tup [.str (nmR heads p.1), .int ((natsD (keptOf b p.1)).length : Nat), .bl p.2.2] = placeD (nmR heads p.1, (keptOf b p.1).length, b.yes p.1)
    rw [yes_of W.pn hp]
    unfold placeD natsD
    rw [List.length_map]
  have e1 : (heads.map D.str).map (fun d => match d with | .str q => placeD (nmR heads q, (keptOf b q).length, b.yes q) | _ => .non) = (leastPl b heads (nmR heads)).map placeD := by unfold leastPl; rw [List.map_map, List.map_map]; rfl
  rw [e1]
  refine ss_fz 1 rfl <| ss_cons (s_setN 3 (pn_lst (pas_nil ⟨Nat.le_of_ble_eq_true rfl, ?_⟩)) sc_Reduction_least.nd)
  have l2 : ∀ x ∈ heads, ∀ w, (lr2 b (stOf sts) (nmR heads) x w).length ≤ 4 := fun x hx w => by
    obtain ⟨_, _, _, _, h2⟩ := hhd x hx
    unfold lr2
    rw [List.length_map, List.length_range]; omega
  have l1 : ∀ x ∈ heads, (lr1 b (stOf sts) (nmR heads) x).length ≤ 12 := fun x hx => by
    have := flatMap_len (lr2 b (stOf sts) (nmR heads) x) 4 b.ws fun w _ => l2 x hx w
    unfold lr1
    omega
  refine ss_cons <| s_for (fun i ls' w' => w' = Wd.nil ∧ ∃ y4 y5 y6 y7 y2, ls' = [.im (rdD (rC K) (bC K) b reached heads sts xa), .im (.lst ((leastPl b heads (nmR heads)).map placeD)), y2, .own (((heads.take i).flatMap (lr1 b (stOf sts) (nmR heads))).map r5), y4, y5, y6, y7]) PassesOwn.never rfl <| i_list <| pv_fld <| pv_nm 0 rfl ⟨_, _, _, rfl, c.c_Reduction, c.n_Reduction_heads, rfl, _, rfl, ⟨rfl, _, _, _, _, _, rfl⟩, ?_, ?_⟩
  · rintro i d ls' w' hd ⟨rfl, y4, y5, y6, y7, y2, rfl⟩
    rw [List.getElem?_map] at hd
    obtain ⟨q, hi, rfl⟩ := Option.map_eq_some_iff.mp hd
    have hq := List.mem_of_getElem? hi
    obtain ⟨h1, p, hp, rfl, h2⟩ := hhd q hq
    have hil : i < heads.length := (List.getElem?_eq_some_iff.mp hi).1
    have la := flatMap_len (lr1 b (stOf sts) (nmR heads)) 12 (heads.take i) fun x hx => l1 x (List.mem_of_mem_take hx)
    rw [List.length_take] at la
    refine g_nm 2 ?_ sc_Reduction_least.nd
    refine ss_one <| s_for (fun j ls' w' => w' = Wd.nil ∧ ∃ y4 y5 y6 y7, ls' = [.im (rdD (rC K) (bC K) b reached heads sts xa), .im (.lst ((leastPl b heads (nmR heads)).map placeD)), .im (.str p.1), .own ((((heads.take i).flatMap (lr1 b (stOf sts) (nmR heads))) ++ (b.ws.take j).flatMap (lr2 b (stOf sts) (nmR heads) p.1)).map r5), y4, y5, y6, y7]) PassesOwn.never rfl <| i_tup <| pv_fld <| pv_fld <| pv_nm 0 rfl ⟨_, _, _, rfl, c.c_Reduction, c.n_Reduction_book, rfl, _, _, _, rfl, c.c_Book, c.n_Book_words, rfl, _, .tup _, ⟨rfl, y4, y5, y6, y7, by simp⟩, ?_, ?_⟩
    · rintro j d ls' w' hd ⟨rfl, y4, y5, y6, y7, rfl⟩
      rw [List.getElem?_map] at hd
      obtain ⟨w, hj, rfl⟩ := Option.map_eq_some_iff.mp hd
      have hw := List.mem_of_getElem? hj
      have hjl : j < b.ws.length := (List.getElem?_eq_some_iff.mp hj).1
      have lb := flatMap_len (lr2 b (stOf sts) (nmR heads) p.1) 4 (b.ws.take j) fun w _ => l2 p.1 hq w
      rw [List.length_take] at lb
      refine g_nm 4 ?_ sc_Reduction_least.nd
      refine ss_one <| s_for (fun k ls' w' => w' = Wd.nil ∧ ∃ y5 y6 y7, ls' = [.im (rdD (rC K) (bC K) b reached heads sts xa), .im (.lst ((leastPl b heads (nmR heads)).map placeD)), .im (.str p.1), .own ((((heads.take i).flatMap (lr1 b (stOf sts) (nmR heads))) ++ ((b.ws.take j).flatMap (lr2 b (stOf sts) (nmR heads) p.1) ++ (List.range k).map (lr3 b (stOf sts) (nmR heads) p.1 w))).map r5), .im (.str w), y5, y6, y7]) PassesOwn.never rfl <| i_range1 c.z_range <| pv_add <| pv_lenQ c.z_len <| pq_pv <| pv_dget hu <| pv_fld <| pv_nm 0 rfl ⟨_, _, _, rfl, c.c_Reduction, c.n_Reduction_kept, rfl, pv_nm 2 rfl ⟨_, .inr p.1, _, rfl, rfl, kept_val h1, _, rfl, pv_int ⟨_, 1, rfl, rfl, (keptOf b p.1).length + 1, by unfold natsD; rw [List.length_map]; simp, by omega, ⟨rfl, y5, y6, y7, by simp⟩, ?_, ?_⟩⟩⟩
      · rintro k d ls' w' hd ⟨rfl, y5, y6, y7, rfl⟩
        obtain ⟨hk, rfl⟩ := rgD_get hd
        have e0 : (0 : Int) + (k : Nat) = ((k : Nat) : Int) := by omega
        rw [e0]
        obtain ⟨q2, hq2, eq2, _, _, S2, _⟩ := lrule_ok W Rd hp hq hw (show k ≤ (keptOf b p.1).length by omega)
        have hgh : (lrule b (stOf sts) p.1 w k).1 ∈ heads := by
          unfold lrule
          rw [← eq2]; exact S2.hd
        refine g_nm 5 ?_ sc_Reduction_least.nd
        refine ss_cons <| s_asg <| pv_calm (pl := _) (ok_Reduction_rule c) (hr.mono (by decide)) c.c_Reduction c.t_Reduction_rule <| pv_nm 0 rfl ⟨_, rfl, rfl, pas_cons <| pv_nm 2 rfl <| pas_cons <| pv_nm 4 rfl <| pas_cons <| pv_nm 5 rfl <| pas_nil ⟨b, reached, heads, sts, xa, p, w, k, rfl, ok, hp, hq, hw, by omega, g_tup (.tup _) (gs_cons (g_nm 6 (gs_cons (g_nm 7 (gs_nil ?_) sc_Reduction_least.nd)) sc_Reduction_least.nd)) rfl⟩⟩
        refine ss_one <| s_append 3 rfl <| pv_tup <| pas_cons <| pv_calm (pl := _) (ok_Reduction_name c) (hr.mono (by decide)) c.c_Reduction c.t_Reduction_name <| pv_nm 0 rfl ⟨_, rfl, rfl, pas_cons <| pv_nm 2 rfl <| pas_nil ⟨b, reached, heads, sts, xa, p.1, rfl, h7, hq, pas_cons <| pv_nm 4 rfl <| pas_cons <| pv_nm 5 rfl <| pas_cons <| pv_calm (pl := _) (ok_Reduction_name c) (hr.mono (by decide)) c.c_Reduction c.t_Reduction_name <| pv_nm 0 rfl ⟨_, rfl, rfl, pas_cons <| pv_nm 6 rfl <| pas_nil ⟨b, reached, heads, sts, xa, (lrule b (stOf sts) p.1 w k).1, rfl, h7, hgh, pas_cons <| pv_nm 7 rfl <| pas_nil ⟨Nat.le_of_ble_eq_true rfl, ?_, rfl, .im (.int (k : Nat)), .im (.str (lrule b (stOf sts) p.1 w k).1), .im (.tup (natsD (lrule b (stOf sts) p.1 w k).2)), ?_⟩⟩⟩⟩⟩
        · rw [List.length_map, List.length_append, List.length_append, List.length_map, List.length_range]
          omega
        · rw [List.range_succ, List.map_append, List.map_append, List.map_append, List.map_append, List.map_append, List.map_append]
          simp only [List.map_append, List.append_assoc]
          rfl
      · rintro ls' w' ⟨rfl, y5, y6, y7, rfl⟩
        refine ⟨rfl, .im (.str w), y5, y6, y7, ?_⟩
        rw [rgD_len, flatMap_take _ hj]; rfl
    · rintro ls' w' ⟨rfl, y4, y5, y6, y7, rfl⟩
      refine ⟨rfl, y4, y5, y6, y7, .im (.str p.1), ?_⟩
      rw [List.length_map, List.take_length, flatMap_take _ hi]; rfl
  · rintro ls' w' ⟨rfl, y4, y5, y6, y7, y2, rfl⟩
    rw [List.length_map, List.take_length]
    refine ss_fz 3 rfl <| ss_one <| s_ret <| pv_book c hr <| pks_cons <| pv_fld <| pv_fld <| pv_nm 0 rfl ⟨_, _, _, rfl, c.c_Reduction, c.n_Reduction_book, rfl, _, _, _, rfl, c.c_Book, c.n_Book_words, rfl, pks_cons <| pv_nm 1 rfl <| pks_cons <| pv_str <| pks_cons <| pv_nm 3 rfl <| pks_nil ⟨leastPt b heads (stOf sts) (nmR heads), _, ?_, .inl rfl, least_wf W Rd (nmR_inj h7) (nmR_ok h7), hR⟩⟩
    show _ = [strsD b.ws, .lst ((leastPl b heads (nmR heads)).map placeD), .str (nmR heads b.st), .lst ((heads.flatMap (lr1 b (stOf sts) (nmR heads))).map r5)]
    rw [nmR_st ok]
end FH
set_option Elab.async false
set_option linter.all false
set_option maxRecDepth 100000
set_option maxHeartbeats 4000000
namespace FH
open PySem PySem.Spec PyProof.Rows L2 Pd Fw
open Evl (Ex)
variable {P : Program} {wo : World} {K : PySem.W.Frag} {mg : Str → Option Value} {base : Heap}
theorem red_melt {B : Bag} {r : RdA} {A : AlA} {Cr Cb : Addr} {b : Pt} {reached heads : List Str} {sts : Sts} (hx : B r.xr = some (.ins Cr (rdF Cb b reached A r))) (hs : B r.st = some (.dk (stsD sts))) (hh : B r.hd = some (.lst (heads.map .str))) : Melt K P wo B r.xr (rdD Cr Cb b reached heads sts A.xa) := fun c H0 H e h => by
  obtain ⟨m0, hc⟩ := Mlt.start e h
  have xs := cell_ne hx hs (fun z => nomatch z)
  have xh := cell_ne hx hh (fun z => nomatch z)
  have sh := cell_ne hs hh (fun z => nomatch z)
  obtain ⟨H1, m1, e1, r1⟩ := m0.one hc hs (fun z => nomatch z) (m0.cell r.st _ hs) rfl
  obtain ⟨H2, m2, e2, r2⟩ := m1.one hc hh (fun z => sh (List.mem_singleton.mp z).symm) (m1.cell r.hd _ hh) rfl
  have x1 : CellOk K P wo H2 H r.xr (.ins Cr [("book", bookD Cb b), ("alikes", .raw (.ref A.xa)), ("reached", .lst (reached.map .str)), ("kept", .dk (keptD b reached)), ("stands", .dk (stsD sts)), ("heads", .lst (heads.map .str))]) := by
    obtain ⟨dx, gs, g1, g2, g3⟩ := m2.cell r.xr _ hx
    refine ⟨dx, gs, g1, g2, ?_⟩
    have q1 := rpl_swap (r1.ex e2) [bookD Cb b, .raw (.ref A.xa), .lst (reached.map .str), .dk (keptD b reached)] (post := [.raw (.ref r.hd)]) g3
    exact rpl_swap r2 [bookD Cb b, .raw (.ref A.xa), .lst (reached.map .str), .dk (keptD b reached), .dk (stsD sts)] (post := []) q1
  obtain ⟨H3, m3, e3, r3⟩ := m2.one hc hx (fun z => by
    rcases List.mem_cons.mp z with z | z
    · exact xh z
    · exact xs (List.mem_singleton.mp z)) x1 rfl
  exact ⟨H3, m3.e0, m3.e1, m3.new, r3⟩
section
variable {X : Cx} {e : Expr} {es : List Expr} {w : Wd} {ls : List L} {R : D → Wd → Prop} {pos p : Pos} {k : Nat} {f : Addr} {ps : List Str} {S : List D → (D → Prop) → Prop} {dvs : List V} {dds : List D} {x : Str}
/-- f(e, ..) with defaults that lack -/
theorem pv_calD (c : Cal X.prog X.w X.K X.mg X.base k f ps dvs (spD X.K S)) (hr : Room k X.A) (hm : X.mg x = some (.ref f)) (hdd : ∀ H, RpL X.K H dvs dds) (h : PAs X (e :: es) w ls fun ds w1 => S (ds ++ dds) fun d => R d w1) (hg : Gl X x := by rfl) (hdb : (x == ("__debug__" : Str)) = false := by decide)
    (he : starEach (e :: es) X.env = (false, eval e X.env) :: starEach es X.env := by rfl) (hpl : (backTo pos (starEach es X.env)).any (·.1) = false := by rfl) : PV X (.Call (.Name x p) (e :: es) [] pos) w ls R := by
  obtain ⟨fd, ds, F, hb, hd, kp⟩ := c
  exact pv_call (dds := dds) F hr hm kp hb hd pass0 hdd h hg hdb he hpl
end
/-! least -/
def S_least (C : Addr) (ds : List D) (R : D → Prop) : Prop := ∃ b : Pt, ds = [bookD C b, .int 20000] ∧ BkOk b ∧ ∀ (reached heads : List Str) (sts : Sts), RdOk b reached heads sts → R (bookD C (leastPt b heads (stOf sts) (nmR heads)))
theorem ok_least (c : Ctx K mg) : Cal P wo K mg base 11 (He.ga K "least") ["book", "limit"] [.int 20000] (spD K (S_least (bC K))) := by
  obtain ⟨fd, F⟩ := c.f_least
  obtain ⟨ds0, hv, hb⟩ := F.binds0 1 (by simp) rfl (ps := ["book", "limit"]) (fun D doc pm an cdv ct us ks h1 h2 => match us, ks, h1, h2 with | [_], [_], _, _ => ⟨_, _, _, _, _, _, rfl, rfl, rfl⟩)
  refine ⟨fd, ds0, fn_pure F sc_least (fun ds R ⟨_, e, _⟩ => by rw [e]; rfl) fun cdv A outer s H E hr ds R hS => ?_, hb, hv, F.kp⟩
  obtain ⟨b, rfl, Bk, hR⟩ := hS
  refine ss_one <| s_ret <| pv_calm0 (pl := _) (ok_Reduction_least c) (hr.mono (by decide)) c.c_Reduction c.t_Reduction_least <| pv_calmm (ok_Reduction_init c) c.m_Reduction hr c.g_Reduction <| pas_cons <| pv_nm 0 rfl <| pas_cons <| pv_nm 1 rfl <| pas_nil fun xr => ⟨xr, b, rfl, rfl, Bk, fun B r A reached heads sts er hrp hrd hx hs hh => ⟨rfl, B, rdD (rC K) (bC K) b reached heads sts A.xa, rfl, ?_, ?_⟩⟩
  · subst er
    exact red_melt hx hs hh
  · exact ⟨_, rfl, rfl, b, reached, heads, sts, A.xa, rfl, ⟨Bk, hrp, hrd⟩, hR reached heads sts ⟨Bk, hrp, hrd⟩⟩
/-! remembered -/
def S_remembered (C : Addr) (ds : List D) (R : D → Prop) : Prop := ∃ (b : Pt) (row : Rws), ds = [bookD C b, rowD row, .int 20000] ∧ BkOk b ∧ row.length ≤ 1000 ∧ (∀ r ∈ row, r.1 ∈ b.ws ∧ nameB r.2 = true) ∧
  ∀ ns : List Str, ns.Nodup → (∀ n, n ∈ ns ↔ ∃ a ∈ keptOf b (b.run (b.st, []) row).1, (b.run (b.st, []) row).2[a - 1]? = some n) → R (.lst (ns.map .str))
theorem ok_remembered (c : Ctx K mg) : Cal P wo K mg base 8 (He.ga K "remembered") ["book", "row", "limit"] [.int 20000] (spD K (S_remembered (bC K))) := by
  obtain ⟨fd, F⟩ := c.f_remembered
  obtain ⟨ds0, hv, hb⟩ := F.binds0 2 (by simp) rfl (ps := ["book", "row", "limit"]) (fun D doc pm an cdv ct us ks h1 h2 => match us, ks, h1, h2 with | [_, _], [_], _, _ => ⟨_, _, _, _, _, _, rfl, rfl, rfl⟩)
  refine ⟨fd, ds0, fn_pure F sc_remembered (fun ds R ⟨_, _, e, _⟩ => by rw [e]; rfl) fun cdv A outer s H E hr ds R hS => ?_, hb, hv, F.kp⟩
  obtain ⟨b, row, rfl, Bk, hrl, hrow, hR⟩ := hS
  have W := Bk.w
  have hs := Held.run W (held_start (α := Str) W) (row := row) fun r hr => (hrow r hr).1
  refine ss_cons <| s_asg <| pv_cal (ok_run c) (hr.mono (by decide)) c.g_run <| pas_cons <| pv_nm 0 rfl <| pas_cons <| pv_nm 1 rfl <| pas_nil ⟨b, row, rfl, W, hrl, hrow, g_tup (.tup _) (gs_cons (g_nm 3 (gs_cons (g_nm 4 (gs_nil ?_) sc_remembered.nd)) sc_remembered.nd)) rfl⟩
  generalize hst : b.run (b.st, []) row = st at *
  obtain ⟨p, hp, ep, hl⟩ := hs.pl
  obtain ⟨st1, h⟩ := st
  have ep : p.1 = st1 := ep
  subst ep
  have hl : h.length = p.2.1 := hl
  have sl := slots_of W.pn hp
  have s3 := Bk.s3 p hp
  have l3 := kept_len (b := b) (p := p.1)
  refine ss_cons <| s_set 5 (pv_calmk (ok_Alikes_init c) c.m_Alikes (hr.mono (by decide)) c.g_Alikes <| pas_cons <| pv_nm 0 rfl <| pas_cons <| pv_nm 2 rfl <| pas_nil fun xa => ⟨xa, b, rfl, rfl, fun Bal A eA hA => ⟨rfl, ?_⟩⟩) sc_remembered.nd
  subst eA
  have hka : ∀ a ∈ keptOf b p.1, 1 ≤ a ∧ a - 1 < h.length ∧ (h.map D.str)[a - 1]? = some (.str (h.getD (a - 1) Str.empty)) := fun a ha => by
    obtain ⟨k1, k2, _⟩ := kept_mem.mp ha
    have hlt : a - 1 < h.length := by omega
    refine ⟨k1, hlt, ?_⟩
    rw [List.getElem?_map, List.getElem?_eq_getElem hlt, List.getD_eq_getElem?_getD, List.getElem?_eq_getElem hlt]; rfl
  have ek : (natsD (keptOf b p.1)).map (fun d => match d with | D.int a => D.str (h.getD (a.toNat - 1) Str.empty) | _ => D.non) = ((keptOf b p.1).map fun a => h.getD (a - 1) Str.empty).map D.str := by
    unfold natsD
    rw [List.map_map, List.map_map]; rfl
  refine ss_cons (s_setN 6 (pn_lcM [("slot", 7)] (fun d => match d with | .int a => .str (h.getD (a.toNat - 1) Str.empty) | _ => .non) rfl sc_remembered.nd (blkOk_by (show blkC N_remembered (defScope s_remembered) _ _ = true by decide +kernel)) (i_list <| pv_calWm (pl := _) (ok_Alikes_kept_slots c) hr c.c_Alikes c.t_Alikes_kept_slots <| pv_nm 5 rfl ⟨A.xa, rfl, hasIns_sep (hasIns_bag hA.x rfl), pas_cons <| pv_nm 3 rfl <| pas_nil ⟨bagW K P wo Bal Wd.nil, _, Frm.sepL, b, A, _, _, Bal, p, rfl, rfl, hA, W, Bk.f, InvA.empty, hp, fun B' f' s' h' I' => ⟨_, rfl, by unfold natsD; rw [List.length_map]; omega, fun d2 hd2 => ?_, ?_⟩⟩⟩)) sc_remembered.nd)
  · obtain ⟨a, ha, rfl⟩ := List.mem_map.mp hd2
    obtain ⟨a1, a2, a3⟩ := hka a ha
    exact fun _ _ _ _ _ => g_nm 7 (fun _ _ _ _ _ => pv_ixT <| pv_nm 4 rfl <| pv_sub <| pv_nm 7 rfl <| pv_int ⟨_, 1, rfl, rfl, _, _, _, .ftup _, rfl, by
      rw [show (a : Int) - 1 = ((a - 1 : Nat) : Int) by omega]
      exact atI_nat a3, rfl, rfl⟩) sc_remembered.nd
  rw [ek]
  refine ss_fz 6 rfl <| ss_one <| s_ret <| pv_pn <| pn_lcF [("name", 8)] (fun d => match d with | .str n => if n ∈ (keptOf b p.1).map (fun a => h.getD (a - 1) Str.empty) then some (.str n) else none | _ => none) rfl sc_remembered.nd (blkOk_by (show blkC N_remembered (defScope s_remembered) _ _ = true by decide +kernel)) <| i_list <| pv_cal (ok_names_of c) (hr.mono (by decide)) c.g_names_of <| pas_cons <| pv_nm 1 rfl <| pas_nil ⟨row, rfl, hrl, fun r hr => (hrow r hr).2, fun ys ynd yh => ⟨_, rfl, ?_, fun d2 hd2 => ?_, ?_⟩⟩
  · rw [List.length_map]
    have := nodup_le ynd (m := row.map (·.2)) fun x hx => (yh x).mp hx
    rw [List.length_map] at this
    omega
  · obtain ⟨n, hn, rfl⟩ := List.mem_map.mp hd2
    refine fun _ _ _ _ _ => g_nm 8 (fun _ _ _ _ _ => t_one <| pb_c <| c_inL <| pv_nm 8 rfl <| pq_pv <| pv_nm 6 rfl ⟨_, rfl, _, .str n _, _, rfl, rfl, fun e => ?_, fun e => ?_⟩) sc_remembered.nd
    · have e := of_decide_eq_true e
      exact fun _ _ _ _ _ => pv_nm 8 rfl ⟨rfl, by simp only [if_pos e]⟩
    · have e := of_decide_eq_false e
      simp only [if_neg e]
  · have er : (ys.map D.str).filterMap (fun d => match d with | D.str n => if n ∈ (keptOf b p.1).map (fun a => h.getD (a - 1) Str.empty) then some (D.str n) else none | _ => none) = (ys.filter fun n => decide (n ∈ (keptOf b p.1).map fun a => h.getD (a - 1) Str.empty)).map D.str := by
      clear ynd yh
      induction ys with
      | nil => rfl
      | cons y ys ih =>
        rw [List.map_cons, List.filterMap_cons, List.filter_cons, ih]
        by_cases e : y ∈ (keptOf b p.1).map (fun a => h.getD (a - 1) Str.empty)
        · simp only [if_pos e, decide_eq_true e, if_true, List.map_cons]
        · simp only [if_neg e, decide_eq_false e]
          rfl
    rw [er]
    refine hR _ (ynd.filter _) fun n => ?_
    rw [List.mem_filter, decide_eq_true_eq, List.mem_map]
    constructor
    · rintro ⟨_, a, ha, e⟩
      obtain ⟨a1, a2, _⟩ := hka a ha
      refine ⟨a, ha, ?_⟩
      rw [List.getD_eq_getElem?_getD, List.getElem?_eq_getElem a2] at e
      rw [List.getElem?_eq_getElem a2]
      exact congrArg some e
    · rintro ⟨a, ha, e⟩
      refine ⟨(yh n).mpr ?_, a, ha, by rw [List.getD_eq_getElem?_getD, show h[a - 1]? = some n from e]; rfl⟩
      have := run_names (b := b) row (b.st, []) n (by rw [hst]; exact List.mem_of_getElem? e)
      exact this.resolve_left fun z => nomatch z
end FH
set_option Elab.async false
set_option linter.all false
set_option maxRecDepth 100000
set_option maxHeartbeats 4000000
namespace Fw
open PySem PySem.Spec PyProof.Rows L2 Pd
theorem norm_keys (b : Pt) : (FH.Pt.norm b).rl.map (·.1) = b.asked := by
  show ((b.asked.map fun k : Rk => (k, b.rule k.1 k.2.1 k.2.2)).map (fun r : Rk × Rv => r.1)) = _
  rw [List.map_map]
  exact List.map_id _
theorem norm_rule {b : Pt} (W : WF b) (p w : Str) (k : Nat) : (FH.Pt.norm b).rule p w k = b.rule p w k := by
  have hk := norm_keys b
  unfold Pt.rule
  by_cases h : (p, w, k) ∈ b.asked
  · have : look (FH.Pt.norm b).rl (p, w, k) = some (b.rule p w k) := look_of (by rw [hk]; exact asked_nd W.wn W.pn) (List.mem_map.mpr ⟨_, h, rfl⟩)
    rw [this]; rfl
  · have h1 : look (FH.Pt.norm b).rl (p, w, k) = none := look_none.mpr (by rw [hk]; exact h)
    have h2 : look b.rl (p, w, k) = none := look_none.mpr fun z => h ((W.ka _).mp z)
    rw [h1, h2]
theorem norm_wf {b : Pt} (W : WF b) : WF (FH.Pt.norm b) := by
  have hk := norm_keys b
  refine ⟨W.w1, W.w3, W.wn, W.wv, W.p7, W.pn, W.pv, W.ps, W.st, ?_, ?_, ?_⟩
  · rw [hk]; exact asked_nd W.wn W.pn
  · intro k
    rw [hk]; rfl
  · intro r hr p hp e
    have hr : r ∈ b.asked.map fun k : Rk => (k, b.rule k.1 k.2.1 k.2.2) := hr
    obtain ⟨k, hka, rfl⟩ := List.mem_map.mp hr
    obtain ⟨p', hp', e', hw, hc⟩ := asked_mem.mp hka
    have : p' = p := pl_one W.pn hp' hp (e'.trans e.symm)
    subst this
    have := (W.rule hp' hw hc).2
    rw [e'] at this
    exact this
section
variable {α : Type} [DecidableEq α]
theorem run_same {b b2 : Pt} (h : ∀ p w k, b2.rule p w k = b.rule p w k) : ∀ (row : List (Str × α)) (s : Str × List α), b2.run s row = b.run s row
  | [], _ => rfl
  | r :: row, s => by
    have e : b2.step s r = b.step s r := by unfold Pt.step; rw [h]
    show b2.run (b2.step s r) row = b.run (b.step s r) row
    rw [e]; exact run_same h row _
end
theorem strFr : ∀ l : List Str, ∃ x, x ∉ l := fun l => by
  have : ∀ l : List Str, ∃ m, ∀ x ∈ l, x.cps.size < m := fun l => by
    induction l with
    | nil => exact ⟨0, fun _ h => nomatch h⟩
    | cons y l ih =>
      obtain ⟨m, hm⟩ := ih
      exact ⟨m + y.cps.size + 1, fun x hx => (List.mem_cons.mp hx).elim (fun e => by rw [e]; omega) fun h => by have := hm x h; omega⟩
  obtain ⟨m, hm⟩ := this l
  exact ⟨⟨Array.replicate m 97⟩, fun h => by have := hm _ h; simp at this⟩
def leS (a b : Str) : Prop := ltCps b.cps.toList a.cps.toList = false
theorem leS_iff {a b : Str} : leS a b ↔ a.cps.toList ≤ b.cps.toList := by
  unfold leS
  rw [ltCps_eq, decide_eq_false_iff_not]; rfl
theorem leS_trans {a b c : Str} (h : leS a b) (k : leS b c) : leS a c := leS_iff.mpr (List.le_trans (leS_iff.mp h) (leS_iff.mp k))
theorem leS_anti {a b : Str} (h : leS a b) (k : leS b a) : a = b := by
  have := List.le_antisymm (leS_iff.mp h) (leS_iff.mp k)
  obtain ⟨⟨a⟩⟩ := a
  obtain ⟨⟨b⟩⟩ := b
  have this : a = b := this
  rw [this]
theorem rising_pw : ∀ (l : List Str) (p : Str), risingS p l = true → (p :: l).Pairwise leS
  | [], p, _ => by simp
  | x :: l, p, h => by
    unfold risingS at h
    rw [Bool.and_eq_true, Bool.not_eq_true'] at h
    have ih := rising_pw l x h.2
    refine List.pairwise_cons.mpr ⟨fun y hy => ?_, ih⟩
    rcases List.mem_cons.mp hy with e | hy
    · rw [e]; exact h.1
    · exact leS_trans (b := x) h.1 (List.rel_of_pairwise_cons ih hy)
theorem sorted_pw : ∀ (l : List Str), sortedS l = true → l.Pairwise leS
  | [], _ => List.Pairwise.nil
  | x :: l, h => rising_pw l x h
theorem sorted_same {l m y z : List Str} (h : l.Perm m) (hy : y.Perm l) (hz : z.Perm m) (sy : sortedS y = true) (sz : sortedS z = true) : y = z :=
  List.Perm.eq_of_pairwise (fun a b _ _ h1 h2 => leS_anti h1 h2) (sorted_pw y sy) (sorted_pw z sz) ((hy.trans h).trans hz.symm)
theorem perm_of_nd {l m : List Str} (h1 : l.Nodup) (h2 : m.Nodup) (h : ∀ x, x ∈ l ↔ x ∈ m) : l.Perm m := by
  refine List.perm_iff_count.mpr fun x => ?_
  by_cases hx : x ∈ l
  · rw [List.Nodup.count h1, List.Nodup.count h2, if_pos hx, if_pos ((h x).mp hx)]
  · rw [List.count_eq_zero_of_not_mem hx, List.count_eq_zero_of_not_mem fun z => hx ((h x).mpr z)]
end Fw
set_option Elab.async false
set_option linter.all false
set_option maxRecDepth 100000
set_option maxHeartbeats 4000000
namespace FH
open PySem PySem.Spec PyProof.Rows L2 Pd Fw
open Evl (Ex)
variable {P : Program} {wo : World} {K : PySem.W.Frag} {mg : Str → Option Value} {base : Heap}
theorem bk_of {b : Pt} (hb : Small b 7 3) {pl' : List Pl} (hp : pl'.Perm b.pl) : BkOk ⟨b.ws, pl', b.st, b.rl⟩ := by
  have W := hb.wf.perm hp
  have h1 : pl'.length ≤ 7 := by rw [hp.length_eq]; exact hb.pn
  have h2 : ∀ p ∈ pl', p.2.1 ≤ 3 := fun p h => hb.ps p (hp.mem_iff.mp h)
  exact ⟨W, few_of W h1 h2, h2, h1⟩
theorem turned_row (row : Rws) (n : Str) : (row.map fun r => if r.2 = n then (r.1, ("new" : Str)) else r) = row.map fun r => (r.1, if r.2 = n then ("new" : Str) else r.2) := List.map_congr_left fun r _ => by
  split <;> rfl
def S_law (ds : List D) (R : D → Prop) : Prop := ∃ ns : List Int, ds = [.lsq (ns.map .int)] ∧ R (.bl true)
theorem ok_law (c : Ctx K mg) {fd : FuncData} (F : FunD K "law" "law" (defArgs s_law) (defBody s_law) (defScope s_law) [] [] (He.ga K "law") fd) : FnOk P wo K mg base CX0 12 (He.ga K "law") fd ["_law_script"] (spD K S_law) := by
  refine fn_pure F sc_law (fun ds R ⟨_, e, _⟩ => by rw [e]; rfl) fun cdv A0 outer sh H E hr ds R hS => ?_
  obtain ⟨script, rfl, hR⟩ := hS
  refine ss_cons (s_set 1 (pv_cal (ok_law_numbers c) (hr.mono (by decide)) c.g_law_numbers <| pas_cons <| pv_nm 0 rfl <| pas_cons <| pv_int <| pas_nil ⟨script, rfl, fun ns hn _ => ?_⟩) sc_law.nd)
  have num : ∀ i : Nat, i < 190 → ∃ z : Int, atI (ns.map D.int) (i : Nat) = some (.int z) := fun i hi => by
    have hi' : i < ns.length := by omega
    exact ⟨ns[i], atI_nat (by rw [List.getElem?_map, List.getElem?_eq_getElem hi']; rfl)⟩
  obtain ⟨z3, hz3⟩ := num 123 (by decide)
  obtain ⟨z4, hz4⟩ := num 124 (by decide)
  obtain ⟨z5, hz5⟩ := num 125 (by decide)
  have q30 : 0 ≤ z3 % 9 := Int.emod_nonneg _ (by decide)
  have q31 : z3 % 9 < 9 := Int.emod_lt_of_pos _ (by decide)
  have q40 : 0 ≤ z4 % 8 := Int.emod_nonneg _ (by decide)
  have q41 : z4 % 8 < 8 := Int.emod_lt_of_pos _ (by decide)
  refine ss_cons (s_set 2 (pv_cal (ok_law_one c) (hr.mono (by decide)) c.g_law_one <| pas_cons <| pv_nm 1 rfl <| pas_nil ⟨ns, rfl, hn, fun b hb => ?_⟩) sc_law.nd)
  have W := hb.wf
  have w1 := W.w1
  refine ss_cons (s_set 3 (pv_cal (ok_law_make c) (hr.mono (by decide)) c.g_law_make <| pas_cons <| pv_nm 2 rfl <| pas_nil ⟨b, rfl, W, fun pl' hp => ?_⟩) sc_law.nd)
  have Bk := bk_of hb hp
  generalize hbb : (⟨b.ws, pl', b.st, b.rl⟩ : Pt) = bb at Bk ⊢
  have ews : bb.ws = b.ws := by rw [← hbb]
  have est : bb.st = b.st := by rw [← hbb]
  have erl : ∀ p w k, bb.rule p w k = b.rule p w k := fun p w k => by rw [← hbb]; rfl
  have eyes : ∀ p ∈ b.pl, bb.yes p.1 = b.yes p.1 := fun p hpp => by
    rw [yes_of Bk.w.pn (show p ∈ bb.pl by rw [← hbb]; exact hp.mem_iff.mpr hpp), yes_of W.pn hpp]
  refine ss_cons (s_set 4 (pv_cal (ok_law_drawn_row c) (hr.mono (by decide)) c.g_law_drawn_row <| pas_cons <| pv_nm 1 rfl <| pas_cons <| pv_int <| pas_cons <| pv_add <| pv_int <| pv_cal (ok_law_pick c) (hr.mono (by decide)) c.g_law_pick <| pas_cons <| pv_nm 1 rfl <| pas_cons <| pv_int <| pas_cons <| pv_int <| pas_nil ⟨ns, 123, 9, z3, rfl, hz3, by decide, _, _, rfl, rfl, pas_cons <| pv_ixL <| pq_pv <| pv_nm 2 rfl ⟨_, rfl, pv_int ⟨0, _, rfl, rfl, pas_nil ⟨ns, 130, (1 + z3 % 9).toNat, b.ws, by congr 3; congr 1; omega, hn, by omega, by omega, fun row hrl hrow => ?_⟩⟩⟩⟩) sc_law.nd)
  refine ss_cons (s_set 5 (pv_cal (ok_law_drawn_row c) (hr.mono (by decide)) c.g_law_drawn_row <| pas_cons <| pv_nm 1 rfl <| pas_cons <| pv_int <| pas_cons <| pv_cal (ok_law_pick c) (hr.mono (by decide)) c.g_law_pick <| pas_cons <| pv_nm 1 rfl <| pas_cons <| pv_int <| pas_cons <| pv_int <| pas_nil ⟨ns, 124, 8, z4, rfl, hz4, by decide, pas_cons <| pv_ixL <| pq_pv <| pv_nm 2 rfl ⟨_, rfl, pv_int ⟨0, _, rfl, rfl, pas_nil ⟨ns, 152, (z4 % 8).toNat, b.ws, by congr 3; congr 1; omega, hn, by omega, by omega, fun rest hsl hrest => ?_⟩⟩⟩⟩) sc_law.nd)
  have hrl9 : 1 ≤ row.length ∧ row.length ≤ 9 := by omega
  have hsl8 : rest.length ≤ 8 := by omega
  have hwr : ∀ r ∈ row, r.1 ∈ b.ws := fun r h => (hrow r h).1
  have hwt : ∀ r ∈ rest, r.1 ∈ b.ws := fun r h => (hrest r h).1
  have hnr : ∀ r ∈ row, nameB r.2 = true ∧ r.2 ≠ "new" := fun r h => aName_ok (hrow r h).2
  -- remembered
  refine ss_cons (s_set 6 (pv_calD (dds := [.int 20000]) (ok_remembered c) (hr.mono (by decide)) c.g_remembered (fun _ => .cons (.int _) .nil) <| pas_cons <| pv_nm 3 rfl <| pas_cons <| pv_nm 4 rfl <| pas_nil ⟨bb, row, rfl, Bk, by omega, fun r h => ⟨by rw [ews]; exact hwr r h, (hnr r h).1⟩, fun names nnd nmem => ?_⟩) sc_law.nd)
  -- least
  refine ss_cons (s_set 7 (pv_ixT <| pv_cal (ok_law_read c) (hr.mono (by decide)) c.g_law_read <| pas_cons <| pv_cal (ok_law_read_book c) (hr.mono (by decide)) c.g_law_read_book <| pas_cons <| pv_calD (dds := [.int 20000]) (ok_least c) hr c.g_least (fun _ => .cons (.int _) .nil) <| pas_cons <| pv_nm 3 rfl <| pas_nil ⟨bb, rfl, Bk, fun reached heads sts ok => pas_nil ⟨leastPt bb heads (stOf sts) (nmR heads), rfl, least_wf Bk.w ok.red (nmR_inj ok.len) (nmR_ok ok.len), pas_cons <| pv_nm 4 rfl <| pas_nil ⟨_, row, rfl, norm_wf (least_wf Bk.w ok.red (nmR_inj ok.len) (nmR_ok ok.len)), fun r h => ?_, pv_int ⟨_, 1, _, .tup _, rfl, rfl, ?_⟩⟩⟩⟩) sc_law.nd)
  · show r.1 ∈ bb.ws
    rw [ews]; exact hwr r h
  have LW := least_wf Bk.w ok.red (nmR_inj ok.len) (nmR_ok ok.len)
  have hheld := Held.run (norm_wf LW) (held_start (α := Str) (norm_wf LW)) (row := row) (fun r h => by
    show r.1 ∈ bb.ws
    rw [ews]; exact hwr r h)
  have hln := least_names strFr Bk.w ok.red (nmR_inj ok.len) (row := row) fun r h => by rw [ews]; exact hwr r h
  have enorm : (Pt.norm (leastPt bb heads (stOf sts) (nmR heads))).run ((Pt.norm (leastPt bb heads (stOf sts) (nmR heads))).st, []) row = (leastPt bb heads (stOf sts) (nmR heads)).run (nmR heads bb.st, []) row := run_same (norm_rule LW) row _
  rw [enorm] at hheld ⊢
  generalize (leastPt bb heads (stOf sts) (nmR heads)).run (nmR heads bb.st, []) row = lst at hheld hln ⊢
  obtain ⟨lp, held⟩ := lst
  have hnd : held.Nodup := hheld.nd
  have hhl : held.length ≤ 6 := by
    obtain ⟨lpl, hlp, _, e⟩ := hheld.pl
    have := (norm_wf LW).ps lpl hlp
    have e : held.length = lpl.2.1 := e
    omega
  have hln : ∀ n : Str, n ∈ held ↔ n ∈ names := fun n => (hln n).trans (nmem n).symm
  have hpm : held.Perm names := perm_of_nd hnd nnd hln
  have hnames : ∀ n ∈ names, n ∈ row.map (·.2) := fun n hnn => by
    obtain ⟨a, _, e⟩ := (nmem n).mp hnn
    exact (run_names row (bb.st, []) n (List.mem_of_getElem? e)).resolve_left fun z => nomatch z
  have hnok : ∀ n ∈ names, nameB n = true := fun n hnn => by
    obtain ⟨r, hrr, rfl⟩ := List.mem_map.mp (hnames n hnn)
    exact (hnr r hrr).1
  have hu64 : (A0.deeper (envOfC "law" (defScope s_law) sh.heap.objs.size (He.ga K "law") cdv)).units + 64 < cLine := by have := hr.units; omega
  refine ss_cons (s_if <| pb_c <| c_neLS hu64 <| pv_pn <| pn_sortedS c.z_sorted <| pv_pn <| pn_listT c.z_list <| pv_nm 7 rfl ⟨_, .inl (.ftup _), held, rfl, by omega, fun ys hy sy => pv_pn <| pn_sortedS c.z_sorted <| pv_nm 6 rfl ⟨names, rfl, by rw [← hpm.length_eq]; omega, fun zs hz sz => ⟨ys, zs, rfl, rfl, fun x hx => okS_name (hnok x ((hln x).mp (hy.mem_iff.mp hx))), fun x hx => okS_name (hnok x (hz.mem_iff.mp hx)), _, rfl, fun e => ?_, fun _ => ss_nil ?_⟩⟩⟩)
  · rw [sorted_same hpm hy hz sy sz, decide_eq_true rfl] at e
    exact nomatch e
  -- the name
  refine ss_cons (s_set 8 (pv_cal (ok_law_names_of c) (hr.mono (by decide)) c.g_law_names_of <| pas_cons <| pv_nm 4 rfl <| pas_nil ⟨row, rfl, by omega, fun ks knd kmem => ?_⟩) sc_law.nd)
  have hk0 : 0 < ks.length := by
    cases hrc : row with
    | nil => rw [hrc] at hrl9; simp at hrl9
    | cons r row' =>
      have : r.2 ∈ ks := (kmem r.2).mpr (by rw [hrc]; exact List.mem_cons_self)
      exact List.length_pos_of_mem this
  have qk0 : 0 ≤ z5 % (ks.length : Nat) := Int.emod_nonneg _ (by omega)
  have qk1 : z5 % (ks.length : Nat) < (ks.length : Nat) := Int.emod_lt_of_pos _ (by omega)
  have hklt : (z5 % (ks.length : Nat)).toNat < ks.length := by omega
  refine ss_cons (s_set 9 (pv_ixL <| pq_pv <| pv_nm 8 rfl ⟨_, rfl, pv_cal (ok_law_pick c) (hr.mono (by decide)) c.g_law_pick <| pas_cons <| pv_nm 1 rfl <| pas_cons <| pv_int <| pas_cons <| pv_lenQ c.z_len <| pq_pv <| pv_nm 8 rfl ⟨_, rfl, pas_nil ⟨ns, 125, (ks.length : Nat), z5, by rw [List.length_map], hz5, by omega, _, .str ks[(z5 % (ks.length : Nat)).toNat], rfl, atI_int qk0 (by rw [List.getElem?_map, List.getElem?_eq_getElem hklt]; rfl), ?_⟩⟩⟩) sc_law.nd)
  generalize ks[(z5 % (ks.length : Nat)).toNat] = nm
  refine ss_cons (s_if <| pb_c <| c_inL <| pv_nm 9 rfl <| pq_pv <| pv_nm 6 rfl ⟨_, rfl, _, .str nm names, _, rfl, fun _ => ss_one (s_ret (pv_bl hR)), fun hno => ss_nil ?_⟩)
  have hno : nm ∉ names := of_decide_eq_false hno
  -- turned
  refine ss_cons (s_setN 10 (pn_lst (pas_nil ⟨Nat.le_of_ble_eq_true rfl, ?_⟩)) sc_law.nd)
  refine ss_cons <| s_for (fun k ls' w' => w' = Wd.nil ∧ ∃ y11 y12, ls' = [.im (.lsq (script.map .int)), .im (.lst (ns.map .int)), .im (partsD b), .im (bookD (bC K) bb), .im (rowD row), .im (rowD rest), .im (.lst (names.map .str)), .im (hD held), .im (.lst (ks.map .str)), .im (.str nm), .own (((row.take k).map fun r => if r.2 = nm then (r.1, ("new" : Str)) else r).map Fw.rdD), y11, y12, .no, .no]) PassesOwn.never rfl <| i_list <| pv_nm 4 rfl ⟨_, rfl, ⟨rfl, _, _, rfl⟩, ?_, ?_⟩
  · rintro k d ls' w' hd ⟨rfl, y11, y12, rfl⟩
    rw [List.getElem?_map] at hd
    obtain ⟨r, hk, rfl⟩ := Option.map_eq_some_iff.mp hd
    have hkl : k < row.length := (List.getElem?_eq_some_iff.mp hk).1
    have et : (row.take (k + 1)).map (fun r => if r.2 = nm then (r.1, ("new" : Str)) else r) = (row.take k).map (fun r => if r.2 = nm then (r.1, ("new" : Str)) else r) ++ [if r.2 = nm then (r.1, ("new" : Str)) else r] := by
      rw [List.take_succ, hk, List.map_append]; rfl
    have hlen : (((row.take k).map fun r => if r.2 = nm then (r.1, ("new" : Str)) else r).map Fw.rdD).length < 100000 := by
      rw [List.length_map, List.length_map, List.length_take]; omega
    refine g_tup (.tup _) (gs_cons (g_nm 11 (gs_cons (g_nm 12 (gs_nil ?_) sc_law.nd)) sc_law.nd)) rfl
    refine ss_cons (s_if <| pb_c <| c_eqS <| pv_nm 12 rfl <| pv_nm 9 rfl ⟨_, _, rfl, rfl, _, rfl, fun e => ?_, fun e => ss_nil ?_⟩)
    · have e := of_decide_eq_true e
      refine ss_one <| s_set 12 (pv_str ?_) sc_law.nd
      refine ss_one <| s_append 10 rfl <| pv_tup <| pas_cons <| pv_nm 11 rfl <| pas_cons <| pv_nm 12 rfl <| pas_nil ⟨Nat.le_of_ble_eq_true rfl, hlen, rfl, .im (.str r.1), .im (.str "new"), ?_⟩
      rw [et, if_pos e, List.map_append]; rfl
    · have e := of_decide_eq_false e
      refine ss_one <| s_append 10 rfl <| pv_tup <| pas_cons <| pv_nm 11 rfl <| pas_cons <| pv_nm 12 rfl <| pas_nil ⟨Nat.le_of_ble_eq_true rfl, hlen, rfl, .im (.str r.1), .im (.str r.2), ?_⟩
      rw [et, if_neg e, List.map_append]; rfl
  · rintro ls' w' ⟨rfl, y11, y12, rfl⟩
    rw [show (rowD row = .lst (row.map Fw.rdD)) from rfl, List.length_map, List.take_length, turned_row]
    generalize htr : (row.map fun r => (r.1, if r.2 = nm then ("new" : Str) else r.2)) = tr
    have htl : tr.length = row.length := by rw [← htr, List.length_map]
    have htw : ∀ r ∈ tr, r.1 ∈ b.ws := fun r h => by
      rw [← htr] at h
      obtain ⟨q, hq, rfl⟩ := List.mem_map.mp h
      exact hwr q hq
    let ans : Rws → Bool := fun rw => b.yes (b.run (b.st, []) rw).1
    have hds : [D.lst (row.map Fw.rdD ++ rest.map Fw.rdD), .lst (tr.map Fw.rdD ++ rest.map Fw.rdD)] = [row ++ rest, tr ++ rest].map rowD := by
      unfold rowD
      rw [List.map_cons, List.map_cons, List.map_append, List.map_append]; rfl
    have hws : ∀ rw ∈ [row ++ rest, tr ++ rest], ∀ r ∈ rw, r.1 ∈ b.ws := fun rw hrw r hr => by
      have : r ∈ row ∨ r ∈ tr ∨ r ∈ rest := by
        simp at hrw
        rcases hrw with e | e <;> rw [e] at hr <;> rcases List.mem_append.mp hr with z | z
        · exact .inl z
        · exact .inr (.inr z)
        · exact .inr (.inl z)
        · exact .inr (.inr z)
      rcases this with z | z | z
      · exact hwr r z
      · exact htw r z
      · exact hwt r z
    refine ss_fz 10 rfl <| ss_cons (s_setLc 13 [("_law_whole", 14)] (fun k acc w' => w' = Wd.nil ∧ acc = (([row ++ rest, tr ++ rest] : List Rws).take k).map fun rw => .bl (ans rw)) rfl sc_law.nd (blkOk_by (show blkC N_law (defScope s_law) _ _ = true by decide +kernel)) (i_list <| pv_pn <| pn_lst <| pas_cons <| pv_pn <| pn_add <| pq_pv <| pv_nm 4 rfl ⟨_, rfl, pq_pv <| pv_nm 5 rfl ⟨_, rfl, by rw [List.length_map, List.length_map]; omega, pas_cons <| pv_pn <| pn_add <| pq_pv <| pv_nm 10 rfl ⟨_, rfl, pq_pv <| pv_nm 5 rfl ⟨_, rfl, by rw [List.length_map, List.length_map]; omega, pas_nil ⟨Nat.le_of_ble_eq_true rfl, _, rfl, ⟨rfl, rfl⟩, ?_, ?_⟩⟩⟩⟩⟩) rfl)
    · rintro k d acc w' hd ⟨rfl, rfl⟩
      rw [hds, List.getElem?_map] at hd
      obtain ⟨rw', hk, rfl⟩ := Option.map_eq_some_iff.mp hd
      have hkl : k < 2 := (List.getElem?_eq_some_iff.mp hk).1
      have hww := hws rw' (List.mem_of_getElem? hk)
      obtain ⟨p, hpp, ep, _⟩ := (Held.run W (held_start (α := Str) W) hww).pl
      have p7 := W.p7
      refine fun _ _ _ _ _ => g_nm 14 (fun _ _ _ _ _ => t_nil ⟨fun _ => fun _ _ _ _ _ => pv_ixT <| pv_cal (ok_law_place c) (hr.mono (by decide)) c.g_law_place <| pas_cons <| pv_nm 2 rfl <| pas_cons <| pv_ixT <| pv_cal (ok_law_read c) (hr.mono (by decide)) c.g_law_read <| pas_cons <| pv_nm 2 rfl <| pas_cons <| pv_nm 14 rfl <| pas_nil ⟨b, rw', rfl, W, hww, pv_int ⟨_, 0, _, .tup _, rfl, rfl, pas_nil ⟨b, p, by rw [ep], W.pn, hpp, p7, pv_int ⟨_, 2, _, .tup _, rfl, rfl, ?_, rfl, ?_⟩⟩⟩⟩, fun e => nomatch e⟩) sc_law.nd
      · rw [List.length_map, List.length_take]; omega
      · rw [List.take_succ, hk, List.map_append]
        show _ = _ ++ [D.bl (b.yes (b.run (b.st, []) rw').1)]
        rw [← ep, yes_of W.pn hpp]
    · rintro acc w' ⟨rfl, rfl⟩
      refine ss_one <| s_ret <| pv_c <| c_eqB <| pv_ixL <| pq_nm 13 rfl <| pv_int ⟨0, _, rfl, rfl, pv_ixL <| pq_nm 13 rfl <| pv_int ⟨1, _, rfl, rfl, _, _, rfl, rfl, ?_⟩⟩
      have hsame := turned_same (b := bb) strFr Bk.w (row := row) (rest := rest) (n := nm) (f := "new") (fun r h => by rw [ews]; exact hwr r h) (fun r h => by rw [ews]; exact hwt r h) (fun h => hno ((nmem nm).mpr h)) (fun h => by
        obtain ⟨r, hrr, e⟩ := List.mem_map.mp h
        exact (hnr r hrr).2 e)
      rw [htr, run_same erl, run_same erl, est] at hsame
      have hy : ∀ rw : Rws, (∀ r ∈ rw, r.1 ∈ b.ws) → bb.yes (b.run (b.st, []) rw).1 = ans rw := fun rw hw => by
        obtain ⟨p, hpp, ep, _⟩ := (Held.run W (held_start (α := Str) W) hw).pl
        rw [← ep, eyes p hpp, ep]
      rw [hy _ (hws _ List.mem_cons_self), hy _ (hws _ (List.mem_cons_of_mem _ List.mem_cons_self))] at hsame
      rw [decide_eq_true hsame]
      exact hR
end FH
set_option Elab.async false
set_option linter.all false
set_option maxRecDepth 100000
set_option maxHeartbeats 0
namespace FH
open PySem PySem.Spec PyProof.Rows L2 Pd Fw
theorem law_start {K : PySem.W.Frag} {H : Hp} {a : Addr} {ns : List Int} (hS : SqL K H a (ns.map V.int)) : spD K S_law [.ref a] H (fun v _ => v = .bl true) fun _ _ _ => False := by
  refine ⟨H, [.lsq (ns.map .int)], fun d => d = .bl true, Evl.Ex.refl _, .cons (.lsq hS ?_) .nil, ⟨ns, rfl, rfl⟩, fun v d H0' H' _ rp e => ?_⟩
  · clear hS
    induction ns with
    | nil => exact .nil
    | cons n ns ih => exact .cons (.int n) ih
  · subst e
    exact rp.bl_inv
theorem facts {P : Program} {w : World} {K : PySem.W.Frag} {h : Heap} {mg : Str → Option Value} {f : Addr} (X : K.In h) (G : h.Ns mainGlobals mg) (hfa : mg ("law" : Str) = some (.ref f)) (c : obsY K = valY) :
    ∃ fd : FuncData, (∀ (s : Shared) (v : Value), BindsTo s fd ⟨[v], []⟩ [("_law_script", v)]) ∧ ∀ base : Heap, K.In base → base.Ns mainGlobals mg → FnOk P w K mg base CX0 12 f fd ["_law_script"] (spD K S_law) := by
  have C : Ctx K mg := ⟨⟨h, X, G⟩, c⟩
  obtain ⟨fd, F⟩ := C.f_law
  have e := hfa.symm.trans C.g_law
  cases e
  have b := FunD.bindsA (ps := ["_law_script"]) F fun _ _ _ _ _ _ us hl => match us, hl with | [_], _ => rfl
  exact ⟨fd, fun s v => b s [v] rfl, fun base _ _ => ok_law C F⟩
end FH
open PySem PySem.W PySem.Calls PyProof.Rows
theorem PySem.Challenge.cw_fewestheld_k92_whole_memory_holds : PySem.Challenge.rw_fewestheld_k92_whole_memory.Holds := by
  w_on; o_law
  refine HandSHeadRun.head_any (r := OpenLaw.row PySem.Challenge.rw_fewestheld_k92_whole_memory) (q := view (OpenLaw.row PySem.Challenge.rw_fewestheld_k92_whole_memory).prog [68]) (H := FH.hk) (ob := FH.ob) (M := 40000) (loose := FH.loose) (d := HandSHeadRun.topDef (OpenLaw.row PySem.Challenge.rw_fewestheld_k92_whole_memory).prog 68) (kwd := []) FH.ob_eq
    (by kernel_rfl) (fun s => by kernel_rfl) FH.run (by kernel_rfl) (by kernel_rfl) (by kernel_rfl) (by rfl) FH.o_w FH.o_o ⟨rfl, rfl, rfl, rfl, rfl, by decide +kernel⟩ ?hw ?hc
  case hw => w_witness2
  case hc =>
    refine L2.walk_ofE (l := PySem.Challenge.rw_fewestheld_k92_whole_memory) (n := 63) (k := 12) (x := "_law_script") (CX := L2.CX0) rfl (by decide) (by kernel_rfl) ⟨rfl, by decide, by decide⟩ ?F (fun _ _ _ _ z => z)
    intro w mg fa h Y G hmg0
    obtain ⟨K, KX, c⟩ := Y
    have hmg : mg ("law" : PySem.Str) = some (.ref fa) := by
      have e : (HandSHeadRun.topDef (OpenLaw.row PySem.Challenge.rw_fewestheld_k92_whole_memory).prog 68).name = ("law" : PySem.Str) := by kernel_rfl
      rw [← e]
      exact hmg0
    obtain ⟨fd, hb, hF⟩ := FH.facts (P := (PySem.Challenge.rw_fewestheld_k92_whole_memory).prog) (w := w) KX G hmg c
    exact ⟨K, fd, _, KX, hb, fun H a ns _ _ hS => FH.law_start hS, hF⟩
