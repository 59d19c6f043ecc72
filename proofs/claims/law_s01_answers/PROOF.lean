import PyProof.Rows.All
import Wide.All
import OpenK.AllK
import Wide.FinOn
import Open.SpecLaws
import KE.OsGo
import HandS.ForSpec
import HandS.Comp
import HandS.Dict
import HandS.Iter
import HandS.Text
import HandS.WordsDict
import HandS.Codes
import HandS.Deep
import HandS.More
import HandS.SetKeys
import HandS.Conv
import HandS.NoneIn
import HandS.CallLocal
import HandS.SortInts
import HandS.SortRule
import HandS.ExcInit
import HandS.ExcField
import HandS.Defaults
import HandS.Flow
import HandS.Zip
import HandS.Walk
import KE.GoesMore
import HandS.HeadHook1
import HandS.HeadHook2
import HandS.Head0
import HandS.Head1
import HandS.Head2
import HandS.Head4
import PySem.Challenge.RW_broaderwords_s01_answers
set_option Elab.async false
set_option linter.all false
set_option maxRecDepth 100000
set_option maxHeartbeats 4000000
namespace Bw
open PySem PySem.Spec PyProof.Rows L2
/-! ### the error's class, by a look -/
def oexB (K : PySem.W.Frag) (C : Addr) : Bool :=
  (match K.lookup C with
    | some ⟨.type "type", _, .cls cd, sl⟩ => (match cd.mro, sl.toList with
      | .ref b :: bm, [_, _, _, _, some (.builtin n), _] => b == C && n == "ValueError.__new__" && !cd.hasDel && cd.hasDict && PySem.HandSPX.refsVE bm
      | _, _ => false)
    | _ => false) && (decide (PySem.W.findIn K (.ref C) "__setattr__" = some (some (.builtin "object.__setattr__"))) && (decide (PySem.W.subIn K (.ref C) (.type "BaseException") = some true) &&
    (decide (PySem.W.typeIn K (.ref C) = some (.type "type")) && (PySem.W.keepIn K (.ref C) && (decide (PySem.W.findIn K (.ref C) "__init__" = some (some (.ref (He.ma K C "__init__")))) &&
    decide (PySem.W.typeIn K (.ref (He.ma K C "__init__")) = some (.type "function")))))))
structure OexF (K : PySem.W.Frag) (C : Addr) : Prop where
  c : OexC K C
  i : PySem.W.findIn K (.ref C) "__init__" = some (some (.ref (He.ma K C "__init__")))
  t : PySem.W.typeIn K (.ref (He.ma K C "__init__")) = some (.type "function")
theorem oexB_ok {K : PySem.W.Frag} {C : Addr} (h : oexB K C = true) : OexF K C := by
  obtain ⟨q, h⟩ := Bool.and_eq_true_iff.mp h
  obtain ⟨h1, h⟩ := Bool.and_eq_true_iff.mp h
  obtain ⟨h2, h⟩ := Bool.and_eq_true_iff.mp h
  obtain ⟨h3, h⟩ := Bool.and_eq_true_iff.mp h
  obtain ⟨h4, h⟩ := Bool.and_eq_true_iff.mp h
  obtain ⟨h5, h6⟩ := Bool.and_eq_true_iff.mp h
  refine ⟨⟨?_, of_decide_eq_true h1, of_decide_eq_true h2, of_decide_eq_true h3, h4⟩, of_decide_eq_true h5, of_decide_eq_true h6⟩
  split at q
  · rename_i dd cd sl ho
    split at q
    · rename_i b bm k0 k1 k2 k3 n k5 hm hs
      simp only [Bool.and_eq_true, beq_iff_eq, Bool.not_eq_true'] at q
      obtain ⟨⟨⟨⟨q1, q2⟩, q3⟩, q4⟩, q5⟩ := q
      subst q1
      subst q2
      obtain ⟨nm, bs, mro, ns, qn, hd, sn, sub, ab, col, del⟩ := cd
      dsimp only at hm q3 q4
      subst hm
      subst q3
      subst q4
      have hsl : sl = #[k0, k1, k2, k3, some (.builtin "ValueError.__new__"), k5] := by
        obtain ⟨l⟩ := sl
        simp only at hs
        rw [hs]
      subst hsl
      exact ⟨nm, qn, ns, bs, bm, sn, sub, ab, col, dd, k0, k1, k2, k3, k5, ho, q5⟩
    · cases q
  · cases q
/-! the top: its names, its defs by places (printed by wip/tools/gen_head.py) -/
def topS (i : Nat) : Stmt := PySem.Challenge.pw_broaderwords_s01_answers.main.body.getD i (.Pass ⟨0, 0, 0, 0⟩)
abbrev s_piece : Stmt := topS 8
abbrev s_pieces_of : Stmt := topS 9
abbrev s_bytes_of : Stmt := topS 10
abbrev s_is_name : Stmt := topS 11
abbrev s_number_of : Stmt := topS 12
abbrev s_uppers_of : Stmt := topS 22
abbrev s_above : Stmt := topS 23
abbrev s_stands_under : Stmt := topS 24
abbrev s_below : Stmt := topS 25
abbrev s_posted : Stmt := topS 26
abbrev s_card_number : Stmt := topS 27
abbrev s_may_put : Stmt := topS 28
abbrev s_may_be : Stmt := topS 29
abbrev s_notch_all : Stmt := topS 30
abbrev s_put_words : Stmt := topS 31
abbrev s_do_card : Stmt := topS 32
abbrev s_do_act : Stmt := topS 33
abbrev s_state_behind : Stmt := topS 34
abbrev s_state_if_may : Stmt := topS 35
abbrev s_first_file : Stmt := topS 45
abbrev s_read_file : Stmt := topS 47
abbrev s_with_act : Stmt := topS 48
abbrev s_digits : Stmt := topS 49
abbrev s_line_of : Stmt := topS 50
abbrev s_act_line : Stmt := topS 51
abbrev s_text_of : Stmt := topS 52
abbrev s_falls : Stmt := topS 60
abbrev s_is_wanted : Stmt := topS 61
abbrev s_wanted_pairs : Stmt := topS 62
abbrev s_kind_of : Stmt := topS 64
abbrev s_lacks : Stmt := topS 65
abbrev s_bad_pair : Stmt := topS 66
abbrev s_rows_of : Stmt := topS 67
abbrev s_words_behind : Stmt := topS 68
abbrev s_hold_all : Stmt := topS 69
abbrev s_mixers : Stmt := topS 70
abbrev s_steps_to : Stmt := topS 71
abbrev s_way_up : Stmt := topS 72
abbrev s_all_kinds : Stmt := topS 73
abbrev s_changes : Stmt := topS 74
abbrev s_cards_told : Stmt := topS 75
abbrev s_may_swap : Stmt := topS 76
abbrev s_listed : Stmt := topS 79
abbrev s_state_at : Stmt := topS 80
abbrev s_past_at : Stmt := topS 81
abbrev s_cards_at : Stmt := topS 82
abbrev s_refused_acts : Stmt := topS 83
abbrev s_refused_word : Stmt := topS 84
abbrev s_refused_card : Stmt := topS 85
abbrev s_refused_act : Stmt := topS 86
abbrev s_refused_by : Stmt := topS 87
abbrev s_are_bytes : Stmt := topS 88
abbrev s_told : Stmt := topS 89
abbrev s_clear : Stmt := topS 90
abbrev s_put_file : Stmt := topS 91
abbrev s_look : Stmt := topS 92
abbrev s_text : Stmt := topS 93
abbrev s_put_act : Stmt := topS 94
abbrev s_undo : Stmt := topS 95
abbrev s_told_call : Stmt := topS 96
abbrev s_above_call : Stmt := topS 97
abbrev s_below_call : Stmt := topS 98
abbrev s_posted_call : Stmt := topS 99
abbrev s_card_call : Stmt := topS 100
abbrev s_falls_call : Stmt := topS 101
abbrev s_wants_call : Stmt := topS 102
abbrev s_judge : Stmt := topS 103
abbrev s_lacks_call : Stmt := topS 104
abbrev s_nest : Stmt := topS 105
abbrev s_row_or_none : Stmt := topS 106
abbrev s_mixers_call : Stmt := topS 107
abbrev s_why : Stmt := topS 108
abbrev s_way : Stmt := topS 109
abbrev s_changes_call : Stmt := topS 110
abbrev s_swap : Stmt := topS 111
abbrev s_needs : Stmt := topS 112
abbrev s_answer : Stmt := topS 116
abbrev s_row_at : Stmt := topS 117
abbrev s_answers : Stmt := topS 118
abbrev s_Fault_init : Stmt := inClass (topS 7) 0
abbrev s_Card_init : Stmt := inClass (topS 20) 0
abbrev s_State_init : Stmt := inClass (topS 21) 0
abbrev s_File_init : Stmt := inClass (topS 44) 0
abbrev s_Reader_init : Stmt := inClass (topS 46) 0
abbrev s_Reader_is_over : Stmt := inClass (topS 46) 1
abbrev s_Reader_fail : Stmt := inClass (topS 46) 2
abbrev s_Reader_row : Stmt := inClass (topS 46) 3
abbrev s_Reader_is_word : Stmt := inClass (topS 46) 4
abbrev s_Reader_is_just : Stmt := inClass (topS 46) 5
abbrev s_Reader_go_on : Stmt := inClass (topS 46) 6
abbrev s_Reader_number_within : Stmt := inClass (topS 46) 7
abbrev s_Reader_word_number : Stmt := inClass (topS 46) 8
abbrev s_Reader_card_name : Stmt := inClass (topS 46) 9
abbrev s_Reader_line_end : Stmt := inClass (topS 46) 10
abbrev s_Reader_head : Stmt := inClass (topS 46) 11
abbrev s_Reader_word_line : Stmt := inClass (topS 46) 12
abbrev s_Reader_act_of_words : Stmt := inClass (topS 46) 13
abbrev s_Reader_new_card : Stmt := inClass (topS 46) 14
abbrev s_Reader_act_of_card : Stmt := inClass (topS 46) 15
abbrev s_Reader_act_kind : Stmt := inClass (topS 46) 16
abbrev s_Reader_read_act : Stmt := inClass (topS 46) 17
abbrev s_Reader_read_line : Stmt := inClass (topS 46) 18
abbrev s_Past_init : Stmt := inClass (topS 63) 0
abbrev s_Desk_init : Stmt := inClass (topS 78) 0
def names0 : List PySem.Str := ["__name__", "WORD", "LINE_END", "EMPTY", "BLANK_pieces", "NEW_LINE_pieces", "MOST_LETTERS", "Fault", "piece", "pieces_of", "bytes_of", "is_name", "number_of", "UNDER", "APART", "CARD", "ADD", "GROW", "NOTCH", "Card", "State", "uppers_of", "above", "stands_under", "below", "posted", "card_number", "may_put", "may_be", "notch_all"]
def names1 : List PySem.Str := ["put_words", "do_card", "do_act", "state_behind", "state_if_may", "MOST_HOLES", "MOST_WORDS", "MOST_ACTS", "MOST_CARDS", "ACT_WORDS", "BLANK_files", "NEW_LINE_files", "File", "first_file", "Reader", "read_file", "with_act", "digits", "line_of", "act_line", "text_of", "NEITHER", "RIGHT", "MISSED", "STALE", "MIXED", "MOST_MIXERS", "falls", "is_wanted", "wanted_pairs"]
def names2 : List PySem.Str := ["Past", "kind_of", "lacks", "bad_pair", "rows_of", "words_behind", "hold_all", "mixers", "steps_to", "way_up", "all_kinds", "changes", "cards_told", "may_swap", "Desk", "listed", "state_at", "past_at", "cards_at", "refused_acts", "refused_word", "refused_card", "refused_act", "refused_by", "are_bytes", "told", "clear", "put_file", "look", "text"]
def names3 : List PySem.Str := ["put_act", "undo", "told_call", "above_call", "below_call", "posted_call", "card_call", "falls_call", "wants_call", "judge", "lacks_call", "nest", "row_or_none", "mixers_call", "why", "way", "changes_call", "swap", "needs", "DEEDS", "KINDS", "WITH_TEXT", "answer", "row_at"]
def names : List PySem.Str := names0 ++ names1 ++ names2 ++ names3
def d_piece : He.DefD := ⟨("piece", none), "piece", "piece", defArgs s_piece, defBody s_piece, defScope s_piece, [], []⟩
def d_pieces_of : He.DefD := ⟨("pieces_of", none), "pieces_of", "pieces_of", defArgs s_pieces_of, defBody s_pieces_of, defScope s_pieces_of, [], []⟩
def d_bytes_of : He.DefD := ⟨("bytes_of", none), "bytes_of", "bytes_of", defArgs s_bytes_of, defBody s_bytes_of, defScope s_bytes_of, [], []⟩
def d_is_name : He.DefD := ⟨("is_name", none), "is_name", "is_name", defArgs s_is_name, defBody s_is_name, defScope s_is_name, [], []⟩
def d_number_of : He.DefD := ⟨("number_of", none), "number_of", "number_of", defArgs s_number_of, defBody s_number_of, defScope s_number_of, [], []⟩
def d_uppers_of : He.DefD := ⟨("uppers_of", none), "uppers_of", "uppers_of", defArgs s_uppers_of, defBody s_uppers_of, defScope s_uppers_of, [], []⟩
def d_above : He.DefD := ⟨("above", none), "above", "above", defArgs s_above, defBody s_above, defScope s_above, [], []⟩
def d_stands_under : He.DefD := ⟨("stands_under", none), "stands_under", "stands_under", defArgs s_stands_under, defBody s_stands_under, defScope s_stands_under, [], []⟩
def d_below : He.DefD := ⟨("below", none), "below", "below", defArgs s_below, defBody s_below, defScope s_below, [], []⟩
def d_posted : He.DefD := ⟨("posted", none), "posted", "posted", defArgs s_posted, defBody s_posted, defScope s_posted, [], []⟩
def d_card_number : He.DefD := ⟨("card_number", none), "card_number", "card_number", defArgs s_card_number, defBody s_card_number, defScope s_card_number, [], []⟩
def d_may_put : He.DefD := ⟨("may_put", none), "may_put", "may_put", defArgs s_may_put, defBody s_may_put, defScope s_may_put, [], []⟩
def d_may_be : He.DefD := ⟨("may_be", none), "may_be", "may_be", defArgs s_may_be, defBody s_may_be, defScope s_may_be, [], []⟩
def d_notch_all : He.DefD := ⟨("notch_all", none), "notch_all", "notch_all", defArgs s_notch_all, defBody s_notch_all, defScope s_notch_all, [], []⟩
def d_put_words : He.DefD := ⟨("put_words", none), "put_words", "put_words", defArgs s_put_words, defBody s_put_words, defScope s_put_words, [], []⟩
def d_do_card : He.DefD := ⟨("do_card", none), "do_card", "do_card", defArgs s_do_card, defBody s_do_card, defScope s_do_card, [], []⟩
def d_do_act : He.DefD := ⟨("do_act", none), "do_act", "do_act", defArgs s_do_act, defBody s_do_act, defScope s_do_act, [], []⟩
def d_state_behind : He.DefD := ⟨("state_behind", none), "state_behind", "state_behind", defArgs s_state_behind, defBody s_state_behind, defScope s_state_behind, [], []⟩
def d_state_if_may : He.DefD := ⟨("state_if_may", none), "state_if_may", "state_if_may", defArgs s_state_if_may, defBody s_state_if_may, defScope s_state_if_may, [], []⟩
def d_first_file : He.DefD := ⟨("first_file", none), "first_file", "first_file", defArgs s_first_file, defBody s_first_file, defScope s_first_file, [], []⟩
def d_read_file : He.DefD := ⟨("read_file", none), "read_file", "read_file", defArgs s_read_file, defBody s_read_file, defScope s_read_file, [], []⟩
def d_with_act : He.DefD := ⟨("with_act", none), "with_act", "with_act", defArgs s_with_act, defBody s_with_act, defScope s_with_act, [], []⟩
def d_digits : He.DefD := ⟨("digits", none), "digits", "digits", defArgs s_digits, defBody s_digits, defScope s_digits, [], []⟩
def d_line_of : He.DefD := ⟨("line_of", none), "line_of", "line_of", defArgs s_line_of, defBody s_line_of, defScope s_line_of, [], []⟩
def d_act_line : He.DefD := ⟨("act_line", none), "act_line", "act_line", defArgs s_act_line, defBody s_act_line, defScope s_act_line, [], []⟩
def d_text_of : He.DefD := ⟨("text_of", none), "text_of", "text_of", defArgs s_text_of, defBody s_text_of, defScope s_text_of, [], []⟩
def d_falls : He.DefD := ⟨("falls", none), "falls", "falls", defArgs s_falls, defBody s_falls, defScope s_falls, [], []⟩
def d_is_wanted : He.DefD := ⟨("is_wanted", none), "is_wanted", "is_wanted", defArgs s_is_wanted, defBody s_is_wanted, defScope s_is_wanted, [], []⟩
def d_wanted_pairs : He.DefD := ⟨("wanted_pairs", none), "wanted_pairs", "wanted_pairs", defArgs s_wanted_pairs, defBody s_wanted_pairs, defScope s_wanted_pairs, [], []⟩
def d_kind_of : He.DefD := ⟨("kind_of", none), "kind_of", "kind_of", defArgs s_kind_of, defBody s_kind_of, defScope s_kind_of, [], []⟩
def d_lacks : He.DefD := ⟨("lacks", none), "lacks", "lacks", defArgs s_lacks, defBody s_lacks, defScope s_lacks, [], []⟩
def d_bad_pair : He.DefD := ⟨("bad_pair", none), "bad_pair", "bad_pair", defArgs s_bad_pair, defBody s_bad_pair, defScope s_bad_pair, [], []⟩
def d_rows_of : He.DefD := ⟨("rows_of", none), "rows_of", "rows_of", defArgs s_rows_of, defBody s_rows_of, defScope s_rows_of, [], []⟩
def d_words_behind : He.DefD := ⟨("words_behind", none), "words_behind", "words_behind", defArgs s_words_behind, defBody s_words_behind, defScope s_words_behind, [], []⟩
def d_hold_all : He.DefD := ⟨("hold_all", none), "hold_all", "hold_all", defArgs s_hold_all, defBody s_hold_all, defScope s_hold_all, [], []⟩
def d_mixers : He.DefD := ⟨("mixers", none), "mixers", "mixers", defArgs s_mixers, defBody s_mixers, defScope s_mixers, [], []⟩
def d_steps_to : He.DefD := ⟨("steps_to", none), "steps_to", "steps_to", defArgs s_steps_to, defBody s_steps_to, defScope s_steps_to, [], []⟩
def d_way_up : He.DefD := ⟨("way_up", none), "way_up", "way_up", defArgs s_way_up, defBody s_way_up, defScope s_way_up, [], []⟩
def d_all_kinds : He.DefD := ⟨("all_kinds", none), "all_kinds", "all_kinds", defArgs s_all_kinds, defBody s_all_kinds, defScope s_all_kinds, [], []⟩
def d_changes : He.DefD := ⟨("changes", none), "changes", "changes", defArgs s_changes, defBody s_changes, defScope s_changes, [], []⟩
def d_cards_told : He.DefD := ⟨("cards_told", none), "cards_told", "cards_told", defArgs s_cards_told, defBody s_cards_told, defScope s_cards_told, [], []⟩
def d_may_swap : He.DefD := ⟨("may_swap", none), "may_swap", "may_swap", defArgs s_may_swap, defBody s_may_swap, defScope s_may_swap, [], []⟩
def d_listed : He.DefD := ⟨("listed", none), "listed", "listed", defArgs s_listed, defBody s_listed, defScope s_listed, [], []⟩
def d_state_at : He.DefD := ⟨("state_at", none), "state_at", "state_at", defArgs s_state_at, defBody s_state_at, defScope s_state_at, [], []⟩
def d_past_at : He.DefD := ⟨("past_at", none), "past_at", "past_at", defArgs s_past_at, defBody s_past_at, defScope s_past_at, [], []⟩
def d_cards_at : He.DefD := ⟨("cards_at", none), "cards_at", "cards_at", defArgs s_cards_at, defBody s_cards_at, defScope s_cards_at, [], []⟩
def d_refused_acts : He.DefD := ⟨("refused_acts", none), "refused_acts", "refused_acts", defArgs s_refused_acts, defBody s_refused_acts, defScope s_refused_acts, [], []⟩
def d_refused_word : He.DefD := ⟨("refused_word", none), "refused_word", "refused_word", defArgs s_refused_word, defBody s_refused_word, defScope s_refused_word, [], []⟩
def d_refused_card : He.DefD := ⟨("refused_card", none), "refused_card", "refused_card", defArgs s_refused_card, defBody s_refused_card, defScope s_refused_card, [], []⟩
def d_refused_act : He.DefD := ⟨("refused_act", none), "refused_act", "refused_act", defArgs s_refused_act, defBody s_refused_act, defScope s_refused_act, [], []⟩
def d_refused_by : He.DefD := ⟨("refused_by", none), "refused_by", "refused_by", defArgs s_refused_by, defBody s_refused_by, defScope s_refused_by, [], []⟩
def d_are_bytes : He.DefD := ⟨("are_bytes", none), "are_bytes", "are_bytes", defArgs s_are_bytes, defBody s_are_bytes, defScope s_are_bytes, [], []⟩
def d_told : He.DefD := ⟨("told", none), "told", "told", defArgs s_told, defBody s_told, defScope s_told, [], []⟩
def d_clear : He.DefD := ⟨("clear", none), "clear", "clear", defArgs s_clear, defBody s_clear, defScope s_clear, [], []⟩
def d_put_file : He.DefD := ⟨("put_file", none), "put_file", "put_file", defArgs s_put_file, defBody s_put_file, defScope s_put_file, [], []⟩
def d_look : He.DefD := ⟨("look", none), "look", "look", defArgs s_look, defBody s_look, defScope s_look, [], []⟩
def d_text : He.DefD := ⟨("text", none), "text", "text", defArgs s_text, defBody s_text, defScope s_text, [], []⟩
def d_put_act : He.DefD := ⟨("put_act", none), "put_act", "put_act", defArgs s_put_act, defBody s_put_act, defScope s_put_act, [], []⟩
def d_undo : He.DefD := ⟨("undo", none), "undo", "undo", defArgs s_undo, defBody s_undo, defScope s_undo, [], []⟩
def d_told_call : He.DefD := ⟨("told_call", none), "told_call", "told_call", defArgs s_told_call, defBody s_told_call, defScope s_told_call, [], []⟩
def d_above_call : He.DefD := ⟨("above_call", none), "above_call", "above_call", defArgs s_above_call, defBody s_above_call, defScope s_above_call, [], []⟩
def d_below_call : He.DefD := ⟨("below_call", none), "below_call", "below_call", defArgs s_below_call, defBody s_below_call, defScope s_below_call, [], []⟩
def d_posted_call : He.DefD := ⟨("posted_call", none), "posted_call", "posted_call", defArgs s_posted_call, defBody s_posted_call, defScope s_posted_call, [], []⟩
def d_card_call : He.DefD := ⟨("card_call", none), "card_call", "card_call", defArgs s_card_call, defBody s_card_call, defScope s_card_call, [], []⟩
def d_falls_call : He.DefD := ⟨("falls_call", none), "falls_call", "falls_call", defArgs s_falls_call, defBody s_falls_call, defScope s_falls_call, [], []⟩
def d_wants_call : He.DefD := ⟨("wants_call", none), "wants_call", "wants_call", defArgs s_wants_call, defBody s_wants_call, defScope s_wants_call, [], []⟩
def d_judge : He.DefD := ⟨("judge", none), "judge", "judge", defArgs s_judge, defBody s_judge, defScope s_judge, [], []⟩
def d_lacks_call : He.DefD := ⟨("lacks_call", none), "lacks_call", "lacks_call", defArgs s_lacks_call, defBody s_lacks_call, defScope s_lacks_call, [], []⟩
def d_nest : He.DefD := ⟨("nest", none), "nest", "nest", defArgs s_nest, defBody s_nest, defScope s_nest, [], []⟩
def d_row_or_none : He.DefD := ⟨("row_or_none", none), "row_or_none", "row_or_none", defArgs s_row_or_none, defBody s_row_or_none, defScope s_row_or_none, [], []⟩
def d_mixers_call : He.DefD := ⟨("mixers_call", none), "mixers_call", "mixers_call", defArgs s_mixers_call, defBody s_mixers_call, defScope s_mixers_call, [], []⟩
def d_why : He.DefD := ⟨("why", none), "why", "why", defArgs s_why, defBody s_why, defScope s_why, [], []⟩
def d_way : He.DefD := ⟨("way", none), "way", "way", defArgs s_way, defBody s_way, defScope s_way, [], []⟩
def d_changes_call : He.DefD := ⟨("changes_call", none), "changes_call", "changes_call", defArgs s_changes_call, defBody s_changes_call, defScope s_changes_call, [], []⟩
def d_swap : He.DefD := ⟨("swap", none), "swap", "swap", defArgs s_swap, defBody s_swap, defScope s_swap, [], []⟩
def d_needs : He.DefD := ⟨("needs", none), "needs", "needs", defArgs s_needs, defBody s_needs, defScope s_needs, [], []⟩
def d_answer : He.DefD := ⟨("answer", none), "answer", "answer", defArgs s_answer, defBody s_answer, defScope s_answer, [], []⟩
def d_row_at : He.DefD := ⟨("row_at", none), "row_at", "row_at", defArgs s_row_at, defBody s_row_at, defScope s_row_at, [], []⟩
def d_answers : He.DefD := ⟨("answers", none), "answers", "answers", defArgs s_answers, defBody s_answers, defScope s_answers, [], []⟩
def d_Fault_init : He.DefD := ⟨("Fault", some "__init__"), "__init__", "Fault.__init__", defArgs s_Fault_init, defBody s_Fault_init, defScope s_Fault_init, [], []⟩
def d_Card_init : He.DefD := ⟨("Card", some "__init__"), "__init__", "Card.__init__", defArgs s_Card_init, defBody s_Card_init, defScope s_Card_init, [], []⟩
def d_State_init : He.DefD := ⟨("State", some "__init__"), "__init__", "State.__init__", defArgs s_State_init, defBody s_State_init, defScope s_State_init, [], []⟩
def d_File_init : He.DefD := ⟨("File", some "__init__"), "__init__", "File.__init__", defArgs s_File_init, defBody s_File_init, defScope s_File_init, [], []⟩
def d_Reader_init : He.DefD := ⟨("Reader", some "__init__"), "__init__", "Reader.__init__", defArgs s_Reader_init, defBody s_Reader_init, defScope s_Reader_init, [], []⟩
def d_Reader_is_over : He.DefD := ⟨("Reader", some "is_over"), "is_over", "Reader.is_over", defArgs s_Reader_is_over, defBody s_Reader_is_over, defScope s_Reader_is_over, [], []⟩
def d_Reader_fail : He.DefD := ⟨("Reader", some "fail"), "fail", "Reader.fail", defArgs s_Reader_fail, defBody s_Reader_fail, defScope s_Reader_fail, [], []⟩
def d_Reader_row : He.DefD := ⟨("Reader", some "row"), "row", "Reader.row", defArgs s_Reader_row, defBody s_Reader_row, defScope s_Reader_row, [], []⟩
def d_Reader_is_word : He.DefD := ⟨("Reader", some "is_word"), "is_word", "Reader.is_word", defArgs s_Reader_is_word, defBody s_Reader_is_word, defScope s_Reader_is_word, [], []⟩
def d_Reader_is_just : He.DefD := ⟨("Reader", some "is_just"), "is_just", "Reader.is_just", defArgs s_Reader_is_just, defBody s_Reader_is_just, defScope s_Reader_is_just, [], []⟩
def d_Reader_go_on : He.DefD := ⟨("Reader", some "go_on"), "go_on", "Reader.go_on", defArgs s_Reader_go_on, defBody s_Reader_go_on, defScope s_Reader_go_on, [], []⟩
def d_Reader_number_within : He.DefD := ⟨("Reader", some "number_within"), "number_within", "Reader.number_within", defArgs s_Reader_number_within, defBody s_Reader_number_within, defScope s_Reader_number_within, [], []⟩
def d_Reader_word_number : He.DefD := ⟨("Reader", some "word_number"), "word_number", "Reader.word_number", defArgs s_Reader_word_number, defBody s_Reader_word_number, defScope s_Reader_word_number, [], []⟩
def d_Reader_card_name : He.DefD := ⟨("Reader", some "card_name"), "card_name", "Reader.card_name", defArgs s_Reader_card_name, defBody s_Reader_card_name, defScope s_Reader_card_name, [], []⟩
def d_Reader_line_end : He.DefD := ⟨("Reader", some "line_end"), "line_end", "Reader.line_end", defArgs s_Reader_line_end, defBody s_Reader_line_end, defScope s_Reader_line_end, [], []⟩
def d_Reader_head : He.DefD := ⟨("Reader", some "head"), "head", "Reader.head", defArgs s_Reader_head, defBody s_Reader_head, defScope s_Reader_head, [], []⟩
def d_Reader_word_line : He.DefD := ⟨("Reader", some "word_line"), "word_line", "Reader.word_line", defArgs s_Reader_word_line, defBody s_Reader_word_line, defScope s_Reader_word_line, [], []⟩
def d_Reader_act_of_words : He.DefD := ⟨("Reader", some "act_of_words"), "act_of_words", "Reader.act_of_words", defArgs s_Reader_act_of_words, defBody s_Reader_act_of_words, defScope s_Reader_act_of_words, [], []⟩
def d_Reader_new_card : He.DefD := ⟨("Reader", some "new_card"), "new_card", "Reader.new_card", defArgs s_Reader_new_card, defBody s_Reader_new_card, defScope s_Reader_new_card, [], []⟩
def d_Reader_act_of_card : He.DefD := ⟨("Reader", some "act_of_card"), "act_of_card", "Reader.act_of_card", defArgs s_Reader_act_of_card, defBody s_Reader_act_of_card, defScope s_Reader_act_of_card, [], []⟩
def d_Reader_act_kind : He.DefD := ⟨("Reader", some "act_kind"), "act_kind", "Reader.act_kind", defArgs s_Reader_act_kind, defBody s_Reader_act_kind, defScope s_Reader_act_kind, [], []⟩
def d_Reader_read_act : He.DefD := ⟨("Reader", some "read_act"), "read_act", "Reader.read_act", defArgs s_Reader_read_act, defBody s_Reader_read_act, defScope s_Reader_read_act, [], []⟩
def d_Reader_read_line : He.DefD := ⟨("Reader", some "read_line"), "read_line", "Reader.read_line", defArgs s_Reader_read_line, defBody s_Reader_read_line, defScope s_Reader_read_line, [], []⟩
def d_Past_init : He.DefD := ⟨("Past", some "__init__"), "__init__", "Past.__init__", defArgs s_Past_init, defBody s_Past_init, defScope s_Past_init, [], []⟩
def d_Desk_init : He.DefD := ⟨("Desk", some "__init__"), "__init__", "Desk.__init__", defArgs s_Desk_init, defBody s_Desk_init, defScope s_Desk_init, [], []⟩
def fn0 : List He.DefD := [d_piece, d_pieces_of, d_bytes_of, d_is_name, d_number_of, d_uppers_of, d_above, d_stands_under, d_below, d_posted, d_card_number, d_may_put, d_may_be, d_notch_all, d_put_words, d_do_card, d_do_act, d_state_behind, d_state_if_may, d_first_file, d_read_file, d_with_act, d_digits, d_line_of, d_act_line, d_text_of, d_falls, d_is_wanted, d_wanted_pairs, d_kind_of]
def fn1 : List He.DefD := [d_lacks, d_bad_pair, d_rows_of, d_words_behind, d_hold_all, d_mixers, d_steps_to, d_way_up, d_all_kinds, d_changes, d_cards_told, d_may_swap, d_listed, d_state_at, d_past_at, d_cards_at, d_refused_acts, d_refused_word, d_refused_card, d_refused_act, d_refused_by, d_are_bytes, d_told, d_clear, d_put_file, d_look, d_text, d_put_act, d_undo, d_told_call]
def fn2 : List He.DefD := [d_above_call, d_below_call, d_posted_call, d_card_call, d_falls_call, d_wants_call, d_judge, d_lacks_call, d_nest, d_row_or_none, d_mixers_call, d_why, d_way, d_changes_call, d_swap, d_needs, d_answer, d_row_at, d_answers, d_Fault_init, d_Card_init, d_State_init, d_File_init, d_Reader_init, d_Reader_is_over, d_Reader_fail, d_Reader_row, d_Reader_is_word, d_Reader_is_just, d_Reader_go_on]
def fn3 : List He.DefD := [d_Reader_number_within, d_Reader_word_number, d_Reader_card_name, d_Reader_line_end, d_Reader_head, d_Reader_word_line, d_Reader_act_of_words, d_Reader_new_card, d_Reader_act_of_card, d_Reader_act_kind, d_Reader_read_act, d_Reader_read_line, d_Past_init, d_Desk_init]
def fn : List He.DefD := fn0 ++ fn1 ++ fn2 ++ fn3
def fa0 : List He.Fa := [.glo "piece", .glo "pieces_of", .glo "bytes_of", .glo "is_name", .glo "number_of", .glo "uppers_of", .glo "above", .glo "stands_under", .glo "below", .glo "posted", .glo "card_number", .glo "may_put", .glo "may_be", .glo "notch_all", .glo "put_words", .glo "do_card", .glo "do_act", .glo "state_behind", .glo "state_if_may", .glo "first_file", .glo "read_file", .glo "with_act", .glo "digits", .glo "line_of", .glo "act_line", .glo "text_of", .glo "falls", .glo "is_wanted", .glo "wanted_pairs", .glo "kind_of"]
def fa1 : List He.Fa := [.glo "lacks", .glo "bad_pair", .glo "rows_of", .glo "words_behind", .glo "hold_all", .glo "mixers", .glo "steps_to", .glo "way_up", .glo "all_kinds", .glo "changes", .glo "cards_told", .glo "may_swap", .glo "listed", .glo "state_at", .glo "past_at", .glo "cards_at", .glo "refused_acts", .glo "refused_word", .glo "refused_card", .glo "refused_act", .glo "refused_by", .glo "are_bytes", .glo "told", .glo "clear", .glo "put_file", .glo "look", .glo "text", .glo "put_act", .glo "undo", .glo "told_call"]
def fa2 : List He.Fa := [.glo "above_call", .glo "below_call", .glo "posted_call", .glo "card_call", .glo "falls_call", .glo "wants_call", .glo "judge", .glo "lacks_call", .glo "nest", .glo "row_or_none", .glo "mixers_call", .glo "why", .glo "way", .glo "changes_call", .glo "swap", .glo "needs", .glo "answer", .glo "row_at", .glo "answers", .glo "Fault", .glo "Card", .glo "State", .glo "File", .glo "Reader", .glo "Past", .glo "Desk", .cls "Card", .mkr "Card", .noat "Card" "name", .noat "Card" "words"]
def fa3 : List He.Fa := [.noat "Card" "notches", .cls "State", .mkr "State", .noat "State" "marks", .noat "State" "links", .noat "State" "cards", .cls "File", .mkr "File", .noat "File" "holes", .noat "File" "names", .noat "File" "marks", .noat "File" "acts", .cls "Reader", .mkr "Reader", .noat "Reader" "pieces", .noat "Reader" "length", .noat "Reader" "at", .noat "Reader" "file", .noat "Reader" "state", .cls "Past", .mkr "Past", .noat "Past" "state", .noat "Past" "ever", .cls "Desk", .mkr "Desk", .noat "Desk" "file", .meth "Reader" "is_over", .meth "Reader" "fail", .meth "Reader" "row", .meth "Reader" "is_word"]
def fa4 : List He.Fa := [.meth "Reader" "is_just", .meth "Reader" "go_on", .meth "Reader" "number_within", .meth "Reader" "word_number", .meth "Reader" "card_name", .meth "Reader" "line_end", .meth "Reader" "head", .meth "Reader" "word_line", .meth "Reader" "act_of_words", .meth "Reader" "new_card", .meth "Reader" "act_of_card", .meth "Reader" "act_kind", .meth "Reader" "read_act", .meth "Reader" "read_line", .int "WORD" 0, .int "LINE_END" 1, .int "EMPTY" 2, .int "BLANK_pieces" 32, .int "NEW_LINE_pieces" 10, .int "MOST_LETTERS" 12, .int "UNDER" 0, .int "APART" 1, .int "CARD" 2, .int "ADD" 3, .int "GROW" 4, .int "NOTCH" 5, .int "MOST_HOLES" 16, .int "MOST_WORDS" 12, .int "MOST_ACTS" 80, .int "MOST_CARDS" 20]
def fa5 : List He.Fa := [.int "BLANK_files" 32, .int "NEW_LINE_files" 10, .int "NEITHER" 0, .int "RIGHT" 1, .int "MISSED" 2, .int "STALE" 3, .int "MIXED" 4, .int "MOST_MIXERS" 3, .free "len", .free "all", .free "any", .free "range", .free "enumerate", .free "sorted", .free "list", .free "tuple", .free "ord", .free "zip", .free "min", .free "int", .free "str", .noat "Fault" "place", .exm "Fault" "Fault" true, .keep "Fault", .glo "ACT_WORDS", .glo "DEEDS", .glo "KINDS", .glo "WITH_TEXT"]
def fa : List He.Fa := fa0 ++ fa1 ++ fa2 ++ fa3 ++ fa4 ++ fa5
def tv_ACT_WORDS : List He.Dv := [.str "under", .str "apart", .str "card", .str "add", .str "grow", .str "notch"]
def tv_DEEDS : List He.Dv := [.glo "clear", .glo "put_file", .glo "look", .glo "text", .glo "put_act", .glo "undo", .glo "told_call", .glo "above_call", .glo "below_call", .glo "posted_call", .glo "card_call", .glo "falls_call", .glo "wants_call", .glo "judge", .glo "lacks_call", .glo "nest", .glo "mixers_call", .glo "why", .glo "way", .glo "changes_call", .glo "swap", .glo "needs"]
def tv_KINDS : List He.Dv := [.str "", .str "", .str "", .str "", .str "", .str "k", .str "", .str "kw", .str "kw", .str "kw", .str "kc", .str "kw", .str "kw", .str "kw", .str "kc", .str "k", .str "kw", .str "kwc", .str "kww", .str "a", .str "n", .str "k"]
def tv_WITH_TEXT : List He.Dv := [.int 1, .int 2, .int 4]
def exB (K : PySem.W.Frag) : Bool := oexB K (He.ga K "Fault") && (xfB K (He.ga K "Fault") && (He.tupB K "ACT_WORDS" tv_ACT_WORDS && (He.tupB K "DEEDS" tv_DEEDS && (He.tupB K "KINDS" tv_KINDS && (He.tupB K "WITH_TEXT" tv_WITH_TEXT)))))
/-! ### the Hook: what the top has written, by names -/
def kAs0 : List Addr := [3, 31, 30, 80, 79, 101, 100, 215, 214, 369, 368, 443, 442, 537, 536, 198, 766, 767, 768, 28, 27, 41, 40, 48, 47, 53, 52, 58, 57, 63, 62, 77, 76, 98, 97, 110, 109, 117, 116, 124]
def kAs1 : List Addr := [123, 129, 128, 136, 135, 143, 142, 150, 149, 157, 156, 164, 163, 171, 170, 178, 177, 183, 182, 190, 189, 197, 196, 212, 211, 226, 225, 240, 239, 247, 246, 254, 253, 261, 260, 268, 267, 275, 274, 282]
def kAs2 : List Addr := [281, 289, 288, 296, 295, 303, 302, 310, 309, 317, 316, 324, 323, 331, 330, 338, 337, 345, 344, 352, 351, 359, 358, 366, 365, 380, 379, 387, 386, 394, 393, 401, 400, 406, 405, 411, 410, 416, 415, 421]
def kAs3 : List Addr := [420, 426, 425, 440, 439, 454, 453, 461, 460, 466, 465, 471, 470, 476, 475, 481, 480, 486, 485, 491, 490, 496, 495, 503, 502, 508, 507, 513, 512, 520, 519, 534, 533, 548, 547, 555, 554, 562, 561, 567]
def kAs4 : List Addr := [566, 574, 573, 581, 580, 588, 587, 595, 594, 602, 601, 607, 606, 612, 611, 619, 618, 626, 625, 633, 632, 640, 639, 647, 646, 654, 653, 661, 660, 668, 667, 675, 674, 682, 681, 689, 688, 694, 693, 699]
def kAs5 : List Addr := [698, 704, 703, 711, 710, 718, 717, 725, 724, 732, 731, 739, 738, 746, 745, 753, 752, 760, 759, 765, 764, 775, 774, 780, 779, 785, 784]
def kAs : List Addr := kAs0 ++ kAs1 ++ kAs2 ++ kAs3 ++ kAs4 ++ kAs5
abbrev AlB : Type := He.AlD × Bool
def obsB (g : Addr → Option Obj) : AlB := (He.obsD fa fn (He.frG g kAs), exB (He.frG g kAs))
def valB : AlB := (He.valD fn, true)
structure Top (K : PySem.W.Frag) : Prop where
  d : He.SaysD fa fn K
  e : exB K = true
def hkB : PySem.W.Hook where
  α := AlB
  obs := fun s => obsB s.heap.get?
  val := fun _ => valB
  says := fun _ h => ∃ K : PySem.W.Frag, K.In h ∧ Top K
  of := fun _ _ e => ⟨_, He.frG_in, ⟨congrArg (fun z : AlB => z.1) e, congrArg (fun z : AlB => z.2) e⟩⟩
  keeps := fun _ _ _ ⟨K, hK, c⟩ k => ⟨K, PySem.W.Frag.In.keeps hK k, c⟩
abbrev R : PySem.W.OpenSpec := PySem.Challenge.rw_broaderwords_s01_answers
abbrev qv : Program := PySem.W.view R.prog [118]
def ob (s : PySem.W.SharedT) : AlB := obsB (HandSHeadRun.getT s)
theorem ob_eq (s : PySem.W.SharedT) : ob s = hkB.obs s.abs := by
  have e : HandSHeadRun.getT s = s.abs.heap.get? := funext fun a => HandSHeadRun.getT_eq s a
  show obsB (HandSHeadRun.getT s) = obsB s.abs.heap.get?
  rw [e]
set_option maxHeartbeats 0 in
theorem run (w : World) : HandSHeadRun.RunEqS R qv hkB ob 12000 names w := by
  intro os
  kernel_rfl
end Bw
namespace Bw
open PySem PySem.Spec PyProof.Rows L2
/-! ### the program's top behind a call: facts by names -/
structure Env (P : Program) (w : World) (K : PySem.W.Frag) (mg : Str → Option Value) (base : Heap) : Prop where
  top : Top K
  kin : K.In base
  glob : base.Ns mainGlobals mg
section
variable {P : Program} {w : World} {K : PySem.W.Frag} {mg : Str → Option Value} {base : Heap}
theorem Env.int (E : Env P w K mg base) (i : Nat) {x : Str} {v : Int} (h : fa[i]? = some (.int x v) := by rfl) : ∃ u, mg x = some u ∧ RelV (.int v) u := by
  obtain ⟨t, e⟩ := He.int_ok E.kin E.glob (E.top.d.fact i h)
  exact ⟨_, e, t, rfl⟩
theorem Env.free (E : Env P w K mg base) (i : Nat) {x : Str} (h : fa[i]? = some (.free x) := by rfl) : mg x = none := He.free_ok E.kin E.glob (E.top.d.fact i h)
theorem Env.glo (E : Env P w K mg base) (i : Nat) {x : Str} (h : fa[i]? = some (.glo x) := by rfl) : mg x = some (.ref (He.ga K x)) := He.glo_ok E.kin E.glob (E.top.d.fact i h)
theorem Env.cls (E : Env P w K mg base) (i : Nat) {x : Str} (h : fa[i]? = some (.cls x) := by rfl) : Cls K (He.ga K x) := He.cls_ok (E.top.d.fact i h)
theorem Env.mkr (E : Env P w K mg base) (i : Nat) {x : Str} (h : fa[i]? = some (.mkr x) := by rfl) : Mk K (He.ga K x) (He.ma K (He.ga K x) "__init__") := He.mkr_ok (E.top.d.fact i h)
theorem Env.noat (E : Env P w K mg base) (i : Nat) {x f : Str} (h : fa[i]? = some (.noat x f) := by rfl) : NoAttr K (He.ga K x) f := He.noat_ok (E.top.d.fact i h)
theorem Env.meth (E : Env P w K mg base) (i : Nat) {x m : Str} (h : fa[i]? = some (.meth x m) := by rfl) : Meth K (He.ga K x) m (He.ma K (He.ga K x) m) := He.meth_ok (E.top.d.fact i h)
abbrev FnP (K : PySem.W.Frag) (x q : Str) (st : Stmt) (f : Addr) (fd : FuncData) : Prop := FunD K x q (defArgs st) (defBody st) (defScope st) [] [] f fd
/-- how many arguments a def's text binds, one behind another -/
abbrev BindT (x q : Str) (st : Stmt) (ps : List Str) : Prop := ∀ (kV doc pm : Value) (an : Option Addr) (cdv ct : Value) (us : List Value), us.length = ps.length →
  bindArgs (PySem.W.fnOf x q (defArgs st) (defBody st) (defScope st) .none kV doc pm an cdv ct) ⟨us, []⟩ = pure (ps.zip us)
/-- what a body's derivation and reading show -/
abbrev BodyT (CX : CXT) (P : Program) (w : World) (K : PySem.W.Frag) (mg : Str → Option Value) (base : Heap) (N : List Str) (q : Str) (st : Stmt) (f : Addr) (k : Nat) (sp : Sp) : Prop :=
  ∀ (cdv : Value) (A : Around) (outer : List PySem.Env) (s : Shared) (H : Hp) (vs : List V) (Q : VK) (E : XK), Room k (A.deeper (envOfC q (defScope st) s.heap.objs.size f cdv)) → sp vs H Q E →
    ∃ t, PSs (cxOf CX P w K mg base N q (defScope st) f cdv A outer s H E) (defBody st) t ∧ t { nx := fun _ H' => Q .non H', rt := Q } (start N vs) H
/-- a def of the module; a class's maker; a method -/
structure Cal (P : Program) (w : World) (K : PySem.W.Frag) (mg : Str → Option Value) (base : Heap) (CX : CXT) (k : Nat) (x : Str) (sp : Sp) : Prop where
  ex : ∃ (f : Addr) (fd : FuncData) (ps : List Str), FnOk P w K mg base CX k f fd ps sp ∧ mg x = some (.ref f) ∧ PySem.W.keepIn K (.ref f) = true ∧ Binds K fd ps []
structure Mak (P : Program) (w : World) (K : PySem.W.Frag) (mg : Str → Option Value) (base : Heap) (k : Nat) (x : Str) (sp : Sp) : Prop where
  ex : ∃ (f : Addr) (fd : FuncData) (ps : List Str), Mk K (He.ga K x) f ∧ FnOk P w K mg base CX0 k f fd ps sp ∧ mg x = some (.ref (He.ga K x)) ∧ Binds K fd ps []
structure Met (P : Program) (w : World) (K : PySem.W.Frag) (mg : Str → Option Value) (base : Heap) (CX : CXT) (k : Nat) (x m : Str) (sp : Sp) : Prop where
  ex : ∃ (f : Addr) (fd : FuncData) (ps : List Str), Cls K (He.ga K x) ∧ Meth K (He.ga K x) m f ∧ FnOk P w K mg base CX k f fd ps sp ∧ Binds K fd ps []
theorem mkCal {CX : CXT} {x : Str} {st : Stmt} {N ps : List Str} {k : Nat} {sp : Sp} (F : ∃ fd, FnP K x x st (He.ga K x) fd) (g : mg x = some (.ref (He.ga K x))) (S : FnScope N ps (defScope st)) (b : BindT x x st ps)
    (len : ∀ vs H Q E, sp vs H Q E → vs.length = ps.length) (body : BodyT CX P w K mg base N x st (He.ga K x) k sp) : Cal P w K mg base CX (k + 1) x sp := by
  obtain ⟨fd, F⟩ := F
  exact ⟨_, fd, ps, FunD.ok F S len body, g, F.kp, F.bindsN b⟩
theorem mkMak {x q : Str} {st : Stmt} {N ps : List Str} {k : Nat} {sp : Sp} (F : ∃ fd, FnP K "__init__" q st (He.ma K (He.ga K x) "__init__") fd) (g : mg x = some (.ref (He.ga K x))) (M : Mk K (He.ga K x) (He.ma K (He.ga K x) "__init__"))
    (S : FnScope N ps (defScope st)) (b : BindT "__init__" q st ps) (len : ∀ vs H Q E, sp vs H Q E → vs.length = ps.length) (body : BodyT CX0 P w K mg base N q st (He.ma K (He.ga K x) "__init__") k sp) : Mak P w K mg base (k + 1) x sp := by
  obtain ⟨fd, F⟩ := F
  exact ⟨_, fd, ps, M, FunD.ok F S len body, g, F.bindsN b⟩
theorem mkMet {CX : CXT} {x m q : Str} {st : Stmt} {N ps : List Str} {k : Nat} {sp : Sp} (F : ∃ fd, FnP K m q st (He.ma K (He.ga K x) m) fd) (c : Cls K (He.ga K x)) (M : Meth K (He.ga K x) m (He.ma K (He.ga K x) m))
    (S : FnScope N ps (defScope st)) (b : BindT m q st ps) (len : ∀ vs H Q E, sp vs H Q E → vs.length = ps.length) (body : BodyT CX P w K mg base N q st (He.ma K (He.ga K x) m) k sp) : Met P w K mg base CX (k + 1) x m sp := by
  obtain ⟨fd, F⟩ := F
  exact ⟨_, fd, ps, c, M, FunD.ok F S len body, F.bindsN b⟩
end
/-! ### calls: f(..), C(..), o.m(..) -/
def tCl (sp : Sp) (E : XK) (t : TA) : TE := fun σ H Q => t σ H fun vs H1 => sp vs H1 Q E
def tNew (C : Addr) (sp : Sp) (t : TA) : TE := fun σ H Q => t σ H fun vs H1 => ∀ x dx, H1 x = none → H1 dx = none → dx ≠ x →
  sp (.ref x :: vs) (upd (upd H1 dx (.own x)) x (.ins C dx [])) (fun v H2 => v = .non ∧ Q (.ref x) H2) E0
def tMt (C : Addr) (m : Str) (sp : Sp) (E : XK) (ta : TE) (t : TA) : TE := fun σ H Q => ta σ H fun x H1 => ∃ a dx fs, x = .ref a ∧ H1 a = some (.ins C dx fs) ∧ fs.lookup m = none ∧ t σ H1 fun vs H2 => sp (x :: vs) H2 Q E
section
variable {X : Cx} {CX : CXT} {k j : Nat} {x m : Str} {sp : Sp} {E : XK} {p pos apos : Pos} {e o : Expr} {es : List Expr} {ta : TE} {t : TA}
theorem pe_imp {e : Expr} {t u : TE} (h : PE X e t) (i : ∀ σ H Q, u σ H Q → t σ H Q) : PE X e u := ⟨fun pins s σ H Q I q => h.run pins s σ H Q I (i σ H Q q)⟩
theorem pe_c (c : Cal X.prog X.w X.K X.mg X.base CX k x sp) (hr : Room j X.A) (hk : k ≤ j) (hg : Gl X x) (hx : Passes CX X E) (ha : PA X (e :: es) t)
    (hdb : (x == ("__debug__" : Str)) = false := by decide) (he : starEach (e :: es) X.env = (false, eval e X.env) :: starEach es X.env := by rfl) (hpl : (backTo pos (starEach es X.env)).any (·.1) = false := by rfl) :
    PE X (.Call (.Name x p) (e :: es) [] pos) (tCl sp E t) := by
  obtain ⟨f, fd, ps, F, hm, kp, b⟩ := c.ex
  exact pe_imp (pe_call F (hr.mono hk) hg hm kp b .nil hx ha hdb he hpl) fun σ H Q q => by
    show t σ H fun vs H1 => sp (vs ++ []) H1 Q E
    simp only [List.append_nil]
    exact q
theorem pe_c0 (c : Cal X.prog X.w X.K X.mg X.base CX k x sp) (hr : Room j X.A) (hk : k ≤ j) (hg : Gl X x) (hx : Passes CX X E) (hdb : (x == ("__debug__" : Str)) = false := by decide) : PE X (.Call (.Name x p) [] [] pos) (tCl sp E tNil) := by
  obtain ⟨f, fd, ps, F, hm, kp, b⟩ := c.ex
  exact pe_call0 F (hr.mono hk) hg hm kp b .nil hx hdb
/-- in a try's body -/
theorem pe_cS {W : WX} (c : Cal X.prog X.w X.K X.mg X.base (L2.CX X.prog X.w) k x sp) (hr : Room j X.A) (hk : k ≤ j) (hg : Gl X x) (tk : Takes X W) (ha : PA X (e :: es) t)
    (hdb : (x == ("__debug__" : Str)) = false := by decide) (he : starEach (e :: es) X.env = (false, eval e X.env) :: starEach es X.env := by rfl) (hpl : (backTo pos (starEach es X.env)).any (·.1) = false := by rfl) :
    PE X (.Call (.Name x p) (e :: es) [] pos) (tCallS sp (WE W) t) := by
  obtain ⟨f, fd, ps, F, hm, kp, b⟩ := c.ex
  exact pe_callS F (hr.mono hk) hg hm kp b (fun σ => passAt tk σ) ha hdb he hpl
theorem pe_k (c : Mak X.prog X.w X.K X.mg X.base k x sp) (hr : Room j X.A) (hk : k + 1 ≤ j) (hg : Gl X x) (ha : PA X (e :: es) t)
    (hdb : (x == ("__debug__" : Str)) = false := by decide) (he : starEach (e :: es) X.env = (false, eval e X.env) :: starEach es X.env := by rfl) (hpl : (backTo pos (starEach es X.env)).any (·.1) = false := by rfl) :
    PE X (.Call (.Name x p) (e :: es) [] pos) (tNew (He.ga X.K x) sp t) := by
  obtain ⟨f, fd, ps, M, F, hm, b⟩ := c.ex
  exact pe_imp (pe_make M F (hr.mono hk) hg hm b .nil pass0 ha hdb he hpl) fun σ H Q q => by
    show t σ H fun vs H1 => ∀ x dx, H1 x = none → H1 dx = none → dx ≠ x → sp (.ref x :: (vs ++ [])) _ _ _
    simp only [List.append_nil]
    exact q
theorem pe_k0 (c : Mak X.prog X.w X.K X.mg X.base k x sp) (hr : Room j X.A) (hk : k + 1 ≤ j) (hg : Gl X x) (hdb : (x == ("__debug__" : Str)) = false := by decide) : PE X (.Call (.Name x p) [] [] pos) (tNew (He.ga X.K x) sp tNil) := by
  obtain ⟨f, fd, ps, M, F, hm, b⟩ := c.ex
  exact pe_make0 M F (hr.mono hk) hg hm b .nil pass0 hdb
theorem pe_m {pl : Sem Bool} (c : Met X.prog X.w X.K X.mg X.base CX k x m sp) (hr : Room j X.A) (hk : k ≤ j) (hx : Passes CX X E) (he : PE X o ta) (ha : PA X (e :: es) t)
    (hst : starEach (e :: es) X.env = (false, eval e X.env) :: starEach es X.env := by rfl) (hpl : (backTo pos (starEach es X.env)).any (·.1) = false := by rfl)
    (ht : eval (.Call (.Attribute o m apos) (e :: es) [] pos) X.env = (do let ov ← eval o X.env; standAt apos.atName; let (f, first) ← holding [ov] (getMethod ov m pl); callWith pos f first (backTo pos (starEach (e :: es) X.env)) (backToKw pos (keywordEach [] X.env))) := by rfl) :
    PE X (.Call (.Attribute o m apos) (e :: es) [] pos) (tMt (He.ga X.K x) m sp E ta t) := by
  obtain ⟨f, fd, ps, C, M, F, b⟩ := c.ex
  exact pe_imp (pe_meth he C M F (hr.mono hk) b .nil hx ha hst hpl ht) fun σ H Q q => by
    show ta σ H fun x H1 => ∃ a dx fs, x = .ref a ∧ H1 a = some (.ins _ dx fs) ∧ fs.lookup m = none ∧ t σ H1 fun vs H2 => sp (x :: (vs ++ [])) H2 Q E
    simp only [List.append_nil]
    exact q
theorem pe_m0 {pl : Sem Bool} (c : Met X.prog X.w X.K X.mg X.base CX k x m sp) (hr : Room j X.A) (hk : k ≤ j) (hx : Passes CX X E) (he : PE X o ta)
    (ht : eval (.Call (.Attribute o m apos) [] [] pos) X.env = (do let ov ← eval o X.env; standAt apos.atName; let (f, first) ← holding [ov] (getMethod ov m pl); callWith pos f first (backTo pos (starEach [] X.env)) (backToKw pos (keywordEach [] X.env))) := by rfl) :
    PE X (.Call (.Attribute o m apos) [] [] pos) (tMt (He.ga X.K x) m sp E ta tNil) := by
  obtain ⟨f, fd, ps, C, M, F, b⟩ := c.ex
  exact pe_meth0 he C M F (hr.mono hk) b .nil hx ht
theorem passX {E : XK} (tk : Takes X fun cls d _ H => E cls d H) : Passes (L2.CX X.prog X.w) X E := passes_call tk fun _ _ _ _ h => h
end
/-! ### heaps -/
/-- all that was tracked but what stands at S is as it was -/
def But (S : List Addr) (H H' : Hp) : Prop := ∀ b o, b ∉ S → H b = some o → H' b = some o
theorem But.refl (S : List Addr) (H : Hp) : But S H H := fun _ _ _ h => h
theorem But.trans {S : List Addr} {H H1 H2 : Hp} (a : But S H H1) (b : But S H1 H2) : But S H H2 := fun c o hc h => b c o hc (a c o hc h)
theorem But.mono {S S' : List Addr} {H H1 : Hp} (a : But S H H1) (h : ∀ b ∈ S, b ∈ S') : But S' H H1 := fun c o hc q => a c o (fun z => hc (h c z)) q
theorem But.of {S : List Addr} {H H1 : Hp} (a : Same H H1) : But S H H1 := fun c o _ h => a c o h
theorem But.upd {S : List Addr} {H H1 : Hp} {l : Addr} {o : HO} (a : But S H H1) (hl : l ∈ S) : But S H (upd H1 l o) := fun c u hc h => by
  rw [upd_ne (fun z => hc (by rw [z]; exact hl))]
  exact a c u hc h
theorem Same.new {H : Hp} {p : Addr} {o : HO} (hp : H p = none) : Same H (upd H p o) := fun b u e => by
  rw [upd_ne (ne_of_none e hp)]
  exact e
/-- a store to what the first heap does not know -/
theorem Same.put {H H1 : Hp} {p : Addr} {o : HO} (s : Same H H1) (hp : H p = none) : Same H (upd H1 p o) := fun b u e => by
  rw [upd_ne (ne_of_none e hp)]
  exact s b u e
/-- a store told as a new heap -/
theorem Same.hide {H : Hp} {p : Addr} {o : HO} {R : Hp → Prop} (hp : H p = none) (h : ∀ H', Same H H' → H' p = some o → R H') : R (upd H p o) := h _ (Same.new hp) upd_same
/-- a new object's question, the heap behind it a letter -/
theorem new_hide {H : Hp} {o : HO} {Q : VK} (h : ∀ p H', H p = none → Same H H' → H' p = some o → Q (.ref p) H') : ∀ p, H p = none → Q (.ref p) (upd H p o) := fun p hp => h p _ hp (Same.new hp) upd_same
/-- the field lists' words -/
theorem lk_here {k : Str} {v : V} {r : List (Str × V)} : List.lookup k ((k, v) :: r) = some v := by
  have e : (k == k) = true := beq_self_eq_true k
  simp only [List.lookup, e]
theorem lk_past {k g : Str} {v : V} {r : List (Str × V)} (h : (k == g) = false) : List.lookup k ((g, v) :: r) = List.lookup k r := by
  simp only [List.lookup, h]
theorem sz_le {n : Nat} (h : n ≤ 100000) : n ≤ sizeLine := Nat.le_trans h (by decide)
theorem sz_lt {n : Nat} (h : n < 100000) : n < sizeLine := Nat.lt_of_lt_of_le h (by decide)
theorem if_t {c : Bool} {A B : Prop} (hc : c = true) (h : A) : if c = true then A else B := by
  rw [if_pos hc]
  exact h
theorem if_f {c : Bool} {A B : Prop} (hc : c = false) (h : B) : if c = true then A else B := by
  rw [hc, if_neg Bool.false_ne_true]
  exact h
/-- numbers as values -/
abbrev nV (l : List Nat) : List V := l.map fun n => V.int (n : Nat)
abbrev TupN (H : Hp) (a : Addr) (l : List Nat) : Prop := H a = some (.tup (nV l))
abbrev LstN (H : Hp) (a : Addr) (l : List Nat) : Prop := H a = some (.lst (nV l))
end Bw
namespace Bw
open PySem PySem.Spec PyProof.Rows L2
/-! ### rules that the layer lacks -/
theorem hu65 {A : Around} {k : Nat} (hr : Room k A) : A.units + 65 < cLine := by
  have h := hr.un
  omega
section
variable {X : Cx}
/-- xs.extend(t), t a tuple -/
def rExtT (K : PySem.W.Frag) : V → List V → Hp → VK → Prop := fun x vs H Q => ∃ l b xs zs, x = .ref l ∧ vs = [.ref b] ∧ H l = some (.lst xs) ∧ SqT K H b zs ∧ xs.length + zs.length ≤ sizeLine ∧ Q .non (upd H l (.lst (xs ++ zs)))
theorem sig_extT (l : Addr) (items : Array Value) (n : Nat) (b : Addr) (o : Obj) (items2 : Array Value) (n2 : Nat) (hc : o.cls = .type "tuple") (hd : o.data = .seq items2 n2) (h0 : ¬(!items.isEmpty && Builtin.List.listTooLong (items.size + items2.size)) = true)
    (h1 : items.size ≤ sizeLine) (h2 : items.size + items2.size ≤ sizeLine + 1) :
    Meets (Builtin.«list.extend» ⟨[.ref l, .ref b], []⟩) (fun _ R s => s.heap.get? l = some { cls := .type "list", dict := none, data := .seq items n, slots := #[] } ∧ s.heap.get? b = some o ∧
      R (.ok (.ret Value.none)) { s with heap := s.heap.update l (Obj.mapSeq fun x => x ++ items2), toks := s.toks }) :=
  .of_wp fun prog w A R s h => by
    obtain ⟨c, dd, dt, sl⟩ := o
    replace hc : c = .type "tuple" := hc
    replace hd : dt = .seq items2 n2 := hd
    subst hc
    subst hd
    obtain ⟨hp, g, d, tk, os⟩ := s
    obtain ⟨hl, hb, h⟩ := h
    have f1 := AutoSeq1.idx_int
    have f2 := AutoSeq1.sub_tuple_tuple
    have f3 := AutoSeq1.sub_list_list
    have f4 := AutoSeq1.sub_tuple_list
    have f5 := AutoSeq1.sub_list_tuple
    have hz' : (items ++ items2).size ≤ sizeLine + 1 := by
      rw [Array.size_append]
      exact h2
    wp_walk using (wpAny_updateSeq hl rfl (hz := h1) (_hz' := hz')), AutoSeq1.wpAny_loadPart' hl, AutoSeq1.wpAny_loadPart' hb
    exact ⟨_, rfl, h⟩
theorem mt_extendT : MtM X "list.extend" (rExtT X.K) := by
  intro pins s σ H x vs v us Q I rx rv h
  obtain ⟨l, b, xs, zs, rfl, rfl, hH, hB, hz, q⟩ := h
  cases rx
  obtain ⟨u, rfl, ru⟩ := rv.one
  cases ru
  obtain ⟨z, its, n, r, hl, e⟩ := I.lstM hH
  obtain ⟨its2, r2, ⟨o, ho, hc, n2, hd⟩, hz2⟩ := I.tuple hB
  have hl2 := r2.length
  have hsz : its.toArray.size + its2.toArray.size ≤ sizeLine := by
    rw [List.size_toArray, List.size_toArray]
    omega
  have hlong : ¬ (!its.toArray.isEmpty && Builtin.List.listTooLong (its.toArray.size + its2.toArray.size)) = true := by
    rw [notLongL hsz, Bool.and_false]
    exact Bool.false_ne_true
  have meets := sig_extT l its.toArray n b o its2.toArray n2 hc hd hlong (by rw [List.size_toArray]; omega) (by omega)
  refine call_meets F.slot_list_extend ⟨_, e, rfl⟩ F.entry_list_extend (F.args_list_extend_2 _ _) meets ⟨e, ho, ?_⟩
  refine ⟨.non, _, I.lset (its' := its ++ its2) hH e (by simp) (r.append r2) ?_, rfl, q⟩
  rw [List.length_append]
  omega
/-- list(z), z a text -/
def sgns (z : Str) : List V := z.cps.toList.map fun c => V.str ⟨#[c]⟩
theorem vals_at {us : List Value} {f : Nat → V} (h : ∀ j u, us[j]? = some u → RelV (f j) u) : Vals ((List.range us.length).map f) us := vals_of_get us f h
theorem call_listS (hc : X.calm = true) : CallR X (.type "list") (fun xs H Q => ∃ z, xs = [.str z] ∧ z.cps.size ≤ sizeLine ∧ ∀ l, H l = none → Q (.ref l) (upd H l (.lst (sgns z)))) := by
  intro pins s σ H xs us Q I r h
  obtain ⟨z, rfl, hz, q⟩ := h
  obtain ⟨u, rfl, t, rfl⟩ := vals1 r
  refine PySem.call_list_str (I.ok.hd hc) z t (fun h' tk acc c' kp e it => ?_) hz
  have rv : Vals (sgns z) acc.toList := by
    have e2 : sgns z = (List.range acc.toList.length).map fun j => V.str ⟨#[(z.cps[j]?).getD 0]⟩ := by
      apply List.ext_getElem?
      intro j
      unfold sgns
      rw [List.getElem?_map, List.getElem?_map, Array.length_toList, it.1, Array.getElem?_toList]
      by_cases hj : j < z.cps.size
      · rw [List.getElem?_range hj, Array.getElem?_eq_getElem hj]
        simp [hj]
      · rw [Array.getElem?_eq_none (by omega), List.getElem?_eq_none (by rw [List.length_range]; omega)]
        rfl
    rw [e2]
    refine vals_at fun j u hu => ?_
    obtain ⟨c, tk2, h1, h2⟩ := it.2 j u (by rw [← Array.getElem?_toList]; exact hu)
    rw [h1, h2]
    exact ⟨tk2, rfl⟩
  have hl : (sgns z).length ≤ sizeLine := by
    unfold sgns
    rw [List.length_map, Array.length_toList]
    exact hz
  exact ⟨.ref s.heap.objs.size, _, I.laid (t' := tk) kp (Nat.le_refl _) (show ObjOk X.prog X.w _ h' _ (.lst (sgns z)) from ⟨hl, acc.toList, c', rv, by rw [Array.toArray_toList]; exact e⟩), rfl, q _ (I.hok.fresh (Nat.le_refl _))⟩
/-- a call of what the i-th slot holds: its promise is told where it is asked -/
def tHeld (P : Program) (w : World) (K : PySem.W.Frag) (mg : Str → Option Value) (base : Heap) (k i : Nat) (t : TA) : TE := fun σ H Q => ∃ f sp, σ[i]? = some (some (.ref f)) ∧ Held P w K mg base k f sp ∧ t σ H fun vs H1 => sp vs H1 Q E0
theorem pe_held {k i : Nat} {x : Str} {p pos : Pos} {e : Expr} {es : List Expr} {t : TA} (hr : Room k X.A) (hN : X.N[i]? = some x) (hv : Vis X.env.scope x) (ha : PA X (e :: es) t)
    (hdb : (x == ("__debug__" : Str)) = false := by decide) (hcd : (x == ("__classdict__" : Str)) = false := by decide)
    (he : starEach (e :: es) X.env = (false, eval e X.env) :: starEach es X.env := by rfl) (hpl : (backTo pos (starEach es X.env)).any (·.1) = false := by rfl) :
    PE X (.Call (.Name x p) (e :: es) [] pos) (tHeld X.prog X.w X.K X.mg X.base k i t) := by
  refine ⟨fun pins s σ H Q I h => ?_⟩
  obtain ⟨f, sp, hs, A, ht⟩ := h
  obtain ⟨fd, ps, F, hk, hb⟩ := A.ex
  refine (pe_callL (i := i) (f := f) (sp := sp) (dvs := []) (E := E0) F hr hN hv hk hb .nil pass0 ha hdb hcd he hpl).run pins s σ H Q I ⟨hs, ?_⟩
  simp only [List.append_nil]
  exact ht
/-- sorted(d), d a dict whose keys are pairs of numbers -/
def pairK (q : Int × Int) : List Key := [Sum.inl q.1, Sum.inl q.2]
abbrev IsPr (H : Hp) (b : Addr) (q : Int × Int) : Prop := H b = some (.tup [.int q.1, .int q.2])
def rSortDT : List V → Hp → VK → Prop := fun xs H Q => ∃ (a : Addr) (kvs : List (List Key × V)) (ks : List (Int × Int)), xs = [.ref a] ∧ Rd H a (.dT kvs) ∧ kvs.map (·.1) = ks.map pairK ∧
  ∀ (bs : List Addr) (qs : List (Int × Int)) (p : Addr), Paired (IsPr H) bs qs → qs.Perm ks → qs.Pairwise (fun x y => SrtO.lexB y x = false) → H p = none → Q (.ref p) (upd H p (.lst (bs.map V.ref)))
theorem pairK_inj {q r : Int × Int} (h : pairK q = pairK r) : q = r := by
  obtain ⟨a, b⟩ := q
  obtain ⟨c, d⟩ := r
  injection h with h1 h2
  injection h2 with h3 _
  injection h1 with h1
  injection h3 with h3
  exact Prod.ext h1 h3
theorem map_pairK : ∀ {xs ys : List (Int × Int)}, xs.map pairK = ys.map pairK → xs = ys
  | [], [], _ => rfl
  | [], _ :: _, h => by cases h
  | _ :: _, [], h => by cases h
  | x :: xs, y :: ys, h => by
    rw [List.map_cons, List.map_cons] at h
    rw [pairK_inj (List.cons.inj h).1, map_pairK (List.cons.inj h).2]
theorem paired_at {α β : Type} {F : α → β → Prop} : ∀ {l : List α} {m : List β} {j : Nat} {y : β}, Paired F l m → m[j]? = some y → ∃ x, l[j]? = some x ∧ F x y
  | _, _, _, _, .nil, e => by simp at e
  | _, _, 0, _, .cons r _, e => by
    simp at e
    subst e
    exact ⟨_, rfl, r⟩
  | _, _, j + 1, y, .cons _ t, e => by
    obtain ⟨x, h1, h2⟩ := paired_at (j := j) (y := y) t (by simpa using e)
    exact ⟨x, by simpa using h1, h2⟩
theorem cr_sortedDT (hc : X.calm = true) : CallR X (.builtin "sorted") rSortDT := by
  intro pins s σ H xs us Q I r q
  obtain ⟨a, kvs, ks, ex, hd, hks, q⟩ := q
  subst ex
  obtain ⟨u, eu, rx⟩ := vals1 r
  subst eu
  cases rx
  obtain ⟨z, hs, zs, pr, o, es, ep, ho, hx, hdt, he, hn⟩ := (show ObjOk X.prog X.w H s.heap a (.dT kvs) from hd.ok I.hok)
  have l1 : es.size = zs.length := size_of_entries he
  have l2 : kvs.length = zs.length := Paired.length pr
  have l3 : kvs.length = ks.length := by
    have e := congrArg List.length hks
    rwa [List.length_map, List.length_map] at e
  -- what stands at a key's address
  have at_ : ∀ (j : Nat) (x : List Key × Addr × Value), zs[j]? = some x → ∃ t, ks[j]? = some t ∧ IsPr H x.2.1 t := fun j x hj => by
    obtain ⟨y, hy, e1, e2, _⟩ := paired_at pr hj
    have e3 : (kvs.map (·.1))[j]? = some y.1 := by rw [List.getElem?_map, hy]; rfl
    rw [hks, List.getElem?_map] at e3
    cases e4 : ks[j]? with
    | none => rw [e4] at e3; cases e3
    | some t =>
      rw [e4] at e3
      have e5 : pairK t = y.1 := Option.some.inj e3
      refine ⟨t, rfl, ?_⟩
      rw [← e5] at e2
      exact e2
  -- the pair that a key's value names
  let g : Value → Int × Int := fun v => match v with
    | .ref b => (match H b with
      | some (.tup [.int i, .int j]) => (i, j)
      | _ => (0, 0))
    | _ => (0, 0)
  have gAt : ∀ {b : Addr} {t : Int × Int}, IsPr H b t → g (.ref b) = t := fun {b t} e => by
    show (match H b with | some (.tup [.int i, .int j]) => (i, j) | _ => (0, 0)) = t
    rw [show H b = some (.tup [.int t.1, .int t.2]) from e]
  refine Calls.call_function_entry PyProof.Rows.kind_sorted PyProof.Rows.plain_sorted PyProof.Rows.entry_sorted (PyProof.Rows.args_sorted1 _) ?_
  unfold Builtin.«sorted»
  refine wpAny_bind (m := checkCount "sorted" 1 1 _) (wpAny_pure ?_)
  refine wpAny_bind (PySem.W.kdu_collect (A := X.A.in1) (kdl_raw hs hx hdt) (I.ok.hd hc) ho (by omega) fun h' tk acc hk hacc => ?_)
  have hal : acc.toList.length = zs.length := by rw [Array.length_toList, hacc.1, l1]
  have ea : acc.toList = zs.map fun x => Value.ref x.2.1 := by
    apply List.ext_getElem?
    intro j
    rw [List.getElem?_map]
    cases hj : acc.toList[j]? with
    | none =>
      have h1 := List.getElem?_eq_none_iff.mp hj
      rw [List.getElem?_eq_none (by omega)]
      all_goals rfl
    | some v =>
      obtain ⟨en, hen, hv⟩ := hacc.2 j v (by rw [← Array.getElem?_toList]; exact hj)
      have qe := entry_at he j
      rw [hen] at qe
      cases hb : zs[j]? with
      | none =>
        rw [hb] at qe
        exact nomatch (show some en = none from qe)
      | some b =>
        rw [hb] at qe
        have e2 : en = entryOfKey (tupleKind (mixKind X.prog X.w)) b := Option.some.inj qe
        rw [hv, e2]
        all_goals rfl
  have mems : ∀ v ∈ acc.toList, ∃ b t, v = Value.ref b ∧ IsPr H b t := fun v hv => by
    rw [ea] at hv
    obtain ⟨x, hx1, rfl⟩ := List.mem_map.mp hv
    obtain ⟨j, hj⟩ := List.mem_iff_getElem?.mp hx1
    obtain ⟨t, _, e⟩ := at_ j x hj
    exact ⟨_, t, rfl, e⟩
  have gks : acc.toList.map g = ks := by
    apply List.ext_getElem?
    intro j
    rw [ea, List.map_map, List.getElem?_map]
    cases hj : zs[j]? with
    | none =>
      have h1 := List.getElem?_eq_none_iff.mp hj
      rw [List.getElem?_eq_none (by omega)]
      rfl
    | some x =>
      obtain ⟨t, e1, e2⟩ := at_ j x hj
      rw [e1]
      show some (g (.ref x.2.1)) = some t
      rw [gAt e2]
  have I1 : Inv X pins σ H { s with heap := h', toks := tk } := I.kept hk
  have hz2 : acc.toList.length ≤ sizeLine := by omega
  refine wpAny_bind (wpAny_newList ?_ hz2)
  have hoL : (h'.push (seqObj "list" acc.toList.toArray 0)).get? h'.objs.size = some (seqObj "list" acc.toList.toArray 0) := Heap.get?_push_size _ rfl
  have old : ∀ b u, h'.get? b = some u → (h'.push (seqObj "list" acc.toList.toArray 0)).get? b = some u := fun b u e => Heap.get?_push_of_some _ e
  have I2 : Inv X pins σ H { s with heap := h'.push (seqObj "list" acc.toList.toArray 0), toks := tk } := I1.kept old
  have isp : ∀ v ∈ acc.toList, Srt.IsPair (h'.push (seqObj "list" acc.toList.toArray 0)) v (g v).1 (g v).2 := fun v hv => by
    obtain ⟨b, t, rfl, e⟩ := mems v hv
    rw [gAt e]
    obtain ⟨_, its2, r2, o2, ho2, hc2, n2, hd2⟩ := I2.hok _ _ e
    obtain ⟨u1, u2, rfl, ri, rj⟩ := vals2 r2
    obtain ⟨t1, rfl⟩ := ri
    obtain ⟨t2, rfl⟩ := rj
    exact ⟨b, o2, t1, t2, n2, rfl, ho2, hc2, hd2⟩
  show wpAny _ _ _ _ _ { s with heap := h'.push (seqObj "list" acc.toList.toArray 0), toks := tk }
  refine wpAny_bind (wpAny_holding (wpAny_call_entry PyProof.Rows.slot_list_sort ⟨_, hoL, rfl⟩ PyProof.Rows.entry_list_sort
    (SrtO.list_sort_ord (s := { s with heap := h'.push (seqObj "list" acc.toList.toArray 0), toks := tk }) (SrtO.swo_lex g) hoL hz2 (fun h2 => SrtO.pairs_sortableO (by omega) isp fun o e => ?_) fun out g1 g2 => ⟨_, rfl, ?_⟩) (PyProof.Rows.args_list_sort _)))
  · rw [show (h'.push (seqObj "list" acc.toList.toArray 0)).get? h'.objs.size = _ from hoL] at e
    cases e
    intro c
    exact absurd (Value.type.inj c) (by decide)
  · obtain ⟨e', he'⟩ := PyProof.Rows.sortedHeap_at (vs := acc.toList) (out := out.toArray) hoL
    have hm : ∀ v ∈ out, ∃ b t, v = Value.ref b ∧ IsPr H b t := fun v hv => mems v (g2.perm.mem_iff.mp hv)
    obtain ⟨bs, qs, eo, pb, eq⟩ : ∃ (bs : List Addr) (qs : List (Int × Int)), out = bs.map Value.ref ∧ Paired (IsPr H) bs qs ∧ qs = out.map g := by
      clear g1 g2 he'
      induction out with
      | nil => exact ⟨[], [], rfl, .nil, rfl⟩
      | cons v out ih =>
        obtain ⟨bs, qs, e1, e2, e3⟩ := ih fun v hv => hm v (List.mem_cons_of_mem _ hv)
        obtain ⟨b, t, rfl, e⟩ := hm v List.mem_cons_self
        exact ⟨b :: bs, t :: qs, by rw [e1]; rfl, .cons e e2, by rw [List.map_cons, gAt e, e3]⟩
    have perm : qs.Perm ks := by
      rw [eq, ← gks]
      exact g2.perm.map g
    have srt : qs.Pairwise (fun x y => SrtO.lexB y x = false) := by
      rw [eq]
      exact List.pairwise_map.mpr g1
    have rv : Vals (bs.map V.ref) out := by
      rw [eo]
      exact vals_refs bs
    have hlen : (bs.map V.ref).length ≤ sizeLine := by
      rw [rv.length, g2.perm.length_eq]
      exact hz2
    refine wpAny_pure ⟨_, rfl, .ref h'.objs.size, upd H h'.objs.size (.lst (bs.map V.ref)), I1.laid (t' := tk) (fun b u e => ?_) (Nat.le_refl _)
      (show ObjOk X.prog X.w _ _ _ (.lst (bs.map V.ref)) from ⟨hlen, out, e', rv, he'⟩), rfl, q bs qs _ pb perm srt (I1.hok.fresh (Nat.le_refl _))⟩
    have hb : b < h'.objs.size := Heap.lt_size e
    rw [PyProof.Rows.sortedHeap_old (Nat.ne_of_lt hb) (by rw [size_push']; exact Nat.lt_succ_of_lt hb)]
    exact Heap.get?_push_of_some _ e
end
end Bw
namespace Bw
open PySem PySem.Spec PyProof.Rows L2
/-! ### enumerate(t), t a tuple -/
theorem sig_enumT (l : Addr) (items : Array Value) (n : Nat) (dct : Option Addr) (sl : Array (Option Value)) :
    Meets (Builtin.«enumerate.__new__» ⟨[.type "enumerate", .ref l], []⟩) (fun _ R s => s.heap.get? l = some { cls := .type "tuple", dict := dct, data := .seq items n, slots := sl } ∧
      R (.ok (.ret (.ref (s.heap.push { cls := .type "tuple_iterator", data := .fields #[.ref l, .int 0 0] }).objs.size)))
        { s with heap := (s.heap.push { cls := .type "tuple_iterator", data := .fields #[.ref l, .int 0 0] }).push { cls := .type "enumerate", data := .fields #[.none, .bool false, .ref s.heap.objs.size, rawInt 0, .none, .none] } }) :=
  .of_wp fun prog w A R s h => by
    obtain ⟨hp, g, d, tk, os⟩ := s
    obtain ⟨hl, h⟩ := h
    have sub := sub_enumerate
    have hT : Heap.IsTuple (Shared.heap ⟨hp, g, d, tk, os⟩) l items := ⟨_, hl, rfl, n, rfl⟩
    wp_walk using AutoSeq1.wpAny_loadPart' hl
    refine wpAny_stack_any fun st => wpAny_pure ?_
    split
    · rename_i c _ _ _ _ _
      cases (c == Value.type "enumerate") <;>
        (wp_walk using AutoSeq1.wpAny_loadPart' hl, wpAny_pyIter_tuple hT; exact ⟨_, rfl, h⟩)
    · wp_walk using AutoSeq1.wpAny_loadPart' hl, wpAny_pyIter_tuple hT
      exact ⟨_, rfl, h⟩
theorem call_enumT {prog : Program} {w : World} {A : Around} {E : Value → Shared → Prop} {s : Shared} {l : Addr} {items : Array Value} {Q : Value → Shared → Prop} (hL : s.heap.IsTuple l items)
    (h : ∀ h', IsEnum h' (s.heap.objs.size + 1) s.heap.objs.size 0 .none → h'.IsTupleIter s.heap.objs.size l 0 → h'.objs.size = s.heap.objs.size + 2 → (∀ b o, s.heap.get? b = some o → h'.get? b = some o) →
      Q (.ref (s.heap.objs.size + 1)) { s with heap := h' }) : wpAny (model prog w) A (call (.type "enumerate") [.ref l]) Q E s := by
  obtain ⟨⟨c, dct, dt, sl⟩, hl, hc, n, hd⟩ := hL
  replace hc : c = .type "tuple" := hc
  replace hd : dt = .seq items n := hd
  subst hc
  subst hd
  refine callType_new F.called_enumerate (by decide) (F.typeCall_enumerate_1 _) (F.newCall_enumerate_1 _) (fun obj => F.args_object_init_2 obj _) F.entry_enumerate_new (sig_enumT l items n dct sl) ⟨hl, ?_⟩
  have hz : (s.heap.push { cls := .type "tuple_iterator", data := .fields #[.ref l, .int 0 0] }).objs.size = s.heap.objs.size + 1 := Heap.size_push ..
  show _ ∧ _
  rw [hz]
  have he : IsEnum ((s.heap.push { cls := .type "tuple_iterator", data := .fields #[.ref l, .int 0 0] }).push { cls := .type "enumerate", data := .fields #[.none, .bool false, .ref s.heap.objs.size, rawInt 0, .none, .none] })
      (s.heap.objs.size + 1) s.heap.objs.size 0 .none := by
    have q := Heap.get?_push_size (s.heap.push { cls := .type "tuple_iterator", data := .fields #[.ref l, .int 0 0] })
      (o := { cls := .type "enumerate", data := .fields #[.none, .bool false, .ref s.heap.objs.size, rawInt 0, .none, .none] }) rfl
    rw [hz] at q
    exact q
  refine ⟨⟨_, he, rfl⟩, h _ he ⟨_, Heap.get?_push_of_some _ (Heap.get?_push_size _ rfl), rfl, rfl⟩ (by rw [Heap.size_push, hz]) fun b o x => Heap.get?_push_of_some _ (Heap.get?_push_of_some _ x)⟩
/-- the tuple at a, each item in a new pair -/
def Itet (K : PySem.W.Frag) (a : Addr) : It :=
  ⟨fun i H => ∃ (xs : List V) (x : V), SqT K H a xs ∧ xs[i]? = some x, fun i H v H' => ∃ T x, v = .ref T ∧ H T = none ∧ H' = upd H T (.tup [.int (i : Nat), x]) ∧ ∀ xs, SqT K H a xs → xs[i]? = some x,
    fun i H => ∃ xs : List V, SqT K H a xs ∧ xs.length ≤ i⟩
theorem turn_enumT {P : Program} {w : World} {K : PySem.W.Frag} {elts : List Expr} {kk : Nat} {tpos : Pos} (a e it : Addr) (hai : a ≠ it) (hae : a ≠ e) :
    Turn P w K (.Tuple elts kk tpos) (Itet K a) [e, it] e (fun i h => (∃ old, IsEnum h e it ((i : Nat) : Int) old) ∧ h.IsTupleIter it a i ∧ e ≠ it) where
  mem := by simp
  obj := fun i h st b hb => by
    obtain ⟨⟨old, he⟩, ⟨o, ho, hc, hd⟩, _⟩ := st
    have e' : b = e ∨ b = it := by simpa using hb
    rcases e' with z | z
    · rw [z]
      exact ⟨_, he, fun v q => nomatch q⟩
    · rw [z]
      exact ⟨o, ho, fun v q => by rw [hd] at q; cases q⟩
  keep := fun i h h' st k => let ⟨⟨old, he⟩, hi, hne⟩ := st; ⟨⟨old, k e (by simp) _ he⟩, hi.at fun o q => k it (by simp) o q, hne⟩
  item := by
    intro X hP hw hK hc i pins s σ H E I hf st hg
    subst hP
    subst hw
    subst hK
    obtain ⟨⟨old, he⟩, hit, hne⟩ := st
    obtain ⟨xs, x, hq, hx⟩ := hg
    obtain ⟨its, rv, p, hz⟩ := I.tuple hq
    obtain ⟨u, hu, ru⟩ := rv.get hx
    have hel : e < s.heap.objs.size := Heap.lt_size he
    have hil : it < s.heap.objs.size := by
      obtain ⟨_, q, _⟩ := hit
      exact Heap.lt_size q
    have hT : s.heap.IsTuple a its.toArray := p
    have hi : i < its.toArray.size := by
      rw [List.size_toArray]
      exact (List.getElem?_eq_some_iff.mp hu).1
    refine wpAny_pyNext_enum_itemD (Draws.tuple (A := X.A.in1) (I.ok.hd hc) it a hai its.toArray) he ⟨hit, hT⟩ hi hne (by simp [hne, Ne.symm hae]) fun y h' tk hy ho st' hT' hsz hk => ?_
    have ey : u = y := by
      have q : its[i]? = some y := by simpa using hy
      rw [hu] at q
      exact Option.some.inj q
    subst ey
    refine ⟨_, rfl, wpAny_letOwnedTupleGo_enum (s := { s with heap := h', toks := tk + 1 }) ho fun h'' he' sb => ?_⟩
    have hT2 : h''.get? s.heap.objs.size = some { cls := .type "tuple", data := .seq #[.int i tk, u] } := (sb.2 _ (Nat.ne_of_gt hel)).trans hT'
    have new : ObjOk X.prog X.w (upd H s.heap.objs.size (.tup [.int (i : Nat), x])) h'' s.heap.objs.size (.tup [.int (i : Nat), x]) :=
      ⟨by show 2 ≤ sizeLine; decide, [.int i tk, u], .cons ⟨_, rfl⟩ (.cons ru .nil), ⟨_, hT2, rfl, _, rfl⟩⟩
    have I1 : Inv X pins σ (upd H s.heap.objs.size (.tup [.int (i : Nat), x])) { s with heap := h'', toks := tk + 1 } :=
      I.turnedNew (ch := [e, it]) (fun b ob hb q => (sb.2 b (fun z => hb (by simp [z]))).trans (hk b ob (fun z => hb (by simp [z])) (fun z => hb (by simp [z])) q)) hf (Nat.le_refl _) new
    refine ⟨.ref s.heap.objs.size, _, I1, rfl, ⟨_, x, rfl, I.hok.fresh (Nat.le_refl _), rfl, fun ys hy => by rw [I.tuple_inj hy hq]; exact hx⟩, ⟨⟨u, ?_⟩, st'.1.at fun o q => (sb.2 it (Ne.symm hne)).trans q, hne⟩, fun b hb => ?_⟩
    · have e1 : ((i + 1 : Nat) : Int) = (i : Int) + 1 := by omega
      rw [e1]
      exact he'
    · have hb' : b < s.heap.objs.size := by
        have e' : b = e ∨ b = it := by simpa using hb
        rcases e' with z | z
        · rw [z]
          exact hel
        · rw [z]
          exact hil
      rw [upd_ne (Nat.ne_of_lt hb')]
      exact (hf b hb).1
  done := by
    intro X hP hw hK hc i pins s σ H E I hf st hg
    subst hP
    subst hw
    subst hK
    obtain ⟨⟨old, he⟩, hit, hne⟩ := st
    obtain ⟨xs, hq, hx⟩ := hg
    obtain ⟨its, rv, p, hz⟩ := I.tuple hq
    obtain ⟨f0, f1, f2, f3, f4, f5⟩ := hf it (by simp)
    have hl := rv.length
    have hT : s.heap.IsTuple a its.toArray := p
    have D := Draws.tuple (prog := X.prog) (w := X.w) (A := X.A.in1) (I.ok.hd hc) it a hai its.toArray
    have hT' : s.TypeIs (.ref e) "enumerate" := ⟨_, he, rfl⟩
    unfold pyNext
    refine wpAny_bind (wpAny_attempt (wpAny_callSpecial?_slot (name := Str.ofString "__next__") hT' F.slot_enumerate_next (wpAny_call_entry F.slot_enumerate_next hT' F.entry_enumerate_next ?_ (F.args_enumerate_next_1 _))))
    show wpAny _ _ (field (.ref e) 2 >>= _) _ _ _
    refine wpAny_bind (wpAny_field he rfl (x := .ref it) rfl ?_)
    refine wpAny_bind (wpAny_nextOf_tuple_end (I.ok.hd hc) hit hT (by simp; omega) fun h' y hy hx' => ?_)
    obtain ⟨o, ho, hc2⟩ := hx'
    refine wpAny_bind (wpAny_isInstance (T := "StopIteration") (b := true) ⟨o, ho, hc2⟩ isSubtype_stop ?_)
    exact wpAny_pure ⟨rfl, I.turned (t' := s.toks) (fun b o hb q => hy b o hb q) f0 f1 f3 f4 f5⟩
  self := fun A i s Q E st h => let ⟨⟨_, he⟩, _⟩ := st; wpAny_pyIter_enum he h
def iEnumT (K : PySem.W.Frag) (ta : TA) : TI := fun σ H R => ta σ H fun vs H1 => ∃ a xs, vs = [.ref a] ∧ SqT K H1 a xs ∧ R (Itet K a) H1
theorem pi_enumT {X : Cx} {e : Expr} {ta : TA} {p pos tpos : Pos} {elts : List Expr} {kk : Nat} (hg : Gl X "enumerate") (hm : X.mg "enumerate" = none) (ha : PA X [e] ta) (hs : starEach [e] X.env = [(false, eval e X.env)] := by rfl) :
    PI X (.Tuple elts kk tpos) (.Call (.Name "enumerate" p) [e] [] pos) (iEnumT X.K ta) := by
  refine ⟨fun pins s σ H R I h => ?_⟩
  refine Call_ (ld_blt I hg hm boot_enumerate (PyProof.Rows.callWith_type1 (thn (ha.run pos pins s σ H _ I h) fun us s1 ⟨vs, H1, I1, r1, q1⟩ => ?_) hs rfl))
  obtain ⟨a, xs, ex, hq, q⟩ := q1
  subst ex
  cases r1 with
  | cons r rr =>
    cases rr
    cases r
    obtain ⟨its, rv, p', hz⟩ := I1.tuple hq
    have hlt : a < s1.heap.objs.size := by
      obtain ⟨o, ho, _⟩ := p'
      exact Heap.lt_size ho
    refine call_enumT p' fun h' he hit hsz hk => wpAny_pyIter_enum he ?_
    have I2 : Inv X pins σ H1 { s1 with heap := h' } := I1.kept (t' := s1.toks) hk
    refine ⟨s1.heap.objs.size + 1, [s1.heap.objs.size + 1, s1.heap.objs.size], _, _, H1, rfl, I2, turn_enumT a (s1.heap.objs.size + 1) s1.heap.objs.size (Nat.ne_of_lt hlt) (Nat.ne_of_lt (Nat.lt_succ_of_lt hlt)),
      ⟨⟨.none, he⟩, hit, Nat.succ_ne_self _⟩, fun b hb => ?_, q⟩
    have e' : b = s1.heap.objs.size + 1 ∨ b = s1.heap.objs.size := by simpa using hb
    have hle : s1.heap.objs.size ≤ b := by
      rcases e' with z | z
      · rw [z]
        exact Nat.le_add_right _ _
      · rw [z]
        exact Nat.le_refl _
    exact I1.fpOk hle (I1.hok.fresh hle)
theorem walk_enumT {K : PySem.W.Frag} {a : Addr} {xs : List V} : Walk (Itet K a) xs.length (fun H => SqT K H a xs) (YPair (fun i => some (.int (i : Nat))) (fun i => xs[i]?)) := by
  refine ⟨fun i _ hi q => ⟨xs, xs[i], q, by simp [hi]⟩, fun _ q => ⟨xs, q, Nat.le_refl _⟩, fun i H v H' _ q y => ?_⟩
  obtain ⟨T, x, h1, h2, h3, h4⟩ := y
  exact ⟨T, .int (i : Nat), x, h1, h2, h3, rfl, h4 xs q⟩
/-! ### the error: made, caught, read -/
section
variable {P : Program} {w : World} {K : PySem.W.Frag} {mg : Str → Option Value} {base : Heap}
theorem Env.oex (E : Env P w K mg base) : OexF K (He.ga K "Fault") := oexB_ok (Bool.and_eq_true_iff.mp E.top.e).1
theorem xfF (E : Env P w K mg base) : XfC K (He.ga K "Fault") := xfB_ok (Bool.and_eq_true_iff.mp (Bool.and_eq_true_iff.mp E.top.e).2).1
theorem Env.tups (E : Env P w K mg base) : He.tupB K "ACT_WORDS" tv_ACT_WORDS = true ∧ He.tupB K "DEEDS" tv_DEEDS = true ∧ He.tupB K "KINDS" tv_KINDS = true ∧ He.tupB K "WITH_TEXT" tv_WITH_TEXT = true := by
  have h := (Bool.and_eq_true_iff.mp (Bool.and_eq_true_iff.mp E.top.e).2).2
  obtain ⟨h1, h⟩ := Bool.and_eq_true_iff.mp h
  obtain ⟨h2, h⟩ := Bool.and_eq_true_iff.mp h
  obtain ⟨h3, h4⟩ := Bool.and_eq_true_iff.mp h
  exact ⟨h1, h2, h3, h4⟩
end
end Bw
namespace Bw
open PySem PySem.Spec PyProof.Rows L2
section
variable {P : Program} {w : World} {K : PySem.W.Frag} {mg : Str → Option Value} {base : Heap}
theorem k_Card (E : Env P w K mg base) : Cls K (He.ga K "Card") := E.cls 86
theorem n_Card_name (E : Env P w K mg base) : NoAttr K (He.ga K "Card") "name" := E.noat 88
theorem n_Card_words (E : Env P w K mg base) : NoAttr K (He.ga K "Card") "words" := E.noat 89
theorem n_Card_notches (E : Env P w K mg base) : NoAttr K (He.ga K "Card") "notches" := E.noat 90
theorem k_State (E : Env P w K mg base) : Cls K (He.ga K "State") := E.cls 91
theorem n_State_marks (E : Env P w K mg base) : NoAttr K (He.ga K "State") "marks" := E.noat 93
theorem n_State_links (E : Env P w K mg base) : NoAttr K (He.ga K "State") "links" := E.noat 94
theorem n_State_cards (E : Env P w K mg base) : NoAttr K (He.ga K "State") "cards" := E.noat 95
theorem k_File (E : Env P w K mg base) : Cls K (He.ga K "File") := E.cls 96
theorem n_File_holes (E : Env P w K mg base) : NoAttr K (He.ga K "File") "holes" := E.noat 98
theorem n_File_names (E : Env P w K mg base) : NoAttr K (He.ga K "File") "names" := E.noat 99
theorem n_File_marks (E : Env P w K mg base) : NoAttr K (He.ga K "File") "marks" := E.noat 100
theorem n_File_acts (E : Env P w K mg base) : NoAttr K (He.ga K "File") "acts" := E.noat 101
theorem k_Reader (E : Env P w K mg base) : Cls K (He.ga K "Reader") := E.cls 102
theorem n_Reader_pieces (E : Env P w K mg base) : NoAttr K (He.ga K "Reader") "pieces" := E.noat 104
theorem n_Reader_length (E : Env P w K mg base) : NoAttr K (He.ga K "Reader") "length" := E.noat 105
theorem n_Reader_at (E : Env P w K mg base) : NoAttr K (He.ga K "Reader") "at" := E.noat 106
theorem n_Reader_file (E : Env P w K mg base) : NoAttr K (He.ga K "Reader") "file" := E.noat 107
theorem n_Reader_state (E : Env P w K mg base) : NoAttr K (He.ga K "Reader") "state" := E.noat 108
theorem k_Past (E : Env P w K mg base) : Cls K (He.ga K "Past") := E.cls 109
theorem n_Past_state (E : Env P w K mg base) : NoAttr K (He.ga K "Past") "state" := E.noat 111
theorem n_Past_ever (E : Env P w K mg base) : NoAttr K (He.ga K "Past") "ever" := E.noat 112
theorem k_Desk (E : Env P w K mg base) : Cls K (He.ga K "Desk") := E.cls 113
theorem n_Desk_file (E : Env P w K mg base) : NoAttr K (He.ga K "Desk") "file" := E.noat 115
theorem g_WORD (E : Env P w K mg base) : ∃ u, mg "WORD" = some u ∧ RelV (.int 0) u := E.int 134
theorem g_LINE_END (E : Env P w K mg base) : ∃ u, mg "LINE_END" = some u ∧ RelV (.int 1) u := E.int 135
theorem g_EMPTY (E : Env P w K mg base) : ∃ u, mg "EMPTY" = some u ∧ RelV (.int 2) u := E.int 136
theorem g_BLANK_pieces (E : Env P w K mg base) : ∃ u, mg "BLANK_pieces" = some u ∧ RelV (.int 32) u := E.int 137
theorem g_NEW_LINE_pieces (E : Env P w K mg base) : ∃ u, mg "NEW_LINE_pieces" = some u ∧ RelV (.int 10) u := E.int 138
theorem g_MOST_LETTERS (E : Env P w K mg base) : ∃ u, mg "MOST_LETTERS" = some u ∧ RelV (.int 12) u := E.int 139
theorem g_UNDER (E : Env P w K mg base) : ∃ u, mg "UNDER" = some u ∧ RelV (.int 0) u := E.int 140
theorem g_APART (E : Env P w K mg base) : ∃ u, mg "APART" = some u ∧ RelV (.int 1) u := E.int 141
theorem g_CARD (E : Env P w K mg base) : ∃ u, mg "CARD" = some u ∧ RelV (.int 2) u := E.int 142
theorem g_ADD (E : Env P w K mg base) : ∃ u, mg "ADD" = some u ∧ RelV (.int 3) u := E.int 143
theorem g_GROW (E : Env P w K mg base) : ∃ u, mg "GROW" = some u ∧ RelV (.int 4) u := E.int 144
theorem g_NOTCH (E : Env P w K mg base) : ∃ u, mg "NOTCH" = some u ∧ RelV (.int 5) u := E.int 145
theorem g_MOST_HOLES (E : Env P w K mg base) : ∃ u, mg "MOST_HOLES" = some u ∧ RelV (.int 16) u := E.int 146
theorem g_MOST_WORDS (E : Env P w K mg base) : ∃ u, mg "MOST_WORDS" = some u ∧ RelV (.int 12) u := E.int 147
theorem g_MOST_ACTS (E : Env P w K mg base) : ∃ u, mg "MOST_ACTS" = some u ∧ RelV (.int 80) u := E.int 148
theorem g_MOST_CARDS (E : Env P w K mg base) : ∃ u, mg "MOST_CARDS" = some u ∧ RelV (.int 20) u := E.int 149
theorem g_BLANK_files (E : Env P w K mg base) : ∃ u, mg "BLANK_files" = some u ∧ RelV (.int 32) u := E.int 150
theorem g_NEW_LINE_files (E : Env P w K mg base) : ∃ u, mg "NEW_LINE_files" = some u ∧ RelV (.int 10) u := E.int 151
theorem g_NEITHER (E : Env P w K mg base) : ∃ u, mg "NEITHER" = some u ∧ RelV (.int 0) u := E.int 152
theorem g_RIGHT (E : Env P w K mg base) : ∃ u, mg "RIGHT" = some u ∧ RelV (.int 1) u := E.int 153
theorem g_MISSED (E : Env P w K mg base) : ∃ u, mg "MISSED" = some u ∧ RelV (.int 2) u := E.int 154
theorem g_STALE (E : Env P w K mg base) : ∃ u, mg "STALE" = some u ∧ RelV (.int 3) u := E.int 155
theorem g_MIXED (E : Env P w K mg base) : ∃ u, mg "MIXED" = some u ∧ RelV (.int 4) u := E.int 156
theorem g_MOST_MIXERS (E : Env P w K mg base) : ∃ u, mg "MOST_MIXERS" = some u ∧ RelV (.int 3) u := E.int 157
theorem fr_len (E : Env P w K mg base) : mg "len" = none := E.free 158
theorem fr_all (E : Env P w K mg base) : mg "all" = none := E.free 159
theorem fr_any (E : Env P w K mg base) : mg "any" = none := E.free 160
theorem fr_range (E : Env P w K mg base) : mg "range" = none := E.free 161
theorem fr_enumerate (E : Env P w K mg base) : mg "enumerate" = none := E.free 162
theorem fr_sorted (E : Env P w K mg base) : mg "sorted" = none := E.free 163
theorem fr_list (E : Env P w K mg base) : mg "list" = none := E.free 164
theorem fr_tuple (E : Env P w K mg base) : mg "tuple" = none := E.free 165
theorem fr_ord (E : Env P w K mg base) : mg "ord" = none := E.free 166
theorem fr_zip (E : Env P w K mg base) : mg "zip" = none := E.free 167
theorem fr_min (E : Env P w K mg base) : mg "min" = none := E.free 168
theorem fr_int (E : Env P w K mg base) : mg "int" = none := E.free 169
theorem fr_str (E : Env P w K mg base) : mg "str" = none := E.free 170
theorem n_Fault_place (E : Env P w K mg base) : NoAttr K (He.ga K "Fault") "place" := E.noat 171
theorem g_ACT_WORDS (E : Env P w K mg base) : ∃ u, mg "ACT_WORDS" = some u ∧ RelV (.ref (He.ga K "ACT_WORDS")) u := ⟨_, E.glo 174, rfl⟩
theorem g_DEEDS (E : Env P w K mg base) : ∃ u, mg "DEEDS" = some u ∧ RelV (.ref (He.ga K "DEEDS")) u := ⟨_, E.glo 175, rfl⟩
theorem g_KINDS (E : Env P w K mg base) : ∃ u, mg "KINDS" = some u ∧ RelV (.ref (He.ga K "KINDS")) u := ⟨_, E.glo 176, rfl⟩
theorem g_WITH_TEXT (E : Env P w K mg base) : ∃ u, mg "WITH_TEXT" = some u ∧ RelV (.ref (He.ga K "WITH_TEXT")) u := ⟨_, E.glo 177, rfl⟩
theorem gF (E : Env P w K mg base) : mg "Fault" = some (.ref (He.ga K "Fault")) := E.glo 79
theorem noF (E : Env P w K mg base) : PySem.W.findIn K (.ref (He.ga K "Fault")) "place" = some none := E.noat 171
theorem xmF (E : Env P w K mg base) : PySem.W.exmOne K (.ref (He.ga K "Fault")) (.ref (He.ga K "Fault")) = some true := He.exm_ok (E.top.d.fact 172 rfl)
/-- Fault's __init__ -/
def sp_Fault_init (K : PySem.W.Frag) : Sp := fun vs H Q _ => ∃ (a : Addr) (v : V), vs = [.ref a, v] ∧ H a = some (exo a (He.ga K "Fault") none) ∧
  ∀ dx, H dx = none → dx ≠ a → Q .non (upd (upd H dx (exd dx [("place", v)])) a (exo a (He.ga K "Fault") (some dx)))
theorem sc_Fault_init : FnScope (["self", "place"] : List Str) ["self", "place"] (defScope s_Fault_init) := C8.fnScope_by (by decide +kernel)
/-- Fault(e) -/
def tMkF (C : Addr) (ta : TA) : L2.St → Hp → XK → Prop := fun σ H Q => ta σ H fun vs H1 => ∃ v, vs = [v] ∧ ∀ d, H1 d = none → Q (.ref C) (some d) (upd H1 d (.xd [("place", v)]))
def tWk (ta : TA) : TA := fun σ H Q => ∃ Q0 : List V → Hp → Prop, ta σ H Q0 ∧ ∀ vs H1, Q0 vs H1 → Q vs H1
theorem pa_wk {X : Cx} {es : List Expr} {ta : TA} (h : PA X es ta) : PA X es (tWk ta) := ⟨fun pos pins s σ H Q I ⟨Q0, h0, k⟩ => thn (h.run pos pins s σ H Q0 I h0) fun us s1 ⟨vs, H1, I1, r, q⟩ => ⟨vs, H1, I1, r, k vs H1 q⟩⟩
theorem pmk_fault {X : Cx} {j : Nat} {e : Expr} {ta : TA} {p pos : Pos} (E : Env X.prog X.w X.K X.mg X.base) (hr : Room j X.A) (hj : 2 ≤ j) (ha : PA X [e] ta) (hg : Gl X "Fault" := by rfl)
    (he : starEach (e :: []) X.env = (false, eval e X.env) :: starEach [] X.env := by rfl) (hpl : (backTo pos (starEach [] X.env)).any (·.1) = false := by rfl) : PMk X (.Call (.Name "Fault" p) [e] [] pos) (tMkF (He.ga X.K "Fault") ta) := by
  obtain ⟨fd, F⟩ := E.top.d.def_ 79 (d := d_Fault_init) rfl
  have G : FnOk X.prog X.w X.K X.mg X.base CX0 1 (He.ma X.K (He.ga X.K "Fault") "__init__") fd ["self", "place"] (sp_Fault_init X.K) := by
    refine FunD.ok (show FnP X.K "__init__" "Fault.__init__" s_Fault_init (He.ma X.K (He.ga X.K "Fault") "__init__") fd from F) sc_Fault_init (fun vs H Q E h => ?_) (fun cdv A outer s H vs Q Y hr h => ⟨_, PSs.nox (pss_one (ps_ost (pv 0) (pv 1))), ?_⟩)
    · obtain ⟨a, v, rfl, _⟩ := h
      rfl
    · obtain ⟨a, v, rfl, ha, k⟩ := h
      exact ⟨_, rfl, _, rfl, a, He.ga X.K "Fault", rfl, E.oex.c, noF E, Or.inl ⟨ha, k⟩⟩
  have b : Binds X.K fd ["self", "place"] [] := FunD.bindsN (show FnP X.K "__init__" "Fault.__init__" s_Fault_init (He.ma X.K (He.ga X.K "Fault") "__init__") fd from F) fun _ _ _ _ _ _ us hl => match us, hl with | [_, _], _ => rfl
  have M := pmk_oex (x := "Fault") (pos := pos) (p := p) E.oex.c E.oex.i E.oex.t G (hr.mono (by omega)) b .nil (fun _ _ _ _ _ _ _ z => False.elim z) hg (gF E) (pa_wk ha) (by decide) he hpl
  intro pins s σ H Q I h
  refine M pins s σ H Q I ⟨_, h, fun vs H1 q => ?_⟩
  obtain ⟨v, rfl, q⟩ := q
  refine ⟨by show 1 ≤ 1000; decide, fun a na => ⟨a, v, rfl, upd_same, fun dx nd ne => ⟨rfl, dx, [("place", v)], upd_same, ?_, ?_, ?_⟩⟩⟩
  · rw [upd_ne ne]
    exact upd_same
  · rw [upd_ne ne] at nd
    exact nd
  · have nd' : H1 dx = none := by
      rw [upd_ne ne] at nd
      exact nd
    have e : upd (del (upd (upd (upd H1 a (exo a (He.ga X.K "Fault") none)) dx (exd dx [("place", v)])) a (exo a (He.ga X.K "Fault") (some dx))) a) dx (.xd [("place", v)]) = upd H1 dx (.xd [("place", v)]) := by
      funext b
      by_cases hb : b = dx
      · rw [hb, upd_same, upd_same]
      · rw [upd_ne hb, upd_ne hb]
        by_cases hba : b = a
        · rw [hba, del_same, na]
        · rw [del_ne hba, upd_ne hba, upd_ne hb, upd_ne hba]
    rw [e]
    exact q dx nd'
/-! ### rules whose written part is told -/
section
variable {X : Cx} {K : PySem.W.Frag}
theorem ixT (h : X.K = K := by rfl) : IxR X (rIxT K) := by
  subst h
  exact ix_tup
theorem ixL (h : X.K = K := by rfl) : IxR X (rIxL K) := by
  subst h
  exact ix_list
theorem opIn (h : X.K = K := by rfl) : OpR X (compareOp .In) (rIn K false) := by
  subst h
  exact op_in_seq
theorem opNi (h : X.K = K := by rfl) : OpR X (compareOp .NotIn) (rIn K true) := by
  subst h
  exact op_notIn_seq
theorem opEqD (hu : X.A.units + 64 < cLine) (h : X.K = K := by rfl) : OpR X (compareOp .Eq) (rEqD K) := by
  subst h
  exact op_eqD hu
theorem opNeD (hu : X.A.units + 64 < cLine) (h : X.K = K := by rfl) : OpR X (compareOp .NotEq) (rNeD K) := by
  subst h
  exact op_neD hu
theorem opInD (hu : X.A.units + 65 < cLine) (h : X.K = K := by rfl) : OpR X (compareOp .In) (rInD K) := by
  subst h
  exact op_inD hu
theorem opNiD (hu : X.A.units + 65 < cLine) (h : X.K = K := by rfl) : OpR X (compareOp .NotIn) (rNotInD K) := by
  subst h
  exact op_notInD hu
theorem slL (h : X.K = K := by rfl) : SlR X (rSlL K) := by
  subst h
  exact sl_list
def rLenQ (K : PySem.W.Frag) : List V → Hp → VK → Prop := fun xs H Q => ∃ p ys, xs = [.ref p] ∧ (SqL K H p ys ∨ SqT K H p ys) ∧ Q (.int ys.length) H
theorem clen (h : X.K = K := by rfl) : CallR X (.builtin "len") (rLenQ K) := by
  subst h
  exact call_len_seq
def rListQ (K : PySem.W.Frag) : List V → Hp → VK → Prop := fun xs H Q => ∃ p ys, xs = [.ref p] ∧ (SqL K H p ys ∨ SqT K H p ys) ∧ ∀ l, H l = none → Q (.ref l) (upd H l (.lst ys))
theorem clist (h : X.K = K := by rfl) : CallR X (.type "list") (rListQ K) := by
  subst h
  exact call_list_of
theorem peF {e : Expr} {ta : TE} {f : Str} {pos : Pos} (he : PE X e ta) (hb : attributeBase e f X.env (eval e X.env) = eval e X.env) (h : X.K = K := by rfl) : PE X (.Attribute e f pos) (tFld K ta f) := by
  subst h
  exact pe_fld he hb
end
end
end Bw
namespace Bw
open PySem PySem.Spec PyProof.Rows L2
open Vbenah (File State Card Act)
/-! ### how data lies in the heap -/
def MarksAt (H : Hp) (a : Addr) (ms : List (List Nat)) : Prop := ∃ bs : List Addr, H a = some (.lst (bs.map V.ref)) ∧ Paired (LstN H) bs ms
def NamesAt (H : Hp) (a : Addr) (ns : List (List Nat)) : Prop := ∃ bs : List Addr, H a = some (.lst (bs.map V.ref)) ∧ Paired (TupN H) bs ns
abbrev PrAt (H : Hp) (b : Addr) (p : Nat × Nat) : Prop := H b = some (.tup [.int (p.1 : Nat), .int (p.2 : Nat)])
def PairsAt (H : Hp) (a : Addr) (ps : List (Nat × Nat)) : Prop := ∃ bs : List Addr, H a = some (.lst (bs.map V.ref)) ∧ Paired (PrAt H) bs ps
/-- notches: hole, act -/
def nk (l : List (Nat × Nat)) : List (Key × V) := l.map fun p => (Sum.inl (p.1 : Int), V.int (p.2 : Nat))
abbrev cardF (pn wi ni : Addr) : List (Str × V) := [("name", .ref pn), ("words", .ref wi), ("notches", .ref ni)]
abbrev stateF (ma la ca : Addr) : List (Str × V) := [("marks", .ref ma), ("links", .ref la), ("cards", .ref ca)]
def CardAt (K : PySem.W.Frag) (H : Hp) (c : Addr) (x : Card) : Prop := ∃ dx pn wi ni, H c = some (.ins (He.ga K "Card") dx (cardF pn wi ni)) ∧ TupN H pn x.name ∧ LstN H wi x.words ∧ H ni = some (.dK (nk x.by_))
def CardsAt (K : PySem.W.Frag) (H : Hp) (a : Addr) (cs : List Card) : Prop := ∃ bs : List Addr, H a = some (.lst (bs.map V.ref)) ∧ Paired (CardAt K H) bs cs
/-- the marks of a file's words -/
def mks (f : File) : List (List Nat) := f.words.map fun x => Vbenah.holesOf f.holes x.2
/-- a state, to be read -/
def SV (K : PySem.W.Frag) (H : Hp) (a : Addr) (f : File) (s : State) : Prop := ∃ dx ma la ca, H a = some (.ins (He.ga K "State") dx (stateF ma la ca)) ∧ MarksAt H ma (mks f) ∧ PairsAt H la s.pairs ∧ CardsAt K H ca s.cards
theorem Paired.same {α : Type} {R : Hp → Addr → α → Prop} {H H' : Hp} (mono : ∀ b x, R H b x → R H' b x) : ∀ {bs : List Addr} {xs : List α}, Paired (R H) bs xs → Paired (R H') bs xs
  | _, _, .nil => .nil
  | _, _, .cons r t => .cons (mono _ _ r) (Paired.same mono t)
theorem paired_same {γ α : Type} {F G : γ → α → Prop} (mono : ∀ b x, F b x → G b x) : ∀ {bs : List γ} {xs : List α}, Paired F bs xs → Paired G bs xs
  | _, _, .nil => .nil
  | _, _, .cons r t => .cons (mono _ _ r) (paired_same mono t)
theorem paired_get {α β : Type} {F : α → β → Prop} : ∀ {l : List α} {m : List β} {i : Nat} {y : β}, Paired F l m → m[i]? = some y → ∃ x, l[i]? = some x ∧ F x y
  | _, _, _, _, .nil, e => by simp at e
  | _, _, 0, _, .cons r _, e => by
    simp at e
    subst e
    exact ⟨_, rfl, r⟩
  | _, _, j + 1, y, .cons _ t, e => by
    obtain ⟨x, h1, h2⟩ := paired_get (i := j) (y := y) t (by simpa using e)
    exact ⟨x, by simpa using h1, h2⟩
theorem paired_getL {α β : Type} {F : α → β → Prop} : ∀ {l : List α} {m : List β} {i : Nat} {x : α}, Paired F l m → l[i]? = some x → ∃ y, m[i]? = some y ∧ F x y
  | _, _, _, _, .nil, e => by simp at e
  | _, _, 0, _, .cons r _, e => by
    simp at e
    subst e
    exact ⟨_, rfl, r⟩
  | _, _, j + 1, y, .cons _ t, e => by
    obtain ⟨x, h1, h2⟩ := paired_getL (i := j) (x := y) t (by simpa using e)
    exact ⟨x, by simpa using h1, h2⟩
theorem paired_len {α β : Type} {F : α → β → Prop} : ∀ {l : List α} {m : List β}, Paired F l m → l.length = m.length
  | _, _, .nil => rfl
  | _, _, .cons _ t => by rw [List.length_cons, List.length_cons, paired_len t]
section
variable {K : PySem.W.Frag} {H H' : Hp} {a : Addr}
theorem MarksAt.same {ms : List (List Nat)} (h : MarksAt H a ms) (s : Same H H') : MarksAt H' a ms := by
  obtain ⟨bs, h1, h2⟩ := h
  exact ⟨bs, s _ _ h1, paired_same (fun b x q => s _ _ q) h2⟩
theorem NamesAt.same {ms : List (List Nat)} (h : NamesAt H a ms) (s : Same H H') : NamesAt H' a ms := by
  obtain ⟨bs, h1, h2⟩ := h
  exact ⟨bs, s _ _ h1, paired_same (fun b x q => s _ _ q) h2⟩
theorem PairsAt.same {ms : List (Nat × Nat)} (h : PairsAt H a ms) (s : Same H H') : PairsAt H' a ms := by
  obtain ⟨bs, h1, h2⟩ := h
  exact ⟨bs, s _ _ h1, paired_same (fun b x q => s _ _ q) h2⟩
theorem CardAt.same {x : Card} (h : CardAt K H a x) (s : Same H H') : CardAt K H' a x := by
  obtain ⟨dx, pn, wi, ni, h1, h2, h3, h4⟩ := h
  exact ⟨dx, pn, wi, ni, s _ _ h1, s _ _ h2, s _ _ h3, s _ _ h4⟩
theorem CardsAt.same {cs : List Card} (h : CardsAt K H a cs) (s : Same H H') : CardsAt K H' a cs := by
  obtain ⟨bs, h1, h2⟩ := h
  exact ⟨bs, s _ _ h1, paired_same (fun b x q => q.same s) h2⟩
theorem SV.same {f : File} {t : State} (h : SV K H a f t) (s : Same H H') : SV K H' a f t := by
  obtain ⟨dx, ma, la, ca, h1, h2, h3, h4⟩ := h
  exact ⟨dx, ma, la, ca, s _ _ h1, h2.same s, h3.same s, h4.same s⟩
end
end Bw
namespace Bw
open PySem PySem.Spec PyProof.Rows L2
open Vbenah (File State Card Act)
/-! ### loops and comprehensions over data -/
theorem smT {A B C : Hp} (a : Same A B) (b : Same B C) : Same A C := fun x o h => b x o (a x o h)
theorem smR {A : Hp} : Same A A := fun _ _ h => h
theorem del_eq (H : Hp) (a b : Addr) : del H a b = if b = a then none else H b := by
  by_cases h : b = a
  · rw [if_pos h, h, del_same]
  · rw [if_neg h, del_ne h]
theorem nth_map_ref {bs : List Addr} {i : Nat} {v : V} (h : (bs.map V.ref)[i]? = some v) : ∃ b, bs[i]? = some b ∧ v = .ref b := by
  rw [List.getElem?_map] at h
  cases e : bs[i]? with
  | none => rw [e] at h; cases h
  | some b => rw [e] at h; exact ⟨b, rfl, (Option.some.inj h).symm⟩
theorem nth_nV {l : List Nat} {i : Nat} {v : V} (h : (nV l)[i]? = some v) : ∃ n, l[i]? = some n ∧ v = .int (n : Nat) := by
  unfold nV at h
  rw [List.getElem?_map] at h
  cases e : l[i]? with
  | none => rw [e] at h; cases h
  | some b => rw [e] at h; exact ⟨b, rfl, (Option.some.inj h).symm⟩
section
variable {K : PySem.W.Frag} {a : Addr} {α : Type} {F : Addr → α → Prop} {bs : List Addr} {xs : List α} {l : List Nat}
theorem walk_refs (pr : Paired F bs xs) : Walk (Itl K a) xs.length (fun H => SqL K H a (bs.map V.ref)) (fun i H v H' => H' = H ∧ ∃ b x, v = .ref b ∧ xs[i]? = some x ∧ F b x) := by
  have e : (bs.map V.ref).length = xs.length := by rw [List.length_map, paired_len pr]
  rw [← e]
  refine Walk.mono walk_list (fun H h => h) fun i H v H' hi h y => ?_
  obtain ⟨b, hb, ev⟩ := nth_map_ref y.2
  obtain ⟨x, hx, hf⟩ := paired_getL pr hb
  exact ⟨y.1, b, x, ev, hx, hf⟩
theorem walk_refsE (pr : Paired F bs xs) : Walk (Ite K a) xs.length (fun H => SqL K H a (bs.map V.ref)) (fun i H v H' => ∃ T b x, v = .ref T ∧ H T = none ∧ H' = upd H T (.tup [.int (i : Nat), .ref b]) ∧ xs[i]? = some x ∧ F b x) := by
  have e : (bs.map V.ref).length = xs.length := by rw [List.length_map, paired_len pr]
  rw [← e]
  refine Walk.mono walk_enum (fun H h => h) fun i H v H' hi h y => ?_
  obtain ⟨T, v1, v2, e1, e2, e3, e4, e5⟩ := y
  obtain ⟨b, hb, ev⟩ := nth_map_ref e5
  obtain ⟨x, hx, hf⟩ := paired_getL pr hb
  cases e4
  exact ⟨T, b, x, e1, e2, by rw [e3, ev], hx, hf⟩
theorem walk_nums : Walk (Itl K a) l.length (fun H => SqL K H a (nV l)) (fun i H v H' => H' = H ∧ ∃ n, v = .int (n : Nat) ∧ l[i]? = some n) := by
  have e : (nV l).length = l.length := List.length_map _
  rw [← e]
  refine Walk.mono walk_list (fun H h => h) fun i H v H' hi h y => ?_
  obtain ⟨b, hb, ev⟩ := nth_nV y.2
  exact ⟨y.1, b, ev, hb⟩
theorem walk_numsT : Walk (Itt K a) l.length (fun H => SqT K H a (nV l)) (fun i H v H' => H' = H ∧ ∃ n, v = .int (n : Nat) ∧ l[i]? = some n) := by
  have e : (nV l).length = l.length := List.length_map _
  rw [← e]
  refine Walk.mono walk_tup (fun H h => h) fun i H v H' hi h y => ?_
  obtain ⟨b, hb, ev⟩ := nth_nV y.2
  exact ⟨y.1, b, ev, hb⟩
end
/-- a comprehension behind i turns over xs: D holds what g gave; B the heap without D -/
def CL {α β : Type} (H0 : Hp) (D : Addr) (R : Hp → V → β → Prop) (xs : List α) (g : α → Option β) (i : Nat) (H : Hp) : Prop :=
  ∃ B vs, Same H0 B ∧ Same B H ∧ B D = none ∧ H D = some (.lst vs) ∧ Paired (R B) vs ((xs.take i).filterMap g)
section
variable {α β : Type} {H0 H H4 : Hp} {D : Addr} {R : Hp → V → β → Prop} {xs : List α} {g : α → Option β} {i : Nat} {x : α} {y : β} {v : V}
theorem take_step (hx : xs[i]? = some x) : (xs.take (i + 1)).filterMap g = (xs.take i).filterMap g ++ (g x).toList := by
  rw [List.take_succ, hx, List.filterMap_append]
  cases e : g x <;> simp [e]
theorem CL.start (hD : H0 D = none) : CL H0 D R xs g 0 (upd H0 D (.lst [])) :=
  ⟨H0, [], smR, Same.new hD, hD, upd_same, .nil⟩
theorem CL.same (p : CL H0 D R xs g i H) : Same H0 H := by
  obtain ⟨B, vs, h1, h2, _⟩ := p
  exact smT h1 h2
theorem paired_snoc {α β : Type} {F : α → β → Prop} : ∀ {l : List α} {m : List β} {x : α} {y : β}, Paired F l m → F x y → Paired F (l ++ [x]) (m ++ [y])
  | _, _, _, _, .nil, h => .cons h .nil
  | _, _, _, _, .cons r t, h => .cons r (paired_snoc t h)
theorem paired_append {α β : Type} {F : α → β → Prop} : ∀ {l l2 : List α} {m m2 : List β}, Paired F l m → Paired F l2 m2 → Paired F (l ++ l2) (m ++ m2)
  | _, _, _, _, .nil, h => h
  | _, _, _, _, .cons r t, h => .cons r (paired_append t h)
theorem CL.put (p : CL H0 D R xs g i H) (s : Same H H4) (hx : xs[i]? = some x) (hg : g x = some y) (hz : xs.length ≤ 1000000) (mono : ∀ B B' (v : V) y, Same B B' → R B v y → R B' v y)
    (hR : ∀ B, (∀ b o, b ≠ D → H4 b = some o → B b = some o) → R B v y) : ∃ acc, H4 D = some (.lst acc) ∧ acc.length < sizeLine ∧ CL H0 D R xs g (i + 1) (upd H4 D (.lst (acc ++ [v]))) := by
  obtain ⟨B, vs, h1, h2, h3, h4, h5⟩ := p
  have hb : Same B (del H4 D) := fun b o e => by
    have hne : b ≠ D := ne_of_none e h3
    rw [del_ne hne]
    exact s _ _ (h2 _ _ e)
  refine ⟨vs, s _ _ h4, ?_, del H4 D, vs ++ [v], smT h1 hb, fun b o e => ?_, del_same, upd_same, ?_⟩
  · have e1 := paired_len h5
    have e2 := List.length_filterMap_le g (xs.take i)
    have e3 := List.length_take_le i xs
    have e4 : (xs.take i).length ≤ xs.length := by simp; omega
    exact Nat.lt_of_le_of_lt (by omega : vs.length ≤ 1000000) (by decide)
  · have hne : b ≠ D := ne_of_none e del_same
    rw [upd_ne hne]
    rw [del_ne hne] at e
    exact e
  · rw [take_step hx, hg]
    exact paired_snoc (paired_same (fun v y => mono _ _ v y hb) h5) (hR _ fun b o hb q => by rw [del_ne hb]; exact q)
theorem CL.skip (p : CL H0 D R xs g i H) (s : Same H H4) (hx : xs[i]? = some x) (hg : g x = none) : CL H0 D R xs g (i + 1) H4 := by
  obtain ⟨B, vs, h1, h2, h3, h4, h5⟩ := p
  refine ⟨B, vs, h1, smT h2 s, h3, s _ _ h4, ?_⟩
  rw [take_step hx, hg, Option.toList_none, List.append_nil]
  exact h5
theorem CL.fin (p : CL H0 D R xs g xs.length H) : ∃ B vs, Same H0 B ∧ Same B H ∧ B D = none ∧ H D = some (.lst vs) ∧ Paired (R B) vs (xs.filterMap g) := by
  have h := p
  unfold CL at h
  rw [List.take_length] at h
  exact h
end
/-- a number's value -/
def isN : Hp → V → Nat → Prop := fun _ v n => v = .int (n : Nat)
theorem isN_mono (B B' : Hp) (v : V) (y : Nat) (_ : Same B B') (h : isN B v y) : isN B' v y := h
theorem paired_isN {B : Hp} : ∀ {vs : List V} {l : List Nat}, Paired (isN B) vs l → vs = nV l
  | _, _, .nil => rfl
  | _, _, .cons r t => by rw [paired_isN t, show _ = _ from r]; rfl
/-- a ref and what stands there -/
def isR {β : Type} (F : Hp → Addr → β → Prop) : Hp → V → β → Prop := fun B v y => ∃ b, v = .ref b ∧ F B b y
theorem isR_mono {β : Type} {F : Hp → Addr → β → Prop} (m : ∀ B B' b y, Same B B' → F B b y → F B' b y) (B B' : Hp) (v : V) (y : β) (s : Same B B') (h : isR F B v y) : isR F B' v y := by
  obtain ⟨b, e, q⟩ := h
  exact ⟨b, e, m _ _ _ _ s q⟩
theorem paired_isR {β : Type} {F : Hp → Addr → β → Prop} {B : Hp} : ∀ {vs : List V} {l : List β}, Paired (isR F B) vs l → ∃ bs, vs = bs.map V.ref ∧ Paired (F B) bs l
  | _, _, .nil => ⟨[], rfl, .nil⟩
  | _, _, .cons r t => by
    obtain ⟨bs, e, q⟩ := paired_isR t
    obtain ⟨b, e1, q1⟩ := r
    exact ⟨b :: bs, by rw [e, e1]; rfl, .cons q1 q⟩
theorem filterMap_filter_map {α β : Type} (p : α → Bool) (f : α → β) (l : List α) : l.filterMap (fun x => if p x = true then some (f x) else none) = (l.filter p).map f := by
  induction l with
  | nil => rfl
  | cons x l ih =>
    by_cases h : p x = true
    · simp [h, ih]
    · simp [h, ih]
end Bw
namespace Bw
open PySem PySem.Spec PyProof.Rows L2
open Vbenah (File State Card Act)
theorem dN (a b : Nat) : decide (V.int (a : Nat) = V.int (b : Nat)) = (a == b) := by
  by_cases h : a = b
  · subst h
    simp
  · have h2 : ¬ V.int (a : Nat) = V.int (b : Nat) := fun z => h (by injection z with z; omega)
    rw [decide_eq_false h2, beq_eq_false_iff_ne.mpr h]
theorem dI (a b : Int) : decide (V.int a = V.int b) = decide (a = b) := by
  by_cases h : a = b
  · subst h
    simp
  · have h2 : ¬ V.int a = V.int b := fun z => h (by injection z with z)
    rw [decide_eq_false h2, decide_eq_false h]
end Bw
namespace Bw
theorem filterMap_filter' {α : Type} (p : α → Bool) (l : List α) : l.filterMap (fun x => if p x = true then some x else none) = l.filter p := by
  induction l with
  | nil => rfl
  | cons x l ih =>
    by_cases h : p x = true
    · simp [h, ih]
    · simp [h, ih]
end Bw
namespace Bw
open PySem PySem.Spec PyProof.Rows L2
open Vbenah (File State Card Act)
/-! ### equality of data -/
structure DE {α : Type} [DecidableEq α] (e : α → PyData) (k : Nat) : Prop where
  lay : ∀ x, (e x).canLay0 = true
  dep : ∀ x, (e x).depth ≤ k
  eq : ∀ x y, PyData.eqv (e x) (e y) = decide (x = y)
theorem DE.shaped {α : Type} [DecidableEq α] {e : α → PyData} {k : Nat} (h : DE e k) (hk : k ≤ 64) (x : α) : SeqAt.shaped (e x) = true := by
  have := h.dep x
  show ((e x).canLay0 && decide ((e x).depth ≤ 64)) = true
  rw [h.lay, decide_eq_true (by omega)]
  rfl
theorem deN : DE (fun n : Nat => PyData.int (n : Nat)) 0 := by
  refine ⟨fun x => ?_, fun x => ?_, fun x y => ?_⟩
  · simp only [PyData.canLay0]
  · simp only [PyData.depth, Nat.le_refl]
  · simp only [PyData.eqv]
    by_cases h : x = y
    · subst h
      simp
    · rw [decide_eq_false h]
      exact beq_eq_false_iff_ne.mpr (by omega)
section
variable {α β γ : Type} [DecidableEq α] [DecidableEq β] [DecidableEq γ] {e : α → PyData} {e2 : β → PyData} {e3 : γ → PyData} {k : Nat}
theorem deAllLay (h : DE e k) : ∀ l : List α, PyData.canLayAll0 (l.map e) = true
  | [] => by simp only [List.map_nil, PyData.canLayAll0]
  | x :: l => by simp only [List.map_cons, PyData.canLayAll0, h.lay, deAllLay h l, Bool.and_self]
theorem deAllDep (h : DE e k) : ∀ l : List α, PyData.depthAll (l.map e) ≤ k
  | [] => by simp only [List.map_nil, PyData.depthAll, Nat.zero_le]
  | x :: l => by
    have h1 := deAllDep h l
    have h2 := h.dep x
    simp only [List.map_cons, PyData.depthAll]
    omega
theorem deAllEq (h : DE e k) : ∀ l m : List α, PyData.eqvAll (l.map e) (m.map e) = decide (l = m)
  | [], [] => by simp [PyData.eqvAll]
  | [], _ :: _ => by simp [PyData.eqvAll]
  | _ :: _, [] => by simp [PyData.eqvAll]
  | x :: l, y :: m => by
    simp only [List.map_cons, PyData.eqvAll, h.eq, deAllEq h l m]
    by_cases h1 : x = y <;> by_cases h2 : l = m <;> simp [h1, h2]
theorem deL (h : DE e k) : DE (fun l : List α => PyData.list (l.map e)) (k + 1) := by
  refine ⟨fun x => ?_, fun x => ?_, fun x y => ?_⟩
  · simp only [PyData.canLay0, deAllLay h]
  · have := deAllDep h x
    simp only [PyData.depth]
    omega
  · simp only [PyData.eqv, deAllEq h]
theorem deT (h : DE e k) : DE (fun l : List α => PyData.tuple (l.map e)) (k + 1) := by
  refine ⟨fun x => ?_, fun x => ?_, fun x y => ?_⟩
  · simp only [PyData.canLay0, deAllLay h]
  · have := deAllDep h x
    simp only [PyData.depth]
    omega
  · simp only [PyData.eqv, deAllEq h]
theorem de2 (h : DE e k) (h2 : DE e2 k) : DE (fun p : α × β => PyData.tuple [e p.1, e2 p.2]) (k + 1) := by
  refine ⟨fun x => ?_, fun x => ?_, fun x y => ?_⟩
  · simp only [PyData.canLay0, PyData.canLayAll0, h.lay, h2.lay, Bool.and_self]
  · have q1 := h.dep x.1
    have q2 := h2.dep x.2
    simp only [PyData.depth, PyData.depthAll]
    omega
  · obtain ⟨a, b⟩ := x
    obtain ⟨c, d⟩ := y
    simp only [PyData.eqv, PyData.eqvAll, h.eq, h2.eq, Bool.and_true]
    by_cases g1 : a = c <;> by_cases g2 : b = d <;> simp [g1, g2]
theorem de3 (h : DE e k) (h2 : DE e2 k) (h3 : DE e3 k) : DE (fun p : α × β × γ => PyData.tuple [e p.1, e2 p.2.1, e3 p.2.2]) (k + 1) := by
  refine ⟨fun x => ?_, fun x => ?_, fun x y => ?_⟩
  · simp only [PyData.canLay0, PyData.canLayAll0, h.lay, h2.lay, h3.lay, Bool.and_self]
  · have q1 := h.dep x.1
    have q2 := h2.dep x.2.1
    have q3 := h3.dep x.2.2
    simp only [PyData.depth, PyData.depthAll]
    omega
  · obtain ⟨a, b, c⟩ := x
    obtain ⟨a', b', c'⟩ := y
    simp only [PyData.eqv, PyData.eqvAll, h.eq, h2.eq, h3.eq, Bool.and_true]
    by_cases g1 : a = a' <;> by_cases g2 : b = b' <;> by_cases g3 : c = c' <;> simp [g1, g2, g3]
end
abbrev dN1 : Nat → PyData := fun n => PyData.int (n : Nat)
abbrev dL1 : List Nat → PyData := fun l => PyData.list (l.map dN1)
abbrev dT1 : List Nat → PyData := fun l => PyData.tuple (l.map dN1)
abbrev dP1 : Nat × Nat → PyData := fun p => PyData.tuple [dN1 p.1, dN1 p.2]
theorem deL1 : DE dL1 1 := deL deN
theorem deT1 : DE dT1 1 := deT deN
theorem deP1 : DE dP1 1 := de2 deN deN
theorem any_eqv {α : Type} [DecidableEq α] [BEq α] [LawfulBEq α] {e : α → PyData} {k : Nat} (h : DE e k) (l : List α) (x : α) : ((l.map e).any fun z => PyData.eqv z (e x)) = l.contains x := by
  induction l with
  | nil => rfl
  | cons y l ih =>
    rw [List.map_cons, List.any_cons, ih, h.eq, List.contains_cons]
    by_cases g : y = x
    · subst g
      simp
    · have g2 : ¬ x = y := fun z => g z.symm
      simp [g, g2]
theorem contains_dec {α : Type} [BEq α] [LawfulBEq α] [DecidableEq α] (l : List α) (x : α) : l.contains x = decide (x ∈ l) := by
  by_cases h : x ∈ l
  · rw [decide_eq_true h]
    exact List.contains_iff_mem.mpr h
  · rw [decide_eq_false h]
    exact Bool.eq_false_iff.mpr fun z => h (List.contains_iff_mem.mp z)
section
variable {K : PySem.W.Frag} {H : Hp} {a : Addr}
theorem dpAll_nV : ∀ l : List Nat, DpAll K H (nV l) (l.map dN1)
  | [] => .nil
  | x :: l => .cons (.int _) (dpAll_nV l)
theorem dpL {l : List Nat} (h : SqL K H a (nV l)) : Dp K H (.ref a) (dL1 l) := .lst h (dpAll_nV l)
theorem dpT {l : List Nat} (h : SqT K H a (nV l)) : Dp K H (.ref a) (dT1 l) := .tup h (dpAll_nV l)
theorem dpP {p : Nat × Nat} (h : SqT K H a [.int (p.1 : Nat), .int (p.2 : Nat)]) : Dp K H (.ref a) (dP1 p) := .tup h (.cons (.int _) (.cons (.int _) .nil))
theorem dpRefs {α : Type} {F : Addr → α → Prop} {e : α → PyData} (m : ∀ b x, F b x → Dp K H (.ref b) (e x)) : ∀ {bs : List Addr} {xs : List α}, Paired F bs xs → DpAll K H (bs.map V.ref) (xs.map e)
  | _, _, .nil => .nil
  | _, _, .cons r t => .cons (m _ _ r) (dpRefs m t)
end
/-! ### dicts by numbers -/
abbrev dkv (l : List (Nat × V)) : List (Key × V) := l.map fun x => (Sum.inl (x.1 : Int), x.2)
theorem dkv_cons (x : Nat × V) (l : List (Nat × V)) : dkv (x :: l) = (Sum.inl (x.1 : Int), x.2) :: dkv l := rfl
theorem dkv_append (l m : List (Nat × V)) : dkv (l ++ m) = dkv l ++ dkv m := List.map_append
abbrev zs (ks : List Nat) : List Int := ks.map fun k : Nat => (k : Int)
theorem inl_nat {a b : Nat} : (Sum.inl (a : Int) : Key) = Sum.inl (b : Int) ↔ a = b := ⟨fun h => by injection h with h; omega, fun h => by rw [h]⟩
theorem valV_dkv (l : List (Nat × V)) (k : Nat) : valV (dkv l) (Sum.inl (k : Int)) = (l.find? fun x => x.1 == k).map (·.2) := by
  induction l with
  | nil => rfl
  | cons x l ih =>
    unfold valV at *
    rw [dkv_cons, List.find?_cons, List.find?_cons]
    by_cases h : x.1 = k
    · have e1 : decide ((Sum.inl (x.1 : Int) : Key) = Sum.inl (k : Int)) = true := decide_eq_true (inl_nat.mpr h)
      have e2 : (x.1 == k) = true := beq_iff_eq.mpr h
      rw [e1, e2]
      rfl
    · have e1 : decide ((Sum.inl (x.1 : Int) : Key) = Sum.inl (k : Int)) = false := decide_eq_false fun z => h (inl_nat.mp z)
      have e2 : (x.1 == k) = false := beq_eq_false_iff_ne.mpr h
      rw [e1, e2]
      exact ih
theorem putK_dkv (l : List (Nat × V)) (k : Nat) (v : V) (h : ¬ k ∈ l.map (·.1)) : putK (dkv l) (Sum.inl (k : Int)) v = dkv (l ++ [(k, v)]) := by
  rw [putK_new v, dkv_append]
  · rfl
  · rw [valV_dkv]
    have : l.find? (fun x => x.1 == k) = none := List.find?_eq_none.mpr fun x hx e => h (List.mem_map.mpr ⟨x, hx, beq_iff_eq.mp e⟩)
    rw [this]
    rfl
/-- a dict as a set of numbers -/
abbrev tset (ks : List Nat) : List (Key × V) := dkv (ks.map fun k => (k, V.bl true))
theorem tset_val (ks : List Nat) (k : Nat) : (valV (tset ks) (Sum.inl (k : Int))).isSome = ks.contains k := by
  rw [valV_dkv]
  induction ks with
  | nil => rfl
  | cons x l ih =>
    rw [List.map_cons, List.find?_cons, List.contains_cons]
    by_cases h : x = k
    · subst h
      simp
    · have e : (x == k) = false := beq_eq_false_iff_ne.mpr h
      have e2 : (k == x) = false := beq_eq_false_iff_ne.mpr fun z => h z.symm
      simp only [e, e2, Bool.false_or]
      exact ih
/-- a number more in a set told as a row -/
def addN (ks : List Nat) (k : Nat) : List Nat := if ks.contains k = true then ks else ks ++ [k]
theorem mem_addN {ks : List Nat} {k x : Nat} : x ∈ addN ks k ↔ x ∈ ks ∨ x = k := by
  unfold addN
  by_cases h : ks.contains k = true
  · rw [if_pos h]
    rw [List.contains_iff_mem] at h
    exact ⟨Or.inl, fun q => q.elim id fun e => e ▸ h⟩
  · rw [if_neg h, List.mem_append, List.mem_singleton]
theorem nodup_addN {ks : List Nat} {k : Nat} (h : ks.Nodup) : (addN ks k).Nodup := by
  unfold addN
  by_cases g : ks.contains k = true
  · rw [if_pos g]
    exact h
  · rw [if_neg g]
    exact nd_snoc h fun m => g (List.contains_iff_mem.mpr m)
theorem putK_same {κ : Type} [DecidableEq κ] (k : κ) (v : V) : ∀ {kvs : List (κ × V)}, (∀ p ∈ kvs, p.1 = k → p.2 = v) → (kvs.any fun kv => decide (kv.1 = k)) = true → putK kvs k v = kvs := by
  intro kvs h1 h2
  unfold putK
  rw [if_pos h2]
  conv => rhs; rw [← List.map_id kvs]
  refine List.map_congr_left fun p hp => ?_
  by_cases e : p.1 = k
  · rw [if_pos (by simpa using e)]
    have := h1 p hp e
    cases p
    simp only [id] at *
    rw [this]
  · rw [if_neg (by simpa using e)]
    rfl
theorem tset_put (ks : List Nat) (k : Nat) : putK (tset ks) (Sum.inl (k : Int)) (V.bl true) = tset (addN ks k) := by
  unfold addN
  by_cases h : ks.contains k = true
  · rw [if_pos h]
    refine putK_same _ _ (fun p hp _ => ?_) ?_
    · obtain ⟨q, hq, rfl⟩ := List.mem_map.mp hp
      obtain ⟨r, hr, rfl⟩ := List.mem_map.mp hq
      rfl
    · rw [valV_any, tset_val, h]
  · rw [if_neg h]
    show putK (dkv _) _ _ = _
    rw [putK_dkv _ _ _ fun m => ?_]
    · show _ = dkv ((ks ++ [k]).map fun k => (k, V.bl true))
      rw [List.map_append]
      rfl
    · obtain ⟨q, hq, e⟩ := List.mem_map.mp m
      obtain ⟨r, hr, rfl⟩ := List.mem_map.mp hq
      cases e
      exact h (List.contains_iff_mem.mpr hr)
theorem tset_keys (ks : List Nat) : (tset ks).map (·.1) = (zs ks).map (Sum.inl : Int → Key) := by
  induction ks with
  | nil => rfl
  | cons x l ih =>
    exact congrArg (List.cons _) ih
/-- sorted numbers -/
theorem sorted_nats {ks : List Nat} {l : List Nat} {ys : List Int} (p : ys.Perm (zs ks)) (s : ys.Pairwise (· ≤ ·)) (hk : ks.Nodup) (hl : l.Pairwise (· < ·)) (hm : ∀ x, x ∈ ks ↔ x ∈ l) : ys.map V.int = nV l := by
  have p2 : ks.Perm l := (List.perm_ext_iff_of_nodup hk (List.Pairwise.imp (fun h => Nat.ne_of_lt h) hl)).mpr hm
  have e : ys = zs l := by
    refine List.Perm.eq_of_pairwise (le := (· ≤ ·)) (fun a b _ _ h1 h2 => by omega) s ?_ (p.trans (p2.map _))
    exact List.pairwise_map.mpr (List.Pairwise.imp (fun h => by omega) hl)
  rw [e, List.map_map]
  rfl
end Bw
namespace Bw
open PySem PySem.Spec PyProof.Rows L2
theorem dgetN {H : Hp} {a : Addr} {kvs : List (Key × V)} {k : Int} (e : H a = some (.dK kvs)) : DGet H a (V.int k) (valV kvs (Sum.inl k)) := DGet.k (k := Sum.inl k) e
theorem dputN {H : Hp} {a : Addr} {kvs : List (Key × V)} {k : Int} {v : V} (e : H a = some (.dK kvs)) (hl : kvs.length < sizeLine) : DPut H a (V.int k) v (upd H a (.dK (putK kvs (Sum.inl k) v))) := DPut.k (k := Sum.inl k) e hl
theorem nV_snoc (l : List Nat) (x : Nat) : nV (l ++ [x]) = nV l ++ [V.int (x : Nat)] := List.map_append
theorem nV_append (l m : List Nat) : nV (l ++ m) = nV l ++ nV m := List.map_append
theorem nV_len (l : List Nat) : (nV l).length = l.length := List.length_map _
theorem snoc_last {α : Type} (l : List α) (x : α) : (l ++ [x])[(l ++ [x]).length - 1]? = some x := by simp
theorem ty_lst {K : PySem.W.Frag} {H : Hp} {a : Addr} {xs : List V} (h : H a = some (.lst xs)) : tyV K "list" (.ref a) H := Or.inl ⟨rfl, xs, SqL.of h⟩
end Bw
namespace Bw
open PySem PySem.Spec PyProof.Rows L2
theorem flat_nV (l : List Nat) : (nV l).all flatV = true := List.all_eq_true.mpr fun x h => by
  obtain ⟨n, _, rfl⟩ := List.mem_map.mp h
  rfl
theorem inV_nV (x : Nat) (l : List Nat) : inV (.int (x : Nat)) (nV l) = l.contains x := by
  unfold inV
  induction l with
  | nil => rfl
  | cons y l ih =>
    show (eqV (.int (y : Nat)) (.int (x : Nat)) || (nV l).any _) = _
    rw [ih, List.contains_cons]
    congr 1
    show ((y : Int) == (x : Int)) = (x == y)
    by_cases h : x = y
    · subst h
      simp
    · have e : (x == y) = false := beq_eq_false_iff_ne.mpr h
      rw [e]
      exact beq_eq_false_iff_ne.mpr (by omega)
theorem atI_nat {α : Type} {xs : List α} {i : Nat} {x : α} (h : xs[i]? = some x) : atI xs (i : Int) = some x := by
  have hi : i < xs.length := by
    rcases Nat.lt_or_ge i xs.length with g | g
    · exact g
    · rw [List.getElem?_eq_none g] at h
      cases h
  unfold atI ixN
  rw [if_pos (by omega), if_pos (by omega)]
  simpa using h
theorem get_nV {l : List Nat} {i n : Nat} (h : l[i]? = some n) : (nV l)[i]? = some (.int (n : Nat)) := by
  rw [List.getElem?_map, h]
  rfl
theorem get_ref {bs : List Addr} {i : Nat} {b : Addr} (h : bs[i]? = some b) : (bs.map V.ref)[i]? = some (.ref b) := by
  rw [List.getElem?_map, h]
  rfl
theorem mem_of_get {α : Type} {l : List α} {i : Nat} {x : α} (h : l[i]? = some x) : x ∈ l := List.mem_of_getElem? h
theorem take_mem {α : Type} {l : List α} {i : Nat} {x : α} (h : l[i]? = some x) (y : α) : y ∈ l.take (i + 1) ↔ y ∈ l.take i ∨ y = x := by
  rw [List.take_succ, h]
  simp
end Bw
namespace Bw
open PySem PySem.Spec PyProof.Rows L2
theorem walk_rngN {n : Nat} : Walk (Itr 0 ((n : Int)).toNat) n (fun _ => True) (fun i H v H' => H' = H ∧ v = .int (i : Nat)) := by
  have e : ((n : Int)).toNat = n := by simp
  rw [e]
  exact Walk.mono walk_range (fun H h => h) fun i H v H' _ _ y => ⟨y.1, by rw [y.2]; show V.int ((0 : Int) + (i : Nat)) = _; rw [Int.zero_add]⟩
end Bw
namespace Bw
open PySem PySem.Spec PyProof.Rows L2
/-- a truth value -/
def isB : Hp → V → Bool → Prop := fun _ v n => v = .bl n
theorem isB_mono (B B' : Hp) (v : V) (y : Bool) (_ : Same B B') (h : isB B v y) : isB B' v y := h
theorem paired_isB {B : Hp} : ∀ {vs : List V} {l : List Bool}, Paired (isB B) vs l → vs = l.map V.bl
  | _, _, .nil => rfl
  | _, _, .cons r t => by rw [paired_isB t, show _ = _ from r]; rfl
theorem filterMap_some' {α β : Type} (f : α → β) (l : List α) : l.filterMap (fun x => some (f x)) = l.map f := by
  induction l with
  | nil => rfl
  | cons x l ih => simp
/-- all and any of a comprehension's truth values -/
theorem CL.bools {α : Type} {H0 H : Hp} {D : Addr} {xs : List α} {g : α → Bool} (p : CL H0 D isB xs (fun x => some (g x)) xs.length H) : Same H0 H ∧ H D = some (.lst ((xs.map g).map V.bl)) := by
  obtain ⟨B, vs, h1, h2, h3, h4, h5⟩ := p.fin
  rw [filterMap_some'] at h5
  rw [paired_isB h5] at h4
  exact ⟨Same.trans h1 h2, h4⟩
theorem all_map_id {α : Type} (g : α → Bool) (l : List α) : (l.map g).all id = l.all g := by
  rw [List.all_map]
  rfl
theorem any_map_id {α : Type} (g : α → Bool) (l : List α) : (l.map g).any id = l.any g := by
  rw [List.any_map]
  rfl
theorem all_congr' {α : Type} {p q : α → Bool} {l : List α} (h : ∀ x ∈ l, p x = q x) : l.all p = l.all q := by
  induction l with
  | nil => rfl
  | cons x l ih => rw [List.all_cons, List.all_cons, h x List.mem_cons_self, ih fun y hy => h y (List.mem_cons_of_mem _ hy)]
theorem any_congr' {α : Type} {p q : α → Bool} {l : List α} (h : ∀ x ∈ l, p x = q x) : l.any p = l.any q := by
  induction l with
  | nil => rfl
  | cons x l ih => rw [List.any_cons, List.any_cons, h x List.mem_cons_self, ih fun y hy => h y (List.mem_cons_of_mem _ hy)]
end Bw
namespace Bw
open PySem PySem.Spec PyProof.Rows L2
theorem yes_ {σ : L2.St} {H : Hp} {A B : Hp → Prop} (h : A H) : tYes σ H fun b H3 => if b = true then A H3 else B H3 := by
  show if true = true then A H else B H
  rw [if_pos rfl]
  exact h
end Bw
namespace Bw
open Vbenah (File State Card Act)
/-! ### plain: ways up -/
/-- a way of at most so many steps -/
def Wk (p : List (Nat × Nat)) : Nat → Nat → Nat → Prop
  | 0, a, b => a = b
  | k + 1, a, b => a = b ∨ ∃ c, (a, c) ∈ p ∧ Wk p k c b
/-- a way of one step or more -/
def Rch (p : List (Nat × Nat)) (a b : Nat) : Prop := ∃ c k, (a, c) ∈ p ∧ Wk p k c b
theorem Wk.refl (p : List (Nat × Nat)) : ∀ (k a : Nat), Wk p k a a
  | 0, _ => rfl
  | _ + 1, _ => Or.inl rfl
theorem Wk.up {p : List (Nat × Nat)} : ∀ {k a b : Nat}, Wk p k a b → Wk p (k + 1) a b
  | 0, _, _, h => Or.inl h
  | k + 1, a, b, h => by
    rcases h with h | ⟨c, h1, h2⟩
    · exact Or.inl h
    · exact Or.inr ⟨c, h1, h2.up⟩
theorem Wk.mono {p : List (Nat × Nat)} {k m a b : Nat} (h : Wk p k a b) (hm : k ≤ m) : Wk p m a b := by
  induction hm with
  | refl => exact h
  | step _ ih => exact ih.up
theorem Wk.snoc {p : List (Nat × Nat)} : ∀ {k a b c : Nat}, Wk p k a b → (b, c) ∈ p → Wk p (k + 1) a c
  | 0, a, b, c, h, e => by
    subst h
    exact Or.inr ⟨c, e, rfl⟩
  | k + 1, a, b, c, h, e => by
    rcases h with h | ⟨d, h1, h2⟩
    · subst h
      exact Or.inr ⟨c, e, Wk.refl _ _ _⟩
    · exact Or.inr ⟨d, h1, h2.snoc e⟩
theorem Wk.last {p : List (Nat × Nat)} : ∀ {k a b : Nat}, Wk p (k + 1) a b → Wk p k a b ∨ ∃ c, Wk p k a c ∧ (c, b) ∈ p
  | 0, a, b, h => by
    rcases h with h | ⟨c, h1, h2⟩
    · exact Or.inl h
    · cases (h2 : c = b)
      exact Or.inr ⟨a, rfl, h1⟩
  | k + 1, a, b, h => by
    rcases h with h | ⟨c, h1, h2⟩
    · exact Or.inl (Or.inl h)
    · rcases h2.last with h3 | ⟨d, h3, h4⟩
      · exact Or.inl (Or.inr ⟨c, h1, h3⟩)
      · exact Or.inr ⟨d, Or.inr ⟨c, h1, h3⟩, h4⟩
theorem Wk.trans {p : List (Nat × Nat)} : ∀ {k m a b c : Nat}, Wk p k a b → Wk p m b c → Wk p (k + m) a c
  | 0, m, a, b, c, h, e => by
    cases (h : a = b)
    rw [Nat.zero_add]
    exact e
  | k + 1, m, a, b, c, h, e => by
    rcases h with h | ⟨d, h1, h2⟩
    · subst h
      exact e.mono (by omega)
    · rw [show k + 1 + m = (k + m) + 1 by omega]
      exact Or.inr ⟨d, h1, h2.trans e⟩
theorem Rch.one {p : List (Nat × Nat)} {a b : Nat} (h : (a, b) ∈ p) : Rch p a b := ⟨b, 0, h, rfl⟩
theorem Rch.step {p : List (Nat × Nat)} {a b c : Nat} (h : Rch p a b) (e : (b, c) ∈ p) : Rch p a c := by
  obtain ⟨d, k, h1, h2⟩ := h
  exact ⟨d, k + 1, h1, h2.snoc e⟩
theorem Rch.of_wk {p : List (Nat × Nat)} {a b c k : Nat} (h : (a, b) ∈ p) (e : Wk p k b c) : Rch p a c := ⟨b, k, h, e⟩
theorem Rch.trans {p : List (Nat × Nat)} {a b c : Nat} (h : Rch p a b) (g : Rch p b c) : Rch p a c := by
  obtain ⟨d, k, h1, h2⟩ := h
  obtain ⟨e, m, g1, g2⟩ := g
  exact ⟨d, (k + 1) + m, h1, (h2.snoc g1).trans g2⟩
theorem Rch.mono {p q : List (Nat × Nat)} {a b : Nat} (h : Rch p a b) (s : ∀ x ∈ p, x ∈ q) : Rch q a b := by
  obtain ⟨d, k, h1, h2⟩ := h
  refine ⟨d, k, s _ h1, ?_⟩
  clear h1
  induction k generalizing d with
  | zero => exact h2
  | succ k ih =>
    rcases h2 with h | ⟨c, h3, h4⟩
    · exact Or.inl h
    · exact Or.inr ⟨c, s _ h3, ih _ h4⟩
/-- what is closed and holds the first steps holds all -/
theorem Rch.closed {p : List (Nat × Nat)} {a b : Nat} {S : Nat → Prop} (h : Rch p a b) (h0 : ∀ c, (a, c) ∈ p → S c) (hs : ∀ u v, S u → (u, v) ∈ p → S v) : S b := by
  obtain ⟨d, k, h1, h2⟩ := h
  have hd := h0 _ h1
  clear h1 h0
  induction k generalizing d with
  | zero =>
    cases (h2 : d = b)
    exact hd
  | succ k ih =>
    rcases h2 with h | ⟨c, h3, h4⟩
    · subst h
      exact hd
    · exact ih _ h4 (hs _ _ hd h3)
def InN (p : List (Nat × Nat)) (n : Nat) : Prop := ∀ x ∈ p, x.1 < n ∧ x.2 < n
theorem Wk.lt {p : List (Nat × Nat)} {n : Nat} (hp : InN p n) : ∀ {k a b : Nat}, Wk p k a b → a < n → b < n
  | 0, a, b, h, ha => by
    cases (h : a = b)
    exact ha
  | k + 1, a, b, h, ha => by
    rcases h with h | ⟨c, h1, h2⟩
    · subst h
      exact ha
    · exact h2.lt hp (hp _ h1).2
theorem Rch.lt {p : List (Nat × Nat)} {n a b : Nat} (hp : InN p n) (h : Rch p a b) : a < n ∧ b < n := by
  obtain ⟨d, k, h1, h2⟩ := h
  exact ⟨(hp _ h1).1, h2.lt hp (hp _ h1).2⟩
/-- the specification's levels -/
theorem mem_from {p : List (Nat × Nat)} {n : Nat} (hp : InN p n) : ∀ (k : Nat) (l : List Nat) (b : Nat), (∀ a ∈ l, a < n) → (b ∈ Vbenah.aboveFrom p n k l ↔ ∃ a ∈ l, Wk p k a b)
  | 0, l, b, hl => by
    unfold Vbenah.aboveFrom
    constructor
    · exact fun h => ⟨b, h, rfl⟩
    · rintro ⟨a, h, e⟩
      cases (e : a = b)
      exact h
  | k + 1, l, b, hl => by
    unfold Vbenah.aboveFrom
    have hm : ∀ c, c ∈ (List.range n).filter (fun b => l.contains b || p.any fun x => l.contains x.1 && x.2 == b) ↔ c ∈ l ∨ ∃ a ∈ l, (a, c) ∈ p := fun c => by
      rw [List.mem_filter, List.mem_range, Bool.or_eq_true, List.contains_iff_mem, List.any_eq_true]
      constructor
      · rintro ⟨_, h | ⟨x, h1, h2⟩⟩
        · exact Or.inl h
        · rw [Bool.and_eq_true, List.contains_iff_mem, beq_iff_eq] at h2
          refine Or.inr ⟨x.1, h2.1, ?_⟩
          rw [← h2.2]
          exact h1
      · rintro (h | ⟨a, h1, h2⟩)
        · exact ⟨hl _ h, Or.inl h⟩
        · refine ⟨(hp _ h2).2, Or.inr ⟨_, h2, ?_⟩⟩
          rw [Bool.and_eq_true, List.contains_iff_mem, beq_iff_eq]
          exact ⟨h1, rfl⟩
    rw [mem_from hp k _ b fun a ha => by
      rw [List.mem_filter, List.mem_range] at ha
      exact ha.1]
    constructor
    · rintro ⟨a, h1, h2⟩
      rcases (hm a).mp h1 with h | ⟨c, h3, h4⟩
      · exact ⟨a, h, h2.up⟩
      · exact ⟨c, h3, Or.inr ⟨a, h4, h2⟩⟩
    · rintro ⟨a, h1, h2 | ⟨c, h3, h4⟩⟩
      · subst h2
        exact ⟨a, (hm a).mpr (Or.inl h1), Wk.refl _ _ _⟩
      · exact ⟨c, (hm c).mpr (Or.inr ⟨a, h1, h3⟩), h4⟩
/-! #### as many steps as there are words are enough -/
open Classical in
noncomputable def lev (p : List (Nat × Nat)) (n a k : Nat) : List Nat := (List.range n).filter fun b => decide (Wk p k a b)
open Classical in
theorem mem_lev {p : List (Nat × Nat)} {n a k b : Nat} (hp : InN p n) (ha : a < n) : b ∈ lev p n a k ↔ Wk p k a b := by
  unfold lev
  rw [List.mem_filter, List.mem_range, decide_eq_true_iff]
  exact ⟨fun h => h.2, fun h => ⟨h.lt hp ha, h⟩⟩
theorem len_filter_lt {q r : Nat → Bool} {l : List Nat} (h : ∀ x ∈ l, q x = true → r x = true) {y : Nat} (hy : y ∈ l) (h1 : q y = false) (h2 : r y = true) : (l.filter q).length < (l.filter r).length := by
  induction l with
  | nil => cases hy
  | cons x l ih =>
    have hle : ∀ {l : List Nat}, (∀ x ∈ l, q x = true → r x = true) → (l.filter q).length ≤ (l.filter r).length := fun {l} hl => by
      induction l with
      | nil => exact Nat.le_refl _
      | cons z l ih2 =>
        have i := ih2 fun x hx => hl x (List.mem_cons_of_mem _ hx)
        by_cases hq : q z = true
        · have hr := hl z List.mem_cons_self hq
          simp [hq, hr, i]
        · by_cases hr : r z = true
          · simp [hq, hr]
            omega
          · simp [hq, hr, i]
    have ht : ∀ x ∈ l, q x = true → r x = true := fun x hx => h x (List.mem_cons_of_mem _ hx)
    rcases List.mem_cons.mp hy with e | hm
    · subst e
      have := hle ht
      simp [h1, h2]
      omega
    · have i := ih ht hm
      by_cases hq : q x = true
      · have hr := h x List.mem_cons_self hq
        simp [hq, hr, i]
      · by_cases hr : r x = true
        · simp [hq, hr]
          omega
        · simp [hq, hr, i]
open Classical in
theorem lev_grow {p : List (Nat × Nat)} {n a : Nat} (hp : InN p n) (ha : a < n) : ∀ k, (k + 1 ≤ (lev p n a k).length) ∨ ∀ b m, Wk p m a b → Wk p k a b
  | 0 => by
    left
    have : a ∈ lev p n a 0 := (mem_lev hp ha).mpr rfl
    exact List.length_pos_of_mem this
  | k + 1 => by
    rcases lev_grow hp ha k with h | h
    · by_cases hs : ∀ b, Wk p (k + 1) a b → Wk p k a b
      · right
        have key : ∀ m b, Wk p m a b → Wk p k a b := fun m => by
          induction m with
          | zero =>
            intro b e
            cases (e : a = b)
            exact Wk.refl _ _ _
          | succ m ih =>
            intro b e
            rcases e.last with e | ⟨c, e1, e2⟩
            · exact ih _ e
            · exact hs _ ((ih _ e1).snoc e2)
        exact fun b m e => (key m b e).up
      · left
        have ⟨b, hb⟩ := Classical.not_forall.mp hs
        have ⟨h1, h2⟩ := Classical.not_imp.mp hb
        have : (lev p n a k).length < (lev p n a (k + 1)).length := by
          unfold lev
          refine len_filter_lt (y := b) (fun x _ hx => ?_) (List.mem_range.mpr (h1.lt hp ha)) ?_ ?_
          · rw [decide_eq_true_iff] at *
            exact hx.up
          · exact decide_eq_false h2
          · exact decide_eq_true h1
        omega
    · exact Or.inr fun b m e => (h b m e).up
theorem wk_n {p : List (Nat × Nat)} {n a b m : Nat} (hp : InN p n) (ha : a < n) (h : Wk p m a b) : Wk p n a b := by
  rcases lev_grow hp ha n with g | g
  · have : (lev p n a n).length ≤ n := by
      have := List.length_filter_le (fun b => @decide (Wk p n a b) (Classical.propDecidable _)) (List.range n)
      rw [List.length_range] at this
      exact this
    omega
  · exact g b m h
theorem mem_self {p : List (Nat × Nat)} {n a b : Nat} (hp : InN p n) (ha : a < n) : b ∈ Vbenah.selfAbove p n a ↔ b = a ∨ Rch p a b := by
  unfold Vbenah.selfAbove
  rw [mem_from hp n [a] b (by simpa using ha)]
  constructor
  · rintro ⟨c, h1, h2⟩
    rw [List.mem_singleton] at h1
    subst h1
    cases n with
    | zero => exact Or.inl (h2 : c = b).symm
    | succ n =>
      rcases h2 with h | ⟨d, h3, h4⟩
      · exact Or.inl h.symm
      · exact Or.inr ⟨d, n, h3, h4⟩
  · rintro (h | ⟨c, k, h1, h2⟩)
    · subst h
      exact ⟨b, List.mem_singleton.mpr rfl, Wk.refl _ _ _⟩
    · exact ⟨a, List.mem_singleton.mpr rfl, wk_n hp ha (m := k + 1) (Or.inr ⟨c, h1, h2⟩)⟩
/-- the words above, ways of one step or more -/
def abv (p : List (Nat × Nat)) (n w : Nat) : List Nat := (List.range n).filter fun b => p.any fun x => x.1 == w && (Vbenah.selfAbove p n x.2).contains b
theorem mem_abv {p : List (Nat × Nat)} {n a b : Nat} (hp : InN p n) : b ∈ abv p n a ↔ Rch p a b := by
  unfold abv
  rw [List.mem_filter, List.mem_range, List.any_eq_true]
  constructor
  · rintro ⟨_, x, h1, h2⟩
    rw [Bool.and_eq_true, beq_iff_eq, List.contains_iff_mem, mem_self hp (hp _ h1).2] at h2
    obtain ⟨e, h2⟩ := h2
    have hx : (a, x.2) ∈ p := by rw [← e]; exact h1
    rcases h2 with h | ⟨c, k, h3, h4⟩
    · rw [h]
      exact Rch.one hx
    · exact ⟨_, k + 1, hx, Or.inr ⟨c, h3, h4⟩⟩
  · rintro ⟨c, k, h1, h2⟩
    refine ⟨h2.lt hp (hp _ h1).2, _, h1, ?_⟩
    rw [Bool.and_eq_true, beq_iff_eq, List.contains_iff_mem, mem_self hp (hp _ h1).2]
    refine ⟨rfl, ?_⟩
    cases k with
    | zero => exact Or.inl (h2 : c = b).symm
    | succ k =>
      rcases h2 with h | ⟨d, h3, h4⟩
      · exact Or.inl h.symm
      · exact Or.inr ⟨d, k, h3, h4⟩
theorem mem_selfAbv {p : List (Nat × Nat)} {n a b : Nat} (hp : InN p n) (ha : a < n) : b ∈ Vbenah.selfAbove p n a ↔ b = a ∨ b ∈ abv p n a := by
  rw [mem_self hp ha, mem_abv hp]
/-! #### rising rows -/
def Asc (l : List Nat) : Prop := l.Pairwise (· < ·)
theorem asc_range (n : Nat) : Asc (List.range n) := List.pairwise_lt_range
theorem asc_filter {l : List Nat} (h : Asc l) (q : Nat → Bool) : Asc (l.filter q) := List.Pairwise.filter _ h
theorem asc_eq : ∀ {l m : List Nat}, Asc l → Asc m → (∀ x, x ∈ l ↔ x ∈ m) → l = m
  | [], [], _, _, _ => rfl
  | [], y :: m, _, _, h => by have := (h y).mpr List.mem_cons_self; cases this
  | x :: l, [], _, _, h => by have := (h x).mp List.mem_cons_self; cases this
  | x :: l, y :: m, h1, h2, h => by
    obtain ⟨a1, a2⟩ := List.pairwise_cons.mp h1
    obtain ⟨b1, b2⟩ := List.pairwise_cons.mp h2
    have e : x = y := by
      rcases List.mem_cons.mp ((h x).mp List.mem_cons_self) with e | e
      · exact e
      · rcases List.mem_cons.mp ((h y).mpr List.mem_cons_self) with e2 | e2
        · exact e2.symm
        · have := a1 _ e2
          have := b1 _ e
          omega
    subst e
    rw [asc_eq a2 b2 fun z => ?_]
    constructor
    · intro hz
      rcases List.mem_cons.mp ((h z).mp (List.mem_cons_of_mem _ hz)) with e | e
      · have := a1 _ hz
        omega
      · exact e
    · intro hz
      rcases List.mem_cons.mp ((h z).mpr (List.mem_cons_of_mem _ hz)) with e | e
      · have := b1 _ hz
        omega
      · exact e
theorem asc_abv (p : List (Nat × Nat)) (n w : Nat) : Asc (abv p n w) := asc_filter (asc_range n) _
theorem abv_len (p : List (Nat × Nat)) (n w : Nat) : (abv p n w).length ≤ n := by
  have := List.length_filter_le (fun b => p.any fun x => x.1 == w && (Vbenah.selfAbove p n x.2).contains b) (List.range n)
  rw [List.length_range] at this
  exact this
theorem asc_nodup {l : List Nat} (h : Asc l) : l.Nodup := List.Pairwise.imp (fun h => Nat.ne_of_lt h) h
theorem asc_len {l : List Nat} {n : Nat} (h : Asc l) (hn : ∀ x ∈ l, x < n) : l.length ≤ n := by
  have e : l = (List.range n).filter (fun x => l.contains x) := asc_eq h (asc_filter (asc_range n) _) fun x => by
    rw [List.mem_filter, List.mem_range, List.contains_iff_mem]
    exact ⟨fun q => ⟨hn _ q, q⟩, fun q => q.2⟩
  rw [e]
  have := List.length_filter_le (fun x => l.contains x) (List.range n)
  rw [List.length_range] at this
  exact this
theorem nodup_len {l : List Nat} {n : Nat} (h : l.Nodup) (hn : ∀ x ∈ l, x < n) : l.length ≤ n := by
  have : ((List.range n).filter (fun x => l.contains x)).Perm l := by
    refine (List.perm_ext_iff_of_nodup (asc_nodup (asc_filter (asc_range n) _)) h).mpr fun x => ?_
    rw [List.mem_filter, List.mem_range, List.contains_iff_mem]
    exact ⟨fun q => q.2, fun q => ⟨hn _ q, q⟩⟩
  rw [← this.length_eq]
  have := List.length_filter_le (fun x => l.contains x) (List.range n)
  rw [List.length_range] at this
  exact this
end Bw
namespace Bw
open Vbenah (File State Card Act)
structure CWF (f : File) (c : Card) : Prop where
  nd : (c.by_.map (·.1)).Nodup
  ks : ∀ h, h ∈ c.by_.map (·.1) ↔ h < f.holes ∧ Vbenah.bit c.notches h = true
  lt : c.notches < 2 ^ f.holes
structure WS (f : File) (s : State) (b : Nat) : Prop where
  hn : f.words.length ≤ 12
  ho : f.holes ≤ 16
  pl : s.pairs.length ≤ b
  cl : s.cards.length ≤ b
  pp : InN s.pairs f.words.length
  cw : ∀ c ∈ s.cards, c.words.length ≤ b + 12 ∧ (∀ w ∈ c.words, w < f.words.length) ∧ CWF f c
  hb : b ≤ 500
theorem WS.p1 {f : File} {s : State} {b : Nat} (h : WS f s b) : s.pairs.length ≤ 1000 := by
  have := h.pl
  have := h.hb
  omega
end Bw
namespace Bw
open Vbenah (File State Card Act)
/-! ### plain: holes as bits -/
theorem bit_tb (n h : Nat) : Vbenah.bit n h = n.testBit h := by
  unfold Vbenah.bit
  rw [Nat.testBit_eq_decide_div_mod_eq]
  by_cases g : n / 2 ^ h % 2 = 1
  · rw [decide_eq_true g]
    exact beq_iff_eq.mpr g
  · rw [decide_eq_false g]
    exact beq_eq_false_iff_ne.mpr g
def bsum (c : Nat → Bool) (l : List Nat) : Nat := l.foldr (fun h n => (if c h = true then 2 ^ h else 0) + n) 0
theorem bsum_append (c : Nat → Bool) (l m : List Nat) : bsum c (l ++ m) = bsum c l + bsum c m := by
  induction l with
  | nil => simp [bsum]
  | cons x l ih =>
    show _ + bsum c (l ++ m) = _ + bsum c l + bsum c m
    rw [ih]
    omega
theorem bsum_succ (c : Nat → Bool) (k : Nat) : bsum c (List.range (k + 1)) = bsum c (List.range k) + (if c k = true then 2 ^ k else 0) := by
  rw [List.range_succ, bsum_append]
  simp [bsum]
theorem bsum_lt (c : Nat → Bool) : ∀ k, bsum c (List.range k) < 2 ^ k
  | 0 => by simp [bsum]
  | k + 1 => by
    have := bsum_lt c k
    rw [bsum_succ, Nat.pow_succ]
    split <;> omega
theorem bsum_bit (c : Nat → Bool) (h : Nat) : ∀ k, (bsum c (List.range k)).testBit h = (decide (h < k) && c h)
  | 0 => by simp [bsum]
  | k + 1 => by
    have ih := bsum_bit c h k
    have lt := bsum_lt c k
    rw [bsum_succ]
    by_cases hc : c k = true
    · rw [if_pos hc, Nat.add_comm]
      by_cases e : h = k
      · subst e
        rw [Nat.testBit_two_pow_add_eq, ih]
        simp [hc]
      · by_cases l : h < k
        · rw [Nat.testBit_two_pow_add_gt l, ih]
          have : h < k + 1 := by omega
          simp [l, this]
        · have g : ¬ h < k + 1 := by omega
          rw [decide_eq_false g, Bool.false_and]
          apply Nat.testBit_lt_two_pow
          have : 2 ^ (k + 1) ≤ 2 ^ h := Nat.pow_le_pow_right (by decide) (by omega)
          rw [Nat.pow_succ] at this
          omega
    · rw [if_neg hc, Nat.add_zero, ih]
      by_cases e : h = k
      · subst e
        simp [hc]
      · by_cases l : h < k
        · have : h < k + 1 := by omega
          simp [l, this]
        · have g : ¬ h < k + 1 := by omega
          simp [l, g]
theorem both_eq (k a b : Nat) : Vbenah.both k a b = bsum (fun h => Vbenah.bit a h || Vbenah.bit b h) (List.range k) := by
  unfold Vbenah.both bsum
  congr 1
  funext h n
  by_cases h1 : Vbenah.bit a h = true <;> by_cases h2 : Vbenah.bit b h = true <;> simp [h1, h2]
theorem both_lt (k a b : Nat) : Vbenah.both k a b < 2 ^ k := by
  rw [both_eq]
  exact bsum_lt _ _
theorem bit_both (k a b h : Nat) : Vbenah.bit (Vbenah.both k a b) h = (decide (h < k) && (Vbenah.bit a h || Vbenah.bit b h)) := by
  rw [both_eq, bit_tb, bsum_bit]
theorem mem_holes {k n h : Nat} : h ∈ Vbenah.holesOf k n ↔ h < k ∧ Vbenah.bit n h = true := by
  unfold Vbenah.holesOf
  rw [List.mem_filter, List.mem_range]
theorem asc_holes (k n : Nat) : Asc (Vbenah.holesOf k n) := asc_filter (asc_range k) _
theorem holes_len (k n : Nat) : (Vbenah.holesOf k n).length ≤ k := by
  have := List.length_filter_le (Vbenah.bit n) (List.range k)
  rw [List.length_range] at this
  exact this
theorem bit_zero (h : Nat) : Vbenah.bit 0 h = false := by
  rw [bit_tb]
  exact Nat.zero_testBit h
theorem bit_pow (m h : Nat) : Vbenah.bit (2 ^ m) h = decide (m = h) := by
  rw [bit_tb]
  exact Nat.testBit_two_pow
/-- many holes together -/
theorem bit_fold (k : Nat) (g : Nat → Nat) (h : Nat) : ∀ (l : List Nat) (a : Nat), Vbenah.bit (l.foldl (fun n b => Vbenah.both k n (g b)) a) h = true ↔ (Vbenah.bit a h = true ∧ (l = [] ∨ h < k)) ∨ (h < k ∧ ∃ b ∈ l, Vbenah.bit (g b) h = true)
  | [], a => by simp
  | x :: l, a => by
    rw [List.foldl_cons, bit_fold k g h l, bit_both]
    constructor
    · rintro (⟨h1, h2⟩ | ⟨h1, b, h2, h3⟩)
      · rw [Bool.and_eq_true, decide_eq_true_iff, Bool.or_eq_true] at h1
        rcases h1 with ⟨h1, h3 | h3⟩
        · exact Or.inl ⟨h3, Or.inr h1⟩
        · exact Or.inr ⟨h1, x, List.mem_cons_self, h3⟩
      · exact Or.inr ⟨h1, b, List.mem_cons_of_mem _ h2, h3⟩
    · rintro (⟨h1, h2 | h2⟩ | ⟨h1, b, h2, h3⟩)
      · cases h2
      · refine Or.inl ⟨?_, Or.inr h2⟩
        rw [h1, decide_eq_true h2]
        rfl
      · rcases List.mem_cons.mp h2 with e | e
        · subst e
          refine Or.inl ⟨?_, Or.inr h1⟩
          rw [h3, decide_eq_true h1, Bool.or_true]
          rfl
        · exact Or.inr ⟨h1, b, e, h3⟩
theorem mem_posted {f : File} {p : List (Nat × Nat)} {w h : Nat} : h ∈ Vbenah.holesOf f.holes (Vbenah.posted f p w) ↔ h < f.holes ∧ ∃ b ∈ Vbenah.selfAbove p f.words.length w, Vbenah.bit (Vbenah.marksOf f b) h = true := by
  unfold Vbenah.posted
  rw [mem_holes, bit_fold, bit_zero]
  constructor
  · rintro ⟨h1, h2 | ⟨_, h2⟩⟩
    · cases h2.1
    · exact ⟨h1, h2⟩
  · rintro ⟨h1, h2⟩
    exact ⟨h1, Or.inr ⟨h1, h2⟩⟩
/-- the marks of a file's words -/
theorem mks_at {f : File} {w : Nat} (h : w < f.words.length) : (mks f)[w]? = some (Vbenah.holesOf f.holes (Vbenah.marksOf f w)) := by
  unfold mks Vbenah.marksOf
  rw [List.getElem?_map, List.getElem?_eq_getElem h]
  rfl
theorem mks_len (f : File) : (mks f).length = f.words.length := List.length_map _
end Bw
namespace Bw
theorem holes_all (k m : Nat) (p : Nat → Bool) : (Vbenah.holesOf k m).all p = (List.range k).all fun h => !Vbenah.bit m h || p h := by
  unfold Vbenah.holesOf
  rw [List.all_filter]
theorem within_eq (k a b : Nat) : Vbenah.within k a b = (Vbenah.holesOf k a).all fun h => Vbenah.bit b h := by
  rw [holes_all]
  rfl
end Bw
namespace Bw
open PySem PySem.Spec PyProof.Rows L2
open Vbenah (File State Card Act)
/-! ### a state that is one's own: B what is known beside it -/
structure CC where
  c : Addr
  dx : Addr
  pn : Addr
  wi : Addr
  ni : Addr
structure CardO (K : PySem.W.Frag) (H : Hp) (z : CC) (x : Card) : Prop where
  h1 : H z.c = some (.ins (He.ga K "Card") z.dx (cardF z.pn z.wi z.ni))
  h2 : TupN H z.pn x.name
  h3 : LstN H z.wi x.words
  h4 : H z.ni = some (.dK (nk x.by_))
structure SC where
  dx : Addr
  la : Addr
  ca : Addr
  ls : List Addr
  zs : List CC
structure SOx (K : PySem.W.Frag) (B H : Hp) (a ma : Addr) (s : State) (y : SC) : Prop where
  sm : Same B H
  ha : H a = some (.ins (He.ga K "State") y.dx (stateF ma y.la y.ca))
  hl : H y.la = some (.lst (y.ls.map V.ref))
  pr : Paired (PrAt H) y.ls s.pairs
  hc : H y.ca = some (.lst ((y.zs.map (·.c)).map V.ref))
  pc : Paired (CardO K H) y.zs s.cards
  na : B a = none
  nl : B y.la = none
  nc : B y.ca = none
  nz : ∀ z ∈ y.zs, B z.wi = none ∧ B z.ni = none
  nw : (y.la :: y.ca :: y.zs.map (·.wi)).Nodup
  nn : (y.zs.map (·.ni)).Nodup
def SO (K : PySem.W.Frag) (B H : Hp) (a ma : Addr) (s : State) : Prop := ∃ y, SOx K B H a ma s y
section
variable {K : PySem.W.Frag} {B H H' : Hp} {a ma : Addr} {f : File} {s : State} {y : SC}
theorem CardO.same {z : CC} {x : Card} (h : CardO K H z x) (e : Same H H') : CardO K H' z x := ⟨e _ _ h.h1, e _ _ h.h2, e _ _ h.h3, e _ _ h.h4⟩
theorem SOx.same (h : SOx K B H a ma s y) (e : Same H H') : SOx K B H' a ma s y :=
  ⟨Same.trans h.sm e, e _ _ h.ha, e _ _ h.hl, paired_same (fun _ _ q => e _ _ q) h.pr, e _ _ h.hc, paired_same (fun _ _ q => q.same e) h.pc, h.na, h.nl, h.nc, h.nz, h.nw, h.nn⟩
theorem SO.same (h : SO K B H a ma s) (e : Same H H') : SO K B H' a ma s := ⟨_, h.choose_spec.same e⟩
theorem paired_map {α β γ : Type} {F : α → β → Prop} {G : γ → β → Prop} {g : α → γ} (m : ∀ x y, F x y → G (g x) y) : ∀ {l : List α} {k : List β}, Paired F l k → Paired G (l.map g) k
  | _, _, .nil => .nil
  | _, _, .cons r t => .cons (m _ _ r) (paired_map m t)
theorem SOx.view (h : SOx K B H a ma s y) (hm : MarksAt B ma (mks f)) : SV K H a f s :=
  ⟨_, ma, y.la, y.ca, h.ha, hm.same h.sm, ⟨y.ls, h.hl, h.pr⟩, ⟨y.zs.map (·.c), h.hc, paired_map (fun z x q => ⟨z.dx, z.pn, z.wi, z.ni, q.h1, q.h2, q.h3, q.h4⟩) h.pc⟩⟩
theorem SO.view (h : SO K B H a ma s) (hm : MarksAt B ma (mks f)) : SV K H a f s := h.choose_spec.view hm
theorem SO.sm (h : SO K B H a ma s) : Same B H := h.choose_spec.sm
/-- a pair more -/
theorem SOx.link {p : Addr} {x : Nat × Nat} (h : SOx K B H a ma s y) (np : H p = none) :
    SOx K B (upd (upd H p (.tup [.int (x.1 : Nat), .int (x.2 : Nat)])) y.la (.lst (y.ls.map V.ref ++ [.ref p]))) a ma { s with pairs := s.pairs ++ [x] } { y with ls := y.ls ++ [p] } := by
  have s1 : Same H (upd H p (.tup [.int (x.1 : Nat), .int (x.2 : Nat)])) := Same.new np
  have old : ∀ b o, H b = some o → b ≠ y.la → upd (upd H p (.tup [.int (x.1 : Nat), .int (x.2 : Nat)])) y.la (.lst (y.ls.map V.ref ++ [.ref p])) b = some o := fun b o e n => by
    rw [upd_ne n]
    exact s1 _ _ e
  have ne : ∀ {b o}, H b = some o → (∀ xs, o ≠ .lst xs) → b ≠ y.la := fun {b o} e n z => by
    rw [z, h.hl] at e
    exact n _ (Option.some.inj e).symm
  have hpl : p ≠ y.la := fun z => by
    rw [z, h.hl] at np
    cases np
  obtain ⟨w1, w2⟩ := List.nodup_cons.mp h.nw
  refine ⟨fun b o e => old _ _ (h.sm _ _ e) (ne_of_none e h.nl), old _ _ h.ha (ne h.ha fun _ z => by cases z), ?_, ?_, old _ _ h.hc fun z => w1 (by rw [← z]; exact List.mem_cons_self), ?_, h.na, h.nl, h.nc, h.nz, h.nw, h.nn⟩
  · rw [upd_same, List.map_append]
    rfl
  · refine paired_snoc (paired_same (fun b q e => old _ _ e (ne e fun _ z => by cases z)) h.pr) ?_
    show upd (upd H p _) y.la _ p = _
    rw [upd_ne hpl]
    exact upd_same
  · have : ∀ z ∈ y.zs, z.wi ≠ y.la := fun z hz e => w1 (by rw [← e]; exact List.mem_cons_of_mem _ (List.mem_map.mpr ⟨z, hz, rfl⟩))
    have key : ∀ {zs : List CC} {cs : List Card}, Paired (CardO K H) zs cs → (∀ z ∈ zs, z.wi ≠ y.la) → Paired (CardO K (upd (upd H p (.tup [.int (x.1 : Nat), .int (x.2 : Nat)])) y.la (.lst (y.ls.map V.ref ++ [.ref p])))) zs cs := fun {zs cs} pp hw => by
      induction pp with
      | nil => exact .nil
      | cons r t ih => exact .cons ⟨old _ _ r.h1 (ne r.h1 fun _ z => by cases z), old _ _ r.h2 (ne r.h2 fun _ z => by cases z), old _ _ r.h3 (hw _ List.mem_cons_self), old _ _ r.h4 (ne r.h4 fun _ z => by cases z)⟩ (ih fun z hz => hw z (List.mem_cons_of_mem _ hz))
    exact key h.pc this
theorem ne_obj {H : Hp} {b c : Addr} {o u : HO} (hb : H b = some o) (hc : H c = some u) (n : o ≠ u) : b ≠ c := fun z => by
  rw [z, hc] at hb
  exact n (Option.some.inj hb).symm
theorem card_ne_state {C D d e p w n m l g : Addr} : HO.ins C d (cardF p w n) ≠ HO.ins D e (stateF m l g) := fun z => by
  injection z with _ _ z
  injection z with z _
  injection z with z _
  exact absurd z (by decide)
theorem cardsO_frame {zs : List CC} {cs : List Card} (pp : Paired (CardO K H) zs cs) (h : ∀ z ∈ zs, ∀ b o, (b = z.c ∨ b = z.pn ∨ b = z.wi ∨ b = z.ni) → H b = some o → H' b = some o) : Paired (CardO K H') zs cs := by
  induction pp with
  | nil => exact .nil
  | cons r t ih =>
    have q := h _ List.mem_cons_self
    exact .cons ⟨q _ _ (Or.inl rfl) r.h1, q _ _ (Or.inr (Or.inl rfl)) r.h2, q _ _ (Or.inr (Or.inr (Or.inl rfl))) r.h3, q _ _ (Or.inr (Or.inr (Or.inr rfl))) r.h4⟩ (ih fun z hz => h z (List.mem_cons_of_mem _ hz))
theorem paired_mem {α β : Type} {F : α → β → Prop} {l : List α} {m : List β} {x : α} (p : Paired F l m) (h : x ∈ l) : ∃ y, F x y := by
  obtain ⟨i, hi⟩ := List.mem_iff_getElem?.mp h
  obtain ⟨y, _, q⟩ := paired_getL p hi
  exact ⟨y, q⟩
/-- another list of pairs -/
theorem SOx.links {L : Addr} {ls : List Addr} {ps : List (Nat × Nat)} (h : SOx K B H a ma s y) (o : Same H H') (nL : H L = none) (eL : H' L = some (.lst (ls.map V.ref))) (pp : Paired (PrAt H') ls ps) :
    SOx K B (upd H' a (.ins (He.ga K "State") y.dx (stateF ma L y.ca))) a ma { s with pairs := ps } { y with la := L, ls := ls } := by
  have ha := o _ _ h.ha
  have hc := o _ _ h.hc
  have st : ∀ {b u}, H' b = some u → u ≠ .ins (He.ga K "State") y.dx (stateF ma y.la y.ca) → upd H' a (.ins (He.ga K "State") y.dx (stateF ma L y.ca)) b = some u := fun {b u} e n => by
    rw [upd_ne (ne_obj e ha n)]
    exact e
  have w : ∀ z ∈ y.zs, z.wi ≠ L := fun z hz e => by
    obtain ⟨x, q⟩ := paired_mem h.pc hz
    have := q.h3
    rw [LstN, e, nL] at this
    cases this
  obtain ⟨_, w2⟩ := List.nodup_cons.mp h.nw
  refine ⟨fun b u e => ?_, upd_same, st eL (fun z => by cases z), paired_same (fun b q e => st e fun z => by cases z) pp, st hc (fun z => by cases z), ?_, h.na, ?_, h.nc, h.nz, List.nodup_cons.mpr ⟨fun m => ?_, w2⟩, h.nn⟩
  · rw [upd_ne (ne_of_none e h.na)]
    exact o _ _ (h.sm _ _ e)
  · refine cardsO_frame h.pc fun z hz b u hb e => st (o _ _ e) fun z2 => ?_
    obtain ⟨x, q⟩ := paired_mem h.pc hz
    rw [z2] at e
    rcases hb with hb | hb | hb | hb <;> subst hb
    · rw [q.h1] at e
      exact card_ne_state (Option.some.inj e)
    · have := q.h2
      rw [TupN, e] at this
      cases this
    · have := q.h3
      rw [LstN, e] at this
      cases this
    · have := q.h4
      rw [e] at this
      cases this
  · cases e : B L with
    | none => rfl
    | some u =>
      rw [h.sm _ _ e] at nL
      cases nL
  · rcases List.mem_cons.mp m with e | m
    · have := h.hc
      rw [← e, nL] at this
      cases this
    · obtain ⟨z, hz, e⟩ := List.mem_map.mp m
      exact w z hz e
/-- what is written on a card -/
theorem SOx.card {i : Nat} {z : CC} {x x' : Card} (h : SOx K B H a ma s y) (hz : y.zs[i]? = some z) (hx : s.cards[i]? = some x) (o : But [z.wi, z.ni] H H') (ew : LstN H' z.wi x'.words) (en : H' z.ni = some (.dK (nk x'.by_))) (en' : x'.name = x.name) :
    SOx K B H' a ma { s with cards := s.cards.set i x' } y := by
  obtain ⟨x0, hx0, qz⟩ := paired_getL h.pc hz
  rw [hx] at hx0
  cases hx0
  have hzm := mem_of_get hz
  obtain ⟨w1, w2⟩ := List.nodup_cons.mp h.nw
  obtain ⟨w3, w4⟩ := List.nodup_cons.mp w2
  have zl : z.wi ≠ y.la := fun e => w1 (by rw [← e]; exact List.mem_cons_of_mem _ (List.mem_map.mpr ⟨z, hzm, rfl⟩))
  have zc : z.wi ≠ y.ca := fun e => w3 (by rw [← e]; exact List.mem_map.mpr ⟨z, hzm, rfl⟩)
  have old : ∀ {b u}, H b = some u → (b ≠ z.wi) → (∀ k, u ≠ .dK k) → H' b = some u := fun {b u} e n n2 => o _ _ (fun m => by
    rcases List.mem_cons.mp m with m | m
    · exact n m
    · rw [List.mem_singleton] at m
      rw [m, qz.h4] at e
      exact n2 _ (Option.some.inj e).symm) e
  have old2 : ∀ {b u}, H b = some u → (∀ k, u ≠ .lst k) → (∀ k, u ≠ .dK k) → H' b = some u := fun {b u} e n n2 => old e (fun m => by
    have := qz.h3
    rw [LstN, ← m, e] at this
    exact n _ (Option.some.inj this)) n2
  refine ⟨fun b u e => o _ _ (fun m => ?_) (h.sm _ _ e), old2 h.ha (fun _ z => by cases z) (fun _ z => by cases z), old h.hl (Ne.symm zl) (fun _ z => by cases z), paired_same (fun b q e => old2 e (fun _ z => by cases z) (fun _ z => by cases z)) h.pr,
    old h.hc (Ne.symm zc) (fun _ z => by cases z), ?_, h.na, h.nl, h.nc, h.nz, h.nw, h.nn⟩
  · have := h.nz _ hzm
    rcases List.mem_cons.mp m with m | m
    · rw [m, this.1] at e
      cases e
    · rw [List.mem_singleton] at m
      rw [m, this.2] at e
      cases e
  · -- the cards
    have key : ∀ {zs : List CC} {cs : List Card} {i : Nat}, Paired (CardO K H) zs cs → zs[i]? = some z → cs[i]? = some x → (zs.map (·.wi)).Nodup → (zs.map (·.ni)).Nodup → Paired (CardO K H') zs (cs.set i x') := fun {zs cs i} pp => by
      induction pp generalizing i with
      | nil => intro e; simp at e
      | cons r t ih =>
        rename_i z0 x0 zs cs
        intro e1 e2 n1 n2
        obtain ⟨m1, m2⟩ := List.nodup_cons.mp n1
        obtain ⟨m3, m4⟩ := List.nodup_cons.mp n2
        cases i with
        | zero =>
          simp at e1 e2
          subst e1
          subst e2
          refine .cons ⟨old2 r.h1 (fun _ z => by cases z) (fun _ z => by cases z), by rw [en']; exact old2 r.h2 (fun _ z => by cases z) (fun _ z => by cases z), ew, en⟩ ?_
          refine cardsO_frame t fun z2 hz2 b u hb e => o _ _ (fun m => ?_) e
          obtain ⟨x2, q2⟩ := paired_mem t hz2
          have g1 : z2.wi ≠ z0.wi := fun e => m1 (List.mem_map.mpr ⟨z2, hz2, e⟩)
          have g2 : z2.ni ≠ z0.ni := fun e => m3 (List.mem_map.mpr ⟨z2, hz2, e⟩)
          have a1 := q2.h1
          have a2 := q2.h2
          have a3 := q2.h3
          have a4 := q2.h4
          have b3 := r.h3
          have b4 := r.h4
          rw [LstN] at a3 b3
          rw [TupN] at a2
          rcases hb with hb | hb | hb | hb <;> subst hb <;> rcases List.mem_cons.mp m with m | m <;> (try rw [List.mem_singleton] at m)
          · rw [m, b3] at a1; cases a1
          · rw [m, b4] at a1; cases a1
          · rw [m, b3] at a2; cases a2
          · rw [m, b4] at a2; cases a2
          · exact g1 m
          · rw [m, b4] at a3; cases a3
          · rw [m, b3] at a4; cases a4
          · exact g2 m
        | succ j =>
          simp at e1 e2
          have hzj := mem_of_get e1
          have g1 : z0.wi ≠ z.wi := fun e => m1 (List.mem_map.mpr ⟨z, hzj, e.symm⟩)
          have g2 : z0.ni ≠ z.ni := fun e => m3 (List.mem_map.mpr ⟨z, hzj, e.symm⟩)
          refine .cons ⟨old2 r.h1 (fun _ z => by cases z) (fun _ z => by cases z), old2 r.h2 (fun _ z => by cases z) (fun _ z => by cases z), old r.h3 g1 (fun _ z => by cases z), o _ _ (fun m => ?_) r.h4⟩ (ih e1 e2 m2 m4)
          rcases List.mem_cons.mp m with m | m
          · have := r.h4
            rw [m, qz.h3] at this
            cases this
          · rw [List.mem_singleton] at m
            exact g2 m
    exact key h.pc hz hx w4 h.nn
/-- a card more -/
theorem SOx.more {z : CC} {n : List Nat} (h : SOx K B H a ma s y) (o : Same H H') (q : CardO K H' z { name := n, words := [], notches := 0, by_ := [] }) (nw : H z.wi = none) (nn : H z.ni = none) :
    SOx K B (upd H' y.ca (.lst ((y.zs.map (·.c)).map V.ref ++ [.ref z.c]))) a ma { s with cards := s.cards ++ [{ name := n, words := [], notches := 0, by_ := [] }] } { y with zs := y.zs ++ [z] } := by
  obtain ⟨w1, w2⟩ := List.nodup_cons.mp h.nw
  obtain ⟨w3, w4⟩ := List.nodup_cons.mp w2
  have hc := o _ _ h.hc
  have st : ∀ {b u}, H' b = some u → b ≠ y.ca → upd H' y.ca (.lst ((y.zs.map (·.c)).map V.ref ++ [.ref z.c])) b = some u := fun {b u} e n => by
    rw [upd_ne n]
    exact e
  have st2 : ∀ {b u}, H' b = some u → (∀ k, u ≠ .lst k) → upd H' y.ca (.lst ((y.zs.map (·.c)).map V.ref ++ [.ref z.c])) b = some u := fun {b u} e n => st e (ne_obj e hc (n _))
  have zw : z.wi ≠ y.ca := fun e => by
    have := h.hc
    rw [← e, nw] at this
    cases this
  have zl : z.wi ≠ y.la := fun e => by
    have := h.hl
    rw [← e, nw] at this
    cases this
  have bn : ∀ {b}, H b = none → B b = none := fun {b} e => h.sm.free e
  refine ⟨fun b u e => ?_, st2 (o _ _ h.ha) (fun _ z => by cases z), st (o _ _ h.hl) (fun e => w1 (by rw [e]; exact List.mem_cons_self)), paired_same (fun b q e => st2 (o _ _ e) fun _ z => by cases z) h.pr, ?_, ?_, h.na, h.nl, h.nc, ?_, ?_, ?_⟩
  · exact st (o _ _ (h.sm _ _ e)) (ne_of_none e h.nc)
  · rw [upd_same]
    simp
  · refine paired_snoc (cardsO_frame h.pc fun z2 hz2 b u hb e => st (o _ _ e) fun z3 => ?_) ⟨st2 q.h1 (fun _ z => by cases z), st2 q.h2 (fun _ z => by cases z), st q.h3 zw, st2 q.h4 (fun _ z => by cases z)⟩
    obtain ⟨x2, q2⟩ := paired_mem h.pc hz2
    have a1 := q2.h1
    have a2 := q2.h2
    have a4 := q2.h4
    have a5 := h.hc
    rw [TupN] at a2
    subst z3
    rcases hb with hb | hb | hb | hb
    · rw [hb, a1] at a5; cases a5
    · rw [hb, a2] at a5; cases a5
    · exact w3 (by rw [hb]; exact List.mem_map.mpr ⟨z2, hz2, rfl⟩)
    · rw [hb, a4] at a5; cases a5
  · intro z2 hz2
    rcases List.mem_append.mp hz2 with m | m
    · exact h.nz _ m
    · rw [List.mem_singleton.mp m]
      exact ⟨bn nw, bn nn⟩
  · have e : y.la :: y.ca :: (y.zs ++ [z]).map (·.wi) = (y.la :: y.ca :: y.zs.map (·.wi)) ++ [z.wi] := by simp
    show (y.la :: y.ca :: (y.zs ++ [z]).map (·.wi)).Nodup
    rw [e]
    refine nd_snoc h.nw fun m => ?_
    rcases List.mem_cons.mp m with m | m
    · exact zl m
    · rcases List.mem_cons.mp m with m | m
      · exact zw m
      · obtain ⟨z2, hz2, e⟩ := List.mem_map.mp m
        obtain ⟨x2, q2⟩ := paired_mem h.pc hz2
        have := q2.h3
        rw [LstN, e, nw] at this
        cases this
  · show ((y.zs ++ [z]).map (·.ni)).Nodup
    rw [List.map_append]
    refine nd_snoc h.nn fun m => ?_
    obtain ⟨z2, hz2, e⟩ := List.mem_map.mp m
    obtain ⟨x2, q2⟩ := paired_mem h.pc hz2
    have := q2.h4
    rw [e, nn] at this
    cases this
end
end Bw
namespace Bw
open PySem PySem.Spec PyProof.Rows L2
open Vbenah (File State Card Act)
section
variable {K : PySem.W.Frag} {B B' H H' : Hp} {a ma : Addr} {f : File} {s : State} {y : SC}
theorem SOx.bnew {q : Addr} {o : HO} (h : SOx K B H a ma s y) (nq : H q = none) : SOx K (upd B q o) (upd H q o) a ma s y := by
  have h2 := h.same (Same.new (o := o) nq)
  have ne : ∀ {b u}, H b = some u → b ≠ q := fun e => ne_of_none e nq
  have up : ∀ {b u}, H b = some u → B b = none → upd B q o b = none := fun {b u} e n => by rw [upd_ne (ne e)]; exact n
  refine ⟨fun b u e => ?_, h2.ha, h2.hl, h2.pr, h2.hc, h2.pc, up h.ha h.na, up h.hl h.nl, up h.hc h.nc, fun z hz => ?_, h2.nw, h2.nn⟩
  · by_cases e1 : b = q
    · rw [e1, upd_same] at e ⊢
      exact e
    · rw [upd_ne e1] at e ⊢
      exact h.sm _ _ e
  · obtain ⟨x, g⟩ := paired_mem h.pc hz
    have := h.nz z hz
    exact ⟨up g.h3 this.1, up g.h4 this.2⟩
theorem SOx.weak (h : SOx K B' H a ma s y) (e : Same B B') : SOx K B H a ma s y :=
  ⟨Same.trans e h.sm, h.ha, h.hl, h.pr, h.hc, h.pc, e.free h.na, e.free h.nl, e.free h.nc, fun z hz => ⟨e.free (h.nz z hz).1, e.free (h.nz z hz).2⟩, h.nw, h.nn⟩
end
end Bw
namespace Bw
open PySem PySem.Spec PyProof.Rows L2
open Vbenah (File State Card Act)
section
variable {P : Program} {w : World} {K : PySem.W.Frag} {mg : Str → Option Value} {base : Heap}
/-- the words right above -/
def ups (ps : List (Nat × Nat)) (w : Nat) : List Nat := (ps.filter fun x => x.1 == w).map (·.2)
def sp_uppers_of (K : PySem.W.Frag) : Sp := fun vs H Q _ => ∃ (a : Addr) (f : File) (s : State) (w : Nat), vs = [.ref a, .int (w : Nat)] ∧ SV K H a f s ∧ s.pairs.length ≤ 1000 ∧
  ∀ H' p, Same H H' → H p = none → LstN H' p (ups s.pairs w) → Q (.ref p) H'
theorem len_uppers_of (K : PySem.W.Frag) : ∀ vs H Q E, sp_uppers_of K vs H Q E → vs.length = 2 := fun _ _ _ _ ⟨_, _, _, _, h, _⟩ => by rw [h]; rfl
theorem mem_ups {ps : List (Nat × Nat)} {w x : Nat} : x ∈ ups ps w ↔ (w, x) ∈ ps := by
  unfold ups
  rw [List.mem_map]
  constructor
  · rintro ⟨q, h, rfl⟩
    rw [List.mem_filter, beq_iff_eq] at h
    rw [← h.2]
    exact h.1
  · exact fun h => ⟨_, List.mem_filter.mpr ⟨h, beq_self_eq_true _⟩, rfl⟩
theorem ups_len (ps : List (Nat × Nat)) (w : Nat) : (ups ps w).length ≤ ps.length := by
  unfold ups
  rw [List.length_map]
  exact List.length_filter_le _ _
theorem sc_uppers_of : FnScope (["state", "word", "lower", "upper"] : List Str) ["state", "word"] (defScope s_uppers_of) := C8.fnScope_by (by decide +kernel)
theorem c_uppers_of (E : Env P w K mg base) : Cal P w K mg base CX0 1 "uppers_of" (sp_uppers_of K) := by
  have sc := sc_uppers_of
  refine mkCal (st := s_uppers_of) (E.top.d.def_ 5 (d := d_uppers_of) rfl) (E.glo 5) sc (fun _ _ _ _ _ _ us hl => match us, hl with | [_, _], _ => rfl) (len_uppers_of K) (fun cdv A outer s H vs Q X hr h => ⟨_, PSs.nox ((pss_one (ps_ret (pe_lc (own := [("lower", 2), ("upper", 3)]) (g := (gTup K 2 (gCons (gName 2) (gCons (gName 3) gNil)))) rfl sc.nd (pi_list (peF (K := K) (pv 0) rfl)) (blkOk_by (own := [("lower", 2), ("upper", 3)]) (N := ["state", "word", "lower", "upper"]) (sc := defScope s_uppers_of) (by decide +kernel)) (fun _ _ _ _ _ => pg_tup rfl (pgs_cons (pg_name (i := 2) sc.nd rfl (Or.inl rfl)) (pgs_cons (pg_name (i := 3) sc.nd rfl (Or.inl rfl)) pgs_nil))) (fun _ _ _ _ _ => (pts_one (pt_cmpR op_eq (pv 2) (pv 1) (nomark _)))) (fun _ _ _ _ _ => (pv 3)))))), ?_⟩)
  obtain ⟨a, f, t, w, rfl, hS, hz, k⟩ := h
  obtain ⟨dx, ma, la, ca, h1, h2, ⟨bs, h3, h4⟩, h5⟩ := hS
  refine ⟨_, rfl, a, _, dx, _, _, rfl, h1, k_State E, n_State_links E, rfl, la, rfl, ⟨_, SqL.of h3⟩, fun D hD => ?_⟩
  refine lc_it (walk_refs h4) (CL H D isN t.pairs fun x => if (x.1 == w) = true then some x.2 else none) (CL.start hD) (fun i H1 hi p => Same.seq p.same (SqL.of h3)) (fun i x H1 H2 hi p y => ?_) fun H1 p => ?_
  · obtain ⟨rfl, b, pr, rfl, hx, hF⟩ := y
    refine ⟨b, _, rfl, SqT.of (p.same _ _ hF), rfl, _, _, rfl, _, _, rfl, rfl, rfl, _, rfl, _, rfl, rfl, _, rfl, ite2 (fun hc => ?_) fun hc => ?_⟩
    · exact ⟨_, rfl, CL.put p (Same.refl _) hx (if_pos ((dN _ _).symm.trans hc)) (by omega) isN_mono fun _ _ => rfl⟩
    · exact CL.skip p (Same.refl _) hx (if_neg fun z => hc ((dN _ _).trans z))
  · obtain ⟨B, vs, q1, q2, q3, q4, q5⟩ := p.fin
    refine k _ _ (Same.trans q1 q2) hD ?_
    rw [paired_isN q5, filterMap_filter_map] at q4
    exact q4
end
end Bw
namespace Bw
open PySem PySem.Spec PyProof.Rows L2
open Vbenah (File State Card Act)
section
variable {P : Program} {w : World} {K : PySem.W.Frag} {mg : Str → Option Value} {base : Heap}
def sp_above (K : PySem.W.Frag) : Sp := fun vs H Q _ => ∃ (a : Addr) (f : File) (s : State) (b w : Nat), vs = [.ref a, .int (w : Nat)] ∧ SV K H a f s ∧ WS f s b ∧
  ∀ H' p, Same H H' → H' p = some (.lst (nV (abv s.pairs f.words.length w))) → Q (.ref p) H'
theorem len_above (K : PySem.W.Frag) : ∀ vs H Q E, sp_above K vs H Q E → vs.length = 2 := fun _ _ _ _ ⟨_, _, _, _, _, h, _⟩ => by rw [h]; rfl
structure AbI (K : PySem.W.Frag) (H : Hp) (a d q : Addr) (p : List (Nat × Nat)) (w : Nat) (ks wt : List Nat) (σ : L2.St) (H' : Hp) : Prop where
  sl : ∃ x, σ = [some (.ref a), some (.int (w : Nat)), some (.ref d), some (.ref q), x]
  sm : Same H H'
  dd : H' d = some (.dK (tset ks))
  qq : H' q = some (.lst (nV wt))
  nd : ks.Nodup
  r1 : ∀ z ∈ ks, Rch p w z
  r2 : ∀ z ∈ wt, Rch p w z
  ln : wt.length ≤ 1000 * (ks.length + 1)
  cl : ∀ u, u = w ∨ u ∈ ks → ∀ v, (u, v) ∈ p → v ∈ ks ∨ v ∈ wt
def AbW (K : PySem.W.Frag) (H : Hp) (a d q : Addr) (p : List (Nat × Nat)) (w : Nat) (m : Nat) (σ : L2.St) (H' : Hp) : Prop := ∃ ks wt, m = (13 - ks.length) * 1001 + wt.length ∧ AbI K H a d q p w ks wt σ H'
theorem sc_above : FnScope (["state", "word", "found", "waiting", "here"] : List Str) ["state", "word"] (defScope s_above) := C8.fnScope_by (by decide +kernel)
theorem c_above (E : Env P w K mg base) : Cal P w K mg base CX0 2 "above" (sp_above K) := by
  have sc := sc_above
  refine mkCal (st := s_above) (E.top.d.def_ 6 (d := d_above) rfl) (E.glo 6) sc (fun _ _ _ _ _ _ us hl => match us, hl with | [_, _], _ => rfl) (len_above K) (fun cdv A outer s H vs Q X hr h => ⟨_, PSs.nox ((pss_cons (ps_set (i := 2) sc.nd rfl (Or.inl rfl) pe_dnewK)
    (pss_cons (ps_set (i := 3) sc.nd rfl (Or.inl rfl) (pe_c (c_uppers_of E) hr (by decide) rfl pass0 (pa_cons (pv 0) (pa_cons (pv 1) pa_nil))))
    (pss_cons (ps_while PassesOwn.never (pt_cmpR (opNeD (K := K) hr.units) (pv 3) (pe_lst pa_nil) (nomark _))
    (pss_cons (ps_set (i := 4) sc.nd rfl (Or.inl rfl) (pe_bm0 PySem.F.plainAttrs_list PySem.F.slot_list_pop PySem.F.type_list_pop mt_pop (pv 3)))
    (pss_one (ps_if (pt_cmp (pc_dnotin (hu_of hr) (pv 4) (pv 2))) (pss_cons (ps_dput (hu_of hr) (pv 2) (pv 4) pe_bl rfl)
    (pss_one (ps_expr (pe_bm PySem.F.plainAttrs_list PySem.F.slot_list_extend PySem.F.type_list_extend mt_extend (pv 3) (pa_cons (pe_c (c_uppers_of E) hr (by decide) rfl pass0 (pa_cons (pv 0) (pa_cons (pv 4) pa_nil))) pa_nil))))) pss_nil))))
    (pss_one (ps_ret (pe_callB (call_sortedDI rfl) rfl (fr_sorted E) (by decide +kernel) (pa_cons (pv 2) pa_nil)))))))), ?_⟩)
  obtain ⟨a, f, t, b, w, rfl, hS, hW, k⟩ := h
  have hb := hW.hb
  have hp := hW.pl
  have hn := hW.hn
  intro d nd
  refine ⟨_, rfl, _, rfl, a, f, t, w, rfl, hS.same (Same.new nd), hW.p1, fun H1 q s1 nq e1 => ?_⟩
  have sH : Same H H1 := Same.trans (Same.new nd) s1
  have nq' : H q = none := (Same.new nd).free nq
  have hdq : d ≠ q := ne_of_none upd_same nq
  have ed : H1 d = some (.dK (tset [])) := s1 _ _ upd_same
  -- the loop
  refine ⟨AbW K H a d q t.pairs w, ⟨_, [], ups t.pairs w, rfl, ⟨_, rfl⟩, sH, ed, e1, List.nodup_nil, fun _ h => (nomatch h), fun z hz => Rch.one (mem_ups.mp hz), ?_, fun u hu v hv => ?_⟩, ?_⟩
  · have := ups_len t.pairs w
    simp
    omega
  · rcases hu with rfl | hu
    · exact Or.inr (mem_ups.mpr hv)
    · cases hu
  · rintro m σ H' ⟨ks, wt, hm, ⟨x, rfl⟩, sm, dd, qq, nk, r1, r2, ln, cl⟩
    have hks : ks.length ≤ 12 := Nat.le_trans (nodup_len nk fun z hz => ((r1 z hz).lt hW.pp).2) hn
    refine ⟨_, rfl, Nat.zero_le _, fun p np => ⟨dL1 wt, dL1 [], dpL (SqL.of (Same.new np _ _ qq)), dpL (SqL.of upd_same), deL1.shaped (by decide) _, deL1.shaped (by decide) _, _, rfl, ?_⟩⟩
    rw [deL1.eq]
    have s2 : Same H (upd H' p (.lst [])) := Same.trans sm (Same.new np)
    have dd2 := Same.new (o := HO.lst []) np _ _ dd
    have qq2 := Same.new (o := HO.lst []) np _ _ qq
    rcases List.eq_nil_or_concat wt with rfl | ⟨wt', here, rfl⟩
    · refine if_f rfl ⟨_, rfl, d, tset ks, zs ks, rfl, .inl dd2, tset_keys ks, by rw [List.length_map]; omega, fun ys r pm srt nr => k _ _ (Same.trans s2 (Same.new nr)) ?_⟩
      rw [sorted_nats pm srt nk (asc_abv _ _ w) fun z => ?_]
      · exact upd_same
      · rw [mem_abv hW.pp]
        refine ⟨r1 z, fun h => h.closed (S := fun z => z ∈ ks) (fun c hc => ?_) fun u v hu hv => ?_⟩
        · exact (cl _ (Or.inl rfl) _ hc).resolve_right fun h => nomatch h
        · exact (cl _ (Or.inr hu) _ hv).resolve_right fun h => nomatch h
    · rw [List.concat_eq_append] at hm qq qq2 r2 ln cl ⊢
      refine if_t (by simp) ⟨fun σ' H'' => ∃ m', m' < m ∧ AbW K H a d q t.pairs w m' σ' H'', fun _ _ h => h, ?_⟩
      refine ⟨_, rfl, ty_lst qq2, q, nV (wt' ++ [here]), .int (here : Nat), rfl, rfl, qq2, ?_, ?_⟩
      · rw [nV_snoc]
        exact snoc_last _ _
      rw [nV_snoc, List.dropLast_concat]
      have s3 := Same.put (o := HO.lst (nV wt')) s2 nq'
      have dd3 : upd (upd H' p (.lst [])) q (.lst (nV wt')) d = some (.dK (tset ks)) := by rw [upd_ne hdq]; exact dd2
      have hr2 : ∀ z ∈ wt', Rch t.pairs w z := fun z hz => r2 z (List.mem_append_left _ hz)
      have hrh : Rch t.pairs w here := r2 _ (List.mem_append_right _ (List.mem_singleton.mpr rfl))
      refine ⟨_, rfl, _, rfl, d, (valV (tset ks) (Sum.inl (here : Int))), rfl, dgetN dd3, _, rfl, ?_⟩
      rw [tset_val]
      have hlen : (wt' ++ [here]).length = wt'.length + 1 := by simp
      by_cases hin : ks.contains here = true
      · refine if_f (by rw [hin]; rfl) ⟨_, (by rw [hm, hlen]; exact Nat.lt_succ_self _ : (13 - ks.length) * 1001 + wt'.length < m), ks, wt', rfl, ⟨_, rfl⟩, s3, dd3, upd_same, nk, r1, hr2, by omega, fun u hu v hv => ?_⟩
        rcases cl u hu v hv with h | h
        · exact Or.inl h
        · rcases List.mem_append.mp h with h | h
          · exact Or.inr h
          · rw [List.mem_singleton.mp h]
            exact Or.inl (List.contains_iff_mem.mp hin)
      · have hin2 : ¬ here ∈ ks := fun h => hin (List.contains_iff_mem.mpr h)
        refine if_t (by simp [hin2]) ⟨_, rfl, _, rfl, d, _, rfl, dputN dd3 (by rw [List.length_map, List.length_map]; exact sz_lt (by omega)), ?_⟩
        rw [tset_put]
        have s4 := Same.put (o := HO.dK (tset (addN ks here))) s3 nd
        have q4 : upd (upd (upd H' p (.lst [])) q (.lst (nV wt'))) d (.dK (tset (addN ks here))) q = some (.lst (nV wt')) := by rw [upd_ne (Ne.symm hdq)]; exact upd_same
        refine ⟨_, rfl, ty_lst q4, _, rfl, _, rfl, a, f, t, here, rfl, hS.same s4, hW.p1, fun H5 r s5 nr e5 => ⟨q, r, nV wt', nV (ups t.pairs here), rfl, rfl, s5 _ _ q4, e5, ?_, ?_⟩⟩
        · have := ups_len t.pairs here
          rw [nV_len, nV_len]
          exact sz_le (by omega)
        rw [← nV_append]
        have hqr : d ≠ q := hdq
        have s6 := Same.trans s4 s5
        have ea : (addN ks here) = ks ++ [here] := if_neg hin
        have la : (addN ks here).length = ks.length + 1 := by rw [ea]; simp
        refine ⟨_, (?_ : (13 - (addN ks here).length) * 1001 + (wt' ++ ups t.pairs here).length < m), addN ks here, wt' ++ ups t.pairs here, rfl, ⟨_, rfl⟩, Same.put s6 nq', ?_, upd_same, nodup_addN nk, fun z hz => ?_, fun z hz => ?_, ?_, fun u hu v hv => ?_⟩
        · have := ups_len t.pairs here
          rw [hm, la, List.length_append, hlen]
          omega
        · rw [upd_ne hdq]
          exact s5 _ _ upd_same
        · rcases mem_addN.mp hz with h | h
          · exact r1 z h
          · rw [h]
            exact hrh
        · rcases List.mem_append.mp hz with h | h
          · exact hr2 z h
          · exact hrh.step (mem_ups.mp h)
        · have := ups_len t.pairs here
          rw [la, List.length_append]
          omega
        · have hu2 : (u = w ∨ u ∈ ks) ∨ u = here := by
            rcases hu with h | h
            · exact Or.inl (Or.inl h)
            · rcases mem_addN.mp h with h | h
              · exact Or.inl (Or.inr h)
              · exact Or.inr h
          rcases hu2 with hu2 | hu2
          · rcases cl u hu2 v hv with h | h
            · exact Or.inl (mem_addN.mpr (Or.inl h))
            · rcases List.mem_append.mp h with h | h
              · exact Or.inr (List.mem_append_left _ h)
              · exact Or.inl (mem_addN.mpr (Or.inr (List.mem_singleton.mp h)))
          · rw [hu2] at hv
            exact Or.inr (List.mem_append_right _ (mem_ups.mpr hv))
end
end Bw
namespace Bw
open PySem PySem.Spec PyProof.Rows L2
open Vbenah (File State Card Act)
section
variable {P : Program} {w : World} {K : PySem.W.Frag} {mg : Str → Option Value} {base : Heap}
def sp_stands_under (K : PySem.W.Frag) : Sp := fun vs H Q _ => ∃ (a : Addr) (f : File) (s : State) (b x y : Nat), vs = [.ref a, .int (x : Nat), .int (y : Nat)] ∧ SV K H a f s ∧ WS f s b ∧
  ∀ H', Same H H' → Q (.bl ((abv s.pairs f.words.length x).contains y)) H'
theorem len_stands_under (K : PySem.W.Frag) : ∀ vs H Q E, sp_stands_under K vs H Q E → vs.length = 3 := fun _ _ _ _ ⟨_, _, _, _, _, _, h, _⟩ => by rw [h]; rfl
theorem sc_stands_under : FnScope (["state", "one", "other"] : List Str) ["state", "one", "other"] (defScope s_stands_under) := C8.fnScope_by (by decide +kernel)
theorem c_stands_under (E : Env P w K mg base) : Cal P w K mg base CX0 3 "stands_under" (sp_stands_under K) := by
  have sc := sc_stands_under
  refine mkCal (st := s_stands_under) (E.top.d.def_ 7 (d := d_stands_under) rfl) (E.glo 7) sc (fun _ _ _ _ _ _ us hl => match us, hl with | [_, _, _], _ => rfl) (len_stands_under K) (fun cdv A outer s H vs Q X hr h => ⟨_, PSs.nox ((pss_one (ps_ret (pe_cmpR (opIn (K := K)) (pv 2) (pe_c (c_above E) hr (by decide) rfl pass0 (pa_cons (pv 0) (pa_cons (pv 1) pa_nil))) (by rfl))))), ?_⟩)
  obtain ⟨a, f, t, b, x, y, rfl, hS, hW, k⟩ := h
  refine ⟨_, rfl, _, rfl, _, rfl, a, f, t, b, x, rfl, hS, hW, fun H1 p s1 e1 => ⟨p, _, rfl, Or.inl (SqL.of e1), rfl, flat_nV _, ?_⟩⟩
  rw [if_neg Bool.false_ne_true, inV_nV]
  exact k _ s1
def blw (p : List (Nat × Nat)) (n w : Nat) : List Nat := (List.range n).filter fun o => (abv p n o).contains w
def sp_below (K : PySem.W.Frag) : Sp := fun vs H Q _ => ∃ (a : Addr) (f : File) (s : State) (b w : Nat), vs = [.ref a, .int (w : Nat)] ∧ SV K H a f s ∧ WS f s b ∧
  ∀ H' p, Same H H' → H' p = some (.lst (nV (blw s.pairs f.words.length w))) → Q (.ref p) H'
theorem len_below (K : PySem.W.Frag) : ∀ vs H Q E, sp_below K vs H Q E → vs.length = 2 := fun _ _ _ _ ⟨_, _, _, _, _, h, _⟩ => by rw [h]; rfl
theorem sc_below : FnScope (["state", "word", "other"] : List Str) ["state", "word"] (defScope s_below) := C8.fnScope_by (by decide +kernel)
theorem c_below (E : Env P w K mg base) : Cal P w K mg base CX0 4 "below" (sp_below K) := by
  have sc := sc_below
  refine mkCal (st := s_below) (E.top.d.def_ 8 (d := d_below) rfl) (E.glo 8) sc (fun _ _ _ _ _ _ us hl => match us, hl with | [_, _], _ => rfl) (len_below K) (fun cdv A outer s H vs Q X hr h => ⟨_, PSs.nox ((pss_one (ps_ret (pe_lc (own := [("other", 2)]) (g := (gName 2)) rfl sc.nd (pi_range1 (by rfl) (fr_range E) (pa_cons (pe_callB (clen (K := K)) rfl (fr_len E) (by decide +kernel) (pa_cons (peF (K := K) (pv 0) rfl) pa_nil)) pa_nil)) (blkOk_by (own := [("other", 2)]) (N := ["state", "word", "other"]) (sc := defScope s_below) (by decide +kernel)) (fun _ _ _ _ _ => pg_name (i := 2) sc.nd rfl (Or.inl rfl)) (fun _ _ _ _ _ => (pts_one (pt_val (pe_c (c_stands_under E) hr (by decide) rfl pass0 (pa_cons (pv 0) (pa_cons (pv 2) (pa_cons (pv 1) pa_nil))))))) (fun _ _ _ _ _ => (pv 2)))))), ?_⟩)
  obtain ⟨a, f, t, b, w, rfl, hS, hW, k⟩ := h
  obtain ⟨dx, ma, la, ca, h1, ⟨ms, h2, h2'⟩, h3, h5⟩ := hS
  have hS : SV K H a f t := ⟨dx, ma, la, ca, h1, ⟨ms, h2, h2'⟩, h3, h5⟩
  have hn := hW.hn
  have em : (ms.map V.ref).length = f.words.length := by rw [List.length_map, paired_len h2', mks_len]
  refine ⟨_, rfl, a, _, dx, _, _, rfl, h1, k_State E, n_State_marks E, rfl, ma, _, rfl, Or.inl (SqL.of h2), _, rfl, by omega, by rw [em]; omega, fun D hD => ?_⟩
  rw [em]
  refine lc_it walk_rngN (CL H D isN (List.range f.words.length) fun o => if (abv t.pairs f.words.length o).contains w = true then some o else none) (CL.start hD) (fun i H1 hi p => trivial) (fun i x H1 H2 hi p y => ?_) fun H1 p => ?_
  · obtain ⟨rfl, rfl⟩ := y
    have hi' : i < f.words.length := hi
    have hx : (List.range f.words.length)[i]? = some i := List.getElem?_range hi'
    refine ⟨rfl, _, rfl, _, rfl, _, rfl, a, f, t, b, i, w, rfl, hS.same p.same, hW, fun H3 s3 => ⟨_, rfl, ite2 (fun hc => ?_) fun hc => ?_⟩⟩
    · exact ⟨_, rfl, CL.put p s3 hx (if_pos hc) (by rw [List.length_range]; omega) isN_mono fun _ _ => rfl⟩
    · exact CL.skip p s3 hx (if_neg hc)
  · have p2 : CL H D isN (List.range f.words.length) (fun o => if (abv t.pairs f.words.length o).contains w = true then some o else none) (List.range f.words.length).length H1 := by
      rw [List.length_range]
      exact p
    obtain ⟨B, vs, q1, q2, q3, q4, q5⟩ := p2.fin
    refine k _ _ (Same.trans q1 q2) ?_
    rw [paired_isN q5, filterMap_filter' fun o => (abv t.pairs f.words.length o).contains w] at q4
    exact q4
/-- the number of the first card of a name -/
def cix (cs : List Card) (n : List Nat) : Int := match cs.findIdx? fun c => c.name == n with
  | some i => (i : Nat)
  | none => -1
def sp_card_number (K : PySem.W.Frag) : Sp := fun vs H Q _ => ∃ (a p : Addr) (f : File) (s : State) (b : Nat) (n : List Nat), vs = [.ref a, .ref p] ∧ SV K H a f s ∧ WS f s b ∧ TupN H p n ∧
  ∀ H', Same H H' → Q (.int (cix s.cards n)) H'
theorem len_card_number (K : PySem.W.Frag) : ∀ vs H Q E, sp_card_number K vs H Q E → vs.length = 2 := fun _ _ _ _ ⟨_, _, _, _, _, _, h, _⟩ => by rw [h]; rfl
theorem sc_card_number : FnScope (["state", "name", "number", "card"] : List Str) ["state", "name"] (defScope s_card_number) := C8.fnScope_by (by decide +kernel)
theorem c_card_number (E : Env P w K mg base) : Cal P w K mg base CX0 1 "card_number" (sp_card_number K) := by
  have sc := sc_card_number
  refine mkCal (st := s_card_number) (E.top.d.def_ 10 (d := d_card_number) rfl) (E.glo 10) sc (fun _ _ _ _ _ _ us hl => match us, hl with | [_, _], _ => rfl) (len_card_number K) (fun cdv A outer s H vs Q X hr h => ⟨_, PSs.nox ((pss_cons (ps_for PassesOwn.never rfl (pi_enum (by rfl) (fr_enumerate E) (pa_cons (peF (K := K) (pv 0) rfl) pa_nil)) (pg_tup rfl (pgs_cons (pg_name (i := 2) sc.nd rfl (Or.inl rfl)) (pgs_cons (pg_name (i := 3) sc.nd rfl (Or.inl rfl)) pgs_nil)))
    (pss_one (ps_if (pt_cmpR (opEqD (K := K) hr.units) (peF (K := K) (pv 3) rfl) (pv 1) (nomark _)) (pss_one (ps_ret (pv 2))) pss_nil)))
    (pss_one (ps_ret (pe_un un_neg pe_int))))), ?_⟩)
  obtain ⟨a, pn, f, t, b, n, rfl, hS, hW, hN, k⟩ := h
  obtain ⟨dx, ma, la, ca, h1, h2, h3, ⟨bs, h4, h5⟩⟩ := hS
  refine ⟨_, rfl, a, _, dx, _, _, rfl, h1, k_State E, n_State_cards E, rfl, ca, _, rfl, SqL.of h4, ?_⟩
  refine for_it (walk_refsE h5) (fun i σ H' => ∃ x y, σ = [some (.ref a), some (.ref pn), x, y] ∧ Same H H' ∧ ∀ c ∈ t.cards.take i, (c.name == n) = false) ⟨_, _, rfl, Same.refl _, fun c hc => by simp at hc⟩ (fun i σ H' hi ⟨_, _, _, s, _⟩ => Same.seq s (SqL.of h4)) (fun i x σ H1 H2 hi ⟨x1, y1, e, s, hno⟩ y => ?_) fun σ H1 ⟨x1, y1, e, s, hno⟩ => ?_
  · subst e
    obtain ⟨T, c, cd, rfl, nT, rfl, hx, dc, pc, wi, ni, g1, g2, g3, g4⟩ := y
    have s2 : Same H (upd H1 T (.tup [.int (i : Nat), .ref c])) := Same.trans s (Same.new nT)
    refine ⟨T, _, rfl, SqT.of upd_same, rfl, _, _, rfl, _, _, rfl, rfl, _, rfl, c, _, dc, _, _, rfl, s2 _ _ g1, k_Card E, n_Card_name E, rfl, _, rfl, dT1 cd.name, dT1 n, dpT (SqT.of (s2 _ _ g2)), dpT (SqT.of (s2 _ _ hN)), deT1.shaped (by decide) _, deT1.shaped (by decide) _, _, rfl, ?_⟩
    rw [deT1.eq]
    refine ite2 (fun hc => ?_) fun hc => ?_
    · refine ⟨_, rfl, ?_⟩
      have e : cix t.cards n = (i : Nat) := by
        unfold cix
        have : t.cards.findIdx? (fun c => c.name == n) = some i := by
          rw [List.findIdx?_eq_some_iff_getElem]
          have hl : i < t.cards.length := by
            rcases Nat.lt_or_ge i t.cards.length with g | g
            · exact g
            · rw [List.getElem?_eq_none g] at hx
              cases hx
          rw [List.getElem?_eq_getElem hl] at hx
          refine ⟨hl, ?_, fun j hj => ?_⟩
          · rw [Option.some.inj hx]
            exact beq_iff_eq.mpr (of_decide_eq_true hc)
          · have := hno (t.cards[j]'(by omega)) (by
              rw [List.mem_iff_getElem?]
              exact ⟨j, by rw [List.getElem?_take_of_lt hj, List.getElem?_eq_getElem]⟩)
            simpa using this
        rw [this]
      have q := k _ s2
      rw [e] at q
      exact q
    · refine ⟨_, _, rfl, s2, fun c hm => ?_⟩
      rcases (take_mem hx c).mp hm with h | h
      · exact hno c h
      · rw [h]
        exact beq_eq_false_iff_ne.mpr fun z => hc (decide_eq_true z)
  · subst e
    have e : cix t.cards n = -1 := by
      unfold cix
      have : t.cards.findIdx? (fun c => c.name == n) = none := by
        rw [List.findIdx?_eq_none_iff]
        exact fun c hc => hno c (by rw [List.take_length]; exact hc)
      rw [this]
    refine ⟨1, rfl, ?_⟩
    have := k _ s
    rw [e] at this
    exact this
def sp_may_put (K : PySem.W.Frag) : Sp := fun vs H Q _ => ∃ (a : Addr) (f : File) (s : State) (b x y : Nat), vs = [.ref a, .int (x : Nat), .int (y : Nat)] ∧ SV K H a f s ∧ WS f s b ∧
  ∀ H', Same H H' → Q (.bl (x != y && (!s.pairs.contains (x, y) && !(abv s.pairs f.words.length y).contains x))) H'
theorem len_may_put (K : PySem.W.Frag) : ∀ vs H Q E, sp_may_put K vs H Q E → vs.length = 3 := fun _ _ _ _ ⟨_, _, _, _, _, _, h, _⟩ => by rw [h]; rfl
theorem sc_may_put : FnScope (["state", "one", "other"] : List Str) ["state", "one", "other"] (defScope s_may_put) := C8.fnScope_by (by decide +kernel)
theorem c_may_put (E : Env P w K mg base) : Cal P w K mg base CX0 4 "may_put" (sp_may_put K) := by
  have sc := sc_may_put
  refine mkCal (st := s_may_put) (E.top.d.def_ 11 (d := d_may_put) rfl) (E.glo 11) sc (fun _ _ _ _ _ _ us hl => match us, hl with | [_, _, _], _ => rfl) (len_may_put K) (fun cdv A outer s H vs Q X hr h => ⟨_, PSs.nox ((pss_one (ps_ret (pe_and (pe_cmpR op_ne (pv 1) (pv 2) (nomark _)) (pe_and (pe_cmpR (opNiD (K := K) (hu65 hr)) (pe_tup (pa_cons (pv 1) (pa_cons (pv 2) pa_nil))) (peF (K := K) (pv 0) rfl) (by rfl)) (pe_one (pe_not (pe_c (c_stands_under E) hr (by decide) rfl pass0 (pa_cons (pv 0) (pa_cons (pv 2) (pa_cons (pv 1) pa_nil))))))))))), ?_⟩)
  obtain ⟨a, f, t, b, x, y, rfl, hS, hW, k⟩ := h
  obtain ⟨dx, ma, la, ca, h1, h2, ⟨ls, h3, h3'⟩, h5⟩ := hS
  have hS : SV K H a f t := ⟨dx, ma, la, ca, h1, h2, ⟨ls, h3, h3'⟩, h5⟩
  refine ⟨_, rfl, _, rfl, rfl, _, rfl, ?_⟩
  rw [dN]
  by_cases hxy : x = y
  · refine if_f (by simp [hxy]) ?_
    have := k _ (Same.refl _)
    rw [show (x != y) = false by simp [hxy], Bool.false_and] at this
    exact this
  · have exy : (x != y) = true := by simp [hxy]
    refine if_t (by simp [hxy]) ⟨_, rfl, _, rfl, (show 2 ≤ sizeLine by decide), fun T nT => ⟨_, rfl, a, _, dx, _, _, rfl, Same.new nT _ _ h1, k_State E, n_State_links E, rfl, dP1 (x, y), t.pairs.map dP1, dpP (p := (x, y)) (SqT.of upd_same), .lst (SqL.of (Same.new nT _ _ h3)) (dpRefs (fun b x q => dpP (SqT.of (Same.new nT _ _ q))) h3'), deP1.shaped (by decide) _, (deL deP1).shaped (by decide) _, _, rfl, ?_⟩⟩
    rw [any_eqv deP1]
    by_cases hin : t.pairs.contains (x, y) = true
    · refine if_f (by rw [hin]; rfl) ?_
      have := k _ (Same.new (o := .tup [.int (x : Nat), .int (y : Nat)]) nT)
      rw [exy, hin] at this
      exact this
    · refine if_t (by rw [Bool.eq_false_iff.mpr hin]; rfl) ⟨_, rfl, _, rfl, _, rfl, a, f, t, b, y, x, rfl, hS.same (Same.new nT), hW, fun H2 s2 => ⟨_, rfl, ?_⟩⟩
      have := k _ (Same.trans (Same.new nT) s2)
      rw [exy, Bool.eq_false_iff.mpr hin] at this
      exact this
end
end Bw
namespace Bw
open PySem PySem.Spec PyProof.Rows L2
open Vbenah (File State Card Act)
section
variable {P : Program} {w : World} {K : PySem.W.Frag} {mg : Str → Option Value} {base : Heap}
def sp_posted (K : PySem.W.Frag) : Sp := fun vs H Q _ => ∃ (a : Addr) (f : File) (s : State) (b w : Nat), vs = [.ref a, .int (w : Nat)] ∧ SV K H a f s ∧ WS f s b ∧ w < f.words.length ∧
  ∀ H' p, Same H H' → H' p = some (.lst (nV (Vbenah.holesOf f.holes (Vbenah.posted f s.pairs w)))) → Q (.ref p) H'
theorem len_posted (K : PySem.W.Frag) : ∀ vs H Q E, sp_posted K vs H Q E → vs.length = 2 := fun _ _ _ _ ⟨_, _, _, _, _, h, _⟩ => by rw [h]; rfl
theorem sc_posted : FnScope (["state", "word", "found", "one", "hole"] : List Str) ["state", "word"] (defScope s_posted) := C8.fnScope_by (by decide +kernel)
theorem c_posted (E : Env P w K mg base) : Cal P w K mg base CX0 3 "posted" (sp_posted K) := by
  have sc := sc_posted
  refine mkCal (st := s_posted) (E.top.d.def_ 9 (d := d_posted) rfl) (E.glo 9) sc (fun _ _ _ _ _ _ us hl => match us, hl with | [_, _], _ => rfl) (len_posted K) (fun cdv A outer s H vs Q X hr h => ⟨_, PSs.nox ((pss_cons (ps_set (i := 2) sc.nd rfl (Or.inl rfl) pe_dnewK)
    (pss_cons (ps_for PassesOwn.never rfl (pi_list (pe_op op_cat (pe_lst (pa_cons (pv 1) pa_nil)) (pe_c (c_above E) hr (by decide) rfl pass0 (pa_cons (pv 0) (pa_cons (pv 1) pa_nil))))) (pg_name (i := 3) sc.nd rfl (Or.inl rfl))
    (pss_one (ps_for PassesOwn.never rfl (pi_list (pe_ix (ixL (K := K)) (peF (K := K) (pv 0) rfl) (pv 3) (fun _ _ => rfl))) (pg_name (i := 4) sc.nd rfl (Or.inl rfl))
    (pss_one (ps_dput (hu_of hr) (pv 2) (pv 4) pe_bl rfl)))))
    (pss_one (ps_ret (pe_callB (call_sortedDI rfl) rfl (fr_sorted E) (by decide +kernel) (pa_cons (pv 2) pa_nil))))))), ?_⟩)
  obtain ⟨a, f, t, b, w, rfl, hS, hW, hw, k⟩ := h
  have hn := hW.hn
  have hho := hW.ho
  intro d nd
  refine ⟨_, rfl, (show 1 ≤ sizeLine by decide), fun L0 n0 => ?_⟩
  have s0 : Same H (upd (upd H d (.dK [])) L0 (.lst [.int (w : Nat)])) := Same.trans (Same.new nd) (Same.new n0)
  refine ⟨_, rfl, _, rfl, a, f, t, b, w, rfl, hS.same s0, hW, fun H1 q s1 e1 => ⟨L0, q, [.int (w : Nat)], nV (abv t.pairs f.words.length w), rfl, rfl, s1 _ _ upd_same, e1, ?_, fun L nL => ⟨L, rfl, ⟨_, SqL.of upd_same⟩, ?_⟩⟩⟩
  · have := abv_len t.pairs f.words.length w
    rw [nV_len]
    exact sz_le (by simp; omega)
  have nL' : H L = none := (Same.trans s0 s1).free nL
  have ed1 : H1 d = some (.dK (tset [])) := s1 _ _ (by rw [upd_ne (ne_of_none upd_same n0)]; exact upd_same)
  have hdL : d ≠ L := ne_of_none ed1 nL
  have eL : (w :: abv t.pairs f.words.length w).length ≤ 13 := by
    have := abv_len t.pairs f.words.length w
    simp
    omega
  obtain ⟨dx, ma, la, ca, h1, ⟨ms, h2, h2'⟩, h3, h5⟩ := hS
  have hin : ∀ z ∈ w :: abv t.pairs f.words.length w, z < f.words.length := fun z hz => by
    rcases List.mem_cons.mp hz with e | e
    · rw [e]; exact hw
    · exact (((mem_abv hW.pp).mp e).lt hW.pp).2
  refine for_it (walk_nums (l := w :: abv t.pairs f.words.length w)) (fun i σ H' => ∃ ks x y, σ = [some (.ref a), some (.int (w : Nat)), some (.ref d), x, y] ∧ Same H H' ∧ H' d = some (.dK (tset ks)) ∧ H' L = some (.lst (nV (w :: abv t.pairs f.words.length w))) ∧ ks.Nodup ∧
      ∀ h, h ∈ ks ↔ ∃ z ∈ (w :: abv t.pairs f.words.length w).take i, h ∈ Vbenah.holesOf f.holes (Vbenah.marksOf f z)) ⟨[], _, _, rfl, Same.trans (Same.trans s0 s1) (Same.new nL), ?_, upd_same, List.nodup_nil, fun h => by simp⟩ (fun i σ H' hi ⟨_, _, _, _, _, _, e, _⟩ => SqL.of e) (fun i x σ H2 H3 hi ⟨ks, x1, y1, e, s2, ed, eLL, nk, hk⟩ y => ?_) fun σ H2 ⟨ks, x1, y1, e, s2, ed, eLL, nk, hk⟩ => ?_
  · rw [upd_ne hdL]
    exact ed1
  · subst e
    obtain ⟨rfl, z, rfl, hz⟩ := y
    have hzn := hin z (mem_of_get hz)
    obtain ⟨mb, hmb, hmF⟩ := paired_get h2' (mks_at hzn)
    refine ⟨_, rfl, a, _, dx, _, _, rfl, s2 _ _ h1, k_State E, n_State_marks E, rfl, _, rfl, ma, _, (z : Nat), .ref mb, rfl, rfl, SqL.of (s2 _ _ h2), atI_nat (get_ref hmb), mb, rfl, ⟨_, SqL.of (s2 _ _ hmF)⟩, ?_⟩
    refine for_it (walk_nums (l := Vbenah.holesOf f.holes (Vbenah.marksOf f z))) (fun j σ H' => ∃ ks2 y, σ = [some (.ref a), some (.int (w : Nat)), some (.ref d), some (.int (z : Nat)), y] ∧ Same H H' ∧ H' d = some (.dK (tset ks2)) ∧ H' L = some (.lst (nV (w :: abv t.pairs f.words.length w))) ∧ ks2.Nodup ∧
      ∀ h, h ∈ ks2 ↔ h ∈ ks ∨ h ∈ (Vbenah.holesOf f.holes (Vbenah.marksOf f z)).take j) ⟨ks, _, rfl, s2, ed, eLL, nk, fun h => by simp⟩ (fun j σ H' hj ⟨_, _, _, s, _⟩ => SqL.of (s _ _ hmF)) (fun j x σ H4 H5 hj ⟨ks2, y2, e, s4, ed4, eL4, nk2, hk2⟩ y => ?_) fun σ H4 ⟨ks2, y2, e, s4, ed4, eL4, nk2, hk2⟩ => ?_
    · subst e
      obtain ⟨rfl, h, rfl, hh⟩ := y
      have hl : ks2.length ≤ 16 := Nat.le_trans (nodup_len nk2 fun x hx => by
        rcases (hk2 x).mp hx with q | q
        · obtain ⟨z, _, q⟩ := (hk x).mp q
          exact (mem_holes.mp q).1
        · exact (mem_holes.mp (List.mem_of_mem_take q)).1) hho
      refine ⟨_, rfl, _, rfl, d, _, rfl, dputN ed4 (by rw [List.length_map, List.length_map]; exact sz_lt (by omega)), addN ks2 h, _, rfl, Same.put s4 nd, ?_, ?_, nodup_addN nk2, fun x => ?_⟩
      · rw [tset_put]
        exact upd_same
      · rw [upd_ne (Ne.symm hdL)]
        exact eL4
      · rw [mem_addN, hk2, take_mem hh, or_assoc]
    · subst e
      refine ⟨ks2, _, _, rfl, s4, ed4, eL4, nk2, fun h => ?_⟩
      rw [hk2, hk, List.take_length]
      constructor
      · rintro (⟨z2, q1, q2⟩ | q)
        · exact ⟨z2, (take_mem hz z2).mpr (Or.inl q1), q2⟩
        · exact ⟨z, (take_mem hz z).mpr (Or.inr rfl), q⟩
      · rintro ⟨z2, q1, q2⟩
        rcases (take_mem hz z2).mp q1 with q | q
        · exact Or.inl ⟨z2, q, q2⟩
        · exact Or.inr (q ▸ q2)
  · subst e
    have hl : ks.length ≤ 16 := Nat.le_trans (nodup_len nk fun x hx => by
      obtain ⟨z, _, q⟩ := (hk x).mp hx
      exact (mem_holes.mp q).1) hho
    refine ⟨_, rfl, d, tset ks, zs ks, rfl, .inl ed, tset_keys ks, by rw [List.length_map]; omega, fun ys r pm srt nr => k _ _ (Same.trans s2 (Same.new nr)) ?_⟩
    rw [sorted_nats pm srt nk (asc_holes f.holes (Vbenah.posted f t.pairs w)) fun z => ?_]
    · exact upd_same
    · rw [hk, mem_posted, List.take_length]
      constructor
      · rintro ⟨z2, q1, q2⟩
        have q3 := mem_holes.mp q2
        exact ⟨q3.1, z2, (mem_selfAbv hW.pp hw).mpr (List.mem_cons.mp q1), q3.2⟩
      · rintro ⟨q1, z2, q2, q3⟩
        exact ⟨z2, List.mem_cons.mpr ((mem_selfAbv hW.pp hw).mp q2), mem_holes.mpr ⟨q1, q3⟩⟩
/-- acts, cards by names -/
inductive NAct where
  | under (a b : Nat)
  | apart (a b : Nat)
  | card (n ws : List Nat)
  | add (n : List Nat) (w : Nat)
  | grow (n : List Nat)
  | notch (n : List Nat) (h : Nat)
def NActAt (H : Hp) (x : Addr) : NAct → Prop
  | .under a b => H x = some (.tup [.int 0, .int (a : Nat), .int (b : Nat)])
  | .apart a b => H x = some (.tup [.int 1, .int (a : Nat), .int (b : Nat)])
  | .card n ws => ∃ p q, H x = some (.tup [.int 2, .ref p, .ref q]) ∧ TupN H p n ∧ LstN H q ws
  | .add n w => ∃ p, H x = some (.tup [.int 3, .ref p, .int (w : Nat)]) ∧ TupN H p n
  | .grow n => ∃ p, H x = some (.tup [.int 4, .ref p]) ∧ TupN H p n
  | .notch n h => ∃ p, H x = some (.tup [.int 5, .ref p, .int (h : Nat)]) ∧ TupN H p n
theorem NActAt.same {H H' : Hp} {x : Addr} : ∀ {y : NAct}, NActAt H x y → Same H H' → NActAt H' x y
  | .under _ _, h, s => s _ _ h
  | .apart _ _, h, s => s _ _ h
  | .card _ _, ⟨p, q, h1, h2, h3⟩, s => ⟨p, q, s _ _ h1, s _ _ h2, s _ _ h3⟩
  | .add _ _, ⟨p, h1, h2⟩, s => ⟨p, s _ _ h1, s _ _ h2⟩
  | .grow _, ⟨p, h1, h2⟩, s => ⟨p, s _ _ h1, s _ _ h2⟩
  | .notch _ _, ⟨p, h1, h2⟩, s => ⟨p, s _ _ h1, s _ _ h2⟩
def cardOf (cs : List Card) (n : List Nat) : Option Card := cs.find? fun c => c.name == n
/-- whether an act may be done -/
def nmay (n : Nat) (s : State) : NAct → Bool
  | .under x y => x != y && (!s.pairs.contains (x, y) && !(abv s.pairs n y).contains x)
  | .apart x y => s.pairs.contains (x, y)
  | .card m _ => (cardOf s.cards m).isNone
  | .add m w => match cardOf s.cards m with
    | some c => !c.words.contains w
    | none => false
  | .grow m => (cardOf s.cards m).isSome
  | .notch m _ => (cardOf s.cards m).isSome
def sp_may_be (K : PySem.W.Frag) : Sp := fun vs H Q _ => ∃ (a x : Addr) (f : File) (s : State) (b : Nat) (y : NAct), vs = [.ref a, .ref x] ∧ SV K H a f s ∧ WS f s b ∧ NActAt H x y ∧
  ∀ H', Same H H' → Q (.bl (nmay f.words.length s y)) H'
theorem len_may_be (K : PySem.W.Frag) : ∀ vs H Q E, sp_may_be K vs H Q E → vs.length = 2 := fun _ _ _ _ ⟨_, _, _, _, _, _, h, _⟩ => by rw [h]; rfl
theorem cix_some {cs : List Card} {n : List Nat} {c : Card} (h : cardOf cs n = some c) : ∃ i, cix cs n = (i : Nat) ∧ cs[i]? = some c := by
  unfold cardOf at h
  obtain ⟨h1, i, hi, e1, e2⟩ := List.find?_eq_some_iff_getElem.mp h
  refine ⟨i, ?_, by rw [List.getElem?_eq_getElem hi, e1]⟩
  unfold cix
  have : cs.findIdx? (fun c => c.name == n) = some i := by
    rw [List.findIdx?_eq_some_iff_getElem]
    exact ⟨hi, by rw [e1]; exact h1, fun j hj => by simpa using e2 j hj⟩
  rw [this]
theorem cix_none {cs : List Card} {n : List Nat} (h : cardOf cs n = none) : cix cs n = -1 := by
  unfold cix
  have : cs.findIdx? (fun c => c.name == n) = none := by
    rw [List.findIdx?_eq_none_iff]
    intro c hc
    have := List.find?_eq_none.mp h c hc
    simpa using this
  rw [this]
theorem sc_may_be : FnScope (["state", "act", "kind", "number"] : List Str) ["state", "act"] (defScope s_may_be) := C8.fnScope_by (by decide +kernel)
theorem c_may_be (E : Env P w K mg base) : Cal P w K mg base CX0 5 "may_be" (sp_may_be K) := by
  have sc := sc_may_be
  refine mkCal (st := s_may_be) (E.top.d.def_ 12 (d := d_may_be) rfl) (E.glo 12) sc (fun _ _ _ _ _ _ us hl => match us, hl with | [_, _], _ => rfl) (len_may_be K) (fun cdv A outer s H vs Q X hr h => ⟨_, PSs.nox ((pss_cons (ps_set (i := 2) sc.nd rfl (Or.inl rfl) (pe_ix (ixT (K := K)) (pv 1) pe_int (fun _ _ => rfl)))
    (pss_cons (ps_if (pt_cmpR op_eq (pv 2) (C8.pe_gc rfl (g_UNDER E)) (nomark _)) (pss_one (ps_ret (pe_c (c_may_put E) hr (by decide) rfl pass0 (pa_cons (pv 0) (pa_cons (pe_ix (ixT (K := K)) (pv 1) pe_int (fun _ _ => rfl)) (pa_cons (pe_ix (ixT (K := K)) (pv 1) pe_int (fun _ _ => rfl)) pa_nil)))))) pss_nil)
    (pss_cons (ps_if (pt_cmpR op_eq (pv 2) (C8.pe_gc rfl (g_APART E)) (nomark _)) (pss_one (ps_ret (pe_cmpR (opInD (K := K) (hu65 hr)) (pe_tup (pa_cons (pe_ix (ixT (K := K)) (pv 1) pe_int (fun _ _ => rfl)) (pa_cons (pe_ix (ixT (K := K)) (pv 1) pe_int (fun _ _ => rfl)) pa_nil))) (peF (K := K) (pv 0) rfl) (by rfl)))) pss_nil)
    (pss_cons (ps_set (i := 3) sc.nd rfl (Or.inl rfl) (pe_c (c_card_number E) hr (by decide) rfl pass0 (pa_cons (pv 0) (pa_cons (pe_ix (ixT (K := K)) (pv 1) pe_int (fun _ _ => rfl)) pa_nil))))
    (pss_cons (ps_if (pt_cmpR op_eq (pv 2) (C8.pe_gc rfl (g_CARD E)) (nomark _)) (pss_one (ps_ret (pe_cmpR op_lt (pv 3) pe_int (nomark _)))) pss_nil)
    (pss_cons (ps_if (pt_cmpR op_eq (pv 2) (C8.pe_gc rfl (g_ADD E)) (nomark _)) (pss_one (ps_ret (pe_and (pe_cmpR op_ge (pv 3) pe_int (nomark _)) (pe_one (pe_cmpR (opNi (K := K)) (pe_ix (ixT (K := K)) (pv 1) pe_int (fun _ _ => rfl)) (peF (K := K) (pe_ix (ixL (K := K)) (peF (K := K) (pv 0) rfl) (pv 3) (fun _ _ => rfl)) rfl) (by rfl)))))) pss_nil)
    (pss_one (ps_ret (pe_cmpR op_ge (pv 3) pe_int (nomark _))))))))))), ?_⟩)
  obtain ⟨a, x, f, t, b, y, rfl, hS, hW, hA, k⟩ := h
  obtain ⟨dx, ma, la, ca, h1, h2, ⟨ls, h3, h3'⟩, ⟨cs, h5, h5'⟩⟩ := hS
  have hS : SV K H a f t := ⟨dx, ma, la, ca, h1, h2, ⟨ls, h3, h3'⟩, ⟨cs, h5, h5'⟩⟩
  cases y with
  | under i j =>
    refine ⟨_, rfl, x, _, 0, .int 0, rfl, rfl, SqT.of hA, rfl, _, rfl, rfl, _, rfl, if_t rfl ⟨_, rfl, _, rfl, x, _, 1, .int (i : Nat), rfl, rfl, SqT.of hA, rfl, _, rfl, x, _, 2, .int (j : Nat), rfl, rfl, SqT.of hA, rfl, a, f, t, b, i, j, rfl, hS, hW, fun H1 s1 => k _ s1⟩⟩
  | apart i j =>
    refine ⟨_, rfl, x, _, 0, .int 1, rfl, rfl, SqT.of hA, rfl, _, rfl, rfl, _, rfl, if_f rfl ⟨_, rfl, rfl, _, rfl, if_t rfl ⟨_, rfl, x, _, 1, .int (i : Nat), rfl, rfl, SqT.of hA, rfl, _, rfl, x, _, 2, .int (j : Nat), rfl, rfl, SqT.of hA, rfl, (show 2 ≤ sizeLine by decide), fun T nT => ⟨_, rfl, a, _, dx, _, _, rfl, Same.new nT _ _ h1, k_State E, n_State_links E, rfl, dP1 (i, j), t.pairs.map dP1, dpP (p := (i, j)) (SqT.of upd_same), .lst (SqL.of (Same.new nT _ _ h3)) (dpRefs (fun b x q => dpP (SqT.of (Same.new nT _ _ q))) h3'), deP1.shaped (by decide) _, (deL deP1).shaped (by decide) _, ?_⟩⟩⟩⟩
    rw [any_eqv deP1]
    have q := k _ (Same.new (o := .tup [.int (i : Nat), .int (j : Nat)]) nT)
    exact q
  | card n ws =>
    obtain ⟨pn, pw, g1, g2, g3⟩ := hA
    refine ⟨_, rfl, x, _, 0, .int 2, rfl, rfl, SqT.of g1, rfl, _, rfl, rfl, _, rfl, if_f rfl ⟨_, rfl, rfl, _, rfl, if_f rfl ⟨_, rfl, _, rfl, x, _, 1, .ref pn, rfl, rfl, SqT.of g1, rfl, a, pn, f, t, b, n, rfl, hS, hW, g2, fun H1 s1 => ⟨_, rfl, rfl, _, rfl, if_t rfl ⟨_, rfl, _, 0, rfl, rfl, ?_⟩⟩⟩⟩⟩
    have q := k _ s1
    simp only [nmay] at q
    cases e : cardOf t.cards n with
    | none =>
      rw [e] at q
      rw [cix_none e]
      exact q
    | some c =>
      rw [e] at q
      obtain ⟨i, e1, e2⟩ := cix_some e
      rw [e1]
      show Q (.bl (decide (((i : Nat) : Int) < 0))) H1
      rw [show decide (((i : Nat) : Int) < 0) = false from decide_eq_false (by omega)]
      exact q
  | add n w =>
    obtain ⟨pn, g1, g2⟩ := hA
    refine ⟨_, rfl, x, _, 0, .int 3, rfl, rfl, SqT.of g1, rfl, _, rfl, rfl, _, rfl, if_f rfl ⟨_, rfl, rfl, _, rfl, if_f rfl ⟨_, rfl, _, rfl, x, _, 1, .ref pn, rfl, rfl, SqT.of g1, rfl, a, pn, f, t, b, n, rfl, hS, hW, g2, fun H1 s1 => ⟨_, rfl, rfl, _, rfl, if_f rfl ⟨_, rfl, rfl, _, rfl, if_t rfl ⟨_, rfl, _, 0, rfl, rfl, _, rfl, ?_⟩⟩⟩⟩⟩⟩
    have q := k _ s1
    simp only [nmay] at q
    cases e : cardOf t.cards n with
    | none =>
      rw [e] at q
      rw [cix_none e]
      exact if_f rfl q
    | some c =>
      rw [e] at q
      obtain ⟨i, e1, e2⟩ := cix_some e
      rw [e1]
      obtain ⟨cb, hcb, dc, pc, wi, ni, c1, c2, c3, c4⟩ := paired_get h5' e2
      refine if_t (decide_eq_true (by omega)) ⟨_, rfl, x, _, 2, .int (w : Nat), rfl, rfl, SqT.of (s1 _ _ g1), rfl, _, rfl, a, _, dx, _, _, rfl, s1 _ _ h1, k_State E, n_State_cards E, rfl, _, rfl, ca, _, (i : Nat), .ref cb, rfl, rfl, SqL.of (s1 _ _ h5), atI_nat (get_ref hcb), cb, _, dc, _, _, rfl, s1 _ _ c1, k_Card E, n_Card_words E, rfl, wi, _, rfl, Or.inl (SqL.of (s1 _ _ c3)), rfl, flat_nV _, ?_⟩
      rw [if_pos rfl, inV_nV]
      exact q
  | grow n =>
    obtain ⟨pn, g1, g2⟩ := hA
    refine ⟨_, rfl, x, _, 0, .int 4, rfl, rfl, SqT.of g1, rfl, _, rfl, rfl, _, rfl, if_f rfl ⟨_, rfl, rfl, _, rfl, if_f rfl ⟨_, rfl, _, rfl, x, _, 1, .ref pn, rfl, rfl, SqT.of g1, rfl, a, pn, f, t, b, n, rfl, hS, hW, g2, fun H1 s1 => ⟨_, rfl, rfl, _, rfl, if_f rfl ⟨_, rfl, rfl, _, rfl, if_f rfl ⟨_, rfl, _, 0, rfl, rfl, ?_⟩⟩⟩⟩⟩⟩
    have q := k _ s1
    simp only [nmay] at q
    cases e : cardOf t.cards n with
    | none =>
      rw [e] at q
      rw [cix_none e]
      exact q
    | some c =>
      rw [e] at q
      obtain ⟨i, e1, e2⟩ := cix_some e
      rw [e1]
      show Q (.bl (decide ((0 : Int) ≤ ((i : Nat) : Int)))) H1
      rw [show decide ((0 : Int) ≤ ((i : Nat) : Int)) = true from decide_eq_true (by omega)]
      exact q
  | notch n w =>
    obtain ⟨pn, g1, g2⟩ := hA
    refine ⟨_, rfl, x, _, 0, .int 5, rfl, rfl, SqT.of g1, rfl, _, rfl, rfl, _, rfl, if_f rfl ⟨_, rfl, rfl, _, rfl, if_f rfl ⟨_, rfl, _, rfl, x, _, 1, .ref pn, rfl, rfl, SqT.of g1, rfl, a, pn, f, t, b, n, rfl, hS, hW, g2, fun H1 s1 => ⟨_, rfl, rfl, _, rfl, if_f rfl ⟨_, rfl, rfl, _, rfl, if_f rfl ⟨_, rfl, _, 0, rfl, rfl, ?_⟩⟩⟩⟩⟩⟩
    have q := k _ s1
    simp only [nmay] at q
    cases e : cardOf t.cards n with
    | none =>
      rw [e] at q
      rw [cix_none e]
      exact q
    | some c =>
      rw [e] at q
      obtain ⟨i, e1, e2⟩ := cix_some e
      rw [e1]
      show Q (.bl (decide ((0 : Int) ≤ ((i : Nat) : Int)))) H1
      rw [show decide ((0 : Int) ≤ ((i : Nat) : Int)) = true from decide_eq_true (by omega)]
      exact q
end
end Bw
namespace Bw
open PySem PySem.Spec PyProof.Rows L2
open Vbenah (File State Card Act)
section
variable {P : Program} {w : World} {K : PySem.W.Frag} {mg : Str → Option Value} {base : Heap}
def sp_Card_init (K : PySem.W.Frag) : Sp := fun vs H Q _ => ∃ (x dx : Addr) (n : V), vs = [.ref x, n] ∧ H x = some (.ins (He.ga K "Card") dx []) ∧
  ∀ H' wi ni, But [x] H H' → H' x = some (.ins (He.ga K "Card") dx [("name", n), ("words", .ref wi), ("notches", .ref ni)]) → H' wi = some (.lst []) → H' ni = some (.dK []) → H wi = none → H ni = none → Q .non H'
theorem len_Card_init (K : PySem.W.Frag) : ∀ vs H Q E, sp_Card_init K vs H Q E → vs.length = 2 := fun _ _ _ _ ⟨_, _, _, h, _⟩ => by rw [h]; rfl
theorem sc_Card_init : FnScope (["self", "name"] : List Str) ["self", "name"] (defScope s_Card_init) := C8.fnScope_by (by decide +kernel)
theorem c_Card_init (E : Env P w K mg base) : Mak P w K mg base 1 "Card" (sp_Card_init K) := by
  have sc := sc_Card_init
  refine mkMak (st := s_Card_init) (E.top.d.def_ 80 (d := d_Card_init) rfl) (E.glo 80) (E.mkr 87) sc (fun _ _ _ _ _ _ us hl => match us, hl with | [_, _], _ => rfl) (len_Card_init K) (fun cdv A outer s H vs Q X hr h => ⟨_, PSs.nox ((pss_cons (ps_fld (pv 0) (pv 1) rfl)
    (pss_cons (ps_fld (pv 0) (pe_lst pa_nil) rfl)
    (pss_one (ps_fld (pv 0) pe_dnewK rfl))))), ?_⟩)
  obtain ⟨x, dx, n, rfl, h0, k⟩ := h
  refine ⟨_, rfl, _, rfl, x, _, dx, _, rfl, h0, k_Card E, n_Card_name E, (show 0 < 1000 by decide), Nat.zero_le _, fun wi nw => ⟨_, rfl, x, _, dx, _, rfl, (Same.new nw _ _ upd_same), k_Card E, n_Card_words E, (show 1 < 1000 by decide), fun ni nn => ⟨_, rfl, x, _, dx, _, rfl, Same.new nn _ _ upd_same, k_Card E, n_Card_notches E, (show 2 < 1000 by decide), ?_⟩⟩⟩
  have a1 : x ≠ wi := ne_of_none upd_same nw
  have a2 : x ≠ ni := ne_of_none upd_same nn
  rw [upd_ne (Ne.symm a2)] at nn
  have a3 : wi ≠ ni := ne_of_none upd_same nn
  rw [upd_ne (Ne.symm a3), upd_ne (Ne.symm a2)] at nn
  rw [upd_ne (Ne.symm a1)] at nw
  refine k _ wi ni ?_ upd_same ?_ ?_ nw nn
  · exact fun b o hb e => by
      have hx : b ≠ x := by simpa using hb
      rw [upd_ne hx, upd_ne (ne_of_none e nn), upd_ne hx, upd_ne (ne_of_none e nw), upd_ne hx]
      exact e
  · rw [upd_ne (Ne.symm a1), upd_ne a3, upd_ne (Ne.symm a1)]
    exact upd_same
  · rw [upd_ne (Ne.symm a2)]
    exact upd_same
def sp_State_init (K : PySem.W.Frag) : Sp := fun vs H Q _ => ∃ (x dx : Addr) (n : V), vs = [.ref x, n] ∧ H x = some (.ins (He.ga K "State") dx []) ∧
  ∀ H' la ca, But [x] H H' → H' x = some (.ins (He.ga K "State") dx [("marks", n), ("links", .ref la), ("cards", .ref ca)]) → H' la = some (.lst []) → H' ca = some (.lst []) → H la = none → H ca = none → la ≠ ca → Q .non H'
theorem len_State_init (K : PySem.W.Frag) : ∀ vs H Q E, sp_State_init K vs H Q E → vs.length = 2 := fun _ _ _ _ ⟨_, _, _, h, _⟩ => by rw [h]; rfl
theorem sc_State_init : FnScope (["self", "marks"] : List Str) ["self", "marks"] (defScope s_State_init) := C8.fnScope_by (by decide +kernel)
theorem c_State_init (E : Env P w K mg base) : Mak P w K mg base 1 "State" (sp_State_init K) := by
  have sc := sc_State_init
  refine mkMak (st := s_State_init) (E.top.d.def_ 81 (d := d_State_init) rfl) (E.glo 81) (E.mkr 92) sc (fun _ _ _ _ _ _ us hl => match us, hl with | [_, _], _ => rfl) (len_State_init K) (fun cdv A outer s H vs Q X hr h => ⟨_, PSs.nox ((pss_cons (ps_fld (pv 0) (pv 1) rfl)
    (pss_cons (ps_fld (pv 0) (pe_lst pa_nil) rfl)
    (pss_one (ps_fld (pv 0) (pe_lst pa_nil) rfl))))), ?_⟩)
  obtain ⟨x, dx, n, rfl, h0, k⟩ := h
  refine ⟨_, rfl, _, rfl, x, _, dx, _, rfl, h0, k_State E, n_State_marks E, (show 0 < 1000 by decide), Nat.zero_le _, fun wi nw => ⟨_, rfl, x, _, dx, _, rfl, (Same.new nw _ _ upd_same), k_State E, n_State_links E, (show 1 < 1000 by decide), Nat.zero_le _, fun ni nn => ⟨_, rfl, x, _, dx, _, rfl, Same.new nn _ _ upd_same, k_State E, n_State_cards E, (show 2 < 1000 by decide), ?_⟩⟩⟩
  have a1 : x ≠ wi := ne_of_none upd_same nw
  have a2 : x ≠ ni := ne_of_none upd_same nn
  rw [upd_ne (Ne.symm a2)] at nn
  have a3 : wi ≠ ni := ne_of_none upd_same nn
  rw [upd_ne (Ne.symm a3), upd_ne (Ne.symm a2)] at nn
  rw [upd_ne (Ne.symm a1)] at nw
  refine k _ wi ni ?_ upd_same ?_ ?_ nw nn a3
  · exact fun b o hb e => by
      have hx : b ≠ x := by simpa using hb
      rw [upd_ne hx, upd_ne (ne_of_none e nn), upd_ne hx, upd_ne (ne_of_none e nw), upd_ne hx]
      exact e
  · rw [upd_ne (Ne.symm a1), upd_ne a3, upd_ne (Ne.symm a1)]
    exact upd_same
  · rw [upd_ne (Ne.symm a2)]
    exact upd_same
/-- notches, each hole's first act kept -/
def ndby (by_ : List (Nat × Nat)) (hs : List Nat) (t : Nat) : List (Nat × Nat) := hs.foldl (fun l h => if (l.map (·.1)).contains h = true then l else l ++ [(h, t)]) by_
def sp_notch_all (K : PySem.W.Frag) : Sp := fun vs H Q _ => ∃ (c dx q : Addr) (pn wi ni : Addr) (by_ : List (Nat × Nat)) (hs : List Nat) (t : Nat), vs = [.ref c, .ref q, .int (t : Nat)] ∧ H c = some (.ins (He.ga K "Card") dx (cardF pn wi ni)) ∧ H ni = some (.dK (nk by_)) ∧ LstN H q hs ∧
  by_.length ≤ 100 ∧ hs.length ≤ 100 ∧ ∀ H', But [ni] H H' → H' ni = some (.dK (nk (ndby by_ hs t))) → Q .non H'
theorem len_notch_all (K : PySem.W.Frag) : ∀ vs H Q E, sp_notch_all K vs H Q E → vs.length = 3 := fun _ _ _ _ ⟨_, _, _, _, _, _, _, _, _, h, _⟩ => by rw [h]; rfl
theorem ndby_len (by_ : List (Nat × Nat)) (hs : List Nat) (t : Nat) : (ndby by_ hs t).length ≤ by_.length + hs.length := by
  unfold ndby
  induction hs generalizing by_ with
  | nil => exact Nat.le_refl _
  | cons h hs ih =>
    rw [List.foldl_cons]
    refine Nat.le_trans (ih _) ?_
    split
    · simp
    · simp
      omega
theorem nk_dkv (l : List (Nat × Nat)) : nk l = dkv (l.map fun p => (p.1, V.int (p.2 : Nat))) := by
  unfold nk
  rw [dkv, List.map_map]
  rfl
theorem nk_val (l : List (Nat × Nat)) (h : Nat) : (valV (nk l) (Sum.inl (h : Int))).isSome = (l.map (·.1)).contains h := by
  rw [nk_dkv, valV_dkv]
  induction l with
  | nil => rfl
  | cons x l ih =>
    rw [List.map_cons, List.map_cons, List.find?_cons, List.contains_cons]
    by_cases g : x.1 = h
    · have e1 : (x.1 == h) = true := beq_iff_eq.mpr g
      have e2 : (h == x.1) = true := beq_iff_eq.mpr g.symm
      simp only [e1, e2]
      rfl
    · have e1 : (x.1 == h) = false := beq_eq_false_iff_ne.mpr g
      have e2 : (h == x.1) = false := beq_eq_false_iff_ne.mpr fun z => g z.symm
      simp only [e1, e2, Bool.false_or]
      exact ih
theorem nk_put {l : List (Nat × Nat)} {h t : Nat} (e : valV (nk l) (Sum.inl (h : Int)) = none) : putK (nk l) (Sum.inl (h : Int)) (V.int (t : Nat)) = nk (l ++ [(h, t)]) := by
  rw [putK_new _ e]
  unfold nk
  rw [List.map_append]
  rfl
theorem sc_notch_all : FnScope (["card", "holes", "act_number", "hole"] : List Str) ["card", "holes", "act_number"] (defScope s_notch_all) := C8.fnScope_by (by decide +kernel)
theorem c_notch_all (E : Env P w K mg base) : Cal P w K mg base CX0 1 "notch_all" (sp_notch_all K) := by
  have sc := sc_notch_all
  refine mkCal (st := s_notch_all) (E.top.d.def_ 13 (d := d_notch_all) rfl) (E.glo 13) sc (fun _ _ _ _ _ _ us hl => match us, hl with | [_, _, _], _ => rfl) (len_notch_all K) (fun cdv A outer s H vs Q X hr h => ⟨_, PSs.nox ((pss_one (ps_for PassesOwn.never rfl (pi_list (pv 1)) (pg_name (i := 3) sc.nd rfl (Or.inl rfl))
    (pss_one (ps_expr (pe_dsetd (peF (K := K) (pv 0) rfl) (pv 3) (pv 2) ⟨rfl, rfl, rfl, rfl⟩)))))), ?_⟩)
  obtain ⟨c, dx, q, pn, wi, ni, by_, hs, t, rfl, h1, h2, h3, hb, hh, k⟩ := h
  have hqn : q ≠ ni := ne_obj h3 h2 fun z => by cases z
  refine ⟨_, rfl, q, rfl, ⟨_, SqL.of h3⟩, ?_⟩
  refine for_it (walk_nums (l := hs)) (fun i σ H' => ∃ x, σ = [some (.ref c), some (.ref q), some (.int (t : Nat)), x] ∧ But [ni] H H' ∧ H' ni = some (.dK (nk (ndby by_ (hs.take i) t)))) ⟨_, rfl, But.refl _ _, h2⟩ (fun i σ H' hi ⟨_, _, e, _⟩ => SqL.of (e _ _ (by simpa using hqn) h3)) (fun i x σ H2 H3 hi ⟨x1, e, s2, ed⟩ y => ?_) fun σ H2 ⟨x1, e, s2, ed⟩ => ?_
  · subst e
    obtain ⟨rfl, h, rfl, hx⟩ := y
    have e1 : ndby by_ (hs.take (i + 1)) t = (if ((ndby by_ (hs.take i) t).map (·.1)).contains h = true then ndby by_ (hs.take i) t else ndby by_ (hs.take i) t ++ [(h, t)]) := by
      unfold ndby
      rw [List.take_succ, hx, List.foldl_append]
      rfl
    have hl : (ndby by_ (hs.take i) t).length ≤ 200 := by
      have := ndby_len by_ (hs.take i) t
      have := List.length_take_le i hs
      have : (hs.take i).length ≤ hs.length := by simp; omega
      omega
    refine ⟨_, rfl, c, _, dx, _, _, rfl, s2 _ _ (by simpa using ne_obj h1 h2 fun z => by cases z) h1, k_Card E, n_Card_notches E, rfl, ni, rfl, Or.inl ⟨_, Or.inl ed⟩, _, rfl, _, rfl, _, Sum.inl (h : Int), ed, rfl, sz_lt (by unfold nk; rw [List.length_map]; omega), fun v hv => ⟨_, rfl, s2, ?_⟩, fun hv => ⟨_, rfl, But.upd s2 (List.mem_singleton.mpr rfl), ?_⟩⟩
    · rw [e1, if_pos]
      · exact ed
      · rw [← nk_val, hv]
        rfl
    · rw [e1, if_neg]
      · rw [nk_put hv]
        exact upd_same
      · rw [← nk_val, hv]
        simp
  · subst e
    rw [List.take_length] at ed
    exact k _ s2 ed
end
end Bw
namespace Bw
open PySem PySem.Spec PyProof.Rows L2
open Vbenah (File State Card Act)
section
variable {P : Program} {w : World} {K : PySem.W.Frag} {mg : Str → Option Value} {base : Heap}
/-- a word put on a card -/
def pw (f : File) (p : List (Nat × Nat)) (t : Nat) (c : Card) (w : Nat) : Card := Vbenah.cut f t { c with words := c.words ++ [w] } (Vbenah.posted f p w)
theorem ndby_eq (t : Nat) : ∀ (hs : List Nat) (by_ : List (Nat × Nat)), hs.Nodup → ndby by_ hs t = by_ ++ (hs.filter fun h => !(by_.map (·.1)).contains h).map fun h => (h, t)
  | [], by_, _ => by simp [ndby]
  | h :: hs, by_, hd => by
    obtain ⟨h1, h2⟩ := List.nodup_cons.mp hd
    have e : ndby by_ (h :: hs) t = ndby (if (by_.map (·.1)).contains h = true then by_ else by_ ++ [(h, t)]) hs t := rfl
    rw [e]
    by_cases g : (by_.map (·.1)).contains h = true
    · rw [if_pos g, ndby_eq t hs by_ h2, List.filter_cons, if_neg (by rw [g]; decide)]
    · rw [if_neg g, ndby_eq t hs _ h2, List.filter_cons, if_pos (by rw [Bool.eq_false_iff.mpr g]; rfl), List.map_cons, List.append_assoc]
      congr 1
      show (h, t) :: _ = _
      congr 1
      show List.map _ _ = _
      congr 1
      refine List.filter_congr fun x hx => ?_
      have n : ¬ x = h := fun z => h1 (z ▸ hx)
      rw [List.map_append, contains_dec, contains_dec]
      simp [n]
theorem cut_by {f : File} {t : Nat} {c : Card} (h : CWF f c) (m : Nat) : (Vbenah.cut f t c m).by_ = ndby c.by_ (Vbenah.holesOf f.holes m) t := by
  rw [ndby_eq _ _ _ (asc_nodup (asc_holes _ _))]
  show c.by_ ++ _ = _
  congr 2
  refine List.filter_congr fun x hx => ?_
  have hl := (mem_holes.mp hx).1
  rw [contains_dec]
  have := h.ks x
  by_cases g : Vbenah.bit c.notches x = true
  · rw [g, decide_eq_true (this.mpr ⟨hl, g⟩)]
  · rw [decide_eq_false fun z => g (this.mp z).2]
    simp [g]
theorem ndby_keys (t : Nat) : ∀ (hs : List Nat) (by_ : List (Nat × Nat)), (by_.map (·.1)).Nodup → ((ndby by_ hs t).map (·.1)).Nodup ∧ ∀ x, x ∈ (ndby by_ hs t).map (·.1) ↔ x ∈ by_.map (·.1) ∨ x ∈ hs
  | [], by_, hd => ⟨hd, fun x => by simp [ndby]⟩
  | h :: hs, by_, hd => by
    have e : ndby by_ (h :: hs) t = ndby (if (by_.map (·.1)).contains h = true then by_ else by_ ++ [(h, t)]) hs t := rfl
    rw [e]
    by_cases g : (by_.map (·.1)).contains h = true
    · rw [if_pos g]
      obtain ⟨i1, i2⟩ := ndby_keys t hs by_ hd
      refine ⟨i1, fun x => ?_⟩
      rw [i2, List.mem_cons]
      rw [List.contains_iff_mem] at g
      constructor
      · rintro (q | q)
        · exact Or.inl q
        · exact Or.inr (Or.inr q)
      · rintro (q | q | q)
        · exact Or.inl q
        · exact Or.inl (q ▸ g)
        · exact Or.inr q
    · rw [if_neg g]
      have hd2 : ((by_ ++ [(h, t)]).map (·.1)).Nodup := by
        rw [List.map_append]
        exact nd_snoc hd fun m => g (List.contains_iff_mem.mpr m)
      obtain ⟨i1, i2⟩ := ndby_keys t hs _ hd2
      refine ⟨i1, fun x => ?_⟩
      rw [i2, List.mem_cons, List.map_append, List.mem_append]
      simp [or_assoc]
theorem cut_wf {f : File} {t : Nat} {c : Card} (h : CWF f c) (m : Nat) : CWF f (Vbenah.cut f t c m) := by
  obtain ⟨i1, i2⟩ := ndby_keys t (Vbenah.holesOf f.holes m) c.by_ h.nd
  refine ⟨by rw [cut_by h]; exact i1, fun x => ?_, both_lt _ _ _⟩
  rw [cut_by h, i2, h.ks, mem_holes]
  show _ ↔ x < f.holes ∧ Vbenah.bit (Vbenah.both f.holes c.notches m) x = true
  rw [bit_both]
  by_cases g : x < f.holes
  · simp [g]
  · simp [g]
theorem cwf_words {f : File} {c : Card} (h : CWF f c) (ws : List Nat) : CWF f { c with words := ws } := ⟨h.nd, h.ks, h.lt⟩
theorem cwf_len {f : File} {c : Card} (h : CWF f c) (hf : f.holes ≤ 16) : c.by_.length ≤ 16 := by
  have := nodup_len h.nd fun x hx => ((h.ks x).mp hx).1
  rw [List.length_map] at this
  omega
theorem WS.card {f : File} {s : State} {b i : Nat} {x x' : Card} (h : WS f s b) (hx : s.cards[i]? = some x) (h1 : x'.words.length ≤ b + 12) (h2 : ∀ w ∈ x'.words, w < f.words.length) (h3 : CWF f x') : WS f { s with cards := s.cards.set i x' } b :=
  ⟨h.hn, h.ho, h.pl, by rw [List.length_set]; exact h.cl, h.pp, fun c hc => by
    rcases List.mem_or_eq_of_mem_set hc with m | m
    · exact h.cw c m
    · rw [m]
      exact ⟨h1, h2, h3⟩, h.hb⟩
theorem set_get {α : Type} {l : List α} {i : Nat} {x x' : α} (h : l[i]? = some x) : (l.set i x')[i]? = some x' := by
  have hl : i < l.length := by
    rcases Nat.lt_or_ge i l.length with g | g
    · exact g
    · rw [List.getElem?_eq_none g] at h
      cases h
  rw [List.getElem?_set_self hl]
theorem set_id {α : Type} {l : List α} {i : Nat} {x : α} (h : l[i]? = some x) : l.set i x = l := by
  apply List.ext_getElem?
  intro j
  by_cases e : i = j
  · subst e
    rw [set_get h, h]
  · rw [List.getElem?_set_ne e]
theorem pw_words (f : File) (p : List (Nat × Nat)) (t : Nat) : ∀ (ws : List Nat) (c : Card), (ws.foldl (pw f p t) c).words = c.words ++ ws ∧ (ws.foldl (pw f p t) c).name = c.name ∧ (CWF f c → CWF f (ws.foldl (pw f p t) c))
  | [], c => ⟨by simp, rfl, id⟩
  | w :: ws, c => by
    obtain ⟨h1, h2, h3⟩ := pw_words f p t ws (pw f p t c w)
    refine ⟨?_, h2, fun h => h3 (cut_wf (cwf_words h _) _)⟩
    rw [List.foldl_cons, h1]
    show (c.words ++ [w]) ++ ws = _
    simp
def sp_put_words (K : PySem.W.Frag) : Sp := fun vs H Q _ => ∃ (a ma q : Addr) (B : Hp) (f : File) (s : State) (y : SC) (b i t : Nat) (z : CC) (x : Card) (ws : List Nat), vs = [.ref a, .ref z.c, .ref q, .int (t : Nat)] ∧
  SOx K B H a ma s y ∧ MarksAt B ma (mks f) ∧ WS f s b ∧ y.zs[i]? = some z ∧ s.cards[i]? = some x ∧ LstN B q ws ∧ (∀ w ∈ ws, w < f.words.length) ∧ x.words.length + ws.length ≤ b + 12 ∧
  ∀ H', SOx K B H' a ma { s with cards := s.cards.set i (ws.foldl (pw f s.pairs t) x) } y → Q .non H'
theorem len_put_words (K : PySem.W.Frag) : ∀ vs H Q E, sp_put_words K vs H Q E → vs.length = 4 := fun _ _ _ _ ⟨_, _, _, _, _, _, _, _, _, _, _, _, _, h, _⟩ => by rw [h]; rfl
theorem sc_put_words : FnScope (["state", "card", "words", "act_number", "word"] : List Str) ["state", "card", "words", "act_number"] (defScope s_put_words) := C8.fnScope_by (by decide +kernel)
theorem c_put_words (E : Env P w K mg base) : Cal P w K mg base CX0 4 "put_words" (sp_put_words K) := by
  have sc := sc_put_words
  refine mkCal (st := s_put_words) (E.top.d.def_ 14 (d := d_put_words) rfl) (E.glo 14) sc (fun _ _ _ _ _ _ us hl => match us, hl with | [_, _, _, _], _ => rfl) (len_put_words K) (fun cdv A outer s H vs Q X hr h => ⟨_, PSs.nox ((pss_one (ps_for PassesOwn.never rfl (pi_list (pv 2)) (pg_name (i := 4) sc.nd rfl (Or.inl rfl))
    (pss_cons (ps_expr (pe_bm PySem.F.plainAttrs_list PySem.F.slot_list_append PySem.F.type_list_append mt_append (peF (K := K) (pv 1) rfl) (pa_cons (pv 4) pa_nil)))
    (pss_one (ps_expr (pe_c (c_notch_all E) hr (by decide) rfl pass0 (pa_cons (pv 1) (pa_cons (pe_c (c_posted E) hr (by decide) rfl pass0 (pa_cons (pv 0) (pa_cons (pv 4) pa_nil))) (pa_cons (pv 3) pa_nil)))))))))), ?_⟩)
  obtain ⟨a, ma, q, B, f, t, y, b, i, u, z, x, ws, rfl, hS, hM, hW, hz, hx, hq, hw, hl, k⟩ := h
  have hb := hW.hb
  refine ⟨_, rfl, q, rfl, ⟨_, SqL.of (hS.sm _ _ hq)⟩, ?_⟩
  refine for_it (walk_nums (l := ws)) (fun j σ H' => ∃ v, σ = [some (.ref a), some (.ref z.c), some (.ref q), some (.int (u : Nat)), v] ∧ SOx K B H' a ma { t with cards := t.cards.set i ((ws.take j).foldl (pw f t.pairs u) x) } y) ⟨_, rfl, ?_⟩ (fun j σ H' hj ⟨_, _, e⟩ => SqL.of (e.sm _ _ hq)) (fun j v σ H2 H3 hj ⟨v1, e, s2⟩ yy => ?_) fun σ H2 ⟨v1, e, s2⟩ => ?_
  · rw [show ((ws.take 0).foldl (pw f t.pairs u) x) = x from rfl, set_id hx]
    exact hS
  · subst e
    obtain ⟨rfl, w, rfl, hj2⟩ := yy
    obtain ⟨xw, xn, xc⟩ := pw_words f t.pairs u (ws.take j) x
    have hcx := (hW.cw x (mem_of_get hx)).2.2
    have hwx := (hW.cw x (mem_of_get hx)).2.1
    have hcj := xc hcx
    have e1 : (ws.take (j + 1)).foldl (pw f t.pairs u) x = pw f t.pairs u ((ws.take j).foldl (pw f t.pairs u) x) w := by
      rw [List.take_succ, hj2, List.foldl_append]
      rfl
    have hlj : (ws.take j).length + 1 ≤ ws.length := by
      have : j < ws.length := hj
      simp
      omega
    have hwj : ∀ v ∈ ((ws.take j).foldl (pw f t.pairs u) x).words, v < f.words.length := fun v hv => by
      rw [xw] at hv
      rcases List.mem_append.mp hv with m | m
      · exact hwx v m
      · exact hw v (List.mem_of_mem_take m)
    generalize (ws.take j).foldl (pw f t.pairs u) x = xj at *
    obtain ⟨z', hz', c1, c2, c3, c4⟩ := paired_get s2.pc (set_get (x' := xj) hx)
    rw [hz] at hz'
    cases hz'
    have hwn : w < f.words.length := hw w (mem_of_get hj2)
    have nw : z.wi ≠ z.ni := ne_obj c3 c4 fun z => by cases z
    have wlen : xj.words.length + 1 ≤ b + 12 := by
      rw [xw, List.length_append]
      omega
    -- the word
    have o3 : SOx K B (upd H3 z.wi (.lst (nV (xj.words ++ [w])))) a ma { t with cards := t.cards.set i { xj with words := xj.words ++ [w] } } y := by
      have h := SOx.card (i := i) (z := z) (x := xj) (x' := { xj with words := xj.words ++ [w] }) (H' := upd H3 z.wi (.lst (nV (xj.words ++ [w])))) s2 hz (set_get hx) (But.upd (But.refl _ _) List.mem_cons_self) upd_same (by rw [upd_ne (Ne.symm nw)]; exact c4) rfl
      rw [List.set_set] at h
      exact h
    have W3 : WS f { t with cards := t.cards.set i { xj with words := xj.words ++ [w] } } b := hW.card hx (by show (xj.words ++ [w]).length ≤ _; rw [List.length_append]; exact wlen) (fun v hv => by
      rcases List.mem_append.mp hv with m | m
      · exact hwj v m
      · rw [List.mem_singleton.mp m]; exact hwn) (cwf_words hcj _)
    refine ⟨_, rfl, z.c, _, z.dx, _, _, rfl, c1, k_Card E, n_Card_words E, rfl, ty_lst c3, _, rfl, z.wi, _, _, rfl, rfl, c3, by rw [nV_len]; exact sz_lt (by omega), ?_⟩
    rw [← nV_snoc]
    refine ⟨_, rfl, _, rfl, _, rfl, a, f, _, b, w, rfl, o3.view hM, W3, hwn, fun H4 r s4 e4 => ⟨_, rfl, z.c, z.dx, r, z.pn, z.wi, z.ni, xj.by_, _, u, rfl, ?_, ?_, e4, ?_, ?_, fun H5 b5 e5 => ⟨_, rfl, ?_⟩⟩⟩
    · refine s4 _ _ ?_
      rw [upd_ne (ne_obj c1 c3 fun z => by cases z)]
      exact c1
    · refine s4 _ _ ?_
      rw [upd_ne (Ne.symm nw)]
      exact c4
    · have := cwf_len hcj hW.ho
      omega
    · refine Nat.le_trans (holes_len _ _) ?_
      have := hW.ho
      omega
    · rw [e1]
      have h := SOx.card (i := i) (z := z) (x := { xj with words := xj.words ++ [w] }) (x' := pw f t.pairs u xj w) (H' := H5) (o3.same s4) hz (set_get hx) (But.mono b5 fun b hb => List.mem_cons_of_mem _ hb) (b5 _ _ (by simpa using nw) (s4 _ _ upd_same)) ?_ rfl
      · rw [List.set_set] at h
        exact h
      · rw [e5]
        show _ = some (HO.dK (nk (Vbenah.cut f u { xj with words := xj.words ++ [w] } (Vbenah.posted f t.pairs w)).by_))
        rw [cut_by (cwf_words hcj _)]
  · subst e
    rw [List.take_length] at s2
    exact k _ s2
/-- the card of a name made another one -/
def nset (s : State) (n : List Nat) (g : Card → Card) : State := match s.cards.findIdx? fun c => c.name == n with
  | some i => match s.cards[i]? with
    | some c => { s with cards := s.cards.set i (g c) }
    | none => s
  | none => s
theorem cardOf_idx {cs : List Card} {n : List Nat} {c : Card} (h : cardOf cs n = some c) : ∃ i, (cs.findIdx? fun c => c.name == n) = some i ∧ cs[i]? = some c ∧ cix cs n = (i : Nat) := by
  unfold cardOf at h
  obtain ⟨h1, i, hi, e1, e2⟩ := List.find?_eq_some_iff_getElem.mp h
  have e : cs.findIdx? (fun c => c.name == n) = some i := by
    rw [List.findIdx?_eq_some_iff_getElem]
    exact ⟨hi, by rw [e1]; exact h1, fun j hj => by simpa using e2 j hj⟩
  refine ⟨i, e, by rw [List.getElem?_eq_getElem hi, e1], ?_⟩
  unfold cix
  rw [e]
theorem nset_eq {s : State} {n : List Nat} {g : Card → Card} {i : Nat} {c : Card} (h : (s.cards.findIdx? fun c => c.name == n) = some i) (hc : s.cards[i]? = some c) : nset s n g = { s with cards := s.cards.set i (g c) } := by
  unfold nset
  rw [h]
  show (match s.cards[i]? with | some c => _ | none => s) = _
  rw [hc]
def ndone (f : File) (t : Nat) (s : State) : NAct → State
  | .under a b => { s with pairs := s.pairs ++ [(a, b)] }
  | .apart a b => { s with pairs := s.pairs.filter fun x => x != (a, b) }
  | .card n ws => { s with cards := s.cards ++ [ws.foldl (pw f s.pairs t) { name := n, words := [], notches := 0, by_ := [] }] }
  | .add n w => nset s n fun c => pw f s.pairs t c w
  | .grow n => nset s n fun c => c.words.foldl (fun y w => Vbenah.cut f t y (Vbenah.posted f s.pairs w)) c
  | .notch n h => nset s n fun c => Vbenah.cut f t c (2 ^ h)
def nwf (f : File) : NAct → Prop
  | .under a b => a < f.words.length ∧ b < f.words.length
  | .apart _ _ => True
  | .card _ ws => ws.length ≤ 12 ∧ ∀ w ∈ ws, w < f.words.length
  | .add _ w => w < f.words.length
  | .grow _ => True
  | .notch _ h => h < f.holes
def isCA : NAct → Bool
  | .under _ _ => false
  | .apart _ _ => false
  | _ => true
theorem cix_last {cs : List Card} {n : List Nat} {c : Card} (h : cardOf cs n = none) (hc : c.name = n) : cix (cs ++ [c]) n = (cs.length : Nat) := by
  have e : cardOf (cs ++ [c]) n = some c := by
    unfold cardOf at *
    rw [List.find?_append, h]
    simp [hc]
  obtain ⟨i, e1, e2, e3⟩ := cardOf_idx e
  rw [e3]
  have hi : ¬ i < cs.length := fun hl => by
    rw [List.getElem?_append_left hl] at e2
    have := List.find?_eq_none.mp h c (mem_of_get e2)
    simp [hc] at this
  have : i < (cs ++ [c]).length := by
    rcases Nat.lt_or_ge i (cs ++ [c]).length with g | g
    · exact g
    · rw [List.getElem?_eq_none g] at e2
      cases e2
  rw [List.length_append] at this
  simp at this
  have : i = cs.length := by omega
  rw [this]
theorem cwf_new (f : File) (n : List Nat) (ws : List Nat) : CWF f { name := n, words := ws, notches := 0, by_ := [] } :=
  ⟨List.nodup_nil, fun h => ⟨fun m => (nomatch m), fun m => by rw [bit_zero] at m; cases m.2⟩, Nat.pow_pos (by decide)⟩
theorem holes_one {k h : Nat} (hk : h < k) : Vbenah.holesOf k (2 ^ h) = [h] :=
  asc_eq (asc_holes _ _) (List.pairwise_singleton _ _) fun x => by
    rw [mem_holes, bit_pow, decide_eq_true_iff, List.mem_singleton]
    constructor
    · exact fun q => q.2.symm
    · rintro rfl
      exact ⟨hk, rfl⟩
theorem WS.more {f : File} {s : State} {b : Nat} {c : Card} (h : WS f s b) (hb : b < 500) (h1 : c.words.length ≤ b + 13) (h2 : ∀ w ∈ c.words, w < f.words.length) (h3 : CWF f c) : WS f { s with cards := s.cards ++ [c] } (b + 1) :=
  ⟨h.hn, h.ho, Nat.le_succ_of_le h.pl, by rw [List.length_append]; exact Nat.succ_le_succ h.cl, h.pp, fun x hx => by
    rcases List.mem_append.mp hx with m | m
    · obtain ⟨q1, q2, q3⟩ := h.cw x m
      exact ⟨by omega, q2, q3⟩
    · rw [List.mem_singleton.mp m]
      exact ⟨by omega, h2, h3⟩, hb⟩
theorem WS.up {f : File} {s : State} {b : Nat} (h : WS f s b) (hb : b < 500) : WS f s (b + 1) :=
  ⟨h.hn, h.ho, Nat.le_succ_of_le h.pl, Nat.le_succ_of_le h.cl, h.pp, fun x hx => by
    obtain ⟨q1, q2, q3⟩ := h.cw x hx
    exact ⟨by omega, q2, q3⟩, hb⟩
def sp_do_card (K : PySem.W.Frag) : Sp := fun vs H Q _ => ∃ (a ma q : Addr) (B : Hp) (f : File) (s : State) (b t : Nat) (x : NAct), vs = [.ref a, .ref q, .int (t : Nat)] ∧ isCA x = true ∧
  SO K B H a ma s ∧ MarksAt B ma (mks f) ∧ WS f s b ∧ b < 500 ∧ NActAt B q x ∧ nwf f x ∧ nmay f.words.length s x = true ∧
  ∀ H', SO K B H' a ma (ndone f t s x) → Q .non H'
theorem len_do_card (K : PySem.W.Frag) : ∀ vs H Q E, sp_do_card K vs H Q E → vs.length = 3 := fun _ _ _ _ ⟨_, _, _, _, _, _, _, _, _, h, _⟩ => by rw [h]; rfl
theorem sc_do_card : FnScope (["state", "act", "act_number", "card", "word"] : List Str) ["state", "act", "act_number"] (defScope s_do_card) := C8.fnScope_by (by decide +kernel)
theorem c_do_card (E : Env P w K mg base) : Cal P w K mg base CX0 5 "do_card" (sp_do_card K) := by
  have sc := sc_do_card
  refine mkCal (st := s_do_card) (E.top.d.def_ 15 (d := d_do_card) rfl) (E.glo 15) sc (fun _ _ _ _ _ _ us hl => match us, hl with | [_, _, _], _ => rfl) (len_do_card K) (fun cdv A outer s H vs Q X hr h => ⟨_, PSs.nox ((pss_cons (ps_if (pt_cmpR op_eq (pe_ix (ixT (K := K)) (pv 1) pe_int (fun _ _ => rfl)) (C8.pe_gc rfl (g_CARD E)) (nomark _)) (pss_one (ps_expr (pe_bm PySem.F.plainAttrs_list PySem.F.slot_list_append PySem.F.type_list_append mt_append (peF (K := K) (pv 0) rfl) (pa_cons (pe_k (c_Card_init E) hr (by decide) rfl (pa_cons (pe_ix (ixT (K := K)) (pv 1) pe_int (fun _ _ => rfl)) pa_nil)) pa_nil)))) pss_nil)
    (pss_cons (ps_set (i := 3) sc.nd rfl (Or.inl rfl) (pe_ix (ixL (K := K)) (peF (K := K) (pv 0) rfl) (pe_c (c_card_number E) hr (by decide) rfl pass0 (pa_cons (pv 0) (pa_cons (pe_ix (ixT (K := K)) (pv 1) pe_int (fun _ _ => rfl)) pa_nil))) (fun _ _ => rfl)))
    (pss_one (ps_if (pt_cmpR op_eq (pe_ix (ixT (K := K)) (pv 1) pe_int (fun _ _ => rfl)) (C8.pe_gc rfl (g_CARD E)) (nomark _)) (pss_one (ps_expr (pe_c (c_put_words E) hr (by decide) rfl pass0 (pa_cons (pv 0) (pa_cons (pv 3) (pa_cons (pe_ix (ixT (K := K)) (pv 1) pe_int (fun _ _ => rfl)) (pa_cons (pv 2) pa_nil))))))) (pss_one (ps_if (pt_cmpR op_eq (pe_ix (ixT (K := K)) (pv 1) pe_int (fun _ _ => rfl)) (C8.pe_gc rfl (g_ADD E)) (nomark _)) (pss_one (ps_expr (pe_c (c_put_words E) hr (by decide) rfl pass0 (pa_cons (pv 0) (pa_cons (pv 3) (pa_cons (pe_lst (pa_cons (pe_ix (ixT (K := K)) (pv 1) pe_int (fun _ _ => rfl)) pa_nil)) (pa_cons (pv 2) pa_nil))))))) (pss_one (ps_if (pt_cmpR op_eq (pe_ix (ixT (K := K)) (pv 1) pe_int (fun _ _ => rfl)) (C8.pe_gc rfl (g_GROW E)) (nomark _)) (pss_one (ps_for PassesOwn.never rfl (pi_list (peF (K := K) (pv 3) rfl)) (pg_name (i := 4) sc.nd rfl (Or.inl rfl))
    (pss_one (ps_expr (pe_c (c_notch_all E) hr (by decide) rfl pass0 (pa_cons (pv 3) (pa_cons (pe_c (c_posted E) hr (by decide) rfl pass0 (pa_cons (pv 0) (pa_cons (pv 4) pa_nil))) (pa_cons (pv 2) pa_nil)))))))) (pss_one (ps_expr (pe_c (c_notch_all E) hr (by decide) rfl pass0 (pa_cons (pv 3) (pa_cons (pe_lst (pa_cons (pe_ix (ixT (K := K)) (pv 1) pe_int (fun _ _ => rfl)) pa_nil)) (pa_cons (pv 2) pa_nil))))))))))))))), ?_⟩)
  obtain ⟨a, ma, q, B, f, t, b, u, x, rfl, hca, ⟨y, hS⟩, hM, hW, hb, hA, hwf, hmay, k⟩ := h
  have hAB := hA
  cases x with
  | under i j => cases hca
  | apart i j => cases hca
  | card n ws =>
    obtain ⟨pn, pw_, g1, g2, g3⟩ := hA
    have G1 := hS.sm _ _ g1
    refine ⟨_, rfl, q, _, 0, .int 2, rfl, rfl, SqT.of G1, rfl, rfl, _, rfl, if_t rfl ⟨_, rfl, a, _, y.dx, _, _, rfl, hS.ha, k_State E, n_State_cards E, rfl, ty_lst hS.hc, _, rfl, q, _, 1, .ref pn, rfl, rfl, SqT.of G1, rfl, fun c dx nc nd ne => ⟨c, dx, .ref pn, rfl, upd_same, fun H' wi ni b1 e1 e2 e3 n1 n2 => ⟨rfl, ?_⟩⟩⟩⟩
    have s1 : Same H H' := fun b o e => by
      have hbc : b ≠ c := ne_of_none e nc
      refine b1 _ _ (by simpa using hbc) ?_
      rw [upd_ne hbc, upd_ne (ne_of_none e nd)]
      exact e
    have sf : Same H (upd (upd H dx (.own c)) c (.ins (He.ga K "Card") dx [])) := fun b o e => by
      rw [upd_ne (ne_of_none e nc), upd_ne (ne_of_none e nd)]
      exact e
    have hno : cardOf t.cards n = none := by simpa [nmay] using hmay
    have cz : CardO K H' ⟨c, dx, pn, wi, ni⟩ { name := n, words := [], notches := 0, by_ := [] } := ⟨e1, s1 _ _ (hS.sm _ _ g2), e2, e3⟩
    have S2 := hS.more s1 cz (sf.free n1) (sf.free n2)
    have W2 : WS f { t with cards := t.cards ++ [{ name := n, words := [], notches := 0, by_ := [] }] } (b + 1) := hW.more hb (Nat.zero_le _) (fun _ m => nomatch m) (cwf_new f n [])
    have hcl := hW.cl
    have hlz := paired_len hS.pc
    refine ⟨y.ca, _, .ref c, rfl, rfl, s1 _ _ hS.hc, by rw [List.length_map, List.length_map, hlz]; exact sz_lt (by omega), ?_⟩
    have G2 := S2.sm _ _ g1
    refine ⟨_, rfl, a, _, y.dx, _, _, rfl, S2.ha, k_State E, n_State_cards E, rfl, _, rfl, _, rfl, q, _, 1, .ref pn, rfl, rfl, SqT.of G2, rfl, a, pn, f, _, b + 1, n, rfl, S2.view hM, W2, S2.sm _ _ g2, fun H3 s3 => ?_⟩
    rw [cix_last hno rfl]
    have zl : (y.zs ++ [⟨c, dx, pn, wi, ni⟩])[t.cards.length]? = some ⟨c, dx, pn, wi, ni⟩ := by rw [← hlz]; simp
    have S3 := S2.same s3
    have G3 := S3.sm _ _ g1
    refine ⟨y.ca, _, (t.cards.length : Nat), .ref c, rfl, rfl, SqL.of S3.hc, atI_nat (get_ref (by rw [List.getElem?_map, zl]; rfl)), ?_⟩
    refine ⟨_, rfl, q, _, 0, .int 2, rfl, rfl, SqT.of G3, rfl, rfl, _, rfl, if_t rfl ⟨_, rfl, _, rfl, _, rfl, q, _, 2, .ref pw_, rfl, rfl, SqT.of G3, rfl, _, rfl, a, ma, pw_, B, f, _, _, b + 1, t.cards.length, u, ⟨c, dx, pn, wi, ni⟩, { name := n, words := [], notches := 0, by_ := [] }, ws, rfl, S3, hM, W2, zl, ?_, g3, hwf.2, ?_, fun H4 S4 => ?_⟩⟩
    · simp
    · have := hwf.1
      show 0 + ws.length ≤ _
      omega
    · refine k H4 ⟨({ y with zs := y.zs ++ [⟨c, dx, pn, wi, ni⟩] } : SC), ?_⟩
      have e : (t.cards ++ [({ name := n, words := [], notches := 0, by_ := [] } : Card)]).set t.cards.length (ws.foldl (pw f t.pairs u) { name := n, words := [], notches := 0, by_ := [] }) = t.cards ++ [ws.foldl (pw f t.pairs u) { name := n, words := [], notches := 0, by_ := [] }] := by
        rw [List.set_append_right _ _ (Nat.le_refl _), Nat.sub_self]
        rfl
      rw [e] at S4
      exact S4
  | add n w =>
    obtain ⟨pn, g1, g2⟩ := hA
    have G1 := hS.sm _ _ g1
    have hsome : ∃ cd, cardOf t.cards n = some cd := by
      cases e : cardOf t.cards n with
      | none => simp [nmay, e] at hmay
      | some cd => exact ⟨cd, rfl⟩
    obtain ⟨cd, hcd⟩ := hsome
    obtain ⟨i, i1, i2, i3⟩ := cardOf_idx hcd
    obtain ⟨z, hz, cz⟩ := paired_get hS.pc i2
    refine ⟨_, rfl, q, _, 0, .int 3, rfl, rfl, SqT.of G1, rfl, rfl, _, rfl, if_f rfl ?_⟩
    refine ⟨_, rfl, a, _, y.dx, _, _, rfl, hS.ha, k_State E, n_State_cards E, rfl, _, rfl, _, rfl, q, _, 1, .ref pn, rfl, rfl, SqT.of G1, rfl, a, pn, f, t, b, n, rfl, hS.view hM, hW, hS.sm _ _ g2, fun H3 s3 => ?_⟩
    rw [i3]
    have S3 := hS.same s3
    have G3 := S3.sm _ _ g1
    refine ⟨y.ca, _, (i : Nat), .ref z.c, rfl, rfl, SqL.of S3.hc, atI_nat (get_ref (by rw [List.getElem?_map, hz]; rfl)), ?_⟩
    refine ⟨_, rfl, q, _, 0, .int 3, rfl, rfl, SqT.of G3, rfl, rfl, _, rfl, if_f rfl ⟨_, rfl, q, _, 0, .int 3, rfl, rfl, SqT.of G3, rfl, rfl, _, rfl, if_t rfl ⟨_, rfl, _, rfl, _, rfl, q, _, 2, .int (w : Nat), rfl, rfl, SqT.of G3, rfl, (show 1 ≤ sizeLine by decide), fun r nr => ⟨_, rfl, a, ma, r, upd B r (.lst [.int (w : Nat)]), f, t, y, b + 1, i, u, z, cd, [w], rfl, S3.bnew nr, hM.same (Same.new (S3.sm.free nr)), hW.up hb, hz, i2, upd_same, ?_, ?_, fun H4 S4 => ?_⟩⟩⟩⟩
    · intro v hv
      rw [List.mem_singleton.mp hv]
      exact hwf
    · have := (hW.cw cd (mem_of_get i2)).1
      show cd.words.length + 1 ≤ _
      omega
    · refine k H4 ⟨y, ?_⟩
      show SOx K B H4 a ma (nset t n fun c => pw f t.pairs u c w) y
      rw [nset_eq i1 i2]
      exact S4.weak (Same.new (S3.sm.free nr))
  | grow n =>
    obtain ⟨pn, g1, g2⟩ := hA
    have G1 := hS.sm _ _ g1
    have hsome : ∃ cd, cardOf t.cards n = some cd := by
      cases e : cardOf t.cards n with
      | none => simp [nmay, e] at hmay
      | some cd => exact ⟨cd, rfl⟩
    obtain ⟨cd, hcd⟩ := hsome
    obtain ⟨i, i1, i2, i3⟩ := cardOf_idx hcd
    obtain ⟨z, hz, cz⟩ := paired_get hS.pc i2
    refine ⟨_, rfl, q, _, 0, .int 4, rfl, rfl, SqT.of G1, rfl, rfl, _, rfl, if_f rfl ?_⟩
    refine ⟨_, rfl, a, _, y.dx, _, _, rfl, hS.ha, k_State E, n_State_cards E, rfl, _, rfl, _, rfl, q, _, 1, .ref pn, rfl, rfl, SqT.of G1, rfl, a, pn, f, t, b, n, rfl, hS.view hM, hW, hS.sm _ _ g2, fun H3 s3 => ?_⟩
    rw [i3]
    have S3 := hS.same s3
    have G3 := S3.sm _ _ g1
    have cz3 := cz.same s3
    refine ⟨y.ca, _, (i : Nat), .ref z.c, rfl, rfl, SqL.of S3.hc, atI_nat (get_ref (by rw [List.getElem?_map, hz]; rfl)), ?_⟩
    refine ⟨_, rfl, q, _, 0, .int 4, rfl, rfl, SqT.of G3, rfl, rfl, _, rfl, if_f rfl ⟨_, rfl, q, _, 0, .int 4, rfl, rfl, SqT.of G3, rfl, rfl, _, rfl, if_f rfl ⟨_, rfl, q, _, 0, .int 4, rfl, rfl, SqT.of G3, rfl, rfl, _, rfl, if_t rfl ⟨_, rfl, z.c, _, z.dx, _, _, rfl, cz3.h1, k_Card E, n_Card_words E, rfl, z.wi, rfl, ⟨_, SqL.of cz3.h3⟩, ?_⟩⟩⟩⟩
    have hcw := hW.cw cd (mem_of_get i2)
    let G : Nat → Card := fun j => (cd.words.take j).foldl (fun y w => Vbenah.cut f u y (Vbenah.posted f t.pairs w)) cd
    have Gw : ∀ j, (G j).words = cd.words ∧ (G j).name = cd.name ∧ CWF f (G j) := fun j => by
      have key : ∀ (l : List Nat) (c : Card), CWF f c → (l.foldl (fun y w => Vbenah.cut f u y (Vbenah.posted f t.pairs w)) c).words = c.words ∧ (l.foldl (fun y w => Vbenah.cut f u y (Vbenah.posted f t.pairs w)) c).name = c.name ∧ CWF f (l.foldl (fun y w => Vbenah.cut f u y (Vbenah.posted f t.pairs w)) c) := fun l => by
        induction l with
        | nil => exact fun c h => ⟨rfl, rfl, h⟩
        | cons w l ih =>
          intro c h
          exact ih _ (cut_wf h _)
      exact key _ _ hcw.2.2
    refine for_it (walk_nums (l := cd.words)) (fun j σ H' => ∃ v, σ = [some (.ref a), some (.ref q), some (.int (u : Nat)), some (.ref z.c), v] ∧ SOx K B H' a ma { t with cards := t.cards.set i (G j) } y) ⟨_, rfl, ?_⟩ (fun j σ H' hj ⟨_, _, e⟩ => ?_) (fun j v σ H4 H5 hj ⟨v1, e, S4⟩ yy => ?_) fun σ H4 ⟨v1, e, S4⟩ => ?_
    · show SOx K B H3 a ma { t with cards := t.cards.set i cd } y
      rw [set_id i2]
      exact S3
    · obtain ⟨z', hz', cz'⟩ := paired_get e.pc (set_get (x' := G j) i2)
      rw [hz] at hz'
      cases hz'
      have := cz'.h3
      rw [(Gw j).1] at this
      exact SqL.of this
    · subst e
      obtain ⟨rfl, w, rfl, hj2⟩ := yy
      obtain ⟨z', hz', cz'⟩ := paired_get S4.pc (set_get (x' := G j) i2)
      rw [hz] at hz'
      cases hz'
      obtain ⟨q1, q2, q3⟩ := Gw j
      have hwn : w < f.words.length := hcw.2.1 w (mem_of_get hj2)
      have W4 : WS f { t with cards := t.cards.set i (G j) } b := hW.card i2 (by rw [q1]; exact hcw.1) (by rw [q1]; exact hcw.2.1) q3
      refine ⟨_, rfl, _, rfl, _, rfl, a, f, _, b, w, rfl, S4.view hM, W4, hwn, fun H6 r s6 e6 => ⟨_, rfl, z.c, z.dx, r, z.pn, z.wi, z.ni, (G j).by_, _, u, rfl, s6 _ _ cz'.h1, s6 _ _ cz'.h4, e6, ?_, ?_, fun H7 b7 e7 => ⟨_, rfl, ?_⟩⟩⟩
      · have := cwf_len q3 hW.ho
        omega
      · refine Nat.le_trans (holes_len _ _) ?_
        have := hW.ho
        omega
      · have eG : G (j + 1) = Vbenah.cut f u (G j) (Vbenah.posted f t.pairs w) := by
          show (cd.words.take (j + 1)).foldl _ cd = _
          rw [List.take_succ, hj2, List.foldl_append]
          rfl
        have nw : z.wi ≠ z.ni := ne_obj cz'.h3 cz'.h4 fun z => by cases z
        have h := SOx.card (i := i) (z := z) (x := G j) (x' := G (j + 1)) (H' := H7) (S4.same s6) hz (set_get i2) (But.mono b7 fun b hb => List.mem_cons_of_mem _ hb) ?_ ?_ ?_
        · rw [List.set_set] at h
          exact h
        · rw [eG]
          exact b7 _ _ (by simpa using nw) (s6 _ _ cz'.h3)
        · rw [eG, e7]
          rw [cut_by q3]
        · rw [eG]
          rfl
    · subst e
      refine k _ ⟨y, ?_⟩
      show SOx K B H4 a ma (nset t n fun c => c.words.foldl (fun y w => Vbenah.cut f u y (Vbenah.posted f t.pairs w)) c) y
      rw [nset_eq i1 i2]
      have eG : G cd.words.length = cd.words.foldl (fun y w => Vbenah.cut f u y (Vbenah.posted f t.pairs w)) cd := by
        show (cd.words.take cd.words.length).foldl _ cd = _
        rw [List.take_length]
      rw [← eG]
      exact S4
  | notch n h =>
    obtain ⟨pn, g1, g2⟩ := hA
    have G1 := hS.sm _ _ g1
    have hsome : ∃ cd, cardOf t.cards n = some cd := by
      cases e : cardOf t.cards n with
      | none => simp [nmay, e] at hmay
      | some cd => exact ⟨cd, rfl⟩
    obtain ⟨cd, hcd⟩ := hsome
    obtain ⟨i, i1, i2, i3⟩ := cardOf_idx hcd
    obtain ⟨z, hz, cz⟩ := paired_get hS.pc i2
    refine ⟨_, rfl, q, _, 0, .int 5, rfl, rfl, SqT.of G1, rfl, rfl, _, rfl, if_f rfl ?_⟩
    refine ⟨_, rfl, a, _, y.dx, _, _, rfl, hS.ha, k_State E, n_State_cards E, rfl, _, rfl, _, rfl, q, _, 1, .ref pn, rfl, rfl, SqT.of G1, rfl, a, pn, f, t, b, n, rfl, hS.view hM, hW, hS.sm _ _ g2, fun H3 s3 => ?_⟩
    rw [i3]
    have S3 := hS.same s3
    have G3 := S3.sm _ _ g1
    have cz3 := cz.same s3
    have hcw := hW.cw cd (mem_of_get i2)
    refine ⟨y.ca, _, (i : Nat), .ref z.c, rfl, rfl, SqL.of S3.hc, atI_nat (get_ref (by rw [List.getElem?_map, hz]; rfl)), ?_⟩
    refine ⟨_, rfl, q, _, 0, .int 5, rfl, rfl, SqT.of G3, rfl, rfl, _, rfl, if_f rfl ⟨_, rfl, q, _, 0, .int 5, rfl, rfl, SqT.of G3, rfl, rfl, _, rfl, if_f rfl ⟨_, rfl, q, _, 0, .int 5, rfl, rfl, SqT.of G3, rfl, rfl, _, rfl, if_f rfl ⟨_, rfl, _, rfl, q, _, 2, .int (h : Nat), rfl, rfl, SqT.of G3, rfl, (show 1 ≤ sizeLine by decide), fun r nr => ⟨_, rfl, z.c, z.dx, r, z.pn, z.wi, z.ni, cd.by_, [h], u, rfl, Same.new nr _ _ cz3.h1, Same.new nr _ _ cz3.h4, upd_same, ?_, ?_, fun H7 b7 e7 => ?_⟩⟩⟩⟩⟩
    · have := cwf_len hcw.2.2 hW.ho
      omega
    · show 1 ≤ 100
      decide
    · refine k _ ⟨y, ?_⟩
      show SOx K B H7 a ma (nset t n fun c => Vbenah.cut f u c (2 ^ h)) y
      rw [nset_eq i1 i2]
      have nw : z.wi ≠ z.ni := ne_obj cz3.h3 cz3.h4 fun z => by cases z
      refine SOx.card (S3.same (Same.new nr)) hz i2 (But.mono b7 fun b hb => List.mem_cons_of_mem _ hb) (b7 _ _ (by simpa using nw) (Same.new nr _ _ cz3.h3)) ?_ rfl
      rw [e7]
      rw [cut_by hcw.2.2, holes_one hwf]
def sp_do_act (K : PySem.W.Frag) : Sp := fun vs H Q _ => ∃ (a ma q : Addr) (B : Hp) (f : File) (s : State) (b t : Nat) (x : NAct), vs = [.ref a, .ref q, .int (t : Nat)] ∧
  SO K B H a ma s ∧ MarksAt B ma (mks f) ∧ WS f s b ∧ b < 500 ∧ NActAt B q x ∧ nwf f x ∧ nmay f.words.length s x = true ∧
  ∀ H', SO K B H' a ma (ndone f t s x) → Q .non H'
theorem len_do_act (K : PySem.W.Frag) : ∀ vs H Q E, sp_do_act K vs H Q E → vs.length = 3 := fun _ _ _ _ ⟨_, _, _, _, _, _, _, _, _, h, _⟩ => by rw [h]; rfl
theorem sc_do_act : FnScope (["state", "act", "act_number", "pair"] : List Str) ["state", "act", "act_number"] (defScope s_do_act) := C8.fnScope_by (by decide +kernel)
theorem c_do_act (E : Env P w K mg base) : Cal P w K mg base CX0 6 "do_act" (sp_do_act K) := by
  have sc := sc_do_act
  refine mkCal (st := s_do_act) (E.top.d.def_ 16 (d := d_do_act) rfl) (E.glo 16) sc (fun _ _ _ _ _ _ us hl => match us, hl with | [_, _, _], _ => rfl) (len_do_act K) (fun cdv A outer s H vs Q X hr h => ⟨_, PSs.nox ((pss_one (ps_if (pt_cmpR op_eq (pe_ix (ixT (K := K)) (pv 1) pe_int (fun _ _ => rfl)) (C8.pe_gc rfl (g_UNDER E)) (nomark _)) (pss_one (ps_expr (pe_bm PySem.F.plainAttrs_list PySem.F.slot_list_append PySem.F.type_list_append mt_append (peF (K := K) (pv 0) rfl) (pa_cons (pe_tup (pa_cons (pe_ix (ixT (K := K)) (pv 1) pe_int (fun _ _ => rfl)) (pa_cons (pe_ix (ixT (K := K)) (pv 1) pe_int (fun _ _ => rfl)) pa_nil))) pa_nil)))) (pss_one (ps_if (pt_cmpR op_eq (pe_ix (ixT (K := K)) (pv 1) pe_int (fun _ _ => rfl)) (C8.pe_gc rfl (g_APART E)) (nomark _)) (pss_one (ps_fld (pv 0) (pe_lc (own := [("pair", 3)]) (g := (gName 3)) rfl sc.nd (pi_list (peF (K := K) (pv 0) rfl)) (blkOk_by (own := [("pair", 3)]) (N := ["state", "act", "act_number", "pair"]) (sc := defScope s_do_act) (by decide +kernel)) (fun _ _ _ _ _ => pg_name (i := 3) sc.nd rfl (Or.inl rfl)) (fun _ _ _ _ _ => (pts_one (pt_cmpR (opNeD (K := K) hr.units) (pv 3) (pe_tup (pa_cons (pe_ix (ixT (K := K)) (pv 1) pe_int (fun _ _ => rfl)) (pa_cons (pe_ix (ixT (K := K)) (pv 1) pe_int (fun _ _ => rfl)) pa_nil))) (nomark _)))) (fun _ _ _ _ _ => (pv 3))) rfl)) (pss_one (ps_expr (pe_c (c_do_card E) hr (by decide) rfl pass0 (pa_cons (pv 0) (pa_cons (pv 1) (pa_cons (pv 2) pa_nil))))))))))), ?_⟩)
  obtain ⟨a, ma, q, B, f, t, b, u, x, rfl, ⟨y, hS⟩, hM, hW, hb, hA, hwf, hmay, k⟩ := h
  have hAB := hA
  have hpl := hW.pl
  by_cases hca : isCA x = true
  · have hh : ∃ m vs2, B q = some (.tup (.int m :: vs2)) ∧ m ≠ 0 ∧ m ≠ 1 := by
      cases x with
      | under i j => cases hca
      | apart i j => cases hca
      | card n ws => obtain ⟨p, r, g, _⟩ := hA; exact ⟨_, _, g, by decide, by decide⟩
      | add n w => obtain ⟨p, g, _⟩ := hA; exact ⟨_, _, g, by decide, by decide⟩
      | grow n => obtain ⟨p, g, _⟩ := hA; exact ⟨_, _, g, by decide, by decide⟩
      | notch n h => obtain ⟨p, g, _⟩ := hA; exact ⟨_, _, g, by decide, by decide⟩
    obtain ⟨m, vs2, hq, m0, m1⟩ := hh
    have G := hS.sm _ _ hq
    exact ⟨_, rfl, q, _, 0, .int m, rfl, rfl, SqT.of G, atI_nat (i := 0) rfl, rfl, _, rfl, if_f (decide_eq_false fun z => m0 (V.int.inj z)) ⟨_, rfl, q, _, 0, .int m, rfl, rfl, SqT.of G, atI_nat (i := 0) rfl, rfl, _, rfl, if_f (decide_eq_false fun z => m1 (V.int.inj z)) ⟨_, rfl, _, rfl, _, rfl, a, ma, q, B, f, t, b, u, x, rfl, hca, ⟨y, hS⟩, hM, hW, hb, hAB, hwf, hmay, k⟩⟩⟩
  cases x with
  | under i j =>
    have G1 := hS.sm _ _ hA
    refine ⟨_, rfl, q, _, 0, .int 0, rfl, rfl, SqT.of G1, rfl, rfl, _, rfl, if_t rfl ⟨_, rfl, a, _, y.dx, _, _, rfl, hS.ha, k_State E, n_State_links E, rfl, ty_lst hS.hl, _, rfl, q, _, 1, .int (i : Nat), rfl, rfl, SqT.of G1, rfl, _, rfl, q, _, 2, .int (j : Nat), rfl, rfl, SqT.of G1, rfl, (show 2 ≤ sizeLine by decide), fun p np => ⟨y.la, _, .ref p, rfl, rfl, Same.new np _ _ hS.hl, ?_, k _ ⟨_, hS.link (x := (i, j)) np⟩⟩⟩⟩
    rw [List.length_map, paired_len hS.pr]
    exact sz_lt (by omega)
  | apart i j =>
    have G1 := hS.sm _ _ hA
    refine ⟨_, rfl, q, _, 0, .int 1, rfl, rfl, SqT.of G1, rfl, rfl, _, rfl, if_f rfl ⟨_, rfl, q, _, 0, .int 1, rfl, rfl, SqT.of G1, rfl, rfl, _, rfl, if_t rfl ⟨_, rfl, a, _, y.dx, _, _, rfl, hS.ha, k_State E, n_State_links E, rfl, y.la, rfl, ⟨_, SqL.of hS.hl⟩, fun D hD => ?_⟩⟩⟩
    refine lc_it (walk_refs hS.pr) (CL H D (isR PrAt) t.pairs fun x => if (x != (i, j)) = true then some x else none) (CL.start hD) (fun i H1 hi p => Same.seq p.same (SqL.of hS.hl)) (fun n x H1 H2 hi p yy => ?_) fun H1 p => ?_
    · obtain ⟨rfl, pb, pr, rfl, hx, hF⟩ := yy
      have hF2 := p.same _ _ hF
      refine ⟨rfl, _, rfl, _, rfl, q, _, 1, .int (i : Nat), rfl, rfl, SqT.of (p.same _ _ G1), rfl, _, rfl, q, _, 2, .int (j : Nat), rfl, rfl, SqT.of (p.same _ _ G1), rfl, (show 2 ≤ sizeLine by decide), fun r nr => ⟨dP1 pr, dP1 (i, j), dpP (SqT.of (Same.new nr _ _ hF2)), dpP (p := (i, j)) (SqT.of upd_same), deP1.shaped (by decide) _, deP1.shaped (by decide) _, _, rfl, ?_⟩⟩
      rw [deP1.eq]
      refine ite2 (fun hc => ?_) fun hc => ?_
      · have hc2 : (pr != (i, j)) = true := by simpa using hc
        refine ⟨_, rfl, CL.put p (Same.new nr) hx (if_pos hc2) (by omega) (isR_mono fun B B' b y s q => s _ _ q) fun B hB => ⟨pb, rfl, hB _ _ ?_ (Same.new nr _ _ hF2)⟩⟩
        exact ne_of_none hF hD
      · have hc2 : ¬ (pr != (i, j)) = true := by simpa using hc
        exact CL.skip p (Same.new nr) hx (if_neg hc2)
    · obtain ⟨B', vs, q1, q2, q3, q4, q5⟩ := p.fin
      rw [filterMap_filter' (fun x => x != (i, j))] at q5
      obtain ⟨ls', rfl, q6⟩ := paired_isR q5
      have s1 := Same.trans q1 q2
      refine ⟨_, rfl, a, _, y.dx, _, rfl, s1 _ _ hS.ha, k_State E, n_State_links E, (show 3 < 1000 by decide), ?_⟩
      exact k _ ⟨_, hS.links s1 hD q4 (paired_same (fun b x q => q2 _ _ q) q6)⟩
  | card n ws => exact absurd rfl hca
  | add n w => exact absurd rfl hca
  | grow n => exact absurd rfl hca
  | notch n h => exact absurd rfl hca
end
end Bw
namespace Bw
open PySem PySem.Spec PyProof.Rows L2
open Vbenah (File State Card Act)
section
variable {P : Program} {w : World} {K : PySem.W.Frag} {mg : Str → Option Value} {base : Heap}
def ActsAt (H : Hp) (l : Addr) (xs : List NAct) : Prop := ∃ bs : List Addr, H l = some (.lst (bs.map V.ref)) ∧ Paired (NActAt H) bs xs
theorem ActsAt.same {H H' : Hp} {l : Addr} {xs : List NAct} (h : ActsAt H l xs) (s : Same H H') : ActsAt H' l xs := by
  obtain ⟨bs, h1, h2⟩ := h
  exact ⟨bs, s _ _ h1, paired_same (fun b x q => q.same s) h2⟩
/-- what is behind the first acts -/
def nat_ (f : File) (xs : List NAct) (i : Nat) : State := ((xs.take i).zipIdx).foldl (fun s x => ndone f x.2 s x.1) Vbenah.begin_
theorem nat_succ {f : File} {xs : List NAct} {i : Nat} {x : NAct} (h : xs[i]? = some x) : nat_ f xs (i + 1) = ndone f i (nat_ f xs i) x := by
  unfold nat_
  have hl : i < xs.length := by
    rcases Nat.lt_or_ge i xs.length with g | g
    · exact g
    · rw [List.getElem?_eq_none g] at h
      cases h
  have e : (xs.take i).length = i := by simp; omega
  rw [List.take_succ, h, List.zipIdx_append, List.foldl_append, e]
  simp
/-- acts that may be done one behind another -/
structure NV (f : File) (xs : List NAct) : Prop where
  hn : f.words.length ≤ 12
  ho : f.holes ≤ 16
  ln : xs.length ≤ 90
  wf : ∀ y ∈ xs, nwf f y
def nmays (f : File) (xs : List NAct) : Prop := ∀ i y, xs[i]? = some y → nmay f.words.length (nat_ f xs i) y = true
theorem ws_set {f : File} {s : State} {b : Nat} {n : List Nat} {g : Card → Card} (h : WS f s b) (hb : b < 500) (hg : ∀ c ∈ s.cards, (g c).words.length ≤ c.words.length + 1 ∧ (∀ w ∈ (g c).words, w < f.words.length) ∧ CWF f (g c)) : WS f (nset s n g) (b + 1) := by
  unfold nset
  split
  · rename_i i hi
    split
    · rename_i c hc
      obtain ⟨h1, h2, h3⟩ := hg c (mem_of_get hc)
      have := (h.cw c (mem_of_get hc)).1
      exact (h.up hb).card hc (by omega) h2 h3
    · exact h.up hb
  · exact h.up hb
theorem fold_cut (f : File) (t : Nat) (p : List (Nat × Nat)) : ∀ (l : List Nat) (c : Card), CWF f c → (l.foldl (fun y w => Vbenah.cut f t y (Vbenah.posted f p w)) c).words = c.words ∧ (l.foldl (fun y w => Vbenah.cut f t y (Vbenah.posted f p w)) c).name = c.name ∧ CWF f (l.foldl (fun y w => Vbenah.cut f t y (Vbenah.posted f p w)) c)
  | [], c, h => ⟨rfl, rfl, h⟩
  | w :: l, c, h => fold_cut f t p l _ (cut_wf h _)
theorem ndone_ws {f : File} {s : State} {b t : Nat} {x : NAct} (h : WS f s b) (hb : b < 500) (hw : nwf f x) : WS f (ndone f t s x) (b + 1) := by
  cases x with
  | under i j =>
    obtain ⟨h1, h2⟩ := hw
    refine ⟨h.hn, h.ho, ?_, Nat.le_succ_of_le h.cl, fun x hx => ?_, fun c hc => ?_, hb⟩
    · show (s.pairs ++ [(i, j)]).length ≤ _
      rw [List.length_append]
      exact Nat.succ_le_succ h.pl
    · rcases List.mem_append.mp hx with m | m
      · exact h.pp x m
      · rw [List.mem_singleton.mp m]
        exact ⟨h1, h2⟩
    · obtain ⟨q1, q2, q3⟩ := h.cw c hc
      exact ⟨by omega, q2, q3⟩
  | apart i j =>
    refine ⟨h.hn, h.ho, Nat.le_succ_of_le (Nat.le_trans (List.length_filter_le _ _) h.pl), Nat.le_succ_of_le h.cl, fun x hx => h.pp x (List.mem_filter.mp hx).1, fun c hc => ?_, hb⟩
    obtain ⟨q1, q2, q3⟩ := h.cw c hc
    exact ⟨by omega, q2, q3⟩
  | card n ws =>
    obtain ⟨h1, h2, h3⟩ := pw_words f s.pairs t ws { name := n, words := [], notches := 0, by_ := [] }
    refine h.more hb ?_ ?_ (h3 (cwf_new f n []))
    · rw [h1]
      have := hw.1
      show ([] ++ ws).length ≤ _
      rw [List.nil_append]
      omega
    · rw [h1]
      exact hw.2
  | add n w =>
    refine ws_set h hb fun c hc => ?_
    obtain ⟨q1, q2, q3⟩ := h.cw c hc
    refine ⟨?_, fun v hv => ?_, cut_wf (cwf_words q3 _) _⟩
    · show (c.words ++ [w]).length ≤ _
      rw [List.length_append]
      exact Nat.le_refl _
    · rcases List.mem_append.mp hv with m | m
      · exact q2 v m
      · rw [List.mem_singleton.mp m]
        exact hw
  | grow n =>
    refine ws_set h hb fun c hc => ?_
    obtain ⟨q1, q2, q3⟩ := h.cw c hc
    obtain ⟨g1, g2, g3⟩ := fold_cut f t s.pairs c.words c q3
    exact ⟨by rw [g1]; exact Nat.le_succ _, by rw [g1]; exact q2, g3⟩
  | notch n x =>
    refine ws_set h hb fun c hc => ?_
    obtain ⟨q1, q2, q3⟩ := h.cw c hc
    exact ⟨Nat.le_succ _, q2, cut_wf q3 _⟩
theorem ws_begin {f : File} (hn : f.words.length ≤ 12) (ho : f.holes ≤ 16) : WS f Vbenah.begin_ 0 := ⟨hn, ho, Nat.le_refl _, Nat.le_refl _, (fun _ m => nomatch m), (fun _ m => nomatch m), Nat.zero_le _⟩
theorem ws_nat {f : File} {xs : List NAct} (v : NV f xs) : ∀ i, i ≤ xs.length → WS f (nat_ f xs i) i
  | 0, _ => ws_begin v.hn v.ho
  | i + 1, h => by
    have hi : xs[i]? = some xs[i] := List.getElem?_eq_getElem (by omega)
    have := v.ln
    rw [nat_succ hi]
    exact ndone_ws (ws_nat v i (by omega)) (by omega) (v.wf _ (mem_of_get hi))
theorem SO.new {K : PySem.W.Frag} {H H' : Hp} {x dx ma la ca : Addr} (hx : H x = none) (hd : H dx = none) (b : But [x] (upd (upd H dx (.own x)) x (.ins (He.ga K "State") dx [])) H') (e1 : H' x = some (.ins (He.ga K "State") dx (stateF ma la ca))) (e2 : H' la = some (.lst [])) (e3 : H' ca = some (.lst []))
    (n1 : upd (upd H dx (.own x)) x (.ins (He.ga K "State") dx []) la = none) (n2 : upd (upd H dx (.own x)) x (.ins (He.ga K "State") dx []) ca = none) (n3 : la ≠ ca) : Same H H' ∧ SO K H H' x ma Vbenah.begin_ := by
  have sf : Same H (upd (upd H dx (.own x)) x (.ins (He.ga K "State") dx [])) := fun b o e => by
    rw [upd_ne (ne_of_none e hx), upd_ne (ne_of_none e hd)]
    exact e
  have s1 : Same H H' := fun b' o e => b _ _ (by simpa using ne_of_none e hx) (sf _ _ e)
  refine ⟨s1, ⟨dx, la, ca, [], []⟩, s1, e1, e2, .nil, e3, .nil, hx, sf.free n1, sf.free n2, fun _ m => (nomatch m), ?_, List.nodup_nil⟩
  show [la, ca].Nodup
  simp [n3]
def sp_state_behind (K : PySem.W.Frag) : Sp := fun vs H Q _ => ∃ (ma al : Addr) (f : File) (xs : List NAct), vs = [.ref ma, .ref al] ∧ MarksAt H ma (mks f) ∧ ActsAt H al xs ∧ NV f xs ∧ nmays f xs ∧
  ∀ H' a, Same H H' → SO K H H' a ma (nat_ f xs xs.length) → Q (.ref a) H'
theorem len_state_behind (K : PySem.W.Frag) : ∀ vs H Q E, sp_state_behind K vs H Q E → vs.length = 2 := fun _ _ _ _ ⟨_, _, _, _, h, _⟩ => by rw [h]; rfl
theorem sc_state_behind : FnScope (["marks", "acts", "state", "number", "act"] : List Str) ["marks", "acts"] (defScope s_state_behind) := C8.fnScope_by (by decide +kernel)
theorem c_state_behind (E : Env P w K mg base) : Cal P w K mg base CX0 7 "state_behind" (sp_state_behind K) := by
  have sc := sc_state_behind
  refine mkCal (st := s_state_behind) (E.top.d.def_ 17 (d := d_state_behind) rfl) (E.glo 17) sc (fun _ _ _ _ _ _ us hl => match us, hl with | [_, _], _ => rfl) (len_state_behind K) (fun cdv A outer s H vs Q X hr h => ⟨_, PSs.nox ((pss_cons (ps_set (i := 2) sc.nd rfl (Or.inl rfl) (pe_k (c_State_init E) hr (by decide) rfl (pa_cons (pv 0) pa_nil)))
    (pss_cons (ps_for PassesOwn.never rfl (pi_enum (by rfl) (fr_enumerate E) (pa_cons (pv 1) pa_nil)) (pg_tup rfl (pgs_cons (pg_name (i := 3) sc.nd rfl (Or.inl rfl)) (pgs_cons (pg_name (i := 4) sc.nd rfl (Or.inl rfl)) pgs_nil)))
    (pss_one (ps_expr (pe_c (c_do_act E) hr (by decide) rfl pass0 (pa_cons (pv 2) (pa_cons (pv 4) (pa_cons (pv 3) pa_nil)))))))
    (pss_one (ps_ret (pv 2)))))), ?_⟩)
  obtain ⟨ma, al, f, xs, rfl, hM, ⟨bs, h1, h2⟩, hV, hm, k⟩ := h
  refine ⟨_, rfl, fun x dx nx nd ne => ⟨x, dx, .ref ma, rfl, upd_same, fun H1 la ca b1 e1 e2 e3 n1 n2 n3 => ⟨rfl, ?_⟩⟩⟩
  obtain ⟨s1, S1⟩ := SO.new nx nd b1 e1 e2 e3 n1 n2 n3
  refine ⟨_, rfl, al, _, rfl, SqL.of (s1 _ _ h1), ?_⟩
  refine for_it (walk_refsE h2) (fun i σ H' => ∃ v w, σ = [some (.ref ma), some (.ref al), some (.ref x), v, w] ∧ SO K H H' x ma (nat_ f xs i)) ⟨_, _, rfl, S1⟩ (fun i σ H' hi ⟨_, _, _, e⟩ => SqL.of (e.sm _ _ h1)) (fun i v σ H2 H3 hi ⟨v1, w1, e, S2⟩ yy => ?_) fun σ H2 ⟨v1, w1, e, S2⟩ => ?_
  · subst e
    obtain ⟨T, b, y, rfl, nT, rfl, hx, hF⟩ := yy
    have S3 := S2.same (Same.new (o := .tup [.int (i : Nat), .ref b]) nT)
    have := hV.ln
    rw [nat_succ hx]
    exact ⟨T, _, rfl, SqT.of upd_same, rfl, _, _, rfl, _, _, rfl, rfl, _, rfl, _, rfl, _, rfl, x, ma, b, H, f, _, i, i, y, rfl, S3, hM, ws_nat hV i (Nat.le_of_lt hi), by omega, hF, hV.wf y (mem_of_get hx), hm i y hx, fun H4 S4 => ⟨_, _, rfl, S4⟩⟩
  · subst e
    exact ⟨_, rfl, k _ _ S2.sm S2⟩
def sp_state_if_may (K : PySem.W.Frag) : Sp := fun vs H Q _ => ∃ (ma al : Addr) (f : File) (xs : List NAct), vs = [.ref ma, .ref al] ∧ MarksAt H ma (mks f) ∧ ActsAt H al xs ∧ NV f xs ∧
  (∀ H', ¬ nmays f xs → Same H H' → Q .non H') ∧ ∀ H' a, nmays f xs → Same H H' → SO K H H' a ma (nat_ f xs xs.length) → Q (.ref a) H'
theorem len_state_if_may (K : PySem.W.Frag) : ∀ vs H Q E, sp_state_if_may K vs H Q E → vs.length = 2 := fun _ _ _ _ ⟨_, _, _, _, h, _⟩ => by rw [h]; rfl
theorem sc_state_if_may : FnScope (["marks", "acts", "state", "number", "act"] : List Str) ["marks", "acts"] (defScope s_state_if_may) := C8.fnScope_by (by decide +kernel)
theorem c_state_if_may (E : Env P w K mg base) : Cal P w K mg base CX0 7 "state_if_may" (sp_state_if_may K) := by
  have sc := sc_state_if_may
  refine mkCal (st := s_state_if_may) (E.top.d.def_ 18 (d := d_state_if_may) rfl) (E.glo 18) sc (fun _ _ _ _ _ _ us hl => match us, hl with | [_, _], _ => rfl) (len_state_if_may K) (fun cdv A outer s H vs Q X hr h => ⟨_, PSs.nox ((pss_cons (ps_set (i := 2) sc.nd rfl (Or.inl rfl) (pe_k (c_State_init E) hr (by decide) rfl (pa_cons (pv 0) pa_nil)))
    (pss_cons (ps_for PassesOwn.never rfl (pi_enum (by rfl) (fr_enumerate E) (pa_cons (pv 1) pa_nil)) (pg_tup rfl (pgs_cons (pg_name (i := 3) sc.nd rfl (Or.inl rfl)) (pgs_cons (pg_name (i := 4) sc.nd rfl (Or.inl rfl)) pgs_nil)))
    (pss_cons (ps_if (pt_not (pt_val (pe_c (c_may_be E) hr (by decide) rfl pass0 (pa_cons (pv 2) (pa_cons (pv 4) pa_nil))))) (pss_one (ps_ret pe_non)) pss_nil)
    (pss_one (ps_expr (pe_c (c_do_act E) hr (by decide) rfl pass0 (pa_cons (pv 2) (pa_cons (pv 4) (pa_cons (pv 3) pa_nil))))))))
    (pss_one (ps_ret (pv 2)))))), ?_⟩)
  obtain ⟨ma, al, f, xs, rfl, hM, ⟨bs, h1, h2⟩, hV, k0, k⟩ := h
  refine ⟨_, rfl, fun x dx nx nd ne => ⟨x, dx, .ref ma, rfl, upd_same, fun H1 la ca b1 e1 e2 e3 n1 n2 n3 => ⟨rfl, ?_⟩⟩⟩
  obtain ⟨s1, S1⟩ := SO.new nx nd b1 e1 e2 e3 n1 n2 n3
  refine ⟨_, rfl, al, _, rfl, SqL.of (s1 _ _ h1), ?_⟩
  refine for_it (walk_refsE h2) (fun i σ H' => ∃ v w, σ = [some (.ref ma), some (.ref al), some (.ref x), v, w] ∧ SO K H H' x ma (nat_ f xs i) ∧ ∀ j y, j < i → xs[j]? = some y → nmay f.words.length (nat_ f xs j) y = true) ⟨_, _, rfl, S1, fun _ _ h => absurd h (Nat.not_lt_zero _)⟩ (fun i σ H' hi ⟨_, _, _, e, _⟩ => SqL.of (e.sm _ _ h1)) (fun i v σ H2 H3 hi ⟨v1, w1, e, S2, hj⟩ yy => ?_) fun σ H2 ⟨v1, w1, e, S2, hj⟩ => ?_
  · subst e
    obtain ⟨T, b, y, rfl, nT, rfl, hx, hF⟩ := yy
    have S3 := S2.same (Same.new (o := .tup [.int (i : Nat), .ref b]) nT)
    have := hV.ln
    rw [nat_succ hx]
    refine ⟨T, _, rfl, SqT.of upd_same, rfl, _, _, rfl, _, _, rfl, rfl, _, rfl, _, rfl, x, b, f, _, i, y, rfl, S3.view hM, ws_nat hV i (Nat.le_of_lt hi), hF.same S3.sm, fun H5 s5 => ?_⟩
    have S5 := S3.same s5
    by_cases hm : nmay f.words.length (nat_ f xs i) y = true
    · refine ⟨_, rfl, if_f (by rw [hm]; rfl) ⟨_, rfl, _, rfl, _, rfl, x, ma, b, H, f, _, i, i, y, rfl, S5, hM, ws_nat hV i (Nat.le_of_lt hi), by omega, hF, hV.wf y (mem_of_get hx), hm, fun H4 S4 => ⟨_, _, rfl, S4, fun j z hl hz => ?_⟩⟩⟩
      rcases Nat.lt_or_ge j i with g | g
      · exact hj j z g hz
      · have : j = i := by omega
        subst this
        rw [hx] at hz
        cases hz
        exact hm
    · exact ⟨_, rfl, if_t (by rw [Bool.eq_false_iff.mpr hm]; rfl) (k0 _ (fun z => hm (z i y hx)) S5.sm)⟩
  · subst e
    refine ⟨_, rfl, k _ _ (fun j y hy => hj j y ?_ hy) S2.sm S2⟩
    rcases Nat.lt_or_ge j xs.length with g | g
    · exact g
    · rw [List.getElem?_eq_none g] at hy
      cases hy
end
end Bw
namespace Bw
open PySem PySem.Spec PyProof.Rows L2
open Vbenah (File State Card Act)
section
variable {P : Program} {w : World} {K : PySem.W.Frag} {mg : Str → Option Value} {base : Heap}
def sp_falls (K : PySem.W.Frag) : Sp := fun vs H Q _ => ∃ (a cb : Addr) (f : File) (s : State) (b w : Nat) (c : Card), vs = [.ref a, .int (w : Nat), .ref cb] ∧ SV K H a f s ∧ WS f s b ∧ w < f.words.length ∧ CardAt K H cb c ∧ CWF f c ∧
  ∀ H', Same H H' → Q (.bl (Vbenah.fallsFor f c w)) H'
theorem len_falls (K : PySem.W.Frag) : ∀ vs H Q E, sp_falls K vs H Q E → vs.length = 3 := fun _ _ _ _ ⟨_, _, _, _, _, _, _, h, _⟩ => by rw [h]; rfl
theorem sc_falls : FnScope (["state", "word", "card", "hole"] : List Str) ["state", "word", "card"] (defScope s_falls) := C8.fnScope_by (by decide +kernel)
theorem c_falls (E : Env P w K mg base) : Cal P w K mg base CX0 1 "falls" (sp_falls K) := by
  have sc := sc_falls
  refine mkCal (st := s_falls) (E.top.d.def_ 26 (d := d_falls) rfl) (E.glo 26) sc (fun _ _ _ _ _ _ us hl => match us, hl with | [_, _, _], _ => rfl) (len_falls K) (fun cdv A outer s H vs Q X hr h => ⟨_, PSs.nox ((pss_one (ps_ret (pe_callB (cr_all rfl) rfl (fr_all E) (by decide +kernel) (pa_cons (pe_lc (own := [("hole", 3)]) (g := (gName 3)) rfl sc.nd (pi_list (pe_ix (ixL (K := K)) (peF (K := K) (pv 0) rfl) (pv 1) (fun _ _ => rfl))) (blkOk_by (own := [("hole", 3)]) (N := ["state", "word", "card", "hole"]) (sc := defScope s_falls) (by decide +kernel)) (fun _ _ _ _ _ => pg_name (i := 3) sc.nd rfl (Or.inl rfl)) (fun _ _ _ _ _ => pts_nil) (fun _ _ _ _ _ => (pe_cmp (pc_din (hu_of hr) (pv 3) (peF (K := K) (pv 2) rfl))))) pa_nil))))), ?_⟩)
  obtain ⟨a, cb, f, t, b, w, c, rfl, hS, hW, hw, hC, hcw, k⟩ := h
  obtain ⟨dx, ma, la, ca, h1, ⟨ms, h2, h2'⟩, h3, h5⟩ := hS
  obtain ⟨dc, pn, wi, ni, c1, c2, c3, c4⟩ := hC
  have hho := hW.ho
  obtain ⟨mb, hmb, hmF⟩ := paired_get h2' (mks_at hw)
  refine ⟨_, rfl, a, _, dx, _, _, rfl, h1, k_State E, n_State_marks E, rfl, _, rfl, ma, _, (w : Nat), .ref mb, rfl, rfl, SqL.of h2, atI_nat (get_ref hmb), mb, rfl, ⟨_, SqL.of hmF⟩, fun D hD => ?_⟩
  refine lc_it (walk_nums (l := Vbenah.holesOf f.holes (Vbenah.marksOf f w))) (CL H D isB (Vbenah.holesOf f.holes (Vbenah.marksOf f w)) fun h => some ((c.by_.map (·.1)).contains h)) (CL.start hD) (fun i H1 hi p => Same.seq p.same (SqL.of hmF)) (fun i x H1 H2 hi p y => ?_) fun H1 p => ?_
  · obtain ⟨rfl, h, rfl, hx⟩ := y
    refine ⟨rfl, yes_ ⟨_, rfl, _, rfl, cb, _, dc, _, _, rfl, p.same _ _ c1, k_Card E, n_Card_notches E, rfl, ni, _, rfl, dgetN (p.same _ _ c4), ?_⟩⟩
    exact CL.put p (Same.refl _) hx rfl (Nat.le_trans (holes_len _ _) (by omega)) isB_mono fun _ _ => by rw [nk_val]; rfl
  · obtain ⟨s1, e1⟩ := p.bools
    refine ⟨D, _, rfl, SqL.of e1, ?_⟩
    rw [all_map_id, all_congr' (q := fun h => Vbenah.bit c.notches h) fun h hh => ?_, ← within_eq]
    · exact k _ s1
    · have hl := (mem_holes.mp hh).1
      rw [contains_dec]
      have := hcw.ks h
      by_cases g : Vbenah.bit c.notches h = true
      · rw [g, decide_eq_true (this.mpr ⟨hl, g⟩)]
      · rw [decide_eq_false fun z => g (this.mp z).2, Bool.eq_false_iff.mpr g]
def sp_is_wanted (K : PySem.W.Frag) : Sp := fun vs H Q _ => ∃ (a cb : Addr) (f : File) (s : State) (b w : Nat) (c : Card), vs = [.ref a, .int (w : Nat), .ref cb] ∧ SV K H a f s ∧ WS f s b ∧ CardAt K H cb c ∧ c ∈ s.cards ∧
  ∀ H', Same H H' → Q (.bl (Vbenah.wanted f s.pairs c w)) H'
theorem len_is_wanted (K : PySem.W.Frag) : ∀ vs H Q E, sp_is_wanted K vs H Q E → vs.length = 3 := fun _ _ _ _ ⟨_, _, _, _, _, _, _, h, _⟩ => by rw [h]; rfl
theorem sc_is_wanted : FnScope (["state", "word", "card", "one"] : List Str) ["state", "word", "card"] (defScope s_is_wanted) := C8.fnScope_by (by decide +kernel)
theorem c_is_wanted (E : Env P w K mg base) : Cal P w K mg base CX0 3 "is_wanted" (sp_is_wanted K) := by
  have sc := sc_is_wanted
  refine mkCal (st := s_is_wanted) (E.top.d.def_ 27 (d := d_is_wanted) rfl) (E.glo 27) sc (fun _ _ _ _ _ _ us hl => match us, hl with | [_, _, _], _ => rfl) (len_is_wanted K) (fun cdv A outer s H vs Q X hr h => ⟨_, PSs.nox ((pss_one (ps_ret (pe_callB (cr_any rfl) rfl (fr_any E) (by decide +kernel) (pa_cons (pe_lc (own := [("one", 3)]) (g := (gName 3)) rfl sc.nd (pi_list (peF (K := K) (pv 2) rfl)) (blkOk_by (own := [("one", 3)]) (N := ["state", "word", "card", "one"]) (sc := defScope s_is_wanted) (by decide +kernel)) (fun _ _ _ _ _ => pg_name (i := 3) sc.nd rfl (Or.inl rfl)) (fun _ _ _ _ _ => pts_nil) (fun _ _ _ _ _ => (pe_or (pe_cmpR op_eq (pv 3) (pv 1) (nomark _)) (pe_one (pe_cmpR (opIn (K := K)) (pv 1) (pe_c (c_above E) hr (by decide) rfl pass0 (pa_cons (pv 0) (pa_cons (pv 3) pa_nil))) (by rfl)))))) pa_nil))))), ?_⟩)
  obtain ⟨a, cb, f, t, b, w, c, rfl, hS, hW, hC, hcm, k⟩ := h
  obtain ⟨dc, pn, wi, ni, c1, c2, c3, c4⟩ := hC
  have hb := hW.hb
  obtain ⟨q1, q2, q3⟩ := hW.cw c hcm
  refine ⟨_, rfl, cb, _, dc, _, _, rfl, c1, k_Card E, n_Card_words E, rfl, wi, rfl, ⟨_, SqL.of c3⟩, fun D hD => ?_⟩
  refine lc_it (walk_nums (l := c.words)) (CL H D isB c.words fun x => some ((Vbenah.selfAbove t.pairs f.words.length x).contains w)) (CL.start hD) (fun i H1 hi p => Same.seq p.same (SqL.of c3)) (fun i x H1 H2 hi p y => ?_) fun H1 p => ?_
  · obtain ⟨rfl, h, rfl, hx⟩ := y
    have hh := q2 h (mem_of_get hx)
    refine ⟨rfl, yes_ ⟨_, rfl, _, rfl, rfl, _, rfl, ?_⟩⟩
    rw [dN]
    have key := mem_selfAbv (p := t.pairs) (b := w) hW.pp hh
    refine ite2 (fun hc => ?_) fun hc => ⟨_, rfl, _, rfl, _, rfl, a, f, t, b, h, rfl, hS.same p.same, hW, fun H3 r s3 e3 => ⟨r, _, rfl, Or.inl (SqL.of e3), rfl, flat_nV _, ?_⟩⟩
    · refine CL.put p (Same.refl _) hx rfl (by omega) isB_mono fun _ _ => ?_
      show V.bl true = .bl _
      rw [contains_dec, decide_eq_true (key.mpr (Or.inl (beq_iff_eq.mp hc).symm))]
    · refine CL.put p s3 hx rfl (by omega) isB_mono fun _ _ => ?_
      show V.bl (inV _ _) = .bl _
      rw [inV_nV, contains_dec, contains_dec]
      congr 1
      by_cases g : w ∈ abv t.pairs f.words.length h
      · rw [decide_eq_true g, decide_eq_true (key.mpr (Or.inr g))]
      · rw [decide_eq_false g, decide_eq_false fun z => (key.mp z).elim (fun e => hc (beq_iff_eq.mpr e.symm)) g]
  · obtain ⟨s1, e1⟩ := p.bools
    refine ⟨D, _, rfl, SqL.of e1, ?_⟩
    rw [any_map_id]
    exact k _ s1
/-- whether the card of a number is wanted for a word -/
def want (f : File) (s : State) (w c : Nat) : Prop := ∃ x, s.cards[c]? = some x ∧ Vbenah.wanted f s.pairs x w = true
def sp_wanted_pairs (K : PySem.W.Frag) : Sp := fun vs H Q _ => ∃ (a : Addr) (f : File) (s : State) (b : Nat), vs = [.ref a] ∧ SV K H a f s ∧ WS f s b ∧
  ∀ H' p ps, Same H H' → PairsAt H' p ps → ps.length ≤ 12 * s.cards.length → (∀ w c, (w, c) ∈ ps ↔ want f s w c) → Q (.ref p) H'
theorem len_wanted_pairs (K : PySem.W.Frag) : ∀ vs H Q E, sp_wanted_pairs K vs H Q E → vs.length = 1 := fun _ _ _ _ ⟨_, _, _, _, h, _⟩ => by rw [h]; rfl
theorem walk_tset {d : Addr} {o : Obj} {ks : List Nat} : Walk (Itk d o (tset ks)) ks.length (fun H => H d = some (.frz o (.dK (tset ks)))) (fun i H x H' => H' = H ∧ ∃ k, ks[i]? = some k ∧ x = .int (k : Nat)) := by
  have e : (tset ks).length = ks.length := by unfold tset dkv; rw [List.length_map, List.length_map]
  rw [← e]
  refine Walk.mono walk_keys (fun H h => h) fun i H v H' hi h y => ?_
  obtain ⟨e1, k, v2, e2, e3⟩ := y
  unfold tset dkv at e2
  rw [List.map_map, List.getElem?_map] at e2
  cases g : ks[i]? with
  | none => rw [g] at e2; cases e2
  | some n =>
    rw [g] at e2
    cases e2
    exact ⟨e1, n, rfl, e3⟩
theorem CL.dd {α β : Type} {H0 H : Hp} {D : Addr} {R : Hp → V → β → Prop} {xs : List α} {g : α → Option β} {i : Nat} (p : CL H0 D R xs g i H) : ∃ vs, H D = some (.lst vs) := by
  obtain ⟨B, vs, h1, h2, h3, h4, h5⟩ := p
  exact ⟨vs, h4⟩
theorem sc_wanted_pairs : FnScope (["state", "found", "number", "card", "words", "one", "word"] : List Str) ["state"] (defScope s_wanted_pairs) := C8.fnScope_by (by decide +kernel)
theorem c_wanted_pairs (E : Env P w K mg base) : Cal P w K mg base CX0 3 "wanted_pairs" (sp_wanted_pairs K) := by
  have sc := sc_wanted_pairs
  refine mkCal (st := s_wanted_pairs) (E.top.d.def_ 28 (d := d_wanted_pairs) rfl) (E.glo 28) sc (fun _ _ _ _ _ _ us hl => match us, hl with | [_], _ => rfl) (len_wanted_pairs K) (fun cdv A outer s H vs Q X hr h => ⟨_, PSs.nox ((pss_cons (ps_set (i := 1) sc.nd rfl (Or.inl rfl) (pe_lst pa_nil))
    (pss_cons (ps_for PassesOwn.never rfl (pi_enum (by rfl) (fr_enumerate E) (pa_cons (peF (K := K) (pv 0) rfl) pa_nil)) (pg_tup rfl (pgs_cons (pg_name (i := 2) sc.nd rfl (Or.inr rfl)) (pgs_cons (pg_name (i := 3) sc.nd rfl (Or.inl rfl)) pgs_nil)))
    (pss_cons (ps_set (i := 4) sc.nd rfl (Or.inl rfl) pe_dnewK)
    (pss_cons (ps_for PassesOwn.never rfl (pi_list (peF (K := K) (pv 3) rfl)) (pg_name (i := 5) sc.nd rfl (Or.inl rfl))
    (pss_one (ps_for PassesOwn.never rfl (pi_list (pe_op op_cat (pe_lst (pa_cons (pv 5) pa_nil)) (pe_c (c_above E) hr (by decide) rfl pass0 (pa_cons (pv 0) (pa_cons (pv 5) pa_nil))))) (pg_name (i := 6) sc.nd rfl (Or.inl rfl))
    (pss_one (ps_dput (hu_of hr) (pv 4) (pv 6) pe_bl rfl)))))
    (pss_one (ps_expr (pe_bm PySem.F.plainAttrs_list PySem.F.slot_list_extend PySem.F.type_list_extend mt_extend (pv 1) (pa_cons (pe_lock (pe_lc (own := [("word", 6)]) (g := (gName 6)) rfl sc.nd (pi_keys (pv 4)) (blkOk_by (own := [("word", 6)]) (N := ["state", "found", "number", "card", "words", "one", "word"]) (sc := defScope s_wanted_pairs) (by decide +kernel)) (fun _ _ _ _ _ => pg_name (i := 6) sc.nd rfl (Or.inl rfl)) (fun _ _ _ _ _ => pts_nil) (fun _ _ _ _ _ => (pe_tup (pa_cons (pv 6) (pa_cons (pv 2) pa_nil)))))) pa_nil)))))))
    (pss_one (ps_ret (pv 1)))))), ?_⟩)
  obtain ⟨a, f, t, b, rfl, hS, hW, k⟩ := h
  obtain ⟨dx, ma, la, ca, h1, h2, h3, ⟨cs, h4, h5⟩⟩ := hS
  have hS : SV K H a f t := ⟨dx, ma, la, ca, h1, h2, h3, ⟨cs, h4, h5⟩⟩
  have hb := hW.hb
  have hcl := hW.cl
  have hn := hW.hn
  refine ⟨Nat.zero_le _, fun fl nfl => ?_⟩
  have s0 : Same H (upd H fl (.lst [])) := Same.new nfl
  refine ⟨_, rfl, a, _, dx, _, _, rfl, s0 _ _ h1, k_State E, n_State_cards E, rfl, ca, _, rfl, SqL.of (s0 _ _ h4), ?_⟩
  refine for_it (walk_refsE h5) (fun i σ H' => ∃ x2 x3 x4 x5 x6 bs ps, σ = [some (.ref a), some (.ref fl), x2, x3, x4, x5, x6] ∧ Same H H' ∧ H' fl = some (.lst (List.map V.ref bs)) ∧ Paired (PrAt H') bs ps ∧ ps.length ≤ 12 * i ∧ ∀ w c, (w, c) ∈ ps ↔ c < i ∧ want f t w c)
    ⟨_, _, _, _, _, [], [], rfl, s0, upd_same, .nil, Nat.zero_le _, fun w c => by simp⟩ (fun i σ H' hi ⟨_, _, _, _, _, _, _, _, s, _⟩ => Same.seq s (SqL.of h4)) (fun i v σ H1 H2 hi ⟨x2, x3, x4, x5, x6, bs, ps, e, s1, ef, pp, pl, hm⟩ yy => ?_) fun σ H1 ⟨x2, x3, x4, x5, x6, bs, ps, e, s1, ef, pp, pl, hm⟩ => ?_
  · subst e
    obtain ⟨T, cb, cd, rfl, nT, e2, hx, hC⟩ := yy
    have s12 : Same H1 H2 := by rw [e2]; exact Same.new nT
    have s2 : Same H H2 := Same.trans s1 s12
    obtain ⟨dc, pn, wi, ni, c1, c2, c3, c4⟩ := hC
    obtain ⟨q1, q2, q3⟩ := hW.cw cd (mem_of_get hx)
    refine ⟨T, _, rfl, SqT.of (by rw [e2]; exact upd_same), rfl, _, _, rfl, _, _, rfl, rfl, fun d nd => ?_⟩
    have s3 : Same H2 (upd H2 d (.dK [])) := Same.new nd
    refine ⟨_, rfl, cb, _, dc, _, _, rfl, s3 _ _ (s2 _ _ c1), k_Card E, n_Card_words E, rfl, wi, rfl, ⟨_, SqL.of (s3 _ _ (s2 _ _ c3))⟩, ?_⟩
    refine for_it (walk_nums (l := cd.words)) (fun j σ H' => ∃ ks y5 y6, σ = [some (.ref a), some (.ref fl), some (.int (i : Nat)), some (.ref cb), some (.ref d), y5, y6] ∧ Same H2 H' ∧ H' d = some (.dK (tset ks)) ∧ ks.Nodup ∧ ∀ w, w ∈ ks ↔ ∃ o ∈ cd.words.take j, w = o ∨ w ∈ abv t.pairs f.words.length o)
      ⟨[], _, _, rfl, s3, upd_same, List.nodup_nil, fun w => by simp⟩ (fun j σ H' hj ⟨_, _, _, _, s, _⟩ => SqL.of (s _ _ (s2 _ _ c3))) (fun j v σ H3 H4 hj ⟨ks, y5, y6, e, s4, ed, nk', hk⟩ yy => ?_) fun σ H3 ⟨ks, y5, y6, e, s4, ed, nk', hk⟩ => ?_
    · subst e
      obtain ⟨rfl, o, rfl, ho⟩ := yy
      have hon := q2 o (mem_of_get ho)
      refine ⟨_, rfl, (show 1 ≤ sizeLine by decide), fun L0 n0 => ⟨_, rfl, _, rfl, a, f, t, b, o, rfl, hS.same (Same.trans s2 (Same.trans s4 (Same.new n0))), hW, fun H5 q s5 e5 => ⟨L0, q, [.int (o : Nat)], nV (abv t.pairs f.words.length o), rfl, rfl, s5 _ _ upd_same, e5, ?_, fun L nL => ⟨L, rfl, ⟨_, SqL.of upd_same⟩, ?_⟩⟩⟩⟩
      · have := abv_len t.pairs f.words.length o
        rw [nV_len]
        exact sz_le (by simp; omega)
      have s45 : Same H4 H5 := Same.trans (Same.new n0) s5
      have s5' : Same H4 (upd H5 L (.lst ([V.int (o : Nat)] ++ nV (abv t.pairs f.words.length o)))) := Same.trans s45 (Same.new nL)
      refine for_it (walk_nums (l := o :: abv t.pairs f.words.length o)) (fun m σ H' => ∃ ks2 z6, σ = [some (.ref a), some (.ref fl), some (.int (i : Nat)), some (.ref cb), some (.ref d), some (.int (o : Nat)), z6] ∧ Same H2 H' ∧ H' L = some (.lst (nV (o :: abv t.pairs f.words.length o))) ∧ H' d = some (.dK (tset ks2)) ∧ ks2.Nodup ∧ ∀ w, w ∈ ks2 ↔ w ∈ ks ∨ w ∈ (o :: abv t.pairs f.words.length o).take m)
        ⟨ks, _, rfl, Same.trans s4 s5', upd_same, s5' _ _ ed, nk', fun w => by simp⟩ (fun m σ H' hm ⟨_, _, _, _, e, _⟩ => SqL.of e) (fun m v σ H6 H7 hm2 ⟨ks2, z6, e, s6, eL, ed6, nk2, hk2⟩ yy => ?_) fun σ H6 ⟨ks2, z6, e, s6, eL, ed6, nk2, hk2⟩ => ?_
      · subst e
        obtain ⟨rfl, w, rfl, hw⟩ := yy
        have hl : ks2.length ≤ 12 := Nat.le_trans (nodup_len nk2 fun x hx => by
          rcases (hk2 x).mp hx with g | g
          · obtain ⟨o2, g1, g2⟩ := (hk x).mp g
            rcases g2 with g2 | g2
            · rw [g2]
              exact q2 o2 (List.mem_of_mem_take g1)
            · exact (((mem_abv hW.pp).mp g2).lt hW.pp).2
          · rcases List.mem_cons.mp (List.mem_of_mem_take g) with g | g
            · rw [g]
              exact hon
            · exact (((mem_abv hW.pp).mp g).lt hW.pp).2) hn
        have hLd : L ≠ d := ne_obj eL ed6 fun z => by cases z
        refine ⟨_, rfl, _, rfl, d, _, rfl, dputN ed6 (by rw [List.length_map, List.length_map]; exact sz_lt (by omega)), addN ks2 w, _, rfl, Same.put s6 nd, ?_, ?_, nodup_addN nk2, fun x => ?_⟩
        · rw [upd_ne hLd]
          exact eL
        · rw [tset_put]
          exact upd_same
        · rw [mem_addN, hk2, take_mem hw, or_assoc]
      · subst e
        refine ⟨ks2, _, _, rfl, s6, ed6, nk2, fun w => ?_⟩
        rw [hk2, hk, List.take_length, List.mem_cons]
        constructor
        · rintro (⟨o2, g1, g2⟩ | g)
          · exact ⟨o2, (take_mem ho o2).mpr (Or.inl g1), g2⟩
          · exact ⟨o, (take_mem ho o).mpr (Or.inr rfl), g⟩
        · rintro ⟨o2, g1, g2⟩
          rcases (take_mem ho o2).mp g1 with g | g
          · exact Or.inl ⟨o2, g, g2⟩
          · exact Or.inr (g ▸ g2)
    · subst e
      have hkn : ∀ x ∈ ks, x < f.words.length := fun x hx => by
        obtain ⟨o2, g1, g2⟩ := (hk x).mp hx
        rcases g2 with g2 | g2
        · rw [g2]
          exact q2 o2 (List.mem_of_mem_take g1)
        · exact (((mem_abv hW.pp).mp g2).lt hW.pp).2
      have hl : ks.length ≤ 12 := Nat.le_trans (nodup_len nk' hkn) hn
      have ef3 := s4 _ _ (s12 _ _ ef)
      refine ⟨_, rfl, ty_lst ef3, d, _, ed, by first | trivial | decide | simp [Mut], fun od => ?_⟩
      have sf : Same H2 (upd H3 d (.frz od (.dK (tset ks)))) := Same.put s4 nd
      refine ⟨_, rfl, d, od, rfl, Or.inl ⟨_, upd_same, fun D nD => ?_⟩⟩
      refine lc_it walk_tset (CL (upd H3 d (.frz od (.dK (tset ks)))) D (isR PrAt) ks fun w => some (w, i)) (CL.start nD) (fun m H' hm p => p.same _ _ upd_same) (fun m x H4 H5 hm2 p y => ?_) fun H6 p => ?_
      · obtain ⟨rfl, w, hw, rfl⟩ := y
        refine ⟨rfl, yes_ ⟨_, rfl, _, rfl, (show 2 ≤ sizeLine by decide), fun r nr => ?_⟩⟩
        obtain ⟨vs, edd⟩ := p.dd
        exact CL.put p (Same.new nr) hw rfl (by omega) (isR_mono fun B B' b y s q => s _ _ q) fun B hB => ⟨r, rfl, hB _ _ (fun z => by rw [z, edd] at nr; cases nr) upd_same⟩
      · obtain ⟨B, vs, g1, g2, g3, g4, g5⟩ := p.fin
        rw [filterMap_some'] at g5
        obtain ⟨bs2, rfl, g6⟩ := paired_isR g5
        have s36 := Same.trans g1 g2
        have ed6 : H6 d = some (.frz od (.dK (tset ks))) := s36 _ _ upd_same
        have s26 : Same H2 H6 := Same.trans sf s36
        have sz : Same H2 (upd H6 d (.dK (tset ks))) := Same.put s26 nd
        have nfd : fl ≠ d := ne_obj ef3 ed fun z => by cases z
        have nDd : D ≠ d := ne_obj g4 ed6 fun z => by cases z
        have l1 := paired_len pp
        have l2 := paired_len g6
        rw [List.length_map] at l2
        refine ⟨ed6, fl, D, _, _, rfl, rfl, sz _ _ (s12 _ _ ef), by rw [upd_ne nDd]; exact g4, ?_, ?_⟩
        · rw [List.length_map, List.length_map, l1, l2]
          exact sz_le (by omega)
        rw [← List.map_append]
        have keep : ∀ bb o, upd H6 d (.dK (tset ks)) bb = some o → (∀ xs, o ≠ .lst xs) → upd (upd H6 d (.dK (tset ks))) fl (.lst (List.map V.ref (bs ++ bs2))) bb = some o := fun bb o e n => by
          rw [upd_ne (ne_obj e (sz _ _ (s12 _ _ ef)) (n _))]
          exact e
        refine ⟨_, _, _, _, _, bs ++ bs2, ps ++ ks.map fun w => (w, i), rfl, Same.put (Same.trans s2 sz) nfl, upd_same, paired_append (paired_same (fun bb x q => keep _ _ (sz _ _ (s12 _ _ q)) fun _ z => by cases z) pp) (paired_same (fun bb x q => ?_) g6), ?_, fun w c => ?_⟩
        · have q2 := g2 _ _ q
          refine keep _ _ ?_ fun _ z => by cases z
          rw [upd_ne (ne_obj q2 ed6 fun z => by cases z)]
          exact q2
        · rw [List.length_append, List.length_map]
          omega
        · rw [List.mem_append, hm, List.mem_map]
          constructor
          · rintro (⟨g7, g8⟩ | ⟨x, g7, g8⟩)
            · exact ⟨Nat.lt_succ_of_lt g7, g8⟩
            · cases g8
              refine ⟨Nat.lt_succ_self _, cd, hx, ?_⟩
              obtain ⟨o, g9, g10⟩ := (hk _).mp g7
              rw [List.take_length] at g9
              unfold Vbenah.wanted
              rw [List.any_eq_true]
              exact ⟨o, g9, List.contains_iff_mem.mpr ((mem_selfAbv hW.pp (q2 o g9)).mpr g10)⟩
          · rintro ⟨g7, g8⟩
            rcases Nat.lt_or_ge c i with g | g
            · exact Or.inl ⟨g, g8⟩
            · have ec : c = i := by omega
              subst ec
              obtain ⟨x, g9, g10⟩ := g8
              rw [hx] at g9
              cases g9
              unfold Vbenah.wanted at g10
              rw [List.any_eq_true] at g10
              obtain ⟨o, g11, g12⟩ := g10
              refine Or.inr ⟨w, (hk _).mpr ⟨o, by rw [List.take_length]; exact g11, ?_⟩, rfl⟩
              exact (mem_selfAbv hW.pp (q2 o g11)).mp (List.contains_iff_mem.mp g12)
  · subst e
    refine ⟨_, rfl, k _ fl ps s1 ⟨bs, ef, pp⟩ pl fun w c => ?_⟩
    rw [hm]
    refine ⟨fun q => q.2, fun q => ⟨?_, q⟩⟩
    obtain ⟨x, hx, _⟩ := q
    rcases Nat.lt_or_ge c t.cards.length with g | g
    · exact g
    · rw [List.getElem?_eq_none g] at hx
      cases hx
def sp_lacks (K : PySem.W.Frag) : Sp := fun vs H Q _ => ∃ (a cb : Addr) (f : File) (s : State) (b : Nat) (c : Card), vs = [.ref a, .ref cb] ∧ SV K H a f s ∧ WS f s b ∧ CardAt K H cb c ∧ c ∈ s.cards ∧
  ∀ H' p, Same H H' → H' p = some (.lst (nV (Vbenah.lacks f s c))) → Q (.ref p) H'
theorem len_lacks (K : PySem.W.Frag) : ∀ vs H Q E, sp_lacks K vs H Q E → vs.length = 2 := fun _ _ _ _ ⟨_, _, _, _, _, _, h, _⟩ => by rw [h]; rfl
theorem sc_lacks : FnScope (["state", "card", "found", "word", "hole"] : List Str) ["state", "card"] (defScope s_lacks) := C8.fnScope_by (by decide +kernel)
theorem c_lacks (E : Env P w K mg base) : Cal P w K mg base CX0 4 "lacks" (sp_lacks K) := by
  have sc := sc_lacks
  refine mkCal (st := s_lacks) (E.top.d.def_ 30 (d := d_lacks) rfl) (E.glo 30) sc (fun _ _ _ _ _ _ us hl => match us, hl with | [_, _], _ => rfl) (len_lacks K) (fun cdv A outer s H vs Q X hr h => ⟨_, PSs.nox ((pss_cons (ps_set (i := 2) sc.nd rfl (Or.inl rfl) pe_dnewK)
    (pss_cons (ps_for PassesOwn.never rfl (pi_list (peF (K := K) (pv 1) rfl)) (pg_name (i := 3) sc.nd rfl (Or.inl rfl))
    (pss_one (ps_for PassesOwn.never rfl (pi_list (pe_c (c_posted E) hr (by decide) rfl pass0 (pa_cons (pv 0) (pa_cons (pv 3) pa_nil)))) (pg_name (i := 4) sc.nd rfl (Or.inl rfl))
    (pss_one (ps_if (pt_cmp (pc_dnotin (hu_of hr) (pv 4) (peF (K := K) (pv 1) rfl))) (pss_one (ps_dput (hu_of hr) (pv 2) (pv 4) pe_bl rfl)) pss_nil)))))
    (pss_one (ps_ret (pe_callB (call_sortedDI rfl) rfl (fr_sorted E) (by decide +kernel) (pa_cons (pv 2) pa_nil))))))), ?_⟩)
  obtain ⟨a, cb, f, t, b, c, rfl, hS, hW, hC, hcm, k⟩ := h
  obtain ⟨dc, pn, wi, ni, c1, c2, c3, c4⟩ := hC
  have hb := hW.hb
  have hho := hW.ho
  obtain ⟨q1, q2, q3⟩ := hW.cw c hcm
  intro d nd
  have s0 : Same H (upd H d (.dK [])) := Same.new nd
  refine ⟨_, rfl, cb, _, dc, _, _, rfl, s0 _ _ c1, k_Card E, n_Card_words E, rfl, wi, rfl, ⟨_, SqL.of (s0 _ _ c3)⟩, ?_⟩
  refine for_it (walk_nums (l := c.words)) (fun i σ H' => ∃ ks x y, σ = [some (.ref a), some (.ref cb), some (.ref d), x, y] ∧ Same H H' ∧ H' d = some (.dK (tset ks)) ∧ ks.Nodup ∧
      ∀ h, h ∈ ks ↔ ∃ z ∈ c.words.take i, h ∈ Vbenah.holesOf f.holes (Vbenah.posted f t.pairs z) ∧ ¬ h ∈ c.by_.map (·.1)) ⟨[], _, _, rfl, s0, upd_same, List.nodup_nil, fun h => by simp⟩ (fun i σ H' hi ⟨_, _, _, _, s, _⟩ => SqL.of (s _ _ c3)) (fun i x σ H2 H3 hi ⟨ks, x1, y1, e, s2, ed, nk', hk⟩ y => ?_) fun σ H2 ⟨ks, x1, y1, e, s2, ed, nk', hk⟩ => ?_
  · subst e
    obtain ⟨rfl, z, rfl, hz⟩ := y
    have hzn := q2 z (mem_of_get hz)
    refine ⟨_, rfl, _, rfl, a, f, t, b, z, rfl, hS.same s2, hW, hzn, fun H4 r s4 e4 => ⟨r, rfl, ⟨_, SqL.of e4⟩, ?_⟩⟩
    refine for_it (walk_nums (l := Vbenah.holesOf f.holes (Vbenah.posted f t.pairs z))) (fun j σ H' => ∃ ks2 y, σ = [some (.ref a), some (.ref cb), some (.ref d), some (.int (z : Nat)), y] ∧ Same H H' ∧ H' r = some (.lst (nV (Vbenah.holesOf f.holes (Vbenah.posted f t.pairs z)))) ∧ H' d = some (.dK (tset ks2)) ∧ ks2.Nodup ∧
      ∀ h, h ∈ ks2 ↔ h ∈ ks ∨ (h ∈ (Vbenah.holesOf f.holes (Vbenah.posted f t.pairs z)).take j ∧ ¬ h ∈ c.by_.map (·.1))) ⟨ks, _, rfl, Same.trans s2 s4, e4, s4 _ _ ed, nk', fun h => by simp⟩ (fun j σ H' hj ⟨_, _, _, _, e, _⟩ => SqL.of e) (fun j x σ H5 H6 hj ⟨ks2, y2, e, s5, er, ed5, nk2, hk2⟩ y => ?_) fun σ H5 ⟨ks2, y2, e, s5, er, ed5, nk2, hk2⟩ => ?_
    · subst e
      obtain ⟨rfl, h, rfl, hh⟩ := y
      have hrd : r ≠ d := ne_obj er ed5 fun z => by cases z
      have hl : ks2.length ≤ 16 := Nat.le_trans (nodup_len nk2 fun x hx => by
        rcases (hk2 x).mp hx with q | q
        · obtain ⟨z, _, q, _⟩ := (hk x).mp q
          exact (mem_holes.mp q).1
        · exact (mem_holes.mp (List.mem_of_mem_take q.1)).1) hho
      refine ⟨_, rfl, _, rfl, cb, _, dc, _, _, rfl, s5 _ _ c1, k_Card E, n_Card_notches E, rfl, ni, _, rfl, dgetN (s5 _ _ c4), _, rfl, ?_⟩
      rw [nk_val, contains_dec]
      by_cases hin : h ∈ c.by_.map (·.1)
      · refine if_f (by rw [decide_eq_true hin]; rfl) ⟨ks2, _, rfl, s5, er, ed5, nk2, fun x => ?_⟩
        rw [hk2, take_mem hh]
        constructor
        · rintro (q | ⟨q, g⟩)
          · exact Or.inl q
          · exact Or.inr ⟨Or.inl q, g⟩
        · rintro (q | ⟨q | q, g⟩)
          · exact Or.inl q
          · exact Or.inr ⟨q, g⟩
          · exact absurd (q ▸ hin) g
      · refine if_t (by rw [decide_eq_false hin]; rfl) ⟨_, rfl, _, rfl, d, _, rfl, dputN ed5 (by rw [List.length_map, List.length_map]; exact sz_lt (by omega)), addN ks2 h, _, rfl, Same.put s5 nd, ?_, ?_, nodup_addN nk2, fun x => ?_⟩
        · rw [upd_ne hrd]
          exact er
        · rw [tset_put]
          exact upd_same
        · rw [mem_addN, hk2, take_mem hh]
          constructor
          · rintro ((q | ⟨q, g⟩) | q)
            · exact Or.inl q
            · exact Or.inr ⟨Or.inl q, g⟩
            · exact Or.inr ⟨Or.inr q, q ▸ hin⟩
          · rintro (q | ⟨q | q, g⟩)
            · exact Or.inl (Or.inl q)
            · exact Or.inl (Or.inr ⟨q, g⟩)
            · exact Or.inr q
    · subst e
      refine ⟨ks2, _, _, rfl, s5, ed5, nk2, fun h => ?_⟩
      rw [hk2, hk, List.take_length]
      constructor
      · rintro (⟨z2, q1, q2⟩ | q)
        · exact ⟨z2, (take_mem hz z2).mpr (Or.inl q1), q2⟩
        · exact ⟨z, (take_mem hz z).mpr (Or.inr rfl), q⟩
      · rintro ⟨z2, q1, q2⟩
        rcases (take_mem hz z2).mp q1 with q | q
        · exact Or.inl ⟨z2, q, q2⟩
        · exact Or.inr (q ▸ q2)
  · subst e
    have hl : ks.length ≤ 16 := Nat.le_trans (nodup_len nk' fun x hx => by
      obtain ⟨z, _, q, _⟩ := (hk x).mp hx
      exact (mem_holes.mp q).1) hho
    refine ⟨_, rfl, d, tset ks, zs ks, rfl, .inl ed, tset_keys ks, by rw [List.length_map]; omega, fun ys r pm srt nr => k _ _ (Same.trans s2 (Same.new nr)) ?_⟩
    rw [sorted_nats (l := Vbenah.lacks f t c) pm srt nk' (asc_filter (asc_range _) _) fun z => ?_]
    · exact upd_same
    · unfold Vbenah.lacks
      rw [hk, List.take_length, List.mem_filter, List.mem_range, Bool.and_eq_true, List.any_eq_true]
      constructor
      · rintro ⟨z2, g1, g2, g3⟩
        obtain ⟨g4, g5⟩ := mem_holes.mp g2
        refine ⟨g4, ?_, z2, g1, g5⟩
        cases g6 : Vbenah.bit c.notches z with
        | false => rfl
        | true => exact absurd ((q3.ks z).mpr ⟨g4, g6⟩) g3
      · rintro ⟨g1, g2, z2, g3, g4⟩
        refine ⟨z2, g3, mem_holes.mpr ⟨g1, g4⟩, fun m => ?_⟩
        rw [((q3.ks z).mp m).2] at g2
        cases g2
def sp_bad_pair (K : PySem.W.Frag) : Sp := fun vs H Q _ => ∃ (a : Addr) (f : File) (s : State) (b : Nat), vs = [.ref a] ∧ SV K H a f s ∧ WS f s b ∧
  (∀ H', Vbenah.unnested f s = none → Same H H' → Q .non H') ∧ ∀ H' p x, Vbenah.unnested f s = some x → Same H H' → PrAt H' p x → Q (.ref p) H'
theorem len_bad_pair (K : PySem.W.Frag) : ∀ vs H Q E, sp_bad_pair K vs H Q E → vs.length = 1 := fun _ _ _ _ ⟨_, _, _, _, h, _⟩ => by rw [h]; rfl
theorem sc_bad_pair : FnScope (["state", "lower", "upper", "hole"] : List Str) ["state"] (defScope s_bad_pair) := C8.fnScope_by (by decide +kernel)
theorem c_bad_pair (E : Env P w K mg base) : Cal P w K mg base CX0 1 "bad_pair" (sp_bad_pair K) := by
  have sc := sc_bad_pair
  refine mkCal (st := s_bad_pair) (E.top.d.def_ 31 (d := d_bad_pair) rfl) (E.glo 31) sc (fun _ _ _ _ _ _ us hl => match us, hl with | [_], _ => rfl) (len_bad_pair K) (fun cdv A outer s H vs Q X hr h => ⟨_, PSs.nox ((pss_cons (ps_for PassesOwn.never rfl (pi_list (peF (K := K) (pv 0) rfl)) (pg_tup rfl (pgs_cons (pg_name (i := 1) sc.nd rfl (Or.inr rfl)) (pgs_cons (pg_name (i := 2) sc.nd rfl (Or.inl rfl)) pgs_nil)))
    (pss_one (ps_if (pt_not (pt_val (pe_callB (cr_all rfl) rfl (fr_all E) (by decide +kernel) (pa_cons (pe_lc (own := [("hole", 3)]) (g := (gName 3)) rfl sc.nd (pi_list (pe_ix (ixL (K := K)) (peF (K := K) (pv 0) rfl) (pv 2) (fun _ _ => rfl))) (blkOk_by (own := [("hole", 3)]) (N := ["state", "lower", "upper", "hole"]) (sc := defScope s_bad_pair) (by decide +kernel)) (fun _ _ _ _ _ => pg_name (i := 3) sc.nd rfl (Or.inl rfl)) (fun _ _ _ _ _ => pts_nil) (fun _ _ _ _ _ => (pe_cmpR (opIn (K := K)) (pv 3) (pe_ix (ixL (K := K)) (peF (K := K) (pv 0) rfl) (pv 1) (fun _ _ => rfl)) (by rfl)))) pa_nil)))) (pss_one (ps_ret (pe_tup (pa_cons (pv 1) (pa_cons (pv 2) pa_nil))))) pss_nil)))
    (pss_one (ps_ret pe_non)))), ?_⟩)
  obtain ⟨a, f, t, b, rfl, hS, hW, k0, k⟩ := h
  obtain ⟨dx, ma, la, ca, h1, ⟨ms, h2, h2'⟩, ⟨ls, h3, h3'⟩, h5⟩ := hS
  have hho := hW.ho
  refine ⟨_, rfl, a, _, dx, _, _, rfl, h1, k_State E, n_State_links E, rfl, la, rfl, ⟨_, SqL.of h3⟩, ?_⟩
  refine for_it (walk_refs h3') (fun i σ H' => ∃ x y z, σ = [some (.ref a), x, y, z] ∧ Same H H' ∧ ∀ x ∈ t.pairs.take i, Vbenah.within f.holes (Vbenah.marksOf f x.2) (Vbenah.marksOf f x.1) = true) ⟨_, _, _, rfl, Same.refl _, fun x m => by simp at m⟩ (fun i σ H' hi ⟨_, _, _, _, s, _⟩ => Same.seq s (SqL.of h3)) (fun i v σ H1 H2 hi ⟨x1, y1, z1, e, s1, hno⟩ yy => ?_) fun σ H1 ⟨x1, y1, z1, e, s1, hno⟩ => ?_
  · subst e
    obtain ⟨rfl, pb, pr, rfl, hx, hF⟩ := yy
    obtain ⟨l1, l2⟩ := hW.pp pr (mem_of_get hx)
    obtain ⟨m2, hm2, hF2⟩ := paired_get h2' (mks_at l2)
    obtain ⟨m1, hm1, hF1⟩ := paired_get h2' (mks_at l1)
    refine ⟨pb, _, rfl, SqT.of (s1 _ _ hF), rfl, _, _, rfl, _, _, rfl, rfl, _, rfl, a, _, dx, _, _, rfl, s1 _ _ h1, k_State E, n_State_marks E, rfl, _, rfl, ma, _, (pr.2 : Nat), .ref m2, rfl, rfl, SqL.of (s1 _ _ h2), atI_nat (get_ref hm2), m2, rfl, ⟨_, SqL.of (s1 _ _ hF2)⟩, fun D hD => ?_⟩
    refine lc_it (walk_nums (l := Vbenah.holesOf f.holes (Vbenah.marksOf f pr.2))) (CL H2 D isB (Vbenah.holesOf f.holes (Vbenah.marksOf f pr.2)) fun h => some ((Vbenah.holesOf f.holes (Vbenah.marksOf f pr.1)).contains h)) (CL.start hD) (fun i H1 hi p => Same.seq p.same (SqL.of (s1 _ _ hF2))) (fun j x H3 H4 hj p y => ?_) fun H3 p => ?_
    · obtain ⟨rfl, h, rfl, hh⟩ := y
      have s4 := Same.trans s1 p.same
      refine ⟨rfl, yes_ ⟨_, rfl, _, rfl, a, _, dx, _, _, rfl, s4 _ _ h1, k_State E, n_State_marks E, rfl, _, rfl, ma, _, (pr.1 : Nat), .ref m1, rfl, rfl, SqL.of (s4 _ _ h2), atI_nat (get_ref hm1), m1, _, rfl, Or.inl (SqL.of (s4 _ _ hF1)), rfl, flat_nV _, ?_⟩⟩
      exact CL.put p (Same.refl _) hh rfl (Nat.le_trans (holes_len _ _) (by omega)) isB_mono fun _ _ => by
        show V.bl (inV _ _) = .bl _
        rw [inV_nV]
    · obtain ⟨s3, e3⟩ := p.bools
      have s4 := Same.trans s1 s3
      refine ⟨D, _, rfl, SqL.of e3, _, rfl, ?_⟩
      have ew : (Vbenah.holesOf f.holes (Vbenah.marksOf f pr.2)).all (fun h => (Vbenah.holesOf f.holes (Vbenah.marksOf f pr.1)).contains h) = Vbenah.within f.holes (Vbenah.marksOf f pr.2) (Vbenah.marksOf f pr.1) := by
        rw [within_eq]
        refine all_congr' fun h hh => ?_
        have hl := (mem_holes.mp hh).1
        rw [contains_dec]
        by_cases g : Vbenah.bit (Vbenah.marksOf f pr.1) h = true
        · rw [g, decide_eq_true (mem_holes.mpr ⟨hl, g⟩)]
        · rw [decide_eq_false fun z => g (mem_holes.mp z).2, Bool.eq_false_iff.mpr g]
      rw [all_map_id, ew]
      by_cases hwi : Vbenah.within f.holes (Vbenah.marksOf f pr.2) (Vbenah.marksOf f pr.1) = true
      · refine if_f (by rw [hwi]; rfl) ⟨_, _, _, rfl, s4, fun x m => ?_⟩
        rcases (take_mem hx x).mp m with m | m
        · exact hno x m
        · rw [m]
          exact hwi
      · refine if_t (by rw [Bool.eq_false_iff.mpr hwi]; rfl) ⟨_, rfl, _, rfl, (show 2 ≤ sizeLine by decide), fun r nr => k _ r pr ?_ (Same.trans s4 (Same.new nr)) upd_same⟩
        unfold Vbenah.unnested
        rw [List.find?_eq_some_iff_getElem]
        have hl : i < t.pairs.length := hi
        rw [List.getElem?_eq_getElem hl] at hx
        refine ⟨by rw [Bool.eq_false_iff.mpr hwi]; rfl, i, hl, Option.some.inj hx, fun j hj => ?_⟩
        rw [hno (t.pairs[j]'(by omega)) (by
          rw [List.mem_iff_getElem?]
          exact ⟨j, by rw [List.getElem?_take_of_lt hj, List.getElem?_eq_getElem]⟩)]
        rfl
  · subst e
    refine k0 _ ?_ s1
    unfold Vbenah.unnested
    rw [List.find?_eq_none]
    intro x hx
    rw [hno x (by rw [List.take_length]; exact hx)]
    decide
end
end Bw
namespace Bw
open PySem PySem.Spec PyProof.Rows L2
open Vbenah (File State Card Act)
section
variable {P : Program} {w : World} {K : PySem.W.Frag} {mg : Str → Option Value} {base : Heap}
def wbeh (ws row : List Nat) : List Nat := ws.filter fun w => match row.getLast? with
  | none => true
  | some x => decide (x < w)
def sp_words_behind (K : PySem.W.Frag) : Sp := fun vs H Q _ => ∃ (p q : Addr) (ws row : List Nat), vs = [.ref p, .ref q] ∧ LstN H p ws ∧ LstN H q row ∧ ws.length ≤ 100 ∧
  ∀ H' r, Same H H' → H' r = some (.lst (nV (wbeh ws row))) → Q (.ref r) H'
theorem len_words_behind (K : PySem.W.Frag) : ∀ vs H Q E, sp_words_behind K vs H Q E → vs.length = 2 := fun _ _ _ _ ⟨_, _, _, _, h, _⟩ => by rw [h]; rfl
theorem atI_last {α : Type} (l : List α) (x : α) : atI (l ++ [x]) (-1) = some x := by
  unfold atI ixN
  rw [if_neg (by decide), if_pos (by simp; omega)]
  have e : (-1 + (((l ++ [x]).length : Nat) : Int)).toNat = l.length := by simp; omega
  show (l ++ [x])[(-1 + (((l ++ [x]).length : Nat) : Int)).toNat]? = some x
  rw [e]
  simp
theorem sc_words_behind : FnScope (["words", "row", "word"] : List Str) ["words", "row"] (defScope s_words_behind) := C8.fnScope_by (by decide +kernel)
theorem c_words_behind (E : Env P w K mg base) : Cal P w K mg base CX0 1 "words_behind" (sp_words_behind K) := by
  have sc := sc_words_behind
  refine mkCal (st := s_words_behind) (E.top.d.def_ 33 (d := d_words_behind) rfl) (E.glo 33) sc (fun _ _ _ _ _ _ us hl => match us, hl with | [_, _], _ => rfl) (len_words_behind K) (fun cdv A outer s H vs Q X hr h => ⟨_, PSs.nox ((pss_one (ps_ret (pe_lc (own := [("word", 2)]) (g := (gName 2)) rfl sc.nd (pi_list (pv 0)) (blkOk_by (own := [("word", 2)]) (N := ["words", "row", "word"]) (sc := defScope s_words_behind) (by decide +kernel)) (fun _ _ _ _ _ => pg_name (i := 2) sc.nd rfl (Or.inl rfl)) (fun _ _ _ _ _ => (pts_one (PW.pt (pw_or (pt_cmpR (opEqD (K := K) hr.units) (pv 1) (pe_lst pa_nil) (nomark _)) (pw_or1 (pt_cmpR op_gt (pv 2) (pe_ix (ixL (K := K)) (pv 1) (pe_un un_neg pe_int) (fun _ _ => rfl)) (nomark _))))))) (fun _ _ _ _ _ => (pv 2)))))), ?_⟩)
  obtain ⟨p0, q, ws, row, rfl, hp, hq, hz, k⟩ := h
  refine ⟨_, rfl, p0, rfl, ⟨_, SqL.of hp⟩, fun D hD => ?_⟩
  refine lc_it (walk_nums (l := ws)) (CL H D isN ws fun w => if (match row.getLast? with | none => true | some x => decide (x < w)) = true then some w else none) (CL.start hD) (fun i H1 hi p => Same.seq p.same (SqL.of hp)) (fun i x H1 H2 hi p y => ?_) fun H1 p => ?_
  · obtain ⟨rfl, w, rfl, hx⟩ := y
    refine ⟨rfl, _, rfl, Nat.zero_le _, fun L nL => ⟨dL1 row, dL1 [], dpL (SqL.of (Same.new nL _ _ (p.same _ _ hq))), dpL (SqL.of upd_same), deL1.shaped (by decide) _, deL1.shaped (by decide) _, _, rfl, ?_⟩⟩
    rw [deL1.eq]
    rcases List.eq_nil_or_concat row with rfl | ⟨r', z, rfl⟩
    · refine if_t rfl (if_t rfl ⟨_, rfl, CL.put p (Same.new nL) hx rfl (by omega) isN_mono fun _ _ => rfl⟩)
    · rw [List.concat_eq_append] at hq p ⊢
      refine if_f (by simp) ⟨_, rfl, _, rfl, 1, rfl, q, _, -1, .int (z : Nat), rfl, rfl, SqL.of (Same.new nL _ _ (p.same _ _ hq)), by rw [nV_snoc]; exact atI_last _ _, _, _, rfl, rfl, _, rfl, ite2 (fun hc => ?_) fun hc => ?_⟩
      · have hc := of_decide_eq_true hc
        refine ⟨_, rfl, CL.put p (Same.new nL) hx (if_pos ?_) (by omega) isN_mono fun _ _ => rfl⟩
        simp
        omega
      · have hc : ¬ (z : Int) < w := fun z2 => hc (decide_eq_true z2)
        refine CL.skip p (Same.new nL) hx (if_neg ?_)
        simp
        omega
  · obtain ⟨B, vs, q1, q2, q3, q4, q5⟩ := p.fin
    rw [filterMap_filter' (fun w => match row.getLast? with | none => true | some x => decide (x < w))] at q5
    rw [paired_isN q5] at q4
    exact k _ _ (Same.trans q1 q2) q4
def rowsN (ws : List Nat) : Nat → List (List Nat)
  | 0 => [[]]
  | k + 1 => (rowsN ws k).flatMap fun r => (wbeh ws r).map fun w => r ++ [w]
def sp_rows_of (K : PySem.W.Frag) : Sp := fun vs H Q _ => ∃ (p : Addr) (ws : List Nat) (k : Nat), vs = [.ref p, .int (k : Nat)] ∧ LstN H p ws ∧ ws.length ≤ 12 ∧ k ≤ 3 ∧
  ∀ H' r, Same H H' → MarksAt H' r (rowsN ws k) → Q (.ref r) H'
theorem len_rows_of (K : PySem.W.Frag) : ∀ vs H Q E, sp_rows_of K vs H Q E → vs.length = 2 := fun _ _ _ _ ⟨_, _, _, h, _⟩ => by rw [h]; rfl
theorem wbeh_len (ws r : List Nat) : (wbeh ws r).length ≤ ws.length := List.length_filter_le _ _
theorem fl_len {ws : List Nat} (hw : ws.length ≤ 12) (l : List (List Nat)) : (l.flatMap fun r => (wbeh ws r).map fun w => r ++ [w]).length ≤ 12 * l.length := by
  induction l with
  | nil => simp
  | cons x l ih =>
    have := wbeh_len ws x
    rw [List.flatMap_cons, List.length_append, List.length_map, List.length_cons]
    omega
theorem rowsN_len {ws : List Nat} (hw : ws.length ≤ 12) : ∀ k, (rowsN ws k).length ≤ 12 ^ k
  | 0 => by simp [rowsN]
  | k + 1 => by
    have := fl_len hw (rowsN ws k)
    have := rowsN_len hw k
    rw [Nat.pow_succ]
    show ((rowsN ws k).flatMap _).length ≤ _
    omega
theorem rowsN_rlen {ws : List Nat} : ∀ k, ∀ r ∈ rowsN ws k, r.length = k
  | 0, r, h => by
    simp [rowsN] at h
    simp [h]
  | k + 1, r, h => by
    obtain ⟨q, h1, h2⟩ := List.mem_flatMap.mp h
    obtain ⟨w, _, rfl⟩ := List.mem_map.mp h2
    rw [List.length_append, rowsN_rlen k q h1]
    rfl
theorem rowsN_mem {ws : List Nat} : ∀ k, ∀ r ∈ rowsN ws k, ∀ x ∈ r, x ∈ ws
  | 0, r, h, x, hx => by
    simp [rowsN] at h
    rw [h] at hx
    cases hx
  | k + 1, r, h, x, hx => by
    obtain ⟨q, h1, h2⟩ := List.mem_flatMap.mp h
    obtain ⟨w, h3, rfl⟩ := List.mem_map.mp h2
    rcases List.mem_append.mp hx with m | m
    · exact rowsN_mem k q h1 x m
    · rw [List.mem_singleton.mp m]
      exact (List.mem_filter.mp h3).1
theorem sc_rows_of : FnScope (["words", "size", "found", "turn", "longer", "row", "word"] : List Str) ["words", "size"] (defScope s_rows_of) := C8.fnScope_by (by decide +kernel)
theorem c_rows_of (E : Env P w K mg base) : Cal P w K mg base CX0 2 "rows_of" (sp_rows_of K) := by
  have sc := sc_rows_of
  refine mkCal (st := s_rows_of) (E.top.d.def_ 32 (d := d_rows_of) rfl) (E.glo 32) sc (fun _ _ _ _ _ _ us hl => match us, hl with | [_, _], _ => rfl) (len_rows_of K) (fun cdv A outer s H vs Q X hr h => ⟨_, PSs.nox ((pss_cons (ps_set (i := 2) sc.nd rfl (Or.inl rfl) (pe_lst (pa_cons (pe_lst pa_nil) pa_nil)))
    (pss_cons (ps_for PassesOwn.never rfl (pi_range1 (by rfl) (fr_range E) (pa_cons (pv 1) pa_nil)) (pg_name (i := 3) sc.nd rfl (Or.inl rfl))
    (pss_cons (ps_set (i := 4) sc.nd rfl (Or.inl rfl) (pe_lst pa_nil))
    (pss_cons (ps_for PassesOwn.never rfl (pi_list (pv 2)) (pg_name (i := 5) sc.nd rfl (Or.inr rfl))
    (pss_one (ps_expr (pe_bm PySem.F.plainAttrs_list PySem.F.slot_list_extend PySem.F.type_list_extend mt_extend (pv 4) (pa_cons (pe_lc (own := [("word", 6)]) (g := (gName 6)) rfl sc.nd (pi_list (pe_c (c_words_behind E) hr (by decide) rfl pass0 (pa_cons (pv 0) (pa_cons (pv 5) pa_nil)))) (blkOk_by (own := [("word", 6)]) (N := ["words", "size", "found", "turn", "longer", "row", "word"]) (sc := defScope s_rows_of) (by decide +kernel)) (fun _ _ _ _ _ => pg_name (i := 6) sc.nd rfl (Or.inl rfl)) (fun _ _ _ _ _ => pts_nil) (fun _ _ _ _ _ => (pe_op op_cat (pv 5) (pe_lst (pa_cons (pv 6) pa_nil))))) pa_nil)))))
    (pss_one (ps_set (i := 2) sc.nd rfl (Or.inl rfl) (pv 4))))))
    (pss_one (ps_ret (pv 2)))))), ?_⟩)
  obtain ⟨p0, ws, n, rfl, hp, hz, hn, k⟩ := h
  refine ⟨Nat.zero_le _, fun L0 n0 => ⟨(show 1 ≤ sizeLine by decide), fun r0 nr0 => ⟨_, rfl, _, rfl, by omega, by omega, ?_⟩⟩⟩
  have s0 : Same H (upd (upd H L0 (.lst [])) r0 (.lst [.ref L0])) := Same.trans (Same.new n0) (Same.new nr0)
  refine for_it walk_rngN (fun i σ H' => ∃ r x3 x4 x5 x6, σ = [some (.ref p0), some (.int (n : Nat)), some (.ref r), x3, x4, x5, x6] ∧ Same H H' ∧ MarksAt H' r (rowsN ws i))
    ⟨r0, _, _, _, _, rfl, s0, [L0], upd_same, .cons (Same.new nr0 _ _ upd_same) .nil⟩ (fun i σ H' hi _ => trivial) (fun i v σ H1 H2 hi ⟨r, x3, x4, x5, x6, e, s1, bs, e1, e2⟩ yy => ?_) fun σ H1 ⟨r, x3, x4, x5, x6, e, s1, hM⟩ => ?_
  · subst e
    obtain ⟨rfl, rfl⟩ := yy
    refine ⟨Nat.zero_le _, fun lg nlg => ⟨_, rfl, r, rfl, ⟨_, SqL.of (Same.new nlg _ _ e1)⟩, ?_⟩⟩
    refine for_it (walk_refs e2) (fun j σ H' => ∃ x5 x6 B cs, σ = [some (.ref p0), some (.int (n : Nat)), some (.ref r), some (.int (i : Nat)), some (.ref lg), x5, x6] ∧ Same H2 B ∧ Same B H' ∧ B lg = none ∧ H' lg = some (.lst (List.map V.ref cs)) ∧ Paired (LstN B) cs (((rowsN ws i).take j).flatMap fun r => (wbeh ws r).map fun w => r ++ [w]))
      ⟨_, _, H2, [], rfl, Same.refl _, Same.new nlg, nlg, upd_same, .nil⟩ (fun j σ H' hj ⟨_, _, B, _, _, g1, g2, _⟩ => Same.seq (Same.trans g1 g2) (SqL.of e1)) (fun j v σ H3 H4 hj ⟨y5, y6, B, cs, e, g1, g2, g3, g4, g5⟩ yy => ?_) fun σ H3 ⟨y5, y6, B, cs, e, g1, g2, g3, g4, g5⟩ => ?_
    · subst e
      obtain ⟨rfl, ra, row, rfl, hx, hra⟩ := yy
      have s24 := Same.trans g1 g2
      have s04 := Same.trans s1 s24
      have hpw : ws.length ≤ 100 := by omega
      refine ⟨_, rfl, ty_lst g4, _, rfl, _, rfl, p0, ra, ws, row, rfl, s04 _ _ hp, s24 _ _ hra, hpw, fun H5 q s5 e5 => ⟨q, rfl, ⟨_, SqL.of e5⟩, fun D nD => ?_⟩⟩
      have hra5 := s5 _ _ (s24 _ _ hra)
      have g45 := s5 _ _ g4
      have hrow : row.length = i := rowsN_rlen i row (mem_of_get hx)
      refine lc_it (walk_nums (l := wbeh ws row)) (CL H5 D (isR fun B b r => LstN B b r ∧ b ≠ lg) (wbeh ws row) fun w => some (row ++ [w])) (CL.start nD) (fun m H' hm p => p.same.seq (SqL.of e5)) (fun m x H6 H7 hm p y => ?_) fun H6 p => ?_
      · obtain ⟨rfl, w, rfl, hw⟩ := y
        refine ⟨rfl, yes_ ⟨_, rfl, _, rfl, (show 1 ≤ sizeLine by decide), fun L1 n1 => ⟨ra, L1, nV row, [.int (w : Nat)], rfl, rfl, Same.new n1 _ _ (p.same _ _ hra5), upd_same, ?_, fun rr nrr => ?_⟩⟩⟩
        · rw [nV_len]
          exact sz_le (by simp; omega)
        · have hin : i < n := hi
          obtain ⟨vs, edd⟩ := p.dd
          have s67 := Same.trans (Same.new (o := .lst [V.int (w : Nat)]) n1) (Same.new (o := .lst (nV row ++ [V.int (w : Nat)])) nrr)
          refine CL.put p s67 hw rfl (by have := wbeh_len ws row; omega) (isR_mono fun B B' b y s q => ⟨s _ _ q.1, q.2⟩) fun B hB => ⟨rr, rfl, ?_, ?_⟩
          · rw [LstN, nV_snoc]
            refine hB _ _ (fun z => ?_) upd_same
            have := Same.new (o := .lst [V.int (w : Nat)]) n1 _ _ edd
            rw [← z, nrr] at this
            cases this
          · intro z
            have := Same.new (o := .lst [V.int (w : Nat)]) n1 _ _ (p.same _ _ g45)
            rw [← z, nrr] at this
            cases this
      · obtain ⟨B', vs, f1, f2, f3, f4, f5⟩ := p.fin
        rw [filterMap_some'] at f5
        obtain ⟨bs2, rfl, f6⟩ := paired_isR f5
        have s56 := Same.trans f1 f2
        have hln := fl_len hz ((rowsN ws i).take j)
        have l0 := rowsN_len hz i
        have l1 := paired_len g5
        have l2 := paired_len f6
        have l3 := wbeh_len ws row
        have hin : i < n := hi
        have hp12 : 12 ^ i ≤ 12 ^ 2 := Nat.pow_le_pow_right (by decide) (by omega)
        have hj2 : j < (rowsN ws i).length := hj
        have hjl : ((rowsN ws i).take j).length ≤ j := by simp; omega
        rw [List.length_map] at l2
        refine ⟨lg, D, _, _, rfl, rfl, s56 _ _ g45, f4, ?_, ?_⟩
        · rw [List.length_map, List.length_map, l1, l2]
          exact sz_le (by omega)
        rw [← List.map_append]
        have k1 : ∀ b o, H6 b = some o → b ≠ lg → del H6 lg b = some o := fun b o e n => by rw [del_ne n]; exact e
        refine ⟨_, _, del H6 lg, cs ++ bs2, rfl, fun b o e => k1 _ _ (s56 _ _ (s5 _ _ (g2 _ _ (g1 _ _ e)))) (ne_of_none (g1 _ _ e) g3), fun b o e => ?_, del_same, upd_same, ?_⟩
        · have hne : b ≠ lg := ne_of_none e del_same
          rw [upd_ne hne]
          rw [del_ne hne] at e
          exact e
        · rw [List.take_succ, hx, List.flatMap_append]
          refine paired_append (paired_same (fun b x q => k1 _ _ (s56 _ _ (s5 _ _ (g2 _ _ q))) (ne_of_none q g3)) g5) ?_
          have e9 : ((some row).toList.flatMap fun r => (wbeh ws r).map fun w => r ++ [w]) = (wbeh ws row).map fun w => row ++ [w] := by simp
          rw [e9]
          exact paired_same (fun b x q => k1 _ _ (f2 _ _ q.1) q.2) f6
    · subst e
      refine ⟨_, rfl, lg, _, _, _, _, rfl, Same.trans s1 (Same.trans g1 g2), cs, g4, ?_⟩
      rw [List.take_length] at g5
      exact paired_same (fun b x q => g2 _ _ q) g5
  · subst e
    exact ⟨_, rfl, k _ r s1 hM⟩
def holdAll (f : File) (s : State) (w : Nat) (r : List Nat) : Bool := Vbenah.within f.holes (Vbenah.marksOf f w) (r.foldl (fun m x => Vbenah.both f.holes m (Vbenah.posted f s.pairs x)) 0)
def sp_hold_all (K : PySem.W.Frag) : Sp := fun vs H Q _ => ∃ (a q : Addr) (f : File) (s : State) (b w : Nat) (r : List Nat), vs = [.ref a, .ref q, .int (w : Nat)] ∧ SV K H a f s ∧ WS f s b ∧ w < f.words.length ∧ LstN H q r ∧ r.length ≤ 10 ∧ (∀ x ∈ r, x < f.words.length) ∧
  ∀ H', Same H H' → Q (.bl (holdAll f s w r)) H'
theorem len_hold_all (K : PySem.W.Frag) : ∀ vs H Q E, sp_hold_all K vs H Q E → vs.length = 3 := fun _ _ _ _ ⟨_, _, _, _, _, _, _, h, _⟩ => by rw [h]; rfl
theorem sc_hold_all : FnScope (["state", "row", "word", "holes", "one", "hole"] : List Str) ["state", "row", "word"] (defScope s_hold_all) := C8.fnScope_by (by decide +kernel)
theorem c_hold_all (E : Env P w K mg base) : Cal P w K mg base CX0 4 "hold_all" (sp_hold_all K) := by
  have sc := sc_hold_all
  refine mkCal (st := s_hold_all) (E.top.d.def_ 34 (d := d_hold_all) rfl) (E.glo 34) sc (fun _ _ _ _ _ _ us hl => match us, hl with | [_, _, _], _ => rfl) (len_hold_all K) (fun cdv A outer s H vs Q X hr h => ⟨_, PSs.nox ((pss_cons (ps_set (i := 3) sc.nd rfl (Or.inr rfl) (pe_lst pa_nil))
    (pss_cons (ps_for PassesOwn.never rfl (pi_list (pv 1)) (pg_name (i := 4) sc.nd rfl (Or.inl rfl))
    (pss_one (ps_expr (pe_bm PySem.F.plainAttrs_list PySem.F.slot_list_extend PySem.F.type_list_extend mt_extend (pv 3) (pa_cons (pe_c (c_posted E) hr (by decide) rfl pass0 (pa_cons (pv 0) (pa_cons (pv 4) pa_nil))) pa_nil)))))
    (pss_one (ps_ret (pe_callB (cr_all rfl) rfl (fr_all E) (by decide +kernel) (pa_cons (pe_lc (own := [("hole", 5)]) (g := (gName 5)) rfl sc.nd (pi_list (pe_ix (ixL (K := K)) (peF (K := K) (pv 0) rfl) (pv 2) (fun _ _ => rfl))) (blkOk_by (own := [("hole", 5)]) (N := ["state", "row", "word", "holes", "one", "hole"]) (sc := defScope s_hold_all) (by decide +kernel)) (fun _ _ _ _ _ => pg_name (i := 5) sc.nd rfl (Or.inl rfl)) (fun _ _ _ _ _ => pts_nil) (fun _ _ _ _ _ => (pe_cmpR (opIn (K := K)) (pv 5) (pv 3) (by rfl)))) pa_nil))))))), ?_⟩)
  obtain ⟨a, q, f, t, b, w, row, rfl, hS, hW, hw, hq, hl, hr, k⟩ := h
  have hho := hW.ho
  refine ⟨Nat.zero_le _, fun hd nhd => ?_⟩
  have s0 : Same H (upd H hd (.lst [])) := Same.new nhd
  refine ⟨_, rfl, q, rfl, ⟨_, SqL.of (s0 _ _ hq)⟩, ?_⟩
  refine for_it (walk_nums (l := row)) (fun i σ H' => ∃ x4 x5 hs, σ = [some (.ref a), some (.ref q), some (.int (w : Nat)), some (.ref hd), x4, x5] ∧ Same H H' ∧ LstN H' hd hs ∧ hs.length ≤ 16 * i ∧ ∀ h, h ∈ hs ↔ ∃ x ∈ row.take i, h ∈ Vbenah.holesOf f.holes (Vbenah.posted f t.pairs x))
    ⟨_, _, [], rfl, s0, upd_same, Nat.zero_le _, fun h => by simp⟩ (fun i σ H' hi ⟨_, _, _, _, s, _⟩ => SqL.of (s _ _ hq)) (fun i v σ H1 H2 hi ⟨x4, x5, hs, e, s1, eh, ln, hm⟩ yy => ?_) fun σ H1 ⟨x4, x5, hs, e, s1, eh, ln, hm⟩ => ?_
  · subst e
    obtain ⟨rfl, x, rfl, hx⟩ := yy
    have hi2 : i < row.length := hi
    refine ⟨_, rfl, ty_lst eh, _, rfl, _, rfl, a, f, t, b, x, rfl, hS.same s1, hW, hr x (mem_of_get hx), fun H3 r s3 e3 => ⟨hd, r, _, _, rfl, rfl, s3 _ _ eh, e3, ?_, ?_⟩⟩
    · have := holes_len f.holes (Vbenah.posted f t.pairs x)
      rw [nV_len, nV_len]
      exact sz_le (by omega)
    · rw [← nV_append]
      refine ⟨_, _, hs ++ Vbenah.holesOf f.holes (Vbenah.posted f t.pairs x), rfl, Same.put (Same.trans s1 s3) nhd, upd_same, ?_, fun h => ?_⟩
      · have := holes_len f.holes (Vbenah.posted f t.pairs x)
        rw [List.length_append]
        omega
      · rw [List.mem_append, hm]
        constructor
        · rintro (⟨y, q1, q2⟩ | q1)
          · exact ⟨y, (take_mem hx y).mpr (Or.inl q1), q2⟩
          · exact ⟨x, (take_mem hx x).mpr (Or.inr rfl), q1⟩
        · rintro ⟨y, q1, q2⟩
          rcases (take_mem hx y).mp q1 with q | q
          · exact Or.inl ⟨y, q, q2⟩
          · exact Or.inr (q ▸ q2)
  · subst e
    obtain ⟨dx, ma, la, ca, h1, ⟨ms, h2, h2'⟩, h3, h5⟩ := hS
    obtain ⟨mb, hmb, hmF⟩ := paired_get h2' (mks_at hw)
    refine ⟨_, rfl, a, _, dx, _, _, rfl, s1 _ _ h1, k_State E, n_State_marks E, rfl, _, rfl, ma, _, (w : Nat), .ref mb, rfl, rfl, SqL.of (s1 _ _ h2), atI_nat (get_ref hmb), mb, rfl, ⟨_, SqL.of (s1 _ _ hmF)⟩, fun D hD => ?_⟩
    refine lc_it (walk_nums (l := Vbenah.holesOf f.holes (Vbenah.marksOf f w))) (CL H1 D isB (Vbenah.holesOf f.holes (Vbenah.marksOf f w)) fun h => some (hs.contains h)) (CL.start hD) (fun i H3 hi p => Same.seq p.same (SqL.of (s1 _ _ hmF))) (fun j x H3 H4 hj p y => ?_) fun H3 p => ?_
    · obtain ⟨rfl, h, rfl, hh⟩ := y
      refine ⟨rfl, yes_ ⟨_, rfl, _, rfl, hd, _, rfl, Or.inl (SqL.of (p.same _ _ eh)), rfl, flat_nV _, ?_⟩⟩
      exact CL.put p (Same.refl _) hh rfl (Nat.le_trans (holes_len _ _) (by omega)) isB_mono fun _ _ => by
        show V.bl (inV _ _) = .bl _
        rw [inV_nV]
    · obtain ⟨s3, e3⟩ := p.bools
      refine ⟨D, _, rfl, SqL.of e3, ?_⟩
      have ew : (Vbenah.holesOf f.holes (Vbenah.marksOf f w)).all (fun h => hs.contains h) = holdAll f t w row := by
        unfold holdAll
        rw [within_eq]
        refine all_congr' fun h hh => ?_
        have hl2 := (mem_holes.mp hh).1
        rw [contains_dec]
        have key : h ∈ hs ↔ Vbenah.bit (row.foldl (fun m x => Vbenah.both f.holes m (Vbenah.posted f t.pairs x)) 0) h = true := by
          rw [hm, bit_fold, bit_zero, List.take_length]
          constructor
          · rintro ⟨x, q1, q2⟩
            exact Or.inr ⟨hl2, x, q1, (mem_holes.mp q2).2⟩
          · rintro (q | ⟨_, x, q1, q2⟩)
            · cases q.1
            · exact ⟨x, q1, mem_holes.mpr ⟨hl2, q2⟩⟩
        by_cases g : h ∈ hs
        · rw [decide_eq_true g, key.mp g]
        · rw [decide_eq_false g, Bool.eq_false_iff.mpr fun z => g (key.mpr z)]
      rw [all_map_id, ew]
      exact k _ (Same.trans s1 s3)
def sp_mixers (K : PySem.W.Frag) : Sp := fun vs H Q _ => ∃ (a : Addr) (f : File) (s : State) (b w : Nat), vs = [.ref a, .int (w : Nat)] ∧ SV K H a f s ∧ WS f s b ∧ w < f.words.length ∧ (∃ h, h < f.holes ∧ Vbenah.bit (Vbenah.marksOf f w) h = true) ∧
  (∀ H', Vbenah.mixers f s w = none → Same H H' → Q .non H') ∧ ∀ H' p l, Vbenah.mixers f s w = some l → Same H H' → LstN H' p l → l.length ≤ 10 → Q (.ref p) H'
theorem len_mixers (K : PySem.W.Frag) : ∀ vs H Q E, sp_mixers K vs H Q E → vs.length = 2 := fun _ _ _ _ ⟨_, _, _, _, _, h, _⟩ => by rw [h]; rfl
theorem wbeh_skip {x : Nat} {l r : List Nat} {z : Nat} (h : x < z) : wbeh (x :: l) (r ++ [z]) = wbeh l (r ++ [z]) := by
  unfold wbeh
  rw [List.filter_cons, if_neg]
  simp
  omega
theorem rowsN_cons {x : Nat} {l : List Nat} (h : ∀ y ∈ l, x < y) : ∀ k, rowsN (x :: l) (k + 1) = (rowsN l k).map (fun r => x :: r) ++ rowsN l (k + 1)
  | 0 => by
    simp [rowsN, wbeh]
  | k + 1 => by
    show (rowsN (x :: l) (k + 1)).flatMap (fun r => (wbeh (x :: l) r).map fun w => r ++ [w]) = _
    rw [rowsN_cons h k, List.flatMap_append]
    congr 1
    · rw [List.flatMap_map]
      show _ = ((rowsN l k).flatMap fun r => (wbeh l r).map fun w => r ++ [w]).map _
      rw [List.map_flatMap]
      rw [List.flatMap_def, List.flatMap_def]
      congr 1
      refine List.map_congr_left fun r hr => ?_
      rw [List.map_map]
      have e : wbeh (x :: l) (x :: r) = wbeh l r := by
        rcases List.eq_nil_or_concat r with rfl | ⟨r', z, rfl⟩
        · unfold wbeh
          rw [List.filter_cons, if_neg (by simp)]
          refine List.filter_congr fun y hy => ?_
          simp [h y hy]
        · rw [List.concat_eq_append] at *
          have hz : z ∈ l := rowsN_mem k _ hr z (by simp)
          rw [show x :: (r' ++ [z]) = (x :: r') ++ [z] from rfl, wbeh_skip (h z hz)]
          unfold wbeh
          refine List.filter_congr fun y hy => ?_
          have e1 : ((x :: r') ++ [z]).getLast? = some z := by rw [List.getLast?_append]; rfl
          have e2 : (r' ++ [z]).getLast? = some z := by rw [List.getLast?_append]; rfl
          rw [e1, e2]
      rw [e]
      rfl
    · show _ = (rowsN l (k + 1)).flatMap _
      rw [List.flatMap_def, List.flatMap_def]
      congr 1
      refine List.map_congr_left fun r hr => ?_
      have hl := rowsN_rlen _ r hr
      rcases List.eq_nil_or_concat r with rfl | ⟨r', z, rfl⟩
      · cases hl
      · rw [List.concat_eq_append] at *
        rw [wbeh_skip (h z (rowsN_mem _ _ hr z (by simp)))]
theorem rows_some : ∀ {l : List Nat} (k : Nat), Asc l → rowsN l k = Vbenah.some_ k l
  | l, 0, _ => by cases l <;> rfl
  | [], k + 1, _ => by
    have e : ∀ k, rowsN [] (k + 1) = [] := fun k => by
      show (rowsN [] k).flatMap (fun r => (wbeh [] r).map fun w => r ++ [w]) = []
      simp [wbeh]
    rw [e]
    rfl
  | x :: l, k + 1, h => by
    obtain ⟨h1, h2⟩ := List.pairwise_cons.mp h
    rw [rowsN_cons h1, rows_some k h2, rows_some (k + 1) h2]
    rfl
def others (f : File) (s : State) (w : Nat) : List Nat := (List.range f.words.length).filter fun x => !(Vbenah.selfAbove s.pairs f.words.length x).contains w
theorem mix_eq (f : File) (s : State) (w : Nat) : Vbenah.mixers f s w = (List.range 4).findSome? fun n => (Vbenah.some_ n (others f s w)).find? (holdAll f s w) := rfl
theorem mix_none {f : File} {s : State} {w : Nat} (h : ∀ n, n < 4 → ∀ r ∈ Vbenah.some_ n (others f s w), holdAll f s w r = false) : Vbenah.mixers f s w = none := by
  rw [mix_eq, List.findSome?_eq_none_iff]
  intro n hn
  rw [List.find?_eq_none]
  intro r hr
  rw [h n (List.mem_range.mp hn) r hr]
  decide
theorem mix_some {f : File} {s : State} {w n : Nat} {r : List Nat} (hn : n < 4) (h : ∀ m, m < n → ∀ r ∈ Vbenah.some_ m (others f s w), holdAll f s w r = false) (h2 : (Vbenah.some_ n (others f s w)).find? (holdAll f s w) = some r) : Vbenah.mixers f s w = some r := by
  have e : ∀ m, m < n → (Vbenah.some_ m (others f s w)).find? (holdAll f s w) = none := fun m hm => by
    rw [List.find?_eq_none]
    intro r hr
    rw [h m hm r hr]
    decide
  rw [mix_eq]
  show ([0, 1, 2, 3] : List Nat).findSome? _ = _
  match n, hn with
  | 0, _ => simp only [List.findSome?_cons, h2]
  | 1, _ => simp only [List.findSome?_cons, h2, e 0 (by decide)]
  | 2, _ => simp only [List.findSome?_cons, h2, e 0 (by decide), e 1 (by decide)]
  | 3, _ => simp only [List.findSome?_cons, h2, e 0 (by decide), e 1 (by decide), e 2 (by decide)]
theorem walk_rng13 : Walk (Itr 1 (((3 : Int) + 1) - 1).toNat) 3 (fun _ => True) (fun i H v H' => H' = H ∧ v = .int ((i + 1 : Nat))) := by
  have e : (((3 : Int) + 1) - 1).toNat = 3 := by decide
  rw [e]
  exact Walk.mono walk_range (fun H h => h) fun i H v H' _ _ y => ⟨y.1, by rw [y.2]; show V.int ((1 : Int) + (i : Nat)) = V.int ((i + 1 : Nat)); congr 1; omega⟩
theorem sc_mixers : FnScope (["state", "word", "under", "one", "words", "size", "row"] : List Str) ["state", "word"] (defScope s_mixers) := C8.fnScope_by (by decide +kernel)
theorem c_mixers (E : Env P w K mg base) : Cal P w K mg base CX0 5 "mixers" (sp_mixers K) := by
  have sc := sc_mixers
  refine mkCal (st := s_mixers) (E.top.d.def_ 35 (d := d_mixers) rfl) (E.glo 35) sc (fun _ _ _ _ _ _ us hl => match us, hl with | [_, _], _ => rfl) (len_mixers K) (fun cdv A outer s H vs Q X hr h => ⟨_, PSs.nox ((pss_cons (ps_set (i := 2) sc.nd rfl (Or.inr rfl) (pe_c (c_below E) hr (by decide) rfl pass0 (pa_cons (pv 0) (pa_cons (pv 1) pa_nil))))
    (pss_cons (ps_setLc (i := 4) (own := [("one", 3)]) (g := (gName 3)) rfl sc.nd rfl rfl (sw_true rfl rfl rfl (by decide +kernel)) (pi_range1 (by rfl) (fr_range E) (pa_cons (pe_callB (clen (K := K)) rfl (fr_len E) (by decide +kernel) (pa_cons (peF (K := K) (pv 0) rfl) pa_nil)) pa_nil)) (blkOk_by (own := [("one", 3)]) (N := ["state", "word", "under", "one", "words", "size", "row"]) (sc := defScope s_mixers) (by decide +kernel)) (fun _ _ _ _ _ => pg_name (i := 3) sc.nd rfl (Or.inl rfl)) (fun _ _ _ _ _ => (pts_one (PW.pt (pw_and (pt_cmpR op_ne (pv 3) (pv 1) (nomark _)) (pw_and1 (pt_cmpR (opNi (K := K)) (pv 3) (pv 2) (by rfl))))))) (fun _ _ _ _ _ => (pv 3)))
    (pss_cons (ps_for PassesOwn.never rfl (pi_range2 (by rfl) (fr_range E) (pa_cons pe_int (pa_cons (pe_op op_add (C8.pe_gc rfl (g_MOST_MIXERS E)) pe_int) pa_nil))) (pg_name (i := 5) sc.nd rfl (Or.inl rfl))
    (pss_one (ps_for PassesOwn.never rfl (pi_list (pe_c (c_rows_of E) hr (by decide) rfl pass0 (pa_cons (pv 4) (pa_cons (pv 5) pa_nil)))) (pg_name (i := 6) sc.nd rfl (Or.inl rfl))
    (pss_one (ps_if (pt_val (pe_c (c_hold_all E) hr (by decide) rfl pass0 (pa_cons (pv 0) (pa_cons (pv 6) (pa_cons (pv 1) pa_nil))))) (pss_one (ps_ret (pv 6))) pss_nil)))))
    (pss_one (ps_ret pe_non)))))), ?_⟩)
  obtain ⟨a, f, t, b, w, rfl, hS, hW, hw, hmk, k0, k⟩ := h
  have hn := hW.hn
  refine ⟨_, rfl, _, rfl, a, f, t, b, w, rfl, hS, hW, fun H1 u s1 e1 => ?_⟩
  obtain ⟨dx, ma, la, ca, h1, ⟨ms, h2, h2'⟩, h3, h5⟩ := hS
  have hS : SV K H a f t := ⟨dx, ma, la, ca, h1, ⟨ms, h2, h2'⟩, h3, h5⟩
  have em : (ms.map V.ref).length = f.words.length := by rw [List.length_map, paired_len h2', mks_len]
  refine ⟨_, rfl, a, _, dx, _, _, rfl, s1 _ _ h1, k_State E, n_State_marks E, rfl, ma, _, rfl, Or.inl (SqL.of (s1 _ _ h2)), _, rfl, by omega, by rw [em]; omega, fun D hD => ?_⟩
  rw [em]
  refine lc_it walk_rngN (CL H1 D isN (List.range f.words.length) fun o => if (o != w && !(blw t.pairs f.words.length w).contains o) = true then some o else none) (CL.start hD) (fun i H1 hi p => trivial) (fun i x H2 H3 hi p y => ?_) fun H2 p => ?_
  · obtain ⟨rfl, rfl⟩ := y
    have hi' : i < f.words.length := hi
    have hx : (List.range f.words.length)[i]? = some i := List.getElem?_range hi'
    refine ⟨rfl, _, rfl, _, rfl, rfl, _, rfl, ?_⟩
    rw [dN]
    by_cases hiw : i = w
    · refine if_f (by simp [hiw]) ?_
      exact if_f rfl (CL.skip p (Same.refl _) hx (if_neg (by simp [hiw])))
    · have e9 : (i == w) = false := beq_eq_false_iff_ne.mpr hiw
      refine if_t (by rw [e9]; rfl) ⟨_, rfl, _, rfl, u, _, rfl, Or.inl (SqL.of (p.same _ _ e1)), rfl, flat_nV _, _, rfl, ?_⟩
      rw [if_pos rfl, inV_nV]
      refine ite2 (fun hc => ?_) fun hc => ?_
      · exact ⟨_, rfl, CL.put p (Same.refl _) hx (if_pos (by rw [hc]; simp [hiw])) (by rw [List.length_range]; omega) isN_mono fun _ _ => rfl⟩
      · exact CL.skip p (Same.refl _) hx (if_neg (by rw [Bool.eq_false_iff.mpr hc]; simp))
  · have p2 : CL H1 D isN (List.range f.words.length) (fun o => if (o != w && !(blw t.pairs f.words.length w).contains o) = true then some o else none) (List.range f.words.length).length H2 := by
      rw [List.length_range]
      exact p
    obtain ⟨B, vs, q1, q2, q3, q4, q5⟩ := p2.fin
    rw [filterMap_filter' (fun o => o != w && !(blw t.pairs f.words.length w).contains o)] at q5
    rw [paired_isN q5] at q4
    have eo : (List.range f.words.length).filter (fun o => o != w && !(blw t.pairs f.words.length w).contains o) = others f t w := by
      unfold others
      refine List.filter_congr fun o ho => ?_
      have ho := List.mem_range.mp ho
      have key := mem_selfAbv (p := t.pairs) (b := w) hW.pp ho
      have key2 : o ∈ blw t.pairs f.words.length w ↔ w ∈ abv t.pairs f.words.length o := by
        unfold blw
        rw [List.mem_filter, List.mem_range, List.contains_iff_mem]
        exact ⟨fun q => q.2, fun q => ⟨ho, q⟩⟩
      rw [contains_dec, contains_dec]
      by_cases g1 : o = w
      · rw [decide_eq_true (key.mpr (Or.inl g1.symm))]
        simp [g1]
      · by_cases g2 : w ∈ abv t.pairs f.words.length o
        · rw [decide_eq_true (key.mpr (Or.inr g2)), decide_eq_true (key2.mpr g2)]
          simp
        · rw [decide_eq_false fun z => (key.mp z).elim (fun e => g1 e.symm) g2, decide_eq_false fun z => g2 (key2.mp z)]
          simp [g1]
    rw [eo] at q4
    have s2 : Same H H2 := Same.trans s1 (Same.trans q1 q2)
    have hoA : Asc (others f t w) := asc_filter (asc_range _) _
    have hol : (others f t w).length ≤ 12 := by
      have : (others f t w).length ≤ f.words.length := by
        unfold others
        refine Nat.le_trans (List.length_filter_le _ _) ?_
        rw [List.length_range]
        exact Nat.le_refl _
      omega
    have hon : ∀ x ∈ others f t w, x < f.words.length := fun x hx => List.mem_range.mp (List.mem_filter.mp hx).1
    have h00 : ∀ r ∈ Vbenah.some_ 0 (others f t w), holdAll f t w r = false := fun r hr => by
      rw [← rows_some 0 hoA] at hr
      have hr : r = [] := by simpa [rowsN] using hr
      subst hr
      obtain ⟨h, g1, g2⟩ := hmk
      unfold holdAll
      rw [within_eq]
      refine Bool.eq_false_iff.mpr fun z => ?_
      have := List.all_eq_true.mp z h (mem_holes.mpr ⟨g1, g2⟩)
      simp [bit_zero] at this
    refine ⟨3, 1, rfl, rfl, 1, _, rfl, by decide, ?_⟩
    refine for_it walk_rng13 (fun i σ H' => ∃ x3 x5 x6, σ = [some (.ref a), some (.int (w : Nat)), some (.ref u), x3, some (.ref D), x5, x6] ∧ Same H2 H' ∧ ∀ m, m < i + 1 → ∀ r ∈ Vbenah.some_ m (others f t w), holdAll f t w r = false)
      ⟨_, _, _, rfl, Same.refl _, fun m hm r hr => by
        have : m = 0 := by omega
        subst this
        exact h00 r hr⟩ (fun i σ H' hi _ => trivial) (fun i v σ H3 H4 hi ⟨x3, x5, x6, e, s3, hno⟩ yy => ?_) fun σ H3 ⟨x3, x5, x6, e, s3, hno⟩ => ?_
    · subst e
      obtain ⟨rfl, rfl⟩ := yy
      refine ⟨_, rfl, _, rfl, D, others f t w, i + 1, rfl, s3 _ _ q4, hol, by omega, fun H5 r s5 hM => ?_⟩
      obtain ⟨bs, m1, m2⟩ := hM
      rw [rows_some _ hoA] at m2
      refine ⟨r, rfl, ⟨_, SqL.of m1⟩, ?_⟩
      have s05 := Same.trans s2 (Same.trans s3 s5)
      refine for_it (walk_refs m2) (fun j σ H' => ∃ x6, σ = [some (.ref a), some (.int (w : Nat)), some (.ref u), x3, some (.ref D), some (.int ((i + 1 : Nat))), x6] ∧ Same H5 H' ∧ ∀ r ∈ (Vbenah.some_ (i + 1) (others f t w)).take j, holdAll f t w r = false)
        ⟨_, rfl, Same.refl _, fun r hr => by simp at hr⟩ (fun j σ H' hj ⟨_, _, s, _⟩ => SqL.of (s _ _ m1)) (fun j v σ H6 H7 hj ⟨x6, e, s6, hj2⟩ yy => ?_) fun σ H6 ⟨x6, e, s6, hj2⟩ => ?_
      · subst e
        obtain ⟨rfl, rb, row, rfl, hx, hrb⟩ := yy
        have hrm := mem_of_get hx
        rw [← rows_some _ hoA] at hrm
        have hrl := rowsN_rlen _ _ hrm
        refine ⟨_, rfl, _, rfl, _, rfl, a, rb, f, t, b, w, row, rfl, hS.same (Same.trans s05 s6), hW, hw, s6 _ _ hrb, by omega, fun x hx => hon x (rowsN_mem _ _ hrm x hx), fun H8 s8 => ⟨_, rfl, ?_⟩⟩
        by_cases hh : holdAll f t w row = true
        · refine if_t hh ⟨_, rfl, k _ rb row (mix_some (n := i + 1) (by omega) hno ?_) (Same.trans s05 (Same.trans s6 s8)) (s8 _ _ (s6 _ _ hrb)) (by omega)⟩
          rw [List.find?_eq_some_iff_getElem]
          have hl : j < (Vbenah.some_ (i + 1) (others f t w)).length := hj
          rw [List.getElem?_eq_getElem hl] at hx
          refine ⟨hh, j, hl, Option.some.inj hx, fun m hm => ?_⟩
          rw [hj2 _ (by
            rw [List.mem_iff_getElem?]
            exact ⟨m, by rw [List.getElem?_take_of_lt hm, List.getElem?_eq_getElem]⟩)]
          rfl
        · refine if_f (Bool.eq_false_iff.mpr hh) ⟨_, rfl, Same.trans s6 s8, fun r hr => ?_⟩
          rcases (take_mem hx r).mp hr with g | g
          · exact hj2 r g
          · rw [g]
            exact Bool.eq_false_iff.mpr hh
      · subst e
        refine ⟨_, _, _, rfl, Same.trans s3 (Same.trans s5 s6), fun m hm r hr => ?_⟩
        rcases Nat.lt_or_ge m (i + 1) with g | g
        · exact hno m g r hr
        · have : m = i + 1 := by omega
          subst this
          exact hj2 r (by rw [List.take_length]; exact hr)
    · subst e
      exact k0 _ (mix_none fun n hn r hr => hno n (by omega) r hr) (Same.trans s2 s3)
end
end Bw
namespace Bw
open PySem PySem.Spec PyProof.Rows L2
open Vbenah (File State Card Act)
section
variable {P : Program} {w : World} {K : PySem.W.Frag} {mg : Str → Option Value} {base : Heap}
/-- what was ever wanted, the states told by their numbers -/
def everW (f : File) (st : Nat → State) (k c w : Nat) : Bool := (List.range (k + 1)).any fun i => decide (c < (st i).cards.length) && Vbenah.wanted f (st i).pairs (Vbenah.cardAt (st i) c) w
def verd (f : File) (st : Nat → State) (k c w : Nat) : Nat :=
  let x := Vbenah.cardAt (st k) c
  match Vbenah.fallsFor f x w, Vbenah.wanted f (st k).pairs x w with
    | false, false => 0
    | true, true => 1
    | false, true => 2
    | true, false => if everW f st k c w = true then 3 else 4
theorem cardAt_get {s : State} {c : Nat} {x : Card} (h : s.cards[c]? = some x) : Vbenah.cardAt s c = x := by
  unfold Vbenah.cardAt
  rw [List.getD_eq_getElem?_getD, h]
  rfl
theorem lt_of_get {α : Type} {l : List α} {i : Nat} {x : α} (h : l[i]? = some x) : i < l.length := by
  rcases Nat.lt_or_ge i l.length with g | g
  · exact g
  · rw [List.getElem?_eq_none g] at h
    cases h
theorem want_iff {f : File} {s : State} {w c : Nat} : want f s w c ↔ c < s.cards.length ∧ Vbenah.wanted f s.pairs (Vbenah.cardAt s c) w = true := by
  constructor
  · rintro ⟨x, h1, h2⟩
    rw [cardAt_get h1]
    exact ⟨lt_of_get h1, h2⟩
  · rintro ⟨h1, h2⟩
    have e : s.cards[c]? = some s.cards[c] := List.getElem?_eq_getElem h1
    rw [cardAt_get e] at h2
    exact ⟨_, e, h2⟩
theorem ever_iff {f : File} {st : Nat → State} {k c w : Nat} : everW f st k c w = true ↔ ∃ i, i ≤ k ∧ want f (st i) w c := by
  unfold everW
  rw [List.any_eq_true]
  constructor
  · rintro ⟨i, h1, h2⟩
    rw [Bool.and_eq_true, decide_eq_true_iff] at h2
    exact ⟨i, Nat.lt_succ_iff.mp (List.mem_range.mp h1), want_iff.mpr h2⟩
  · rintro ⟨i, h1, h2⟩
    refine ⟨i, List.mem_range.mpr (Nat.lt_succ_of_le h1), ?_⟩
    rw [Bool.and_eq_true, decide_eq_true_iff]
    exact want_iff.mp h2
abbrev kP (w c : Nat) : List Key := [Sum.inl (w : Int), Sum.inl (c : Int)]
def PastV (K : PySem.W.Frag) (H : Hp) (x : Addr) (f : File) (xs : List NAct) : Prop := ∃ (dx a ev : Addr) (kvs : List (List Key × V)), H x = some (.ins (He.ga K "Past") dx [("state", .ref a), ("ever", .ref ev)]) ∧ SV K H a f (nat_ f xs xs.length) ∧ H ev = some (.dT kvs) ∧
  ∀ w c : Nat, (valV kvs (kP w c)).isSome = everW f (nat_ f xs) xs.length c w
theorem PastV.same {K : PySem.W.Frag} {H H' : Hp} {x : Addr} {f : File} {xs : List NAct} (h : PastV K H x f xs) (s : Same H H') : PastV K H' x f xs := by
  obtain ⟨dx, a, ev, kvs, h1, h2, h3, h4⟩ := h
  exact ⟨dx, a, ev, kvs, s _ _ h1, h2.same s, s _ _ h3, h4⟩
def sp_Past_init (K : PySem.W.Frag) : Sp := fun vs H Q _ => ∃ (x dx ma al : Addr) (f : File) (xs : List NAct), vs = [.ref x, .ref ma, .ref al] ∧ H x = some (.ins (He.ga K "Past") dx []) ∧ MarksAt H ma (mks f) ∧ ActsAt H al xs ∧ NV f xs ∧ nmays f xs ∧
  ∀ H', But [x] H H' → PastV K H' x f xs → Q .non H'
theorem len_Past_init (K : PySem.W.Frag) : ∀ vs H Q E, sp_Past_init K vs H Q E → vs.length = 3 := fun _ _ _ _ ⟨_, _, _, _, _, _, h, _⟩ => by rw [h]; rfl
section
variable {K : PySem.W.Frag} {B H : Hp} {a ma : Addr} {s : State} {y : SC}
/-- what is known beside a state is written -/
theorem SOx.bput {x : Addr} {o o' : HO} (h : SOx K B H a ma s y) (hx : B x = some o) (n1 : ∀ xs, o ≠ .tup xs) (n2 : ∀ C d p w n, o ≠ .ins C d (cardF p w n)) : SOx K (upd B x o') (upd H x o') a ma s y := by
  have hH := h.sm _ _ hx
  have nb : ∀ {b}, B b = none → b ≠ x := fun e z => by rw [z, hx] at e; cases e
  have st : ∀ {b u}, H b = some u → b ≠ x → upd H x o' b = some u := fun {b u} e n => by rw [upd_ne n]; exact e
  have bn : ∀ {b}, B b = none → upd B x o' b = none := fun e => by rw [upd_ne (nb e)]; exact e
  refine ⟨fun b u e => ?_, st h.ha (nb h.na), st h.hl (nb h.nl), paired_same (fun b q e => st e (ne_obj e hH fun z => n1 _ z.symm)) h.pr, st h.hc (nb h.nc), ?_, bn h.na, bn h.nl, bn h.nc, fun z hz => ⟨bn (h.nz z hz).1, bn (h.nz z hz).2⟩, h.nw, h.nn⟩
  · by_cases e1 : b = x
    · rw [e1, upd_same] at e ⊢
      exact e
    · rw [upd_ne e1] at e ⊢
      exact h.sm _ _ e
  · refine cardsO_frame h.pc fun z hz b u hb e => st e ?_
    obtain ⟨c, q⟩ := paired_mem h.pc hz
    rcases hb with hb | hb | hb | hb <;> subst hb
    · exact ne_obj q.h1 hH fun z => n2 _ _ _ _ _ z.symm
    · exact ne_obj q.h2 hH fun z => n1 _ z.symm
    · exact nb (h.nz z hz).1
    · exact nb (h.nz z hz).2
end
theorem ever_succ {f : File} {st : Nat → State} {k c w : Nat} : everW f st (k + 1) c w = true ↔ everW f st k c w = true ∨ want f (st (k + 1)) w c := by
  rw [ever_iff, ever_iff]
  constructor
  · rintro ⟨i, h1, h2⟩
    rcases Nat.lt_or_ge i (k + 1) with g | g
    · exact Or.inl ⟨i, by omega, h2⟩
    · have : i = k + 1 := by omega
      subst this
      exact Or.inr h2
  · rintro (⟨i, h1, h2⟩ | h)
    · exact ⟨i, by omega, h2⟩
    · exact ⟨k + 1, Nat.le_refl _, h⟩
theorem kP_inj {w c w' c' : Nat} : kP w c = kP w' c' ↔ w = w' ∧ c = c' := by
  constructor
  · intro h
    injection h with h1 h2
    injection h2 with h2 _
    exact ⟨inl_nat.mp h1, inl_nat.mp h2⟩
  · rintro ⟨rfl, rfl⟩
    rfl
theorem sc_Past_init : FnScope (["self", "marks", "acts", "number", "act", "pair"] : List Str) ["self", "marks", "acts"] (defScope s_Past_init) := C8.fnScope_by (by decide +kernel)
theorem c_Past_init (E : Env P w K mg base) : Mak P w K mg base 7 "Past" (sp_Past_init K) := by
  have sc := sc_Past_init
  refine mkMak (st := s_Past_init) (E.top.d.def_ 102 (d := d_Past_init) rfl) (E.glo 84) (E.mkr 110) sc (fun _ _ _ _ _ _ us hl => match us, hl with | [_, _, _], _ => rfl) (len_Past_init K) (fun cdv A outer s H vs Q X hr h => ⟨_, PSs.nox ((pss_cons (ps_fld (pv 0) (pe_k (c_State_init E) hr (by decide) rfl (pa_cons (pv 1) pa_nil)) rfl)
    (pss_cons (ps_fld (pv 0) pe_dnewT rfl)
    (pss_one (ps_for PassesOwn.never rfl (pi_enum (by rfl) (fr_enumerate E) (pa_cons (pv 2) pa_nil)) (pg_tup rfl (pgs_cons (pg_name (i := 3) sc.nd rfl (Or.inl rfl)) (pgs_cons (pg_name (i := 4) sc.nd rfl (Or.inl rfl)) pgs_nil)))
    (pss_cons (ps_expr (pe_c (c_do_act E) hr (by decide) rfl pass0 (pa_cons (peF (K := K) (pv 0) rfl) (pa_cons (pv 4) (pa_cons (pv 3) pa_nil)))))
    (pss_one (ps_for PassesOwn.never rfl (pi_list (pe_c (c_wanted_pairs E) hr (by decide) rfl pass0 (pa_cons (peF (K := K) (pv 0) rfl) pa_nil))) (pg_name (i := 5) sc.nd rfl (Or.inl rfl))
    (pss_one (ps_dput (hu_of hr) (peF (K := K) (pv 0) rfl) (pv 5) pe_bl rfl)))))))))), ?_⟩)
  obtain ⟨x, dx, ma, al, f, xs, rfl, h0, hM, ⟨as, hA1, hA2⟩, hV, hm, k⟩ := h
  refine ⟨_, rfl, fun sx sd nsx nsd nee => ⟨sx, sd, .ref ma, rfl, upd_same, fun H1 la ca b1 e1 e2 e3 n1 n2 n3 => ⟨rfl, ?_⟩⟩⟩
  obtain ⟨s1, y0, S1⟩ := SO.new nsx nsd b1 e1 e2 e3 n1 n2 n3
  have nP : ∀ {C d : Addr} {fs : List (Str × V)} xs, HO.ins C d fs ≠ .tup xs := fun _ z => by cases z
  have nc0 : ∀ C d p w n, HO.ins (He.ga K "Past") dx [] ≠ .ins C d (cardF p w n) := fun C d p w n z => by injection z with _ _ z; cases z
  have nc1 : ∀ C d p w n, HO.ins (He.ga K "Past") dx [("state", .ref sx)] ≠ .ins C d (cardF p w n) := fun C d p w n z => by injection z with _ _ z; injection z with _ z; cases z
  have S2 := S1.bput (o' := .ins (He.ga K "Past") dx [("state", .ref sx)]) h0 nP nc0
  refine ⟨_, rfl, x, _, dx, _, rfl, s1 _ _ h0, k_Past E, n_Past_state E, (show 0 < 1000 by decide), fun ev nev => ?_⟩
  have S3 := S2.bnew (o := .dT []) nev
  have hxe : x ≠ ev := ne_of_none upd_same nev
  have hx3 : upd (upd H x (.ins (He.ga K "Past") dx [("state", .ref sx)])) ev (.dT []) x = some (.ins (He.ga K "Past") dx [("state", .ref sx)]) := by rw [upd_ne hxe]; exact upd_same
  have S4 := S3.bput (o' := .ins (He.ga K "Past") dx [("state", .ref sx), ("ever", .ref ev)]) hx3 nP nc1
  refine ⟨_, rfl, x, _, dx, _, rfl, S3.sm _ _ hx3, k_Past E, n_Past_ever E, (show 1 < 1000 by decide), ?_⟩
  have hev : H ev = none := by
    have e1 : upd H x (.ins (He.ga K "Past") dx [("state", .ref sx)]) ev = none := S2.sm.free nev
    rw [upd_ne (Ne.symm hxe)] at e1
    exact e1
  have fr : ∀ b o, H b = some o → b ≠ x → upd (upd (upd H x (.ins (He.ga K "Past") dx [("state", .ref sx)])) ev (.dT [])) x (.ins (He.ga K "Past") dx [("state", .ref sx), ("ever", .ref ev)]) b = some o := fun b o e n => by
    rw [upd_ne n, upd_ne (ne_of_none e hev), upd_ne n]
    exact e
  have evs : upd (upd (upd H x (.ins (He.ga K "Past") dx [("state", .ref sx)])) ev (.dT [])) x (.ins (He.ga K "Past") dx [("state", .ref sx), ("ever", .ref ev)]) ev = some (.dT []) := by
    rw [upd_ne (Ne.symm hxe)]
    exact upd_same
  have xal : al ≠ x := ne_obj hA1 h0 fun z => by cases z
  refine ⟨_, rfl, al, _, rfl, SqL.of (S4.sm _ _ (fr _ _ hA1 xal)), ?_⟩
  refine for_it (walk_refsE hA2) (fun i σ H' => ∃ x3 x4 x5 B kvs, σ = [some (.ref x), some (.ref ma), some (.ref al), x3, x4, x5] ∧ SO K B H' sx ma (nat_ f xs i) ∧ B x = some (.ins (He.ga K "Past") dx [("state", .ref sx), ("ever", .ref ev)]) ∧ B ev = some (.dT kvs) ∧ kvs.length ≤ 1080 * i ∧
      (∀ w c : Nat, (valV kvs (kP w c)).isSome = everW f (nat_ f xs) i c w) ∧ But [x] H B) ⟨_, _, _, _, [], rfl, ⟨_, S4⟩, upd_same, evs, Nat.zero_le _, fun w c => ?_, fun b o hb e => fr _ _ e (by simpa using hb)⟩
      (fun i σ H' hi ⟨_, _, _, B, _, _, S, _, _, _, _, fb⟩ => SqL.of (S.sm _ _ (fb _ _ (by simpa using xal) hA1))) (fun i v σ H2 H3 hi ⟨x3, x4, x5, B, kvs, e, S, bx, be, bl, bk, fb⟩ yy => ?_) fun σ H2 ⟨x3, x4, x5, B, kvs, e, ⟨y, S⟩, bx, be, bl, bk, fb⟩ => ?_
  · symm
    refine Bool.eq_false_iff.mpr fun z => ?_
    obtain ⟨j, h1, c', h2, _⟩ := ever_iff.mp z
    have : j = 0 := by omega
    subst this
    cases h2
  · subst e
    obtain ⟨T, ab, ac, rfl, nT, rfl, hx, hF⟩ := yy
    have hln := hV.ln
    have hi2 : i < xs.length := hi
    have S3 := S.same (Same.new (o := .tup [.int (i : Nat), .ref ab]) nT)
    have hab : NActAt B ab ac := by
      have nb : ∀ {b o}, H b = some o → (∀ C d fs, o ≠ .ins C d fs) → B b = some o := fun e n => fb _ _ (by simpa using ne_obj e h0 (n _ _ _)) e
      cases ac with
      | under _ _ => exact nb hF fun _ _ _ z => by cases z
      | apart _ _ => exact nb hF fun _ _ _ z => by cases z
      | card _ _ => obtain ⟨p, q, g1, g2, g3⟩ := hF; exact ⟨p, q, nb g1 (fun _ _ _ z => by cases z), nb g2 (fun _ _ _ z => by cases z), nb g3 fun _ _ _ z => by cases z⟩
      | add _ _ => obtain ⟨p, g1, g2⟩ := hF; exact ⟨p, nb g1 (fun _ _ _ z => by cases z), nb g2 (fun _ _ _ z => by cases z)⟩
      | grow _ => obtain ⟨p, g1, g2⟩ := hF; exact ⟨p, nb g1 (fun _ _ _ z => by cases z), nb g2 (fun _ _ _ z => by cases z)⟩
      | notch _ _ => obtain ⟨p, g1, g2⟩ := hF; exact ⟨p, nb g1 (fun _ _ _ z => by cases z), nb g2 (fun _ _ _ z => by cases z)⟩
    have hMB : MarksAt B ma (mks f) := by
      obtain ⟨ms, g1, g2⟩ := hM
      exact ⟨ms, fb _ _ (by simpa using ne_obj g1 h0 fun z => by cases z) g1, paired_same (fun b q e => fb _ _ (by simpa using ne_obj e h0 fun z => by cases z) e) g2⟩
    refine ⟨T, _, rfl, SqT.of upd_same, rfl, _, _, rfl, _, _, rfl, rfl, _, rfl, x, _, dx, _, _, rfl, S3.sm _ _ bx, k_Past E, n_Past_state E, rfl, _, rfl, _, rfl, sx, ma, ab, B, f, _, i, i, ac, rfl, S3, hMB, ws_nat hV i (Nat.le_of_lt hi), by omega, hab, hV.wf ac (mem_of_get hx), hm i ac hx, fun H4 S4 => ?_⟩
    rw [← nat_succ hx] at S4
    refine ⟨_, rfl, x, _, dx, _, _, rfl, S4.sm _ _ bx, k_Past E, n_Past_state E, rfl, sx, f, _, i + 1, rfl, S4.view hMB, ws_nat hV (i + 1) hi, fun H5 q ps s5 hP hpl hpm => ?_⟩
    obtain ⟨bs, p1, p2⟩ := hP
    have S5 := S4.same s5
    have hcl := (ws_nat hV (i + 1) hi).cl
    refine ⟨q, rfl, ⟨_, SqL.of p1⟩, ?_⟩
    refine for_it (walk_refs p2) (fun j σ H' => ∃ x5 B kvs2, σ = [some (.ref x), some (.ref ma), some (.ref al), some (.int (i : Nat)), some (.ref ab), x5] ∧ SO K B H' sx ma (nat_ f xs (i + 1)) ∧ B x = some (.ins (He.ga K "Past") dx [("state", .ref sx), ("ever", .ref ev)]) ∧ B ev = some (.dT kvs2) ∧ kvs2.length ≤ 1080 * i + j ∧
      (∀ w c : Nat, (valV kvs2 (kP w c)).isSome = true ↔ everW f (nat_ f xs) i c w = true ∨ (w, c) ∈ ps.take j) ∧ But [x] H B ∧ H' q = some (.lst (bs.map V.ref)) ∧ ∀ b x, PrAt H5 b x → PrAt H' b x)
      ⟨_, B, kvs, rfl, S5, bx, be, bl, fun w c => by rw [bk]; simp, fb, p1, fun _ _ q => q⟩ (fun j σ H' hj ⟨_, _, _, _, _, _, _, _, _, _, e, _⟩ => SqL.of e) (fun j v σ H6 H7 hj ⟨x5, B2, kvs2, e, ⟨y2, S6⟩, bx2, be2, bl2, bk2, fb2, q1, q2⟩ yy => ?_) fun σ H6 ⟨x5, B2, kvs2, e, S6, bx2, be2, bl2, bk2, fb2, q1, q2⟩ => ?_
    · subst e
      obtain ⟨rfl, pb, pr, rfl, hp, hpb0⟩ := yy
      have hpb := q2 _ _ hpb0
      have hj2 : j < ps.length := hj
      have hev2 := S6.sm _ _ be2
      have hxe : x ≠ ev := ne_obj bx2 be2 fun z => by cases z
      have S7 := S6.bput (o' := .dT (putK kvs2 (kP pr.1 pr.2) (V.bl true))) be2 (fun _ z => by cases z) (fun _ _ _ _ _ z => by cases z)
      refine ⟨_, rfl, x, _, dx, _, _, rfl, S6.sm _ _ bx2, k_Past E, n_Past_ever E, rfl, _, rfl, ev, _, rfl, DPut.t (k := kP pr.1 pr.2) hev2 hpb (sz_lt (by omega)), ?_⟩
      refine ⟨_, _, _, rfl, ⟨_, S7⟩, by rw [upd_ne hxe]; exact bx2, upd_same, ?_, fun w c => ?_, fun b o hb e => ?_, ?_, fun b z g => ?_⟩
      · have := length_putK kvs2 (kP pr.1 pr.2) (V.bl true)
        omega
      · rw [valV_put, take_mem hp]
        by_cases e : kP w c = kP pr.1 pr.2
        · rw [if_pos e]
          obtain ⟨rfl, rfl⟩ := kP_inj.mp e
          exact ⟨fun _ => Or.inr (Or.inr rfl), fun _ => rfl⟩
        · rw [if_neg e, bk2]
          refine ⟨fun q => q.elim Or.inl fun q => Or.inr (Or.inl q), fun q => q.elim Or.inl fun q => q.elim Or.inr fun q => absurd ?_ e⟩
          rw [← q]
      · rw [upd_ne (ne_of_none e hev)]
        exact fb2 _ _ hb e
      · rw [upd_ne (ne_obj q1 hev2 fun z => by cases z)]
        exact q1
      · have g := q2 _ _ g
        rw [PrAt, upd_ne (ne_obj g hev2 fun z => by cases z)]
        exact g
    · subst e
      refine ⟨_, _, _, B2, kvs2, rfl, S6, bx2, be2, by omega, fun w c => ?_, fb2⟩
      have key : (valV kvs2 (kP w c)).isSome = true ↔ everW f (nat_ f xs) (i + 1) c w = true := by
        rw [bk2, ever_succ, List.take_length, hpm]
      cases g : everW f (nat_ f xs) (i + 1) c w with
      | true => exact key.mpr g
      | false => exact Bool.eq_false_iff.mpr fun z => by rw [key.mp z] at g; cases g
  · subst e
    refine k _ (fun b o hb e => S.sm _ _ (fb _ _ hb e)) ⟨dx, sx, ev, kvs, S.sm _ _ bx, S.view ?_, S.sm _ _ be, bk⟩
    obtain ⟨ms, g1, g2⟩ := hM
    exact ⟨ms, fb _ _ (by simpa using ne_obj g1 h0 fun z => by cases z) g1, paired_same (fun b q e => fb _ _ (by simpa using ne_obj e h0 fun z => by cases z) e) g2⟩
def sp_kind_of (K : PySem.W.Frag) : Sp := fun vs H Q _ => ∃ (x : Addr) (f : File) (xs : List NAct) (w c : Nat), vs = [.ref x, .int (w : Nat), .int (c : Nat)] ∧ PastV K H x f xs ∧ NV f xs ∧ w < f.words.length ∧ c < (nat_ f xs xs.length).cards.length ∧
  ∀ H', Same H H' → Q (.int (verd f (nat_ f xs) xs.length c w : Nat)) H'
theorem len_kind_of (K : PySem.W.Frag) : ∀ vs H Q E, sp_kind_of K vs H Q E → vs.length = 3 := fun _ _ _ _ ⟨_, _, _, _, _, h, _⟩ => by rw [h]; rfl
theorem sc_kind_of : FnScope (["past", "word", "number", "card", "wanted"] : List Str) ["past", "word", "number"] (defScope s_kind_of) := C8.fnScope_by (by decide +kernel)
theorem c_kind_of (E : Env P w K mg base) : Cal P w K mg base CX0 4 "kind_of" (sp_kind_of K) := by
  have sc := sc_kind_of
  refine mkCal (st := s_kind_of) (E.top.d.def_ 29 (d := d_kind_of) rfl) (E.glo 29) sc (fun _ _ _ _ _ _ us hl => match us, hl with | [_, _, _], _ => rfl) (len_kind_of K) (fun cdv A outer s H vs Q X hr h => ⟨_, PSs.nox ((pss_cons (ps_set (i := 3) sc.nd rfl (Or.inl rfl) (pe_ix (ixL (K := K)) (peF (K := K) (peF (K := K) (pv 0) rfl) rfl) (pv 2) (fun _ _ => rfl)))
    (pss_cons (ps_set (i := 4) sc.nd rfl (Or.inl rfl) (pe_c (c_is_wanted E) hr (by decide) rfl pass0 (pa_cons (peF (K := K) (pv 0) rfl) (pa_cons (pv 1) (pa_cons (pv 3) pa_nil)))))
    (pss_cons (ps_if (pt_not (pt_val (pe_c (c_falls E) hr (by decide) rfl pass0 (pa_cons (peF (K := K) (pv 0) rfl) (pa_cons (pv 1) (pa_cons (pv 3) pa_nil)))))) (pss_one (ps_ret (pe_ix (ixT (K := K)) (pe_tup (pa_cons (C8.pe_gc rfl (g_NEITHER E)) (pa_cons (C8.pe_gc rfl (g_MISSED E)) pa_nil))) (pe_callTy call_int1 rfl (fr_int E) (by decide +kernel) (pa_cons (pv 4) pa_nil)) (fun _ _ => rfl)))) pss_nil)
    (pss_cons (ps_if (pt_val (pv 4)) (pss_one (ps_ret (C8.pe_gc rfl (g_RIGHT E)))) pss_nil)
    (pss_one (ps_ret (pe_ix (ixT (K := K)) (pe_tup (pa_cons (C8.pe_gc rfl (g_MIXED E)) (pa_cons (C8.pe_gc rfl (g_STALE E)) pa_nil))) (pe_callTy call_int1 rfl (fr_int E) (by decide +kernel) (pa_cons (pe_cmp (pc_din (hu_of hr) (pe_tup (pa_cons (pv 1) (pa_cons (pv 2) pa_nil))) (peF (K := K) (pv 0) rfl))) pa_nil)) (fun _ _ => rfl))))))))), ?_⟩)
  obtain ⟨x, f, xs, w, c, rfl, ⟨dx, a, ev, kvs, h1, hS, h3, h4⟩, hV, hw, hc, k⟩ := h
  have hW := ws_nat hV xs.length (Nat.le_refl _)
  obtain ⟨dy, ma, la, ca, g1, g2, g3, ⟨cs, g4, g5⟩⟩ := hS
  have hS : SV K H a f (nat_ f xs xs.length) := ⟨dy, ma, la, ca, g1, g2, g3, ⟨cs, g4, g5⟩⟩
  have hcd : (nat_ f xs xs.length).cards[c]? = some (nat_ f xs xs.length).cards[c] := List.getElem?_eq_getElem hc
  generalize (nat_ f xs xs.length).cards[c] = cd at hcd
  obtain ⟨cb, hcb, hC⟩ := paired_get g5 hcd
  have hcw := (hW.cw cd (mem_of_get hcd)).2.2
  have e0 : Vbenah.cardAt (nat_ f xs xs.length) c = cd := cardAt_get hcd
  refine ⟨_, rfl, x, _, dx, _, _, rfl, h1, k_Past E, n_Past_state E, rfl, a, _, dy, _, _, rfl, g1, k_State E, n_State_cards E, rfl, _, rfl, ca, _, (c : Nat), .ref cb, rfl, rfl, SqL.of g4, atI_nat (get_ref hcb), ?_⟩
  refine ⟨_, rfl, x, _, dx, _, _, rfl, h1, k_Past E, n_Past_state E, rfl, _, rfl, _, rfl, a, cb, f, _, _, w, cd, rfl, hS, hW, hC, mem_of_get hcd, fun H1 s1 => ?_⟩
  refine ⟨_, rfl, x, _, dx, _, _, rfl, s1 _ _ h1, k_Past E, n_Past_state E, rfl, _, rfl, _, rfl, a, cb, f, _, _, w, cd, rfl, hS.same s1, hW, hw, hC.same s1, hcw, fun H2 s2 => ⟨_, rfl, ?_⟩⟩
  have s12 := Same.trans s1 s2
  unfold verd at k
  simp only [e0] at k
  cases hf : Vbenah.fallsFor f cd w with
  | false =>
    refine if_t rfl ⟨(show 2 ≤ sizeLine by decide), fun T nT => ⟨_, rfl, Or.inr ⟨_, rfl, T, _, _, .int (if Vbenah.wanted f (nat_ f xs xs.length).pairs cd w = true then 2 else 0), rfl, rfl, SqT.of upd_same, ?_, ?_⟩⟩⟩
    · cases Vbenah.wanted f (nat_ f xs xs.length).pairs cd w <;> rfl
    · have q := k _ (Same.trans s12 (Same.new (o := .tup [.int 0, .int 2]) nT))
      rw [hf] at q
      cases hwt : Vbenah.wanted f (nat_ f xs xs.length).pairs cd w with
      | false => rw [hwt] at q; exact q
      | true => rw [hwt] at q; exact q
  | true =>
    refine if_f rfl ?_
    cases hwt : Vbenah.wanted f (nat_ f xs xs.length).pairs cd w with
    | true =>
      refine ⟨_, rfl, _, rfl, if_t rfl ?_⟩
      have q := k _ s12
      rw [hf, hwt] at q
      exact q
    | false =>
      refine ⟨_, rfl, _, rfl, if_f rfl ⟨(show 2 ≤ sizeLine by decide), fun T nT => ⟨_, rfl, _, rfl, (show 2 ≤ sizeLine by decide), fun T2 nT2 => ?_⟩⟩⟩
      have s3 := Same.trans s12 (Same.trans (Same.new (o := .tup [.int 4, .int 3]) nT) (Same.new (o := .tup [.int (w : Nat), .int (c : Nat)]) nT2))
      refine ⟨_, rfl, x, _, dx, _, _, rfl, s3 _ _ h1, k_Past E, n_Past_ever E, rfl, ev, _, rfl, DGet.t (k := kP w c) (s3 _ _ h3) upd_same, Or.inr ⟨_, rfl, T, _, _, .int (if (valV kvs (kP w c)).isSome = true then 3 else 4), rfl, rfl, SqT.of (Same.new nT2 _ _ upd_same), ?_, ?_⟩⟩
      · cases (valV kvs (kP w c)).isSome <;> rfl
      · have q := k _ s3
        rw [hf, hwt] at q
        rw [h4]
        cases hev : everW f (nat_ f xs) xs.length c w with
        | false => rw [hev] at q; exact q
        | true => rw [hev] at q; exact q
/-- the fewest steps of a way up -/
def Dst (p : List (Nat × Nat)) (a b d : Nat) : Prop := Wk p d a b ∧ ∀ e, e < d → ¬ Wk p e a b
def StepsAt (H : Hp) (r : Addr) (p : List (Nat × Nat)) (goal : Nat) : Prop := ∃ l : List (Nat × Nat), H r = some (.dK (nk l)) ∧ (l.map (·.1)).Nodup ∧ ∀ a d, (a, d) ∈ l ↔ Dst p a goal d
def sp_steps_to (K : PySem.W.Frag) : Sp := fun vs H Q _ => ∃ (a : Addr) (f : File) (s : State) (b g : Nat), vs = [.ref a, .int (g : Nat)] ∧ SV K H a f s ∧ WS f s b ∧ g < f.words.length ∧
  ∀ H' r, Same H H' → StepsAt H' r s.pairs g → Q (.ref r) H'
theorem len_steps_to (K : PySem.W.Frag) : ∀ vs H Q E, sp_steps_to K vs H Q E → vs.length = 2 := fun _ _ _ _ ⟨_, _, _, _, _, h, _⟩ => by rw [h]; rfl
theorem dst_ex {p : List (Nat × Nat)} {a b : Nat} : ∀ {k : Nat}, Wk p k a b → ∃ d, d ≤ k ∧ Dst p a b d := by
  intro k
  induction k using Nat.strongRecOn with
  | _ k ih =>
    intro h
    by_cases g : ∃ e, e < k ∧ Wk p e a b
    · obtain ⟨e, g1, g2⟩ := g
      obtain ⟨d, g3, g4⟩ := ih e g1 g2
      exact ⟨d, by omega, g4⟩
    · exact ⟨k, Nat.le_refl _, h, fun e he hw => g ⟨e, he, hw⟩⟩
theorem dst_uniq {p : List (Nat × Nat)} {a b d e : Nat} (h : Dst p a b d) (g : Dst p a b e) : d = e := by
  rcases Nat.lt_trichotomy d e with q | q | q
  · exact absurd h.1 (g.2 d q)
  · exact q
  · exact absurd g.1 (h.2 e q)
theorem dst_step {p : List (Nat × Nat)} {a b d : Nat} (h : Dst p a b (d + 1)) : a ≠ b ∧ ∃ c, (a, c) ∈ p ∧ Dst p c b d := by
  have ne : a ≠ b := fun e => h.2 0 (Nat.succ_pos _) e
  refine ⟨ne, ?_⟩
  rcases h.1 with q | ⟨c, h1, h2⟩
  · exact absurd q ne
  · exact ⟨c, h1, h2, fun e he hw => h.2 (e + 1) (by omega) (Or.inr ⟨c, h1, hw⟩)⟩
theorem dst_zero {p : List (Nat × Nat)} {a b : Nat} : Dst p a b 0 ↔ a = b := ⟨fun h => h.1, fun h => ⟨h, fun _ h => absurd h (Nat.not_lt_zero _)⟩⟩
theorem dst_down {p : List (Nat × Nat)} {b : Nat} : ∀ {d a j : Nat}, Dst p a b d → j ≤ d → ∃ c, Dst p c b j
  | 0, a, j, h, hj => by
    have : j = 0 := by omega
    subst this
    exact ⟨a, h⟩
  | d + 1, a, j, h, hj => by
    rcases Nat.lt_or_ge j (d + 1) with g | g
    · obtain ⟨_, c, _, h2⟩ := dst_step h
      exact dst_down h2 (by omega)
    · have : j = d + 1 := by omega
      subst this
      exact ⟨a, h⟩
theorem dst_lt {p : List (Nat × Nat)} {n a b d : Nat} (hp : InN p n) (hb : b < n) (h : Dst p a b d) : a < n := by
  cases d with
  | zero => rw [dst_zero.mp h]; exact hb
  | succ d =>
    obtain ⟨_, c, h1, _⟩ := dst_step h
    exact (hp _ h1).1
/-- one more number in a dict by numbers, the same value where it stands -/
def addK (l : List (Nat × Nat)) (a d : Nat) : List (Nat × Nat) := if (l.map (·.1)).contains a = true then l else l ++ [(a, d)]
theorem nk_putK {l : List (Nat × Nat)} {a d : Nat} (h : ∀ e, (a, e) ∈ l → e = d) : putK (nk l) (Sum.inl (a : Int)) (V.int (d : Nat)) = nk (addK l a d) := by
  unfold addK
  by_cases g : (l.map (·.1)).contains a = true
  · rw [if_pos g]
    refine putK_same _ _ (fun p hp e => ?_) ?_
    · obtain ⟨q, hq, rfl⟩ := List.mem_map.mp hp
      have e1 : q.1 = a := inl_nat.mp e
      have : q.2 = d := h q.2 (by rw [← e1]; exact hq)
      show V.int _ = _
      rw [this]
    · rw [valV_any, nk_val, g]
  · rw [if_neg g]
    refine nk_put ?_
    cases e : valV (nk l) (Sum.inl (a : Int)) with
    | none => rfl
    | some v =>
      have := nk_val l a
      rw [e] at this
      exact absurd this.symm g
theorem addK_mem {l : List (Nat × Nat)} {a d : Nat} (h : ∀ e, (a, e) ∈ l → e = d) (b e : Nat) : (b, e) ∈ addK l a d ↔ (b, e) ∈ l ∨ (b = a ∧ e = d) := by
  unfold addK
  by_cases g : (l.map (·.1)).contains a = true
  · rw [if_pos g]
    refine ⟨Or.inl, fun q => q.elim id ?_⟩
    rintro ⟨rfl, rfl⟩
    rw [List.contains_iff_mem] at g
    obtain ⟨y, hy, rfl⟩ := List.mem_map.mp g
    have e2 := h y.2 hy
    rw [← e2]
    exact hy
  · rw [if_neg g, List.mem_append, List.mem_singleton]
    exact ⟨fun q => q.elim Or.inl fun q => Or.inr (by injection q with q1 q2; exact ⟨q1, q2⟩), fun q => q.elim Or.inl fun q => Or.inr (by rw [q.1, q.2])⟩
theorem addK_nd {l : List (Nat × Nat)} {a d : Nat} (h : (l.map (·.1)).Nodup) : ((addK l a d).map (·.1)).Nodup := by
  unfold addK
  by_cases g : (l.map (·.1)).contains a = true
  · rw [if_pos g]
    exact h
  · rw [if_neg g, List.map_append]
    exact nd_snoc h fun m => g (List.contains_iff_mem.mpr m)
structure StI (K : PySem.W.Frag) (H : Hp) (a d : Addr) (p : List (Nat × Nat)) (n g k : Nat) (l : List (Nat × Nat)) (q : Addr) (lay : List Nat) (σ : L2.St) (H' : Hp) : Prop where
  sl : ∃ x y z, σ = [some (.ref a), some (.int (g : Nat)), some (.ref d), some (.ref q), some (.int (k : Nat)), x, y, z]
  sm : Same H H'
  dd : H' d = some (.dK (nk l))
  qq : LstN H' q lay
  nd : (l.map (·.1)).Nodup
  mm : ∀ b e, (b, e) ∈ l ↔ Dst p b g e ∧ e ≤ k
  ly : ∀ b, b ∈ lay ↔ Dst p b g k
  ln : lay.length ≤ 600
def StW (K : PySem.W.Frag) (H : Hp) (a d : Addr) (p : List (Nat × Nat)) (n g : Nat) (m : Nat) (σ : L2.St) (H' : Hp) : Prop := ∃ k l q lay, m = 2 * (13 - l.length) + (if lay = [] then 0 else 1) ∧ StI K H a d p n g k l q lay σ H'
theorem filterMap_fm {α β : Type} (p : α → Bool) (f : α → β) (l : List α) (y : β) : y ∈ l.filterMap (fun x => if p x = true then some (f x) else none) ↔ ∃ x ∈ l, p x = true ∧ f x = y := by
  rw [filterMap_filter_map, List.mem_map]
  constructor
  · rintro ⟨x, h1, h2⟩
    obtain ⟨h3, h4⟩ := List.mem_filter.mp h1
    exact ⟨x, h3, h4, h2⟩
  · rintro ⟨x, h1, h2, h3⟩
    exact ⟨x, List.mem_filter.mpr ⟨h1, h2⟩, h3⟩
theorem nd_sub_len {α : Type} [DecidableEq α] : ∀ {l m : List α}, l.Nodup → (∀ x ∈ l, x ∈ m) → l.length ≤ m.length
  | [], _, _, _ => Nat.zero_le _
  | x :: l, m, hd, hs => by
    obtain ⟨h1, h2⟩ := List.nodup_cons.mp hd
    have hx := hs x List.mem_cons_self
    have ih := nd_sub_len (m := m.erase x) h2 fun y hy => by
      have ne : y ≠ x := fun e => h1 (e ▸ hy)
      exact (List.mem_erase_of_ne ne).mpr (hs y (List.mem_cons_of_mem _ hy))
    rw [List.length_erase_of_mem hx] at ih
    have := List.length_pos_of_mem hx
    rw [List.length_cons]
    omega
theorem sc_steps_to : FnScope (["state", "goal", "found", "layer", "far", "lower", "upper", "word"] : List Str) ["state", "goal"] (defScope s_steps_to) := C8.fnScope_by (by decide +kernel)
theorem c_steps_to (E : Env P w K mg base) : Cal P w K mg base CX0 1 "steps_to" (sp_steps_to K) := by
  have sc := sc_steps_to
  refine mkCal (st := s_steps_to) (E.top.d.def_ 36 (d := d_steps_to) rfl) (E.glo 36) sc (fun _ _ _ _ _ _ us hl => match us, hl with | [_, _], _ => rfl) (len_steps_to K) (fun cdv A outer s H vs Q X hr h => ⟨_, PSs.nox ((pss_cons (ps_set (i := 2) sc.nd rfl (Or.inr rfl) (pe_disp (pps_cons (pv 1) pe_int pps_nil) (by rfl) (by rfl) (fun z => by cases z) (by decide)))
    (pss_cons (ps_set (i := 3) sc.nd rfl (Or.inr rfl) (pe_lst (pa_cons (pv 1) pa_nil)))
    (pss_cons (ps_set (i := 4) sc.nd rfl (Or.inl rfl) pe_int)
    (pss_cons (ps_while PassesOwn.never (pt_cmpR (opNeD (K := K) hr.units) (pv 3) (pe_lst pa_nil) (nomark _))
    (pss_cons (ps_set (i := 4) sc.nd rfl (Or.inl rfl) (pe_op op_add (pv 4) pe_int))
    (pss_cons (ps_set (i := 3) sc.nd rfl (Or.inr rfl) (pe_lc (own := [("lower", 5), ("upper", 6)]) (g := (gTup K 2 (gCons (gName 5) (gCons (gName 6) gNil)))) rfl sc.nd (pi_list (peF (K := K) (pv 0) rfl)) (blkOk_by (own := [("lower", 5), ("upper", 6)]) (N := ["state", "goal", "found", "layer", "far", "lower", "upper", "word"]) (sc := defScope s_steps_to) (by decide +kernel)) (fun _ _ _ _ _ => pg_tup rfl (pgs_cons (pg_name (i := 5) sc.nd rfl (Or.inl rfl)) (pgs_cons (pg_name (i := 6) sc.nd rfl (Or.inl rfl)) pgs_nil))) (fun _ _ _ _ _ => (pts_one (PW.pt (pw_and (pt_cmpR (opIn (K := K)) (pv 6) (pv 3) (by rfl)) (pw_and1 (pt_cmp (pc_dnotin (hu_of hr) (pv 5) (pv 2)))))))) (fun _ _ _ _ _ => (pv 5))))
    (pss_one (ps_for PassesOwn.never rfl (pi_list (pv 3)) (pg_name (i := 7) sc.nd rfl (Or.inl rfl))
    (pss_one (ps_dput (hu_of hr) (pv 2) (pv 7) (pv 4) rfl)))))))
    (pss_one (ps_ret (pv 2)))))))), ?_⟩)
  obtain ⟨a, f, t, b, g, rfl, hS, hW, hg, k⟩ := h
  have hb := hW.hb
  have hpl := hW.pl
  have hn := hW.hn
  obtain ⟨dx, ma, la, ca, h1, h2, ⟨ls, h3, h4⟩, h5⟩ := hS
  intro d nd
  refine ⟨_, rfl, upd_same, [(Sum.inl (g : Int), .int 0)], rfl, (show 1 ≤ 15 by decide), ?_⟩
  have s0 : Same H (upd (upd H d (.dK [])) d (.dK (mergeK [] [(Sum.inl (g : Int), .int 0)]))) := Same.put (Same.new nd) nd
  have e0 : upd (upd H d (.dK [])) d (.dK (mergeK [] [(Sum.inl (g : Int), .int 0)])) d = some (.dK (nk [(g, 0)])) := upd_same
  generalize upd (upd H d (.dK [])) d (.dK (mergeK [] [(Sum.inl (g : Int), .int 0)])) = H0 at s0 e0
  refine ⟨_, rfl, (show 1 ≤ sizeLine by decide), fun q0 nq0 => ?_⟩
  refine ⟨StW K H a d t.pairs f.words.length g, ⟨_, 0, [(g, 0)], q0, [g], rfl, ⟨_, _, _, rfl⟩, Same.trans s0 (Same.new nq0), Same.new nq0 _ _ e0, upd_same, by simp, fun x e => ?_, fun x => ?_, by simp⟩, ?_⟩
  · rw [List.mem_singleton]
    constructor
    · intro h
      injection h with h1 h2
      subst h1
      subst h2
      exact ⟨dst_zero.mpr rfl, Nat.le_refl _⟩
    · rintro ⟨h1, h2⟩
      have : e = 0 := by omega
      subst this
      rw [dst_zero.mp h1]
  · rw [List.mem_singleton, dst_zero]
  · rintro m σ H' ⟨kk, l, q, lay, hm, ⟨x, y, z, rfl⟩, sm, dd, qq, ndl, mm, ly, ln⟩
    have hll : l.length ≤ 12 := by
      have := nodup_len ndl (n := f.words.length) fun x hx => by
        obtain ⟨r, hr, rfl⟩ := List.mem_map.mp hx
        exact dst_lt hW.pp hg ((mm r.1 r.2).mp hr).1
      rw [List.length_map] at this
      omega
    refine ⟨_, rfl, Nat.zero_le _, fun p np => ⟨dL1 lay, dL1 [], dpL (SqL.of (Same.new np _ _ qq)), dpL (SqL.of upd_same), deL1.shaped (by decide) _, deL1.shaped (by decide) _, _, rfl, ?_⟩⟩
    rw [deL1.eq]
    have s2 : Same H (upd H' p (.lst [])) := Same.trans sm (Same.new np)
    have dd2 := Same.new (o := HO.lst []) np _ _ dd
    have qq2 := Same.new (o := HO.lst []) np _ _ qq
    by_cases hlay : lay = []
    · refine if_f (by simp [hlay]) ⟨_, rfl, k _ d s2 ⟨l, dd2, ndl, fun x e => ?_⟩⟩
      rw [mm]
      refine ⟨fun h => h.1, fun h => ⟨h, ?_⟩⟩
      rcases Nat.lt_or_ge e kk with g1 | g1
      · omega
      · obtain ⟨c, hc⟩ := dst_down h g1
        rw [← ly, hlay] at hc
        cases hc
    · refine if_t (by simp [hlay]) ⟨fun σ' H'' => ∃ m', m' < m ∧ StW K H a d t.pairs f.words.length g m' σ' H'', fun _ _ h => h, ?_⟩
      refine ⟨_, rfl, (kk : Nat), 1, rfl, rfl, ?_⟩
      refine ⟨_, rfl, a, _, dx, _, _, rfl, s2 _ _ h1, k_State E, n_State_links E, rfl, la, rfl, ⟨_, SqL.of (s2 _ _ h3)⟩, fun D hD => ?_⟩
      refine lc_it (walk_refs h4) (CL (upd H' p (.lst [])) D isN t.pairs fun x => if (lay.contains x.2 && !(l.map (·.1)).contains x.1) = true then some x.1 else none) (CL.start hD) (fun i H1 hi p => Same.seq (Same.trans s2 p.same) (SqL.of h3)) (fun i x H1 H2 hi pp y => ?_) fun H1 pp => ?_
      · obtain ⟨rfl, pb, pr, rfl, hx, hF⟩ := y
        have s3 := Same.trans s2 pp.same
        refine ⟨pb, _, rfl, SqT.of (s3 _ _ hF), rfl, _, _, rfl, _, _, rfl, rfl, rfl, _, rfl, _, rfl, q, _, rfl, Or.inl (SqL.of (pp.same _ _ qq2)), rfl, flat_nV _, _, rfl, ?_⟩
        rw [if_neg Bool.false_ne_true, inV_nV]
        by_cases c1 : lay.contains pr.2 = true
        · refine if_t c1 ⟨_, rfl, _, rfl, d, _, rfl, dgetN (pp.same _ _ dd2), _, rfl, ?_⟩
          rw [nk_val]
          refine ite2 (fun hc => ?_) fun hc => ?_
          · exact ⟨_, rfl, CL.put pp (Same.refl _) hx (if_pos (by rw [c1, hc]; rfl)) (by omega) isN_mono fun _ _ => rfl⟩
          · exact CL.skip pp (Same.refl _) hx (if_neg (by rw [Bool.eq_false_iff.mpr hc, Bool.and_false]; decide))
        · refine if_f (Bool.eq_false_iff.mpr c1) (if_f rfl (CL.skip pp (Same.refl _) hx (if_neg (by rw [Bool.eq_false_iff.mpr c1, Bool.false_and]; decide))))
      · obtain ⟨B, vs, q1, q2, q3, q4, q5⟩ := pp.fin
        rw [paired_isN q5] at q4
        have s13 := Same.trans q1 q2
        have s3 := Same.trans s2 s13
        have hly : ∀ x, x ∈ t.pairs.filterMap (fun x => if (lay.contains x.2 && !(l.map (·.1)).contains x.1) = true then some x.1 else none) ↔ Dst t.pairs x g (kk + 1) := fun x => by
          rw [filterMap_fm (fun x : Nat × Nat => lay.contains x.2 && !(l.map (·.1)).contains x.1) (·.1)]
          have keyk : ∀ x, x ∈ l.map (·.1) ↔ ∃ e, e ≤ kk ∧ Dst t.pairs x g e := fun x => by
            constructor
            · intro h
              obtain ⟨r, hr, rfl⟩ := List.mem_map.mp h
              have := (mm r.1 r.2).mp hr
              exact ⟨r.2, this.2, this.1⟩
            · rintro ⟨e, h1, h2⟩
              exact List.mem_map.mpr ⟨(x, e), (mm x e).mpr ⟨h2, h1⟩, rfl⟩
          constructor
          · rintro ⟨r, hr, hc, rfl⟩
            rw [Bool.and_eq_true, List.contains_iff_mem, ly, contains_dec] at hc
            obtain ⟨c1, c2⟩ := hc
            have c3 : ¬ r.1 ∈ l.map (·.1) := fun m => by rw [decide_eq_true m] at c2; cases c2
            rw [keyk] at c3
            refine ⟨Or.inr ⟨r.2, hr, c1.1⟩, fun e he hw => ?_⟩
            obtain ⟨d', g1, g2⟩ := dst_ex hw
            exact c3 ⟨d', by omega, g2⟩
          · intro h
            obtain ⟨ne, c, hc, hd⟩ := dst_step h
            refine ⟨(x, c), hc, ?_, rfl⟩
            rw [Bool.and_eq_true, List.contains_iff_mem, ly, contains_dec]
            refine ⟨hd, ?_⟩
            rw [decide_eq_false]
            · rfl
            · rw [keyk]
              rintro ⟨e, h1, h2⟩
              have := dst_uniq h h2
              omega
        have hlen : (t.pairs.filterMap (fun x => if (lay.contains x.2 && !(l.map (·.1)).contains x.1) = true then some x.1 else none)).length ≤ 600 := by
          have := List.length_filterMap_le (fun x : Nat × Nat => if (lay.contains x.2 && !(l.map (·.1)).contains x.1) = true then some x.1 else none) t.pairs
          omega
        generalize t.pairs.filterMap (fun x => if (lay.contains x.2 && !(l.map (·.1)).contains x.1) = true then some x.1 else none) = lay2 at q4 hly hlen
        have ek : ((kk : Nat) : Int) + 1 = ((kk + 1 : Nat) : Int) := by omega
        have nDd : D ≠ d := ne_obj q4 (s13 _ _ dd2) fun z => by cases z
        refine ⟨_, rfl, D, rfl, ⟨_, SqL.of q4⟩, ?_⟩
        refine for_it (walk_nums (l := lay2)) (fun j σ H' => ∃ x y z l2, σ = [some (.ref a), some (.int (g : Nat)), some (.ref d), some (.ref D), some (.int ((kk + 1 : Nat))), x, y, z] ∧ Same H H' ∧ H' d = some (.dK (nk l2)) ∧ LstN H' D lay2 ∧ (l2.map (·.1)).Nodup ∧ ∀ b e, (b, e) ∈ l2 ↔ (b, e) ∈ l ∨ (b ∈ lay2.take j ∧ e = kk + 1))
          ⟨_, _, _, l, rfl, s3, s13 _ _ dd2, q4, ndl, fun b e => by simp⟩ (fun j σ H' hj ⟨_, _, _, _, _, _, _, e, _⟩ => SqL.of e) (fun j v σ H3 H4 hj ⟨x, y, z, l2, e, s4, d4, D4, nd2, m2⟩ yy => ?_) fun σ H3 ⟨x, y, z, l2, e, s4, d4, D4, nd2, m2⟩ => ?_
        · subst e
          obtain ⟨rfl, w, rfl, hw⟩ := yy
          have hwm := (hly w).mp (mem_of_get hw)
          have uq : ∀ e, (w, e) ∈ l2 → e = kk + 1 := fun e he => by
            rcases (m2 w e).mp he with h | h
            · have := dst_uniq hwm ((mm w e).mp h).1
              exact this.symm
            · exact h.2
          have hl2 : l2.length ≤ 12 := by
            have := nodup_len nd2 (n := f.words.length) fun x hx => by
              obtain ⟨r, hr, rfl⟩ := List.mem_map.mp hx
              rcases (m2 r.1 r.2).mp hr with h | h
              · exact dst_lt hW.pp hg ((mm r.1 r.2).mp h).1
              · exact dst_lt hW.pp hg ((hly r.1).mp (List.mem_of_mem_take h.1))
            rw [List.length_map] at this
            omega
          refine ⟨_, rfl, _, rfl, _, rfl, d, _, rfl, dputN d4 (sz_lt (by unfold nk; rw [List.length_map]; omega)), ?_⟩
          rw [nk_putK uq]
          refine ⟨_, _, _, addK l2 w (kk + 1), rfl, Same.put s4 nd, upd_same, ?_, addK_nd nd2, fun b e => ?_⟩
          · rw [LstN, upd_ne nDd]
            exact D4
          · rw [addK_mem uq, m2, take_mem hw]
            constructor
            · rintro ((h | h) | h)
              · exact Or.inl h
              · exact Or.inr ⟨Or.inl h.1, h.2⟩
              · exact Or.inr ⟨Or.inr h.1, h.2⟩
            · rintro (h | ⟨h | h, h2⟩)
              · exact Or.inl (Or.inl h)
              · exact Or.inl (Or.inr ⟨h, h2⟩)
              · exact Or.inr ⟨h, h2⟩
        · subst e
          rw [List.take_length] at m2
          have mm2 : ∀ b e, (b, e) ∈ l2 ↔ Dst t.pairs b g e ∧ e ≤ kk + 1 := fun b e => by
            rw [m2, mm, hly]
            constructor
            · rintro (⟨h1, h2⟩ | ⟨h1, rfl⟩)
              · exact ⟨h1, by omega⟩
              · exact ⟨h1, Nat.le_refl _⟩
            · rintro ⟨h1, h2⟩
              rcases Nat.lt_or_ge e (kk + 1) with h | h
              · exact Or.inl ⟨h1, by omega⟩
              · have : e = kk + 1 := by omega
                subst this
                exact Or.inr ⟨h1, rfl⟩
          have hl2 : l2.length ≤ 12 := by
            have := nodup_len nd2 (n := f.words.length) fun x hx => by
              obtain ⟨r, hr, rfl⟩ := List.mem_map.mp hx
              exact dst_lt hW.pp hg ((mm2 r.1 r.2).mp hr).1
            rw [List.length_map] at this
            omega
          refine ⟨2 * (13 - l2.length) + (if lay2 = [] then 0 else 1), ?_, kk + 1, l2, D, lay2, rfl, ⟨_, _, _, rfl⟩, s4, d4, D4, nd2, mm2, hly, hlen⟩
          have sub : ∀ x ∈ l.map (·.1), x ∈ l2.map (·.1) := fun x hx => by
            obtain ⟨r, hr, rfl⟩ := List.mem_map.mp hx
            exact List.mem_map.mpr ⟨r, (m2 r.1 r.2).mpr (Or.inl hr), rfl⟩
          rw [hm, if_neg hlay]
          by_cases hl : lay2 = []
          · rw [if_pos hl]
            have := nd_sub_len ndl sub
            rw [List.length_map, List.length_map] at this
            omega
          · rw [if_neg hl]
            obtain ⟨w, hw⟩ := List.exists_mem_of_ne_nil _ hl
            have hwd := (hly w).mp hw
            have nw : ¬ w ∈ l.map (·.1) := fun m => by
              obtain ⟨r, hr, rfl⟩ := List.mem_map.mp m
              have h1 := (mm r.1 r.2).mp hr
              have := dst_uniq hwd h1.1
              omega
            have := nd_sub_len (l := w :: l.map (·.1)) (m := l2.map (·.1)) (List.nodup_cons.mpr ⟨nw, ndl⟩) fun x hx => by
              rcases List.mem_cons.mp hx with e | e
              · rw [e]
                exact List.mem_map.mpr ⟨(w, kk + 1), (m2 w (kk + 1)).mpr (Or.inr ⟨hw, rfl⟩), rfl⟩
              · exact sub x e
            rw [List.length_cons, List.length_map, List.length_map] at this
            omega
def sp_way_up (K : PySem.W.Frag) : Sp := fun vs H Q _ => ∃ (a : Addr) (f : File) (s : State) (b w g : Nat), vs = [.ref a, .int (w : Nat), .int (g : Nat)] ∧ SV K H a f s ∧ WS f s b ∧ w < f.words.length ∧ g < f.words.length ∧
  (∀ H', Vbenah.stepsUp s.pairs f.words.length w g = none → Same H H' → Q .non H') ∧ ∀ H' r n, Vbenah.stepsUp s.pairs f.words.length w g = some n → Same H H' → LstN H' r (Vbenah.wayUp s.pairs f.words.length n w g) → (Vbenah.wayUp s.pairs f.words.length n w g).length ≤ 20 → Q (.ref r) H'
theorem len_way_up (K : PySem.W.Frag) : ∀ vs H Q E, sp_way_up K vs H Q E → vs.length = 3 := fun _ _ _ _ ⟨_, _, _, _, _, _, h, _⟩ => by rw [h]; rfl
theorem self_from {p : List (Nat × Nat)} {n k a b : Nat} (hp : InN p n) (ha : a < n) : (Vbenah.aboveFrom p n k [a]).contains b = true ↔ Wk p k a b := by
  rw [List.contains_iff_mem, mem_from hp k [a] b (by simpa using ha)]
  constructor
  · rintro ⟨c, h1, h2⟩
    rw [List.mem_singleton] at h1
    exact h1 ▸ h2
  · exact fun h => ⟨a, List.mem_singleton.mpr rfl, h⟩
theorem dst_le {p : List (Nat × Nat)} {n a b d : Nat} (hp : InN p n) (ha : a < n) (h : Dst p a b d) : d ≤ n := by
  rcases Nat.lt_or_ge n d with g | g
  · exact absurd (wk_n hp ha h.1) (h.2 n g)
  · exact g
theorem find_range {q : Nat → Bool} {n m : Nat} (hm : m < n) (h1 : q m = true) (h2 : ∀ j, j < m → q j = false) : (List.range n).find? q = some m := by
  rw [List.find?_eq_some_iff_getElem]
  refine ⟨h1, m, by rw [List.length_range]; exact hm, by rw [List.getElem_range], fun j hj => ?_⟩
  rw [List.getElem_range, h2 j hj]
  rfl
theorem steps_some {p : List (Nat × Nat)} {n a b d : Nat} (hp : InN p n) (ha : a < n) (h : Dst p a b d) : Vbenah.stepsUp p n a b = some d := by
  unfold Vbenah.stepsUp
  refine find_range (Nat.lt_succ_of_le (dst_le hp ha h)) ((self_from hp ha).mpr h.1) fun j hj => ?_
  exact Bool.eq_false_iff.mpr fun z => h.2 j hj ((self_from hp ha).mp z)
theorem steps_none {p : List (Nat × Nat)} {n a b : Nat} (hp : InN p n) (ha : a < n) (h : ∀ d, ¬ Dst p a b d) : Vbenah.stepsUp p n a b = none := by
  unfold Vbenah.stepsUp
  rw [List.find?_eq_none]
  intro k _ z
  obtain ⟨d, _, hd⟩ := dst_ex ((self_from hp ha).mp z)
  exact h d hd
theorem way_zero (p : List (Nat × Nat)) (n : Nat) : ∀ (k a : Nat), Vbenah.wayUp p n k a a = [a]
  | 0, _ => rfl
  | k + 1, a => by simp [Vbenah.wayUp]
theorem way_step {p : List (Nat × Nat)} {n a b d m : Nat} (hp : InN p n) (h : Dst p a b (d + 1)) (hm : (a, m) ∈ p) (hd : Dst p m b d) (least : ∀ u, (a, u) ∈ p → Dst p u b d → m ≤ u) : Vbenah.wayUp p n (d + 1) a b = a :: Vbenah.wayUp p n d m b := by
  obtain ⟨ne, _⟩ := dst_step h
  have hmn := (hp _ hm).2
  have e : ((List.range n).find? fun x => p.contains (a, x) && (Vbenah.aboveFrom p n d [x]).contains b) = some m := by
    refine find_range hmn ?_ fun j hj => ?_
    · rw [Bool.and_eq_true, List.contains_iff_mem]
      exact ⟨hm, (self_from hp hmn).mpr hd.1⟩
    · refine Bool.eq_false_iff.mpr fun z => ?_
      rw [Bool.and_eq_true, List.contains_iff_mem] at z
      obtain ⟨z1, z2⟩ := z
      have z2 := (self_from hp (hp _ z1).2).mp z2
      have hju : Dst p j b d := ⟨z2, fun e he hw => h.2 (e + 1) (by omega) (Or.inr ⟨j, z1, hw⟩)⟩
      have := least j z1 hju
      omega
  show (if a = b then [a] else match ((List.range n).find? fun x => p.contains (a, x) && (Vbenah.aboveFrom p n d [x]).contains b) with | some x => a :: Vbenah.wayUp p n d x b | none => [a]) = _
  rw [if_neg ne, e]
theorem way_len (p : List (Nat × Nat)) (n b : Nat) : ∀ (k a : Nat), (Vbenah.wayUp p n k a b).length ≤ k + 1
  | 0, _ => by simp [Vbenah.wayUp]
  | k + 1, a => by
    unfold Vbenah.wayUp
    split
    · simp
    · split
      · rename_i x _
        have := way_len p n b k x
        simp
        omega
      · simp
structure WyI (H : Hp) (a sd q : Addr) (p : List (Nat × Nat)) (n w g n0 e : Nat) (pre : List Nat) (cur : Nat) (σ : L2.St) (H' : Hp) : Prop where
  sl : ∃ x y, σ = [some (.ref a), some (.int (w : Nat)), some (.int (g : Nat)), some (.ref sd), some (.ref q), x, y]
  sm : Same H H'
  qq : LstN H' q (pre ++ [cur])
  ds : Dst p cur g e
  wy : pre ++ Vbenah.wayUp p n e cur g = Vbenah.wayUp p n n0 w g
  ln : pre.length + e = n0
  ct : cur < n
def WyW (H : Hp) (a sd q : Addr) (p : List (Nat × Nat)) (n w g n0 : Nat) (m : Nat) (σ : L2.St) (H' : Hp) : Prop := ∃ pre cur, WyI H a sd q p n w g n0 m pre cur σ H'
theorem nk_find {l : List (Nat × Nat)} {a d : Nat} (nd : (l.map (·.1)).Nodup) (h : (a, d) ∈ l) : valV (nk l) (Sum.inl (a : Int)) = some (.int (d : Nat)) := by
  rw [nk_dkv, valV_dkv]
  induction l with
  | nil => cases h
  | cons x l ih =>
    obtain ⟨h1, h2⟩ := List.nodup_cons.mp nd
    rw [List.map_cons, List.find?_cons]
    rcases List.mem_cons.mp h with e | e
    · subst e
      have : (a == a) = true := beq_self_eq_true a
      simp only [this]
      rfl
    · have ne : ¬ x.1 = a := fun z => h1 (List.mem_map.mpr ⟨(a, d), e, z.symm⟩)
      have : (x.1 == a) = false := beq_eq_false_iff_ne.mpr ne
      simp only [this]
      exact ih h2 e
theorem nk_miss {l : List (Nat × Nat)} {a : Nat} (h : ¬ a ∈ l.map (·.1)) : valV (nk l) (Sum.inl (a : Int)) = none := by
  cases e : valV (nk l) (Sum.inl (a : Int)) with
  | none => rfl
  | some v =>
    have := nk_val l a
    rw [e] at this
    exact absurd (List.contains_iff_mem.mp this.symm) h
theorem sc_way_up : FnScope (["state", "word", "goal", "steps", "found", "left", "upper"] : List Str) ["state", "word", "goal"] (defScope s_way_up) := C8.fnScope_by (by decide +kernel)
theorem c_way_up (E : Env P w K mg base) : Cal P w K mg base CX0 2 "way_up" (sp_way_up K) := by
  have sc := sc_way_up
  refine mkCal (st := s_way_up) (E.top.d.def_ 37 (d := d_way_up) rfl) (E.glo 37) sc (fun _ _ _ _ _ _ us hl => match us, hl with | [_, _, _], _ => rfl) (len_way_up K) (fun cdv A outer s H vs Q X hr h => ⟨_, PSs.nox ((pss_cons (ps_set (i := 3) sc.nd rfl (Or.inr rfl) (pe_c (c_steps_to E) hr (by decide) rfl pass0 (pa_cons (pv 0) (pa_cons (pv 2) pa_nil))))
    (pss_cons (ps_if (pt_cmp (pc_dnotin (hu_of hr) (pv 1) (pv 3))) (pss_one (ps_ret pe_non)) pss_nil)
    (pss_cons (ps_set (i := 4) sc.nd rfl (Or.inl rfl) (pe_lst (pa_cons (pv 1) pa_nil)))
    (pss_cons (ps_while PassesOwn.never (pt_cmpR op_ne (pe_ix (ixL (K := K)) (pv 4) (pe_un un_neg pe_int) (fun _ _ => rfl)) (pv 2) (nomark _))
    (pss_cons (ps_set (i := 5) sc.nd rfl (Or.inr rfl) (pe_op op_sub (pe_dget (hu_of hr) (pv 3) (pe_ix (ixL (K := K)) (pv 4) (pe_un un_neg pe_int) (fun _ _ => rfl)) (fun _ _ => rfl)) pe_int))
    (pss_one (ps_expr (pe_bm PySem.F.plainAttrs_list PySem.F.slot_list_append PySem.F.type_list_append mt_append (pv 4) (pa_cons (pe_callB (cr_min rfl) rfl (fr_min E) (by decide +kernel) (pa_cons (pe_lc (own := [("upper", 6)]) (g := (gName 6)) rfl sc.nd (pi_list (pe_c (c_uppers_of E) hr (by decide) rfl pass0 (pa_cons (pv 0) (pa_cons (pe_ix (ixL (K := K)) (pv 4) (pe_un un_neg pe_int) (fun _ _ => rfl)) pa_nil)))) (blkOk_by (own := [("upper", 6)]) (N := ["state", "word", "goal", "steps", "found", "left", "upper"]) (sc := defScope s_way_up) (by decide +kernel)) (fun _ _ _ _ _ => pg_name (i := 6) sc.nd rfl (Or.inl rfl)) (fun _ _ _ _ _ => (pts_one (pt_cmpR op_eq (pe_dget2 (hu_of hr) (pv 3) (pv 6) (pe_un un_neg pe_int) ⟨rfl, rfl, rfl, rfl⟩) (pv 5) (nomark _)))) (fun _ _ _ _ _ => (pv 6))) pa_nil)) pa_nil))))))
    (pss_one (ps_ret (pv 4)))))))), ?_⟩)
  obtain ⟨a, f, t, b, w, g, rfl, hS, hW, hw, hg, k0, k⟩ := h
  have hb := hW.hb
  have hpl := hW.pl
  have hn := hW.hn
  refine ⟨_, rfl, _, rfl, a, f, t, b, g, rfl, hS, hW, hg, fun H1 sd s1 hSt => ?_⟩
  obtain ⟨l, e1, ndl, mm⟩ := hSt
  refine ⟨_, rfl, _, rfl, sd, _, rfl, dgetN e1, _, rfl, ?_⟩
  rw [nk_val]
  by_cases hin : w ∈ l.map (·.1)
  · obtain ⟨r, hr, rfl⟩ := List.mem_map.mp hin
    have hd0 := (mm r.1 r.2).mp hr
    have hle := dst_le hW.pp hw hd0
    have hst := steps_some hW.pp hw hd0
    generalize r.1 = w at *
    generalize r.2 = n0 at *
    refine if_f (by rw [List.contains_iff_mem.mpr hin]; rfl) ⟨_, rfl, (show 1 ≤ sizeLine by decide), fun q nq => ?_⟩
    have nqH : H q = none := s1.free nq
    refine ⟨WyW H1 a sd q t.pairs f.words.length w g n0, ⟨n0, [], w, ⟨_, _, rfl⟩, Same.new nq, upd_same, hd0, rfl, by simp, hw⟩, ?_⟩
    rintro m σ H' ⟨pre, cur, ⟨x, y, rfl⟩, sm, qq, ds, wy, ln, ct⟩
    refine ⟨_, rfl, 1, rfl, q, _, -1, .int (cur : Nat), rfl, rfl, SqL.of qq, by rw [nV_snoc]; exact atI_last _ _, _, rfl, rfl, _, rfl, ?_⟩
    rw [dN]
    by_cases hcg : cur = g
    · subst hcg
      have : m = 0 := dst_uniq ds (dst_zero.mpr rfl)
      subst this
      refine if_f (by simp) ⟨_, rfl, k _ q n0 hst (Same.trans s1 sm) ?_ ?_⟩
      · rw [← wy]
        exact qq
      · have := way_len t.pairs f.words.length cur n0 w
        omega
    · refine if_t (by simp [hcg]) ⟨fun σ' H'' => ∃ m', m' < m ∧ WyW H1 a sd q t.pairs f.words.length w g n0 m' σ' H'', fun _ _ h => h, ?_⟩
      cases m with
      | zero => exact absurd (dst_zero.mp ds) hcg
      | succ e' =>
        obtain ⟨_, c, hc, hcd⟩ := dst_step ds
        have hcl := nk_find ndl ((mm cur (e' + 1)).mpr ds)
        have e1' := sm _ _ e1
        refine ⟨_, rfl, _, rfl, 1, rfl, q, _, -1, .int (cur : Nat), rfl, rfl, SqL.of qq, by rw [nV_snoc]; exact atI_last _ _, sd, .int ((e' + 1 : Nat)), rfl, by rw [← hcl]; exact dgetN e1', ((e' + 1 : Nat) : Int), 1, rfl, rfl, ?_⟩
        have e9 : ((fun i j => V.int (i - j)) ((e' + 1 : Nat) : Int) 1) = V.int (e' : Nat) := by
          show V.int _ = _
          congr 1
          omega
        rw [e9]
        refine ⟨_, rfl, ty_lst qq, _, rfl, _, rfl, 1, rfl, q, _, -1, .int (cur : Nat), rfl, rfl, SqL.of qq, by rw [nV_snoc]; exact atI_last _ _, a, f, t, cur, rfl, hS.same (Same.trans s1 sm), hW.p1, fun H3 u s3 nu eu => ⟨u, rfl, ⟨_, SqL.of eu⟩, fun D hD => ?_⟩⟩
        have tst : ∀ z, z < f.words.length → decide (((valV (nk l) (Sum.inl (z : Int))).getD (.int (-1))) = V.int (e' : Nat)) = decide ((z, e') ∈ l) := fun z _ => by
          by_cases hz : z ∈ l.map (·.1)
          · obtain ⟨r, hr, rfl⟩ := List.mem_map.mp hz
            rw [nk_find ndl (d := r.2) hr]
            show decide (V.int (r.2 : Nat) = V.int (e' : Nat)) = _
            rw [dN]
            by_cases hq : r.2 = e'
            · subst hq
              simp [hr]
            · have : ¬ (r.1, e') ∈ l := fun h => hq (dst_uniq ((mm _ _).mp hr) ((mm _ _).mp h))
              rw [decide_eq_false this]
              exact beq_eq_false_iff_ne.mpr hq
          · rw [nk_miss hz]
            have : ¬ (z, e') ∈ l := fun h => hz (List.mem_map.mpr ⟨_, h, rfl⟩)
            rw [decide_eq_false this]
            refine decide_eq_false fun z2 => ?_
            have z2 : V.int (-1) = V.int (e' : Nat) := z2
            injection z2 with z2
            omega
        refine lc_it (walk_nums (l := ups t.pairs cur)) (CL H3 D isN (ups t.pairs cur) fun z => if decide ((z, e') ∈ l) = true then some z else none) (CL.start hD) (fun i H1 hi p => p.same.seq (SqL.of eu)) (fun i v H4 H5 hi p yy => ?_) fun H4 p => ?_
        · obtain ⟨rfl, z, rfl, hz⟩ := yy
          have hzp := mem_ups.mp (mem_of_get hz)
          have hzn := (hW.pp _ hzp).2
          have e5 := p.same _ _ (s3 _ _ e1')
          have hlu := ups_len t.pairs cur
          refine ⟨rfl, _, rfl, sd, rfl, Or.inl ⟨_, Or.inl e5⟩, _, rfl, 1, rfl, _, dgetN e5, _, rfl, ?_, _, rfl, ?_⟩
          · cases h5 : valV (nk l) (Sum.inl (z : Int)) with
            | none => rfl
            | some v =>
              have hz2 : z ∈ l.map (·.1) := by
                have := nk_val l z
                rw [h5] at this
                exact List.contains_iff_mem.mp this.symm
              obtain ⟨r, hr, rfl⟩ := List.mem_map.mp hz2
              rw [nk_find ndl (d := r.2) hr] at h5
              cases h5
              rfl
          · rw [tst z hzn]
            refine ite2 (fun hc => ?_) fun hc => ?_
            · exact ⟨_, rfl, CL.put p (Same.refl _) hz (if_pos hc) (by omega) isN_mono fun _ _ => rfl⟩
            · exact CL.skip p (Same.refl _) hz (if_neg hc)
        · obtain ⟨B, vs, q1, q2, q3, q4, q5⟩ := p.fin
          rw [paired_isN q5, filterMap_filter' fun z => decide ((z, e') ∈ l)] at q4
          have s4 := Same.trans q1 q2
          have hmem : ∀ z, z ∈ (ups t.pairs cur).filter (fun z => decide ((z, e') ∈ l)) ↔ (cur, z) ∈ t.pairs ∧ Dst t.pairs z g e' := fun z => by
            rw [List.mem_filter, mem_ups, decide_eq_true_iff, mm]
          generalize (ups t.pairs cur).filter (fun z => decide ((z, e') ∈ l)) = ns at q4 hmem
          have hne : 0 < (zs ns).length := by
            rw [List.length_map]
            exact List.length_pos_of_mem ((hmem c).mpr ⟨hc, hcd⟩)
          have qq4 := s4 _ _ (s3 _ _ qq)
          refine ⟨D, zs ns, rfl, ?_, hne, fun mi hmi hle2 => ⟨q, _, _, rfl, rfl, qq4, ?_, ?_⟩⟩
          · rw [List.map_map]
            exact SqL.of q4
          · rw [nV_len, List.length_append]
            exact sz_lt (by simp; omega)
          · obtain ⟨mn, hmn, rfl⟩ := List.mem_map.mp hmi
            rw [← nV_snoc]
            obtain ⟨g1, g2⟩ := (hmem mn).mp hmn
            refine ⟨e', Nat.lt_succ_self _, pre ++ [cur], mn, ⟨_, _, rfl⟩, ?_, upd_same, g2, ?_, ?_, (hW.pp _ g1).2⟩
            · exact Same.put (Same.trans sm (Same.trans s3 s4)) nq
            · rw [← wy, way_step hW.pp ds g1 g2 fun u h1 h2 => ?_]
              · simp
              · have := hle2 (u : Int) (List.mem_map.mpr ⟨u, (hmem u).mpr ⟨h1, h2⟩, rfl⟩)
                omega
            · rw [List.length_append]
              simp
              omega
  · refine if_t (by rw [Bool.eq_false_iff.mpr fun z => hin (List.contains_iff_mem.mp z)]; rfl) (k0 _ (steps_none hW.pp hw fun d hd => hin (List.mem_map.mpr ⟨(w, d), (mm w d).mpr hd, rfl⟩)) s1)
end
end Bw
namespace Bw
open PySem PySem.Spec PyProof.Rows L2
open Vbenah (File State Card Act)
section
variable {P : Program} {w : World} {K : PySem.W.Frag} {mg : Str → Option Value} {base : Heap}
/-- words and cards, in order -/
def wcs (n m : Nat) : List (Nat × Nat) := (List.range n).flatMap fun w => (List.range m).map fun c => (w, c)
def kndT (f : File) (st : Nat → State) (k n m : Nat) : List (List Key × V) := (wcs n m).map fun x => (kP x.1 x.2, V.int (verd f st k x.2 x.1 : Nat))
def sp_all_kinds (K : PySem.W.Frag) : Sp := fun vs H Q _ => ∃ (x : Addr) (f : File) (xs : List NAct), vs = [.ref x] ∧ PastV K H x f xs ∧ NV f xs ∧
  ∀ H' r, Same H H' → H' r = some (.dT (kndT f (nat_ f xs) xs.length f.words.length (nat_ f xs xs.length).cards.length)) → Q (.ref r) H'
theorem len_all_kinds (K : PySem.W.Frag) : ∀ vs H Q E, sp_all_kinds K vs H Q E → vs.length = 1 := fun _ _ _ _ ⟨_, _, _, h, _⟩ => by rw [h]; rfl
theorem valV_none {κ : Type} [DecidableEq κ] {kvs : List (κ × V)} {k : κ} (h : ∀ p ∈ kvs, p.1 ≠ k) : valV kvs k = none := by
  unfold valV
  have : kvs.find? (fun kv => decide (kv.1 = k)) = none := List.find?_eq_none.mpr fun p hp e => h p hp (of_decide_eq_true e)
  rw [this]
  rfl
theorem mem_wcs {n m : Nat} {x : Nat × Nat} : x ∈ wcs n m ↔ x.1 < n ∧ x.2 < m := by
  unfold wcs
  rw [List.mem_flatMap]
  constructor
  · rintro ⟨w, h1, h2⟩
    obtain ⟨c, h3, rfl⟩ := List.mem_map.mp h2
    exact ⟨List.mem_range.mp h1, List.mem_range.mp h3⟩
  · rintro ⟨h1, h2⟩
    exact ⟨x.1, List.mem_range.mpr h1, List.mem_map.mpr ⟨x.2, List.mem_range.mpr h2, rfl⟩⟩
theorem wcs_len (n m : Nat) : (wcs n m).length = n * m := by
  unfold wcs
  induction n with
  | zero => simp
  | succ n ih =>
    rw [List.range_succ, List.flatMap_append, List.length_append, ih]
    simp [Nat.succ_mul]
theorem wcs_succ (n m : Nat) : wcs (n + 1) m = wcs n m ++ (List.range m).map fun c => (n, c) := by
  unfold wcs
  rw [List.range_succ, List.flatMap_append]
  simp
theorem sc_all_kinds : FnScope (["past", "found", "word", "number"] : List Str) ["past"] (defScope s_all_kinds) := C8.fnScope_by (by decide +kernel)
theorem c_all_kinds (E : Env P w K mg base) : Cal P w K mg base CX0 5 "all_kinds" (sp_all_kinds K) := by
  have sc := sc_all_kinds
  refine mkCal (st := s_all_kinds) (E.top.d.def_ 38 (d := d_all_kinds) rfl) (E.glo 38) sc (fun _ _ _ _ _ _ us hl => match us, hl with | [_], _ => rfl) (len_all_kinds K) (fun cdv A outer s H vs Q X hr h => ⟨_, PSs.nox ((pss_cons (ps_set (i := 1) sc.nd rfl (Or.inl rfl) pe_dnewT)
    (pss_cons (ps_for PassesOwn.never rfl (pi_range1 (by rfl) (fr_range E) (pa_cons (pe_callB (clen (K := K)) rfl (fr_len E) (by decide +kernel) (pa_cons (peF (K := K) (peF (K := K) (pv 0) rfl) rfl) pa_nil)) pa_nil)) (pg_name (i := 2) sc.nd rfl (Or.inl rfl))
    (pss_one (ps_for PassesOwn.never rfl (pi_range1 (by rfl) (fr_range E) (pa_cons (pe_callB (clen (K := K)) rfl (fr_len E) (by decide +kernel) (pa_cons (peF (K := K) (peF (K := K) (pv 0) rfl) rfl) pa_nil)) pa_nil)) (pg_name (i := 3) sc.nd rfl (Or.inl rfl))
    (pss_one (ps_dput (hu_of hr) (pv 1) (pe_tup (pa_cons (pv 2) (pa_cons (pv 3) pa_nil))) (pe_c (c_kind_of E) hr (by decide) rfl pass0 (pa_cons (pv 0) (pa_cons (pv 2) (pa_cons (pv 3) pa_nil)))) rfl)))))
    (pss_one (ps_ret (pv 1)))))), ?_⟩)
  obtain ⟨x, f, xs, rfl, hP, hV, k⟩ := h
  have hW := ws_nat hV xs.length (Nat.le_refl _)
  have hn := hV.hn
  have hln := hV.ln
  have hcl := hW.cl
  have hP0 := hP
  obtain ⟨dx, a, ev, kvs, h1, hS, h3, h4⟩ := hP
  obtain ⟨dy, ma, la, ca, g1, ⟨ms, g2, g2'⟩, g3, ⟨cs, g4, g5⟩⟩ := hS
  have em : (ms.map V.ref).length = f.words.length := by rw [List.length_map, paired_len g2', mks_len]
  have ec : (cs.map V.ref).length = (nat_ f xs xs.length).cards.length := by rw [List.length_map, paired_len g5]
  generalize hCN : (nat_ f xs xs.length).cards.length = CN at *
  intro d nd
  have s0 : Same H (upd H d (.dT [])) := Same.new nd
  refine ⟨_, rfl, x, _, dx, _, _, rfl, s0 _ _ h1, k_Past E, n_Past_state E, rfl, a, _, dy, _, _, rfl, s0 _ _ g1, k_State E, n_State_marks E, rfl, ma, _, rfl, Or.inl (SqL.of (s0 _ _ g2)), _, rfl, by omega, by rw [em]; omega, ?_⟩
  rw [em]
  have kn_len : ∀ i m, (kndT f (nat_ f xs) xs.length i m).length = i * m := fun i m => by unfold kndT; rw [List.length_map, wcs_len]
  refine for_it walk_rngN (fun i σ H' => ∃ x2 x3, σ = [some (.ref x), some (.ref d), x2, x3] ∧ Same H H' ∧ H' d = some (.dT (kndT f (nat_ f xs) xs.length i CN))) ⟨_, _, rfl, s0, upd_same⟩ (fun i σ H' hi _ => trivial) (fun i v σ H1 H2 hi ⟨x2, x3, e, s1, ed⟩ yy => ?_) fun σ H1 ⟨x2, x3, e, s1, ed⟩ => ?_
  · subst e
    obtain ⟨rfl, rfl⟩ := yy
    have hi2 : i < f.words.length := hi
    refine ⟨_, rfl, x, _, dx, _, _, rfl, s1 _ _ h1, k_Past E, n_Past_state E, rfl, a, _, dy, _, _, rfl, s1 _ _ g1, k_State E, n_State_cards E, rfl, ca, _, rfl, Or.inl (SqL.of (s1 _ _ g4)), _, rfl, by omega, by rw [ec]; omega, ?_⟩
    rw [ec]
    let G : Nat → List (List Key × V) := fun j => kndT f (nat_ f xs) xs.length i CN ++ (List.range j).map fun c => (kP i c, V.int (verd f (nat_ f xs) xs.length c i : Nat))
    have hG0 : G 0 = kndT f (nat_ f xs) xs.length i CN := by
      show _ ++ (List.range 0).map _ = _
      simp
    refine for_it walk_rngN (fun j σ H' => ∃ x3, σ = [some (.ref x), some (.ref d), some (.int (i : Nat)), x3] ∧ Same H H' ∧ H' d = some (.dT (G j))) ⟨_, rfl, s1, by rw [hG0]; exact ed⟩ (fun i σ H' hi _ => trivial) (fun j v σ H3 H4 hj ⟨x3, e, s3, e3⟩ yy => ?_) fun σ H3 ⟨x3, e, s3, e3⟩ => ?_
    · subst e
      obtain ⟨rfl, rfl⟩ := yy
      have hj2 : j < CN := hj
      refine ⟨_, rfl, _, rfl, _, rfl, x, f, xs, i, j, rfl, hP0.same s3, hV, hi2, by rw [hCN]; exact hj2, fun H5 s5 => ⟨_, rfl, _, rfl, _, rfl, (show 2 ≤ sizeLine by decide), fun T nT => ?_⟩⟩
      have s6 := Same.trans s3 (Same.trans s5 (Same.new (o := .tup [.int (i : Nat), .int (j : Nat)]) nT))
      have e6 := Same.new (o := .tup [.int (i : Nat), .int (j : Nat)]) nT _ _ (s5 _ _ e3)
      refine ⟨d, _, rfl, DPut.t (k := kP i j) e6 upd_same ?_, _, rfl, Same.put s6 nd, ?_⟩
      · show (kndT f (nat_ f xs) xs.length i CN ++ _).length < _
        rw [List.length_append, kn_len, List.length_map, List.length_range]
        have : i * CN ≤ 12 * CN := Nat.mul_le_mul_right _ (by omega)
        exact sz_lt (by omega)
      · rw [upd_same, putK_new _ (valV_none fun p hp => ?_)]
        · show some (HO.dT ((kndT f (nat_ f xs) xs.length i CN ++ (List.range j).map _) ++ [_])) = some (HO.dT (kndT f (nat_ f xs) xs.length i CN ++ (List.range (j + 1)).map _))
          rw [List.range_succ, List.map_append, List.append_assoc]
          rfl
        · rcases List.mem_append.mp hp with m | m
          · obtain ⟨q, hq, rfl⟩ := List.mem_map.mp m
            have := (mem_wcs.mp hq).1
            intro z
            have := (kP_inj.mp z).1
            omega
          · obtain ⟨q, hq, rfl⟩ := List.mem_map.mp m
            have := List.mem_range.mp hq
            intro z
            have := (kP_inj.mp z).2
            omega
    · subst e
      refine ⟨_, _, rfl, s3, ?_⟩
      rw [e3]
      show some (HO.dT (kndT f (nat_ f xs) xs.length i CN ++ _)) = some (HO.dT ((wcs (i + 1) CN).map _))
      rw [wcs_succ, List.map_append, List.map_map]
      rfl
  · subst e
    exact ⟨_, rfl, k _ d s1 ed⟩
/-- changes, the states told -/
def chg (f : File) (st : Nat → State) (k : Nat) : List (List Nat) := (wcs f.words.length (st (k + 1)).cards.length).filterMap fun x =>
  let a := if x.2 < (st k).cards.length then verd f st k x.2 x.1 else 0
  let b := verd f st (k + 1) x.2 x.1
  if a = b then none else some [x.1, x.2, a, b]
def sp_changes (K : PySem.W.Frag) : Sp := fun vs H Q _ => ∃ (ma al : Addr) (f : File) (xs : List NAct) (k : Nat), vs = [.ref ma, .ref al, .int (k : Nat)] ∧ MarksAt H ma (mks f) ∧ ActsAt H al xs ∧ NV f xs ∧ nmays f xs ∧ k < xs.length ∧
  ∀ H' r, Same H H' → NamesAt H' r (chg f (nat_ f xs) k) → (chg f (nat_ f xs) k).length ≤ 5000 → Q (.ref r) H'
theorem len_changes (K : PySem.W.Frag) : ∀ vs H Q E, sp_changes K vs H Q E → vs.length = 3 := fun _ _ _ _ ⟨_, _, _, _, _, h, _⟩ => by rw [h]; rfl
theorem cut_take {xs : List V} {k : Nat} (h : k ≤ xs.length) : cutV xs none (some (k : Int)) = xs.take k := by
  unfold cutV
  rw [HT.sIx_none, HT.sIx_nat, Nat.min_eq_left h, List.drop_zero, Nat.sub_zero]
theorem cut_drop {xs : List V} {k : Nat} (h : k ≤ xs.length) : cutV xs (some (k : Int)) none = xs.drop k := by
  unfold cutV
  rw [HT.sIx_none, HT.sIx_nat, Nat.min_eq_left h, List.take_of_length_le]
  rw [List.length_drop]
  exact Nat.le_refl _
theorem paired_take {α β : Type} {F : α → β → Prop} : ∀ {l : List α} {m : List β} (k : Nat), Paired F l m → Paired F (l.take k) (m.take k)
  | _, _, 0, _ => by rw [List.take_zero, List.take_zero]; exact .nil
  | _, _, _ + 1, .nil => .nil
  | _, _, k + 1, .cons r t => .cons r (paired_take k t)
theorem paired_drop {α β : Type} {F : α → β → Prop} : ∀ {l : List α} {m : List β} (k : Nat), Paired F l m → Paired F (l.drop k) (m.drop k)
  | _, _, 0, h => h
  | _, _, _ + 1, .nil => .nil
  | _, _, k + 1, .cons _ t => paired_drop k t
theorem NV.take {f : File} {xs : List NAct} (h : NV f xs) (k : Nat) : NV f (xs.take k) := ⟨h.hn, h.ho, Nat.le_trans (by simp; omega) h.ln, fun y hy => h.wf y (List.mem_of_mem_take hy)⟩
theorem nat_take {f : File} {xs : List NAct} {k i : Nat} (h : i ≤ k) : nat_ f (xs.take k) i = nat_ f xs i := by
  unfold nat_
  rw [List.take_take, Nat.min_eq_left h]
theorem nmays_take {f : File} {xs : List NAct} (h : nmays f xs) (k : Nat) : nmays f (xs.take k) := fun i y hy => by
  have hi := lt_of_get hy
  have hi2 : i < k := by
    rw [List.length_take] at hi
    omega
  rw [List.getElem?_take_of_lt hi2] at hy
  rw [nat_take (Nat.le_of_lt hi2)]
  exact h i y hy
theorem verd_congr {f : File} {st st' : Nat → State} {k c w : Nat} (h : ∀ i, i ≤ k → st i = st' i) : verd f st k c w = verd f st' k c w := by
  have e : everW f st k c w = everW f st' k c w := by
    unfold everW
    refine any_congr' fun i hi => ?_
    rw [h i (Nat.lt_succ_iff.mp (List.mem_range.mp hi))]
  unfold verd
  rw [h k (Nat.le_refl _), e]
theorem kndT_congr {f : File} {st st' : Nat → State} {k n m : Nat} (h : ∀ i, i ≤ k → st i = st' i) : kndT f st k n m = kndT f st' k n m := by
  unfold kndT
  refine List.map_congr_left fun x _ => ?_
  rw [verd_congr h]
theorem kndT_val {f : File} {st : Nat → State} {k n m w c : Nat} : valV (kndT f st k n m) (kP w c) = if w < n ∧ c < m then some (V.int (verd f st k c w : Nat)) else none := by
  unfold kndT
  by_cases g : w < n ∧ c < m
  · rw [if_pos g]
    have hm : (w, c) ∈ wcs n m := mem_wcs.mpr g
    generalize wcs n m = l at hm
    clear g
    unfold valV
    induction l with
    | nil => cases hm
    | cons x l ih =>
      rw [List.map_cons, List.find?_cons]
      by_cases e : kP x.1 x.2 = kP w c
      · obtain ⟨e1, e2⟩ := kP_inj.mp e
        rw [decide_eq_true e]
        show some (V.int (verd f st k x.2 x.1 : Nat)) = _
        rw [e1, e2]
      · rw [decide_eq_false e]
        refine ih ((List.mem_cons.mp hm).resolve_left fun z => e ?_)
        rw [← z]
  · rw [if_neg g]
    refine valV_none fun p hp => ?_
    obtain ⟨q, hq, rfl⟩ := List.mem_map.mp hp
    intro z
    obtain ⟨e1, e2⟩ := kP_inj.mp z
    have := mem_wcs.mp hq
    exact g ⟨by omega, by omega⟩
theorem lexB_anti {x y : Int × Int} (h1 : SrtO.lexB y x = false) (h2 : SrtO.lexB x y = false) : x = y := by
  have h1 : ¬ SrtO.lexB y x = true := Bool.eq_false_iff.mp h1
  have h2 : ¬ SrtO.lexB x y = true := Bool.eq_false_iff.mp h2
  rw [SrtO.lexB_iff] at h1 h2
  obtain ⟨a, b⟩ := x
  obtain ⟨c, d⟩ := y
  simp only at h1 h2
  have : a = c := by omega
  have : b = d := by omega
  subst_vars
  rfl
abbrev zP (l : List (Nat × Nat)) : List (Int × Int) := l.map fun x => ((x.1 : Int), (x.2 : Int))
theorem wcs_sorted (n m : Nat) : (zP (wcs n m)).Pairwise fun x y => SrtO.lexB y x = false := by
  rw [List.pairwise_map]
  have key : ∀ {x y : Nat × Nat}, (x.1 < y.1 ∨ (x.1 = y.1 ∧ x.2 < y.2)) → SrtO.lexB ((y.1 : Int), (y.2 : Int)) ((x.1 : Int), (x.2 : Int)) = false := fun {x y} h => by
    refine Bool.eq_false_iff.mpr fun z => ?_
    rw [SrtO.lexB_iff] at z
    simp only at z
    omega
  induction n with
  | zero => simp [wcs]
  | succ n ih =>
    rw [wcs_succ, List.pairwise_append]
    refine ⟨ih, ?_, fun x hx y hy => key ?_⟩
    · rw [List.pairwise_map]
      exact (List.pairwise_lt_range (n := m)).imp (fun {a b} h => key (x := (n, a)) (y := (n, b)) (Or.inr ⟨rfl, h⟩))
    · have := (mem_wcs.mp hx).1
      obtain ⟨c, _, rfl⟩ := List.mem_map.mp hy
      exact Or.inl this
theorem sorted_wcs {qs : List (Int × Int)} {n m : Nat} (h : qs.Perm (zP (wcs n m))) (s : qs.Pairwise fun x y => SrtO.lexB y x = false) : qs = zP (wcs n m) :=
  List.Perm.eq_of_pairwise (le := fun x y => SrtO.lexB y x = false) (fun _ _ _ _ h1 h2 => lexB_anti h1 h2) s (wcs_sorted n m) h
theorem isPr_pairs {H : Hp} : ∀ {bs : List Addr} {l : List (Nat × Nat)}, Paired (IsPr H) bs (zP l) → Paired (PrAt H) bs l
  | _, [], .nil => .nil
  | _, _ :: _, .cons r t => .cons r (isPr_pairs t)
theorem smk {H : Hp} {x dx : Addr} {o1 o2 : HO} (hx : H x = none) (hd : H dx = none) : Same H (upd (upd H dx o1) x o2) := fun b o e => by
  rw [upd_ne (ne_of_none e hx), upd_ne (ne_of_none e hd)]
  exact e
theorem smB {H H' : Hp} {x dx : Addr} {o1 o2 : HO} (hx : H x = none) (hd : H dx = none) (b : But [x] (upd (upd H dx o1) x o2) H') : Same H H' := fun c o e => b _ _ (by simpa using ne_of_none e hx) (smk hx hd _ _ e)
theorem chg_len (f : File) (st : Nat → State) (k : Nat) : (chg f st k).length ≤ f.words.length * (st (k + 1)).cards.length := by
  unfold chg
  refine Nat.le_trans (List.length_filterMap_le _ _) ?_
  rw [wcs_len]
  exact Nat.le_refl _
theorem take_len' {α : Type} {l : List α} {k : Nat} (h : k ≤ l.length) : (l.take k).length = k := by simp; omega
theorem sc_changes : FnScope (["marks", "acts", "number", "before", "behind", "pair", "pairs", "was", "now"] : List Str) ["marks", "acts", "number"] (defScope s_changes) := C8.fnScope_by (by decide +kernel)
theorem c_changes (E : Env P w K mg base) : Cal P w K mg base CX0 9 "changes" (sp_changes K) := by
  have sc := sc_changes
  refine mkCal (st := s_changes) (E.top.d.def_ 39 (d := d_changes) rfl) (E.glo 39) sc (fun _ _ _ _ _ _ us hl => match us, hl with | [_, _, _], _ => rfl) (len_changes K) (fun cdv A outer s H vs Q X hr h => ⟨_, PSs.nox ((pss_cons (ps_set (i := 3) sc.nd rfl (Or.inr rfl) (pe_c (c_all_kinds E) hr (by decide) rfl pass0 (pa_cons (pe_k (c_Past_init E) hr (by decide) rfl (pa_cons (pv 0) (pa_cons (pe_slice (slL (K := K)) (pv 1) po_none (po_some (pv 2))) pa_nil))) pa_nil)))
    (pss_cons (ps_set (i := 4) sc.nd rfl (Or.inr rfl) (pe_c (c_all_kinds E) hr (by decide) rfl pass0 (pa_cons (pe_k (c_Past_init E) hr (by decide) rfl (pa_cons (pv 0) (pa_cons (pe_slice (slL (K := K)) (pv 1) po_none (po_some (pe_op op_add (pv 2) pe_int))) pa_nil))) pa_nil)))
    (pss_cons (ps_setLc (i := 6) (own := [("pair", 5)]) (g := (gName 5)) rfl sc.nd rfl rfl (sw_true rfl rfl rfl (by decide +kernel)) (pi_list (pe_callB (cr_sortedDT rfl) rfl (fr_sorted E) (by decide +kernel) (pa_cons (pv 4) pa_nil))) (blkOk_by (own := [("pair", 5)]) (N := ["marks", "acts", "number", "before", "behind", "pair", "pairs", "was", "now"]) (sc := defScope s_changes) (by decide +kernel)) (fun _ _ _ _ _ => pg_name (i := 5) sc.nd rfl (Or.inl rfl)) (fun _ _ _ _ _ => pts_nil) (fun _ _ _ _ _ => (pe_tup (pa_cons (pv 5) (pa_cons (pe_dget2 (hu_of hr) (pv 3) (pv 5) (C8.pe_gc rfl (g_NEITHER E)) ⟨rfl, rfl, rfl, rfl⟩) (pa_cons (pe_dget (hu_of hr) (pv 4) (pv 5) (fun _ _ => rfl)) pa_nil))))))
    (pss_one (ps_ret (pe_lc (own := [("pair", 5), ("was", 7), ("now", 8)]) (g := (gTup K 3 (gCons (gName 5) (gCons (gName 7) (gCons (gName 8) gNil))))) rfl sc.nd (pi_list (pv 6)) (blkOk_by (own := [("pair", 5), ("was", 7), ("now", 8)]) (N := ["marks", "acts", "number", "before", "behind", "pair", "pairs", "was", "now"]) (sc := defScope s_changes) (by decide +kernel)) (fun _ _ _ _ _ => pg_tup rfl (pgs_cons (pg_name (i := 5) sc.nd rfl (Or.inl rfl)) (pgs_cons (pg_name (i := 7) sc.nd rfl (Or.inl rfl)) (pgs_cons (pg_name (i := 8) sc.nd rfl (Or.inl rfl)) pgs_nil)))) (fun _ _ _ _ _ => (pts_one (pt_cmpR op_ne (pv 7) (pv 8) (nomark _)))) (fun _ _ _ _ _ => (pe_tup (pa_cons (pe_ix (ixT (K := K)) (pv 5) pe_int (fun _ _ => rfl)) (pa_cons (pe_ix (ixT (K := K)) (pv 5) pe_int (fun _ _ => rfl)) (pa_cons (pv 7) (pa_cons (pv 8) pa_nil))))))))))))), ?_⟩)
  obtain ⟨ma, al, f, xs, n, rfl, hM, ⟨as, a1, a2⟩, hV, hm, hk, k⟩ := h
  have hn := hV.hn
  have hln := hV.ln
  have las := paired_len a2
  have c1 : cutV (as.map V.ref) none (some ((n : Nat) : Int)) = (as.take n).map V.ref := by rw [cut_take (by rw [List.length_map]; omega), List.map_take]
  have c2 : cutV (as.map V.ref) none (some (((n : Nat) : Int) + 1)) = (as.take (n + 1)).map V.ref := by
    rw [show ((n : Nat) : Int) + 1 = ((n + 1 : Nat) : Int) by omega, cut_take (by rw [List.length_map]; omega), List.map_take]
  have t1 : (xs.take n).length = n := take_len' (by omega)
  have t2 : (xs.take (n + 1)).length = n + 1 := take_len' (by omega)
  refine ⟨_, rfl, _, rfl, _, rfl, (n : Nat), rfl, al, _, rfl, SqL.of a1, fun L1 nL1 => ?_⟩
  rw [c1] at *
  have sL1 := Same.new (o := .lst ((as.take n).map V.ref)) nL1
  refine fun x1 d1 nx1 nd1 ne1 => ⟨x1, d1, ma, L1, f, xs.take n, rfl, upd_same, (hM.same sL1).same (smk nx1 nd1), ⟨as.take n, smk nx1 nd1 _ _ upd_same, paired_take n (paired_same (fun b x q => (q.same sL1).same (smk nx1 nd1)) a2)⟩, hV.take n, nmays_take hm n, fun H1 b1 hP1 => ⟨rfl, x1, f, xs.take n, rfl, hP1, hV.take n, fun H2 k1 s2 e2 => ?_⟩⟩
  have s02 : Same H H2 := Same.trans sL1 (Same.trans (smB nx1 nd1 b1) s2)
  rw [t1, kndT_congr (st' := nat_ f xs) fun i hi => nat_take hi, nat_take (Nat.le_refl n)] at e2
  refine ⟨_, rfl, _, rfl, _, rfl, (n : Nat), 1, rfl, rfl, (n : Nat) + 1, rfl, al, _, rfl, SqL.of (s02 _ _ a1), fun L2 nL2 => ?_⟩
  rw [c2] at *
  have sL2 := Same.new (o := .lst ((as.take (n + 1)).map V.ref)) nL2
  refine fun x2 d2 nx2 nd2 ne2 => ⟨x2, d2, ma, L2, f, xs.take (n + 1), rfl, upd_same, ((hM.same s02).same sL2).same (smk nx2 nd2), ⟨as.take (n + 1), smk nx2 nd2 _ _ upd_same, paired_take (n + 1) (paired_same (fun b x q => ((q.same s02).same sL2).same (smk nx2 nd2)) a2)⟩, hV.take (n + 1), nmays_take hm (n + 1), fun H3 b3 hP3 => ⟨rfl, x2, f, xs.take (n + 1), rfl, hP3, hV.take (n + 1), fun H4 k2 s4 e4 => ?_⟩⟩
  have s24 : Same H2 H4 := Same.trans sL2 (Same.trans (smB nx2 nd2 b3) s4)
  rw [t2, kndT_congr (st' := nat_ f xs) fun i hi => nat_take hi, nat_take (Nat.le_refl (n + 1))] at e4
  have e24 := s24 _ _ e2
  have hcl := (ws_nat hV (n + 1) (by omega)).cl
  have hwl : (wcs f.words.length (nat_ f xs (n + 1)).cards.length).length ≤ 1200 := by
    rw [wcs_len]
    have : f.words.length * (nat_ f xs (n + 1)).cards.length ≤ 12 * (nat_ f xs (n + 1)).cards.length := Nat.mul_le_mul_right _ hn
    omega
  refine ⟨_, rfl, k2, _, zP (wcs f.words.length (nat_ f xs (n + 1)).cards.length), rfl, .inl e4, ?_, fun bs qs p pIs perm srt np => ⟨p, rfl, ⟨_, SqL.of upd_same⟩, fun D hD => ?_⟩⟩
  · unfold kndT
    rw [List.map_map, List.map_map]
    rfl
  rw [sorted_wcs perm srt] at pIs
  have prs := isPr_pairs pIs
  have s45 := Same.new (o := .lst (bs.map V.ref)) np
  let ga : Nat × Nat → Nat := fun x => if x.2 < (nat_ f xs n).cards.length then verd f (nat_ f xs) n x.2 x.1 else 0
  let gb : Nat × Nat → Nat := fun x => verd f (nat_ f xs) (n + 1) x.2 x.1
  let R : Hp → Addr → Nat × Nat → Prop := fun B b x => ∃ pb, B b = some (.tup [.ref pb, .int (ga x : Nat), .int (gb x : Nat)]) ∧ PrAt B pb x
  have Rm : ∀ B B' b y, Same B B' → R B b y → R B' b y := fun B B' b y s ⟨pb, q1, q2⟩ => ⟨pb, s _ _ q1, s _ _ q2⟩
  refine lc_it (walk_refs prs) (CL (upd H4 p (.lst (bs.map V.ref))) D (isR R) (wcs f.words.length (nat_ f xs (n + 1)).cards.length) fun x => some x) (CL.start hD) (fun i H5 hi q => q.same.seq (SqL.of upd_same)) (fun i v H5 H6 hi q yy => ?_) fun H5 q => ?_
  · obtain ⟨rfl, pb, x, rfl, hx, hpb⟩ := yy
    have hxm := mem_wcs.mp (mem_of_get hx)
    have s46 := Same.trans s45 q.same
    have hpb6 := s46 _ _ hpb
    refine ⟨rfl, yes_ ⟨_, rfl, _, rfl, k1, rfl, Or.inr ⟨_, .inl (s46 _ _ e24)⟩, _, rfl, _, DGet.t (k := kP x.1 x.2) (s46 _ _ e24) hpb6, _, rfl, _, rfl, k2, .int (gb x : Nat), rfl, ?_, (show 3 ≤ sizeLine by decide), fun T nT => ?_⟩⟩
    · have h := DGet.t (k := kP x.1 x.2) (s46 _ _ e4) hpb6
      rw [kndT_val, if_pos hxm] at h
      exact h
    · have ev : (valV (kndT f (nat_ f xs) n f.words.length (nat_ f xs n).cards.length) (kP x.1 x.2)).getD (V.int 0) = .int (ga x : Nat) := by
        rw [kndT_val]
        show _ = V.int ((if x.2 < (nat_ f xs n).cards.length then verd f (nat_ f xs) n x.2 x.1 else 0 : Nat))
        by_cases h : x.2 < (nat_ f xs n).cards.length
        · rw [if_pos ⟨hxm.1, h⟩, if_pos h]
          rfl
        · rw [if_neg fun z => h z.2, if_neg h]
          rfl
      rw [ev]
      obtain ⟨vs, edd⟩ := q.dd
      exact CL.put q (Same.new nT) hx rfl (by omega) (isR_mono Rm) fun B hB => ⟨T, rfl, pb, hB _ _ (fun z => by rw [z, edd] at nT; cases nT) upd_same, hB _ _ (ne_obj hpb6 edd fun z => by cases z) (Same.new nT _ _ hpb6)⟩
  · obtain ⟨B, vs, q1, q2, q3, q4, q5⟩ := q.fin
    rw [filterMap_some' (fun x => x), List.map_id'] at q5
    obtain ⟨bs3, rfl, q6⟩ := paired_isR q5
    have q7 : Paired (R H5) bs3 (wcs f.words.length (nat_ f xs (n + 1)).cards.length) := paired_same (fun b x r => Rm _ _ _ _ q2 r) q6
    have s05 : Same H H5 := Same.trans s02 (Same.trans s24 (Same.trans s45 (Same.trans q1 q2)))
    refine ⟨_, rfl, D, rfl, ⟨_, SqL.of q4⟩, fun D2 hD2 => ?_⟩
    refine lc_it (walk_refs q7) (CL H5 D2 (isR TupN) (wcs f.words.length (nat_ f xs (n + 1)).cards.length) fun x => if ga x = gb x then none else some [x.1, x.2, ga x, gb x]) (CL.start hD2) (fun i H6 hi q => q.same.seq (SqL.of q4)) (fun i v H6 H7 hi q yy => ?_) fun H6 q => ?_
    · obtain ⟨rfl, T, x, rfl, hx, pb, g1, g2⟩ := yy
      have s6 := q.same
      refine ⟨T, _, rfl, SqT.of (s6 _ _ g1), rfl, _, _, rfl, _, _, rfl, _, _, rfl, rfl, rfl, _, rfl, _, rfl, rfl, _, rfl, ?_⟩
      rw [dN]
      by_cases hab : ga x = gb x
      · refine if_f (by simp [hab]) (CL.skip q (Same.refl _) hx (if_pos hab))
      · obtain ⟨vs, edd⟩ := q.dd
        exact if_t (by simp [hab]) ⟨_, rfl, pb, _, 0, .int (x.1 : Nat), rfl, rfl, SqT.of (s6 _ _ g2), rfl, _, rfl, pb, _, 1, .int (x.2 : Nat), rfl, rfl, SqT.of (s6 _ _ g2), rfl, _, rfl, _, rfl, (show 4 ≤ sizeLine by decide), fun T2 nT2 => CL.put q (Same.new nT2) hx (if_neg hab) (by omega) (isR_mono fun B B' b y s r => s _ _ r) fun B hB => ⟨T2, rfl, hB _ _ (fun z => by rw [z, edd] at nT2; cases nT2) upd_same⟩⟩
    · obtain ⟨B2, vs, r1, r2, r3, r4, r5⟩ := q.fin
      obtain ⟨bs4, rfl, r6⟩ := paired_isR r5
      have hcl2 := chg_len f (nat_ f xs) n
      rw [wcs_len] at hwl
      exact k _ D2 (Same.trans s05 (Same.trans r1 r2)) ⟨bs4, r4, paired_same (fun b x r => r2 _ _ r) r6⟩ (by omega)
/-- what of a card is told -/
def tld (f : File) (c : Card) : List Nat × List Nat × List Nat := (c.name, c.words, Vbenah.holesOf f.holes c.notches)
def TldAt (H : Hp) (b : Addr) (x : List Nat × List Nat × List Nat) : Prop := ∃ p q r, H b = some (.tup [.ref p, .ref q, .ref r]) ∧ TupN H p x.1 ∧ LstN H q x.2.1 ∧ LstN H r x.2.2
def TldsAt (H : Hp) (l : Addr) (xs : List (List Nat × List Nat × List Nat)) : Prop := ∃ bs : List Addr, H l = some (.lst (bs.map V.ref)) ∧ Paired (TldAt H) bs xs
def sp_cards_told (K : PySem.W.Frag) : Sp := fun vs H Q _ => ∃ (a : Addr) (f : File) (s : State) (b : Nat), vs = [.ref a] ∧ SV K H a f s ∧ WS f s b ∧
  ∀ H' r, Same H H' → TldsAt H' r (s.cards.map (tld f)) → Q (.ref r) H'
theorem len_cards_told (K : PySem.W.Frag) : ∀ vs H Q E, sp_cards_told K vs H Q E → vs.length = 1 := fun _ _ _ _ ⟨_, _, _, _, h, _⟩ => by rw [h]; rfl
theorem sc_cards_told : FnScope (["state", "card"] : List Str) ["state"] (defScope s_cards_told) := C8.fnScope_by (by decide +kernel)
theorem c_cards_told (E : Env P w K mg base) : Cal P w K mg base CX0 1 "cards_told" (sp_cards_told K) := by
  have sc := sc_cards_told
  refine mkCal (st := s_cards_told) (E.top.d.def_ 40 (d := d_cards_told) rfl) (E.glo 40) sc (fun _ _ _ _ _ _ us hl => match us, hl with | [_], _ => rfl) (len_cards_told K) (fun cdv A outer s H vs Q X hr h => ⟨_, PSs.nox ((pss_one (ps_ret (pe_lc (own := [("card", 1)]) (g := (gName 1)) rfl sc.nd (pi_list (peF (K := K) (pv 0) rfl)) (blkOk_by (own := [("card", 1)]) (N := ["state", "card"]) (sc := defScope s_cards_told) (by decide +kernel)) (fun _ _ _ _ _ => pg_name (i := 1) sc.nd rfl (Or.inl rfl)) (fun _ _ _ _ _ => pts_nil) (fun _ _ _ _ _ => (pe_tup (pa_cons (peF (K := K) (pv 1) rfl) (pa_cons (peF (K := K) (pv 1) rfl) (pa_cons (pe_callB (call_sortedDI rfl) rfl (fr_sorted E) (by decide +kernel) (pa_cons (peF (K := K) (pv 1) rfl) pa_nil)) pa_nil))))))))), ?_⟩)
  obtain ⟨a, f, t, b, rfl, hS, hW, k⟩ := h
  have hb := hW.hb
  have hcl := hW.cl
  obtain ⟨dx, ma, la, ca, h1, h2, h3, ⟨cs, h4, h5⟩⟩ := hS
  refine ⟨_, rfl, a, _, dx, _, _, rfl, h1, k_State E, n_State_cards E, rfl, ca, rfl, ⟨_, SqL.of h4⟩, fun D hD => ?_⟩
  refine lc_it (walk_refs h5) (CL H D (isR fun B b x => ∃ p q r, B b = some (.tup [.ref p, .ref q, .ref r]) ∧ TupN B p x.1 ∧ LstN B q x.2.1 ∧ LstN B r x.2.2) t.cards fun c => some (tld f c)) (CL.start hD) (fun i H1 hi p => p.same.seq (SqL.of h4)) (fun i v H1 H2 hi p yy => ?_) fun H1 p => ?_
  · obtain ⟨rfl, cb, cd, rfl, hx, dc, pn, wi, ni, c1, c2, c3, c4⟩ := yy
    obtain ⟨q1, q2, q3⟩ := hW.cw cd (mem_of_get hx)
    have s1 := p.same
    have hbl := cwf_len q3 hW.ho
    refine ⟨rfl, yes_ ⟨_, rfl, cb, _, dc, _, _, rfl, s1 _ _ c1, k_Card E, n_Card_name E, rfl, _, rfl, cb, _, dc, _, _, rfl, s1 _ _ c1, k_Card E, n_Card_words E, rfl, _, rfl, cb, _, dc, _, _, rfl, s1 _ _ c1, k_Card E, n_Card_notches E, rfl, ni, nk cd.by_, zs (cd.by_.map (·.1)), rfl, .inl (s1 _ _ c4), ?_, ?_, fun ys r pm srt nr => ⟨(show 3 ≤ sizeLine by decide), fun T nT => ?_⟩⟩⟩
    · unfold nk
      rw [List.map_map, List.map_map, List.map_map]
      rfl
    · rw [List.length_map, List.length_map]
      omega
    · have ey := sorted_nats pm srt q3.nd (asc_holes f.holes cd.notches) fun z => by rw [q3.ks, mem_holes]
      rw [ey] at nT ⊢
      · obtain ⟨vs, edd⟩ := p.dd
        have sr := Same.new (o := .lst (nV (Vbenah.holesOf f.holes cd.notches))) nr
        have sT := Same.new (o := .tup [.ref pn, .ref wi, .ref r]) nT
        refine CL.put p (Same.trans sr sT) hx rfl (by omega) (isR_mono fun B B' b y s q => ?_) fun B hB => ⟨T, rfl, pn, wi, r, hB _ _ ?_ upd_same, hB _ _ ?_ (sT _ _ (sr _ _ (s1 _ _ c2))), hB _ _ ?_ (sT _ _ (sr _ _ (s1 _ _ c3))), hB _ _ ?_ (sT _ _ upd_same)⟩
        · obtain ⟨p, q, r, f1, f2, f3, f4⟩ := q
          exact ⟨p, q, r, s _ _ f1, s _ _ f2, s _ _ f3, s _ _ f4⟩
        · intro z
          have := sr _ _ edd
          rw [← z, nT] at this
          cases this
        · exact ne_of_none c2 hD
        · exact ne_of_none c3 hD
        · intro z
          rw [← z, nr] at edd
          cases edd
  · obtain ⟨B, vs, q1, q2, q3, q4, q5⟩ := p.fin
    rw [filterMap_some'] at q5
    obtain ⟨bs, rfl, q6⟩ := paired_isR q5
    refine k _ D (Same.trans q1 q2) ⟨bs, q4, paired_same (fun b x q => ?_) q6⟩
    obtain ⟨p, q, r, f1, f2, f3, f4⟩ := q
    exact ⟨p, q, r, q2 _ _ f1, q2 _ _ f2, q2 _ _ f3, q2 _ _ f4⟩
/-- pairs, sorted -/
def lexP (a b : Nat × Nat) : Bool := decide (a.1 < b.1 ∨ (a.1 = b.1 ∧ a.2 < b.2))
def nswap (xs : List NAct) (k : Nat) : List NAct := xs.take k ++ ((xs.drop (k + 1)).take 1 ++ ((xs.drop k).take 1 ++ xs.drop (k + 2)))
/-- as much as the program holds of two states -/
def likeS (f : File) (s t : State) : Prop := s.pairs.Perm t.pairs ∧ s.cards.map (tld f) = t.cards.map (tld f)
def sp_may_swap (K : PySem.W.Frag) : Sp := fun vs H Q _ => ∃ (ma al : Addr) (f : File) (xs : List NAct) (k : Nat), vs = [.ref ma, .ref al, .int (k : Nat)] ∧ MarksAt H ma (mks f) ∧ ActsAt H al xs ∧ NV f xs ∧ nmays f xs ∧ k + 1 < xs.length ∧
  ∀ H' b, Same H H' → (b = true ↔ nmays f (nswap xs k) ∧ likeS f (nat_ f xs xs.length) (nat_ f (nswap xs k) xs.length)) → Q (.bl b) H'
theorem len_may_swap (K : PySem.W.Frag) : ∀ vs H Q E, sp_may_swap K vs H Q E → vs.length = 3 := fun _ _ _ _ ⟨_, _, _, _, _, h, _⟩ => by rw [h]; rfl
theorem drop_take1 {α : Type} {l : List α} {n : Nat} {x : α} (h : l[n]? = some x) : (l.drop n).take 1 = [x] := by
  have hl := lt_of_get h
  rw [List.drop_eq_getElem_cons hl]
  rw [List.getElem?_eq_getElem hl] at h
  rw [Option.some.inj h]
  rfl
def aswap {α : Type} (xs : List α) (k : Nat) : List α := xs.take k ++ ((xs.drop (k + 1)).take 1 ++ ((xs.drop k).take 1 ++ xs.drop (k + 2)))
theorem nswap_eq (xs : List NAct) (k : Nat) : nswap xs k = aswap xs k := rfl
theorem paired_swap {α β : Type} {F : α → β → Prop} {l : List α} {m : List β} (k : Nat) (h : Paired F l m) : Paired F (aswap l k) (aswap m k) :=
  paired_append (paired_take k h) (paired_append (paired_take 1 (paired_drop (k + 1) h)) (paired_append (paired_take 1 (paired_drop k h)) (paired_drop (k + 2) h)))
theorem aswap_len {α : Type} {xs : List α} {k : Nat} (h : k + 1 < xs.length) : (aswap xs k).length = xs.length := by
  unfold aswap
  simp
  omega
theorem aswap_mem {α : Type} {xs : List α} {k : Nat} {x : α} (h : x ∈ aswap xs k) : x ∈ xs := by
  unfold aswap at h
  rcases List.mem_append.mp h with m | m
  · exact List.mem_of_mem_take m
  · rcases List.mem_append.mp m with m | m
    · exact List.mem_of_mem_drop (List.mem_of_mem_take m)
    · rcases List.mem_append.mp m with m | m
      · exact List.mem_of_mem_drop (List.mem_of_mem_take m)
      · exact List.mem_of_mem_drop m
def unref : V → Addr
  | .ref b => b
  | _ => 0
abbrev c2 (x : Nat × Nat) : Int × Int := ((x.1 : Int), (x.2 : Int))
theorem sortP {K : PySem.W.Frag} {H : Hp} {Q : VK} {a : Addr} {bs : List Addr} {ps : List (Nat × Nat)} (hs : SqL K H a (bs.map V.ref)) (pr : Paired (PrAt H) bs ps)
    (k : ∀ bs' ps' p, Paired (PrAt H) bs' ps' → ps'.Perm ps → (ps'.Pairwise fun x y => SrtO.lexB (c2 y) (c2 x) = false) → H p = none → Q (.ref p) (upd H p (.lst (bs'.map V.ref)))) : rSortedPO K [.ref a] H Q := by
  let g : Addr → Nat × Nat := fun b => match H b with
    | some (.tup [.int i, .int j]) => (i.toNat, j.toNat)
    | _ => (0, 0)
  have gAt : ∀ {b x}, PrAt H b x → g b = x := fun {b x} e => by
    show (match H b with | some (.tup [.int i, .int j]) => (i.toNat, j.toNat) | _ => (0, 0)) = x
    rw [show H b = _ from e]
    simp
  have hps : ps = bs.map g := by
    clear k hs
    induction pr with
    | nil => rfl
    | cons r t ih => rw [List.map_cons, gAt r, ← ih]
  have hall : ∀ b ∈ bs, PrAt H b (g b) := fun b hb => by
    obtain ⟨x, hx⟩ := paired_mem pr hb
    rw [gAt hx]
    exact hx
  refine ⟨a, bs.map V.ref, fun v => c2 (g (unref v)), rfl, hs, fun x hx => ?_, fun ys p h1 h2 np => ?_⟩
  · obtain ⟨b, hb, rfl⟩ := List.mem_map.mp hx
    exact ⟨b, rfl, hall b hb⟩
  · have pm := h2.perm
    have ey : ys = (ys.map unref).map V.ref := by
      rw [List.map_map]
      conv => lhs; rw [← List.map_id ys]
      refine List.map_congr_left fun v hv => ?_
      obtain ⟨b, hb, rfl⟩ := List.mem_map.mp (pm.mem_iff.mp hv)
      rfl
    have pb : (ys.map unref).Perm bs := by
      have := pm.map unref
      rw [List.map_map] at this
      have e : bs.map (unref ∘ V.ref) = bs := by
        conv => rhs; rw [← List.map_id bs]
        exact List.map_congr_left fun b _ => rfl
      rwa [e] at this
    have := k (ys.map unref) ((ys.map unref).map g) p ?_ ?_ ?_ np
    · rw [← ey] at this
      exact this
    · have key : ∀ l : List Addr, (∀ b ∈ l, b ∈ bs) → Paired (PrAt H) l (l.map g) := fun l => by
        induction l with
        | nil => exact fun _ => .nil
        | cons b l ih => exact fun h => .cons (hall b (h b List.mem_cons_self)) (ih fun c hc => h c (List.mem_cons_of_mem _ hc))
      exact key _ fun b hb => pb.mem_iff.mp hb
    · rw [hps]
      exact pb.map g
    · rw [List.map_map, List.pairwise_map]
      exact h1
theorem sort_uniq {A B : List (Nat × Nat)} (ha : A.Pairwise fun x y => SrtO.lexB (c2 y) (c2 x) = false) (hb : B.Pairwise fun x y => SrtO.lexB (c2 y) (c2 x) = false) (h : A.Perm B) : A = B :=
  List.Perm.eq_of_pairwise (le := fun x y => SrtO.lexB (c2 y) (c2 x) = false) (fun x y _ _ h1 h2 => by
    have := lexB_anti h1 h2
    obtain ⟨a, b⟩ := x
    obtain ⟨c, d⟩ := y
    have e1 : (a : Int) = c := congrArg Prod.fst this
    have e2 : (b : Int) = d := congrArg Prod.snd this
    have : a = c := by omega
    have : b = d := by omega
    subst_vars
    rfl) ha hb h
abbrev dC1 : List Nat × List Nat × List Nat → PyData := fun p => PyData.tuple [dT1 p.1, dL1 p.2.1, dL1 p.2.2]
theorem deC1 : DE dC1 2 := de3 deT1 deL1 deL1
theorem dpC {K : PySem.W.Frag} {H : Hp} {b : Addr} {x : List Nat × List Nat × List Nat} (h : TldAt H b x) : Dp K H (.ref b) (dC1 x) := by
  obtain ⟨p, q, r, h1, h2, h3, h4⟩ := h
  exact .tup (SqT.of h1) (.cons (dpT (SqT.of h2)) (.cons (dpL (SqL.of h3)) (.cons (dpL (SqL.of h4)) .nil)))
theorem TldAt.same {H H' : Hp} {b : Addr} {x : List Nat × List Nat × List Nat} (h : TldAt H b x) (s : Same H H') : TldAt H' b x := by
  obtain ⟨p, q, r, h1, h2, h3, h4⟩ := h
  exact ⟨p, q, r, s _ _ h1, s _ _ h2, s _ _ h3, s _ _ h4⟩
theorem sc_may_swap : FnScope (["marks", "acts", "number", "swapped", "here", "there"] : List Str) ["marks", "acts", "number"] (defScope s_may_swap) := C8.fnScope_by (by decide +kernel)
theorem c_may_swap (E : Env P w K mg base) : Cal P w K mg base CX0 8 "may_swap" (sp_may_swap K) := by
  have sc := sc_may_swap
  refine mkCal (st := s_may_swap) (E.top.d.def_ 41 (d := d_may_swap) rfl) (E.glo 41) sc (fun _ _ _ _ _ _ us hl => match us, hl with | [_, _, _], _ => rfl) (len_may_swap K) (fun cdv A outer s H vs Q X hr h => ⟨_, PSs.nox ((pss_cons (ps_set (i := 3) sc.nd rfl (Or.inl rfl) (pe_op op_cat (pe_op op_cat (pe_slice (slL (K := K)) (pv 1) po_none (po_some (pv 2))) (pe_lst (pa_cons (pe_ix (ixL (K := K)) (pv 1) (pe_op op_add (pv 2) pe_int) (fun _ _ => rfl)) (pa_cons (pe_ix (ixL (K := K)) (pv 1) (pv 2) (fun _ _ => rfl)) pa_nil)))) (pe_slice (slL (K := K)) (pv 1) (po_some (pe_op op_add (pv 2) pe_int)) po_none)))
    (pss_cons (ps_set (i := 4) sc.nd rfl (Or.inl rfl) (pe_c (c_state_if_may E) hr (by decide) rfl pass0 (pa_cons (pv 0) (pa_cons (pv 1) pa_nil))))
    (pss_cons (ps_set (i := 5) sc.nd rfl (Or.inl rfl) (pe_c (c_state_if_may E) hr (by decide) rfl pass0 (pa_cons (pv 0) (pa_cons (pv 3) pa_nil))))
    (pss_cons (ps_if (pt_cmpR op_isN (pv 5) pe_non (nomark _)) (pss_one (ps_ret pe_bl)) pss_nil)
    (pss_one (ps_ret (pe_and (pe_cmpR (opEqD (K := K) hr.units) (pe_callB (cr_sortedPO) rfl (fr_sorted E) (by decide +kernel) (pa_cons (peF (K := K) (pv 4) rfl) pa_nil)) (pe_callB (cr_sortedPO) rfl (fr_sorted E) (by decide +kernel) (pa_cons (peF (K := K) (pv 5) rfl) pa_nil)) (nomark _)) (pe_one (pe_cmpR (opEqD (K := K) hr.units) (pe_c (c_cards_told E) hr (by decide) rfl pass0 (pa_cons (pv 4) pa_nil)) (pe_c (c_cards_told E) hr (by decide) rfl pass0 (pa_cons (pv 5) pa_nil)) (nomark _))))))))))), ?_⟩)
  obtain ⟨ma, al, f, xs, n, rfl, hM, ⟨as, a1, a2⟩, hV, hm, hk, k⟩ := h
  have hln := hV.ln
  have las := paired_len a2
  have lrs : (as.map V.ref).length = xs.length := by rw [List.length_map, las]
  have c1 : cutV (as.map V.ref) none (some ((n : Nat) : Int)) = (as.take n).map V.ref := by rw [cut_take (by omega), List.map_take]
  have c3 : cutV (as.map V.ref) (some (((n : Nat) : Int) + 2)) none = (as.drop (n + 2)).map V.ref := by
    rw [show ((n : Nat) : Int) + 2 = ((n + 2 : Nat) : Int) by omega, cut_drop (by omega), List.map_drop]
  have hb1 : as[n + 1]? = some as[n + 1] := List.getElem?_eq_getElem (by omega)
  have hb0 : as[n]? = some as[n] := List.getElem?_eq_getElem (by omega)
  have eA : ((as.take n).map V.ref ++ [V.ref as[n + 1], V.ref as[n]]) ++ (as.drop (n + 2)).map V.ref = (aswap as n).map V.ref := by
    unfold aswap
    rw [drop_take1 hb1, drop_take1 hb0]
    simp
  refine ⟨_, rfl, _, rfl, (n : Nat), rfl, al, _, rfl, SqL.of a1, fun L1 n1 => ?_⟩
  rw [c1] at *
  have s1 := Same.new (o := .lst ((as.take n).map V.ref)) n1
  refine ⟨_, rfl, _, rfl, (n : Nat), 1, rfl, rfl, al, _, (n : Nat) + 1, .ref as[n + 1], rfl, rfl, SqL.of (s1 _ _ a1), ?_, _, rfl, _, rfl, al, _, (n : Nat), .ref as[n], rfl, rfl, SqL.of (s1 _ _ a1), atI_nat (get_ref hb0), (show 2 ≤ sizeLine by decide), fun L2 n2 => ?_⟩
  · rw [show ((n : Nat) : Int) + 1 = ((n + 1 : Nat) : Int) by omega]
    exact atI_nat (get_ref hb1)
  have s2 := Same.trans s1 (Same.new (o := .lst [V.ref as[n + 1], V.ref as[n]]) n2)
  refine ⟨L1, L2, _, _, rfl, rfl, Same.new n2 _ _ upd_same, upd_same, ?_, fun L3 n3 => ?_⟩
  · rw [List.length_map, List.length_take]
    exact sz_le (by simp; omega)
  have s3 := Same.trans s2 (Same.new (o := .lst ((as.take n).map V.ref ++ [V.ref as[n + 1], V.ref as[n]])) n3)
  refine ⟨_, rfl, _, rfl, (n : Nat), 2, rfl, rfl, (n : Nat) + 2, rfl, al, _, rfl, SqL.of (s3 _ _ a1), fun L4 n4 => ?_⟩
  rw [c3] at *
  have s4 := Same.trans s3 (Same.new (o := .lst ((as.drop (n + 2)).map V.ref)) n4)
  refine ⟨L3, L4, _, _, rfl, rfl, Same.new n4 _ _ upd_same, upd_same, ?_, fun L5 n5 => ?_⟩
  · rw [List.length_append, List.length_map, List.length_take, List.length_map, List.length_drop]
    exact sz_le (by simp; omega)
  rw [eA] at *
  have s5 := Same.trans s4 (Same.new (o := .lst ((aswap as n).map V.ref)) n5)
  have e5 := upd_same (H := upd (upd (upd (upd H L1 (.lst ((as.take n).map V.ref))) L2 (.lst [V.ref as[n + 1], V.ref as[n]])) L3 (.lst ((as.take n).map V.ref ++ [V.ref as[n + 1], V.ref as[n]]))) L4 (.lst ((as.drop (n + 2)).map V.ref))) (a := L5) (o := .lst ((aswap as n).map V.ref))
  generalize upd (upd (upd (upd (upd H L1 (.lst ((as.take n).map V.ref))) L2 (.lst [V.ref as[n + 1], V.ref as[n]])) L3 (.lst ((as.take n).map V.ref ++ [V.ref as[n + 1], V.ref as[n]]))) L4 (.lst ((as.drop (n + 2)).map V.ref))) L5 (.lst ((aswap as n).map V.ref)) = H5 at s5 e5
  have hV2 : NV f (nswap xs n) := ⟨hV.hn, hV.ho, by rw [nswap_eq, aswap_len hk]; exact hln, fun y hy => hV.wf y (aswap_mem hy)⟩
  have hl2 : (nswap xs n).length = xs.length := aswap_len hk
  refine ⟨_, rfl, _, rfl, ma, al, f, xs, rfl, hM.same s5, ⟨as, s5 _ _ a1, paired_same (fun b x q => q.same s5) a2⟩, hV, fun _ hno => absurd hm hno, fun H6 hr _ s6 S6 => ?_⟩
  have s56 := Same.trans s5 s6
  refine ⟨_, rfl, _, rfl, ma, L5, f, nswap xs n, rfl, hM.same s56, ⟨aswap as n, s6 _ _ e5, paired_same (fun b x q => q.same s56) (paired_swap n a2)⟩, hV2, fun H7 hno s7 => ?_, fun H7 th hm2 s7 S7 => ?_⟩
  · refine ⟨_, rfl, rfl, _, rfl, if_t rfl (k _ false (Same.trans s56 s7) ?_)⟩
    exact ⟨fun z => (by cases z), fun z => absurd z.1 hno⟩
  · rw [hl2] at S7
    have W6 := ws_nat hV xs.length (Nat.le_refl _)
    have W7 : WS f (nat_ f (nswap xs n) xs.length) xs.length := by
      have := ws_nat hV2 (nswap xs n).length (Nat.le_refl _)
      rw [hl2] at this
      exact this
    have V6 : SV K H7 hr f (nat_ f xs xs.length) := (S6.view (hM.same s5)).same s7
    have V7 : SV K H7 th f (nat_ f (nswap xs n) xs.length) := S7.view (hM.same s56)
    have V6' := V6
    have V7' := V7
    obtain ⟨dx6, ma6, la6, ca6, p1, p2, ⟨ls6, p3, p4⟩, p5⟩ := V6
    obtain ⟨dx7, ma7, la7, ca7, r1, r2, ⟨ls7, r3, r4⟩, r5⟩ := V7
    have s07 := Same.trans s56 s7
    refine ⟨_, rfl, rfl, _, rfl, if_f rfl ?_⟩
    refine ⟨_, rfl, hr, _, dx6, _, _, rfl, p1, k_State E, n_State_links E, rfl, ?_⟩
    simp only [tNil]
    refine sortP (SqL.of p3) p4 fun b6 q6 L6 t1 t2 t3 nL6 => ?_
    have s8 := Same.new (o := .lst (b6.map V.ref)) nL6
    refine ⟨_, rfl, th, _, dx7, _, _, rfl, s8 _ _ r1, k_State E, n_State_links E, rfl, ?_⟩
    simp only [tNil]
    refine sortP (SqL.of (s8 _ _ r3)) (paired_same (fun b x q => s8 _ _ q) r4) fun b7 q7 L7 u1 u2 u3 nL7 => ?_
    have s9 := Same.new (o := .lst (b7.map V.ref)) nL7
    refine ⟨q6.map dP1 |> PyData.list, q7.map dP1 |> PyData.list, .lst (SqL.of (s9 _ _ upd_same)) (dpRefs (fun b x q => dpP (SqT.of (s9 _ _ (s8 _ _ q)))) t1), .lst (SqL.of upd_same) (dpRefs (fun b x q => dpP (SqT.of (s9 _ _ q))) u1), (deL deP1).shaped (by decide) _, (deL deP1).shaped (by decide) _, _, rfl, ?_⟩
    rw [(deL deP1).eq]
    have s89 := Same.trans s8 s9
    have key : q6 = q7 ↔ (nat_ f xs xs.length).pairs.Perm (nat_ f (nswap xs n) xs.length).pairs := by
      constructor
      · intro h
        rw [h] at t2
        exact t2.symm.trans u2
      · intro h
        exact sort_uniq t3 u3 (t2.trans (h.trans u2.symm))
    by_cases hq : q6 = q7
    · refine if_t (decide_eq_true hq) ?_
      refine ⟨_, rfl, hr, f, _, _, rfl, V6'.same s89, W6, fun H8 rr s10 hT => ⟨_, rfl, th, f, _, _, rfl, (V7'.same s89).same s10, W7, fun H9 rs s11 hT2 => ?_⟩⟩
      obtain ⟨b8, v1, v2⟩ := hT
      obtain ⟨b9, w1, w2⟩ := hT2
      refine ⟨PyData.list (((nat_ f xs xs.length).cards.map (tld f)).map dC1), PyData.list (((nat_ f (nswap xs n) xs.length).cards.map (tld f)).map dC1), .lst (SqL.of (s11 _ _ v1)) (dpRefs (fun b x q => dpC (q.same s11)) v2), .lst (SqL.of w1) (dpRefs (fun b x q => dpC q) w2), (deL deC1).shaped (by decide) _, (deL deC1).shaped (by decide) _, ?_⟩
      rw [(deL deC1).eq]
      refine k _ _ (Same.trans s07 (Same.trans s89 (Same.trans s10 s11))) ?_
      rw [decide_eq_true_iff]
      exact ⟨fun h => ⟨hm2, key.mp hq, h⟩, fun h => h.2.2⟩
    · refine if_f (decide_eq_false hq) (k _ false (Same.trans s07 s89) ?_)
      exact ⟨fun z => (by cases z), fun z => absurd (key.mpr z.2.1) hq⟩
end
end Bw
namespace Bw
open PySem PySem.Spec PyProof.Rows L2
open Vbenah (File State Card Act)
section
variable {P : Program} {w : World} {K : PySem.W.Frag} {mg : Str → Option Value} {base : Heap}
/-- how a word stands as a piece -/
def pkd (b : List Nat) : Nat × List Nat := if b = [10] then (1, []) else if b = [] then (2, []) else (0, b)
def PieceAt (H : Hp) (b : Addr) (x : Nat × List Nat) : Prop := ∃ q, H b = some (.tup [.int ((pkd x.2).1 : Nat), .ref q, .int (x.1 : Nat)]) ∧ TupN H q (pkd x.2).2
def sp_piece (K : PySem.W.Frag) : Sp := fun vs H Q _ => ∃ (p : Addr) (row : List Nat) (n : Nat), vs = [.ref p, .int (n : Nat)] ∧ LstN H p row ∧ row ≠ [10] ∧ row.length ≤ 100000 ∧
  ∀ H' b, Same H H' → PieceAt H' b (n, row) → Q (.ref b) H'
theorem len_piece (K : PySem.W.Frag) : ∀ vs H Q E, sp_piece K vs H Q E → vs.length = 2 := fun _ _ _ _ ⟨_, _, _, h, _⟩ => by rw [h]; rfl
theorem PieceAt.same {H H' : Hp} {b : Addr} {x : Nat × List Nat} (h : PieceAt H b x) (s : Same H H') : PieceAt H' b x := by
  obtain ⟨q, h1, h2⟩ := h
  exact ⟨q, s _ _ h1, s _ _ h2⟩
theorem sc_piece : FnScope (["row", "place"] : List Str) ["row", "place"] (defScope s_piece) := C8.fnScope_by (by decide +kernel)
theorem c_piece (E : Env P w K mg base) : Cal P w K mg base CX0 1 "piece" (sp_piece K) := by
  have sc := sc_piece
  refine mkCal (st := s_piece) (E.top.d.def_ 0 (d := d_piece) rfl) (E.glo 0) sc (fun _ _ _ _ _ _ us hl => match us, hl with | [_, _], _ => rfl) (len_piece K) (fun cdv A outer s H vs Q X hr h => ⟨_, PSs.nox ((pss_cons (ps_if (pt_cmpR (opEqD (K := K) hr.units) (pv 0) (pe_lst pa_nil) (nomark _)) (pss_one (ps_ret (pe_tup (pa_cons (C8.pe_gc rfl (g_EMPTY E)) (pa_cons (pe_tup pa_nil) (pa_cons (pv 1) pa_nil)))))) pss_nil)
    (pss_one (ps_ret (pe_tup (pa_cons (C8.pe_gc rfl (g_WORD E)) (pa_cons (pe_tupleOf rfl (fr_tuple E) (pv 0)) (pa_cons (pv 1) pa_nil)))))))), ?_⟩)
  obtain ⟨p, row, n, rfl, hp, h10, hl, k⟩ := h
  refine ⟨_, rfl, Nat.zero_le _, fun L nL => ⟨dL1 row, dL1 [], dpL (SqL.of (Same.new nL _ _ hp)), dpL (SqL.of upd_same), deL1.shaped (by decide) _, deL1.shaped (by decide) _, _, rfl, ?_⟩⟩
  rw [deL1.eq]
  have s1 := Same.new (o := .lst []) nL
  by_cases hr : row = []
  · refine if_t (by simp [hr]) ⟨Nat.zero_le _, fun p0 n0 => ⟨_, rfl, (show 3 ≤ sizeLine by decide), fun T nT => k _ T (Same.trans s1 (Same.trans (Same.new n0) (Same.new nT))) ?_⟩⟩
    subst hr
    exact ⟨p0, upd_same, Same.new nT _ _ upd_same⟩
  · refine if_f (by simp [hr]) ⟨_, rfl, Or.inl ⟨p, nV row, rfl, SqL.of (s1 _ _ hp), fun q nq => ⟨_, rfl, (show 3 ≤ sizeLine by decide), fun T nT => k _ T (Same.trans s1 (Same.trans (Same.new nq) (Same.new nT))) ?_⟩⟩⟩
    have e : pkd row = (0, row) := by
      unfold pkd
      rw [if_neg h10, if_neg hr]
    refine ⟨q, ?_, ?_⟩
    · rw [e]
      exact upd_same
    · rw [e]
      exact Same.new nT _ _ upd_same
def sp_pieces_of (K : PySem.W.Frag) : Sp := fun vs H Q _ => ∃ (p : Addr) (t : List Nat), vs = [.ref p] ∧ LstN H p t ∧ t.length ≤ 2000 ∧
  ∀ H' l bs, Same H H' → H l = none → H' l = some (.lst (bs.map V.ref)) → Paired (PieceAt H') bs (VbenCore.cut 0 t) → Q (.ref l) H'
theorem len_pieces_of (K : PySem.W.Frag) : ∀ vs H Q E, sp_pieces_of K vs H Q E → vs.length = 1 := fun _ _ _ _ ⟨_, _, h, _⟩ => by rw [h]; rfl
theorem walk_numsE {K : PySem.W.Frag} {a : Addr} {l : List Nat} : Walk (Ite K a) l.length (fun H => SqL K H a (nV l)) (fun i H v H' => ∃ T n, v = .ref T ∧ H T = none ∧ H' = upd H T (.tup [.int (i : Nat), .int (n : Nat)]) ∧ l[i]? = some n) := by
  have e : (nV l).length = l.length := List.length_map _
  rw [← e]
  refine Walk.mono walk_enum (fun H h => h) fun i H v H' hi h y => ?_
  obtain ⟨T, v1, v2, e1, e2, e3, e4, e5⟩ := y
  obtain ⟨n, hn, ev⟩ := nth_nV e5
  cases e4
  exact ⟨T, n, e1, e2, by rw [e3, ev], hn⟩
def glue (row : List Nat) (s : Nat) : List (Nat × List Nat) → List (Nat × List Nat)
  | [] => [(s, row)]
  | (_, w) :: l => (s, row ++ w) :: l
theorem cut_head : ∀ (t : List Nat) (p : Nat), ∃ w l, VbenCore.cut p t = (p, w) :: l
  | [], p => ⟨[], [], rfl⟩
  | c :: r, p => by
    unfold VbenCore.cut
    by_cases h1 : c = 32
    · rw [if_pos h1]
      exact ⟨_, _, rfl⟩
    · rw [if_neg h1]
      by_cases h2 : c = 10
      · rw [if_pos h2]
        exact ⟨_, _, rfl⟩
      · rw [if_neg h2]
        obtain ⟨w, l, e⟩ := cut_head r (p + 1)
        rw [e]
        exact ⟨_, _, rfl⟩
theorem glue_nil (t : List Nat) (p : Nat) : glue [] p (VbenCore.cut p t) = VbenCore.cut p t := by
  obtain ⟨w, l, e⟩ := cut_head t p
  rw [e]
  rfl
theorem glue_blank (row r : List Nat) (s p : Nat) : glue row s (VbenCore.cut p (32 :: r)) = (s, row) :: VbenCore.cut (p + 1) r := by
  rw [VbenCore.cut, if_pos rfl]
  simp only [glue, List.append_nil]
theorem glue_line (row r : List Nat) (s p : Nat) : glue row s (VbenCore.cut p (10 :: r)) = (s, row) :: (p, [10]) :: VbenCore.cut (p + 1) r := by
  rw [VbenCore.cut, if_neg (by decide), if_pos rfl]
  simp only [glue, List.append_nil]
theorem glue_more {row r : List Nat} {s p c : Nat} (h1 : c ≠ 32) (h2 : c ≠ 10) : glue row s (VbenCore.cut p (c :: r)) = glue (row ++ [c]) s (VbenCore.cut (p + 1) r) := by
  obtain ⟨w, l, e⟩ := cut_head r (p + 1)
  rw [e]
  unfold VbenCore.cut
  rw [if_neg h1, if_neg h2, e]
  simp [glue]
theorem PieceAt.put {H : Hp} {b l : Addr} {x : Nat × List Nat} {vs : List V} {o : HO} (h : PieceAt H b x) (hl : H l = some (.lst vs)) : PieceAt (upd H l o) b x := by
  obtain ⟨q, h1, h2⟩ := h
  exact ⟨q, by rw [upd_ne (ne_obj h1 hl fun z => by cases z)]; exact h1, by rw [TupN, upd_ne (ne_obj h2 hl fun z => by cases z)]; exact h2⟩
theorem sc_pieces_of : FnScope (["text", "found", "row", "start", "place", "byte"] : List Str) ["text"] (defScope s_pieces_of) := C8.fnScope_by (by decide +kernel)
theorem c_pieces_of (E : Env P w K mg base) : Cal P w K mg base CX0 2 "pieces_of" (sp_pieces_of K) := by
  have sc := sc_pieces_of
  refine mkCal (st := s_pieces_of) (E.top.d.def_ 1 (d := d_pieces_of) rfl) (E.glo 1) sc (fun _ _ _ _ _ _ us hl => match us, hl with | [_], _ => rfl) (len_pieces_of K) (fun cdv A outer s H vs Q X hr h => ⟨_, PSs.nox ((pss_cons (ps_set (i := 1) sc.nd rfl (Or.inl rfl) (pe_lst pa_nil))
    (pss_cons (ps_set (i := 2) sc.nd rfl (Or.inl rfl) (pe_lst pa_nil))
    (pss_cons (ps_set (i := 3) sc.nd rfl (Or.inl rfl) pe_int)
    (pss_cons (ps_for PassesOwn.never rfl (pi_enum (by rfl) (fr_enumerate E) (pa_cons (pv 0) pa_nil)) (pg_tup rfl (pgs_cons (pg_name (i := 4) sc.nd rfl (Or.inl rfl)) (pgs_cons (pg_name (i := 5) sc.nd rfl (Or.inl rfl)) pgs_nil)))
    (pss_cons (ps_if (pt_cmpR (opIn (K := K)) (pv 5) (pe_tup (pa_cons (C8.pe_gc rfl (g_BLANK_pieces E)) (pa_cons (C8.pe_gc rfl (g_NEW_LINE_pieces E)) pa_nil))) (by rfl)) (pss_cons (ps_expr (pe_bm PySem.F.plainAttrs_list PySem.F.slot_list_append PySem.F.type_list_append mt_append (pv 1) (pa_cons (pe_c (c_piece E) hr (by decide) rfl pass0 (pa_cons (pv 2) (pa_cons (pv 3) pa_nil))) pa_nil)))
    (pss_cons (ps_set (i := 2) sc.nd rfl (Or.inl rfl) (pe_lst pa_nil))
    (pss_one (ps_set (i := 3) sc.nd rfl (Or.inl rfl) (pe_op op_add (pv 4) pe_int))))) (pss_one (ps_expr (pe_bm PySem.F.plainAttrs_list PySem.F.slot_list_append PySem.F.type_list_append mt_append (pv 2) (pa_cons (pv 5) pa_nil)))))
    (pss_one (ps_if (pt_cmpR op_eq (pv 5) (C8.pe_gc rfl (g_NEW_LINE_pieces E)) (nomark _)) (pss_one (ps_expr (pe_bm PySem.F.plainAttrs_list PySem.F.slot_list_append PySem.F.type_list_append mt_append (pv 1) (pa_cons (pe_tup (pa_cons (C8.pe_gc rfl (g_LINE_END E)) (pa_cons (pe_tup pa_nil) (pa_cons (pv 4) pa_nil)))) pa_nil)))) pss_nil))))
    (pss_cons (ps_expr (pe_bm PySem.F.plainAttrs_list PySem.F.slot_list_append PySem.F.type_list_append mt_append (pv 1) (pa_cons (pe_c (c_piece E) hr (by decide) rfl pass0 (pa_cons (pv 2) (pa_cons (pv 3) pa_nil))) pa_nil)))
    (pss_one (ps_ret (pv 1))))))))), ?_⟩)
  obtain ⟨p, t, rfl, hp, hl, k⟩ := h
  refine ⟨Nat.zero_le _, fun fl nf => ⟨Nat.zero_le _, fun r0 nr0 => ?_⟩⟩
  have s1 := Same.new (o := .lst []) nf
  have s2 := Same.trans s1 (Same.new (o := .lst []) nr0)
  have hfr : fl ≠ r0 := ne_of_none upd_same nr0
  refine ⟨_, rfl, p, _, rfl, SqL.of (s2 _ _ hp), ?_⟩
  refine for_it (walk_numsE (l := t)) (fun i σ H' => ∃ rl row st x4 x5 bs fs, σ = [some (.ref p), some (.ref fl), some (.ref rl), some (.int (st : Nat)), x4, x5] ∧ Same H H' ∧ H' fl = some (.lst (List.map V.ref bs)) ∧ Paired (PieceAt H') bs fs ∧ LstN H' rl row ∧ rl ≠ fl ∧ H rl = none ∧ (∀ c ∈ row, c ≠ 10) ∧ row.length ≤ i ∧ fs.length ≤ 2 * i ∧ VbenCore.cut 0 t = fs ++ glue row st (VbenCore.cut i (t.drop i)))
    ⟨r0, [], 0, _, _, [], [], rfl, s2, by rw [upd_ne hfr]; exact upd_same, .nil, upd_same, Ne.symm hfr, s1.free nr0, (fun _ h => nomatch h), Nat.le_refl _, Nat.zero_le _, by rw [List.drop_zero, glue_nil]; rfl⟩
    (fun i σ H' hi ⟨_, _, _, _, _, _, _, _, s, _⟩ => SqL.of (s _ _ hp)) (fun i v σ H1 H2 hi ⟨rl, row, st, x4, x5, bs, fs, e, sH, ef, pf, er, nrf, hrl, h10, rlen, flen, hc⟩ yy => ?_) fun σ H1 ⟨rl, row, st, x4, x5, bs, fs, e, sH, ef, pf, er, nrf, hrl, h10, rlen, flen, hc⟩ => ?_
  · subst e
    obtain ⟨T, c, rfl, nT, rfl, hx⟩ := yy
    have hi2 : i < t.length := hi
    have sT := Same.new (o := .tup [.int (i : Nat), .int (c : Nat)]) nT
    have sH2 := Same.trans sH sT
    have ed : t.drop i = c :: t.drop (i + 1) := by
      rw [List.drop_eq_getElem_cons hi2]
      rw [List.getElem?_eq_getElem hi2] at hx
      rw [Option.some.inj hx]
    rw [ed] at hc
    refine ⟨T, _, rfl, SqT.of upd_same, rfl, _, _, rfl, _, _, rfl, rfl, ?_⟩
    refine ⟨_, rfl, (show 2 ≤ sizeLine by decide), fun T2 nT2 => ⟨T2, _, rfl, Or.inr (SqT.of upd_same), rfl, rfl, _, rfl, ?_⟩⟩
    have s13 := Same.trans sT (Same.new (o := .tup [.int 32, .int 10]) nT2)
    have ein : (if false = true then !inV (V.int (c : Nat)) [V.int 32, V.int 10] else inV (V.int (c : Nat)) [V.int 32, V.int 10]) = (c == 32 || c == 10) := by
      rw [if_neg Bool.false_ne_true]
      show inV (V.int (c : Nat)) (nV [32, 10]) = _
      rw [inV_nV]
      rw [List.contains_cons, List.contains_cons, List.contains_nil, Bool.or_false]
    have ef3 := s13 _ _ ef
    have er3 := s13 _ _ er
    have sH3 := Same.trans sH s13
    have pf3 := paired_same (fun b x (q : PieceAt H1 b x) => q.same s13) pf
    have lfs := paired_len pf
    generalize upd (upd H1 T (.tup [.int (i : Nat), .int (c : Nat)])) T2 (.tup [.int 32, .int 10]) = H3 at *
    by_cases hc12 : (c == 32 || c == 10) = true
    · refine if_t (ein.trans hc12) ⟨_, rfl, ty_lst ef3, _, rfl, _, rfl, rl, row, st, rfl, er3, ?_, by omega, fun H4 b s4 hb => ⟨fl, _, .ref b, rfl, rfl, s4 _ _ ef3, ?_, ?_⟩⟩
      · intro z
        exact h10 10 (by rw [z]; exact List.mem_singleton.mpr rfl) rfl
      · rw [List.length_map, lfs]
        exact sz_lt (by omega)
      have ef4 := s4 _ _ ef3
      have pf4 : Paired (PieceAt (upd H4 fl (.lst (bs.map V.ref ++ [.ref b])))) (bs ++ [b]) (fs ++ [(st, row)]) := paired_snoc (paired_same (fun b x q => (PieceAt.same q s4).put ef4) pf3) (hb.put ef4)
      have sH5 : Same H (upd H4 fl (.lst (bs.map V.ref ++ [.ref b]))) := Same.put (Same.trans sH3 s4) nf
      have ef5 : upd H4 fl (.lst (bs.map V.ref ++ [.ref b])) fl = some (.lst ((bs ++ [b]).map V.ref)) := by
        rw [upd_same, List.map_append]
        rfl
      generalize upd H4 fl (.lst (bs.map V.ref ++ [.ref b])) = H5 at *
      refine ⟨Nat.zero_le _, fun r2 nr2 => ⟨_, rfl, (i : Nat), 1, rfl, rfl, _, rfl, rfl, _, rfl, ?_⟩⟩
      have s56 := Same.new (o := .lst []) nr2
      have ef6 := s56 _ _ ef5
      have er6 : upd H5 r2 (.lst []) r2 = some (.lst (nV [])) := upd_same
      have nrf2 : r2 ≠ fl := fun z => by rw [z, ef5] at nr2; cases nr2
      have pf6 := paired_same (fun b x (q : PieceAt H5 b x) => q.same s56) pf4
      have sH6 := Same.trans sH5 s56
      have hr2 : H r2 = none := sH5.free nr2
      generalize upd H5 r2 (.lst []) = H6 at *
      have ei : ((i : Nat) : Int) + 1 = ((i + 1 : Nat) : Int) := by omega
      by_cases hc10 : c = 10
      · subst hc10
        rw [glue_line] at hc
        refine if_t rfl ⟨_, rfl, ty_lst ef6, Nat.zero_le _, fun p0 np0 => ⟨_, rfl, (show 3 ≤ sizeLine by decide), fun T3 nT3 => ?_⟩⟩
        have s67 := Same.trans (Same.new (o := .tup []) np0) (Same.new (o := .tup [.int 1, .ref p0, .int (i : Nat)]) nT3)
        have ef7 := s67 _ _ ef6
        have hp3 : PieceAt (upd (upd H6 p0 (.tup [])) T3 (.tup [.int 1, .ref p0, .int (i : Nat)])) T3 (i, [10]) := ⟨p0, upd_same, Same.new nT3 _ _ upd_same⟩
        refine ⟨fl, _, .ref T3, rfl, rfl, ef7, ?_, ?_⟩
        · rw [List.length_map, List.length_append, lfs]
          exact sz_lt (by simp; omega)
        refine ⟨r2, [], i + 1, some (.int (i : Nat)), some (.int ((10 : Nat) : Int)), bs ++ [b] ++ [T3], fs ++ [(st, row)] ++ [(i, [10])], ?_, Same.put (Same.trans sH6 s67) nf, ?_, paired_snoc (paired_same (fun b x q => (PieceAt.same q s67).put ef7) pf6) (hp3.put ef7), ?_, nrf2, hr2, (fun _ h => nomatch h), Nat.zero_le _, ?_, ?_⟩
        · rw [← ei]
          rfl
        · rw [upd_same, List.map_append (l₁ := bs ++ [b])]
          rfl
        · rw [LstN, upd_ne nrf2]
          exact s67 _ _ er6
        · simp
          omega
        · rw [glue_nil, hc]
          simp
      · have hc32 : c = 32 := by simpa [hc10] using hc12
        subst hc32
        rw [glue_blank] at hc
        refine if_f rfl ⟨r2, [], i + 1, some (.int (i : Nat)), some (.int ((32 : Nat) : Int)), bs ++ [b], fs ++ [(st, row)], ?_, sH6, ef6, pf6, er6, nrf2, hr2, (fun _ h => nomatch h), Nat.zero_le _, ?_, ?_⟩
        · rw [← ei]
          rfl
        · simp
          omega
        · rw [glue_nil, hc]
          simp
    · have hc1 : c ≠ 32 := fun z => hc12 (by simp [z])
      have hc2 : c ≠ 10 := fun z => hc12 (by simp [z])
      rw [glue_more hc1 hc2] at hc
      refine if_f (ein.trans (Bool.eq_false_iff.mpr hc12)) ⟨_, rfl, ty_lst er3, _, rfl, rl, _, .int (c : Nat), rfl, rfl, er3, by rw [nV_len]; exact sz_lt (by omega), _, rfl, rfl, _, rfl, ?_⟩
      rw [← nV_snoc]
      refine if_f ?_ ⟨rl, row ++ [c], st, _, _, bs, fs, rfl, Same.put sH3 hrl, ?_, paired_same (fun b x q => PieceAt.put q er3) pf3, upd_same, nrf, hrl, fun x hx => ?_, ?_, by omega, hc⟩
      · show decide (V.int (c : Nat) = V.int ((10 : Nat) : Int)) = false
        rw [dN]
        exact beq_eq_false_iff_ne.mpr hc2
      · rw [upd_ne (Ne.symm nrf)]
        exact ef3
      · rcases List.mem_append.mp hx with m | m
        · exact h10 x m
        · rw [List.mem_singleton.mp m]
          exact hc2
      · simp
        omega
  · subst e
    have lfs := paired_len pf
    rw [List.drop_length] at hc
    refine ⟨_, rfl, ty_lst ef, _, rfl, _, rfl, rl, row, st, rfl, er, ?_, by omega, fun H4 b s4 hb => ⟨fl, _, .ref b, rfl, rfl, s4 _ _ ef, ?_, _, rfl, ?_⟩⟩
    · intro z
      exact h10 10 (by rw [z]; exact List.mem_singleton.mpr rfl) rfl
    · rw [List.length_map, lfs]
      exact sz_lt (by omega)
    · refine k _ fl (bs ++ [b]) (Same.put (Same.trans sH s4) nf) nf (by rw [upd_same, List.map_append]; rfl) ?_
      rw [hc]
      have e : glue row st (VbenCore.cut t.length []) = [(st, row)] := by
        rw [VbenCore.cut]
        simp [glue]
      rw [e]
      exact paired_snoc (paired_same (fun b x q => (PieceAt.same q s4).put (s4 _ _ ef)) pf) (hb.put (s4 _ _ ef))
def sp_bytes_of (K : PySem.W.Frag) : Sp := fun vs H Q _ => ∃ (z : Str), vs = [.str z] ∧ z.cps.size ≤ 1000 ∧
  ∀ H' p, Same H H' → TupN H' p (z.cps.toList.map fun c => c) → Q (.ref p) H'
theorem len_bytes_of (K : PySem.W.Frag) : ∀ vs H Q E, sp_bytes_of K vs H Q E → vs.length = 1 := fun _ _ _ _ ⟨_, h, _⟩ => by rw [h]; rfl
theorem sc_bytes_of : FnScope (["word", "sign"] : List Str) ["word"] (defScope s_bytes_of) := C8.fnScope_by (by decide +kernel)
theorem c_bytes_of (E : Env P w K mg base) : Cal P w K mg base CX0 1 "bytes_of" (sp_bytes_of K) := by
  have sc := sc_bytes_of
  refine mkCal (st := s_bytes_of) (E.top.d.def_ 2 (d := d_bytes_of) rfl) (E.glo 2) sc (fun _ _ _ _ _ _ us hl => match us, hl with | [_], _ => rfl) (len_bytes_of K) (fun cdv A outer s H vs Q X hr h => ⟨_, PSs.nox ((pss_one (ps_ret (pe_tupleOf rfl (fr_tuple E) (pe_lc (own := [("sign", 1)]) (g := (gName 1)) rfl sc.nd (pi_str (pv 0)) (blkOk_by (own := [("sign", 1)]) (N := ["word", "sign"]) (sc := defScope s_bytes_of) (by decide +kernel)) (fun _ _ _ _ _ => pg_name (i := 1) sc.nd rfl (Or.inl rfl)) (fun _ _ _ _ _ => pts_nil) (fun _ _ _ _ _ => (pe_callB call_ord rfl (fr_ord E) (by decide +kernel) (pa_cons (pv 1) pa_nil)))))))), ?_⟩)
  obtain ⟨z, rfl, hz, k⟩ := h
  have ez : z.cps.toList.length = z.cps.size := by simp
  refine ⟨_, rfl, z, rfl, fun D hD => ?_⟩
  refine lc_it (walk_str (z := z)) (CL H D isN z.cps.toList fun c => some c) (CL.start hD) (fun i H1 hi p => trivial) (fun i v H1 H2 hi p yy => ?_) fun H1 p => ?_
  · obtain ⟨rfl, c, hc, rfl⟩ := yy
    have hc2 : z.cps.toList[i]? = some c := by rw [← hc]; simp
    exact ⟨rfl, yes_ ⟨_, rfl, ⟨#[c]⟩, rfl, rfl, CL.put p (Same.refl _) hc2 rfl (by omega) isN_mono fun _ _ => rfl⟩⟩
  · rw [← ez] at p
    obtain ⟨B, vs, q1, q2, q3, q4, q5⟩ := p.fin
    rw [filterMap_some' (fun x => x)] at q5
    rw [paired_isN q5] at q4
    exact Or.inl ⟨D, _, rfl, SqL.of q4, fun q nq => k _ q (Same.trans (Same.trans q1 q2) (Same.new nq)) upd_same⟩
def sp_is_name (K : PySem.W.Frag) : Sp := fun vs H Q _ => ∃ (p : Addr) (b : List Nat), vs = [.ref p] ∧ TupN H p b ∧ b.length ≤ 2000 ∧
  ∀ H', Same H H' → Q (.bl (VbenCore.isName b)) H'
theorem len_is_name (K : PySem.W.Frag) : ∀ vs H Q E, sp_is_name K vs H Q E → vs.length = 1 := fun _ _ _ _ ⟨_, _, h, _⟩ => by rw [h]; rfl
theorem sc_is_name : FnScope (["row", "byte"] : List Str) ["row"] (defScope s_is_name) := C8.fnScope_by (by decide +kernel)
theorem c_is_name (E : Env P w K mg base) : Cal P w K mg base CX0 1 "is_name" (sp_is_name K) := by
  have sc := sc_is_name
  refine mkCal (st := s_is_name) (E.top.d.def_ 3 (d := d_is_name) rfl) (E.glo 3) sc (fun _ _ _ _ _ _ us hl => match us, hl with | [_], _ => rfl) (len_is_name K) (fun cdv A outer s H vs Q X hr h => ⟨_, PSs.nox ((pss_one (ps_ret (pe_and (pe_chain op_le op_le pe_int (pe_callB (clen (K := K)) rfl (fr_len E) (by decide +kernel) (pa_cons (pv 0) pa_nil)) (C8.pe_gc rfl (g_MOST_LETTERS E))) (pe_one (pe_callB (cr_all rfl) rfl (fr_all E) (by decide +kernel) (pa_cons (pe_lc (own := [("byte", 1)]) (g := (gName 1)) rfl sc.nd (pi_tup (pv 0)) (blkOk_by (own := [("byte", 1)]) (N := ["row", "byte"]) (sc := defScope s_is_name) (by decide +kernel)) (fun _ _ _ _ _ => pg_name (i := 1) sc.nd rfl (Or.inl rfl)) (fun _ _ _ _ _ => pts_nil) (fun _ _ _ _ _ => (pe_chain op_le op_le pe_int (pv 1) pe_int))) pa_nil))))))), ?_⟩)
  obtain ⟨p, b, rfl, hp, hl, k⟩ := h
  refine ⟨_, rfl, p, nV b, rfl, Or.inr (SqT.of hp), ?_⟩
  refine ⟨1, ((nV b).length : Nat), rfl, rfl, _, rfl, ?_⟩
  rw [nV_len]
  have e1 : decide ((1 : Int) ≤ (b.length : Nat)) = decide (1 ≤ b.length) := by
    by_cases h : 1 ≤ b.length
    · rw [decide_eq_true h, decide_eq_true (by omega)]
    · rw [decide_eq_false h, decide_eq_false (by omega)]
  have e2 : decide (((b.length : Nat) : Int) ≤ 12) = decide (b.length ≤ 12) := by
    by_cases h : b.length ≤ 12
    · rw [decide_eq_true h, decide_eq_true (by omega)]
    · rw [decide_eq_false h, decide_eq_false (by omega)]
  rw [e1]
  unfold VbenCore.isName at k
  by_cases h1 : 1 ≤ b.length
  · refine if_t (decide_eq_true h1) ⟨(b.length : Nat), 12, rfl, rfl, _, rfl, ?_⟩
    rw [e2]
    by_cases h2 : b.length ≤ 12
    · refine if_t (decide_eq_true h2) ⟨_, rfl, p, rfl, ⟨_, SqT.of hp⟩, fun D hD => ?_⟩
      refine lc_it (walk_numsT (l := b)) (CL H D isB b fun c => some (VbenCore.isLetter c)) (CL.start hD) (fun i H1 hi p2 => SqT.of (p2.same _ _ hp)) (fun i v H1 H2 hi p2 yy => ?_) fun H1 p2 => ?_
      · obtain ⟨rfl, c, rfl, hc⟩ := yy
        refine ⟨rfl, yes_ ⟨_, rfl, 97, (c : Nat), rfl, rfl, _, rfl, ?_⟩⟩
        by_cases h3 : 97 ≤ c
        · refine if_t (decide_eq_true (by omega)) ⟨(c : Nat), 122, rfl, rfl, CL.put p2 (Same.refl _) hc rfl (by omega) isB_mono fun _ _ => ?_⟩
          show V.bl _ = V.bl _
          congr 1
          unfold VbenCore.isLetter
          rw [decide_eq_true h3, Bool.true_and]
          by_cases h4 : c ≤ 122
          · rw [decide_eq_true h4, decide_eq_true (by omega)]
          · rw [decide_eq_false h4, decide_eq_false (by omega)]
        · refine if_f (decide_eq_false (by omega)) (CL.put p2 (Same.refl _) hc rfl (by omega) isB_mono fun _ _ => ?_)
          show V.bl _ = V.bl _
          congr 1
          unfold VbenCore.isLetter
          rw [decide_eq_false h3, Bool.false_and]
      · obtain ⟨s1, e3⟩ := p2.bools
        refine ⟨D, _, rfl, SqL.of e3, ?_⟩
        have q := k _ s1
        rw [decide_eq_true h1, decide_eq_true h2, Bool.true_and, Bool.true_and] at q
        rw [all_map_id]
        exact q
    · have q := k _ (Same.refl _)
      rw [decide_eq_true h1, decide_eq_false h2, Bool.false_and, Bool.and_false] at q
      exact if_f (decide_eq_false h2) q
  · have q := k _ (Same.refl _)
    rw [decide_eq_false h1, Bool.false_and] at q
    exact if_f (decide_eq_false h1) ⟨_, rfl, if_f rfl q⟩
/-- the number that bytes are -/
def numOf (b : List Nat) : Int := if b.isEmpty = true ∨ b.all VbenCore.isDigit = false ∨ VbenCore.isZeroLed b = true then -1 else ((VbenCore.valueOf 10 (b.map fun c => c - 48) : Nat) : Int)
def sp_number_of (K : PySem.W.Frag) : Sp := fun vs H Q _ => ∃ (p : Addr) (b : List Nat), vs = [.ref p] ∧ TupN H p b ∧ b.length ≤ 2000 ∧
  ∀ H', Same H H' → Q (.int (numOf b)) H'
theorem len_number_of (K : PySem.W.Frag) : ∀ vs H Q E, sp_number_of K vs H Q E → vs.length = 1 := fun _ _ _ _ ⟨_, _, h, _⟩ => by rw [h]; rfl
theorem sc_number_of : FnScope (["row", "byte", "found"] : List Str) ["row"] (defScope s_number_of) := C8.fnScope_by (by decide +kernel)
theorem c_number_of (E : Env P w K mg base) : Cal P w K mg base CX0 1 "number_of" (sp_number_of K) := by
  have sc := sc_number_of
  refine mkCal (st := s_number_of) (E.top.d.def_ 4 (d := d_number_of) rfl) (E.glo 4) sc (fun _ _ _ _ _ _ us hl => match us, hl with | [_], _ => rfl) (len_number_of K) (fun cdv A outer s H vs Q X hr h => ⟨_, PSs.nox ((pss_cons (ps_if (PW.pt (pw_or (pt_cmpR op_eq (pe_callB (clen (K := K)) rfl (fr_len E) (by decide +kernel) (pa_cons (pv 0) pa_nil)) pe_int (nomark _)) (pw_or (pt_not (pt_val (pe_callB (cr_all rfl) rfl (fr_all E) (by decide +kernel) (pa_cons (pe_lc (own := [("byte", 1)]) (g := (gName 1)) rfl sc.nd (pi_tup (pv 0)) (blkOk_by (own := [("byte", 1)]) (N := ["row", "byte", "found"]) (sc := defScope s_number_of) (by decide +kernel)) (fun _ _ _ _ _ => pg_name (i := 1) sc.nd rfl (Or.inl rfl)) (fun _ _ _ _ _ => pts_nil) (fun _ _ _ _ _ => (pe_chain op_le op_le pe_int (pv 1) pe_int))) pa_nil)))) (pw_or1 (PW.pt (pw_and (pt_cmpR op_eq (pe_ix (ixT (K := K)) (pv 0) pe_int (fun _ _ => rfl)) pe_int (nomark _)) (pw_and1 (pt_cmpR op_gt (pe_callB (clen (K := K)) rfl (fr_len E) (by decide +kernel) (pa_cons (pv 0) pa_nil)) pe_int (nomark _))))))))) (pss_one (ps_ret (pe_un un_neg pe_int))) pss_nil)
    (pss_cons (ps_set (i := 2) sc.nd rfl (Or.inl rfl) pe_int)
    (pss_cons (ps_for PassesOwn.never rfl (pi_tup (pv 0)) (pg_name (i := 1) sc.nd rfl (Or.inl rfl))
    (pss_one (ps_set (i := 2) sc.nd rfl (Or.inl rfl) (pe_op op_sub (pe_op op_add (pe_op op_mul pe_int (pv 2)) (pv 1)) pe_int))))
    (pss_one (ps_ret (pv 2))))))), ?_⟩)
  obtain ⟨p, b, rfl, hp, hl, k⟩ := h
  refine ⟨_, rfl, p, nV b, rfl, Or.inr (SqT.of hp), rfl, _, rfl, ?_⟩
  rw [nV_len]
  have fin : numOf b = -1 → ∀ H', Same H H' → ∃ i : Int, V.int 1 = V.int i ∧ Q (V.int (-i)) H' := fun e H' s => ⟨1, rfl, by
    have := k H' s
    rw [e] at this
    exact this⟩
  by_cases h0 : b = []
  · subst h0
    exact if_t rfl (if_t rfl (fin rfl _ (Same.refl _)))
  · have hpos : 0 < b.length := List.length_pos_iff.mpr h0
    have hem : b.isEmpty = false := by cases b with
      | nil => exact absurd rfl h0
      | cons _ _ => rfl
    refine if_f ?_ ⟨_, rfl, p, rfl, ⟨_, SqT.of hp⟩, fun D hD => ?_⟩
    · show decide (V.int (b.length : Nat) = V.int ((0 : Nat) : Int)) = false
      rw [dN]
      exact beq_eq_false_iff_ne.mpr (by omega)
    refine lc_it (walk_numsT (l := b)) (CL H D isB b fun c => some (VbenCore.isDigit c)) (CL.start hD) (fun i H1 hi p2 => SqT.of (p2.same _ _ hp)) (fun i v H1 H2 hi p2 yy => ?_) fun H1 p2 => ?_
    · obtain ⟨rfl, c, rfl, hc⟩ := yy
      refine ⟨rfl, yes_ ⟨_, rfl, 48, (c : Nat), rfl, rfl, _, rfl, ?_⟩⟩
      by_cases h3 : 48 ≤ c
      · refine if_t (decide_eq_true (by omega)) ⟨(c : Nat), 57, rfl, rfl, CL.put p2 (Same.refl _) hc rfl (by omega) isB_mono fun _ _ => ?_⟩
        show V.bl _ = V.bl _
        congr 1
        unfold VbenCore.isDigit
        rw [decide_eq_true h3, Bool.true_and]
        by_cases h4 : c ≤ 57
        · rw [decide_eq_true h4, decide_eq_true (by omega)]
        · rw [decide_eq_false h4, decide_eq_false (by omega)]
      · refine if_f (decide_eq_false (by omega)) (CL.put p2 (Same.refl _) hc rfl (by omega) isB_mono fun _ _ => ?_)
        show V.bl _ = V.bl _
        congr 1
        unfold VbenCore.isDigit
        rw [decide_eq_false h3, Bool.false_and]
    · obtain ⟨s1, e3⟩ := p2.bools
      refine ⟨D, _, rfl, SqL.of e3, _, rfl, ?_⟩
      rw [all_map_id]
      by_cases had : b.all VbenCore.isDigit = true
      · obtain ⟨b0, hb0⟩ : ∃ b0, b[0]? = some b0 := ⟨_, List.getElem?_eq_getElem hpos⟩
        have hp1 := s1 _ _ hp
        have hhead : b.head? = some b0 := by rw [← hb0]; cases b <;> rfl
        have rest : VbenCore.isZeroLed b = false → ∀ H', Same H H' → ∃ W : Nat → Nat → L2.St → Hp → Prop, (∃ m, W 0 m [some (.ref p), none, some (.int 0)] H') ∧ ∀ i m σ H1, W i m σ H1 →
            ((Itt K p).stop i H1 ∧ (∃ v, σ[2]? = some (some v) ∧ Q v H1)) ∨ ((Itt K p).go i H1 ∧ ∃ N : L2.St → Hp → Prop, (∀ σ' H', N σ' H' → ∃ m', m' < m ∧ W (i + 1) m' σ' H') ∧ ∀ x H', (Itt K p).yld i H1 x H' → gName 1 x σ H' fun σ2 H2 =>
              (tAsg (tOp (rI0 fun i j => V.int (i - j)) (tOp (rI0 fun i j => V.int (i + j)) (tOp (rI CMul fun i j => V.int (i * j)) (tC (V.int 10)) (tVar 2)) (tVar 1)) (tC (V.int 48))) (gName 2)) { nx := N, ct := N, bk := fun σ H' => ∃ v, σ[2]? = some (some v) ∧ Q v H', rt := Q } σ2 H2) := fun hz H' s' => by
          refine for_it (D := { nx := fun σ H' => ∃ v, σ[2]? = some (some v) ∧ Q v H', rt := Q }) (walk_numsT (l := b)) (fun i σ H2 => ∃ x, σ = [some (.ref p), x, some (.int ((VbenCore.valueOf 10 ((b.take i).map fun c => c - 48) : Nat)))] ∧ Same H H2) ⟨_, rfl, s'⟩ (fun i σ H2 hi ⟨_, _, s⟩ => SqT.of (s _ _ hp)) (fun i v σ H2 H3 hi ⟨x, e, s⟩ yy => ?_) fun σ H2 ⟨x, e, s⟩ => ?_
          · subst e
            obtain ⟨rfl, c, rfl, hc⟩ := yy
            have hd := List.all_eq_true.mp had c (mem_of_get hc)
            have hd2 : 48 ≤ c := by
              unfold VbenCore.isDigit at hd
              rw [Bool.and_eq_true] at hd
              exact of_decide_eq_true hd.1
            refine ⟨_, rfl, 10, _, rfl, rfl, Or.inl ⟨by decide, by decide⟩, _, rfl, _, (c : Nat), rfl, rfl, _, 48, rfl, rfl, some (.int (c : Nat)), ?_, s⟩
            have ev : VbenCore.valueOf 10 ((b.take (i + 1)).map fun c => c - 48) = VbenCore.valueOf 10 ((b.take i).map fun c => c - 48) * 10 + (c - 48) := by
              rw [List.take_succ, hc, List.map_append]
              unfold VbenCore.valueOf
              rw [List.foldl_append]
              rfl
            rw [ev]
            generalize VbenCore.valueOf 10 ((b.take i).map fun c => c - 48) = vv
            have e10 : ((fun i j => V.int (i - j)) ((10 : Int) * ((vv : Nat) : Int) + ((c : Nat) : Int)) 48) = V.int ((vv * 10 + (c - 48) : Nat)) := by
              show V.int _ = V.int _
              congr 1
              omega
            rw [e10]
            rfl
          · subst e
            rw [List.take_length]
            refine ⟨_, rfl, ?_⟩
            have q := k _ s
            have e : numOf b = ((VbenCore.valueOf 10 (b.map fun c => c - 48) : Nat) : Int) := by
              unfold numOf
              rw [if_neg]
              rw [hem, had, hz]
              simp
            rw [e] at q
            exact q
        refine if_f (by rw [had]; rfl) ⟨_, rfl, p, _, 0, .int (b0 : Nat), rfl, rfl, SqT.of hp1, atI_nat (i := 0) (get_nV hb0), rfl, _, rfl, ?_⟩
        by_cases h48 : b0 = 48
        · subst h48
          refine if_t rfl ⟨_, rfl, p, nV b, rfl, Or.inr (SqT.of hp1), _, 1, rfl, rfl, _, rfl, ?_⟩
          rw [nV_len]
          by_cases hlen : 1 < b.length
          · refine if_t (decide_eq_true (by omega)) (fin ?_ _ s1)
            unfold numOf
            rw [if_pos]
            refine Or.inr (Or.inr ?_)
            unfold VbenCore.isZeroLed
            rw [hhead, decide_eq_true hlen]
            rfl
          · refine if_f (decide_eq_false (by omega)) ⟨_, rfl, p, rfl, ⟨_, SqT.of hp1⟩, rest ?_ _ s1⟩
            unfold VbenCore.isZeroLed
            rw [decide_eq_false hlen, Bool.and_false]
        · refine if_f ?_ (if_f rfl ⟨_, rfl, p, rfl, ⟨_, SqT.of hp1⟩, rest ?_ _ s1⟩)
          · show decide (V.int (b0 : Nat) = V.int ((48 : Nat) : Int)) = false
            rw [dN]
            exact beq_eq_false_iff_ne.mpr h48
          · unfold VbenCore.isZeroLed
            rw [hhead]
            have : (some b0 == some 48) = false := beq_eq_false_iff_ne.mpr fun z => h48 (Option.some.inj z)
            rw [this, Bool.false_and]
      · refine if_t (by rw [Bool.eq_false_iff.mpr had]; rfl) (if_t rfl (fin ?_ _ s1))
        unfold numOf
        rw [if_pos]
        exact Or.inr (Or.inl (Bool.eq_false_iff.mpr had))
end
end Bw
namespace Bw
open PySem PySem.Spec PyProof.Rows L2
open Vbenah (File State Card Act)
section
variable {P : Program} {w : World} {K : PySem.W.Frag} {mg : Str → Option Value} {base : Heap}
abbrev fileF (h : V) (n m a : V) : List (Str × V) := [("holes", h), ("names", n), ("marks", m), ("acts", a)]
def sp_File_init (K : PySem.W.Frag) : Sp := fun vs H Q _ => ∃ (x dx : Addr) (h n m a : V), vs = [.ref x, h, n, m, a] ∧ H x = some (.ins (He.ga K "File") dx []) ∧
  ∀ H', But [x] H H' → H' x = some (.ins (He.ga K "File") dx (fileF h n m a)) → Q .non H'
theorem len_File_init (K : PySem.W.Frag) : ∀ vs H Q E, sp_File_init K vs H Q E → vs.length = 5 := fun _ _ _ _ ⟨_, _, _, _, _, _, h, _⟩ => by rw [h]; rfl
theorem sc_File_init : FnScope (["self", "holes", "names", "marks", "acts"] : List Str) ["self", "holes", "names", "marks", "acts"] (defScope s_File_init) := C8.fnScope_by (by decide +kernel)
theorem c_File_init (E : Env P w K mg base) : Mak P w K mg base 1 "File" (sp_File_init K) := by
  have sc := sc_File_init
  refine mkMak (st := s_File_init) (E.top.d.def_ 82 (d := d_File_init) rfl) (E.glo 82) (E.mkr 97) sc (fun _ _ _ _ _ _ us hl => match us, hl with | [_, _, _, _, _], _ => rfl) (len_File_init K) (fun cdv A outer s H vs Q X hr h => ⟨_, PSs.nox ((pss_cons (ps_fld (pv 0) (pv 1) rfl)
    (pss_cons (ps_fld (pv 0) (pv 2) rfl)
    (pss_cons (ps_fld (pv 0) (pv 3) rfl)
    (pss_one (ps_fld (pv 0) (pv 4) rfl)))))), ?_⟩)
  obtain ⟨x, dx, h, n, m, a, rfl, h0, k⟩ := h
  refine ⟨_, rfl, _, rfl, x, _, dx, _, rfl, h0, k_File E, n_File_holes E, (show 0 < 1000 by decide), _, rfl, _, rfl, x, _, dx, _, rfl, upd_same, k_File E, n_File_names E, (show 1 < 1000 by decide), _, rfl, _, rfl, x, _, dx, _, rfl, upd_same, k_File E, n_File_marks E, (show 2 < 1000 by decide), _, rfl, _, rfl, x, _, dx, _, rfl, upd_same, k_File E, n_File_acts E, (show 3 < 1000 by decide), ?_⟩
  refine k _ (fun b o hb e => ?_) upd_same
  have hx : b ≠ x := by simpa using hb
  rw [upd_ne hx, upd_ne hx, upd_ne hx, upd_ne hx]
  exact e
/-- a file as it lies there: its names, marks and acts -/
def FileAt (K : PySem.W.Frag) (H : Hp) (a : Addr) (f : File) (xs : List NAct) : Prop := ∃ dx na ma al, H a = some (.ins (He.ga K "File") dx (fileF (.int (f.holes : Nat)) (.ref na) (.ref ma) (.ref al))) ∧ NamesAt H na (f.words.map (·.1)) ∧ MarksAt H ma (mks f) ∧ ActsAt H al xs
theorem FileAt.same {K : PySem.W.Frag} {H H' : Hp} {a : Addr} {f : File} {xs : List NAct} (h : FileAt K H a f xs) (s : Same H H') : FileAt K H' a f xs := by
  obtain ⟨dx, na, ma, al, h1, h2, h3, h4⟩ := h
  exact ⟨dx, na, ma, al, s _ _ h1, h2.same s, h3.same s, h4.same s⟩
/-- what is new -/
def fresh (H H' : Hp) : Hp := fun b => match H b with
  | none => H' b
  | some _ => none
theorem fresh_of {H H' : Hp} {b : Addr} (h : H b = none) : fresh H H' b = H' b := by
  unfold fresh
  rw [h]
theorem fresh_sub {H H' : Hp} : Same (fresh H H') H' := fun b o e => by
  unfold fresh at e
  split at e
  · exact e
  · cases e
theorem fresh_off {H H' : Hp} {b : Addr} {o u : HO} (h : H b = some o) (e : fresh H H' b = some u) : False := by
  unfold fresh at e
  rw [h] at e
  cases e
def sp_first_file (K : PySem.W.Frag) : Sp := fun vs H Q _ => vs = [] ∧ ∀ H' a, Same H H' → H a = none → FileAt K (fresh H H') a Vbenah.start [] → Q (.ref a) H'
theorem len_first_file (K : PySem.W.Frag) : ∀ vs H Q E, sp_first_file K vs H Q E → vs.length = 0 := fun _ _ _ _ ⟨h, _⟩ => by rw [h]; rfl
theorem sc_first_file : FnScope ([] : List Str) [] (defScope s_first_file) := C8.fnScope_by (by decide +kernel)
theorem c_first_file (E : Env P w K mg base) : Cal P w K mg base CX0 3 "first_file" (sp_first_file K) := by
  have sc := sc_first_file
  refine mkCal (st := s_first_file) (E.top.d.def_ 19 (d := d_first_file) rfl) (E.glo 19) sc (fun _ _ _ _ _ _ us hl => match us, hl with | [], _ => rfl) (len_first_file K) (fun cdv A outer s H vs Q X hr h => ⟨_, PSs.nox ((pss_one (ps_ret (pe_k (c_File_init E) hr (by decide) rfl (pa_cons pe_int (pa_cons (pe_lst pa_nil) (pa_cons (pe_lst pa_nil) (pa_cons (pe_lst pa_nil) pa_nil)))))))), ?_⟩)
  obtain ⟨rfl, k⟩ := h
  refine ⟨Nat.zero_le _, fun n nn => ⟨Nat.zero_le _, fun m nm => ⟨Nat.zero_le _, fun a na => fun x dx nx nd ne => ⟨x, dx, _, _, _, _, rfl, upd_same, fun H' b e => ⟨rfl, ?_⟩⟩⟩⟩⟩
  have s1 := Same.new (o := .lst []) nn
  have s2 := Same.new (o := .lst []) nm
  have s3 := Same.new (o := .lst []) na
  have s4 := smB nx nd b
  have s04 := Same.trans s1 (Same.trans s2 (Same.trans s3 s4))
  have nxH := (Same.trans s1 (Same.trans s2 s3)).free nx
  exact k _ x s04 nxH ⟨dx, n, m, a, (fresh_of nxH).trans e, ⟨[], (fresh_of nn).trans (s4 _ _ (s3 _ _ (s2 _ _ upd_same))), .nil⟩, ⟨[], (fresh_of (s1.free nm)).trans (s4 _ _ (s3 _ _ upd_same)), .nil⟩, ⟨[], (fresh_of ((Same.trans s1 s2).free na)).trans (s4 _ _ upd_same), .nil⟩⟩
def sp_Desk_init (K : PySem.W.Frag) : Sp := fun vs H Q _ => ∃ (x dx : Addr), vs = [.ref x] ∧ H x = some (.ins (He.ga K "Desk") dx []) ∧
  ∀ H' a, But [x] H H' → H a = none → H' x = some (.ins (He.ga K "Desk") dx [("file", .ref a)]) → FileAt K H' a Vbenah.start [] → Q .non H'
theorem len_Desk_init (K : PySem.W.Frag) : ∀ vs H Q E, sp_Desk_init K vs H Q E → vs.length = 1 := fun _ _ _ _ ⟨_, _, h, _⟩ => by rw [h]; rfl
theorem sc_Desk_init : FnScope (["self"] : List Str) ["self"] (defScope s_Desk_init) := C8.fnScope_by (by decide +kernel)
theorem c_Desk_init (E : Env P w K mg base) : Mak P w K mg base 4 "Desk" (sp_Desk_init K) := by
  have sc := sc_Desk_init
  refine mkMak (st := s_Desk_init) (E.top.d.def_ 103 (d := d_Desk_init) rfl) (E.glo 85) (E.mkr 114) sc (fun _ _ _ _ _ _ us hl => match us, hl with | [_], _ => rfl) (len_Desk_init K) (fun cdv A outer s H vs Q X hr h => ⟨_, PSs.nox ((pss_one (ps_fld (pv 0) (pe_c0 (c_first_file E) hr (by decide) rfl pass0) rfl))), ?_⟩)
  obtain ⟨x, dx, rfl, h0, k⟩ := h
  refine ⟨rfl, fun H1 a s1 na hF => ⟨_, rfl, x, _, dx, _, rfl, s1 _ _ h0, k_Desk E, n_Desk_file E, (show 0 < 1000 by decide), ?_⟩⟩
  refine k _ a (fun b o hb e => ?_) na upd_same ?_
  · rw [upd_ne (by simpa using hb)]
    exact s1 _ _ e
  · obtain ⟨dy, n, m, l, f1, ⟨b1, f2, f3⟩, ⟨b2, f4, f5⟩, ⟨b3, f6, f7⟩⟩ := hF.same fresh_sub
    have hx := s1 _ _ h0
    cases f3
    cases f5
    cases f7
    have st : ∀ {b o}, H1 b = some o → o ≠ .ins (He.ga K "Desk") dx [] → upd H1 x (.ins (He.ga K "Desk") dx [("file", .ref a)]) b = some o := fun e n => by rw [upd_ne (ne_obj e hx n)]; exact e
    exact ⟨dy, n, m, l, st f1 (fun z => by injection z with _ _ z; cases z), ⟨[], st f2 (fun z => by cases z), .nil⟩, ⟨[], st f4 (fun z => by cases z), .nil⟩, ⟨[], st f6 (fun z => by cases z), .nil⟩⟩
def sp_digits (K : PySem.W.Frag) : Sp := fun vs H Q _ => ∃ (n : Nat), vs = [.int (n : Nat)] ∧ n ≤ 16 ∧
  ∀ H' p, Same H H' → H p = none → LstN H' p (Vbenah.num n) → Q (.ref p) H'
theorem len_digits (K : PySem.W.Frag) : ∀ vs H Q E, sp_digits K vs H Q E → vs.length = 1 := fun _ _ _ _ ⟨_, h, _⟩ => by rw [h]; rfl
theorem digits_ok {n : Nat} (h : n ≤ 16) : (Str.ofString (toString (n : Int))).cps.toList = Vbenah.num n := by
  have key : ((List.range 17).all fun n => (Str.ofString (toString (n : Int))).cps.toList == Vbenah.num n) = true := by decide +kernel
  exact beq_iff_eq.mp (List.all_eq_true.mp key n (List.mem_range.mpr (by omega)))
theorem num_len {n : Nat} (h : n ≤ 16) : (Vbenah.num n).length ≤ 2 := by
  have key : ((List.range 17).all fun n => decide ((Vbenah.num n).length ≤ 2)) = true := by decide +kernel
  exact of_decide_eq_true (List.all_eq_true.mp key n (List.mem_range.mpr (by omega)))
theorem sc_digits : FnScope (["number"] : List Str) ["number"] (defScope s_digits) := C8.fnScope_by (by decide +kernel)
theorem c_digits (E : Env P w K mg base) : Cal P w K mg base CX0 2 "digits" (sp_digits K) := by
  have sc := sc_digits
  refine mkCal (st := s_digits) (E.top.d.def_ 22 (d := d_digits) rfl) (E.glo 22) sc (fun _ _ _ _ _ _ us hl => match us, hl with | [_], _ => rfl) (len_digits K) (fun cdv A outer s H vs Q X hr h => ⟨_, PSs.nox ((pss_one (ps_ret (pe_callTy (clist (K := K)) rfl (fr_list E) (by decide +kernel) (pa_cons (pe_c (c_bytes_of E) hr (by decide) rfl pass0 (pa_cons (pe_callTy call_str_int rfl (fr_str E) (by decide +kernel) (pa_cons (pv 0) pa_nil)) pa_nil)) pa_nil))))), ?_⟩)
  obtain ⟨n, rfl, hn, k⟩ := h
  have hd := digits_ok hn
  have hl : (Str.ofString (toString (n : Int))).cps.size ≤ 1000 := by
    have := num_len hn
    rw [← hd, Array.length_toList] at this
    omega
  refine ⟨_, rfl, _, rfl, ?_, _, rfl, hl, fun H1 p s1 hp => ⟨p, _, rfl, Or.inr (SqT.of hp), fun l nl => k _ l (Same.trans s1 (Same.new nl)) (s1.free nl) ?_⟩⟩
  · have : ((List.range 17).all fun n => decide (((n : Nat) : Int).natAbs.log2 < 1920)) = true := by decide +kernel
    exact of_decide_eq_true (List.all_eq_true.mp this n (List.mem_range.mpr (by omega)))
  · rw [LstN, upd_same, List.map_id', hd]
/-- a word's bytes, as a list or a tuple -/
def BytAt (H : Hp) (b : Addr) (x : List Nat) : Prop := LstN H b x ∨ TupN H b x
def sp_line_of (K : PySem.W.Frag) : Sp := fun vs H Q _ => ∃ (p : Addr) (bs : List Addr) (ws : List (List Nat)), vs = [.ref p] ∧ H p = some (.lst (bs.map V.ref)) ∧ Paired (BytAt H) bs ws ∧ ws ≠ [] ∧ ws.length ≤ 100 ∧ (∀ w ∈ ws, w.length ≤ 2000) ∧
  ∀ H' q, Same H H' → H q = none → LstN H' q (VbenCore.between [32] ws) → Q (.ref q) H'
theorem len_line_of (K : PySem.W.Frag) : ∀ vs H Q E, sp_line_of K vs H Q E → vs.length = 1 := fun _ _ _ _ ⟨_, _, _, h, _⟩ => by rw [h]; rfl
theorem BytAt.same {H H' : Hp} {b : Addr} {x : List Nat} (h : BytAt H b x) (s : Same H H') : BytAt H' b x := h.elim (fun h => Or.inl (s _ _ h)) fun h => Or.inr (s _ _ h)
theorem between_snoc (s : List Nat) : ∀ (l : List (List Nat)) (w : List Nat), l ≠ [] → VbenCore.between s (l ++ [w]) = VbenCore.between s l ++ (s ++ w)
  | [], _, h => absurd rfl h
  | [a], w, _ => by simp [VbenCore.between]
  | a :: b :: l, w, _ => by
    have := between_snoc s (b :: l) w (by simp)
    show a ++ s ++ VbenCore.between s ((b :: l) ++ [w]) = (a ++ s ++ VbenCore.between s (b :: l)) ++ (s ++ w)
    rw [this]
    simp
theorem between_len (s : List Nat) (n : Nat) : ∀ (l : List (List Nat)), (∀ w ∈ l, w.length ≤ n) → (VbenCore.between s l).length ≤ l.length * (n + s.length)
  | [], _ => by simp [VbenCore.between]
  | [a], h => by
    have := h a List.mem_cons_self
    simp [VbenCore.between]
    omega
  | a :: b :: l, h => by
    have h1 := h a List.mem_cons_self
    have ih := between_len s n (b :: l) fun w hw => h w (List.mem_cons_of_mem _ hw)
    show (a ++ s ++ VbenCore.between s (b :: l)).length ≤ _
    rw [List.length_append, List.length_append, List.length_cons, Nat.succ_mul]
    omega
theorem sc_line_of : FnScope (["words", "found", "word"] : List Str) ["words"] (defScope s_line_of) := C8.fnScope_by (by decide +kernel)
theorem c_line_of (E : Env P w K mg base) : Cal P w K mg base CX0 1 "line_of" (sp_line_of K) := by
  have sc := sc_line_of
  refine mkCal (st := s_line_of) (E.top.d.def_ 23 (d := d_line_of) rfl) (E.glo 23) sc (fun _ _ _ _ _ _ us hl => match us, hl with | [_], _ => rfl) (len_line_of K) (fun cdv A outer s H vs Q X hr h => ⟨_, PSs.nox ((pss_cons (ps_set (i := 1) sc.nd rfl (Or.inl rfl) (pe_callTy (clist (K := K)) rfl (fr_list E) (by decide +kernel) (pa_cons (pe_ix (ixL (K := K)) (pv 0) pe_int (fun _ _ => rfl)) pa_nil)))
    (pss_cons (ps_for PassesOwn.never rfl (pi_list (pe_slice (slL (K := K)) (pv 0) (po_some pe_int) po_none)) (pg_name (i := 2) sc.nd rfl (Or.inl rfl))
    (pss_one (ps_expr (pe_bm PySem.F.plainAttrs_list PySem.F.slot_list_extend PySem.F.type_list_extend mt_extend (pv 1) (pa_cons (pe_op op_cat (pe_lst (pa_cons (C8.pe_gc rfl (g_BLANK_files E)) pa_nil)) (pe_callTy (clist (K := K)) rfl (fr_list E) (by decide +kernel) (pa_cons (pv 2) pa_nil))) pa_nil)))))
    (pss_one (ps_ret (pv 1)))))), ?_⟩)
  obtain ⟨p, bs, ws, rfl, hp, hb, hne, hl, hw, k⟩ := h
  have lb := paired_len hb
  obtain ⟨w0, ws', rfl⟩ := List.exists_cons_of_ne_nil hne
  have hb' := hb
  obtain ⟨b0, hb0, hB0⟩ := paired_get (i := 0) (y := w0) hb rfl
  have sqB : ∀ {H' : Hp} {b : Addr} {x : List Nat}, BytAt H' b x → SqL K H' b (nV x) ∨ SqT K H' b (nV x) := fun h => h.elim (fun h => Or.inl (SqL.of h)) fun h => Or.inr (SqT.of h)
  refine ⟨_, rfl, p, _, 0, .ref b0, rfl, rfl, SqL.of hp, atI_nat (i := 0) (get_ref hb0), b0, nV w0, rfl, sqB hB0, fun q nq => ?_⟩
  have s1 := Same.new (o := .lst (nV w0)) nq
  have e1 : cutV (bs.map V.ref) (some (1 : Int)) none = (bs.drop 1).map V.ref := by
    rw [show (1 : Int) = ((1 : Nat) : Int) from rfl, cut_drop (by rw [List.length_map, lb]; simp), List.map_drop]
  refine ⟨_, rfl, 1, rfl, p, _, rfl, SqL.of (s1 _ _ hp), fun L nL => ?_⟩
  rw [e1]
  have s2 := Same.trans s1 (Same.new (o := .lst ((bs.drop 1).map V.ref)) nL)
  have hqL : q ≠ L := fun z => by
    rw [← z, upd_same] at nL
    cases nL
  refine ⟨L, rfl, ⟨_, SqL.of upd_same⟩, ?_⟩
  have hb1 : Paired (BytAt H) (bs.drop 1) ws' := paired_drop 1 hb
  refine for_it (walk_refs hb1) (fun i σ H' => ∃ x, σ = [some (.ref p), some (.ref q), x] ∧ Same H H' ∧ H' L = some (.lst ((bs.drop 1).map V.ref)) ∧ LstN H' q (VbenCore.between [32] (w0 :: ws'.take i))) ⟨_, rfl, s2, upd_same, by rw [LstN, upd_ne hqL, upd_same]; rfl⟩ (fun i σ H' hi ⟨_, _, _, e, _⟩ => SqL.of e) (fun i v σ H1 H2 hi ⟨x, e, s, eL, eq⟩ yy => ?_) fun σ H1 ⟨x, e, s, eL, eq⟩ => ?_
  · subst e
    obtain ⟨rfl, b, w, rfl, hx, hB⟩ := yy
    have hwl := hw w (List.mem_cons_of_mem _ (mem_of_get hx))
    have hi2 : i < ws'.length := hi
    have hlen := between_len [32] 2000 (w0 :: ws'.take i) fun v hv => by
      rcases List.mem_cons.mp hv with m | m
      · rw [m]
        exact hw _ List.mem_cons_self
      · exact hw _ (List.mem_cons_of_mem _ (List.mem_of_mem_take m))
    have hlt : (w0 :: ws'.take i).length ≤ 100 := by
      simp at hl ⊢
      omega
    have hll : (VbenCore.between [32] (w0 :: ws'.take i)).length ≤ 200100 := by
      refine Nat.le_trans hlen ?_
      exact Nat.mul_le_mul_right 2001 hlt
    refine ⟨_, rfl, ty_lst eq, (show 1 ≤ sizeLine by decide), fun L1 n1 => ⟨_, rfl, b, nV w, rfl, sqB ((BytAt.same hB s).same (Same.new n1)), fun L2 n2 => ⟨L1, L2, _, _, rfl, rfl, Same.new n2 _ _ upd_same, upd_same, ?_, fun L3 n3 => ?_⟩⟩⟩
    · rw [nV_len]
      exact sz_le (by simp; omega)
    have sA := Same.trans (Same.new (o := .lst [V.int 32]) n1) (Same.trans (Same.new (o := .lst (nV w)) n2) (Same.new (o := .lst ([V.int 32] ++ nV w)) n3))
    refine ⟨q, L3, _, _, rfl, rfl, sA _ _ eq, upd_same, ?_, ?_⟩
    · rw [nV_len, List.length_append, nV_len]
      exact Nat.le_trans (by simp; omega : _ ≤ 300000) (by decide)
    · refine ⟨_, rfl, Same.put (Same.trans s sA) nq, ?_, ?_⟩
      · rw [upd_ne (Ne.symm hqL)]
        exact sA _ _ eL
      · rw [LstN, upd_same, List.take_succ, hx]
        show some (HO.lst (nV _ ++ (nV [32] ++ nV w))) = some (HO.lst (nV (VbenCore.between [32] ((w0 :: ws'.take i) ++ [w]))))
        rw [between_snoc _ _ _ (by simp), nV_append, nV_append]
  · subst e
    rw [List.take_length] at eq
    exact ⟨_, rfl, k _ q s nq eq⟩
end
end Bw
namespace Bw
open PySem PySem.Spec PyProof.Rows L2
open Vbenah (File State Card Act)
section
variable {P : Program} {w : World} {K : PySem.W.Frag} {mg : Str → Option Value} {base : Heap}
def nameOf (f : File) (w : Nat) : List Nat := Vbenah.nameOf f w
/-- an act's words, told -/
def actWs (f : File) : NAct → List (List Nat)
  | .under a b => [Vbenah.W "under", Vbenah.nameOf f a, Vbenah.nameOf f b]
  | .apart a b => [Vbenah.W "apart", Vbenah.nameOf f a, Vbenah.nameOf f b]
  | .card n ws => Vbenah.W "card" :: n :: ws.map (Vbenah.nameOf f)
  | .add n w => [Vbenah.W "add", n, Vbenah.nameOf f w]
  | .grow n => [Vbenah.W "grow", n]
  | .notch n h => [Vbenah.W "notch", n, Vbenah.num h]
/-- bounds of a file's texts -/
structure FB (f : File) (xs : List NAct) : Prop where
  nv : NV f xs
  nl : ∀ x ∈ f.words, x.1.length ≤ 12
  an : ∀ y ∈ xs, ∀ n, (match y with | .card m _ => m = n | .add m _ => m = n | .grow m => m = n | .notch m _ => m = n | _ => False) → n.length ≤ 12
  ap : ∀ a b, NAct.apart a b ∈ xs → a < f.words.length ∧ b < f.words.length
def sp_act_line (K : PySem.W.Frag) : Sp := fun vs H Q _ => ∃ (a b : Addr) (f : File) (xs ys : List NAct) (y : NAct), vs = [.ref a, .ref b] ∧ FileAt K H a f ys ∧ FB f xs ∧ y ∈ xs ∧ NActAt H b y ∧
  ∀ H' q, Same H H' → H q = none → LstN H' q (VbenCore.between [32] (actWs f y)) → Q (.ref q) H'
theorem len_act_line (K : PySem.W.Frag) : ∀ vs H Q E, sp_act_line K vs H Q E → vs.length = 2 := fun _ _ _ _ ⟨_, _, _, _, _, _, h, _⟩ => by rw [h]; rfl
theorem wb1 : ((("under" : Str)).cps.toList.map fun c => c) = Vbenah.W "under" := by decide +kernel
theorem wb2 : ((("apart" : Str)).cps.toList.map fun c => c) = Vbenah.W "apart" := by decide +kernel
theorem wb3 : ((("card" : Str)).cps.toList.map fun c => c) = Vbenah.W "card" := by decide +kernel
theorem wb4 : ((("add" : Str)).cps.toList.map fun c => c) = Vbenah.W "add" := by decide +kernel
theorem wb5 : ((("grow" : Str)).cps.toList.map fun c => c) = Vbenah.W "grow" := by decide +kernel
theorem wb6 : ((("notch" : Str)).cps.toList.map fun c => c) = Vbenah.W "notch" := by decide +kernel
theorem wlen : ∀ w ∈ [Vbenah.W "under", Vbenah.W "apart", Vbenah.W "card", Vbenah.W "add", Vbenah.W "grow", Vbenah.W "notch"], w.length ≤ 2000 := by decide +kernel
theorem name_at {f : File} {w : Nat} (h : w < f.words.length) : (f.words.map (·.1))[w]? = some (Vbenah.nameOf f w) := by
  unfold Vbenah.nameOf
  rw [List.getElem?_map, List.getElem?_eq_getElem h]
  rfl
theorem name_len {f : File} {xs : List NAct} (h : FB f xs) {w : Nat} : (Vbenah.nameOf f w).length ≤ 12 := by
  unfold Vbenah.nameOf
  cases e : f.words[w]? with
  | none => exact Nat.zero_le _
  | some x => exact h.nl x (mem_of_get e)
theorem sc_act_line : FnScope (["file", "act", "kind", "ahead", "word"] : List Str) ["file", "act"] (defScope s_act_line) := C8.fnScope_by (by decide +kernel)
theorem c_act_line (E : Env P w K mg base) : Cal P w K mg base CX0 3 "act_line" (sp_act_line K) := by
  have sc := sc_act_line
  refine mkCal (st := s_act_line) (E.top.d.def_ 24 (d := d_act_line) rfl) (E.glo 24) sc (fun _ _ _ _ _ _ us hl => match us, hl with | [_, _], _ => rfl) (len_act_line K) (fun cdv A outer s H vs Q X hr h => ⟨_, PSs.nox ((pss_cons (ps_set (i := 2) sc.nd rfl (Or.inl rfl) (pe_ix (ixT (K := K)) (pv 1) pe_int (fun _ _ => rfl)))
    (pss_cons (ps_set (i := 3) sc.nd rfl (Or.inl rfl) (pe_lst (pa_cons (pe_c (c_bytes_of E) hr (by decide) rfl pass0 (pa_cons (pe_ix (ixT (K := K)) (C8.pe_gc rfl (g_ACT_WORDS E)) (pv 2) (fun _ _ => rfl)) pa_nil)) pa_nil)))
    (pss_cons (ps_if (pt_cmpR (opIn (K := K)) (pv 2) (pe_tup (pa_cons (C8.pe_gc rfl (g_UNDER E)) (pa_cons (C8.pe_gc rfl (g_APART E)) pa_nil))) (by rfl)) (pss_one (ps_ret (pe_c (c_line_of E) hr (by decide) rfl pass0 (pa_cons (pe_op op_cat (pv 3) (pe_lst (pa_cons (pe_ix (ixL (K := K)) (peF (K := K) (pv 0) rfl) (pe_ix (ixT (K := K)) (pv 1) pe_int (fun _ _ => rfl)) (fun _ _ => rfl)) (pa_cons (pe_ix (ixL (K := K)) (peF (K := K) (pv 0) rfl) (pe_ix (ixT (K := K)) (pv 1) pe_int (fun _ _ => rfl)) (fun _ _ => rfl)) pa_nil)))) pa_nil)))) pss_nil)
    (pss_cons (ps_if (pt_cmpR op_eq (pv 2) (C8.pe_gc rfl (g_CARD E)) (nomark _)) (pss_one (ps_ret (pe_c (c_line_of E) hr (by decide) rfl pass0 (pa_cons (pe_op op_cat (pe_op op_cat (pv 3) (pe_lst (pa_cons (pe_ix (ixT (K := K)) (pv 1) pe_int (fun _ _ => rfl)) pa_nil))) (pe_lc (own := [("word", 4)]) (g := (gName 4)) rfl sc.nd (pi_list (pe_ix (ixT (K := K)) (pv 1) pe_int (fun _ _ => rfl))) (blkOk_by (own := [("word", 4)]) (N := ["file", "act", "kind", "ahead", "word"]) (sc := defScope s_act_line) (by decide +kernel)) (fun _ _ _ _ _ => pg_name (i := 4) sc.nd rfl (Or.inl rfl)) (fun _ _ _ _ _ => pts_nil) (fun _ _ _ _ _ => (pe_ix (ixL (K := K)) (peF (K := K) (pv 0) rfl) (pv 4) (fun _ _ => rfl))))) pa_nil)))) pss_nil)
    (pss_cons (ps_if (pt_cmpR op_eq (pv 2) (C8.pe_gc rfl (g_ADD E)) (nomark _)) (pss_one (ps_ret (pe_c (c_line_of E) hr (by decide) rfl pass0 (pa_cons (pe_op op_cat (pv 3) (pe_lst (pa_cons (pe_ix (ixT (K := K)) (pv 1) pe_int (fun _ _ => rfl)) (pa_cons (pe_ix (ixL (K := K)) (peF (K := K) (pv 0) rfl) (pe_ix (ixT (K := K)) (pv 1) pe_int (fun _ _ => rfl)) (fun _ _ => rfl)) pa_nil)))) pa_nil)))) pss_nil)
    (pss_cons (ps_if (pt_cmpR op_eq (pv 2) (C8.pe_gc rfl (g_GROW E)) (nomark _)) (pss_one (ps_ret (pe_c (c_line_of E) hr (by decide) rfl pass0 (pa_cons (pe_op op_cat (pv 3) (pe_lst (pa_cons (pe_ix (ixT (K := K)) (pv 1) pe_int (fun _ _ => rfl)) pa_nil))) pa_nil)))) pss_nil)
    (pss_one (ps_ret (pe_c (c_line_of E) hr (by decide) rfl pass0 (pa_cons (pe_op op_cat (pv 3) (pe_lst (pa_cons (pe_ix (ixT (K := K)) (pv 1) pe_int (fun _ _ => rfl)) (pa_cons (pe_c (c_digits E) hr (by decide) rfl pass0 (pa_cons (pe_ix (ixT (K := K)) (pv 1) pe_int (fun _ _ => rfl)) pa_nil)) pa_nil)))) pa_nil))))))))))), ?_⟩)
  obtain ⟨a, b, f, xs, ys, y, rfl, hF, hB, hy, hA, k⟩ := h
  obtain ⟨dx, na, ma, al, f1, ⟨ns, f2, f3⟩, f4, f5⟩ := hF
  have hwf := hB.nv.wf y hy
  have aw := fun H => He.tupB_ok E.tups.1 H
  have nlen := fun w => name_len hB (w := w)
  have t13 : ∀ {n : Nat}, n ≤ 12 → n ≤ 2000 := fun h => by omega
  cases y with
  | under i j =>
    obtain ⟨n1, h1, h1'⟩ := paired_get f3 (name_at hwf.1)
    obtain ⟨n2, h2, h2'⟩ := paired_get f3 (name_at hwf.2)
    refine ⟨_, rfl, b, _, 0, .int 0, rfl, rfl, SqT.of hA, rfl, ?_⟩
    refine ⟨_, rfl, _, _, 0, .str "under", rfl, rfl, aw _, rfl, _, rfl, by decide, fun H1 q0 s1 e1 => ⟨(show 1 ≤ sizeLine by decide), fun L0 n0 => ?_⟩⟩
    have s2 := Same.trans s1 (Same.new (o := .lst [.ref q0]) n0)
    refine ⟨_, rfl, (show 2 ≤ sizeLine by decide), fun T nT => ⟨T, _, rfl, Or.inr (SqT.of upd_same), rfl, rfl, _, rfl, if_t rfl ?_⟩⟩
    have s3 := Same.trans s2 (Same.new (o := .tup [.int 0, .int 1]) nT)
    refine ⟨_, rfl, _, rfl, a, _, dx, _, _, rfl, s3 _ _ f1, k_File E, n_File_names E, rfl, _, rfl, b, _, 1, .int (i : Nat), rfl, rfl, SqT.of (s3 _ _ hA), rfl, na, _, (i : Nat), .ref n1, rfl, rfl, SqL.of (s3 _ _ f2), atI_nat (get_ref h1), _, rfl, a, _, dx, _, _, rfl, s3 _ _ f1, k_File E, n_File_names E, rfl, _, rfl, b, _, 2, .int (j : Nat), rfl, rfl, SqT.of (s3 _ _ hA), rfl, na, _, (j : Nat), .ref n2, rfl, rfl, SqL.of (s3 _ _ f2), atI_nat (get_ref h2), (show 2 ≤ sizeLine by decide), fun L1 nL1 => ?_⟩
    have s4 := Same.trans s3 (Same.new (o := .lst [.ref n1, .ref n2]) nL1)
    refine ⟨L0, L1, _, _, rfl, rfl, Same.new nL1 _ _ (Same.new nT _ _ upd_same), upd_same, (show 3 ≤ sizeLine by decide), fun L2 nL2 => ?_⟩
    have s5 := Same.trans s4 (Same.new (o := .lst ([.ref q0] ++ [.ref n1, .ref n2])) nL2)
    have q0' : TupN _ q0 (Vbenah.W "under") := Same.new (o := .lst ([.ref q0] ++ [.ref n1, .ref n2])) nL2 _ _ (Same.new (o := .lst [.ref n1, .ref n2]) nL1 _ _ (Same.new (o := .tup [.int 0, .int 1]) nT _ _ (Same.new (o := .lst [.ref q0]) n0 _ _ (by rw [← wb1]; exact e1))))
    exact ⟨L2, [q0, n1, n2], actWs f (.under i j), rfl, upd_same, .cons (Or.inr q0') (.cons (Or.inr (s5 _ _ h1')) (.cons (Or.inr (s5 _ _ h2')) .nil)), (fun z => by cases z), (show 3 ≤ 100 by decide), (fun w hw => by
      rcases List.mem_cons.mp hw with e | hw
      · rw [e]; exact wlen _ (by simp)
      · rcases List.mem_cons.mp hw with e | hw
        · rw [e]; exact t13 (nlen i)
        · rw [List.mem_singleton.mp hw]; exact t13 (nlen j)), fun H' q s hq e => k H' q (Same.trans s5 s) (s5.free hq) e⟩
  | apart i j =>
    obtain ⟨n1, h1, h1'⟩ := paired_get f3 (name_at (hB.ap i j hy).1)
    obtain ⟨n2, h2, h2'⟩ := paired_get f3 (name_at (hB.ap i j hy).2)
    refine ⟨_, rfl, b, _, 0, .int 1, rfl, rfl, SqT.of hA, rfl, ?_⟩
    refine ⟨_, rfl, _, _, 1, .str "apart", rfl, rfl, aw _, rfl, _, rfl, by decide, fun H1 q0 s1 e1 => ⟨(show 1 ≤ sizeLine by decide), fun L0 n0 => ?_⟩⟩
    have s2 := Same.trans s1 (Same.new (o := .lst [.ref q0]) n0)
    refine ⟨_, rfl, (show 2 ≤ sizeLine by decide), fun T nT => ⟨T, _, rfl, Or.inr (SqT.of upd_same), rfl, rfl, _, rfl, if_t rfl ?_⟩⟩
    have s3 := Same.trans s2 (Same.new (o := .tup [.int 0, .int 1]) nT)
    refine ⟨_, rfl, _, rfl, a, _, dx, _, _, rfl, s3 _ _ f1, k_File E, n_File_names E, rfl, _, rfl, b, _, 1, .int (i : Nat), rfl, rfl, SqT.of (s3 _ _ hA), rfl, na, _, (i : Nat), .ref n1, rfl, rfl, SqL.of (s3 _ _ f2), atI_nat (get_ref h1), _, rfl, a, _, dx, _, _, rfl, s3 _ _ f1, k_File E, n_File_names E, rfl, _, rfl, b, _, 2, .int (j : Nat), rfl, rfl, SqT.of (s3 _ _ hA), rfl, na, _, (j : Nat), .ref n2, rfl, rfl, SqL.of (s3 _ _ f2), atI_nat (get_ref h2), (show 2 ≤ sizeLine by decide), fun L1 nL1 => ?_⟩
    have s4 := Same.trans s3 (Same.new (o := .lst [.ref n1, .ref n2]) nL1)
    refine ⟨L0, L1, _, _, rfl, rfl, Same.new nL1 _ _ (Same.new nT _ _ upd_same), upd_same, (show 3 ≤ sizeLine by decide), fun L2 nL2 => ?_⟩
    have s5 := Same.trans s4 (Same.new (o := .lst ([.ref q0] ++ [.ref n1, .ref n2])) nL2)
    have q0' : TupN _ q0 (Vbenah.W "apart") := Same.new (o := .lst ([.ref q0] ++ [.ref n1, .ref n2])) nL2 _ _ (Same.new (o := .lst [.ref n1, .ref n2]) nL1 _ _ (Same.new (o := .tup [.int 0, .int 1]) nT _ _ (Same.new (o := .lst [.ref q0]) n0 _ _ (by rw [← wb2]; exact e1))))
    exact ⟨L2, [q0, n1, n2], actWs f (.apart i j), rfl, upd_same, .cons (Or.inr q0') (.cons (Or.inr (s5 _ _ h1')) (.cons (Or.inr (s5 _ _ h2')) .nil)), (fun z => by cases z), (show 3 ≤ 100 by decide), (fun w hw => by
      rcases List.mem_cons.mp hw with e | hw
      · rw [e]; exact wlen _ (by simp)
      · rcases List.mem_cons.mp hw with e | hw
        · rw [e]; exact t13 (nlen i)
        · rw [List.mem_singleton.mp hw]; exact t13 (nlen j)), fun H' q s hq e => k H' q (Same.trans s5 s) (s5.free hq) e⟩
  | card n ws =>
    obtain ⟨pn, pw_, g1, g2, g3⟩ := hA
    refine ⟨_, rfl, b, _, 0, .int 2, rfl, rfl, SqT.of g1, rfl, ?_⟩
    refine ⟨_, rfl, _, _, 2, .str "card", rfl, rfl, aw _, rfl, _, rfl, by decide, fun H1 q0 s1 e1 => ⟨(show 1 ≤ sizeLine by decide), fun L0 n0 => ?_⟩⟩
    have s2 := Same.trans s1 (Same.new (o := .lst [.ref q0]) n0)
    refine ⟨_, rfl, (show 2 ≤ sizeLine by decide), fun T nT => ⟨T, _, rfl, Or.inr (SqT.of upd_same), rfl, rfl, _, rfl, if_f rfl ?_⟩⟩
    have s3 := Same.trans s2 (Same.new (o := .tup [.int 0, .int 1]) nT)
    have q3 : TupN _ q0 (Vbenah.W "card") := Same.new (o := .tup [.int 0, .int 1]) nT _ _ (Same.new (o := .lst [.ref q0]) n0 _ _ (by rw [← wb3]; exact e1))
    have L03 := Same.new (o := .tup [.int 0, .int 1]) nT _ _ (upd_same (H := H1) (a := L0) (o := .lst [.ref q0]))
    generalize upd (upd H1 L0 (.lst [.ref q0])) T (.tup [.int 0, .int 1]) = H3 at *
    refine ⟨_, rfl, rfl, _, rfl, if_t rfl ?_⟩
    refine ⟨_, rfl, _, rfl, b, _, 1, .ref pn, rfl, rfl, SqT.of (s3 _ _ g1), rfl, (show 1 ≤ sizeLine by decide), fun L1 nL1 => ⟨L0, L1, _, _, rfl, rfl, Same.new nL1 _ _ L03, upd_same, (show 2 ≤ sizeLine by decide), fun L2 nL2 => ?_⟩⟩
    have s4 := Same.trans (Same.new (o := .lst [.ref pn]) nL1) (Same.new (o := .lst ([.ref q0] ++ [.ref pn])) nL2)
    have L24 := upd_same (H := upd H3 L1 (.lst [.ref pn])) (a := L2) (o := .lst ([.ref q0] ++ [.ref pn]))
    generalize upd (upd H3 L1 (.lst [.ref pn])) L2 (.lst ([.ref q0] ++ [.ref pn])) = H4 at *
    have s04 := Same.trans s3 s4
    refine ⟨_, rfl, b, _, 2, .ref pw_, rfl, rfl, SqT.of (s04 _ _ g1), rfl, pw_, rfl, ⟨_, SqL.of (s04 _ _ g3)⟩, fun D hD => ?_⟩
    have hwl := hwf.1
    refine lc_it (walk_nums (l := ws)) (CL H4 D (isR fun B b x => TupN B b x) ws fun w => some (Vbenah.nameOf f w)) (CL.start hD) (fun i H5 hi p => SqL.of (p.same _ _ (s04 _ _ g3))) (fun i v H5 H6 hi p yy => ?_) fun H5 p => ?_
    · obtain ⟨rfl, w, rfl, hx⟩ := yy
      obtain ⟨n1, h1, h1'⟩ := paired_get f3 (name_at (hwf.2 w (mem_of_get hx)))
      have s6 := Same.trans s04 p.same
      exact ⟨rfl, yes_ ⟨_, rfl, a, _, dx, _, _, rfl, s6 _ _ f1, k_File E, n_File_names E, rfl, _, rfl, na, _, (w : Nat), .ref n1, rfl, rfl, SqL.of (s6 _ _ f2), atI_nat (get_ref h1), CL.put p (Same.refl _) hx rfl (by omega) (isR_mono fun B B' b y s q => s _ _ q) fun B hB' => ⟨n1, rfl, hB' _ _ (fun z => by have := s04 _ _ h1'; rw [z, hD] at this; cases this) (s6 _ _ h1')⟩⟩⟩
    · obtain ⟨B, vs, r1, r2, r3, r4, r5⟩ := p.fin
      rw [filterMap_some'] at r5
      obtain ⟨bs, rfl, r6⟩ := paired_isR r5
      have s5 := Same.trans r1 r2
      have lb := paired_len r6
      rw [List.length_map] at lb
      refine ⟨L2, D, _, _, rfl, rfl, s5 _ _ L24, r4, ?_, fun L5 nL5 => ?_⟩
      · rw [List.length_map, lb]
        exact sz_le (by simp; omega)
      have s6 := Same.new (o := .lst (([.ref q0] ++ [.ref pn]) ++ bs.map V.ref)) nL5
      have s06 := Same.trans s04 (Same.trans s5 s6)
      refine ⟨L5, q0 :: pn :: bs, actWs f (.card n ws), rfl, upd_same, .cons (Or.inr (s6 _ _ (s5 _ _ (s4 _ _ q3)))) (.cons (Or.inr (s06 _ _ g2)) (paired_same (fun b x q => Or.inr (s6 _ _ (r2 _ _ q))) r6)), (fun z => by cases z), ?_, fun w hw => ?_, fun H' q s hq e => k H' q (Same.trans s06 s) (s06.free hq) e⟩
      · simp [actWs]
        omega
      · rcases List.mem_cons.mp hw with e | hw
        · rw [e]; exact wlen _ (by simp)
        · rcases List.mem_cons.mp hw with e | hw
          · rw [e]; exact t13 (hB.an _ hy n rfl)
          · obtain ⟨v, _, rfl⟩ := List.mem_map.mp hw
            exact t13 (nlen v)
  | add n w =>
    obtain ⟨pn, g1, g2⟩ := hA
    obtain ⟨n1, h1, h1'⟩ := paired_get f3 (name_at hwf)
    refine ⟨_, rfl, b, _, 0, .int 3, rfl, rfl, SqT.of g1, rfl, ?_⟩
    refine ⟨_, rfl, _, _, 3, .str "add", rfl, rfl, aw _, rfl, _, rfl, by decide, fun H1 q0 s1 e1 => ⟨(show 1 ≤ sizeLine by decide), fun L0 n0 => ?_⟩⟩
    have s2 := Same.trans s1 (Same.new (o := .lst [.ref q0]) n0)
    refine ⟨_, rfl, (show 2 ≤ sizeLine by decide), fun T nT => ⟨T, _, rfl, Or.inr (SqT.of upd_same), rfl, rfl, _, rfl, if_f rfl ?_⟩⟩
    have s3 := Same.trans s2 (Same.new (o := .tup [.int 0, .int 1]) nT)
    have q3 : TupN _ q0 (Vbenah.W "add") := Same.new (o := .tup [.int 0, .int 1]) nT _ _ (Same.new (o := .lst [.ref q0]) n0 _ _ (by rw [← wb4]; exact e1))
    have L03 := Same.new (o := .tup [.int 0, .int 1]) nT _ _ (upd_same (H := H1) (a := L0) (o := .lst [.ref q0]))
    generalize upd (upd H1 L0 (.lst [.ref q0])) T (.tup [.int 0, .int 1]) = H3 at *
    refine ⟨_, rfl, rfl, _, rfl, if_f rfl ⟨_, rfl, rfl, _, rfl, if_t rfl ?_⟩⟩
    refine ⟨_, rfl, _, rfl, b, _, 1, .ref pn, rfl, rfl, SqT.of (s3 _ _ g1), rfl, _, rfl, a, _, dx, _, _, rfl, s3 _ _ f1, k_File E, n_File_names E, rfl, _, rfl, b, _, 2, .int (w : Nat), rfl, rfl, SqT.of (s3 _ _ g1), rfl, na, _, (w : Nat), .ref n1, rfl, rfl, SqL.of (s3 _ _ f2), atI_nat (get_ref h1), (show 2 ≤ sizeLine by decide), fun L1 nL1 => ?_⟩
    refine ⟨L0, L1, _, _, rfl, rfl, Same.new nL1 _ _ L03, upd_same, (show 3 ≤ sizeLine by decide), fun L2 nL2 => ?_⟩
    have s4 := Same.trans (Same.new (o := .lst [.ref pn, .ref n1]) nL1) (Same.new (o := .lst ([.ref q0] ++ [.ref pn, .ref n1])) nL2)
    have s5 := Same.trans s3 s4
    exact ⟨L2, [q0, pn, n1], actWs f (.add n w), rfl, upd_same, .cons (Or.inr (s4 _ _ q3)) (.cons (Or.inr (s5 _ _ g2)) (.cons (Or.inr (s5 _ _ h1')) .nil)), (fun z => by cases z), (show 3 ≤ 100 by decide), (fun w' hw => by
      rcases List.mem_cons.mp hw with e | hw
      · rw [e]; exact wlen _ (by simp)
      · rcases List.mem_cons.mp hw with e | hw
        · rw [e]; exact t13 (hB.an _ hy n rfl)
        · rw [List.mem_singleton.mp hw]; exact t13 (nlen w)), fun H' q s hq e => k H' q (Same.trans s5 s) (s5.free hq) e⟩
  | grow n =>
    obtain ⟨pn, g1, g2⟩ := hA
    refine ⟨_, rfl, b, _, 0, .int 4, rfl, rfl, SqT.of g1, rfl, ?_⟩
    refine ⟨_, rfl, _, _, 4, .str "grow", rfl, rfl, aw _, rfl, _, rfl, by decide, fun H1 q0 s1 e1 => ⟨(show 1 ≤ sizeLine by decide), fun L0 n0 => ?_⟩⟩
    have s2 := Same.trans s1 (Same.new (o := .lst [.ref q0]) n0)
    refine ⟨_, rfl, (show 2 ≤ sizeLine by decide), fun T nT => ⟨T, _, rfl, Or.inr (SqT.of upd_same), rfl, rfl, _, rfl, if_f rfl ?_⟩⟩
    have s3 := Same.trans s2 (Same.new (o := .tup [.int 0, .int 1]) nT)
    have q3 : TupN _ q0 (Vbenah.W "grow") := Same.new (o := .tup [.int 0, .int 1]) nT _ _ (Same.new (o := .lst [.ref q0]) n0 _ _ (by rw [← wb5]; exact e1))
    have L03 := Same.new (o := .tup [.int 0, .int 1]) nT _ _ (upd_same (H := H1) (a := L0) (o := .lst [.ref q0]))
    generalize upd (upd H1 L0 (.lst [.ref q0])) T (.tup [.int 0, .int 1]) = H3 at *
    refine ⟨_, rfl, rfl, _, rfl, if_f rfl ⟨_, rfl, rfl, _, rfl, if_f rfl ⟨_, rfl, rfl, _, rfl, if_t rfl ?_⟩⟩⟩
    refine ⟨_, rfl, _, rfl, b, _, 1, .ref pn, rfl, rfl, SqT.of (s3 _ _ g1), rfl, (show 1 ≤ sizeLine by decide), fun L1 nL1 => ?_⟩
    refine ⟨L0, L1, _, _, rfl, rfl, Same.new nL1 _ _ L03, upd_same, (show 2 ≤ sizeLine by decide), fun L2 nL2 => ?_⟩
    have s4 := Same.trans (Same.new (o := .lst [.ref pn]) nL1) (Same.new (o := .lst ([.ref q0] ++ [.ref pn])) nL2)
    have s5 := Same.trans s3 s4
    exact ⟨L2, [q0, pn], actWs f (.grow n), rfl, upd_same, .cons (Or.inr (s4 _ _ q3)) (.cons (Or.inr (s5 _ _ g2)) .nil), (fun z => by cases z), (show 2 ≤ 100 by decide), (fun w' hw => by
      rcases List.mem_cons.mp hw with e | hw
      · rw [e]; exact wlen _ (by simp)
      · rw [List.mem_singleton.mp hw]; exact t13 (hB.an _ hy n rfl)), fun H' q s hq e => k H' q (Same.trans s5 s) (s5.free hq) e⟩
  | notch n h =>
    obtain ⟨pn, g1, g2⟩ := hA
    have hho := hB.nv.ho
    have hh16 : h ≤ 16 := by
      have : h < f.holes := hwf
      omega
    refine ⟨_, rfl, b, _, 0, .int 5, rfl, rfl, SqT.of g1, rfl, ?_⟩
    refine ⟨_, rfl, _, _, 5, .str "notch", rfl, rfl, aw _, rfl, _, rfl, by decide, fun H1 q0 s1 e1 => ⟨(show 1 ≤ sizeLine by decide), fun L0 n0 => ?_⟩⟩
    have s2 := Same.trans s1 (Same.new (o := .lst [.ref q0]) n0)
    refine ⟨_, rfl, (show 2 ≤ sizeLine by decide), fun T nT => ⟨T, _, rfl, Or.inr (SqT.of upd_same), rfl, rfl, _, rfl, if_f rfl ?_⟩⟩
    have s3 := Same.trans s2 (Same.new (o := .tup [.int 0, .int 1]) nT)
    have q3 : TupN _ q0 (Vbenah.W "notch") := Same.new (o := .tup [.int 0, .int 1]) nT _ _ (Same.new (o := .lst [.ref q0]) n0 _ _ (by rw [← wb6]; exact e1))
    have L03 := Same.new (o := .tup [.int 0, .int 1]) nT _ _ (upd_same (H := H1) (a := L0) (o := .lst [.ref q0]))
    generalize upd (upd H1 L0 (.lst [.ref q0])) T (.tup [.int 0, .int 1]) = H3 at *
    refine ⟨_, rfl, rfl, _, rfl, if_f rfl ⟨_, rfl, rfl, _, rfl, if_f rfl ⟨_, rfl, rfl, _, rfl, if_f rfl ?_⟩⟩⟩
    refine ⟨_, rfl, _, rfl, b, _, 1, .ref pn, rfl, rfl, SqT.of (s3 _ _ g1), rfl, _, rfl, b, _, 2, .int (h : Nat), rfl, rfl, SqT.of (s3 _ _ g1), rfl, h, rfl, hh16, fun H4 d s34 nd ed => ⟨(show 2 ≤ sizeLine by decide), fun L1 nL1 => ?_⟩⟩
    refine ⟨L0, L1, _, _, rfl, rfl, Same.new nL1 _ _ (s34 _ _ L03), upd_same, (show 3 ≤ sizeLine by decide), fun L2 nL2 => ?_⟩
    have s4 := Same.trans (Same.new (o := .lst [.ref pn, .ref d]) nL1) (Same.new (o := .lst ([.ref q0] ++ [.ref pn, .ref d])) nL2)
    have s5 := Same.trans s3 (Same.trans s34 s4)
    exact ⟨L2, [q0, pn, d], actWs f (.notch n h), rfl, upd_same, .cons (Or.inr (s4 _ _ (s34 _ _ q3))) (.cons (Or.inr (s5 _ _ g2)) (.cons (Or.inl (s4 _ _ ed)) .nil)), (fun z => by cases z), (show 3 ≤ 100 by decide), (fun w' hw => by
      rcases List.mem_cons.mp hw with e | hw
      · rw [e]; exact wlen _ (by simp)
      · rcases List.mem_cons.mp hw with e | hw
        · rw [e]; exact t13 (hB.an _ hy n rfl)
        · rw [List.mem_singleton.mp hw]; exact Nat.le_trans (num_len hh16) (by decide)), fun H' q s hq e => k H' q (Same.trans s5 s) (s5.free hq) e⟩
def ntext (f : File) (xs : List NAct) : List Nat := VbenCore.between [10] (VbenCore.between [32] [Vbenah.W "holes", Vbenah.num f.holes] :: (f.words.map (fun x => VbenCore.between [32] (Vbenah.W "word" :: x.1 :: (Vbenah.holesOf f.holes x.2).map Vbenah.num)) ++ xs.map fun y => VbenCore.between [32] (actWs f y)))
def sp_text_of (K : PySem.W.Frag) : Sp := fun vs H Q _ => ∃ (a : Addr) (f : File) (xs : List NAct), vs = [.ref a] ∧ FileAt K H a f xs ∧ FB f xs ∧
  ∀ H' q, Same H H' → LstN H' q (ntext f xs) → (ntext f xs).length ≤ 100000 → Q (.ref q) H'
theorem len_text_of (K : PySem.W.Frag) : ∀ vs H Q E, sp_text_of K vs H Q E → vs.length = 1 := fun _ _ _ _ ⟨_, _, _, h, _⟩ => by rw [h]; rfl
def wlin (f : File) (x : List Nat × Nat) : List Nat := VbenCore.between [32] (Vbenah.W "word" :: x.1 :: (Vbenah.holesOf f.holes x.2).map Vbenah.num)
theorem wb7 : ((("holes" : Str)).cps.toList.map fun c => c) = Vbenah.W "holes" := by decide +kernel
theorem wb8 : ((("word" : Str)).cps.toList.map fun c => c) = Vbenah.W "word" := by decide +kernel
theorem wl78 : (Vbenah.W "holes").length ≤ 12 ∧ (Vbenah.W "word").length ≤ 12 := by decide +kernel
theorem nums_len {f : File} (h : f.holes ≤ 16) (m : Nat) : ∀ w ∈ (Vbenah.holesOf f.holes m).map Vbenah.num, w.length ≤ 12 := fun w hw => by
  obtain ⟨x, hx, rfl⟩ := List.mem_map.mp hw
  have := (mem_holes.mp hx).1
  exact Nat.le_trans (num_len (by omega)) (by decide)
theorem wlin_ws {f : File} {xs : List NAct} (h : FB f xs) {x : List Nat × Nat} (hx : x ∈ f.words) : (∀ w ∈ Vbenah.W "word" :: x.1 :: (Vbenah.holesOf f.holes x.2).map Vbenah.num, w.length ≤ 12) ∧ (Vbenah.W "word" :: x.1 :: (Vbenah.holesOf f.holes x.2).map Vbenah.num).length ≤ 18 := by
  have hh := holes_len f.holes x.2
  have := h.nv.ho
  refine ⟨fun w hw => ?_, by simp; omega⟩
  rcases List.mem_cons.mp hw with e | hw
  · rw [e]; exact wl78.2
  · rcases List.mem_cons.mp hw with e | hw
    · rw [e]; exact h.nl x hx
    · exact nums_len h.nv.ho _ w hw
theorem wlin_len {f : File} {xs : List NAct} (h : FB f xs) {x : List Nat × Nat} (hx : x ∈ f.words) : (wlin f x).length ≤ 300 := by
  obtain ⟨h1, h2⟩ := wlin_ws h hx
  have := between_len [32] 12 _ h1
  have : (wlin f x).length ≤ _ := this
  have h3 := Nat.mul_le_mul_right (12 + ([32] : List Nat).length) h2
  exact Nat.le_trans this (Nat.le_trans h3 (by decide))
theorem wact_ws {f : File} {xs : List NAct} (h : FB f xs) {y : NAct} (hy : y ∈ xs) : (∀ w ∈ actWs f y, w.length ≤ 12) ∧ (actWs f y).length ≤ 18 := by
  have nl := fun w => name_len h (w := w)
  have w6 : ∀ w ∈ [Vbenah.W "under", Vbenah.W "apart", Vbenah.W "card", Vbenah.W "add", Vbenah.W "grow", Vbenah.W "notch"], w.length ≤ 12 := by decide +kernel
  have hwf := h.nv.wf y hy
  have hho := h.nv.ho
  cases y with
  | under a b =>
    refine ⟨fun w hw => ?_, (show 3 ≤ 18 by decide)⟩
    simp only [actWs, List.mem_cons, List.not_mem_nil, or_false] at hw
    rcases hw with e | e | e <;> rw [e]
    · exact w6 _ (by simp)
    · exact nl a
    · exact nl b
  | apart a b =>
    refine ⟨fun w hw => ?_, (show 3 ≤ 18 by decide)⟩
    simp only [actWs, List.mem_cons, List.not_mem_nil, or_false] at hw
    rcases hw with e | e | e <;> rw [e]
    · exact w6 _ (by simp)
    · exact nl a
    · exact nl b
  | card n ws =>
    refine ⟨fun w hw => ?_, ?_⟩
    · rcases List.mem_cons.mp hw with e | hw
      · rw [e]; exact w6 _ (by simp)
      · rcases List.mem_cons.mp hw with e | hw
        · rw [e]; exact h.an _ hy n rfl
        · obtain ⟨v, _, rfl⟩ := List.mem_map.mp hw
          exact nl v
    · have := hwf.1
      simp [actWs]
      omega
  | add n w =>
    refine ⟨fun v hw => ?_, (show 3 ≤ 18 by decide)⟩
    simp only [actWs, List.mem_cons, List.not_mem_nil, or_false] at hw
    rcases hw with e | e | e <;> rw [e]
    · exact w6 _ (by simp)
    · exact h.an _ hy n rfl
    · exact nl w
  | grow n =>
    refine ⟨fun v hw => ?_, (show 2 ≤ 18 by decide)⟩
    simp only [actWs, List.mem_cons, List.not_mem_nil, or_false] at hw
    rcases hw with e | e <;> rw [e]
    · exact w6 _ (by simp)
    · exact h.an _ hy n rfl
  | notch n x =>
    refine ⟨fun v hw => ?_, (show 3 ≤ 18 by decide)⟩
    simp only [actWs, List.mem_cons, List.not_mem_nil, or_false] at hw
    rcases hw with e | e | e <;> rw [e]
    · exact w6 _ (by simp)
    · exact h.an _ hy n rfl
    · have : x < f.holes := hwf
      exact Nat.le_trans (num_len (by omega)) (by decide)
theorem wact_len {f : File} {xs : List NAct} (h : FB f xs) {y : NAct} (hy : y ∈ xs) : (VbenCore.between [32] (actWs f y)).length ≤ 300 := by
  obtain ⟨h1, h2⟩ := wact_ws h hy
  have := between_len [32] 12 _ h1
  have h3 := Nat.mul_le_mul_right (12 + ([32] : List Nat).length) h2
  exact Nat.le_trans this (Nat.le_trans h3 (by decide))
theorem walk_zipR {K : PySem.W.Frag} {a b : Addr} {α β : Type} {F : Addr → α → Prop} {G : Addr → β → Prop} {as bs : List Addr} {xs : List α} {ys : List β} (p : Paired F as xs) (q : Paired G bs ys) (e : xs.length = ys.length) :
    Walk (Itz K a b) xs.length (fun H => SqL K H a (as.map V.ref) ∧ SqL K H b (bs.map V.ref)) (fun i H v H' => ∃ T c d x y, v = .ref T ∧ H T = none ∧ H' = upd H T (.tup [.ref c, .ref d]) ∧ xs[i]? = some x ∧ ys[i]? = some y ∧ F c x ∧ G d y) := by
  have e1 := paired_len p
  have e2 := paired_len q
  refine Walk.mono (walk_zip (n := xs.length) (xs := as.map V.ref) (ys := bs.map V.ref) (by rw [List.length_map, List.length_map]; omega)) (fun H h => h) fun i H v H' hi h y => ?_
  obtain ⟨T, v1, v2, g1, g2, g3, g4, g5⟩ := y
  obtain ⟨c, hc, rfl⟩ := nth_map_ref g4
  obtain ⟨d, hd, rfl⟩ := nth_map_ref g5
  obtain ⟨x, hx, fx⟩ := paired_getL p hc
  obtain ⟨y, hy, gy⟩ := paired_getL q hd
  exact ⟨T, c, d, x, y, g1, g2, g3, hx, hy, fx, gy⟩
theorem lns_len {l : List (List Nat)} (h : ∀ w ∈ l, w.length ≤ 300) (hl : l.length ≤ 110) : (VbenCore.between [10] l).length ≤ 40000 := by
  have := between_len [10] 300 l h
  have h3 := Nat.mul_le_mul_right (300 + ([10] : List Nat).length) hl
  exact Nat.le_trans this (Nat.le_trans h3 (by decide))
theorem sc_text_of : FnScope (["file", "found", "name", "marks", "hole", "act"] : List Str) ["file"] (defScope s_text_of) := C8.fnScope_by (by decide +kernel)
theorem c_text_of (E : Env P w K mg base) : Cal P w K mg base CX0 4 "text_of" (sp_text_of K) := by
  have sc := sc_text_of
  refine mkCal (st := s_text_of) (E.top.d.def_ 25 (d := d_text_of) rfl) (E.glo 25) sc (fun _ _ _ _ _ _ us hl => match us, hl with | [_], _ => rfl) (len_text_of K) (fun cdv A outer s H vs Q X hr h => ⟨_, PSs.nox ((pss_cons (ps_set (i := 1) sc.nd rfl (Or.inl rfl) (pe_c (c_line_of E) hr (by decide) rfl pass0 (pa_cons (pe_lst (pa_cons (pe_c (c_bytes_of E) hr (by decide) rfl pass0 (pa_cons pe_str pa_nil)) (pa_cons (pe_c (c_digits E) hr (by decide) rfl pass0 (pa_cons (peF (K := K) (pv 0) rfl) pa_nil)) pa_nil))) pa_nil)))
    (pss_cons (ps_for PassesOwn.never rfl (pi_zip (by rfl) (fr_zip E) (pa_cons (peF (K := K) (pv 0) rfl) (pa_cons (peF (K := K) (pv 0) rfl) pa_nil))) (pg_tup rfl (pgs_cons (pg_name (i := 2) sc.nd rfl (Or.inl rfl)) (pgs_cons (pg_name (i := 3) sc.nd rfl (Or.inl rfl)) pgs_nil)))
    (pss_one (ps_expr (pe_bm PySem.F.plainAttrs_list PySem.F.slot_list_extend PySem.F.type_list_extend mt_extend (pv 1) (pa_cons (pe_op op_cat (pe_lst (pa_cons (C8.pe_gc rfl (g_NEW_LINE_files E)) pa_nil)) (pe_c (c_line_of E) hr (by decide) rfl pass0 (pa_cons (pe_op op_cat (pe_lst (pa_cons (pe_c (c_bytes_of E) hr (by decide) rfl pass0 (pa_cons pe_str pa_nil)) (pa_cons (pv 2) pa_nil))) (pe_lc (own := [("hole", 4)]) (g := (gName 4)) rfl sc.nd (pi_list (pv 3)) (blkOk_by (own := [("hole", 4)]) (N := ["file", "found", "name", "marks", "hole", "act"]) (sc := defScope s_text_of) (by decide +kernel)) (fun _ _ _ _ _ => pg_name (i := 4) sc.nd rfl (Or.inl rfl)) (fun _ _ _ _ _ => pts_nil) (fun _ _ _ _ _ => (pe_c (c_digits E) hr (by decide) rfl pass0 (pa_cons (pv 4) pa_nil))))) pa_nil))) pa_nil)))))
    (pss_cons (ps_for PassesOwn.never rfl (pi_list (peF (K := K) (pv 0) rfl)) (pg_name (i := 5) sc.nd rfl (Or.inl rfl))
    (pss_one (ps_expr (pe_bm PySem.F.plainAttrs_list PySem.F.slot_list_extend PySem.F.type_list_extend mt_extend (pv 1) (pa_cons (pe_op op_cat (pe_lst (pa_cons (C8.pe_gc rfl (g_NEW_LINE_files E)) pa_nil)) (pe_c (c_act_line E) hr (by decide) rfl pass0 (pa_cons (pv 0) (pa_cons (pv 5) pa_nil)))) pa_nil)))))
    (pss_one (ps_ret (pv 1))))))), ?_⟩)
  obtain ⟨a, f, xs, rfl, hF, hB, k⟩ := h
  have hho := hB.nv.ho
  have hn := hB.nv.hn
  have hln := hB.nv.ln
  have hF0 := hF
  obtain ⟨dx, na, ma, al, f1, ⟨ns, f2, f3⟩, ⟨ms, f4, f5⟩, ⟨as, f6, f7⟩⟩ := hF
  refine ⟨("holes" : Str), rfl, by decide, fun H1 q0 s1 e1 => ⟨_, rfl, a, _, dx, _, _, rfl, s1 _ _ f1, k_File E, n_File_holes E, rfl, f.holes, rfl, hho, fun H2 d s2 nd ed => ⟨(show 2 ≤ sizeLine by decide), fun L nL => ⟨L, [q0, d], [Vbenah.W "holes", Vbenah.num f.holes], rfl, upd_same, .cons (Or.inr (Same.new nL _ _ (s2 _ _ (by rw [← wb7]; exact e1)))) (.cons (Or.inl (Same.new nL _ _ ed)) .nil), (fun z => by cases z), (show 2 ≤ 100 by decide), ?_, fun H3 fl s3 nfl efl => ?_⟩⟩⟩⟩
  · intro w hw
    rcases List.mem_cons.mp hw with e | hw
    · rw [e]; exact Nat.le_trans wl78.1 (by decide)
    · rw [List.mem_singleton.mp hw]; exact Nat.le_trans (num_len hho) (by decide)
  have s02 := Same.trans s1 (Same.trans s2 (Same.new (o := .lst [.ref q0, .ref d]) nL))
  have nflH : H fl = none := s02.free nfl
  have s03 := Same.trans s02 s3
  have hd12 : (VbenCore.between [32] [Vbenah.W "holes", Vbenah.num f.holes]).length ≤ 300 := by
    have := between_len [32] 12 [Vbenah.W "holes", Vbenah.num f.holes] fun w hw => by
      rcases List.mem_cons.mp hw with e | hw
      · rw [e]; exact wl78.1
      · rw [List.mem_singleton.mp hw]; exact Nat.le_trans (num_len hho) (by decide)
    exact Nat.le_trans this (show 2 * (12 + 1) ≤ 300 by decide)
  generalize hhd : VbenCore.between [32] [Vbenah.W "holes", Vbenah.num f.holes] = hd at *
  refine ⟨_, rfl, a, _, dx, _, _, rfl, s03 _ _ f1, k_File E, n_File_names E, rfl, _, rfl, a, _, dx, _, _, rfl, s03 _ _ f1, k_File E, n_File_marks E, rfl, na, ma, _, _, rfl, SqL.of (s03 _ _ f2), SqL.of (s03 _ _ f4), ?_⟩
  have elen : (f.words.map (·.1)).length = (mks f).length := by rw [List.length_map, mks_len]
  have hwl : (f.words.map (·.1)).length = f.words.length := List.length_map _
  refine for_it (walk_zipR f3 f5 elen) (fun i σ H' => ∃ x2 x3 x4 x5, σ = [some (.ref a), some (.ref fl), x2, x3, x4, x5] ∧ Same H H' ∧ LstN H' fl (VbenCore.between [10] (hd :: (f.words.take i).map (wlin f)))) ⟨_, _, _, _, rfl, s03, efl⟩ (fun i σ H' hi ⟨_, _, _, _, _, s, _⟩ => ⟨SqL.of (s _ _ f2), SqL.of (s _ _ f4)⟩) (fun i v σ H4 H5 hi ⟨x2, x3, x4, x5, e, s, el⟩ yy => ?_) fun σ H4 ⟨x2, x3, x4, x5, e, s, el⟩ => ?_
  · subst e
    obtain ⟨T, c, m, nm, mm, rfl, nT, rfl, g1, g2, g3, g4⟩ := yy
    have hi2 : i < f.words.length := by rw [← hwl]; exact hi
    have hx : f.words[i]? = some f.words[i] := List.getElem?_eq_getElem hi2
    have hxm := mem_of_get hx
    generalize f.words[i] = x at *
    have enm : nm = x.1 := by
      rw [List.getElem?_map, hx] at g1
      exact (Option.some.inj g1).symm
    have emm : mm = Vbenah.holesOf f.holes x.2 := by
      unfold mks at g2
      rw [List.getElem?_map, hx] at g2
      exact (Option.some.inj g2).symm
    subst enm
    subst emm
    have sT := Same.trans s (Same.new (o := .tup [.ref c, .ref m]) nT)
    have el5 := Same.new (o := .tup [.ref c, .ref m]) nT _ _ el
    refine ⟨T, _, rfl, SqT.of upd_same, rfl, _, _, rfl, _, _, rfl, rfl, ?_⟩
    generalize upd H4 T (.tup [.ref c, .ref m]) = H5 at *
    refine ⟨_, rfl, ty_lst el5, (show 1 ≤ sizeLine by decide), fun L1 n1 => ⟨("word" : Str), rfl, by decide, fun H6 q6 s6 e6 => ⟨_, rfl, (show 2 ≤ sizeLine by decide), fun L2 n2 => ?_⟩⟩⟩
    have L16 := s6 _ _ (upd_same (H := H5) (a := L1) (o := .lst [.int 10]))
    have s57 := Same.trans (Same.new (o := .lst [.int 10]) n1) (Same.trans s6 (Same.new (o := .lst [.ref q6, .ref c]) n2))
    have L17 := Same.new (o := .lst [.ref q6, .ref c]) n2 _ _ L16
    have q67 : TupN _ q6 (Vbenah.W "word") := Same.new (o := .lst [.ref q6, .ref c]) n2 _ _ (by rw [← wb8]; exact e6)
    have L27 := upd_same (H := H6) (a := L2) (o := .lst [.ref q6, .ref c])
    generalize upd H6 L2 (.lst [.ref q6, .ref c]) = H7 at *
    have s07 := Same.trans sT s57
    refine ⟨_, rfl, m, rfl, ⟨_, SqL.of (s07 _ _ g4)⟩, fun D hD => ?_⟩
    have hhl := holes_len f.holes x.2
    refine lc_it (walk_nums (l := Vbenah.holesOf f.holes x.2)) (CL H7 D (isR fun B b y => LstN B b y ∧ b ≠ D) (Vbenah.holesOf f.holes x.2) fun h => some (Vbenah.num h)) (CL.start hD) (fun i H8 hi p => SqL.of (p.same _ _ (s07 _ _ g4))) (fun j v H8 H9 hj p yy => ?_) fun H8 p => ?_
    · obtain ⟨rfl, h, rfl, hh⟩ := yy
      have hlt := (mem_holes.mp (mem_of_get hh)).1
      obtain ⟨vs, edd⟩ := p.dd
      refine ⟨rfl, yes_ ⟨_, rfl, h, rfl, by omega, fun H10 r s10 nr er => ?_⟩⟩
      have hrD : r ≠ D := fun z => by rw [z, edd] at nr; cases nr
      exact CL.put p s10 hh rfl (by omega) (isR_mono fun B B' b y s q => ⟨s _ _ q.1, q.2⟩) fun B hB' => ⟨r, rfl, hB' _ _ hrD er, hrD⟩
    · obtain ⟨B, vs, r1, r2, r3, r4, r5⟩ := p.fin
      rw [filterMap_some'] at r5
      obtain ⟨bs, rfl, r6⟩ := paired_isR r5
      have s78 := Same.trans r1 r2
      have lb := paired_len r6
      rw [List.length_map] at lb
      refine ⟨L2, D, _, _, rfl, rfl, s78 _ _ L27, r4, ?_, fun L3 n3 => ?_⟩
      · rw [List.length_map, lb]
        exact sz_le (by simp; omega)
      have s89 := Same.new (o := .lst ([.ref q6, .ref c] ++ bs.map V.ref)) n3
      obtain ⟨wb, wc⟩ := wlin_ws hB hxm
      refine ⟨L3, q6 :: c :: bs, Vbenah.W "word" :: x.1 :: (Vbenah.holesOf f.holes x.2).map Vbenah.num, rfl, upd_same, .cons (Or.inr (s89 _ _ (s78 _ _ q67))) (.cons (Or.inr (s89 _ _ (s78 _ _ (s07 _ _ g3)))) (paired_same (fun b y q => Or.inl (s89 _ _ (r2 _ _ q.1))) r6)), (fun z => by cases z), by omega, (fun w hw => Nat.le_trans (wb w hw) (by decide)), fun H10 ln s10 nln eln => ?_⟩
      have s810 := Same.trans s89 s10
      have hwll := wlin_len hB hxm
      have ewl : VbenCore.between [32] (Vbenah.W "word" :: x.1 :: (Vbenah.holesOf f.holes x.2).map Vbenah.num) = wlin f x := rfl
      rw [ewl] at eln
      refine ⟨L1, ln, _, _, rfl, rfl, s810 _ _ (s78 _ _ L17), eln, ?_, fun L4 n4 => ?_⟩
      · rw [nV_len]
        exact sz_le (by simp; omega)
      have s510 := Same.trans s57 (Same.trans s78 s810)
      have s511 := Same.trans s510 (Same.new (o := .lst ([.int 10] ++ nV (wlin f x))) n4)
      have hacc := lns_len (l := hd :: (f.words.take i).map (wlin f)) (fun w hw => by
        rcases List.mem_cons.mp hw with e | hw
        · rw [e]; exact hd12
        · obtain ⟨z, hz, rfl⟩ := List.mem_map.mp hw
          exact wlin_len hB (List.mem_of_mem_take hz)) (by simp; omega)
      refine ⟨fl, L4, _, _, rfl, rfl, s511 _ _ el5, upd_same, ?_, ?_⟩
      · rw [nV_len, List.length_append, nV_len]
        have e1 : [V.int 10].length = 1 := rfl
        exact sz_le (by omega)
      · refine ⟨_, _, _, _, rfl, Same.put (Same.trans sT s511) nflH, ?_⟩
        rw [LstN, upd_same, List.take_succ, hx]
        show some (HO.lst (nV _ ++ (nV [10] ++ nV (wlin f x)))) = some (HO.lst (nV (VbenCore.between [10] (hd :: (f.words.take i ++ [x]).map (wlin f)))))
        rw [List.map_append, ← List.cons_append]
        show _ = some (HO.lst (nV (VbenCore.between [10] ((hd :: (f.words.take i).map (wlin f)) ++ [wlin f x]))))
        rw [between_snoc _ _ _ (by simp), nV_append, nV_append]
  · subst e
    rw [hwl, List.take_length] at el
    refine ⟨_, rfl, a, _, dx, _, _, rfl, s _ _ f1, k_File E, n_File_acts E, rfl, al, rfl, ⟨_, SqL.of (s _ _ f6)⟩, ?_⟩
    refine for_it (walk_refs f7) (fun i σ H' => ∃ x2 x3 x4 x5, σ = [some (.ref a), some (.ref fl), x2, x3, x4, x5] ∧ Same H H' ∧ LstN H' fl (VbenCore.between [10] (hd :: (f.words.map (wlin f) ++ (xs.take i).map fun y => VbenCore.between [32] (actWs f y))))) ⟨_, _, _, _, rfl, s, by simpa using el⟩ (fun i σ H' hi ⟨_, _, _, _, _, s, _⟩ => SqL.of (s _ _ f6)) (fun i v σ H5 H6 hi ⟨x2, x3, x4, x5, e, s, el⟩ yy => ?_) fun σ H5 ⟨x2, x3, x4, x5, e, s, el⟩ => ?_
    · subst e
      obtain ⟨rfl, b, y, rfl, hx, hA⟩ := yy
      have hym := mem_of_get hx
      have hi2 : i < xs.length := hi
      refine ⟨_, rfl, ty_lst el, (show 1 ≤ sizeLine by decide), fun L1 n1 => ⟨_, rfl, _, rfl, a, b, f, xs, xs, y, rfl, (hF0.same s).same (Same.new n1), hB, hym, (hA.same s).same (Same.new n1), fun H7 ln s7 nln eln => ⟨L1, ln, _, _, rfl, rfl, s7 _ _ upd_same, eln, ?_, fun L4 n4 => ?_⟩⟩⟩
      · have := wact_len hB hym
        rw [nV_len]
        exact sz_le (by simp; omega)
      have hwll := wact_len hB hym
      have s67 := Same.trans (Same.new (o := .lst [.int 10]) n1) s7
      have s68 := Same.trans s67 (Same.new (o := .lst ([.int 10] ++ nV (VbenCore.between [32] (actWs f y)))) n4)
      have hacc := lns_len (l := hd :: (f.words.map (wlin f) ++ (xs.take i).map fun y => VbenCore.between [32] (actWs f y))) (fun w hw => by
        rcases List.mem_cons.mp hw with e | hw
        · rw [e]; exact hd12
        · rcases List.mem_append.mp hw with hw | hw
          · obtain ⟨z, hz, rfl⟩ := List.mem_map.mp hw
            exact wlin_len hB hz
          · obtain ⟨z, hz, rfl⟩ := List.mem_map.mp hw
            exact wact_len hB (List.mem_of_mem_take hz)) (by simp; omega)
      refine ⟨fl, L4, _, _, rfl, rfl, s68 _ _ el, upd_same, ?_, ?_⟩
      · rw [nV_len, List.length_append, nV_len]
        have e1 : [V.int 10].length = 1 := rfl
        exact sz_le (by omega)
      · refine ⟨_, _, _, _, rfl, Same.put (Same.trans s s68) nflH, ?_⟩
        rw [LstN, upd_same, List.take_succ, hx]
        show some (HO.lst (nV _ ++ (nV [10] ++ nV (VbenCore.between [32] (actWs f y))))) = some (HO.lst (nV (VbenCore.between [10] (hd :: (f.words.map (wlin f) ++ (xs.take i ++ [y]).map fun y => VbenCore.between [32] (actWs f y))))))
        rw [show (hd :: (f.words.map (wlin f) ++ (xs.take i ++ [y]).map fun y => VbenCore.between [32] (actWs f y))) = (hd :: (f.words.map (wlin f) ++ (xs.take i).map fun y => VbenCore.between [32] (actWs f y))) ++ [VbenCore.between [32] (actWs f y)] by simp, between_snoc _ _ _ (by simp), nV_append, nV_append]
    · subst e
      rw [List.take_length] at el
      have e : ntext f xs = VbenCore.between [10] (hd :: (f.words.map (wlin f) ++ xs.map fun y => VbenCore.between [32] (actWs f y))) := by
        unfold ntext
        rw [hhd]
        rfl
      refine ⟨_, rfl, k _ fl s (by rw [e]; exact el) ?_⟩
      rw [e]
      refine Nat.le_trans (lns_len (fun w hw => ?_) (by simp; omega)) (by decide)
      rcases List.mem_cons.mp hw with e | hw
      · rw [e]; exact hd12
      · rcases List.mem_append.mp hw with hw | hw
        · obtain ⟨z, hz, rfl⟩ := List.mem_map.mp hw
          exact wlin_len hB hz
        · obtain ⟨z, hz, rfl⟩ := List.mem_map.mp hw
          exact wact_len hB hz
end
end Bw
namespace Bw
open PySem PySem.Spec PyProof.Rows L2
open Vbenah (File State Card Act)
section
variable {P : Program} {w : World} {K : PySem.W.Frag} {mg : Str → Option Value} {base : Heap}
def sp_listed (K : PySem.W.Frag) : Sp := fun vs H Q _ => ∃ (p : Addr) (l : List Nat), vs = [.ref p] ∧ LstN H p l ∧ l.length ≤ 100000 ∧
  ∀ H' q, Same H H' → H q = none → LstN H' q (l.length :: l) → Q (.ref q) H'
theorem len_listed (K : PySem.W.Frag) : ∀ vs H Q E, sp_listed K vs H Q E → vs.length = 1 := fun _ _ _ _ ⟨_, _, h, _⟩ => by rw [h]; rfl
theorem sc_listed : FnScope (["row"] : List Str) ["row"] (defScope s_listed) := C8.fnScope_by (by decide +kernel)
theorem c_listed (E : Env P w K mg base) : Cal P w K mg base CX0 1 "listed" (sp_listed K) := by
  have sc := sc_listed
  refine mkCal (st := s_listed) (E.top.d.def_ 42 (d := d_listed) rfl) (E.glo 42) sc (fun _ _ _ _ _ _ us hl => match us, hl with | [_], _ => rfl) (len_listed K) (fun cdv A outer s H vs Q X hr h => ⟨_, PSs.nox ((pss_one (ps_ret (pe_op op_cat (pe_lst (pa_cons (pe_callB (clen (K := K)) rfl (fr_len E) (by decide +kernel) (pa_cons (pv 0) pa_nil)) pa_nil)) (pe_callTy (clist (K := K)) rfl (fr_list E) (by decide +kernel) (pa_cons (pv 0) pa_nil)))))), ?_⟩)
  obtain ⟨p, l, rfl, hp, hl, k⟩ := h
  refine ⟨_, rfl, p, _, rfl, Or.inl (SqL.of hp), (show 1 ≤ sizeLine by decide), fun L1 n1 => ⟨_, rfl, p, _, rfl, Or.inl (SqL.of (Same.new n1 _ _ hp)), fun L2 n2 => ⟨L1, L2, _, _, rfl, rfl, Same.new n2 _ _ upd_same, upd_same, ?_, fun L3 n3 => ?_⟩⟩⟩
  · rw [nV_len]
    have e1 : [V.int (l.length : Nat)].length = 1 := rfl
    exact Nat.le_trans (by rw [e1]; omega : _ ≤ 100001) (by decide)
  · have s := Same.trans (Same.new (o := .lst [V.int ((nV l).length : Nat)]) n1) (Same.new (o := .lst (nV l)) n2)
    refine k _ L3 (Same.trans s (Same.new n3)) (s.free n3) ?_
    rw [LstN, upd_same, nV_len]
    rfl
def DeskV (K : PySem.W.Frag) (H : Hp) (d : Addr) (f : File) (xs : List NAct) : Prop := ∃ dx a, H d = some (.ins (He.ga K "Desk") dx [("file", .ref a)]) ∧ FileAt K H a f xs
theorem DeskV.same {K : PySem.W.Frag} {H H' : Hp} {d : Addr} {f : File} {xs : List NAct} (h : DeskV K H d f xs) (s : Same H H') : DeskV K H' d f xs := by
  obtain ⟨dx, a, h1, h2⟩ := h
  exact ⟨dx, a, s _ _ h1, h2.same s⟩
def sp_state_at (K : PySem.W.Frag) : Sp := fun vs H Q _ => ∃ (d : Addr) (f : File) (xs : List NAct) (k : Nat), vs = [.ref d, .int (k : Nat)] ∧ DeskV K H d f xs ∧ NV f xs ∧ nmays f xs ∧ k ≤ xs.length ∧
  ∀ H' a, Same H H' → SV K H' a f (nat_ f xs k) → Q (.ref a) H'
theorem len_state_at (K : PySem.W.Frag) : ∀ vs H Q E, sp_state_at K vs H Q E → vs.length = 2 := fun _ _ _ _ ⟨_, _, _, _, h, _⟩ => by rw [h]; rfl
theorem sc_state_at : FnScope (["desk", "acts"] : List Str) ["desk", "acts"] (defScope s_state_at) := C8.fnScope_by (by decide +kernel)
theorem c_state_at (E : Env P w K mg base) : Cal P w K mg base CX0 8 "state_at" (sp_state_at K) := by
  have sc := sc_state_at
  refine mkCal (st := s_state_at) (E.top.d.def_ 43 (d := d_state_at) rfl) (E.glo 43) sc (fun _ _ _ _ _ _ us hl => match us, hl with | [_, _], _ => rfl) (len_state_at K) (fun cdv A outer s H vs Q X hr h => ⟨_, PSs.nox ((pss_one (ps_ret (pe_c (c_state_behind E) hr (by decide) rfl pass0 (pa_cons (peF (K := K) (peF (K := K) (pv 0) rfl) rfl) (pa_cons (pe_slice (slL (K := K)) (peF (K := K) (peF (K := K) (pv 0) rfl) rfl) po_none (po_some (pv 1))) pa_nil)))))), ?_⟩)
  obtain ⟨d, f, xs, n, rfl, ⟨dx, a, h1, dy, na, ma, al, f1, f2, f3, ⟨as, f4, f5⟩⟩, hV, hm, hn, k⟩ := h
  have las := paired_len f5
  refine ⟨_, rfl, d, _, dx, _, _, rfl, h1, k_Desk E, n_Desk_file E, rfl, a, _, dy, _, _, rfl, f1, k_File E, n_File_marks E, rfl, _, rfl, d, _, dx, _, _, rfl, h1, k_Desk E, n_Desk_file E, rfl, a, _, dy, _, _, rfl, f1, k_File E, n_File_acts E, rfl, _, rfl, (n : Nat), rfl, al, _, rfl, SqL.of f4, fun L nL => ?_⟩
  rw [cut_take (by rw [List.length_map, las]; exact hn), ← List.map_take] at *
  have s1 := Same.new (o := .lst ((as.take n).map V.ref)) nL
  refine ⟨ma, L, f, xs.take n, rfl, f3.same s1, ⟨as.take n, upd_same, paired_take n (paired_same (fun b x q => q.same s1) f5)⟩, hV.take n, nmays_take hm n, fun H' a' s S => k _ a' (Same.trans s1 s) ?_⟩
  rw [take_len' hn, nat_take (Nat.le_refl n)] at S
  exact S.view (f3.same s1)
def sp_past_at (K : PySem.W.Frag) : Sp := fun vs H Q _ => ∃ (d : Addr) (f : File) (xs : List NAct) (k : Nat), vs = [.ref d, .int (k : Nat)] ∧ DeskV K H d f xs ∧ NV f xs ∧ nmays f xs ∧ k ≤ xs.length ∧
  ∀ H' a, Same H H' → PastV K H' a f (xs.take k) → Q (.ref a) H'
theorem len_past_at (K : PySem.W.Frag) : ∀ vs H Q E, sp_past_at K vs H Q E → vs.length = 2 := fun _ _ _ _ ⟨_, _, _, _, h, _⟩ => by rw [h]; rfl
theorem sc_past_at : FnScope (["desk", "acts"] : List Str) ["desk", "acts"] (defScope s_past_at) := C8.fnScope_by (by decide +kernel)
theorem c_past_at (E : Env P w K mg base) : Cal P w K mg base CX0 9 "past_at" (sp_past_at K) := by
  have sc := sc_past_at
  refine mkCal (st := s_past_at) (E.top.d.def_ 44 (d := d_past_at) rfl) (E.glo 44) sc (fun _ _ _ _ _ _ us hl => match us, hl with | [_, _], _ => rfl) (len_past_at K) (fun cdv A outer s H vs Q X hr h => ⟨_, PSs.nox ((pss_one (ps_ret (pe_k (c_Past_init E) hr (by decide) rfl (pa_cons (peF (K := K) (peF (K := K) (pv 0) rfl) rfl) (pa_cons (pe_slice (slL (K := K)) (peF (K := K) (peF (K := K) (pv 0) rfl) rfl) po_none (po_some (pv 1))) pa_nil)))))), ?_⟩)
  obtain ⟨d, f, xs, n, rfl, ⟨dx, a, h1, dy, na, ma, al, f1, f2, f3, ⟨as, f4, f5⟩⟩, hV, hm, hn, k⟩ := h
  have las := paired_len f5
  refine ⟨_, rfl, d, _, dx, _, _, rfl, h1, k_Desk E, n_Desk_file E, rfl, a, _, dy, _, _, rfl, f1, k_File E, n_File_marks E, rfl, _, rfl, d, _, dx, _, _, rfl, h1, k_Desk E, n_Desk_file E, rfl, a, _, dy, _, _, rfl, f1, k_File E, n_File_acts E, rfl, _, rfl, (n : Nat), rfl, al, _, rfl, SqL.of f4, fun L nL => ?_⟩
  rw [cut_take (by rw [List.length_map, las]; exact hn), ← List.map_take] at *
  have s1 := Same.new (o := .lst ((as.take n).map V.ref)) nL
  exact fun x1 d1 nx1 nd1 ne1 => ⟨x1, d1, ma, L, f, xs.take n, rfl, upd_same, (f3.same s1).same (smk nx1 nd1), ⟨as.take n, smk nx1 nd1 _ _ upd_same, paired_take n (paired_same (fun b x q => (q.same s1).same (smk nx1 nd1)) f5)⟩, hV.take n, nmays_take hm n, fun H1 b1 hP => ⟨rfl, k _ x1 (Same.trans s1 (smB nx1 nd1 b1)) hP⟩⟩
def isCd : NAct → Bool
  | .card _ _ => true
  | _ => false
def ncards (xs : List NAct) : Nat := (xs.filter isCd).length
def sp_cards_at (K : PySem.W.Frag) : Sp := fun vs H Q _ => ∃ (d : Addr) (f : File) (xs : List NAct) (k : Nat), vs = [.ref d, .int (k : Nat)] ∧ DeskV K H d f xs ∧ xs.length ≤ 90 ∧ k ≤ xs.length ∧
  ∀ H', Same H H' → Q (.int (ncards (xs.take k) : Nat)) H'
theorem len_cards_at (K : PySem.W.Frag) : ∀ vs H Q E, sp_cards_at K vs H Q E → vs.length = 2 := fun _ _ _ _ ⟨_, _, _, _, h, _⟩ => by rw [h]; rfl
theorem act_head {H : Hp} {b : Addr} {y : NAct} (h : NActAt H b y) : ∃ (m : Nat) (vs : List V), H b = some (.tup (.int (m : Nat) :: vs)) ∧ (m == 2) = isCd y := by
  cases y with
  | under _ _ => exact ⟨0, _, h, rfl⟩
  | apart _ _ => exact ⟨1, _, h, rfl⟩
  | card _ _ => obtain ⟨p, q, g, _⟩ := h; exact ⟨2, _, g, rfl⟩
  | add _ _ => obtain ⟨p, g, _⟩ := h; exact ⟨3, _, g, rfl⟩
  | grow _ => obtain ⟨p, g, _⟩ := h; exact ⟨4, _, g, rfl⟩
  | notch _ _ => obtain ⟨p, g, _⟩ := h; exact ⟨5, _, g, rfl⟩
theorem sc_cards_at : FnScope (["desk", "acts", "act"] : List Str) ["desk", "acts"] (defScope s_cards_at) := C8.fnScope_by (by decide +kernel)
theorem c_cards_at (E : Env P w K mg base) : Cal P w K mg base CX0 1 "cards_at" (sp_cards_at K) := by
  have sc := sc_cards_at
  refine mkCal (st := s_cards_at) (E.top.d.def_ 45 (d := d_cards_at) rfl) (E.glo 45) sc (fun _ _ _ _ _ _ us hl => match us, hl with | [_, _], _ => rfl) (len_cards_at K) (fun cdv A outer s H vs Q X hr h => ⟨_, PSs.nox ((pss_one (ps_ret (pe_callB (clen (K := K)) rfl (fr_len E) (by decide +kernel) (pa_cons (pe_lc (own := [("act", 2)]) (g := (gName 2)) rfl sc.nd (pi_list (pe_slice (slL (K := K)) (peF (K := K) (peF (K := K) (pv 0) rfl) rfl) po_none (po_some (pv 1)))) (blkOk_by (own := [("act", 2)]) (N := ["desk", "acts", "act"]) (sc := defScope s_cards_at) (by decide +kernel)) (fun _ _ _ _ _ => pg_name (i := 2) sc.nd rfl (Or.inl rfl)) (fun _ _ _ _ _ => (pts_one (pt_cmpR op_eq (pe_ix (ixT (K := K)) (pv 2) pe_int (fun _ _ => rfl)) (C8.pe_gc rfl (g_CARD E)) (nomark _)))) (fun _ _ _ _ _ => (pv 2))) pa_nil))))), ?_⟩)
  obtain ⟨d, f, xs, n, rfl, ⟨dx, a, h1, dy, na, ma, al, f1, f2, f3, ⟨as, f4, f5⟩⟩, hln, hn, k⟩ := h
  have las := paired_len f5
  refine ⟨_, rfl, d, _, dx, _, _, rfl, h1, k_Desk E, n_Desk_file E, rfl, a, _, dy, _, _, rfl, f1, k_File E, n_File_acts E, rfl, _, rfl, (n : Nat), rfl, al, _, rfl, SqL.of f4, fun L nL => ?_⟩
  rw [cut_take (by rw [List.length_map, las]; exact hn), ← List.map_take] at *
  have s1 := Same.new (o := .lst ((as.take n).map V.ref)) nL
  have hp := paired_take n (paired_same (fun b x (q : NActAt H b x) => q.same s1) f5)
  refine ⟨L, rfl, ⟨_, SqL.of upd_same⟩, fun D hD => ?_⟩
  refine lc_it (walk_refs hp) (CL (upd H L (.lst ((as.take n).map V.ref))) D (isR fun _ _ _ => True) (xs.take n) fun y => if isCd y = true then some y else none) (CL.start hD) (fun i H1 hi p => p.same.seq (SqL.of upd_same)) (fun i v H1 H2 hi p yy => ?_) fun H1 p => ?_
  · obtain ⟨rfl, b, y, rfl, hx, hA⟩ := yy
    obtain ⟨m, vs, e1, e2⟩ := act_head hA
    refine ⟨rfl, _, rfl, b, _, 0, .int (m : Nat), rfl, rfl, SqT.of (p.same _ _ e1), atI_nat (i := 0) rfl, rfl, _, rfl, ?_⟩
    have e3 : decide (V.int (m : Nat) = V.int 2) = isCd y := (dN m 2).trans e2
    rw [e3]
    refine ite2 (fun hc => ?_) fun hc => ?_
    · exact ⟨_, rfl, CL.put p (Same.refl _) hx (if_pos hc) (by simp; omega) (isR_mono fun _ _ _ _ _ _ => trivial) fun B _ => ⟨b, rfl, trivial⟩⟩
    · exact CL.skip p (Same.refl _) hx (if_neg hc)
  · obtain ⟨B, vs, q1, q2, q3, q4, q5⟩ := p.fin
    rw [filterMap_filter' isCd] at q5
    have lv := paired_len q5
    refine ⟨D, vs, rfl, Or.inl (SqL.of q4), ?_⟩
    rw [lv]
    exact k _ (Same.trans s1 (Same.trans q1 q2))
def refA (xs : List NAct) (n : Int) : Int := if ¬ (0 ≤ n ∧ n ≤ 80) then -3 else if (xs.length : Int) < n then -5 else 0
def sp_refused_acts (K : PySem.W.Frag) : Sp := fun vs H Q _ => ∃ (d : Addr) (f : File) (xs : List NAct) (n : Int), vs = [.ref d, .int n] ∧ DeskV K H d f xs ∧
  ∀ H', Same H H' → Q (.int (refA xs n)) H'
theorem len_refused_acts (K : PySem.W.Frag) : ∀ vs H Q E, sp_refused_acts K vs H Q E → vs.length = 2 := fun _ _ _ _ ⟨_, _, _, _, h, _⟩ => by rw [h]; rfl
theorem sc_refused_acts : FnScope (["desk", "number"] : List Str) ["desk", "number"] (defScope s_refused_acts) := C8.fnScope_by (by decide +kernel)
theorem c_refused_acts (E : Env P w K mg base) : Cal P w K mg base CX0 1 "refused_acts" (sp_refused_acts K) := by
  have sc := sc_refused_acts
  refine mkCal (st := s_refused_acts) (E.top.d.def_ 46 (d := d_refused_acts) rfl) (E.glo 46) sc (fun _ _ _ _ _ _ us hl => match us, hl with | [_, _], _ => rfl) (len_refused_acts K) (fun cdv A outer s H vs Q X hr h => ⟨_, PSs.nox ((pss_cons (ps_if (pt_not (pt_chain op_le op_le pe_int (pv 1) (C8.pe_gc rfl (g_MOST_ACTS E)))) (pss_one (ps_ret (pe_un un_neg pe_int))) pss_nil)
    (pss_cons (ps_if (pt_cmpR op_gt (pv 1) (pe_callB (clen (K := K)) rfl (fr_len E) (by decide +kernel) (pa_cons (peF (K := K) (peF (K := K) (pv 0) rfl) rfl) pa_nil)) (nomark _)) (pss_one (ps_ret (pe_un un_neg pe_int))) pss_nil)
    (pss_one (ps_ret pe_int))))), ?_⟩)
  obtain ⟨d, f, xs, n, rfl, ⟨dx, a, h1, dy, na, ma, al, f1, f2, f3, ⟨as, f4, f5⟩⟩, k⟩ := h
  have las : (as.map V.ref).length = xs.length := by rw [List.length_map, paired_len f5]
  have k := k H (Same.refl _)
  unfold refA at k
  by_cases g1 : 0 ≤ n
  · refine ⟨_, rfl, 0, n, rfl, rfl, _, rfl, if_t (decide_eq_true g1) ⟨n, 80, rfl, rfl, _, rfl, ?_⟩⟩
    by_cases g2 : n ≤ 80
    · rw [if_neg (fun z => z ⟨g1, g2⟩)] at k
      refine if_f (by rw [decide_eq_true g2]; rfl) ⟨_, rfl, _, rfl, d, _, dx, _, _, rfl, h1, k_Desk E, n_Desk_file E, rfl, a, _, dy, _, _, rfl, f1, k_File E, n_File_acts E, rfl, al, _, rfl, Or.inl (SqL.of f4), n, _, rfl, rfl, _, rfl, ?_⟩
      rw [las]
      refine ite2 (fun hc => ?_) fun hc => ?_
      · rw [if_pos (of_decide_eq_true hc)] at k
        exact ⟨5, rfl, k⟩
      · rw [if_neg fun z => hc (decide_eq_true z)] at k
        exact k
    · rw [if_pos (fun z => g2 z.2)] at k
      exact if_t (by rw [decide_eq_false g2]; rfl) ⟨3, rfl, k⟩
  · rw [if_pos (fun z => g1 z.1)] at k
    exact ⟨_, rfl, 0, n, rfl, rfl, _, rfl, if_f (decide_eq_false g1) ⟨_, rfl, if_t rfl ⟨3, rfl, k⟩⟩⟩
def refW (f : File) (n : Int) : Int := if ¬ (0 ≤ n ∧ n < 12) then -3 else if (f.words.length : Int) ≤ n then -5 else 0
def sp_refused_word (K : PySem.W.Frag) : Sp := fun vs H Q _ => ∃ (d : Addr) (f : File) (xs : List NAct) (n : Int), vs = [.ref d, .int n] ∧ DeskV K H d f xs ∧
  ∀ H', Same H H' → Q (.int (refW f n)) H'
theorem len_refused_word (K : PySem.W.Frag) : ∀ vs H Q E, sp_refused_word K vs H Q E → vs.length = 2 := fun _ _ _ _ ⟨_, _, _, _, h, _⟩ => by rw [h]; rfl
theorem sc_refused_word : FnScope (["desk", "number"] : List Str) ["desk", "number"] (defScope s_refused_word) := C8.fnScope_by (by decide +kernel)
theorem c_refused_word (E : Env P w K mg base) : Cal P w K mg base CX0 1 "refused_word" (sp_refused_word K) := by
  have sc := sc_refused_word
  refine mkCal (st := s_refused_word) (E.top.d.def_ 47 (d := d_refused_word) rfl) (E.glo 47) sc (fun _ _ _ _ _ _ us hl => match us, hl with | [_, _], _ => rfl) (len_refused_word K) (fun cdv A outer s H vs Q X hr h => ⟨_, PSs.nox ((pss_cons (ps_if (pt_not (pt_chain op_le op_lt pe_int (pv 1) (C8.pe_gc rfl (g_MOST_WORDS E)))) (pss_one (ps_ret (pe_un un_neg pe_int))) pss_nil)
    (pss_cons (ps_if (pt_cmpR op_ge (pv 1) (pe_callB (clen (K := K)) rfl (fr_len E) (by decide +kernel) (pa_cons (peF (K := K) (peF (K := K) (pv 0) rfl) rfl) pa_nil)) (nomark _)) (pss_one (ps_ret (pe_un un_neg pe_int))) pss_nil)
    (pss_one (ps_ret pe_int))))), ?_⟩)
  obtain ⟨d, f, xs, n, rfl, ⟨dx, a, h1, dy, na, ma, al, f1, ⟨ns, f2, f3⟩, f4, f5⟩, k⟩ := h
  have lns : (ns.map V.ref).length = f.words.length := by rw [List.length_map, paired_len f3, List.length_map]
  have k := k H (Same.refl _)
  unfold refW at k
  by_cases g1 : 0 ≤ n
  · refine ⟨_, rfl, 0, n, rfl, rfl, _, rfl, if_t (decide_eq_true g1) ⟨n, 12, rfl, rfl, _, rfl, ?_⟩⟩
    by_cases g2 : n < 12
    · rw [if_neg (fun z => z ⟨g1, g2⟩)] at k
      refine if_f (by rw [decide_eq_true g2]; rfl) ⟨_, rfl, _, rfl, d, _, dx, _, _, rfl, h1, k_Desk E, n_Desk_file E, rfl, a, _, dy, _, _, rfl, f1, k_File E, n_File_names E, rfl, na, _, rfl, Or.inl (SqL.of f2), n, _, rfl, rfl, _, rfl, ?_⟩
      rw [lns]
      refine ite2 (fun hc => ?_) fun hc => ?_
      · rw [if_pos (of_decide_eq_true hc)] at k
        exact ⟨5, rfl, k⟩
      · rw [if_neg fun z => hc (decide_eq_true z)] at k
        exact k
    · rw [if_pos (fun z => g2 z.2)] at k
      exact if_t (by rw [decide_eq_false g2]; rfl) ⟨3, rfl, k⟩
  · rw [if_pos (fun z => g1 z.1)] at k
    exact ⟨_, rfl, 0, n, rfl, rfl, _, rfl, if_f (decide_eq_false g1) ⟨_, rfl, if_t rfl ⟨3, rfl, k⟩⟩⟩
def refC (xs : List NAct) (k : Nat) (n : Int) : Int := if ¬ (0 ≤ n ∧ n < 20) then -3 else if (ncards (xs.take k) : Int) ≤ n then -5 else 0
def sp_refused_card (K : PySem.W.Frag) : Sp := fun vs H Q _ => ∃ (d : Addr) (f : File) (xs : List NAct) (k : Nat) (n : Int), vs = [.ref d, .int (k : Nat), .int n] ∧ DeskV K H d f xs ∧ xs.length ≤ 90 ∧ k ≤ xs.length ∧
  ∀ H', Same H H' → Q (.int (refC xs k n)) H'
theorem len_refused_card (K : PySem.W.Frag) : ∀ vs H Q E, sp_refused_card K vs H Q E → vs.length = 3 := fun _ _ _ _ ⟨_, _, _, _, _, h, _⟩ => by rw [h]; rfl
theorem sc_refused_card : FnScope (["desk", "acts", "number"] : List Str) ["desk", "acts", "number"] (defScope s_refused_card) := C8.fnScope_by (by decide +kernel)
theorem c_refused_card (E : Env P w K mg base) : Cal P w K mg base CX0 2 "refused_card" (sp_refused_card K) := by
  have sc := sc_refused_card
  refine mkCal (st := s_refused_card) (E.top.d.def_ 48 (d := d_refused_card) rfl) (E.glo 48) sc (fun _ _ _ _ _ _ us hl => match us, hl with | [_, _, _], _ => rfl) (len_refused_card K) (fun cdv A outer s H vs Q X hr h => ⟨_, PSs.nox ((pss_cons (ps_if (pt_not (pt_chain op_le op_lt pe_int (pv 2) (C8.pe_gc rfl (g_MOST_CARDS E)))) (pss_one (ps_ret (pe_un un_neg pe_int))) pss_nil)
    (pss_cons (ps_if (pt_cmpR op_ge (pv 2) (pe_c (c_cards_at E) hr (by decide) rfl pass0 (pa_cons (pv 0) (pa_cons (pv 1) pa_nil))) (nomark _)) (pss_one (ps_ret (pe_un un_neg pe_int))) pss_nil)
    (pss_one (ps_ret pe_int))))), ?_⟩)
  obtain ⟨d, f, xs, kk, n, rfl, hD, hln, hkk, k0⟩ := h
  have k := k0 H (Same.refl _)
  unfold refC at k k0
  by_cases g1 : 0 ≤ n
  · refine ⟨_, rfl, 0, n, rfl, rfl, _, rfl, if_t (decide_eq_true g1) ⟨n, 20, rfl, rfl, _, rfl, ?_⟩⟩
    by_cases g2 : n < 20
    · rw [if_neg (fun z => z ⟨g1, g2⟩)] at k0
      refine if_f (by rw [decide_eq_true g2]; rfl) ⟨_, rfl, _, rfl, _, rfl, d, f, xs, kk, rfl, hD, hln, hkk, fun H1 s1 => ⟨n, _, rfl, rfl, _, rfl, ?_⟩⟩
      have k1 := k0 _ s1
      refine ite2 (fun hc => ?_) fun hc => ?_
      · rw [if_pos (of_decide_eq_true hc)] at k1
        exact ⟨5, rfl, k1⟩
      · rw [if_neg fun z => hc (decide_eq_true z)] at k1
        exact k1
    · rw [if_pos (fun z => g2 z.2)] at k
      exact if_t (by rw [decide_eq_false g2]; rfl) ⟨3, rfl, k⟩
  · rw [if_pos (fun z => g1 z.1)] at k
    exact ⟨_, rfl, 0, n, rfl, rfl, _, rfl, if_f (decide_eq_false g1) ⟨_, rfl, if_t rfl ⟨3, rfl, k⟩⟩⟩
def refN (xs : List NAct) (n : Int) (m : Nat) : Int := if ¬ (0 ≤ n ∧ n < 80) then -3 else if (xs.length : Int) ≤ n + m then -5 else 0
def sp_refused_act (K : PySem.W.Frag) : Sp := fun vs H Q _ => ∃ (d : Addr) (f : File) (xs : List NAct) (n : Int) (m : Nat), vs = [.ref d, .int n, .int (m : Nat)] ∧ DeskV K H d f xs ∧
  ∀ H', Same H H' → Q (.int (refN xs n m)) H'
theorem len_refused_act (K : PySem.W.Frag) : ∀ vs H Q E, sp_refused_act K vs H Q E → vs.length = 3 := fun _ _ _ _ ⟨_, _, _, _, _, h, _⟩ => by rw [h]; rfl
theorem sc_refused_act : FnScope (["desk", "number", "more"] : List Str) ["desk", "number", "more"] (defScope s_refused_act) := C8.fnScope_by (by decide +kernel)
theorem c_refused_act (E : Env P w K mg base) : Cal P w K mg base CX0 1 "refused_act" (sp_refused_act K) := by
  have sc := sc_refused_act
  refine mkCal (st := s_refused_act) (E.top.d.def_ 49 (d := d_refused_act) rfl) (E.glo 49) sc (fun _ _ _ _ _ _ us hl => match us, hl with | [_, _, _], _ => rfl) (len_refused_act K) (fun cdv A outer s H vs Q X hr h => ⟨_, PSs.nox ((pss_cons (ps_if (pt_not (pt_chain op_le op_lt pe_int (pv 1) (C8.pe_gc rfl (g_MOST_ACTS E)))) (pss_one (ps_ret (pe_un un_neg pe_int))) pss_nil)
    (pss_cons (ps_if (pt_cmpR op_ge (pe_op op_add (pv 1) (pv 2)) (pe_callB (clen (K := K)) rfl (fr_len E) (by decide +kernel) (pa_cons (peF (K := K) (peF (K := K) (pv 0) rfl) rfl) pa_nil)) (nomark _)) (pss_one (ps_ret (pe_un un_neg pe_int))) pss_nil)
    (pss_one (ps_ret pe_int))))), ?_⟩)
  obtain ⟨d, f, xs, n, m, rfl, ⟨dx, a, h1, dy, na, ma, al, f1, f2, f3, ⟨as, f4, f5⟩⟩, k⟩ := h
  have las : (as.map V.ref).length = xs.length := by rw [List.length_map, paired_len f5]
  have k := k H (Same.refl _)
  unfold refN at k
  by_cases g1 : 0 ≤ n
  · refine ⟨_, rfl, 0, n, rfl, rfl, _, rfl, if_t (decide_eq_true g1) ⟨n, 80, rfl, rfl, _, rfl, ?_⟩⟩
    by_cases g2 : n < 80
    · rw [if_neg (fun z => z ⟨g1, g2⟩)] at k
      refine if_f (by rw [decide_eq_true g2]; rfl) ⟨_, rfl, _, rfl, n, (m : Nat), rfl, rfl, _, rfl, d, _, dx, _, _, rfl, h1, k_Desk E, n_Desk_file E, rfl, a, _, dy, _, _, rfl, f1, k_File E, n_File_acts E, rfl, al, _, rfl, Or.inl (SqL.of f4), n + (m : Nat), _, rfl, rfl, _, rfl, ?_⟩
      rw [las]
      refine ite2 (fun hc => ?_) fun hc => ?_
      · rw [if_pos (of_decide_eq_true hc)] at k
        exact ⟨5, rfl, k⟩
      · rw [if_neg fun z => hc (decide_eq_true z)] at k
        exact k
    · rw [if_pos (fun z => g2 z.2)] at k
      exact if_t (by rw [decide_eq_false g2]; rfl) ⟨3, rfl, k⟩
  · rw [if_pos (fun z => g1 z.1)] at k
    exact ⟨_, rfl, 0, n, rfl, rfl, _, rfl, if_f (decide_eq_false g1) ⟨_, rfl, if_t rfl ⟨3, rfl, k⟩⟩⟩
def sp_are_bytes (K : PySem.W.Frag) : Sp := fun vs H Q _ => ∃ (p : Addr) (l : List Int), vs = [.ref p] ∧ H p = some (.lst (l.map V.int)) ∧ l.length ≤ 100000 ∧
  ∀ H', Same H H' → Q (.bl (l.all fun c => VbenCore.isBetween c 0 255)) H'
theorem len_are_bytes (K : PySem.W.Frag) : ∀ vs H Q E, sp_are_bytes K vs H Q E → vs.length = 1 := fun _ _ _ _ ⟨_, _, h, _⟩ => by rw [h]; rfl
theorem sc_are_bytes : FnScope (["row", "byte"] : List Str) ["row"] (defScope s_are_bytes) := C8.fnScope_by (by decide +kernel)
theorem c_are_bytes (E : Env P w K mg base) : Cal P w K mg base CX0 1 "are_bytes" (sp_are_bytes K) := by
  have sc := sc_are_bytes
  refine mkCal (st := s_are_bytes) (E.top.d.def_ 51 (d := d_are_bytes) rfl) (E.glo 51) sc (fun _ _ _ _ _ _ us hl => match us, hl with | [_], _ => rfl) (len_are_bytes K) (fun cdv A outer s H vs Q X hr h => ⟨_, PSs.nox ((pss_one (ps_ret (pe_callB (cr_all rfl) rfl (fr_all E) (by decide +kernel) (pa_cons (pe_lc (own := [("byte", 1)]) (g := (gName 1)) rfl sc.nd (pi_list (pv 0)) (blkOk_by (own := [("byte", 1)]) (N := ["row", "byte"]) (sc := defScope s_are_bytes) (by decide +kernel)) (fun _ _ _ _ _ => pg_name (i := 1) sc.nd rfl (Or.inl rfl)) (fun _ _ _ _ _ => pts_nil) (fun _ _ _ _ _ => (pe_chain op_le op_le pe_int (pv 1) pe_int))) pa_nil))))), ?_⟩)
  obtain ⟨p, l, rfl, hp, hl, k⟩ := h
  have ll : (l.map V.int).length = l.length := List.length_map _
  refine ⟨_, rfl, p, rfl, ⟨_, SqL.of hp⟩, fun D hD => ?_⟩
  refine lc_it (walk_list (xs := l.map V.int)) (CL H D isB l fun c => some (VbenCore.isBetween c 0 255)) (CL.start hD) (fun i H1 hi q => q.same.seq (SqL.of hp)) (fun i v H1 H2 hi q yy => ?_) fun H1 q => ?_
  · obtain ⟨rfl, hv⟩ := yy
    rw [List.getElem?_map] at hv
    cases hc : l[i]? with
    | none => rw [hc] at hv; cases hv
    | some c =>
      rw [hc] at hv
      cases hv
      refine ⟨rfl, yes_ ⟨_, rfl, 0, c, rfl, rfl, _, rfl, ?_⟩⟩
      by_cases h3 : 0 ≤ c
      · refine if_t (decide_eq_true h3) ⟨c, 255, rfl, rfl, CL.put q (Same.refl _) hc rfl (by omega) isB_mono fun _ _ => ?_⟩
        show V.bl _ = V.bl _
        unfold VbenCore.isBetween
        rw [decide_eq_true h3, Bool.true_and]
      · refine if_f (decide_eq_false h3) (CL.put q (Same.refl _) hc rfl (by omega) isB_mono fun _ _ => ?_)
        show V.bl _ = V.bl _
        unfold VbenCore.isBetween
        rw [decide_eq_false h3, Bool.false_and]
  · rw [ll] at q
    obtain ⟨s1, e1⟩ := q.bools
    refine ⟨D, _, rfl, SqL.of e1, ?_⟩
    rw [all_map_id]
    exact k _ s1
def sp_told (K : PySem.W.Frag) : Sp := fun vs H Q _ => ∃ (a : Addr) (f : File) (xs : List NAct), vs = [.ref a] ∧ FileAt K H a f xs ∧ xs.length ≤ 90 ∧
  ∀ H' q, Same H H' → H q = none → LstN H' q [f.holes, f.words.length, xs.length, ncards xs] → Q (.ref q) H'
theorem len_told (K : PySem.W.Frag) : ∀ vs H Q E, sp_told K vs H Q E → vs.length = 1 := fun _ _ _ _ ⟨_, _, _, h, _⟩ => by rw [h]; rfl
theorem sc_told : FnScope (["file", "act", "many"] : List Str) ["file"] (defScope s_told) := C8.fnScope_by (by decide +kernel)
theorem c_told (E : Env P w K mg base) : Cal P w K mg base CX0 1 "told" (sp_told K) := by
  have sc := sc_told
  refine mkCal (st := s_told) (E.top.d.def_ 52 (d := d_told) rfl) (E.glo 52) sc (fun _ _ _ _ _ _ us hl => match us, hl with | [_], _ => rfl) (len_told K) (fun cdv A outer s H vs Q X hr h => ⟨_, PSs.nox ((pss_cons (ps_set (i := 2) sc.nd rfl (Or.inl rfl) (pe_callB (clen (K := K)) rfl (fr_len E) (by decide +kernel) (pa_cons (pe_lc (own := [("act", 1)]) (g := (gName 1)) rfl sc.nd (pi_list (peF (K := K) (pv 0) rfl)) (blkOk_by (own := [("act", 1)]) (N := ["file", "act", "many"]) (sc := defScope s_told) (by decide +kernel)) (fun _ _ _ _ _ => pg_name (i := 1) sc.nd rfl (Or.inl rfl)) (fun _ _ _ _ _ => (pts_one (pt_cmpR op_eq (pe_ix (ixT (K := K)) (pv 1) pe_int (fun _ _ => rfl)) (C8.pe_gc rfl (g_CARD E)) (nomark _)))) (fun _ _ _ _ _ => (pv 1))) pa_nil)))
    (pss_one (ps_ret (pe_lst (pa_cons (peF (K := K) (pv 0) rfl) (pa_cons (pe_callB (clen (K := K)) rfl (fr_len E) (by decide +kernel) (pa_cons (peF (K := K) (pv 0) rfl) pa_nil)) (pa_cons (pe_callB (clen (K := K)) rfl (fr_len E) (by decide +kernel) (pa_cons (peF (K := K) (pv 0) rfl) pa_nil)) (pa_cons (pv 2) pa_nil))))))))), ?_⟩)
  obtain ⟨a, f, xs, rfl, ⟨dy, na, ma, al, f1, ⟨ns, f2, f3⟩, f4, ⟨as, f5, f6⟩⟩, hln, k⟩ := h
  have las : (as.map V.ref).length = xs.length := by rw [List.length_map, paired_len f6]
  have lns : (ns.map V.ref).length = f.words.length := by rw [List.length_map, paired_len f3, List.length_map]
  refine ⟨_, rfl, a, _, dy, _, _, rfl, f1, k_File E, n_File_acts E, rfl, al, rfl, ⟨_, SqL.of f5⟩, fun D hD => ?_⟩
  refine lc_it (walk_refs f6) (CL H D (isR fun _ _ _ => True) xs fun y => if isCd y = true then some y else none) (CL.start hD) (fun i H1 hi p => p.same.seq (SqL.of f5)) (fun i v H1 H2 hi p yy => ?_) fun H1 p => ?_
  · obtain ⟨rfl, b, y, rfl, hx, hA⟩ := yy
    obtain ⟨m, vs, e1, e2⟩ := act_head hA
    refine ⟨rfl, _, rfl, b, _, 0, .int (m : Nat), rfl, rfl, SqT.of (p.same _ _ e1), atI_nat (i := 0) rfl, rfl, _, rfl, ?_⟩
    have e3 : decide (V.int (m : Nat) = V.int 2) = isCd y := (dN m 2).trans e2
    rw [e3]
    refine ite2 (fun hc => ?_) fun hc => ?_
    · exact ⟨_, rfl, CL.put p (Same.refl _) hx (if_pos hc) (by omega) (isR_mono fun _ _ _ _ _ _ => trivial) fun B _ => ⟨b, rfl, trivial⟩⟩
    · exact CL.skip p (Same.refl _) hx (if_neg hc)
  · obtain ⟨B, vs, q1, q2, q3, q4, q5⟩ := p.fin
    rw [filterMap_filter' isCd] at q5
    have lv := paired_len q5
    have s1 := Same.trans q1 q2
    refine ⟨D, vs, rfl, Or.inl (SqL.of q4), _, rfl, a, _, dy, _, _, rfl, s1 _ _ f1, k_File E, n_File_holes E, rfl, _, rfl, a, _, dy, _, _, rfl, s1 _ _ f1, k_File E, n_File_names E, rfl, na, _, rfl, Or.inl (SqL.of (s1 _ _ f2)), _, rfl, a, _, dy, _, _, rfl, s1 _ _ f1, k_File E, n_File_acts E, rfl, al, _, rfl, Or.inl (SqL.of (s1 _ _ f5)), _, rfl, (show 4 ≤ sizeLine by decide), fun L nL => ?_⟩
    rw [lns, las, lv] at *
    exact k _ L (Same.trans s1 (Same.new nL)) (s1.free nL) upd_same
end
end Bw
namespace Bw
open PySem PySem.Spec PyProof.Rows L2
open Vbenah (File State Card Act)
section
variable {P : Program} {w : World} {K : PySem.W.Frag} {mg : Str → Option Value} {base : Heap}
def sp_row_or_none (K : PySem.W.Frag) : Sp := fun vs H Q _ => (vs = [.non] ∧ ∀ H' q, Same H H' → H q = none → LstN H' q [0] → Q (.ref q) H') ∨
  ∃ (p : Addr) (l : List Nat), vs = [.ref p] ∧ LstN H p l ∧ l.length ≤ 100000 ∧ ∀ H' q, Same H H' → H q = none → LstN H' q (1 :: l.length :: l) → Q (.ref q) H'
theorem len_row_or_none (K : PySem.W.Frag) : ∀ vs H Q E, sp_row_or_none K vs H Q E → vs.length = 1 := fun _ _ _ _ h => by
  rcases h with ⟨h, _⟩ | ⟨_, _, h, _⟩ <;> rw [h] <;> rfl
theorem sc_row_or_none : FnScope (["found"] : List Str) ["found"] (defScope s_row_or_none) := C8.fnScope_by (by decide +kernel)
theorem c_row_or_none (E : Env P w K mg base) : Cal P w K mg base CX0 2 "row_or_none" (sp_row_or_none K) := by
  have sc := sc_row_or_none
  refine mkCal (st := s_row_or_none) (E.top.d.def_ 69 (d := d_row_or_none) rfl) (E.glo 69) sc (fun _ _ _ _ _ _ us hl => match us, hl with | [_], _ => rfl) (len_row_or_none K) (fun cdv A outer s H vs Q X hr h => ⟨_, PSs.nox ((pss_cons (ps_if (pt_cmpR op_isN (pv 0) pe_non (nomark _)) (pss_one (ps_ret (pe_lst (pa_cons pe_int pa_nil)))) pss_nil)
    (pss_one (ps_ret (pe_op op_cat (pe_lst (pa_cons pe_int pa_nil)) (pe_c (c_listed E) hr (by decide) rfl pass0 (pa_cons (pv 0) pa_nil))))))), ?_⟩)
  rcases h with ⟨rfl, k⟩ | ⟨p, l, rfl, hp, hl, k⟩
  · exact ⟨_, rfl, rfl, _, rfl, if_t rfl ⟨(show 1 ≤ sizeLine by decide), fun L nL => k _ L (Same.new nL) nL upd_same⟩⟩
  · refine ⟨_, rfl, rfl, _, rfl, if_f rfl ⟨(show 1 ≤ sizeLine by decide), fun L nL => ⟨_, rfl, p, l, rfl, Same.new nL _ _ hp, hl, fun H1 q s1 nq e1 => ⟨L, q, _, _, rfl, rfl, s1 _ _ upd_same, e1, ?_, fun L3 n3 => ?_⟩⟩⟩⟩
    · rw [nV_len]
      have e2 : [V.int 1].length = 1 := rfl
      exact Nat.le_trans (by rw [e2, List.length_cons]; omega : _ ≤ 100002) (by decide)
    · have s := Same.trans (Same.new (o := .lst [.int 1]) nL) s1
      exact k _ L3 (Same.trans s (Same.new n3)) (s.free n3) upd_same
def sp_row_at (K : PySem.W.Frag) : Sp := fun vs H Q _ => ∃ (p : Addr) (ns : List Int) (i n : Nat), vs = [.ref p, .int (i : Nat)] ∧ SqL K H p (ns.map V.int) ∧ ns[i]? = some ((n : Nat) : Int) ∧ i + 1 + n ≤ ns.length ∧ n ≤ 2000 ∧
  ∀ H' q, Same H H' → H q = none → H' q = some (.lst (((ns.drop (i + 1)).take n).map V.int)) → Q (.ref q) H'
theorem len_row_at (K : PySem.W.Frag) : ∀ vs H Q E, sp_row_at K vs H Q E → vs.length = 2 := fun _ _ _ _ ⟨_, _, _, _, h, _⟩ => by rw [h]; rfl
theorem sc_row_at : FnScope (["calls", "at", "k"] : List Str) ["calls", "at"] (defScope s_row_at) := C8.fnScope_by (by decide +kernel)
theorem c_row_at (E : Env P w K mg base) : Cal P w K mg base CX0 1 "row_at" (sp_row_at K) := by
  have sc := sc_row_at
  refine mkCal (st := s_row_at) (E.top.d.def_ 77 (d := d_row_at) rfl) (E.glo 77) sc (fun _ _ _ _ _ _ us hl => match us, hl with | [_, _], _ => rfl) (len_row_at K) (fun cdv A outer s H vs Q X hr h => ⟨_, PSs.nox ((pss_one (ps_ret (pe_lc (own := [("k", 2)]) (g := (gName 2)) rfl sc.nd (pi_range1 (by rfl) (fr_range E) (pa_cons (pe_ix (ixL (K := K)) (pv 0) (pv 1) (fun _ _ => rfl)) pa_nil)) (blkOk_by (own := [("k", 2)]) (N := ["calls", "at", "k"]) (sc := defScope s_row_at) (by decide +kernel)) (fun _ _ _ _ _ => pg_name (i := 2) sc.nd rfl (Or.inl rfl)) (fun _ _ _ _ _ => pts_nil) (fun _ _ _ _ _ => (pe_ix (ixL (K := K)) (pv 0) (pe_op op_add (pe_op op_add (pv 1) pe_int) (pv 2)) (fun _ _ => rfl))))))), ?_⟩)
  obtain ⟨p, ns, i, n, rfl, hp, hi, hl, hn, k⟩ := h
  have at_ : ∀ (H' : Hp) (j : Nat) (z : Int), Same H H' → ns[j]? = some z → (ns.map V.int)[j]? = some (.int z) := fun H' j z _ h => by rw [List.getElem?_map, h]; rfl
  refine ⟨_, rfl, _, rfl, p, _, (i : Nat), .int (n : Nat), rfl, rfl, hp, atI_nat (at_ H i _ (Same.refl _) hi), (n : Nat), rfl, by omega, by omega, fun D hD => ?_⟩
  have hlen : ((ns.drop (i + 1)).take n).length = n := by
    rw [List.length_take, List.length_drop]
    omega
  refine lc_it walk_rngN (CL H D (fun _ v z => v = V.int z) ((ns.drop (i + 1)).take n) fun z => some z) (CL.start hD) (fun i H1 hi p => trivial) (fun j v H1 H2 hj q yy => ?_) fun H1 q => ?_
  · obtain ⟨rfl, rfl⟩ := yy
    have hj2 : j < n := hj
    have hz : ns[i + 1 + j]? = some ns[i + 1 + j] := List.getElem?_eq_getElem (by omega)
    have hx : ((ns.drop (i + 1)).take n)[j]? = some ns[i + 1 + j] := by
      rw [List.getElem?_take_of_lt hj2, List.getElem?_drop, hz]
    refine ⟨rfl, yes_ ⟨_, rfl, _, rfl, (i : Nat), 1, rfl, rfl, _, rfl, (i : Nat) + 1, (j : Nat), rfl, rfl, p, _, (i : Nat) + 1 + (j : Nat), .int ns[i + 1 + j], rfl, rfl, q.same.seq hp, ?_, CL.put q (Same.refl _) hx rfl (by rw [hlen]; omega) (fun _ _ _ _ _ h => h) fun _ _ => rfl⟩⟩
    rw [show ((i : Nat) : Int) + 1 + (j : Nat) = ((i + 1 + j : Nat) : Int) by omega]
    exact atI_nat (at_ H2 _ _ q.same hz)
  · have q2 : CL H D (fun _ v z => v = V.int z) ((ns.drop (i + 1)).take n) (fun z => some z) ((ns.drop (i + 1)).take n).length H1 := by
      rw [hlen]
      exact q
    obtain ⟨B, vs, q1, q2, q3, q4, q5⟩ := q2.fin
    rw [filterMap_some' (fun z => z), List.map_id'] at q5
    have ev : ∀ {vs : List V} {l : List Int}, Paired (fun v z => v = V.int z) vs l → vs = l.map V.int := fun {vs l} pp => by
      induction pp with
      | nil => rfl
      | cons r t ih => rw [List.map_cons, ← ih, r]
    rw [ev q5] at q4
    exact k _ D (Same.trans q1 q2) hD q4
end
end Bw
namespace Bw
open Vbenah (File State Card Act)
/-! ### plain: a file's acts by names -/
def nameA (ns : List (List Nat)) : Act → NAct
  | .under a b => .under a b
  | .apart a b => .apart a b
  | .card n ws => .card n ws
  | .add c w => .add (ns.getD c []) w
  | .grow c => .grow (ns.getD c [])
  | .notch c h => .notch (ns.getD c []) h
def cardN : Act → Option (List Nat)
  | .card n _ => some n
  | _ => none
/-- the card of which an act tells by its number -/
def cI : Act → Option Nat
  | .add c _ => some c
  | .grow c => some c
  | .notch c _ => some c
  | _ => none
theorem cardNames_eq (f : File) : Vbenah.cardNames f = f.acts.filterMap cardN := by
  unfold Vbenah.cardNames
  congr 1
def cn (s : State) : List (List Nat) := s.cards.map (·.name)
theorem change_get {s : State} {c : Nat} {g : Card → Card} {x : Card} (h : s.cards[c]? = some x) : Vbenah.changeCard s c g = { s with cards := s.cards.set c (g x) } := by
  unfold Vbenah.changeCard
  congr 1
  apply List.ext_getElem?
  intro j
  rw [List.getElem?_map, List.getElem?_zipIdx]
  by_cases e : c = j
  · subst e
    rw [h, set_get h]
    simp
  · rw [List.getElem?_set_ne e]
    have e2 : ¬ 0 + j = c := fun z => e (by omega)
    cases s.cards[j]? with
    | none => rfl
    | some y =>
      show some (if 0 + j = c then g y else y) = some y
      rw [if_neg e2]
theorem change_none {s : State} {c : Nat} {g : Card → Card} (h : s.cards[c]? = none) : Vbenah.changeCard s c g = s := by
  unfold Vbenah.changeCard
  obtain ⟨ps, cs⟩ := s
  congr 1
  apply List.ext_getElem?
  intro j
  rw [List.getElem?_map, List.getElem?_zipIdx]
  have hc := List.getElem?_eq_none_iff.mp h
  cases e : cs[j]? with
  | none => rfl
  | some y =>
    have hj := lt_of_get e
    have e2 : ¬ 0 + j = c := fun z => by
      have : cs.length ≤ c := hc
      omega
    show some (if 0 + j = c then g y else y) = some y
    rw [if_neg e2]
theorem change_names {s : State} {c : Nat} {g : Card → Card} (hg : ∀ x, (g x).name = x.name) : cn (Vbenah.changeCard s c g) = cn s := by
  cases h : s.cards[c]? with
  | none => rw [change_none h]
  | some x =>
    rw [change_get h]
    unfold cn
    show (s.cards.set c (g x)).map (·.name) = _
    rw [List.map_set, hg]
    refine set_id ?_
    rw [List.getElem?_map, h]
    rfl
theorem fold_cut_name (f : File) (t : Nat) (p : List (Nat × Nat)) : ∀ (l : List Nat) (c : Card), (l.foldl (fun y w => Vbenah.cut f t y (Vbenah.posted f p w)) c).name = c.name
  | [], _ => rfl
  | _ :: l, c => fold_cut_name f t p l _
theorem done_names (f : File) (t : Nat) (s : State) (x : Act) : cn (Vbenah.done f t s x) = cn s ++ (cardN x).toList := by
  cases x with
  | under a b => exact (List.append_nil _).symm
  | apart a b => exact (List.append_nil _).symm
  | card n ws =>
    show (s.cards ++ [ws.foldl (pw f s.pairs t) { name := n, words := [], notches := 0, by_ := [] }]).map (·.name) = s.cards.map (·.name) ++ [n]
    rw [List.map_append, List.map_singleton, (pw_words f s.pairs t ws _).2.1]
  | add c w => exact (change_names (g := fun x => Vbenah.cut f t { x with words := x.words ++ [w] } (Vbenah.posted f s.pairs w)) fun _ => rfl).trans (List.append_nil _).symm
  | grow c => exact (change_names fun x => fold_cut_name f t s.pairs x.words x).trans (List.append_nil _).symm
  | notch c h => exact (change_names (g := fun x => Vbenah.cut f t x (2 ^ h)) fun _ => rfl).trans (List.append_nil _).symm
theorem at_succ {f : File} {i : Nat} {x : Act} (h : f.acts[i]? = some x) : Vbenah.at_ f (i + 1) = Vbenah.done f i (Vbenah.at_ f i) x := by
  unfold Vbenah.at_
  have hl := lt_of_get h
  have e : (f.acts.take i).length = i := by simp; omega
  rw [List.take_succ, h, List.zipIdx_append, List.foldl_append, e]
  simp
theorem at_names (f : File) : ∀ i, cn (Vbenah.at_ f i) = (f.acts.take i).filterMap cardN
  | 0 => rfl
  | i + 1 => by
    cases h : f.acts[i]? with
    | none =>
      have hl := List.getElem?_eq_none_iff.mp h
      have e : Vbenah.at_ f (i + 1) = Vbenah.at_ f i := by
        unfold Vbenah.at_
        rw [List.take_of_length_le (by omega), List.take_of_length_le hl]
      rw [e, at_names f i, List.take_of_length_le hl, List.take_of_length_le (Nat.le_succ_of_le hl)]
    | some x =>
      rw [at_succ h, done_names, at_names f i, List.take_succ, h, List.filterMap_append]
      congr 1
theorem nodup_at {l : List (List Nat)} (h : l.Nodup) {i j : Nat} {x : List Nat} (hi : l[i]? = some x) (hj : l[j]? = some x) : i = j := by
  induction l generalizing i j with
  | nil => simp at hi
  | cons y l ih =>
    obtain ⟨h1, h2⟩ := List.nodup_cons.mp h
    cases i with
    | zero =>
      cases j with
      | zero => rfl
      | succ j =>
        simp at hi hj
        exact absurd (hi ▸ mem_of_get hj) h1
    | succ i =>
      cases j with
      | zero =>
        simp at hi hj
        exact absurd (hj ▸ mem_of_get hi) h1
      | succ j =>
        simp at hi hj
        rw [ih h2 hi hj]
theorem cn_get {s : State} {c : Nat} {n : List Nat} (h : (cn s)[c]? = some n) : ∃ x, s.cards[c]? = some x ∧ x.name = n := by
  unfold cn at h
  rw [List.getElem?_map] at h
  cases e : s.cards[c]? with
  | none => rw [e] at h; cases h
  | some x => rw [e] at h; exact ⟨x, rfl, Option.some.inj h⟩
theorem find_name {s : State} {c : Nat} {n : List Nat} (hu : (cn s).Nodup) (h : (cn s)[c]? = some n) : (s.cards.findIdx? fun x => x.name == n) = some c := by
  obtain ⟨x, hx, e⟩ := cn_get h
  have hl := lt_of_get hx
  rw [List.findIdx?_eq_some_iff_getElem]
  refine ⟨hl, ?_, fun j hj z => ?_⟩
  · rw [List.getElem?_eq_getElem hl] at hx
    rw [Option.some.inj hx]
    exact beq_iff_eq.mpr e
  · have e2 := beq_iff_eq.mp z
    have hjl : j < s.cards.length := by omega
    have : (cn s)[j]? = some n := by
      unfold cn
      rw [List.getElem?_map, List.getElem?_eq_getElem hjl]
      exact congrArg some e2
    have := nodup_at hu this h
    omega
theorem nset_change {s : State} {c : Nat} {n : List Nat} {g : Card → Card} (hu : (cn s).Nodup) (h : (cn s)[c]? = some n) : nset s n g = Vbenah.changeCard s c g := by
  obtain ⟨x, hx, e⟩ := cn_get h
  rw [nset_eq (find_name hu h) hx, change_get hx]
theorem getD_of {α : Type} {l : List α} {i : Nat} {x d : α} (h : l[i]? = some x) : l.getD i d = x := by
  rw [List.getD_eq_getElem?_getD, h]
  rfl
theorem done_nd {f : File} {t : Nat} {s : State} {x : Act} {ns : List (List Nat)} (hu : (cn s).Nodup) (hc : ∀ c, cI x = some c → ∃ n, ns[c]? = some n ∧ (cn s)[c]? = some n) : Vbenah.done f t s x = ndone f t s (nameA ns x) := by
  cases x with
  | under a b => rfl
  | apart a b => rfl
  | card n ws => rfl
  | add c w =>
    obtain ⟨n, h1, h2⟩ := hc c rfl
    show _ = nset s (ns.getD c []) _
    rw [getD_of h1, nset_change hu h2]
    rfl
  | grow c =>
    obtain ⟨n, h1, h2⟩ := hc c rfl
    show _ = nset s (ns.getD c []) _
    rw [getD_of h1, nset_change hu h2]
    rfl
  | notch c h =>
    obtain ⟨n, h1, h2⟩ := hc c rfl
    show _ = nset s (ns.getD c []) _
    rw [getD_of h1, nset_change hu h2]
    rfl
/-! #### no word above itself -/
def Ac (p : List (Nat × Nat)) : Prop := ∀ w, ¬ Rch p w w
theorem Rch.put {p : List (Nat × Nat)} {a b u v : Nat} (ne : a ≠ b) (hn : ¬ Rch p b a) (h : Rch (p ++ [(a, b)]) u v) : Rch p u v ∨ ((u = a ∨ Rch p u a) ∧ (b = v ∨ Rch p b v)) := by
  refine h.closed (S := fun v => Rch p u v ∨ ((u = a ∨ Rch p u a) ∧ (b = v ∨ Rch p b v))) (fun c hc => ?_) fun x v hx hv => ?_
  · rcases List.mem_append.mp hc with m | m
    · exact Or.inl (Rch.one m)
    · have e := List.mem_singleton.mp m
      injection e with e1 e2
      exact Or.inr ⟨Or.inl e1, Or.inl e2.symm⟩
  · rcases List.mem_append.mp hv with m | m
    · rcases hx with hx | ⟨h1, h2⟩
      · exact Or.inl (hx.step m)
      · refine Or.inr ⟨h1, Or.inr ?_⟩
        rcases h2 with h2 | h2
        · rw [h2]
          exact Rch.one m
        · exact h2.step m
    · have e := List.mem_singleton.mp m
      injection e with e1 e2
      subst e1
      subst e2
      rcases hx with hx | ⟨h1, h2⟩
      · exact Or.inr ⟨Or.inr hx, Or.inl rfl⟩
      · rcases h2 with h2 | h2
        · exact absurd h2.symm ne
        · exact absurd h2 hn
theorem Ac.put {p : List (Nat × Nat)} {a b : Nat} (h : Ac p) (ne : a ≠ b) (hn : ¬ Rch p b a) : Ac (p ++ [(a, b)]) := fun w hw => by
  rcases Rch.put ne hn hw with g | ⟨g1, g2⟩
  · exact h w g
  · rcases g1 with g1 | g1
    · rcases g2 with g2 | g2
      · exact ne (g1.symm.trans g2.symm)
      · exact hn (g1 ▸ g2)
    · rcases g2 with g2 | g2
      · exact hn (g2 ▸ g1)
      · exact hn (g2.trans g1)
theorem Ac.sub {p q : List (Nat × Nat)} (h : Ac p) (s : ∀ x ∈ q, x ∈ p) : Ac q := fun w hw => h w (hw.mono s)
theorem asc_from {p : List (Nat × Nat)} {n : Nat} : ∀ (k : Nat) (l : List Nat), Asc l → Asc (Vbenah.aboveFrom p n k l)
  | 0, _, h => h
  | k + 1, _, _ => asc_from k _ (asc_filter (asc_range n) _)
theorem above_eq {p : List (Nat × Nat)} {n w : Nat} (hp : InN p n) (ha : Ac p) (hw : w < n) : Vbenah.above p n w = abv p n w := by
  refine asc_eq (asc_filter (asc_from _ _ (List.pairwise_singleton _ _)) _) (asc_abv p n w) fun b => ?_
  rw [mem_abv hp]
  show b ∈ (Vbenah.selfAbove p n w).filter (fun b => b != w) ↔ _
  rw [List.mem_filter, mem_self hp hw, bne_iff_ne]
  exact ⟨fun ⟨h1, h2⟩ => h1.resolve_left h2, fun h => ⟨Or.inr h, fun e => ha w (e ▸ h)⟩⟩
theorem under_eq {p : List (Nat × Nat)} {n a b : Nat} (hp : InN p n) (ha : Ac p) (hw : a < n) : Vbenah.isUnder p n a b = (abv p n a).contains b := by
  rw [Bool.eq_iff_iff, List.contains_iff_mem, mem_abv hp]
  unfold Vbenah.isUnder
  rw [Bool.and_eq_true, bne_iff_ne, List.contains_iff_mem, mem_self hp hw]
  exact ⟨fun ⟨h1, h2⟩ => h2.resolve_left fun e => h1 e.symm, fun h => ⟨fun e => ha a (by rw [e] at h ⊢; exact h), Or.inr h⟩⟩
theorem below_eq {p : List (Nat × Nat)} {n w : Nat} (hp : InN p n) (ha : Ac p) : blw p n w = (List.range n).filter fun x => Vbenah.isUnder p n x w := by
  unfold blw
  exact List.filter_congr fun x hx => (under_eq hp ha (List.mem_range.mp hx)).symm
/-! #### unlike words -/
theorem dups_len : ∀ (k : Nat) (l : List Nat), l.length ≤ k → l.eraseDups.length ≤ l.length ∧ (l.eraseDups.length = l.length ↔ l.Nodup)
  | _, [], _ => by simp
  | 0, x :: l, h => by simp at h
  | k + 1, x :: l, h => by
    have hf : (l.filter fun b => !b == x).length ≤ l.length := List.length_filter_le _ _
    obtain ⟨i1, i2⟩ := dups_len k (l.filter fun b => !b == x) (by simp at h; omega)
    rw [List.eraseDups_cons, List.length_cons, List.length_cons]
    refine ⟨by omega, fun e => ?_, fun hd => ?_⟩
    · have e1 : (l.filter fun b => !b == x).length = l.length := by omega
      have e2 : (l.filter fun b => !b == x).eraseDups.length = (l.filter fun b => !b == x).length := by omega
      have e3 := List.length_filter_eq_length_iff.mp e1
      have e4 : (l.filter fun b => !b == x) = l := List.filter_eq_self.mpr e3
      rw [e4] at i2 e2
      refine List.nodup_cons.mpr ⟨fun m => ?_, i2.mp e2⟩
      have := e3 x m
      simp at this
    · obtain ⟨h1, h2⟩ := List.nodup_cons.mp hd
      have e3 : ∀ b ∈ l, (!b == x) = true := fun b hb => by
        have : b ≠ x := fun z => h1 (z ▸ hb)
        simp [this]
      have e4 : (l.filter fun b => !b == x) = l := List.filter_eq_self.mpr e3
      rw [e4] at i2 ⊢
      rw [i2.mpr h2]
theorem dups_iff {l : List Nat} : (l.eraseDups.length == l.length) = true ↔ l.Nodup := by
  rw [beq_iff_eq]
  exact (dups_len l.length l (Nat.le_refl _)).2
/-! #### whether an act may be -/
def pre (f : File) (i : Nat) : File := { f with acts := f.acts.take i }
theorem done_congr {f g : File} (h1 : f.holes = g.holes) (h2 : f.words = g.words) : Vbenah.done f = Vbenah.done g := by
  obtain ⟨a, b, c⟩ := f
  obtain ⟨d, e, k⟩ := g
  cases h1
  cases h2
  funext t s x
  cases x <;> rfl
theorem ndone_congr {f g : File} (h1 : f.holes = g.holes) (h2 : f.words = g.words) : ndone f = ndone g := by
  obtain ⟨a, b, c⟩ := f
  obtain ⟨d, e, k⟩ := g
  cases h1
  cases h2
  funext t s x
  cases x <;> rfl
theorem nat_congr {f g : File} (h1 : f.holes = g.holes) (h2 : f.words = g.words) : nat_ f = nat_ g := by
  funext xs i
  unfold nat_
  rw [ndone_congr h1 h2]
theorem at_pre (f : File) {i k : Nat} (h : i ≤ k) : Vbenah.at_ (pre f k) i = Vbenah.at_ f i := by
  unfold Vbenah.at_
  rw [done_congr (f := pre f k) (g := f) rfl rfl]
  show List.foldl _ _ (((f.acts.take k).take i).zipIdx) = _
  rw [List.take_take, Nat.min_eq_left h]
theorem now_pre (f : File) {i : Nat} (h : i ≤ f.acts.length) : Vbenah.now (pre f i) = Vbenah.at_ f i := by
  unfold Vbenah.now
  have e : (pre f i).acts.length = i := by
    show (f.acts.take i).length = i
    rw [List.length_take]
    omega
  rw [e, at_pre f (Nat.le_refl i)]
/-- what an act that may be is -/
def MayA (n h : Nat) (s : State) : Act → Prop
  | .under a b => a < n ∧ b < n ∧ a ≠ b ∧ s.pairs.contains (a, b) = false ∧ Vbenah.isUnder s.pairs n b a = false
  | .apart a b => s.pairs.contains (a, b) = true
  | .card m ws => s.cards.length < 20 ∧ (cn s).contains m = false ∧ 1 ≤ ws.length ∧ (∀ w ∈ ws, w < n) ∧ ws.Nodup
  | .add c w => c < s.cards.length ∧ w < n ∧ (Vbenah.cardAt s c).words.contains w = false
  | .grow c => c < s.cards.length
  | .notch c x => c < s.cards.length ∧ x < h
theorem not_t {b : Bool} : (!b) = true ↔ b = false := by cases b <;> simp
theorem may_iff (f : File) (x : Act) : Vbenah.mayBe f x = true ↔ f.acts.length < 80 ∧ MayA f.words.length f.holes (Vbenah.now f) x := by
  unfold Vbenah.mayBe
  rw [Bool.and_eq_true, decide_eq_true_iff]
  refine and_congr Iff.rfl ?_
  cases x with
  | under a b =>
    show (decide _ && (!_ && !_)) = true ↔ _
    rw [Bool.and_eq_true, Bool.and_eq_true, decide_eq_true_iff, not_t, not_t]
    exact ⟨fun ⟨⟨h1, h2, h3⟩, h4, h5⟩ => ⟨h1, h2, h3, h4, h5⟩, fun ⟨h1, h2, h3, h4, h5⟩ => ⟨⟨h1, h2, h3⟩, h4, h5⟩⟩
  | apart a b => exact Iff.rfl
  | card m ws =>
    show (decide _ && (!_ && (decide _ && (_ && _)))) = true ↔ _
    rw [Bool.and_eq_true, Bool.and_eq_true, Bool.and_eq_true, Bool.and_eq_true, decide_eq_true_iff, decide_eq_true_iff, not_t, List.all_eq_true, dups_iff]
    refine and_congr Iff.rfl (and_congr Iff.rfl (and_congr Iff.rfl (and_congr ?_ Iff.rfl)))
    exact forall_congr' fun w => forall_congr' fun _ => decide_eq_true_iff
  | add c w =>
    show (decide _ && !_) = true ↔ _
    rw [Bool.and_eq_true, decide_eq_true_iff, not_t]
    exact and_assoc
  | grow c => exact decide_eq_true_iff
  | notch c h => exact decide_eq_true_iff
/-- a file as it may be, and its acts by names -/
structure Ok (f : File) (xs : List NAct) : Prop where
  hn : f.words.length ≤ 12
  h1 : 1 ≤ f.holes
  ho : f.holes ≤ 16
  la : f.acts.length ≤ 80
  nm : ∀ x ∈ f.words, VbenCore.isName x.1 = true
  nu : (f.words.map (·.1)).Nodup
  mh : ∀ x ∈ f.words, x.2 < 2 ^ f.holes ∧ ∃ h, h < f.holes ∧ Vbenah.bit x.2 h = true
  xe : xs = f.acts.map (nameA (f.acts.filterMap cardN))
  ok : ∀ i x, f.acts[i]? = some x → MayA f.words.length f.holes (Vbenah.at_ f i) x
  cn_ : ∀ n ∈ f.acts.filterMap cardN, VbenCore.isName n = true
section
variable {f : File} {xs : List NAct}
theorem pre_names (l : List Act) (i : Nat) {c : Nat} {n : List Nat} (h : ((l.take i).filterMap cardN)[c]? = some n) : (l.filterMap cardN)[c]? = some n := by
  have e : l.filterMap cardN = (l.take i).filterMap cardN ++ (l.drop i).filterMap cardN := by rw [← List.filterMap_append, List.take_append_drop]
  rw [e, List.getElem?_append_left (lt_of_get h)]
  exact h
theorem cn_len (s : State) : (cn s).length = s.cards.length := List.length_map _
theorem may_idx {n h : Nat} {s : State} {x : Act} (m : MayA n h s x) {c : Nat} (e : cI x = some c) : c < s.cards.length := by
  cases x <;> cases e
  · exact m.1
  · exact m
  · exact m.1
theorem at_nodup (o : Ok f xs) : ∀ i, i ≤ f.acts.length → (cn (Vbenah.at_ f i)).Nodup
  | 0, _ => List.nodup_nil
  | i + 1, hi => by
    have hx : f.acts[i]? = some f.acts[i] := List.getElem?_eq_getElem (by omega)
    have m := o.ok i _ hx
    have ih := at_nodup o i (by omega)
    rw [at_succ hx, done_names]
    cases e : f.acts[i] with
    | card n ws =>
      rw [e] at m
      refine L2.nd_snoc ih fun q => ?_
      have := m.2.1
      rw [List.contains_iff_mem.mpr q] at this
      cases this
    | _ => exact (List.append_nil (cn (Vbenah.at_ f i))).symm ▸ ih
theorem Ok.get (o : Ok f xs) {i : Nat} {x : Act} (h : f.acts[i]? = some x) : xs[i]? = some (nameA (f.acts.filterMap cardN) x) := by
  rw [o.xe, List.getElem?_map, h]
  rfl
theorem Ok.len (o : Ok f xs) : xs.length = f.acts.length := by rw [o.xe, List.length_map]
theorem Ok.idx (o : Ok f xs) {i : Nat} {x : Act} (h : f.acts[i]? = some x) (c : Nat) (e : cI x = some c) : ∃ n, (f.acts.filterMap cardN)[c]? = some n ∧ (cn (Vbenah.at_ f i))[c]? = some n := by
  have hc := may_idx (o.ok i x h) e
  rw [← cn_len] at hc
  have g : (cn (Vbenah.at_ f i))[c]? = some (cn (Vbenah.at_ f i))[c] := List.getElem?_eq_getElem hc
  refine ⟨_, ?_, g⟩
  generalize (cn (Vbenah.at_ f i))[c] = n at g
  rw [at_names] at g
  exact pre_names _ _ g
theorem Ok.at_ (o : Ok f xs) : ∀ i, i ≤ f.acts.length → Vbenah.at_ f i = nat_ f xs i
  | 0, _ => rfl
  | i + 1, hi => by
    have hx : f.acts[i]? = some f.acts[i] := List.getElem?_eq_getElem (by omega)
    rw [at_succ hx, nat_succ (o.get hx), ← Ok.at_ o i (by omega)]
    exact done_nd (at_nodup o i (by omega)) fun c e => o.idx hx c e
theorem Ok.now (o : Ok f xs) : Vbenah.now f = nat_ f xs xs.length := by
  rw [o.len]
  exact o.at_ _ (Nat.le_refl _)
theorem nwf_of {n h : Nat} {s : State} {x : Act} {ns : List (List Nat)} (hn : f.words.length = n) (hh : f.holes = h) (h12 : n ≤ 12) (m : MayA n h s x) : nwf f (nameA ns x) := by
  subst hn
  subst hh
  cases x with
  | under a b => exact ⟨m.1, m.2.1⟩
  | apart a b => trivial
  | card m' ws => exact ⟨Nat.le_trans (nodup_len m.2.2.2.2 m.2.2.2.1) h12, m.2.2.2.1⟩
  | add c w => exact m.2.1
  | grow c => trivial
  | notch c x => exact m.2
theorem Ok.nv (o : Ok f xs) : NV f xs := by
  refine ⟨o.hn, o.ho, by rw [o.len]; have := o.la; omega, fun y hy => ?_⟩
  rw [o.xe] at hy
  obtain ⟨x, hx, rfl⟩ := List.mem_map.mp hy
  obtain ⟨i, hi⟩ := List.mem_iff_getElem?.mp hx
  exact nwf_of rfl rfl o.hn (o.ok i x hi)
theorem Ok.ws (o : Ok f xs) {i : Nat} (hi : i ≤ f.acts.length) : WS f (Vbenah.at_ f i) i := by
  rw [o.at_ i hi]
  exact ws_nat o.nv i (by rw [o.len]; exact hi)
theorem at_ac (o : Ok f xs) : ∀ i, i ≤ f.acts.length → Ac (Vbenah.at_ f i).pairs
  | 0, _ => fun w ⟨_, _, h, _⟩ => nomatch h
  | i + 1, hi => by
    have hx : f.acts[i]? = some f.acts[i] := List.getElem?_eq_getElem (by omega)
    have m := o.ok i _ hx
    have ih := at_ac o i (by omega)
    have pp := (o.ws (i := i) (by omega)).pp
    rw [at_succ hx]
    have chg : ∀ (s : State) (c : Nat) (g : Card → Card), (Vbenah.changeCard s c g).pairs = s.pairs := fun _ _ _ => rfl
    cases e : f.acts[i] with
    | under a b =>
      rw [e] at m
      obtain ⟨m1, m2, m3, m4, m5⟩ := m
      refine ih.put m3 fun z => ?_
      rw [under_eq pp ih m2] at m5
      have := List.contains_iff_mem.mpr ((mem_abv pp).mpr z)
      rw [m5] at this
      cases this
    | apart a b => exact ih.sub fun x hx => (List.mem_filter.mp hx).1
    | card n ws => exact ih
    | add c w => exact ih
    | grow c => exact ih
    | notch c h => exact ih
theorem cardOf_get {s : State} {c : Nat} {n : List Nat} (hu : (cn s).Nodup) (h : (cn s)[c]? = some n) : cardOf s.cards n = some (Vbenah.cardAt s c) := by
  obtain ⟨x, hx, e⟩ := cn_get h
  rw [cardAt_get hx]
  have hl := lt_of_get hx
  obtain ⟨h1, h2, h3⟩ := List.findIdx?_eq_some_iff_getElem.mp (find_name hu h)
  unfold cardOf
  rw [List.find?_eq_some_iff_getElem]
  rw [List.getElem?_eq_getElem hl] at hx
  have hx := Option.some.inj hx
  refine ⟨by rw [e]; exact beq_self_eq_true n, c, hl, hx, fun j hj => ?_⟩
  exact not_t.mpr (Bool.eq_false_iff.mpr (h3 j hj))
theorem cardOf_no {s : State} {n : List Nat} : cardOf s.cards n = none ↔ (cn s).contains n = false := by
  unfold cardOf cn
  rw [List.find?_eq_none]
  constructor
  · intro h
    refine Bool.eq_false_iff.mpr fun z => ?_
    obtain ⟨x, hx, e⟩ := List.mem_map.mp (List.contains_iff_mem.mp z)
    exact h x hx (beq_iff_eq.mpr e)
  · intro h x hx e
    have : (s.cards.map (·.name)).contains n = true := List.contains_iff_mem.mpr (List.mem_map.mpr ⟨x, hx, beq_iff_eq.mp e⟩)
    rw [h] at this
    cases this
/-- acts that may be, told by names -/
theorem may_n {s : State} {x : Act} {ns : List (List Nat)} {n h : Nat} (pp : InN s.pairs n) (ac : Ac s.pairs) (hu : (cn s).Nodup) (hc : ∀ c, cI x = some c → ∃ n, ns[c]? = some n ∧ (cn s)[c]? = some n) (m : MayA n h s x) : nmay n s (nameA ns x) = true := by
  cases x with
  | under a b =>
    obtain ⟨m1, m2, m3, m4, m5⟩ := m
    show (a != b && (!s.pairs.contains (a, b) && !(abv s.pairs n b).contains a)) = true
    rw [under_eq pp ac m2] at m5
    rw [m4, m5, bne_iff_ne.mpr m3]
    rfl
  | apart a b => exact m
  | card k ws =>
    show (cardOf s.cards k).isNone = true
    rw [cardOf_no.mpr m.2.1]
    rfl
  | add c w =>
    obtain ⟨k, h1, h2⟩ := hc c rfl
    show (match cardOf s.cards (ns.getD c []) with | some c => !c.words.contains w | none => false) = true
    rw [getD_of h1, cardOf_get hu h2]
    exact not_t.mpr m.2.2
  | grow c =>
    obtain ⟨k, h1, h2⟩ := hc c rfl
    show (cardOf s.cards (ns.getD c [])).isSome = true
    rw [getD_of h1, cardOf_get hu h2]
    rfl
  | notch c x =>
    obtain ⟨k, h1, h2⟩ := hc c rfl
    show (cardOf s.cards (ns.getD c [])).isSome = true
    rw [getD_of h1, cardOf_get hu h2]
    rfl
theorem Ok.mm (o : Ok f xs) : nmays f xs := fun i y hy => by
  have hi := lt_of_get hy
  rw [o.len] at hi
  have hx : f.acts[i]? = some f.acts[i] := List.getElem?_eq_getElem hi
  rw [o.get hx] at hy
  cases hy
  rw [← o.at_ i (by omega)]
  exact may_n (o.ws (by omega)).pp (at_ac o i (by omega)) (at_nodup o i (by omega)) (fun c e => o.idx hx c e) (o.ok i _ hx)
theorem name_le {w : List Nat} (h : VbenCore.isName w = true) : w.length ≤ 12 := by
  unfold VbenCore.isName at h
  rw [Bool.and_eq_true, Bool.and_eq_true] at h
  exact of_decide_eq_true h.2.1
theorem name_wordy {w : List Nat} (h : VbenCore.isName w = true) : w ≠ [10] ∧ w ≠ [] := by
  refine ⟨fun e => ?_, fun e => ?_⟩ <;> subst e <;> exact absurd h (by decide)
theorem getD_names {ns : List (List Nat)} (h : ∀ n ∈ ns, VbenCore.isName n = true) (c : Nat) : (ns.getD c []).length ≤ 12 := by
  rw [List.getD_eq_getElem?_getD]
  cases e : ns[c]? with
  | none => exact Nat.zero_le _
  | some n => exact name_le (h n (mem_of_get e))
theorem Ok.fb (o : Ok f xs) : FB f xs := by
  refine ⟨o.nv, fun x hx => name_le (o.nm x hx), fun y hy n hn => ?_, fun a b h => ?_⟩
  · rw [o.xe] at hy
    obtain ⟨x, hx, rfl⟩ := List.mem_map.mp hy
    cases x with
    | under a b => cases hn
    | apart a b => cases hn
    | card m ws =>
      cases (hn : m = n)
      exact name_le (o.cn_ _ (List.mem_filterMap.mpr ⟨_, hx, rfl⟩))
    | add c w =>
      cases (hn : _ = n)
      exact getD_names o.cn_ c
    | grow c =>
      cases (hn : _ = n)
      exact getD_names o.cn_ c
    | notch c h =>
      cases (hn : _ = n)
      exact getD_names o.cn_ c
  · rw [o.xe] at h
    obtain ⟨x, hx, e⟩ := List.mem_map.mp h
    cases x with
    | apart a' b' =>
      injection e with e1 e2
      subst e1
      subst e2
      obtain ⟨i, hi⟩ := List.mem_iff_getElem?.mp hx
      have m := o.ok i _ hi
      have hl := lt_of_get hi
      exact (o.ws (i := i) (by omega)).pp _ (List.contains_iff_mem.mp m)
    | _ => cases e
theorem Ok.put (o : Ok f xs) {x : Act} (hl : f.acts.length < 80) (m : MayA f.words.length f.holes (Vbenah.now f) x) (hn : ∀ n, cardN x = some n → VbenCore.isName n = true) : Ok (Vbenah.put f x) (xs ++ [nameA (f.acts.filterMap cardN) x]) := by
  have at1 : ∀ i, i ≤ f.acts.length → Vbenah.at_ (Vbenah.put f x) i = Vbenah.at_ f i := fun i hi => by
    unfold Vbenah.at_
    rw [done_congr (f := Vbenah.put f x) (g := f) rfl rfl]
    show List.foldl _ _ (((f.acts ++ [x]).take i).zipIdx) = _
    rw [List.take_append_of_le_length hi]
  refine ⟨o.hn, o.h1, o.ho, ?_, o.nm, o.nu, o.mh, ?_, fun i y hy => ?_, fun n h => ?_⟩
  · show (f.acts ++ [x]).length ≤ 80
    rw [List.length_append]
    exact hl
  · show _ = (f.acts ++ [x]).map (nameA ((f.acts ++ [x]).filterMap cardN))
    rw [List.map_append, List.map_singleton, o.xe]
    have nameEq : ∀ y, (∀ c, cI y = some c → ∃ n, (f.acts.filterMap cardN)[c]? = some n) → nameA (f.acts.filterMap cardN) y = nameA ((f.acts ++ [x]).filterMap cardN) y := fun y hy => by
      have key : ∀ c n, (f.acts.filterMap cardN)[c]? = some n → (f.acts.filterMap cardN).getD c [] = ((f.acts ++ [x]).filterMap cardN).getD c [] := fun c n h => by
        rw [getD_of h, List.filterMap_append, getD_of (x := n)]
        rw [List.getElem?_append_left (lt_of_get h)]
        exact h
      cases y with
      | under a b => rfl
      | apart a b => rfl
      | card n ws => rfl
      | add c w =>
        obtain ⟨n, h⟩ := hy c rfl
        show NAct.add _ w = NAct.add _ w
        rw [key c n h]
      | grow c =>
        obtain ⟨n, h⟩ := hy c rfl
        show NAct.grow _ = NAct.grow _
        rw [key c n h]
      | notch c k =>
        obtain ⟨n, h⟩ := hy c rfl
        show NAct.notch _ k = NAct.notch _ k
        rw [key c n h]
    congr 1
    · refine List.map_congr_left fun y hy => nameEq y fun c e => ?_
      obtain ⟨i, hi⟩ := List.mem_iff_getElem?.mp hy
      obtain ⟨n, h, _⟩ := o.idx hi c e
      exact ⟨n, h⟩
    · refine congrArg (fun z => [z]) (nameEq x fun c e => ?_)
      have hc := may_idx m e
      rw [← cn_len, show Vbenah.now f = Vbenah.at_ f f.acts.length from rfl, at_names, List.take_length] at hc
      exact ⟨_, List.getElem?_eq_getElem hc⟩
  · rcases Nat.lt_or_ge i f.acts.length with g | g
    · rw [at1 i (by omega)]
      refine o.ok i y ?_
      rw [← hy]
      exact (List.getElem?_append_left g).symm
    · have hi : i < (f.acts ++ [x]).length := lt_of_get hy
      rw [List.length_append] at hi
      have e : i = f.acts.length := by simp at hi; omega
      subst e
      rw [at1 _ (Nat.le_refl _)]
      have : (f.acts ++ [x])[f.acts.length]? = some x := by simp
      rw [show (Vbenah.put f x).acts = f.acts ++ [x] from rfl, this] at hy
      cases hy
      exact m
  · have h : n ∈ (f.acts ++ [x]).filterMap cardN := h
    rw [List.filterMap_append] at h
    rcases List.mem_append.mp h with q | q
    · exact o.cn_ n q
    · obtain ⟨y, hy, e⟩ := List.mem_filterMap.mp q
      rw [List.mem_singleton.mp hy] at e
      exact hn n e
theorem Ok.take (o : Ok f xs) (k : Nat) : Ok (pre f k) (xs.take k) := by
  refine ⟨o.hn, o.h1, o.ho, ?_, o.nm, o.nu, o.mh, ?_, fun i y hy => ?_, fun n h => ?_⟩
  · show (f.acts.take k).length ≤ 80
    have := o.la
    rw [List.length_take]
    omega
  · show _ = (f.acts.take k).map (nameA ((f.acts.take k).filterMap cardN))
    rw [o.xe, ← List.map_take]
    refine List.map_congr_left fun y hy => ?_
    have hy2 := List.mem_of_mem_take hy
    obtain ⟨i, hi⟩ := List.mem_iff_getElem?.mp hy
    have hik : i < k := by
      have := lt_of_get hi
      rw [List.length_take] at this
      omega
    rw [List.getElem?_take_of_lt hik] at hi
    have key : ∀ c, cI y = some c → (f.acts.filterMap cardN).getD c [] = ((f.acts.take k).filterMap cardN).getD c [] := fun c e => by
      obtain ⟨n, h1, h2⟩ := o.idx hi c e
      rw [at_names] at h2
      have h3 : (((f.acts.take k).take i).filterMap cardN)[c]? = some n := by
        rw [List.take_take, Nat.min_eq_left (by omega)]
        exact h2
      rw [getD_of h1, getD_of (pre_names _ _ h3)]
    cases y with
    | under a b => rfl
    | apart a b => rfl
    | card n ws => rfl
    | add c w =>
      show NAct.add _ w = NAct.add _ w
      rw [key c rfl]
    | grow c =>
      show NAct.grow _ = NAct.grow _
      rw [key c rfl]
    | notch c h =>
      show NAct.notch _ h = NAct.notch _ h
      rw [key c rfl]
  · have hy : (f.acts.take k)[i]? = some y := hy
    have hik : i < k := by
      have := lt_of_get hy
      rw [List.length_take] at this
      omega
    rw [List.getElem?_take_of_lt hik] at hy
    rw [at_pre f (by omega)]
    exact o.ok i y hy
  · have h : n ∈ (f.acts.take k).filterMap cardN := h
    obtain ⟨y, hy, e⟩ := List.mem_filterMap.mp h
    exact o.cn_ n (List.mem_filterMap.mpr ⟨y, List.mem_of_mem_take hy, e⟩)
theorem ok_start : Ok Vbenah.start [] :=
  ⟨Nat.zero_le _, Nat.le_refl _, by decide, Nat.zero_le _, fun _ h => (nomatch h), List.nodup_nil, fun _ h => (nomatch h), rfl, fun _ _ h => (nomatch h), fun _ h => (nomatch h)⟩
end
end Bw
namespace Bw
open PySem PySem.Spec PyProof.Rows L2
open Vbenah (File State Card Act)
/-! ### the reader -/
/-- a heap without some addresses -/
def less (S : List Addr) (H : Hp) : Hp := fun b => if b ∈ S then none else H b
theorem less_in {S : List Addr} {H : Hp} {b : Addr} (h : b ∈ S) : less S H b = none := if_pos h
theorem less_out {S : List Addr} {H : Hp} {b : Addr} (h : b ∉ S) : less S H b = H b := if_neg h
theorem less_sub {S : List Addr} {H : Hp} : Same (less S H) H := fun b o e => by
  unfold less at e
  split at e
  · cases e
  · exact e
theorem less_not {S : List Addr} {H : Hp} {b : Addr} {o : HO} (e : less S H b = some o) : b ∉ S := fun m => by
  rw [less_in m] at e
  cases e
theorem Same.less {S : List Addr} {H H' : Hp} (s : Same H H') : Same (less S H) (less S H') := fun b o e => by
  have hn := less_not e
  rw [less_out hn] at e ⊢
  exact s _ _ e
theorem less_upd {L d : Addr} {H : Hp} {o : HO} (h : d ≠ L) : less [L] (upd H d o) = upd (less [L] H) d o := by
  funext b
  by_cases e : b = L
  · rw [less_in (by simp [e]), upd_ne (fun z => h (z.symm.trans e)), less_in (by simp [e])]
  · rw [less_out (by simpa using e)]
    by_cases g : b = d
    · rw [g, upd_same, upd_same]
    · rw [upd_ne g, upd_ne g, less_out (by simpa using e)]
theorem same_less {L : Addr} {H H' : Hp} (s : Same H H') (n : H L = none) : Same H (less [L] H') := fun b o e => by
  rw [less_out (by simpa using ne_of_none e n)]
  exact s _ _ e
abbrev readerF (pl : Addr) (len at_ : Nat) (fl sa : Addr) : List (Str × V) := [("pieces", .ref pl), ("length", .int (len : Nat)), ("at", .int (at_ : Nat)), ("file", .ref fl), ("state", .ref sa)]
/-- where a reader's things lie -/
structure RC where
  rx : Addr
  dx : Addr
  pl : Addr
  fl : Addr
  fx : Addr
  nl : Addr
  ml : Addr
  al : Addr
  sa : Addr
  ps : List Addr
  ns : List Addr
  ms : List Addr
  as : List Addr
  ll : Addr
/-- not one of what a reader writes -/
def RC.off (z : RC) (q : Addr) : Prop := q ≠ z.rx ∧ q ≠ z.fl ∧ q ≠ z.nl ∧ q ≠ z.ml ∧ q ≠ z.al ∧ q ≠ z.ll
/-- a reader: C what does not change, B what is known beside its state, H all; pieces pcs, at_ of them read -/
structure RdX (K : PySem.W.Frag) (H0 C B H : Hp) (z : RC) (y : SC) (f : File) (xs : List NAct) (len at_ : Nat) (pcs : List (Nat × List Nat)) : Prop where
  h0 : Same H0 B
  cb : Same C B
  so : SOx K B H z.sa z.ml (nat_ f xs xs.length) y
  bx : B z.rx = some (.ins (He.ga K "Reader") z.dx (readerF z.pl len at_ z.fl z.sa))
  bf : B z.fl = some (.ins (He.ga K "File") z.fx (fileF (.int (f.holes : Nat)) (.ref z.nl) (.ref z.ml) (.ref z.al)))
  cp : C z.pl = some (.lst (z.ps.map V.ref))
  bn : B z.nl = some (.lst (z.ns.map V.ref))
  bm : B z.ml = some (.lst (z.ms.map V.ref))
  ba : B z.al = some (.lst (z.as.map V.ref))
  pp : Paired (PieceAt C) z.ps pcs
  pn : Paired (TupN C) z.ns (f.words.map (·.1))
  pm : Paired (LstN C) z.ms (mks f)
  pa : Paired (NActAt C) z.as xs
  c1 : C z.rx = none
  c2 : C z.fl = none
  c3 : C z.nl = none
  c4 : C z.ml = none
  c5 : C z.al = none
  c6 : C z.ll = none
  e1 : H0 z.rx = none
  e2 : H0 z.fl = none
  e3 : H0 z.nl = none
  e4 : H0 z.ml = none
  e5 : H0 z.al = none
  e6 : ∃ o, H0 z.ll = some o
  nd : [z.nl, z.ml, z.al].Nodup
  le : at_ ≤ pcs.length
  l2 : pcs.length ≤ 5000
  lw : ∀ w ∈ pcs, w.2.length ≤ 2000
  ok : Ok f xs
section
variable {K : PySem.W.Frag} {H0 C B H H' : Hp} {z : RC} {y : SC} {f : File} {xs : List NAct} {len at_ : Nat} {pcs : List (Nat × List Nat)}
theorem RdX.same (R : RdX K H0 C B H z y f xs len at_ pcs) (s : Same H H') : RdX K H0 C B H' z y f xs len at_ pcs := { R with so := R.so.same s }
theorem RdX.bh (R : RdX K H0 C B H z y f xs len at_ pcs) : Same B H := R.so.sm
theorem RdX.ch (R : RdX K H0 C B H z y f xs len at_ pcs) : Same C H := Same.trans R.cb R.so.sm
theorem RdX.hh (R : RdX K H0 C B H z y f xs len at_ pcs) : Same H0 H := Same.trans R.h0 R.bh
theorem RdX.marks (R : RdX K H0 C B H z y f xs len at_ pcs) : MarksAt B z.ml (mks f) := ⟨z.ms, R.bm, paired_same (fun _ _ q => R.cb _ _ q) R.pm⟩
theorem RdX.view (R : RdX K H0 C B H z y f xs len at_ pcs) : SV K H z.sa f (nat_ f xs xs.length) := R.so.view R.marks
theorem RdX.ws (R : RdX K H0 C B H z y f xs len at_ pcs) : WS f (nat_ f xs xs.length) xs.length := ws_nat R.ok.nv _ (Nat.le_refl _)
theorem reader_ne_card {C D d e p w n pl fl sa : Addr} {len at_ : Nat} : HO.ins C d (readerF pl len at_ fl sa) ≠ HO.ins D e (cardF p w n) := fun z => by
  injection z with _ _ z
  injection z with z _
  injection z with z _
  exact absurd z (by decide)
theorem file_ne_card {C D d e p w n : Addr} {a b c g : V} : HO.ins C d (fileF a b c g) ≠ HO.ins D e (cardF p w n) := fun z => by
  injection z with _ _ z
  injection z with z _
  injection z with z _
  exact absurd z (by decide)
theorem file_ne_reader {C D d e pl fl sa : Addr} {len at_ : Nat} {a b c g : V} : HO.ins C d (fileF a b c g) ≠ HO.ins D e (readerF pl len at_ fl sa) := fun z => by
  injection z with _ _ z
  injection z with z _
  injection z with z _
  exact absurd z (by decide)
/-- what is new is none of a reader's -/
theorem RdX.fresh (R : RdX K H0 C B H z y f xs len at_ pcs) {q : Addr} (nq : H q = none) : z.off q := by
  have n : ∀ {b o}, B b = some o → q ≠ b := fun e h => by
    rw [h, R.bh _ _ e] at nq
    cases nq
  obtain ⟨o, e⟩ := R.e6
  exact ⟨n R.bx, n R.bf, n R.bn, n R.bm, n R.ba, n (R.h0 _ _ e)⟩
theorem RdX.offC (R : RdX K H0 C B H z y f xs len at_ pcs) {q : Addr} {o : HO} (e : C q = some o) : z.off q :=
  ⟨ne_of_none e R.c1, ne_of_none e R.c2, ne_of_none e R.c3, ne_of_none e R.c4, ne_of_none e R.c5, ne_of_none e R.c6⟩
/-- one on -/
theorem RdX.move (R : RdX K H0 C B H z y f xs len at_ pcs) (h : at_ < pcs.length) :
    RdX K H0 C (upd B z.rx (.ins (He.ga K "Reader") z.dx (readerF z.pl len (at_ + 1) z.fl z.sa))) (upd H z.rx (.ins (He.ga K "Reader") z.dx (readerF z.pl len (at_ + 1) z.fl z.sa))) z y f xs len (at_ + 1) pcs := by
  have st : ∀ {b o}, B b = some o → o ≠ .ins (He.ga K "Reader") z.dx (readerF z.pl len at_ z.fl z.sa) → upd B z.rx (.ins (He.ga K "Reader") z.dx (readerF z.pl len (at_ + 1) z.fl z.sa)) b = some o := fun e n => by
    rw [upd_ne (ne_obj e R.bx n)]
    exact e
  exact { R with
    h0 := fun b o e => by
      rw [upd_ne (ne_of_none e R.e1)]
      exact R.h0 _ _ e
    cb := fun b o e => by
      rw [upd_ne (ne_of_none e R.c1)]
      exact R.cb _ _ e
    so := R.so.bput R.bx (fun _ z => by cases z) (fun _ _ _ _ _ => reader_ne_card)
    bx := upd_same
    bf := st R.bf file_ne_reader
    bn := st R.bn (fun z => by cases z)
    bm := st R.bm (fun z => by cases z)
    ba := st R.ba (fun z => by cases z)
    le := h }
/-- a new object beside -/
theorem RdX.bnew (R : RdX K H0 C B H z y f xs len at_ pcs) {q : Addr} {o : HO} (nq : H q = none) : RdX K H0 C (upd B q o) (upd H q o) z y f xs len at_ pcs := by
  have s : Same B (upd B q o) := Same.new (R.bh.free nq)
  exact { R with
    h0 := Same.trans R.h0 s
    cb := Same.trans R.cb s
    so := R.so.bnew nq
    bx := s _ _ R.bx
    bf := s _ _ R.bf
    bn := s _ _ R.bn
    bm := s _ _ R.bm
    ba := s _ _ R.ba }
/-- what stands beside written anew -/
theorem RdX.bset (R : RdX K H0 C B H z y f xs len at_ pcs) {q : Addr} {o o' : HO} (hb : B q = some o) (hc : C q = none ∧ H0 q = none) (n1 : ∀ xs, o ≠ .tup xs) (n2 : ∀ C d p w n, o ≠ .ins C d (cardF p w n)) (ho : z.off q) :
    RdX K H0 C (upd B q o') (upd H q o') z y f xs len at_ pcs := by
  obtain ⟨g1, g2, g3, g4, g5, g6⟩ := ho
  have st : ∀ {b u}, B b = some u → q ≠ b → upd B q o' b = some u := fun e n => by
    rw [upd_ne (Ne.symm n)]
    exact e
  exact { R with
    h0 := fun b u e => st (R.h0 _ _ e) (Ne.symm (ne_of_none e hc.2))
    cb := fun b u e => st (R.cb _ _ e) (Ne.symm (ne_of_none e hc.1))
    so := R.so.bput hb n1 n2
    bx := st R.bx g1
    bf := st R.bf g2
    bn := st R.bn g3
    bm := st R.bm g4
    ba := st R.ba g5 }
/-- what stands beside is never written again -/
theorem RdX.know (R : RdX K H0 C B H z y f xs len at_ pcs) {q : Addr} {o : HO} (hb : B q = some o) (ho : z.off q) : Same C (upd C q o) ∧ RdX K H0 (upd C q o) B H z y f xs len at_ pcs := by
  obtain ⟨g1, g2, g3, g4, g5, g6⟩ := ho
  have sC : Same C (upd C q o) := fun b u e => by
    by_cases h : b = q
    · subst h
      rw [upd_same, ← hb]
      exact R.cb _ _ e
    · rw [upd_ne h]
      exact e
  have nn : ∀ {b}, C b = none → q ≠ b → upd C q o b = none := fun e n => by
    rw [upd_ne (Ne.symm n)]
    exact e
  exact ⟨sC, { R with
    cb := fun b u e => by
      by_cases h : b = q
      · subst h
        rw [upd_same] at e
        rw [hb]
        exact e
      · rw [upd_ne h] at e
        exact R.cb _ _ e
    cp := sC _ _ R.cp
    pp := paired_same (fun _ _ q => q.same sC) R.pp
    pn := paired_same (fun _ _ q => sC _ _ q) R.pn
    pm := paired_same (fun _ _ q => sC _ _ q) R.pm
    pa := paired_same (fun _ _ q => q.same sC) R.pa
    c1 := nn R.c1 g1
    c2 := nn R.c2 g2
    c3 := nn R.c3 g3
    c4 := nn R.c4 g4
    c5 := nn R.c5 g5
    c6 := nn R.c6 g6 }⟩
/-- a new object, known for good -/
theorem RdX.cnew (R : RdX K H0 C B H z y f xs len at_ pcs) {q : Addr} {o : HO} (nq : H q = none) : RdX K H0 (upd C q o) (upd B q o) (upd H q o) z y f xs len at_ pcs :=
  ((R.bnew nq).know upd_same (R.fresh nq)).2
theorem RdX.know' (R : RdX K H0 C B H z y f xs len at_ pcs) {q : Addr} {o : HO} (nq : H q = none) : Same C (upd C q o) := ((R.bnew nq).know upd_same (R.fresh nq)).1
end
/-! #### the words left -/
/-- a word that is one -/
def wordy (b : List Nat) : Prop := b ≠ [10] ∧ b ≠ []
instance (b : List Nat) : Decidable (wordy b) := inferInstanceAs (Decidable (_ ∧ _))
theorem pkd_word {b : List Nat} (h : wordy b) : pkd b = (0, b) := by
  unfold pkd
  rw [if_neg h.1, if_neg h.2]
theorem pkd_zero {b : List Nat} : ((pkd b).1 == 0) = decide (wordy b) := by
  unfold pkd wordy
  by_cases h1 : b = [10]
  · rw [if_pos h1]
    simp [h1]
  · rw [if_neg h1]
    by_cases h2 : b = []
    · rw [if_pos h2]
      simp [h2]
    · rw [if_neg h2]
      simp [h1, h2]
theorem pkd_one {b : List Nat} : ((pkd b).1 == 1) = (b == [10]) := by
  unfold pkd
  by_cases h1 : b = [10]
  · rw [if_pos h1]
    simp [h1]
  · rw [if_neg h1]
    have e : (b == [10]) = false := beq_eq_false_iff_ne.mpr h1
    by_cases h2 : b = []
    · rw [if_pos h2, e]
      rfl
    · rw [if_neg h2, e]
      rfl
/-- whether a word comes next -/
def nextW (ws : List (Nat × List Nat)) : Bool := match ws with
  | [] => false
  | w :: _ => decide (wordy w.2)
abbrev Wd : Type := Nat × List Nat
abbrev Exc (α : Type) : Type := Except Nat α
theorem next_t {ws : List Wd} (h : nextW ws = true) : ∃ w r, ws = w :: r ∧ wordy w.2 := by
  cases ws with
  | nil => cases h
  | cons w r => exact ⟨w, r, rfl, of_decide_eq_true h⟩
theorem drop_one {α : Type} {l : List α} {i : Nat} {w : α} {r : List α} (h : l.drop i = w :: r) : l[i]? = some w ∧ r = l.drop (i + 1) ∧ i < l.length := by
  have hl : i < l.length := by
    rcases Nat.lt_or_ge i l.length with g | g
    · exact g
    · rw [List.drop_eq_nil_of_le g] at h
      cases h
  rw [List.drop_eq_getElem_cons hl] at h
  injection h with h1 h2
  exact ⟨by rw [List.getElem?_eq_getElem hl, h1], h2.symm, hl⟩
/-! #### numbers read -/
theorem val_ge (l : List Nat) : ∀ v : Nat, v * 10 ^ l.length ≤ l.foldl (fun v d => v * 10 + d) v := by
  induction l with
  | nil => intro v; simp
  | cons d l ih =>
    intro v
    have := ih (v * 10 + d)
    rw [List.foldl_cons, List.length_cons, Nat.pow_succ]
    refine Nat.le_trans ?_ this
    rw [Nat.add_mul, Nat.mul_assoc, Nat.mul_comm 10]
    exact Nat.le_add_right _ _
theorem natOf_some {b : List Nat} {n : Nat} (h : VbenCore.natOf b = some n) : numOf b = (n : Nat) := by
  unfold VbenCore.natOf at h
  split at h
  · cases h
  · rename_i g
    unfold numOf
    rw [if_neg fun z => g ?_]
    · exact congrArg _ (Option.some.inj h)
    · rcases z with z | z | z
      · exact Or.inl z
      · exact Or.inr (Or.inr (Or.inl z))
      · exact Or.inr (Or.inr (Or.inr z))
theorem natOf_none {b : List Nat} (h : VbenCore.natOf b = none) : numOf b = -1 ∨ 1000 < numOf b := by
  unfold numOf
  split
  · exact Or.inl rfl
  · rename_i g
    right
    have g1 : ¬ b.isEmpty = true := fun z => g (Or.inl z)
    have g2 : ¬ b.all VbenCore.isDigit = false := fun z => g (Or.inr (Or.inl z))
    have g3 : ¬ VbenCore.isZeroLed b = true := fun z => g (Or.inr (Or.inr z))
    have hl : 300 < b.length := by
      rcases Nat.lt_or_ge 300 b.length with q | q
      · exact q
      · unfold VbenCore.natOf at h
        rw [if_neg] at h
        · cases h
        · rintro (z | z | z | z)
          · exact g1 z
          · exact absurd z (Nat.not_lt.mpr q)
          · exact g2 z
          · exact g3 z
    cases b with
    | nil => simp at hl
    | cons c l =>
      have g2 : (c :: l).all VbenCore.isDigit = true := by simpa using g2
      rw [List.all_cons, Bool.and_eq_true] at g2
      have hc := g2.1
      unfold VbenCore.isDigit at hc
      rw [Bool.and_eq_true, decide_eq_true_iff, decide_eq_true_iff] at hc
      have hne : c ≠ 48 := fun z => g3 (by
        unfold VbenCore.isZeroLed
        subst z
        rw [Bool.and_eq_true]
        exact ⟨rfl, decide_eq_true (by omega)⟩)
      have h1 := val_ge (l.map fun c => c - 48) (0 * 10 + (c - 48))
      have e : VbenCore.valueOf 10 ((c :: l).map fun c => c - 48) = (l.map fun c => c - 48).foldl (fun v d => v * 10 + d) (0 * 10 + (c - 48)) := rfl
      rw [← e, List.length_map] at h1
      have h3 : 4 ≤ l.length := by
        simp at hl
        omega
      have h4 : 10 ^ 4 ≤ 10 ^ l.length := Nat.pow_le_pow_right (by decide) h3
      have h5 : 1 * 10 ^ l.length ≤ (0 * 10 + (c - 48)) * 10 ^ l.length := Nat.mul_le_mul_right _ (by omega)
      omega
/-- a number in a range -/
theorem numIn_yes {e lo hi : Nat} {w : Wd} {r : List Wd} (hh : hi ≤ 1000) (h1 : (lo : Int) ≤ numOf w.2) (h2 : numOf w.2 ≤ (hi : Int)) : ∃ n : Nat, numOf w.2 = (n : Nat) ∧ Vbenah.numIn e lo hi (w :: r) = .ok (n, r) ∧ lo ≤ n ∧ n ≤ hi ∧ VbenCore.natOf w.2 = some n := by
  cases h : VbenCore.natOf w.2 with
  | none =>
    rcases natOf_none h with g | g <;> omega
  | some n =>
    have g := natOf_some h
    refine ⟨n, g, ?_, by omega, by omega, rfl⟩
    show (match VbenCore.natOf w.2 with | some n => if lo ≤ n ∧ n ≤ hi then Except.ok (n, r) else .error w.1 | none => .error w.1) = _
    rw [h]
    exact if_pos ⟨by omega, by omega⟩
theorem numIn_no {e lo hi : Nat} {w : Wd} {r : List Wd} (hh : ¬ ((lo : Int) ≤ numOf w.2 ∧ numOf w.2 ≤ (hi : Int))) : Vbenah.numIn e lo hi (w :: r) = .error w.1 := by
  show (match VbenCore.natOf w.2 with | some n => if lo ≤ n ∧ n ≤ hi then Except.ok (n, r) else .error w.1 | none => .error w.1) = _
  cases h : VbenCore.natOf w.2 with
  | none => rfl
  | some n =>
    have g := natOf_some h
    exact if_neg fun ⟨h1, h2⟩ => hh ⟨by omega, by omega⟩
theorem natOf_wordy {b : List Nat} (h : ¬ wordy b) : VbenCore.natOf b = none := by
  unfold wordy at h
  by_cases h1 : b = [10]
  · rw [h1]
    rfl
  · have : b = [] := by
      cases b with
      | nil => rfl
      | cons c l => exact absurd ⟨h1, by simp⟩ h
    rw [this]
    rfl
theorem numIn_stop {e lo hi : Nat} {ws : List Wd} (h : nextW ws = false) : Vbenah.numIn e lo hi ws = .error (VbenCore.placeOf e ws) := by
  cases ws with
  | nil => rfl
  | cons w r =>
    show (match VbenCore.natOf w.2 with | some n => if lo ≤ n ∧ n ≤ hi then Except.ok (n, r) else .error w.1 | none => .error w.1) = _
    rw [natOf_wordy (of_decide_eq_false h)]
    rfl
end Bw
namespace Bw
open PySem PySem.Spec PyProof.Rows L2
open Vbenah (File State Card Act)
section
variable {P : Program} {w : World} {K : PySem.W.Frag} {mg : Str → Option Value} {base : Heap}
def sp_Reader_is_over (K : PySem.W.Frag) : Sp := fun vs H Q _ => ∃ (H0 C B : Hp) (z : RC) (y : SC) (f : File) (xs : List NAct) (len at_ : Nat) (pcs : List (Nat × List Nat)), vs = [.ref z.rx] ∧ RdX K H0 C B H z y f xs len at_ pcs ∧ Q (.bl (at_ == pcs.length)) H
theorem len_Reader_is_over (K : PySem.W.Frag) : ∀ vs H Q E, sp_Reader_is_over K vs H Q E → vs.length = 1 := fun _ _ _ _ ⟨_, _, _, _, _, _, _, _, _, _, h, _⟩ => by rw [h]; rfl
theorem sc_Reader_is_over : FnScope (["self"] : List Str) ["self"] (defScope s_Reader_is_over) := C8.fnScope_by (by decide +kernel)
theorem c_Reader_is_over (E : Env P w K mg base) : Met P w K mg base CX0 1 "Reader" "is_over" (sp_Reader_is_over K) := by
  have sc := sc_Reader_is_over
  refine mkMet (st := s_Reader_is_over) (E.top.d.def_ 84 (d := d_Reader_is_over) rfl) (E.cls 102) (E.meth 116) sc (fun _ _ _ _ _ _ us hl => match us, hl with | [_], _ => rfl) (len_Reader_is_over K) (fun cdv A outer s H vs Q X hr h => ⟨_, PSs.nox ((pss_one (ps_ret (pe_cmpR op_eq (peF (K := K) (pv 0) rfl) (pe_callB (clen (K := K)) rfl (fr_len E) (by decide +kernel) (pa_cons (peF (K := K) (pv 0) rfl) pa_nil)) (nomark _))))), ?_⟩)
  obtain ⟨H0, C, B, z, y, f, xs, len, at_, pcs, rfl, R, k⟩ := h
  have bx := R.so.sm _ _ R.bx
  have cp := R.so.sm _ _ (R.cb _ _ R.cp)
  have lp := paired_len R.pp
  refine ⟨_, rfl, z.rx, _, z.dx, _, _, rfl, bx, k_Reader E, n_Reader_at E, rfl, _, rfl, z.rx, _, z.dx, _, _, rfl, bx, k_Reader E, n_Reader_pieces E, rfl, z.pl, _, rfl, Or.inl (SqL.of cp), rfl, ?_⟩
  rw [List.length_map, lp, dN]
  exact k
/-- what a fault at a place wishes -/
def FaultW (K : PySem.W.Frag) (H0 : Hp) (p : Nat) (E : XK) : Prop := ∀ d H', Same H0 H' → H' d = some (.xd [("place", .int (p : Nat))]) → E (.ref (He.ga K "Fault")) (some d) H'
def sp_Reader_fail (K : PySem.W.Frag) : Sp := fun vs H Q E => ∃ (H0 C B : Hp) (z : RC) (y : SC) (f : File) (xs : List NAct) (len at_ : Nat) (pcs : List (Nat × List Nat)), vs = [.ref z.rx] ∧ RdX K H0 C B H z y f xs len at_ pcs ∧ FaultW K H0 (VbenCore.placeOf len (pcs.drop at_)) E
theorem len_Reader_fail (K : PySem.W.Frag) : ∀ vs H Q E, sp_Reader_fail K vs H Q E → vs.length = 1 := fun _ _ _ _ ⟨_, _, _, _, _, _, _, _, _, _, h, _⟩ => by rw [h]; rfl
theorem sc_Reader_fail : FnScope (["self"] : List Str) ["self"] (defScope s_Reader_fail) := C8.fnScope_by (by decide +kernel)
theorem c_Reader_fail (E : Env P w K mg base) : Met P w K mg base (L2.CX P w) 3 "Reader" "fail" (sp_Reader_fail K) := by
  have sc := sc_Reader_fail
  refine mkMet (st := s_Reader_fail) (E.top.d.def_ 85 (d := d_Reader_fail) rfl) (E.cls 102) (E.meth 117) sc (fun _ _ _ _ _ _ us hl => match us, hl with | [_], _ => rfl) (len_Reader_fail K) (fun cdv A outer s H vs Q X hr h => ⟨_, (pss_cons (ps_if (pt_val (pe_m0 (c_Reader_is_over E) hr (by decide) pass0 (pv 0))) (pss_one (ps_raise rfl (takes_of rfl rfl rfl rfl) (pmk_fault E hr (by decide) (pa_cons (peF (K := K) (pv 0) rfl) pa_nil)))) pss_nil)
    (pss_one (ps_raise rfl (takes_of rfl rfl rfl rfl) (pmk_fault E hr (by decide) (pa_cons (pe_ix (ixT (K := K)) (pe_ix (ixL (K := K)) (peF (K := K) (pv 0) rfl) (peF (K := K) (pv 0) rfl) (fun _ _ => rfl)) pe_int (fun _ _ => rfl)) pa_nil))))), ?_⟩)
  obtain ⟨H0, C, B, z, y, f, xs, len, at_, pcs, rfl, R, k⟩ := h
  have bx := R.so.sm _ _ R.bx
  have cp := R.so.sm _ _ (R.cb _ _ R.cp)
  have s0 : Same H0 H := R.hh
  refine ⟨_, rfl, z.rx, z.dx, _, rfl, bx, rfl, H0, C, B, z, y, f, xs, len, at_, pcs, rfl, R, _, rfl, ?_⟩
  by_cases h : at_ = pcs.length
  · refine if_t (beq_iff_eq.mpr h) ⟨_, rfl, z.rx, _, z.dx, _, _, rfl, bx, k_Reader E, n_Reader_length E, rfl, _, rfl, fun d hd => k d _ (Same.trans s0 (Same.new hd)) ?_⟩
    rw [h, List.drop_length]
    exact upd_same
  · have hl : at_ < pcs.length := by
      have := R.le
      omega
    have hp : pcs[at_]? = some pcs[at_] := List.getElem?_eq_getElem hl
    obtain ⟨pb, hpb, q, g1, g2⟩ := paired_get R.pp hp
    refine if_f (beq_eq_false_iff_ne.mpr h) ⟨_, rfl, z.rx, _, z.dx, _, _, rfl, bx, k_Reader E, n_Reader_pieces E, rfl, _, rfl, z.rx, _, z.dx, _, _, rfl, bx, k_Reader E, n_Reader_at E, rfl, z.pl, _, (at_ : Nat), .ref pb, rfl, rfl, SqL.of cp, atI_nat (get_ref hpb), pb, _, 2, .int ((pcs[at_]).1 : Nat), rfl, rfl, SqT.of (R.so.sm _ _ (R.cb _ _ g1)), rfl, _, rfl, fun d hd => k d _ (Same.trans s0 (Same.new hd)) ?_⟩
    rw [List.drop_eq_getElem_cons hl]
    exact upd_same
def sp_Reader_row (K : PySem.W.Frag) : Sp := fun vs H Q E => ∃ (H0 C B : Hp) (z : RC) (y : SC) (f : File) (xs : List NAct) (len at_ : Nat) (pcs : List (Nat × List Nat)), vs = [.ref z.rx] ∧ RdX K H0 C B H z y f xs len at_ pcs ∧
  (nextW (pcs.drop at_) = false → FaultW K H0 (VbenCore.placeOf len (pcs.drop at_)) E) ∧ ∀ w r q, pcs.drop at_ = w :: r → wordy w.2 → TupN C q w.2 → Q (.ref q) H
theorem len_Reader_row (K : PySem.W.Frag) : ∀ vs H Q E, sp_Reader_row K vs H Q E → vs.length = 1 := fun _ _ _ _ ⟨_, _, _, _, _, _, _, _, _, _, h, _⟩ => by rw [h]; rfl
theorem sc_Reader_row : FnScope (["self"] : List Str) ["self"] (defScope s_Reader_row) := C8.fnScope_by (by decide +kernel)
theorem c_Reader_row (E : Env P w K mg base) : Met P w K mg base (L2.CX P w) 4 "Reader" "row" (sp_Reader_row K) := by
  have sc := sc_Reader_row
  refine mkMet (st := s_Reader_row) (E.top.d.def_ 86 (d := d_Reader_row) rfl) (E.cls 102) (E.meth 118) sc (fun _ _ _ _ _ _ us hl => match us, hl with | [_], _ => rfl) (len_Reader_row K) (fun cdv A outer s H vs Q X hr h => ⟨_, (pss_cons (ps_if (PW.pt (pw_or (pt_val (pe_m0 (c_Reader_is_over E) hr (by decide) pass0 (pv 0))) (pw_or1 (pt_cmpR op_ne (pe_ix (ixT (K := K)) (pe_ix (ixL (K := K)) (peF (K := K) (pv 0) rfl) (peF (K := K) (pv 0) rfl) (fun _ _ => rfl)) pe_int (fun _ _ => rfl)) (C8.pe_gc rfl (g_WORD E)) (nomark _))))) (pss_one (ps_expr (pe_m0 (c_Reader_fail E) hr (by decide) (passX (takes_of rfl rfl rfl rfl)) (pv 0)))) pss_nil)
    (pss_one (ps_ret (pe_ix (ixT (K := K)) (pe_ix (ixL (K := K)) (peF (K := K) (pv 0) rfl) (peF (K := K) (pv 0) rfl) (fun _ _ => rfl)) pe_int (fun _ _ => rfl))))), ?_⟩)
  obtain ⟨H0, C, B, z, y, f, xs, len, at_, pcs, rfl, R, k0, k⟩ := h
  have bx := R.so.sm _ _ R.bx
  have cp := R.so.sm _ _ (R.cb _ _ R.cp)
  refine ⟨_, rfl, z.rx, z.dx, _, rfl, bx, rfl, H0, C, B, z, y, f, xs, len, at_, pcs, rfl, R, _, rfl, ?_⟩
  by_cases h : at_ = pcs.length
  · refine if_t (beq_iff_eq.mpr h) (if_t rfl ⟨_, rfl, z.rx, z.dx, _, rfl, bx, rfl, H0, C, B, z, y, f, xs, len, at_, pcs, rfl, R, k0 ?_⟩)
    rw [h, List.drop_length]
    rfl
  · have hl : at_ < pcs.length := by
      have := R.le
      omega
    have hp : pcs[at_]? = some pcs[at_] := List.getElem?_eq_getElem hl
    have hd : pcs.drop at_ = pcs[at_] :: pcs.drop (at_ + 1) := List.drop_eq_getElem_cons hl
    obtain ⟨pb, hpb, q, g1, g2⟩ := paired_get R.pp hp
    have g1H := R.so.sm _ _ (R.cb _ _ g1)
    generalize pcs[at_] = w at *
    refine if_f (beq_eq_false_iff_ne.mpr h) ⟨_, rfl, z.rx, _, z.dx, _, _, rfl, bx, k_Reader E, n_Reader_pieces E, rfl, _, rfl, z.rx, _, z.dx, _, _, rfl, bx, k_Reader E, n_Reader_at E, rfl, z.pl, _, (at_ : Nat), .ref pb, rfl, rfl, SqL.of cp, atI_nat (get_ref hpb), pb, _, 0, .int ((pkd w.2).1 : Nat), rfl, rfl, SqT.of g1H, rfl, rfl, _, rfl, ?_⟩
    have e0 : decide (V.int ((pkd w.2).1 : Nat) = V.int 0) = decide (wordy w.2) := (dN _ 0).trans pkd_zero
    rw [e0]
    by_cases hw : wordy w.2
    · refine if_f (by rw [decide_eq_true hw]; rfl) ⟨_, rfl, z.rx, _, z.dx, _, _, rfl, bx, k_Reader E, n_Reader_pieces E, rfl, _, rfl, z.rx, _, z.dx, _, _, rfl, bx, k_Reader E, n_Reader_at E, rfl, z.pl, _, (at_ : Nat), .ref pb, rfl, rfl, SqL.of cp, atI_nat (get_ref hpb), pb, _, 1, .ref q, rfl, rfl, SqT.of g1H, rfl, k w _ q hd hw ?_⟩
      rw [pkd_word hw] at g2
      exact g2
    · refine if_t (by rw [decide_eq_false hw]; rfl) ⟨_, rfl, z.rx, z.dx, _, rfl, bx, rfl, H0, C, B, z, y, f, xs, len, at_, pcs, rfl, R, k0 ?_⟩
      rw [hd]
      exact decide_eq_false hw
def sp_Reader_is_word (K : PySem.W.Frag) : Sp := fun vs H Q _ => ∃ (H0 C B : Hp) (z : RC) (y : SC) (f : File) (xs : List NAct) (len at_ : Nat) (pcs : List (Nat × List Nat)), vs = [.ref z.rx] ∧ RdX K H0 C B H z y f xs len at_ pcs ∧ Q (.bl (nextW (pcs.drop at_))) H
theorem len_Reader_is_word (K : PySem.W.Frag) : ∀ vs H Q E, sp_Reader_is_word K vs H Q E → vs.length = 1 := fun _ _ _ _ ⟨_, _, _, _, _, _, _, _, _, _, h, _⟩ => by rw [h]; rfl
theorem sc_Reader_is_word : FnScope (["self"] : List Str) ["self"] (defScope s_Reader_is_word) := C8.fnScope_by (by decide +kernel)
theorem c_Reader_is_word (E : Env P w K mg base) : Met P w K mg base CX0 2 "Reader" "is_word" (sp_Reader_is_word K) := by
  have sc := sc_Reader_is_word
  refine mkMet (st := s_Reader_is_word) (E.top.d.def_ 87 (d := d_Reader_is_word) rfl) (E.cls 102) (E.meth 119) sc (fun _ _ _ _ _ _ us hl => match us, hl with | [_], _ => rfl) (len_Reader_is_word K) (fun cdv A outer s H vs Q X hr h => ⟨_, PSs.nox ((pss_one (ps_ret (pe_and (pe_not (pe_m0 (c_Reader_is_over E) hr (by decide) pass0 (pv 0))) (pe_one (pe_cmpR op_eq (pe_ix (ixT (K := K)) (pe_ix (ixL (K := K)) (peF (K := K) (pv 0) rfl) (peF (K := K) (pv 0) rfl) (fun _ _ => rfl)) pe_int (fun _ _ => rfl)) (C8.pe_gc rfl (g_WORD E)) (nomark _))))))), ?_⟩)
  obtain ⟨H0, C, B, z, y, f, xs, len, at_, pcs, rfl, R, k⟩ := h
  have bx := R.so.sm _ _ R.bx
  have cp := R.so.sm _ _ (R.cb _ _ R.cp)
  refine ⟨_, rfl, z.rx, z.dx, _, rfl, bx, rfl, H0, C, B, z, y, f, xs, len, at_, pcs, rfl, R, _, rfl, _, rfl, ?_⟩
  by_cases h : at_ = pcs.length
  · rw [h, List.drop_length] at k
    exact if_f (by rw [beq_iff_eq.mpr h]; rfl) k
  · have hl : at_ < pcs.length := by
      have := R.le
      omega
    have hp : pcs[at_]? = some pcs[at_] := List.getElem?_eq_getElem hl
    have hd : pcs.drop at_ = pcs[at_] :: pcs.drop (at_ + 1) := List.drop_eq_getElem_cons hl
    obtain ⟨pb, hpb, q, g1, g2⟩ := paired_get R.pp hp
    have g1H := R.so.sm _ _ (R.cb _ _ g1)
    generalize pcs[at_] = w at *
    rw [hd] at k
    refine if_t (by rw [beq_eq_false_iff_ne.mpr h]; rfl) ⟨_, rfl, z.rx, _, z.dx, _, _, rfl, bx, k_Reader E, n_Reader_pieces E, rfl, _, rfl, z.rx, _, z.dx, _, _, rfl, bx, k_Reader E, n_Reader_at E, rfl, z.pl, _, (at_ : Nat), .ref pb, rfl, rfl, SqL.of cp, atI_nat (get_ref hpb), pb, _, 0, .int ((pkd w.2).1 : Nat), rfl, rfl, SqT.of g1H, rfl, rfl, ?_⟩
    have e0 : decide (V.int ((pkd w.2).1 : Nat) = V.int 0) = decide (wordy w.2) := (dN _ 0).trans pkd_zero
    rw [e0]
    exact k
def sp_Reader_is_just (K : PySem.W.Frag) : Sp := fun vs H Q _ => ∃ (H0 C B : Hp) (z : RC) (y : SC) (f : File) (xs : List NAct) (len at_ : Nat) (pcs : List (Nat × List Nat)) (w : Str) (b : List Nat), vs = [.ref z.rx, .str w] ∧ RdX K H0 C B H z y f xs len at_ pcs ∧
  (w.cps.toList.map fun c => c) = b ∧ wordy b ∧ w.cps.size ≤ 1000 ∧ ∀ H', Same H H' → Q (.bl (VbenCore.ahead b (pcs.drop at_))) H'
theorem len_Reader_is_just (K : PySem.W.Frag) : ∀ vs H Q E, sp_Reader_is_just K vs H Q E → vs.length = 2 := fun _ _ _ _ ⟨_, _, _, _, _, _, _, _, _, _, _, _, h, _⟩ => by rw [h]; rfl
theorem sc_Reader_is_just : FnScope (["self", "word"] : List Str) ["self", "word"] (defScope s_Reader_is_just) := C8.fnScope_by (by decide +kernel)
theorem c_Reader_is_just (E : Env P w K mg base) : Met P w K mg base CX0 3 "Reader" "is_just" (sp_Reader_is_just K) := by
  have sc := sc_Reader_is_just
  refine mkMet (st := s_Reader_is_just) (E.top.d.def_ 88 (d := d_Reader_is_just) rfl) (E.cls 102) (E.meth 120) sc (fun _ _ _ _ _ _ us hl => match us, hl with | [_, _], _ => rfl) (len_Reader_is_just K) (fun cdv A outer s H vs Q X hr h => ⟨_, PSs.nox ((pss_one (ps_ret (pe_and (pe_m0 (c_Reader_is_word E) hr (by decide) pass0 (pv 0)) (pe_one (pe_cmpR (opEqD (K := K) hr.units) (pe_ix (ixT (K := K)) (pe_ix (ixL (K := K)) (peF (K := K) (pv 0) rfl) (peF (K := K) (pv 0) rfl) (fun _ _ => rfl)) pe_int (fun _ _ => rfl)) (pe_c (c_bytes_of E) hr (by decide) rfl pass0 (pa_cons (pv 1) pa_nil)) (nomark _))))))), ?_⟩)
  obtain ⟨H0, C, B, z, y, f, xs, len, at_, pcs, w, b, rfl, R, hb, hwb, hsz, k⟩ := h
  have bx := R.so.sm _ _ R.bx
  have cp := R.so.sm _ _ (R.cb _ _ R.cp)
  refine ⟨_, rfl, z.rx, z.dx, _, rfl, bx, rfl, H0, C, B, z, y, f, xs, len, at_, pcs, rfl, R, _, rfl, ?_⟩
  by_cases h : at_ = pcs.length
  · rw [h, List.drop_length] at k ⊢
    exact if_f rfl (k _ (Same.refl _))
  · have hl : at_ < pcs.length := by
      have := R.le
      omega
    have hp : pcs[at_]? = some pcs[at_] := List.getElem?_eq_getElem hl
    have hd : pcs.drop at_ = pcs[at_] :: pcs.drop (at_ + 1) := List.drop_eq_getElem_cons hl
    obtain ⟨pb, hpb, q, g1, g2⟩ := paired_get R.pp hp
    have g1H := R.so.sm _ _ (R.cb _ _ g1)
    have g2H := R.so.sm _ _ (R.cb _ _ g2)
    generalize pcs[at_] = u at *
    rw [hd] at k ⊢
    by_cases hw : wordy u.2
    · refine if_t (decide_eq_true hw) ⟨_, rfl, z.rx, _, z.dx, _, _, rfl, bx, k_Reader E, n_Reader_pieces E, rfl, _, rfl, z.rx, _, z.dx, _, _, rfl, bx, k_Reader E, n_Reader_at E, rfl, z.pl, _, (at_ : Nat), .ref pb, rfl, rfl, SqL.of cp, atI_nat (get_ref hpb), pb, _, 1, .ref q, rfl, rfl, SqT.of g1H, rfl, _, rfl, w, rfl, hsz, fun H1 p s1 e1 => ?_⟩
      rw [hb] at e1
      rw [pkd_word hw] at g2H
      refine ⟨dT1 u.2, dT1 b, dpT (SqT.of (s1 _ _ g2H)), dpT (SqT.of e1), deT1.shaped (by decide) _, deT1.shaped (by decide) _, ?_⟩
      rw [deT1.eq]
      have e : VbenCore.ahead b (u :: pcs.drop (at_ + 1)) = decide (u.2 = b) := by
        show (u.2 == b) = _
        by_cases g : u.2 = b
        · rw [decide_eq_true g]
          exact beq_iff_eq.mpr g
        · rw [decide_eq_false g]
          exact beq_eq_false_iff_ne.mpr g
      rw [← e]
      exact k _ s1
    · have e : VbenCore.ahead b (u :: pcs.drop (at_ + 1)) = false := beq_eq_false_iff_ne.mpr fun g => hw (g ▸ hwb)
      have q := k _ (Same.refl _)
      rw [e] at q
      exact if_f (decide_eq_false hw) q
def sp_Reader_go_on (K : PySem.W.Frag) : Sp := fun vs H Q _ => ∃ (H0 C B : Hp) (z : RC) (y : SC) (f : File) (xs : List NAct) (len at_ : Nat) (pcs : List (Nat × List Nat)), vs = [.ref z.rx] ∧ RdX K H0 C B H z y f xs len at_ pcs ∧ at_ < pcs.length ∧
  ∀ B' H', But [z.rx] B B' → RdX K H0 C B' H' z y f xs len (at_ + 1) pcs → Q .non H'
theorem len_Reader_go_on (K : PySem.W.Frag) : ∀ vs H Q E, sp_Reader_go_on K vs H Q E → vs.length = 1 := fun _ _ _ _ ⟨_, _, _, _, _, _, _, _, _, _, h, _⟩ => by rw [h]; rfl
theorem sc_Reader_go_on : FnScope (["self"] : List Str) ["self"] (defScope s_Reader_go_on) := C8.fnScope_by (by decide +kernel)
theorem c_Reader_go_on (E : Env P w K mg base) : Met P w K mg base CX0 1 "Reader" "go_on" (sp_Reader_go_on K) := by
  have sc := sc_Reader_go_on
  refine mkMet (st := s_Reader_go_on) (E.top.d.def_ 89 (d := d_Reader_go_on) rfl) (E.cls 102) (E.meth 121) sc (fun _ _ _ _ _ _ us hl => match us, hl with | [_], _ => rfl) (len_Reader_go_on K) (fun cdv A outer s H vs Q X hr h => ⟨_, PSs.nox ((pss_one (ps_fld (pv 0) (pe_op op_add (peF (K := K) (pv 0) rfl) pe_int) rfl))), ?_⟩)
  obtain ⟨H0, C, B, z, y, f, xs, len, at_, pcs, rfl, R, hl, k⟩ := h
  have bx := R.so.sm _ _ R.bx
  refine ⟨_, rfl, z.rx, _, z.dx, _, _, rfl, bx, k_Reader E, n_Reader_at E, rfl, (at_ : Nat), 1, rfl, rfl, _, rfl, z.rx, _, z.dx, _, rfl, bx, k_Reader E, n_Reader_at E, (show 5 < 1000 by decide), ?_⟩
  exact k _ _ (But.upd (But.refl _ _) (List.mem_singleton.mpr rfl)) (R.move hl)
end
end Bw
namespace Bw
open PySem PySem.Spec PyProof.Rows L2
open Vbenah (File State Card Act)
section
variable {P : Program} {w : World} {K : PySem.W.Frag} {mg : Str → Option Value} {base : Heap}
def sp_Reader_number_within (K : PySem.W.Frag) : Sp := fun vs H Q E => ∃ (H0 C B : Hp) (z : RC) (y : SC) (f : File) (xs : List NAct) (len at_ : Nat) (pcs : List (Nat × List Nat)) (lo hi : Nat), vs = [.ref z.rx, .int (lo : Nat), .int (hi : Nat)] ∧ hi ≤ 1000 ∧ RdX K H0 C B H z y f xs len at_ pcs ∧
  (∀ p, Vbenah.numIn len lo hi (pcs.drop at_) = .error p → FaultW K H0 p E) ∧
  ∀ n r B' H', Vbenah.numIn len lo hi (pcs.drop at_) = .ok (n, r) → lo ≤ n → n ≤ hi → r = pcs.drop (at_ + 1) → at_ < pcs.length → But [z.rx] B B' → RdX K H0 C B' H' z y f xs len (at_ + 1) pcs → (∀ w, pcs[at_]? = some w → VbenCore.natOf w.2 = some n) → Q (.int (n : Nat)) H'
theorem len_Reader_number_within (K : PySem.W.Frag) : ∀ vs H Q E, sp_Reader_number_within K vs H Q E → vs.length = 3 := fun _ _ _ _ ⟨_, _, _, _, _, _, _, _, _, _, _, _, h, _⟩ => by rw [h]; rfl
theorem sc_Reader_number_within : FnScope (["self", "least", "most", "found"] : List Str) ["self", "least", "most"] (defScope s_Reader_number_within) := C8.fnScope_by (by decide +kernel)
theorem c_Reader_number_within (E : Env P w K mg base) : Met P w K mg base (L2.CX P w) 5 "Reader" "number_within" (sp_Reader_number_within K) := by
  have sc := sc_Reader_number_within
  refine mkMet (st := s_Reader_number_within) (E.top.d.def_ 90 (d := d_Reader_number_within) rfl) (E.cls 102) (E.meth 122) sc (fun _ _ _ _ _ _ us hl => match us, hl with | [_, _, _], _ => rfl) (len_Reader_number_within K) (fun cdv A outer s H vs Q X hr h => ⟨_, (pss_cons (ps_set (i := 3) sc.nd rfl (Or.inl rfl) (pe_c (c_number_of E) hr (by decide) rfl pass0 (pa_cons (pe_m0 (c_Reader_row E) hr (by decide) (passX (takes_of rfl rfl rfl rfl)) (pv 0)) pa_nil)))
    (pss_cons (ps_if (pt_not (pt_chain op_le op_le (pv 1) (pv 3) (pv 2))) (pss_one (ps_expr (pe_m0 (c_Reader_fail E) hr (by decide) (passX (takes_of rfl rfl rfl rfl)) (pv 0)))) pss_nil)
    (pss_cons (ps_expr (pe_m0 (c_Reader_go_on E) hr (by decide) pass0 (pv 0)))
    (pss_one (ps_ret (pv 3)))))), ?_⟩)
  obtain ⟨H0, C, B, z, y, f, xs, len, at_, pcs, lo, hi, rfl, hhi, R, k0, k⟩ := h
  have bx := R.bh _ _ R.bx
  refine ⟨_, rfl, z.rx, z.dx, _, rfl, bx, rfl, H0, C, B, z, y, f, xs, len, at_, pcs, rfl, R, fun hn => k0 _ (numIn_stop hn), fun w r q hd hw hq => ?_⟩
  obtain ⟨hg, hr2, hl⟩ := drop_one hd
  refine ⟨q, w.2, rfl, R.ch _ _ hq, R.lw w (mem_of_get hg), fun H1 s1 => ?_⟩
  have R1 := R.same s1
  refine ⟨_, rfl, _, rfl, (lo : Nat), numOf w.2, rfl, rfl, _, rfl, ?_⟩
  have bad : ¬ ((lo : Int) ≤ numOf w.2 ∧ numOf w.2 ≤ (hi : Int)) → FaultW K H0 (VbenCore.placeOf len (pcs.drop at_)) X := fun hh => by
    have e := numIn_no (e := len) (r := r) hh
    rw [← hd] at e
    have := k0 _ e
    rw [hd]
    exact this
  by_cases g1 : (lo : Int) ≤ numOf w.2
  · refine if_t (decide_eq_true g1) ⟨_, rfl, numOf w.2, (hi : Nat), rfl, rfl, _, rfl, ?_⟩
    by_cases g2 : numOf w.2 ≤ (hi : Int)
    · obtain ⟨n, e1, e2, e3, e4, e5⟩ := numIn_yes (e := len) (r := r) hhi g1 g2
      refine if_f (by rw [decide_eq_true g2]; rfl) ⟨_, rfl, z.rx, z.dx, _, rfl, R1.bh _ _ R1.bx, rfl, H0, C, B, z, y, f, xs, len, at_, pcs, rfl, R1, hl, fun B' H' hb R2 => ⟨_, rfl, ?_⟩⟩
      rw [e1]
      refine k n r B' H' (by rw [hd]; exact e2) e3 e4 hr2 hl hb R2 fun v hv => ?_
      rw [hg] at hv
      cases hv
      exact e5
    · exact if_t (by rw [decide_eq_false g2]; rfl) ⟨_, rfl, z.rx, z.dx, _, rfl, R1.bh _ _ R1.bx, rfl, H0, C, B, z, y, f, xs, len, at_, pcs, rfl, R1, bad fun z => g2 z.2⟩
  · exact if_f (decide_eq_false g1) ⟨_, rfl, if_t rfl ⟨_, rfl, z.rx, z.dx, _, rfl, R1.bh _ _ R1.bx, rfl, H0, C, B, z, y, f, xs, len, at_, pcs, rfl, R1, bad fun z => g1 z.1⟩⟩
theorem wordNo_map (f : File) (b : List Nat) : Vbenah.wordNo f b = (f.words.map (·.1)).findIdx? fun x => x == b := by
  unfold Vbenah.wordNo
  rw [List.findIdx?_map]
  rfl
theorem wordNo_none {f : File} {b : List Nat} : Vbenah.wordNo f b = none ↔ (f.words.map (·.1)).contains b = false := by
  rw [wordNo_map, List.findIdx?_eq_none_iff]
  constructor
  · intro h
    refine Bool.eq_false_iff.mpr fun z => ?_
    have := h b (List.contains_iff_mem.mp z)
    simp at this
  · intro h x hx
    refine beq_eq_false_iff_ne.mpr fun e => ?_
    have : (f.words.map (·.1)).contains b = true := List.contains_iff_mem.mpr (e ▸ hx)
    rw [h] at this
    cases this
theorem wordNo_some {f : File} {b : List Nat} {i : Nat} (h : Vbenah.wordNo f b = some i) : (f.words.map (·.1))[i]? = some b ∧ i < f.words.length ∧ ∀ j x, j < i → (f.words.map (·.1))[j]? = some x → x ≠ b := by
  rw [wordNo_map, List.findIdx?_eq_some_iff_getElem] at h
  obtain ⟨h1, h2, h3⟩ := h
  refine ⟨by rw [List.getElem?_eq_getElem h1, beq_iff_eq.mp h2], by rw [List.length_map] at h1; exact h1, fun j x hj hx => ?_⟩
  rw [List.getElem?_eq_getElem (by omega)] at hx
  have := h3 j hj
  rw [Option.some.inj hx] at this
  exact fun e => this (beq_iff_eq.mpr e)
theorem wordNo_stop {f : File} {xs : List NAct} (o : Ok f xs) {b : List Nat} (h : ¬ wordy b) : Vbenah.wordNo f b = none := by
  cases e : Vbenah.wordNo f b with
  | none => rfl
  | some i =>
    have g := mem_of_get (wordNo_some e).1
    obtain ⟨x, hx, rfl⟩ := List.mem_map.mp g
    exact absurd (name_wordy (o.nm x hx)) h
theorem wordIn_stop {f : File} {xs : List NAct} (o : Ok f xs) {e : Nat} {ws : List Wd} (h : nextW ws = false) : Vbenah.wordIn f e ws = .error (VbenCore.placeOf e ws) := by
  cases ws with
  | nil => rfl
  | cons w r =>
    show (match Vbenah.wordNo f w.2 with | some i => Except.ok (i, r) | none => .error w.1) = _
    rw [wordNo_stop o (of_decide_eq_false h)]
    rfl
theorem wordIn_cons (f : File) (e : Nat) (w : Wd) (r : List Wd) : Vbenah.wordIn f e (w :: r) = match Vbenah.wordNo f w.2 with | some i => Except.ok (i, r) | none => .error w.1 := rfl
def sp_Reader_word_number (K : PySem.W.Frag) : Sp := fun vs H Q E => ∃ (H0 C B : Hp) (z : RC) (y : SC) (f : File) (xs : List NAct) (len at_ : Nat) (pcs : List (Nat × List Nat)), vs = [.ref z.rx] ∧ RdX K H0 C B H z y f xs len at_ pcs ∧
  (∀ p, Vbenah.wordIn f len (pcs.drop at_) = .error p → FaultW K H0 p E) ∧
  ∀ n r, Vbenah.wordIn f len (pcs.drop at_) = .ok (n, r) → n < f.words.length → r = pcs.drop (at_ + 1) → at_ < pcs.length → Q (.int (n : Nat)) H
theorem len_Reader_word_number (K : PySem.W.Frag) : ∀ vs H Q E, sp_Reader_word_number K vs H Q E → vs.length = 1 := fun _ _ _ _ ⟨_, _, _, _, _, _, _, _, _, _, h, _⟩ => by rw [h]; rfl
theorem sc_Reader_word_number : FnScope (["self", "row"] : List Str) ["self"] (defScope s_Reader_word_number) := C8.fnScope_by (by decide +kernel)
theorem c_Reader_word_number (E : Env P w K mg base) : Met P w K mg base (L2.CX P w) 5 "Reader" "word_number" (sp_Reader_word_number K) := by
  have sc := sc_Reader_word_number
  refine mkMet (st := s_Reader_word_number) (E.top.d.def_ 91 (d := d_Reader_word_number) rfl) (E.cls 102) (E.meth 123) sc (fun _ _ _ _ _ _ us hl => match us, hl with | [_], _ => rfl) (len_Reader_word_number K) (fun cdv A outer s H vs Q X hr h => ⟨_, (pss_cons (ps_set (i := 1) sc.nd rfl (Or.inl rfl) (pe_m0 (c_Reader_row E) hr (by decide) (passX (takes_of rfl rfl rfl rfl)) (pv 0)))
    (pss_cons (ps_if (pt_cmpR (opNiD (K := K) (hu65 hr)) (pv 1) (peF (K := K) (peF (K := K) (pv 0) rfl) rfl) (by rfl)) (pss_one (ps_expr (pe_m0 (c_Reader_fail E) hr (by decide) (passX (takes_of rfl rfl rfl rfl)) (pv 0)))) pss_nil)
    (pss_one (ps_ret (pe_bm PySem.F.plainAttrs_list PySem.F.slot_list_index PySem.F.type_list_index (mt_indexD (hu65 hr)) (peF (K := K) (peF (K := K) (pv 0) rfl) rfl) (pa_cons (pv 1) pa_nil)))))), ?_⟩)
  obtain ⟨H0, C, B, z, y, f, xs, len, at_, pcs, rfl, R, k0, k⟩ := h
  have bx := R.bh _ _ R.bx
  have bf := R.bh _ _ R.bf
  refine ⟨_, rfl, z.rx, z.dx, _, rfl, bx, rfl, H0, C, B, z, y, f, xs, len, at_, pcs, rfl, R, fun hn => k0 _ (wordIn_stop R.ok hn), fun w r q hd hw hq => ?_⟩
  obtain ⟨hg, hr2, hl⟩ := drop_one hd
  have pnH : Paired (TupN H) z.ns (f.words.map (·.1)) := paired_same (fun _ _ q => R.ch _ _ q) R.pn
  have dNs : Dp K H (.ref z.nl) (.list ((f.words.map (·.1)).map dT1)) := .lst (SqL.of (R.bh _ _ R.bn)) (dpRefs (fun b x q => dpT (SqT.of q)) pnH)
  refine ⟨_, rfl, _, rfl, z.rx, _, z.dx, _, _, rfl, bx, k_Reader E, n_Reader_file E, rfl, z.fl, _, z.fx, _, _, rfl, bf, k_File E, n_File_names E, rfl, dT1 w.2, (f.words.map (·.1)).map dT1, dpT (SqT.of (R.ch _ _ hq)), dNs, deT1.shaped (by decide) _, (deL deT1).shaped (by decide) _, _, rfl, ?_⟩
  rw [any_eqv deT1]
  have e := wordIn_cons f len w r
  rw [← hd] at e
  cases g : Vbenah.wordNo f w.2 with
  | none =>
    rw [g] at e
    refine if_t (by rw [wordNo_none.mp g]; rfl) ⟨_, rfl, z.rx, z.dx, _, rfl, bx, rfl, H0, C, B, z, y, f, xs, len, at_, pcs, rfl, R, ?_⟩
    rw [hd]
    exact k0 _ e
  | some i =>
    rw [g] at e
    obtain ⟨g1, g2, g3⟩ := wordNo_some g
    refine if_f (by rw [List.contains_iff_mem.mpr (mem_of_get g1)]; rfl) ⟨_, rfl, z.rx, _, z.dx, _, _, rfl, bx, k_Reader E, n_Reader_file E, rfl, z.fl, _, z.fx, _, _, rfl, bf, k_File E, n_File_names E, rfl, ty_lst (R.bh _ _ R.bn), _, rfl, z.nl, _, dT1 w.2, (f.words.map (fun x : List Nat × Nat => x.1)).map dT1, i, dT1 w.2, rfl, rfl, dNs, dpT (SqT.of (R.ch _ _ hq)), (deL deT1).shaped (by decide) _, deT1.shaped (by decide) _, ?_, ?_, fun m z' hm hz => ?_, k i r e g2 hr2 hl⟩
    · rw [List.getElem?_map, g1]
      rfl
    · rw [deT1.eq]
      exact decide_eq_true rfl
    · rw [List.getElem?_map] at hz
      cases h2 : (f.words.map (·.1))[m]? with
      | none =>
        rw [h2] at hz
        cases hz
      | some v =>
        rw [h2] at hz
        cases hz
        rw [deT1.eq]
        exact decide_eq_false (g3 m v hm h2)
theorem cardIn_cons (f : File) (e : Nat) (w : Wd) (r : List Wd) : Vbenah.cardIn f e (w :: r) = match (Vbenah.now f).cards.findIdx? fun c => c.name == w.2 with | some i => Except.ok (i, r) | none => .error w.1 := rfl
theorem cardNo_stop {f : File} {xs : List NAct} (o : Ok f xs) {b : List Nat} (h : ¬ wordy b) : ((Vbenah.now f).cards.findIdx? fun c => c.name == b) = none := by
  rw [List.findIdx?_eq_none_iff]
  intro c hc
  refine beq_eq_false_iff_ne.mpr fun e => h ?_
  have : c.name ∈ cn (Vbenah.now f) := List.mem_map.mpr ⟨c, hc, rfl⟩
  rw [show Vbenah.now f = Vbenah.at_ f f.acts.length from rfl, at_names, List.take_length] at this
  rw [← e]
  exact name_wordy (o.cn_ _ this)
theorem cardIn_stop {f : File} {xs : List NAct} (o : Ok f xs) {e : Nat} {ws : List Wd} (h : nextW ws = false) : Vbenah.cardIn f e ws = .error (VbenCore.placeOf e ws) := by
  cases ws with
  | nil => rfl
  | cons w r =>
    rw [cardIn_cons, cardNo_stop o (of_decide_eq_false h)]
    rfl
def sp_Reader_card_name (K : PySem.W.Frag) : Sp := fun vs H Q E => ∃ (H0 C B : Hp) (z : RC) (y : SC) (f : File) (xs : List NAct) (len at_ : Nat) (pcs : List (Nat × List Nat)), vs = [.ref z.rx] ∧ RdX K H0 C B H z y f xs len at_ pcs ∧
  (∀ p, Vbenah.cardIn f len (pcs.drop at_) = .error p → FaultW K H0 p E) ∧
  ∀ i r n q B' H', Vbenah.cardIn f len (pcs.drop at_) = .ok (i, r) → (f.acts.filterMap cardN)[i]? = some n → i < (Vbenah.now f).cards.length → r = pcs.drop (at_ + 1) → at_ < pcs.length → TupN C q n → But [z.rx] B B' → RdX K H0 C B' H' z y f xs len (at_ + 1) pcs → Q (.ref q) H'
theorem len_Reader_card_name (K : PySem.W.Frag) : ∀ vs H Q E, sp_Reader_card_name K vs H Q E → vs.length = 1 := fun _ _ _ _ ⟨_, _, _, _, _, _, _, _, _, _, h, _⟩ => by rw [h]; rfl
theorem sc_Reader_card_name : FnScope (["self", "row"] : List Str) ["self"] (defScope s_Reader_card_name) := C8.fnScope_by (by decide +kernel)
theorem c_Reader_card_name (E : Env P w K mg base) : Met P w K mg base (L2.CX P w) 5 "Reader" "card_name" (sp_Reader_card_name K) := by
  have sc := sc_Reader_card_name
  refine mkMet (st := s_Reader_card_name) (E.top.d.def_ 92 (d := d_Reader_card_name) rfl) (E.cls 102) (E.meth 124) sc (fun _ _ _ _ _ _ us hl => match us, hl with | [_], _ => rfl) (len_Reader_card_name K) (fun cdv A outer s H vs Q X hr h => ⟨_, (pss_cons (ps_set (i := 1) sc.nd rfl (Or.inl rfl) (pe_m0 (c_Reader_row E) hr (by decide) (passX (takes_of rfl rfl rfl rfl)) (pv 0)))
    (pss_cons (ps_if (pt_cmpR op_lt (pe_c (c_card_number E) hr (by decide) rfl pass0 (pa_cons (peF (K := K) (pv 0) rfl) (pa_cons (pv 1) pa_nil))) pe_int (nomark _)) (pss_one (ps_expr (pe_m0 (c_Reader_fail E) hr (by decide) (passX (takes_of rfl rfl rfl rfl)) (pv 0)))) pss_nil)
    (pss_cons (ps_expr (pe_m0 (c_Reader_go_on E) hr (by decide) pass0 (pv 0)))
    (pss_one (ps_ret (pv 1)))))), ?_⟩)
  obtain ⟨H0, C, B, z, y, f, xs, len, at_, pcs, rfl, R, k0, k⟩ := h
  have bx := R.bh _ _ R.bx
  refine ⟨_, rfl, z.rx, z.dx, _, rfl, bx, rfl, H0, C, B, z, y, f, xs, len, at_, pcs, rfl, R, fun hn => k0 _ (cardIn_stop R.ok hn), fun w r q hd hw hq => ?_⟩
  obtain ⟨hg, hr2, hl⟩ := drop_one hd
  refine ⟨_, rfl, z.rx, _, z.dx, _, _, rfl, bx, k_Reader E, n_Reader_state E, rfl, _, rfl, z.sa, q, f, nat_ f xs xs.length, xs.length, w.2, rfl, R.view, R.ws, R.ch _ _ hq, fun H1 s1 => ⟨_, 0, rfl, rfl, _, rfl, ?_⟩⟩
  have R1 := R.same s1
  have bx1 := R1.bh _ _ R1.bx
  have e := cardIn_cons f len w r
  rw [← hd, R.ok.now] at e
  unfold cix
  cases g : (nat_ f xs xs.length).cards.findIdx? fun c => c.name == w.2 with
  | none =>
    rw [g] at e
    refine if_t rfl ⟨_, rfl, z.rx, z.dx, _, rfl, bx1, rfl, H0, C, B, z, y, f, xs, len, at_, pcs, rfl, R1, ?_⟩
    rw [hd]
    exact k0 _ e
  | some i =>
    rw [g] at e
    refine if_f (decide_eq_false (by show ¬ ((i : Nat) : Int) < 0; omega)) ⟨_, rfl, z.rx, z.dx, _, rfl, bx1, rfl, H0, C, B, z, y, f, xs, len, at_, pcs, rfl, R1, hl, fun B' H' hb R2 => ⟨_, rfl, ?_⟩⟩
    obtain ⟨g1, g2, g3⟩ := List.findIdx?_eq_some_iff_getElem.mp g
    rw [← R.ok.now] at g1
    have g4 : (cn (Vbenah.now f))[i]? = some w.2 := by
      unfold cn
      rw [List.getElem?_map, R.ok.now, List.getElem?_eq_getElem (by rw [← R.ok.now]; exact g1)]
      exact congrArg some (beq_iff_eq.mp g2)
    rw [show Vbenah.now f = Vbenah.at_ f f.acts.length from rfl, at_names, List.take_length] at g4
    exact k i r w.2 q B' H' e g4 g1 hr2 hl hq hb R2
theorem must_cons (e : Nat) (b : List Nat) (w : Wd) (r : List Wd) : VbenCore.must e b (w :: r) = if w.2 = b then .ok r else .error w.1 := rfl
def sp_Reader_line_end (K : PySem.W.Frag) : Sp := fun vs H Q E => ∃ (H0 C B : Hp) (z : RC) (y : SC) (f : File) (xs : List NAct) (len at_ : Nat) (pcs : List (Nat × List Nat)), vs = [.ref z.rx] ∧ RdX K H0 C B H z y f xs len at_ pcs ∧
  (∀ p, VbenCore.must len [10] (pcs.drop at_) = .error p → FaultW K H0 p E) ∧
  ∀ r B' H', VbenCore.must len [10] (pcs.drop at_) = .ok r → r = pcs.drop (at_ + 1) → at_ < pcs.length → But [z.rx] B B' → RdX K H0 C B' H' z y f xs len (at_ + 1) pcs → Q .non H'
theorem len_Reader_line_end (K : PySem.W.Frag) : ∀ vs H Q E, sp_Reader_line_end K vs H Q E → vs.length = 1 := fun _ _ _ _ ⟨_, _, _, _, _, _, _, _, _, _, h, _⟩ => by rw [h]; rfl
theorem sc_Reader_line_end : FnScope (["self"] : List Str) ["self"] (defScope s_Reader_line_end) := C8.fnScope_by (by decide +kernel)
theorem c_Reader_line_end (E : Env P w K mg base) : Met P w K mg base (L2.CX P w) 4 "Reader" "line_end" (sp_Reader_line_end K) := by
  have sc := sc_Reader_line_end
  refine mkMet (st := s_Reader_line_end) (E.top.d.def_ 93 (d := d_Reader_line_end) rfl) (E.cls 102) (E.meth 125) sc (fun _ _ _ _ _ _ us hl => match us, hl with | [_], _ => rfl) (len_Reader_line_end K) (fun cdv A outer s H vs Q X hr h => ⟨_, (pss_cons (ps_if (PW.pt (pw_or (pt_val (pe_m0 (c_Reader_is_over E) hr (by decide) pass0 (pv 0))) (pw_or1 (pt_cmpR op_ne (pe_ix (ixT (K := K)) (pe_ix (ixL (K := K)) (peF (K := K) (pv 0) rfl) (peF (K := K) (pv 0) rfl) (fun _ _ => rfl)) pe_int (fun _ _ => rfl)) (C8.pe_gc rfl (g_LINE_END E)) (nomark _))))) (pss_one (ps_expr (pe_m0 (c_Reader_fail E) hr (by decide) (passX (takes_of rfl rfl rfl rfl)) (pv 0)))) pss_nil)
    (pss_one (ps_expr (pe_m0 (c_Reader_go_on E) hr (by decide) pass0 (pv 0))))), ?_⟩)
  obtain ⟨H0, C, B, z, y, f, xs, len, at_, pcs, rfl, R, k0, k⟩ := h
  have bx := R.bh _ _ R.bx
  have cp := R.ch _ _ R.cp
  refine ⟨_, rfl, z.rx, z.dx, _, rfl, bx, rfl, H0, C, B, z, y, f, xs, len, at_, pcs, rfl, R, _, rfl, ?_⟩
  by_cases h : at_ = pcs.length
  · refine if_t (beq_iff_eq.mpr h) (if_t rfl ⟨_, rfl, z.rx, z.dx, _, rfl, bx, rfl, H0, C, B, z, y, f, xs, len, at_, pcs, rfl, R, k0 _ ?_⟩)
    rw [h, List.drop_length]
    rfl
  · have hl : at_ < pcs.length := by
      have := R.le
      omega
    have hp : pcs[at_]? = some pcs[at_] := List.getElem?_eq_getElem hl
    have hd : pcs.drop at_ = pcs[at_] :: pcs.drop (at_ + 1) := List.drop_eq_getElem_cons hl
    obtain ⟨pb, hpb, q, g1, g2⟩ := paired_get R.pp hp
    have g1H := R.ch _ _ g1
    generalize pcs[at_] = w at *
    have e := must_cons len [10] w (pcs.drop (at_ + 1))
    rw [← hd] at e
    refine if_f (beq_eq_false_iff_ne.mpr h) ⟨_, rfl, z.rx, _, z.dx, _, _, rfl, bx, k_Reader E, n_Reader_pieces E, rfl, _, rfl, z.rx, _, z.dx, _, _, rfl, bx, k_Reader E, n_Reader_at E, rfl, z.pl, _, (at_ : Nat), .ref pb, rfl, rfl, SqL.of cp, atI_nat (get_ref hpb), pb, _, 0, .int ((pkd w.2).1 : Nat), rfl, rfl, SqT.of g1H, rfl, rfl, _, rfl, ?_⟩
    have e0 : decide (V.int ((pkd w.2).1 : Nat) = V.int 1) = (w.2 == [10]) := (dN _ 1).trans pkd_one
    rw [e0]
    by_cases hw : w.2 = [10]
    · rw [if_pos hw] at e
      refine if_f (by rw [beq_iff_eq.mpr hw]; rfl) ⟨_, rfl, z.rx, z.dx, _, rfl, bx, rfl, H0, C, B, z, y, f, xs, len, at_, pcs, rfl, R, hl, fun B' H' hb R2 => k _ B' H' e rfl hl hb R2⟩
    · rw [if_neg hw] at e
      refine if_t (by rw [beq_eq_false_iff_ne.mpr hw]; rfl) ⟨_, rfl, z.rx, z.dx, _, rfl, bx, rfl, H0, C, B, z, y, f, xs, len, at_, pcs, rfl, R, ?_⟩
      rw [hd]
      exact k0 _ e
end
end Bw
namespace Bw
open PySem PySem.Spec PyProof.Rows L2
open Vbenah (File State Card Act)
section
variable {P : Program} {w : World} {K : PySem.W.Frag} {mg : Str → Option Value} {base : Heap}
theorem ok_holes {h : Nat} (h1 : 1 ≤ h) (h2 : h ≤ 16) : Ok { Vbenah.start with holes := h } [] :=
  ⟨Nat.zero_le _, h1, h2, Nat.zero_le _, fun _ h => (nomatch h), List.nodup_nil, fun _ h => (nomatch h), rfl, fun _ _ h => (nomatch h), fun _ h => (nomatch h)⟩
theorem RdX.holes {K : PySem.W.Frag} {H0 C B H : Hp} {z : RC} {y : SC} {len at_ h : Nat} {pcs : List (Nat × List Nat)} (R : RdX K H0 C B H z y Vbenah.start [] len at_ pcs) (h1 : 1 ≤ h) (h2 : h ≤ 16) :
    RdX K H0 C (upd B z.fl (.ins (He.ga K "File") z.fx (fileF (.int (h : Nat)) (.ref z.nl) (.ref z.ml) (.ref z.al)))) (upd H z.fl (.ins (He.ga K "File") z.fx (fileF (.int (h : Nat)) (.ref z.nl) (.ref z.ml) (.ref z.al)))) z y { Vbenah.start with holes := h } [] len at_ pcs := by
  have st : ∀ {b o}, B b = some o → o ≠ .ins (He.ga K "File") z.fx (fileF (.int (Vbenah.start.holes : Nat)) (.ref z.nl) (.ref z.ml) (.ref z.al)) → upd B z.fl (.ins (He.ga K "File") z.fx (fileF (.int (h : Nat)) (.ref z.nl) (.ref z.ml) (.ref z.al))) b = some o := fun e n => by
    rw [upd_ne (ne_obj e R.bf n)]
    exact e
  exact { R with
    h0 := fun b o e => by
      rw [upd_ne (ne_of_none e R.e2)]
      exact R.h0 _ _ e
    cb := fun b o e => by
      rw [upd_ne (ne_of_none e R.c2)]
      exact R.cb _ _ e
    so := R.so.bput R.bf (fun _ z => by cases z) (fun _ _ _ _ _ => file_ne_card)
    bx := st R.bx fun z => file_ne_reader z.symm
    bf := upd_same
    bn := st R.bn (fun z => by cases z)
    bm := st R.bm (fun z => by cases z)
    ba := st R.ba (fun z => by cases z)
    ok := ok_holes h1 h2 }
theorem ahead_t {b : List Nat} {ws : List Wd} (h : VbenCore.ahead b ws = true) : ∃ w r, ws = w :: r ∧ w.2 = b := by
  cases ws with
  | nil => cases h
  | cons w r => exact ⟨w, r, rfl, beq_iff_eq.mp h⟩
theorem must_not {e : Nat} {b : List Nat} {ws : List Wd} (h : VbenCore.ahead b ws = false) : VbenCore.must e b ws = .error (VbenCore.placeOf e ws) := by
  cases ws with
  | nil => rfl
  | cons w r => exact if_neg (beq_eq_false_iff_ne.mp h)
def headIn (e : Nat) (ws : List Wd) : Exc (Nat × List Wd) := match VbenCore.must e (Vbenah.W "holes") ws with
  | .error p => .error p
  | .ok ws => Vbenah.numIn e 1 16 ws
def sp_Reader_head (K : PySem.W.Frag) : Sp := fun vs H Q E => ∃ (H0 C B : Hp) (z : RC) (y : SC) (len at_ : Nat) (pcs : List (Nat × List Nat)), vs = [.ref z.rx] ∧ RdX K H0 C B H z y Vbenah.start [] len at_ pcs ∧
  (∀ p, headIn len (pcs.drop at_) = .error p → FaultW K H0 p E) ∧
  ∀ h r B' H', headIn len (pcs.drop at_) = .ok (h, r) → r = pcs.drop (at_ + 2) → RdX K H0 C B' H' z y { Vbenah.start with holes := h } [] len (at_ + 2) pcs → Q .non H'
theorem len_Reader_head (K : PySem.W.Frag) : ∀ vs H Q E, sp_Reader_head K vs H Q E → vs.length = 1 := fun _ _ _ _ ⟨_, _, _, _, _, _, _, _, h, _⟩ => by rw [h]; rfl
theorem sc_Reader_head : FnScope (["self"] : List Str) ["self"] (defScope s_Reader_head) := C8.fnScope_by (by decide +kernel)
theorem c_Reader_head (E : Env P w K mg base) : Met P w K mg base (L2.CX P w) 6 "Reader" "head" (sp_Reader_head K) := by
  have sc := sc_Reader_head
  refine mkMet (st := s_Reader_head) (E.top.d.def_ 94 (d := d_Reader_head) rfl) (E.cls 102) (E.meth 126) sc (fun _ _ _ _ _ _ us hl => match us, hl with | [_], _ => rfl) (len_Reader_head K) (fun cdv A outer s H vs Q X hr h => ⟨_, (pss_cons (ps_if (pt_not (pt_val (pe_m (c_Reader_is_just E) hr (by decide) pass0 (pv 0) (pa_cons pe_str pa_nil)))) (pss_one (ps_expr (pe_m0 (c_Reader_fail E) hr (by decide) (passX (takes_of rfl rfl rfl rfl)) (pv 0)))) pss_nil)
    (pss_cons (ps_expr (pe_m0 (c_Reader_go_on E) hr (by decide) pass0 (pv 0)))
    (pss_one (ps_fld (peF (K := K) (pv 0) rfl) (pe_m (c_Reader_number_within E) hr (by decide) (passX (takes_of rfl rfl rfl rfl)) (pv 0) (pa_cons pe_int (pa_cons (C8.pe_gc rfl (g_MOST_HOLES E)) pa_nil))) rfl)))), ?_⟩)
  obtain ⟨H0, C, B, z, y, len, at_, pcs, rfl, R, k0, k⟩ := h
  have bx := R.bh _ _ R.bx
  refine ⟨_, rfl, z.rx, z.dx, _, rfl, bx, rfl, H0, C, B, z, y, Vbenah.start, [], len, at_, pcs, "holes", Vbenah.W "holes", rfl, R, wb7, by decide, by decide, fun H1 s1 => ⟨_, rfl, ?_⟩⟩
  have R1 := R.same s1
  have bx1 := R1.bh _ _ R1.bx
  cases g : VbenCore.ahead (Vbenah.W "holes") (pcs.drop at_) with
  | false =>
    refine if_t rfl ⟨_, rfl, z.rx, z.dx, _, rfl, bx1, rfl, H0, C, B, z, y, Vbenah.start, [], len, at_, pcs, rfl, R1, k0 _ ?_⟩
    unfold headIn
    rw [must_not g]
  | true =>
    obtain ⟨w, r, hd, hw⟩ := ahead_t g
    obtain ⟨hg, hr2, hl⟩ := drop_one hd
    have e : headIn len (pcs.drop at_) = Vbenah.numIn len 1 16 (pcs.drop (at_ + 1)) := by
      unfold headIn
      rw [hd, must_cons, if_pos hw, hr2]
    refine if_f rfl ⟨_, rfl, z.rx, z.dx, _, rfl, bx1, rfl, H0, C, B, z, y, Vbenah.start, [], len, at_, pcs, rfl, R1, hl, fun B2 H2 b2 R2 => ?_⟩
    have bx2 := R2.bh _ _ R2.bx
    refine ⟨_, rfl, z.rx, z.dx, _, rfl, bx2, rfl, H0, C, B2, z, y, Vbenah.start, [], len, at_ + 1, pcs, 1, 16, rfl, by decide, R2, fun p e2 => k0 p (e.trans e2), fun n r3 B3 H3 e3 l1 l2 hr3 hl3 b3 R3 _ => ?_⟩
    exact ⟨_, rfl, z.rx, _, z.dx, _, _, rfl, R3.bh _ _ R3.bx, k_Reader E, n_Reader_file E, rfl, z.fl, _, z.fx, _, rfl, R3.bh _ _ R3.bf, k_File E, n_File_holes E, (show 4 < 1000 by decide), k n r3 _ _ (e.trans e3) hr3 (R3.holes l1 l2)⟩
theorem may_two {f : File} {xs : List NAct} (o : Ok f xs) (hl : f.acts.length < 80) {a b : Nat} (ha : a < f.words.length) (hb : b < f.words.length) :
    Vbenah.mayBe f (.under a b) = nmay f.words.length (nat_ f xs xs.length) (.under a b) ∧ Vbenah.mayBe f (.apart a b) = nmay f.words.length (nat_ f xs xs.length) (.apart a b) := by
  have pp := (o.ws (Nat.le_refl f.acts.length)).pp
  have ac := at_ac o _ (Nat.le_refl f.acts.length)
  rw [← o.now]
  refine ⟨?_, ?_⟩
  · rw [Bool.eq_iff_iff, may_iff]
    show _ ∧ a < _ ∧ b < _ ∧ a ≠ b ∧ _ = false ∧ Vbenah.isUnder (Vbenah.at_ f f.acts.length).pairs f.words.length b a = false ↔ (a != b && (!(Vbenah.at_ f f.acts.length).pairs.contains (a, b) && !(abv (Vbenah.at_ f f.acts.length).pairs f.words.length b).contains a)) = true
    rw [under_eq pp ac hb, Bool.and_eq_true, Bool.and_eq_true, bne_iff_ne, not_t, not_t]
    exact ⟨fun ⟨_, _, _, h1, h2, h3⟩ => ⟨h1, h2, h3⟩, fun ⟨h1, h2, h3⟩ => ⟨hl, ha, hb, h1, h2, h3⟩⟩
  · rw [Bool.eq_iff_iff, may_iff]
    exact ⟨fun ⟨_, h⟩ => h, fun h => ⟨hl, h⟩⟩
def twoIn (f : File) (e : Nat) (mk : Nat → Nat → Vbenah.Act) (ws : List Wd) : Exc (Vbenah.Act × List Wd) := match Vbenah.wordIn f e ws with
  | .error p => .error p
  | .ok (a, ws) => match Vbenah.wordIn f e ws with
    | .error p => .error p
    | .ok (b, r) => Vbenah.ask f (VbenCore.placeOf e ws) (mk a b) r
/-- what an act read wishes -/
def ActQ (K : PySem.W.Frag) (H0 C : Hp) (z : RC) (y : SC) (f : File) (xs : List NAct) (len at_ : Nat) (pcs : List (Nat × List Nat)) (Q : VK) (x : Vbenah.Act) (r : List Wd) : Prop :=
  ∀ C' B' H' T at', MayA f.words.length f.holes (Vbenah.now f) x → (∀ n, cardN x = some n → VbenCore.isName n = true) → Same C C' → RdX K H0 C' B' H' z y f xs len at' pcs → NActAt C' T (nameA (f.acts.filterMap cardN) x) → r = pcs.drop at' → at_ < at' → Q (.ref T) H'
def sp_Reader_act_of_words (K : PySem.W.Frag) : Sp := fun vs H Q E => ∃ (H0 C B : Hp) (z : RC) (y : SC) (f : File) (xs : List NAct) (len at_ : Nat) (pcs : List (Nat × List Nat)) (k : Nat) (mk : Nat → Nat → Vbenah.Act), vs = [.ref z.rx, .int (k : Nat)] ∧ (k = 0 ∧ mk = .under ∨ k = 1 ∧ mk = .apart) ∧ f.acts.length < 80 ∧
  RdX K H0 C B H z y f xs len at_ pcs ∧ (∀ p, twoIn f len mk (pcs.drop at_) = .error p → FaultW K H0 p E) ∧ ∀ x r, twoIn f len mk (pcs.drop at_) = .ok (x, r) → ActQ K H0 C z y f xs len at_ pcs Q x r
theorem len_Reader_act_of_words (K : PySem.W.Frag) : ∀ vs H Q E, sp_Reader_act_of_words K vs H Q E → vs.length = 2 := fun _ _ _ _ ⟨_, _, _, _, _, _, _, _, _, _, _, _, h, _⟩ => by rw [h]; rfl
theorem sc_Reader_act_of_words : FnScope (["self", "kind", "one", "act"] : List Str) ["self", "kind"] (defScope s_Reader_act_of_words) := C8.fnScope_by (by decide +kernel)
theorem c_Reader_act_of_words (E : Env P w K mg base) : Met P w K mg base (L2.CX P w) 6 "Reader" "act_of_words" (sp_Reader_act_of_words K) := by
  have sc := sc_Reader_act_of_words
  refine mkMet (st := s_Reader_act_of_words) (E.top.d.def_ 96 (d := d_Reader_act_of_words) rfl) (E.cls 102) (E.meth 128) sc (fun _ _ _ _ _ _ us hl => match us, hl with | [_, _], _ => rfl) (len_Reader_act_of_words K) (fun cdv A outer s H vs Q X hr h => ⟨_, (pss_cons (ps_set (i := 2) sc.nd rfl (Or.inl rfl) (pe_m0 (c_Reader_word_number E) hr (by decide) (passX (takes_of rfl rfl rfl rfl)) (pv 0)))
    (pss_cons (ps_expr (pe_m0 (c_Reader_go_on E) hr (by decide) pass0 (pv 0)))
    (pss_cons (ps_set (i := 3) sc.nd rfl (Or.inl rfl) (pe_tup (pa_cons (pv 1) (pa_cons (pv 2) (pa_cons (pe_m0 (c_Reader_word_number E) hr (by decide) (passX (takes_of rfl rfl rfl rfl)) (pv 0)) pa_nil)))))
    (pss_cons (ps_if (pt_not (pt_val (pe_c (c_may_be E) hr (by decide) rfl pass0 (pa_cons (peF (K := K) (pv 0) rfl) (pa_cons (pv 3) pa_nil))))) (pss_one (ps_expr (pe_m0 (c_Reader_fail E) hr (by decide) (passX (takes_of rfl rfl rfl rfl)) (pv 0)))) pss_nil)
    (pss_cons (ps_expr (pe_m0 (c_Reader_go_on E) hr (by decide) pass0 (pv 0)))
    (pss_one (ps_ret (pv 3)))))))), ?_⟩)
  obtain ⟨H0, C, B, z, y, f, xs, len, at_, pcs, kd, mk, rfl, hk, hla, R, k0, k⟩ := h
  have bx := R.bh _ _ R.bx
  refine ⟨_, rfl, z.rx, z.dx, _, rfl, bx, rfl, H0, C, B, z, y, f, xs, len, at_, pcs, rfl, R, fun p e => k0 p ?_, fun a r e ha hr hl => ?_⟩
  · unfold twoIn
    rw [e]
  refine ⟨_, rfl, z.rx, z.dx, _, rfl, bx, rfl, H0, C, B, z, y, f, xs, len, at_, pcs, rfl, R, hl, fun B1 H1 b1 R1 => ?_⟩
  have bx1 := R1.bh _ _ R1.bx
  subst hr
  refine ⟨_, rfl, _, rfl, _, rfl, z.rx, z.dx, _, rfl, bx1, rfl, H0, C, B1, z, y, f, xs, len, at_ + 1, pcs, rfl, R1, fun p e2 => k0 p ?_, fun b r2 e2 hb hr2 hl2 => ⟨(show 3 ≤ sizeLine by decide), fun T nT => ?_⟩⟩
  · unfold twoIn
    rw [e]
    show (match Vbenah.wordIn f len (pcs.drop (at_ + 1)) with | .error p => Except.error p | .ok (b, r) => _) = _
    rw [e2]
  have eT : twoIn f len mk (pcs.drop at_) = Vbenah.ask f (VbenCore.placeOf len (pcs.drop (at_ + 1))) (mk a b) r2 := by
    unfold twoIn
    rw [e]
    show (match Vbenah.wordIn f len (pcs.drop (at_ + 1)) with | .error p => Except.error p | .ok (b, r) => _) = _
    rw [e2]
  have R2 := R1.cnew (o := .tup [.int (kd : Nat), .int (a : Nat), .int (b : Nat)]) nT
  have sC := (R1.know' (o := .tup [.int (kd : Nat), .int (a : Nat), .int (b : Nat)]) nT)
  have bx2 := R2.bh _ _ R2.bx
  obtain ⟨y', hy, hm, hnA⟩ : ∃ y', NActAt (upd C T (.tup [.int (kd : Nat), .int (a : Nat), .int (b : Nat)])) T y' ∧ Vbenah.mayBe f (mk a b) = nmay f.words.length (nat_ f xs xs.length) y' ∧ nameA (f.acts.filterMap cardN) (mk a b) = y' ∧ cardN (mk a b) = none := by
    rcases hk with ⟨rfl, rfl⟩ | ⟨rfl, rfl⟩
    · exact ⟨.under a b, upd_same, (may_two R.ok hla ha hb).1, rfl, rfl⟩
    · exact ⟨.apart a b, upd_same, (may_two R.ok hla ha hb).2, rfl, rfl⟩
  refine ⟨_, rfl, z.rx, _, z.dx, _, _, rfl, bx2, k_Reader E, n_Reader_state E, rfl, _, rfl, z.sa, T, f, nat_ f xs xs.length, xs.length, y', rfl, R2.view, R2.ws, hy.same R2.ch, fun H3 s3 => ⟨_, rfl, ?_⟩⟩
  have R3 := R2.same s3
  have bx3 := R3.bh _ _ R3.bx
  unfold Vbenah.ask at eT
  rw [hm] at eT
  cases g : nmay f.words.length (nat_ f xs xs.length) y' with
  | false =>
    rw [g] at eT
    exact if_t rfl ⟨_, rfl, z.rx, z.dx, _, rfl, bx3, rfl, H0, _, _, z, y, f, xs, len, at_ + 1, pcs, rfl, R3, k0 _ eT⟩
  | true =>
    rw [g] at eT hm
    refine if_f rfl ⟨_, rfl, z.rx, z.dx, _, rfl, bx3, rfl, H0, _, _, z, y, f, xs, len, at_ + 1, pcs, rfl, R3, hl2, fun B4 H4 b4 R4 => ⟨_, rfl, ?_⟩⟩
    exact k _ _ eT _ _ _ T _ ((may_iff f (mk a b)).mp hm).2 (fun n e => by rw [hnA.2] at e; cases e) sC R4 (hnA.1 ▸ hy) hr2 (by omega)
theorem may_add {f : File} {xs : List NAct} (o : Ok f xs) (hl : f.acts.length < 80) {c w : Nat} {n : List Nat} (hc : c < (Vbenah.now f).cards.length) (hn : (f.acts.filterMap cardN)[c]? = some n) (hw : w < f.words.length) :
    Vbenah.mayBe f (.add c w) = nmay f.words.length (nat_ f xs xs.length) (.add n w) := by
  rw [← o.now]
  have hu : (cn (Vbenah.now f)).Nodup := at_nodup o _ (Nat.le_refl f.acts.length)
  have e : (cn (Vbenah.now f))[c]? = some n := by
    rw [show Vbenah.now f = Vbenah.at_ f f.acts.length from rfl, at_names, List.take_length]
    exact hn
  rw [Bool.eq_iff_iff, may_iff]
  show _ ∧ c < _ ∧ w < _ ∧ _ = false ↔ (match cardOf (Vbenah.now f).cards n with | some c => !c.words.contains w | none => false) = true
  rw [cardOf_get hu e]
  exact ⟨fun ⟨_, _, _, h⟩ => not_t.mpr h, fun h => ⟨hl, hc, hw, not_t.mp h⟩⟩
def cdIn (f : File) (e k : Nat) (ws : List Wd) : Exc (Vbenah.Act × List Wd) := match Vbenah.cardIn f e ws with
  | .error p => .error p
  | .ok (c, ws) => if k = 4 then .ok (.grow c, ws) else if k = 5 then (match Vbenah.numIn e 0 (f.holes - 1) ws with
      | .error p => .error p
      | .ok (h, r) => .ok (.notch c h, r))
    else match Vbenah.wordIn f e ws with
      | .error p => .error p
      | .ok (x, r) => Vbenah.ask f (VbenCore.placeOf e ws) (.add c x) r
def sp_Reader_act_of_card (K : PySem.W.Frag) : Sp := fun vs H Q E => ∃ (H0 C B : Hp) (z : RC) (y : SC) (f : File) (xs : List NAct) (len at_ : Nat) (pcs : List (Nat × List Nat)) (k : Nat), vs = [.ref z.rx, .int (k : Nat)] ∧ (k = 3 ∨ k = 4 ∨ k = 5) ∧ f.acts.length < 80 ∧
  RdX K H0 C B H z y f xs len at_ pcs ∧ (∀ p, cdIn f len k (pcs.drop at_) = .error p → FaultW K H0 p E) ∧ ∀ x r, cdIn f len k (pcs.drop at_) = .ok (x, r) → ActQ K H0 C z y f xs len at_ pcs Q x r
theorem len_Reader_act_of_card (K : PySem.W.Frag) : ∀ vs H Q E, sp_Reader_act_of_card K vs H Q E → vs.length = 2 := fun _ _ _ _ ⟨_, _, _, _, _, _, _, _, _, _, _, h, _⟩ => by rw [h]; rfl
theorem sc_Reader_act_of_card : FnScope (["self", "kind", "name", "act"] : List Str) ["self", "kind"] (defScope s_Reader_act_of_card) := C8.fnScope_by (by decide +kernel)
theorem c_Reader_act_of_card (E : Env P w K mg base) : Met P w K mg base (L2.CX P w) 6 "Reader" "act_of_card" (sp_Reader_act_of_card K) := by
  have sc := sc_Reader_act_of_card
  refine mkMet (st := s_Reader_act_of_card) (E.top.d.def_ 98 (d := d_Reader_act_of_card) rfl) (E.cls 102) (E.meth 130) sc (fun _ _ _ _ _ _ us hl => match us, hl with | [_, _], _ => rfl) (len_Reader_act_of_card K) (fun cdv A outer s H vs Q X hr h => ⟨_, (pss_cons (ps_set (i := 2) sc.nd rfl (Or.inl rfl) (pe_m0 (c_Reader_card_name E) hr (by decide) (passX (takes_of rfl rfl rfl rfl)) (pv 0)))
    (pss_cons (ps_if (pt_cmpR op_eq (pv 1) (C8.pe_gc rfl (g_GROW E)) (nomark _)) (pss_one (ps_ret (pe_tup (pa_cons (C8.pe_gc rfl (g_GROW E)) (pa_cons (pv 2) pa_nil))))) pss_nil)
    (pss_cons (ps_if (pt_cmpR op_eq (pv 1) (C8.pe_gc rfl (g_NOTCH E)) (nomark _)) (pss_one (ps_ret (pe_tup (pa_cons (C8.pe_gc rfl (g_NOTCH E)) (pa_cons (pv 2) (pa_cons (pe_m (c_Reader_number_within E) hr (by decide) (passX (takes_of rfl rfl rfl rfl)) (pv 0) (pa_cons pe_int (pa_cons (pe_op op_sub (peF (K := K) (peF (K := K) (pv 0) rfl) rfl) pe_int) pa_nil))) pa_nil)))))) pss_nil)
    (pss_cons (ps_set (i := 3) sc.nd rfl (Or.inl rfl) (pe_tup (pa_cons (C8.pe_gc rfl (g_ADD E)) (pa_cons (pv 2) (pa_cons (pe_m0 (c_Reader_word_number E) hr (by decide) (passX (takes_of rfl rfl rfl rfl)) (pv 0)) pa_nil)))))
    (pss_cons (ps_if (pt_not (pt_val (pe_c (c_may_be E) hr (by decide) rfl pass0 (pa_cons (peF (K := K) (pv 0) rfl) (pa_cons (pv 3) pa_nil))))) (pss_one (ps_expr (pe_m0 (c_Reader_fail E) hr (by decide) (passX (takes_of rfl rfl rfl rfl)) (pv 0)))) pss_nil)
    (pss_cons (ps_expr (pe_m0 (c_Reader_go_on E) hr (by decide) pass0 (pv 0)))
    (pss_one (ps_ret (pv 3))))))))), ?_⟩)
  obtain ⟨H0, C, B, z, y, f, xs, len, at_, pcs, kd, rfl, hk, hla, R, k0, k⟩ := h
  have bx := R.bh _ _ R.bx
  refine ⟨_, rfl, z.rx, z.dx, _, rfl, bx, rfl, H0, C, B, z, y, f, xs, len, at_, pcs, rfl, R, fun p e => k0 p ?_, fun c r n q B1 H1 e hn hc hr hl hq b1 R1 => ?_⟩
  · unfold cdIn
    rw [e]
  have bx1 := R1.bh _ _ R1.bx
  have bf1 := R1.bh _ _ R1.bf
  subst hr
  have eD := getD_of (d := []) hn
  have eC : cdIn f len kd (pcs.drop at_) = if kd = 4 then .ok (.grow c, pcs.drop (at_ + 1)) else if kd = 5 then (match Vbenah.numIn len 0 (f.holes - 1) (pcs.drop (at_ + 1)) with
      | .error p => .error p
      | .ok (h, r) => .ok (.notch c h, r))
    else match Vbenah.wordIn f len (pcs.drop (at_ + 1)) with
      | .error p => .error p
      | .ok (x, r) => Vbenah.ask f (VbenCore.placeOf len (pcs.drop (at_ + 1))) (.add c x) r := by
    unfold cdIn
    rw [e]
  have h1 := R.ok.h1
  have ho := R.ok.ho
  rcases hk with rfl | rfl | rfl
  · rw [if_neg (by decide), if_neg (by decide)] at eC
    refine ⟨_, rfl, rfl, _, rfl, if_f rfl ⟨_, rfl, rfl, _, rfl, if_f rfl ⟨_, rfl, _, rfl, z.rx, z.dx, _, rfl, bx1, rfl, H0, C, B1, z, y, f, xs, len, at_ + 1, pcs, rfl, R1, fun p e2 => k0 p ?_, fun w r2 e2 hw hr2 hl2 => ⟨(show 3 ≤ sizeLine by decide), fun T nT => ?_⟩⟩⟩⟩
    · rw [eC, e2]
    rw [e2] at eC
    have eC : cdIn f len 3 (pcs.drop at_) = Vbenah.ask f (VbenCore.placeOf len (pcs.drop (at_ + 1))) (.add c w) r2 := eC
    have R2 := R1.cnew (o := .tup [.int 3, .ref q, .int (w : Nat)]) nT
    have sC := R1.know' (o := .tup [.int 3, .ref q, .int (w : Nat)]) nT
    have bx2 := R2.bh _ _ R2.bx
    have hy : NActAt (upd C T (.tup [.int 3, .ref q, .int (w : Nat)])) T (.add n w) := ⟨q, upd_same, sC _ _ hq⟩
    have hm := may_add R.ok hla hc hn hw
    refine ⟨_, rfl, z.rx, _, z.dx, _, _, rfl, bx2, k_Reader E, n_Reader_state E, rfl, _, rfl, z.sa, T, f, nat_ f xs xs.length, xs.length, .add n w, rfl, R2.view, R2.ws, hy.same R2.ch, fun H3 s3 => ⟨_, rfl, ?_⟩⟩
    have R3 := R2.same s3
    have bx3 := R3.bh _ _ R3.bx
    unfold Vbenah.ask at eC
    rw [hm] at eC
    cases g : nmay f.words.length (nat_ f xs xs.length) (.add n w) with
    | false =>
      rw [g] at eC
      exact if_t rfl ⟨_, rfl, z.rx, z.dx, _, rfl, bx3, rfl, H0, _, _, z, y, f, xs, len, at_ + 1, pcs, rfl, R3, k0 _ eC⟩
    | true =>
      rw [g] at eC hm
      refine if_f rfl ⟨_, rfl, z.rx, z.dx, _, rfl, bx3, rfl, H0, _, _, z, y, f, xs, len, at_ + 1, pcs, rfl, R3, hl2, fun B4 H4 b4 R4 => ⟨_, rfl, ?_⟩⟩
      refine k _ _ eC _ _ _ T _ ((may_iff f (.add c w)).mp hm).2 (fun n e => by cases e) sC R4 ?_ hr2 (by omega)
      show NActAt _ T (.add ((f.acts.filterMap cardN).getD c []) w)
      rw [eD]
      exact hy
  · rw [if_pos rfl] at eC
    refine ⟨_, rfl, rfl, _, rfl, if_t rfl ⟨_, rfl, (show 2 ≤ sizeLine by decide), fun T nT => ?_⟩⟩
    have R2 := R1.cnew (o := .tup [.int 4, .ref q]) nT
    have sC := R1.know' (o := .tup [.int 4, .ref q]) nT
    refine k _ _ eC _ _ _ T _ hc (fun n e => by cases e) sC R2 ?_ rfl (by omega)
    show NActAt _ T (.grow ((f.acts.filterMap cardN).getD c []))
    rw [eD]
    exact ⟨q, upd_same, sC _ _ hq⟩
  · rw [if_neg (by decide), if_pos rfl] at eC
    have eh : ((f.holes : Nat) : Int) - 1 = ((f.holes - 1 : Nat) : Int) := by omega
    refine ⟨_, rfl, rfl, _, rfl, if_f rfl ⟨_, rfl, rfl, _, rfl, if_t rfl ⟨_, rfl, _, rfl, z.rx, z.dx, _, rfl, bx1, rfl, _, rfl, z.rx, _, z.dx, _, _, rfl, bx1, k_Reader E, n_Reader_file E, rfl, z.fl, _, z.fx, _, _, rfl, bf1, k_File E, n_File_holes E, rfl, (f.holes : Nat), 1, rfl, rfl, H0, C, B1, z, y, f, xs, len, at_ + 1, pcs, 0, f.holes - 1, by rw [← eh]; rfl, by omega, R1, fun p e2 => k0 p ?_, fun h r2 B2 H2 e2 l1 l2 hr2 hl2 b2 R2 _ => ⟨(show 3 ≤ sizeLine by decide), fun T nT => ?_⟩⟩⟩⟩
    · rw [eC, e2]
    rw [e2] at eC
    have R3 := R2.cnew (o := .tup [.int 5, .ref q, .int (h : Nat)]) nT
    have sC := R2.know' (o := .tup [.int 5, .ref q, .int (h : Nat)]) nT
    refine k _ _ eC _ _ _ T _ ⟨hc, by omega⟩ (fun n e => by cases e) sC R3 ?_ hr2 (by omega)
    show NActAt _ T (.notch ((f.acts.filterMap cardN).getD c []) h)
    rw [eD]
    exact ⟨q, upd_same, sC _ _ hq⟩
def abytes : List (List Nat) := [Vbenah.W "under", Vbenah.W "apart", Vbenah.W "card", Vbenah.W "add", Vbenah.W "grow", Vbenah.W "notch"]
def kindNo (b : List Nat) : Option Nat := abytes.findIdx? fun x => x == b
def kindIn (f : File) (e : Nat) : List Wd → Exc (Nat × List Wd)
  | [] => .error e
  | w :: r => match kindNo w.2 with
    | none => .error w.1
    | some k => if 80 ≤ f.acts.length ∨ (k = 2 ∧ 20 ≤ (Vbenah.now f).cards.length) then .error w.1 else .ok (k, r)
theorem kindIn_cons (f : File) (e : Nat) (w : Wd) (r : List Wd) : kindIn f e (w :: r) = match kindNo w.2 with
    | none => .error w.1
    | some k => if 80 ≤ f.acts.length ∨ (k = 2 ∧ 20 ≤ (Vbenah.now f).cards.length) then .error w.1 else .ok (k, r) := rfl
theorem kindNo_stop {b : List Nat} (h : ¬ wordy b) : kindNo b = none := by
  unfold kindNo
  rw [List.findIdx?_eq_none_iff]
  intro x hx
  refine beq_eq_false_iff_ne.mpr fun e => h ?_
  have key : abytes.all (fun x => decide (wordy x)) = true := by decide +kernel
  rw [← e]
  exact of_decide_eq_true (List.all_eq_true.mp key x hx)
theorem kindIn_stop {f : File} {e : Nat} {ws : List Wd} (h : nextW ws = false) : kindIn f e ws = .error (VbenCore.placeOf e ws) := by
  cases ws with
  | nil => rfl
  | cons w r =>
    rw [kindIn_cons, kindNo_stop (of_decide_eq_false h)]
    rfl
theorem cards_le {f : File} {xs : List NAct} (o : Ok f xs) : ∀ i, i ≤ f.acts.length → (Vbenah.at_ f i).cards.length ≤ 20
  | 0, _ => Nat.zero_le _
  | i + 1, hi => by
    have hx : f.acts[i]? = some f.acts[i] := List.getElem?_eq_getElem (by omega)
    have m := o.ok i _ hx
    have ih := cards_le o i (by omega)
    rw [at_succ hx, ← cn_len, done_names, List.length_append, cn_len]
    cases e : f.acts[i] with
    | card n ws =>
      rw [e] at m
      have := m.1
      show _ + 1 ≤ 20
      omega
    | _ => exact ih
theorem aw_at {K : PySem.W.Frag} : ∀ (i : Nat) (v : V), ([V.str "under", .str "apart", .str "card", .str "add", .str "grow", .str "notch"] : List V)[i]? = some v → ∃ s : Str, v = .str s ∧ s.cps.size ≤ 1000 ∧ abytes[i]? = some (s.cps.toList.map fun c => c)
  | 0, _, h => ⟨"under", (Option.some.inj h).symm, by decide, by rw [wb1]; rfl⟩
  | 1, _, h => ⟨"apart", (Option.some.inj h).symm, by decide, by rw [wb2]; rfl⟩
  | 2, _, h => ⟨"card", (Option.some.inj h).symm, by decide, by rw [wb3]; rfl⟩
  | 3, _, h => ⟨"add", (Option.some.inj h).symm, by decide, by rw [wb4]; rfl⟩
  | 4, _, h => ⟨"grow", (Option.some.inj h).symm, by decide, by rw [wb5]; rfl⟩
  | 5, _, h => ⟨"notch", (Option.some.inj h).symm, by decide, by rw [wb6]; rfl⟩
  | _ + 6, _, h => by simp at h
def sp_Reader_act_kind (K : PySem.W.Frag) : Sp := fun vs H Q E => ∃ (H0 C B : Hp) (z : RC) (y : SC) (f : File) (xs : List NAct) (len at_ : Nat) (pcs : List (Nat × List Nat)), vs = [.ref z.rx] ∧ RdX K H0 C B H z y f xs len at_ pcs ∧
  (∀ p, kindIn f len (pcs.drop at_) = .error p → FaultW K H0 p E) ∧
  ∀ n r B' H', kindIn f len (pcs.drop at_) = .ok (n, r) → n < 6 → f.acts.length < 80 → (n = 2 → (Vbenah.now f).cards.length < 20) → r = pcs.drop (at_ + 1) → But [z.rx] B B' → RdX K H0 C B' H' z y f xs len (at_ + 1) pcs → Q (.int (n : Nat)) H'
theorem len_Reader_act_kind (K : PySem.W.Frag) : ∀ vs H Q E, sp_Reader_act_kind K vs H Q E → vs.length = 1 := fun _ _ _ _ ⟨_, _, _, _, _, _, _, _, _, _, h, _⟩ => by rw [h]; rfl
theorem sc_Reader_act_kind : FnScope (["self", "row", "kind", "word"] : List Str) ["self"] (defScope s_Reader_act_kind) := C8.fnScope_by (by decide +kernel)
theorem c_Reader_act_kind (E : Env P w K mg base) : Met P w K mg base (L2.CX P w) 5 "Reader" "act_kind" (sp_Reader_act_kind K) := by
  have sc := sc_Reader_act_kind
  refine mkMet (st := s_Reader_act_kind) (E.top.d.def_ 99 (d := d_Reader_act_kind) rfl) (E.cls 102) (E.meth 131) sc (fun _ _ _ _ _ _ us hl => match us, hl with | [_], _ => rfl) (len_Reader_act_kind K) (fun cdv A outer s H vs Q X hr h => ⟨_, (pss_cons (ps_set (i := 1) sc.nd rfl (Or.inl rfl) (pe_m0 (c_Reader_row E) hr (by decide) (passX (takes_of rfl rfl rfl rfl)) (pv 0)))
    (pss_cons (ps_for (passes_of rfl) rfl (pi_enumT (by rfl) (fr_enumerate E) (pa_cons (C8.pe_gc rfl (g_ACT_WORDS E)) pa_nil)) (pg_tup rfl (pgs_cons (pg_name (i := 2) sc.nd rfl (Or.inl rfl)) (pgs_cons (pg_name (i := 3) sc.nd rfl (Or.inl rfl)) pgs_nil)))
    (pss_one (ps_if (pt_cmpR (opEqD (K := K) hr.units) (pv 1) (pe_c (c_bytes_of E) hr (by decide) rfl pass0 (pa_cons (pv 3) pa_nil)) (nomark _)) (pss_cons (ps_if (PW.pt (pw_or (pt_cmpR op_eq (pe_callB (clen (K := K)) rfl (fr_len E) (by decide +kernel) (pa_cons (peF (K := K) (peF (K := K) (pv 0) rfl) rfl) pa_nil)) (C8.pe_gc rfl (g_MOST_ACTS E)) (nomark _)) (pw_or1 (PW.pt (pw_and (pt_cmpR op_eq (pv 2) (C8.pe_gc rfl (g_CARD E)) (nomark _)) (pw_and1 (pt_cmpR op_eq (pe_callB (clen (K := K)) rfl (fr_len E) (by decide +kernel) (pa_cons (peF (K := K) (peF (K := K) (pv 0) rfl) rfl) pa_nil)) (C8.pe_gc rfl (g_MOST_CARDS E)) (nomark _)))))))) (pss_one (ps_expr (pe_m0 (c_Reader_fail E) hr (by decide) (passX (takes_of rfl rfl rfl rfl)) (pv 0)))) pss_nil)
    (pss_cons (ps_expr (pe_m0 (c_Reader_go_on E) hr (by decide) pass0 (pv 0)))
    (pss_one (ps_ret (pv 2))))) pss_nil)))
    (pss_one (ps_ret (pe_m0 (c_Reader_fail E) hr (by decide) (passX (takes_of rfl rfl rfl rfl)) (pv 0)))))), ?_⟩)
  obtain ⟨H0, C, B, z, y, f, xs, len, at_, pcs, rfl, R, k0, k⟩ := h
  have bx := R.bh _ _ R.bx
  refine ⟨_, rfl, z.rx, z.dx, _, rfl, bx, rfl, H0, C, B, z, y, f, xs, len, at_, pcs, rfl, R, fun hn => k0 _ (kindIn_stop hn), fun w r q hd hw hq => ?_⟩
  obtain ⟨hg, hr2, hl⟩ := drop_one hd
  have e := kindIn_cons f len w r
  rw [← hd] at e
  have aw := fun H => He.tupB_ok E.tups.1 H
  have hz : FaultW K H0 w.1 X → FaultW K H0 (VbenCore.placeOf len (pcs.drop at_)) X := fun h => by rw [hd]; exact h
  refine ⟨_, _, rfl, aw H, ?_⟩
  refine for_it walk_enumT (fun i σ H' => ∃ x y', σ = [some (.ref z.rx), some (.ref q), x, y'] ∧ Same H H' ∧ ∀ j b, j < i → abytes[j]? = some b → b ≠ w.2) ⟨_, _, rfl, Same.refl _, fun j b hj => absurd hj (Nat.not_lt_zero _)⟩ (fun i σ H' hi ⟨_, _, _, s, _⟩ => aw H') (fun i v σ H1 H2 hi ⟨x1, y1, e1, s, hno⟩ yy => ?_) fun σ H1 ⟨x1, y1, e1, s, hno⟩ => ?_
  · subst e1
    obtain ⟨T, v1, v2, rfl, nT, rfl, hv1, hv2⟩ := yy
    cases hv1
    obtain ⟨st, rfl, hsz, hab⟩ := aw_at (K := K) i _ hv2
    have s2 : Same H (upd H1 T (.tup [.int (i : Nat), .str st])) := Same.trans s (Same.new nT)
    have hi6 := lt_of_get hab
    refine ⟨T, _, rfl, SqT.of upd_same, rfl, _, _, rfl, _, _, rfl, rfl, _, rfl, _, rfl, st, rfl, hsz, fun H3 p s3 e3 => ⟨dT1 w.2, dT1 (st.cps.toList.map fun c => c), dpT (SqT.of (s3 _ _ (s2 _ _ (R.ch _ _ hq)))), dpT (SqT.of e3), deT1.shaped (by decide) _, deT1.shaped (by decide) _, _, rfl, ?_⟩⟩
    rw [deT1.eq]
    have R3 := R.same (Same.trans s2 s3)
    have bx3 := R3.bh _ _ R3.bx
    refine ite2 (fun hc => ?_) fun hc => ?_
    · have hwb := of_decide_eq_true hc
      have hkn : kindNo w.2 = some i := by
        unfold kindNo
        rw [List.findIdx?_eq_some_iff_getElem]
        refine ⟨hi6, ?_, fun j hj h => ?_⟩
        · rw [List.getElem?_eq_getElem hi6] at hab
          rw [Option.some.inj hab]
          exact beq_iff_eq.mpr hwb.symm
        · exact hno j _ hj (List.getElem?_eq_getElem (by omega)) (beq_iff_eq.mp h)
      rw [hkn] at e
      have e : kindIn f len (pcs.drop at_) = if 80 ≤ f.acts.length ∨ (i = 2 ∧ 20 ≤ (Vbenah.now f).cards.length) then .error w.1 else .ok (i, r) := e
      have la := R.ok.la
      have lx := R.ok.len
      have lp := paired_len R.pa
      have lc := cards_le R.ok _ (Nat.le_refl f.acts.length)
      have lc : (Vbenah.now f).cards.length ≤ 20 := lc
      obtain ⟨dy, ma, la_, ca, v1, v2, v3, ⟨cs, v4, v5⟩⟩ := R3.view
      have lcs := paired_len v5
      rw [← R.ok.now] at lcs
      refine ⟨_, rfl, z.rx, _, z.dx, _, _, rfl, bx3, k_Reader E, n_Reader_file E, rfl, z.fl, _, z.fx, _, _, rfl, R3.bh _ _ R3.bf, k_File E, n_File_acts E, rfl, z.al, _, rfl, Or.inl (SqL.of (R3.bh _ _ R3.ba)), rfl, _, rfl, ?_⟩
      have eA : decide (V.int ((z.as.map V.ref).length : Nat) = V.int 80) = decide (f.acts.length = 80) := by
        rw [List.length_map, lp, lx]
        refine (dN _ 80).trans ?_
        by_cases h : f.acts.length = 80
        · rw [decide_eq_true h]; exact beq_iff_eq.mpr h
        · rw [decide_eq_false h]; exact beq_eq_false_iff_ne.mpr h
      rw [eA]
      by_cases h80 : f.acts.length = 80
      · rw [if_pos (Or.inl (by omega))] at e
        exact if_t (decide_eq_true h80) (if_t rfl ⟨_, rfl, z.rx, z.dx, _, rfl, bx3, rfl, H0, _, _, z, y, f, xs, len, at_, pcs, rfl, R3, hz (k0 _ e)⟩)
      · refine if_f (decide_eq_false h80) ⟨_, rfl, rfl, _, rfl, ?_⟩
        have eI : decide (V.int (i : Nat) = V.int 2) = decide (i = 2) := (dN i 2).trans (by
          by_cases h : i = 2
          · rw [decide_eq_true h]; exact beq_iff_eq.mpr h
          · rw [decide_eq_false h]; exact beq_eq_false_iff_ne.mpr h)
        rw [eI]
        by_cases hi2 : i = 2
        · refine if_t (decide_eq_true hi2) ⟨_, rfl, z.rx, _, z.dx, _, _, rfl, bx3, k_Reader E, n_Reader_state E, rfl, z.sa, _, dy, _, _, rfl, v1, k_State E, n_State_cards E, rfl, ca, _, rfl, Or.inl (SqL.of v4), rfl, _, rfl, ?_⟩
          have eC : decide (V.int ((cs.map V.ref).length : Nat) = V.int 20) = decide ((Vbenah.now f).cards.length = 20) := by
            rw [List.length_map, lcs]
            refine (dN _ 20).trans ?_
            by_cases h : (Vbenah.now f).cards.length = 20
            · rw [decide_eq_true h]; exact beq_iff_eq.mpr h
            · rw [decide_eq_false h]; exact beq_eq_false_iff_ne.mpr h
          rw [eC]
          by_cases h20 : (Vbenah.now f).cards.length = 20
          · rw [if_pos (Or.inr ⟨hi2, by omega⟩)] at e
            exact if_t (decide_eq_true h20) ⟨_, rfl, z.rx, z.dx, _, rfl, bx3, rfl, H0, _, _, z, y, f, xs, len, at_, pcs, rfl, R3, hz (k0 _ e)⟩
          · rw [if_neg (fun h => h.elim (fun h => by omega) fun h => by omega)] at e
            exact if_f (decide_eq_false h20) ⟨_, rfl, z.rx, z.dx, _, rfl, bx3, rfl, H0, _, _, z, y, f, xs, len, at_, pcs, rfl, R3, hl, fun B4 H4 b4 R4 => ⟨_, rfl, k i r B4 H4 e hi6 (by omega) (fun _ => by omega) hr2 b4 R4⟩⟩
        · rw [if_neg (fun h => h.elim (fun h => by omega) fun h => hi2 h.1)] at e
          exact if_f (decide_eq_false hi2) (if_f rfl ⟨_, rfl, z.rx, z.dx, _, rfl, bx3, rfl, H0, _, _, z, y, f, xs, len, at_, pcs, rfl, R3, hl, fun B4 H4 b4 R4 => ⟨_, rfl, k i r B4 H4 e hi6 (by omega) (fun h => absurd h hi2) hr2 b4 R4⟩⟩)
    · refine ⟨_, _, rfl, Same.trans s2 s3, fun j b hj hb => ?_⟩
      rcases Nat.lt_or_ge j i with g | g
      · exact hno j b g hb
      · have : j = i := by omega
        subst this
        rw [hab] at hb
        cases hb
        exact fun z => hc (decide_eq_true z.symm)
  · subst e1
    have hkn : kindNo w.2 = none := by
      unfold kindNo
      rw [List.findIdx?_eq_none_iff]
      intro x hx
      obtain ⟨j, hj⟩ := List.mem_iff_getElem?.mp hx
      exact beq_eq_false_iff_ne.mpr (hno j x (show j < 6 from lt_of_get hj) hj)
    rw [hkn] at e
    have R1 := R.same s
    exact ⟨_, rfl, z.rx, z.dx, _, rfl, R1.bh _ _ R1.bx, rfl, H0, _, _, z, y, f, xs, len, at_, pcs, rfl, R1, hz (k0 _ e)⟩
end
end Bw
namespace Bw
open PySem PySem.Spec PyProof.Rows L2
open Vbenah (File State Card Act)
section
variable {P : Program} {w : World} {K : PySem.W.Frag} {mg : Str → Option Value} {base : Heap}
/-- what a wrong word makes of what is left -/
def Stk (tl : File → List Wd → Exc File) : Prop := ∀ f w r, w.2 ≠ [10] → tl f (w :: r) = .error w.1
def wlIn (f : File) (e : Nat) (tl : File → List Wd → Exc File) (ws : List Wd) : Exc File := match Vbenah.wordLine f e ws with
  | .error p => .error p
  | .ok (f', r) => tl f' r
def hlIn (f : File) (e : Nat) (tl : File → List Wd → Exc File) (nm : List Nat) (g lo n : Nat) (ws : List Wd) : Exc File := match Vbenah.holesIn f.holes e g lo n ws with
  | .error p => .error p
  | .ok (m, r) => tl { f with words := f.words ++ [(nm, m)] } r
structure HlI (f : File) (e : Nat) (tl : File → List Wd → Exc File) (nm : List Nat) (T : Exc File) (ws : List Wd) (hs : List Nat) (la n g : Nat) : Prop where
  eq : T = hlIn f e tl nm g (la + 1) n ws
  ho : Vbenah.holesOf f.holes n = hs ++ [la]
  lt : n < 2 ^ (la + 1)
  lk : la < f.holes
  gk : f.holes ≤ g + (la + 1)
theorem bit_plus {n h : Nat} (hn : n < 2 ^ h) (x : Nat) : Vbenah.bit (n + 2 ^ h) x = (Vbenah.bit n x || decide (x = h)) := by
  rw [bit_tb, bit_tb, Nat.add_comm]
  by_cases e : x = h
  · subst e
    rw [Nat.testBit_two_pow_add_eq, Nat.testBit_lt_two_pow hn]
    simp
  · rw [decide_eq_false e, Bool.or_false]
    rcases Nat.lt_or_ge x h with l | l
    · exact Nat.testBit_two_pow_add_gt l n
    · have g : h + 1 ≤ x := by omega
      have p1 : 2 ^ (h + 1) ≤ 2 ^ x := Nat.pow_le_pow_right (by decide) g
      rw [Nat.pow_succ] at p1
      rw [Nat.testBit_lt_two_pow (by omega), Nat.testBit_lt_two_pow (by omega)]
theorem holes_plus {k n h : Nat} (hn : n < 2 ^ h) (hk : h < k) : Vbenah.holesOf k (n + 2 ^ h) = Vbenah.holesOf k n ++ [h] := by
  refine asc_eq (asc_holes _ _) ?_ fun x => ?_
  · refine List.pairwise_append.mpr ⟨asc_holes _ _, List.pairwise_singleton _ _, fun a ha b hb => ?_⟩
    rw [List.mem_singleton.mp hb]
    rcases Nat.lt_or_ge a h with l | l
    · exact l
    · have := (mem_holes.mp ha).2
      rw [bit_tb, Nat.testBit_lt_two_pow (Nat.lt_of_lt_of_le hn (Nat.pow_le_pow_right (by decide) l))] at this
      cases this
  · rw [mem_holes, bit_plus hn, List.mem_append, mem_holes, List.mem_singleton, Bool.or_eq_true, decide_eq_true_iff]
    constructor
    · rintro ⟨h1, h2 | h2⟩
      · exact Or.inl ⟨h1, h2⟩
      · exact Or.inr h2
    · rintro (⟨h1, h2⟩ | rfl)
      · exact ⟨h1, Or.inl h2⟩
      · exact ⟨hk, Or.inr rfl⟩
theorem holes_zero (k : Nat) : Vbenah.holesOf k 0 = [] := by
  cases h : Vbenah.holesOf k 0 with
  | nil => rfl
  | cons x l =>
    have : x ∈ Vbenah.holesOf k 0 := by rw [h]; exact List.mem_cons_self
    have := (mem_holes.mp this).2
    rw [bit_zero] at this
    cases this
theorem holesIn_cons (k e g lo n : Nat) (w : Wd) (r : List Wd) (h : w.2 ≠ [10] ∨ n = 0) : Vbenah.holesIn k e (g + 1) lo n (w :: r) = match VbenCore.natOf w.2 with
    | some h => if lo ≤ h ∧ h < k then Vbenah.holesIn k e g (h + 1) (n + 2 ^ h) r else .error w.1
    | none => .error w.1 := by
  refine (show (if Vbenah.ends (w :: r) = true ∧ n ≠ 0 then _ else _) = _ from if_neg ?_)
  rintro ⟨h1, h2⟩
  rcases h with h | h
  · unfold Vbenah.ends at h1
    have h1 : (w.2 == [10]) = true := h1
    exact h (beq_iff_eq.mp h1)
  · exact h2 h
theorem holesIn_end (k e g lo n : Nat) (ws : List Wd) (h : Vbenah.ends ws = true) (hn : n ≠ 0) : Vbenah.holesIn k e g lo n ws = .ok (n, ws) := by
  cases g with
  | zero => rfl
  | succ g => exact if_pos ⟨h, hn⟩
section
variable {f : File} {e : Nat} {tl : File → List Wd → Exc File} {nm : List Nat} {T : Exc File} {ws r : List Wd} {hs : List Nat} {la n g h : Nat}
theorem numIn_cases {e lo hi : Nat} {w : Wd} {r : List Wd} : Vbenah.numIn e lo hi (w :: r) = match VbenCore.natOf w.2 with
  | some n => if lo ≤ n ∧ n ≤ hi then .ok (n, r) else .error w.1
  | none => .error w.1 := rfl
theorem HlI.step (I : HlI f e tl nm T ws hs la n g) (hw : nextW ws = true) (hn : Vbenah.numIn e (la + 1) (f.holes - 1) ws = .ok (h, r)) (h1 : la + 1 ≤ h) (h2 : h ≤ f.holes - 1) : HlI f e tl nm T r (hs ++ [la]) h (n + 2 ^ h) (g - 1) := by
  obtain ⟨w, r', rfl, hwd⟩ := next_t hw
  have lk := I.lk
  have gk := I.gk
  have hk : h < f.holes := by omega
  have hn2 : n < 2 ^ h := Nat.lt_of_lt_of_le I.lt (Nat.pow_le_pow_right (by decide) h1)
  obtain ⟨g', rfl⟩ : ∃ g', g = g' + 1 := ⟨g - 1, by omega⟩
  refine ⟨?_, by rw [holes_plus hn2 hk, I.ho], by rw [Nat.pow_succ]; omega, hk, by omega⟩
  rw [I.eq]
  unfold hlIn
  rw [holesIn_cons _ _ _ _ _ _ _ (Or.inl hwd.1)]
  rw [numIn_cases] at hn
  cases q : VbenCore.natOf w.2 with
  | none => rw [q] at hn; cases hn
  | some m =>
    rw [q] at hn
    have hn : (if la + 1 ≤ m ∧ m ≤ f.holes - 1 then Except.ok (m, r') else .error w.1) = Except.ok (h, r) := hn
    split at hn
    · injection hn with hn
      injection hn with q1 q2
      subst q1
      subst q2
      show (match (if la + 1 ≤ m ∧ m < f.holes then Vbenah.holesIn f.holes e g' (m + 1) (n + 2 ^ m) r' else .error w.1) with | .error p => Except.error p | .ok (m, r) => _) = _
      rw [if_pos ⟨h1, hk⟩]
      rfl
    · cases hn
theorem HlI.bad (I : HlI f e tl nm T ws hs la n g) (st : Stk tl) (hw : nextW ws = true) {p : Nat} (hn : Vbenah.numIn e (la + 1) (f.holes - 1) ws = .error p) : T = .error p := by
  obtain ⟨w, r', rfl, hwd⟩ := next_t hw
  have lk := I.lk
  have hp : p = w.1 := by
    rw [numIn_cases] at hn
    cases q : VbenCore.natOf w.2 with
    | none => rw [q] at hn; injection hn with hn; exact hn.symm
    | some m =>
      rw [q] at hn
      have hn : (if la + 1 ≤ m ∧ m ≤ f.holes - 1 then Except.ok (m, r') else .error w.1) = Except.error p := hn
      split at hn
      · cases hn
      · injection hn with hn
        exact hn.symm
  subst hp
  rw [I.eq]
  unfold hlIn
  cases g with
  | zero => exact st _ w r' hwd.1
  | succ g =>
    rw [holesIn_cons _ _ _ _ _ _ _ (Or.inl hwd.1)]
    rw [numIn_cases] at hn
    cases q : VbenCore.natOf w.2 with
    | none => rfl
    | some m =>
      rw [q] at hn
      have hn : (if la + 1 ≤ m ∧ m ≤ f.holes - 1 then Except.ok (m, r') else .error w.1) = Except.error w.1 := hn
      split at hn
      · cases hn
      · rename_i hh
        show (match (if la + 1 ≤ m ∧ m < f.holes then Vbenah.holesIn f.holes e g (m + 1) (n + 2 ^ m) r' else .error w.1) with | .error p => Except.error p | .ok (m, r) => _) = _
        rw [if_neg fun z => hh ⟨z.1, by omega⟩]
theorem HlI.done (I : HlI f e tl nm T ws hs la n g) (st : Stk tl) (hw : nextW ws = false) : T = tl { f with words := f.words ++ [(nm, n)] } ws := by
  rw [I.eq]
  unfold hlIn
  have n0 : n ≠ 0 := fun z => by
    have := I.ho
    rw [z, holes_zero] at this
    simp at this
  cases g with
  | zero => rfl
  | succ g =>
    cases ws with
    | nil => rw [holesIn_end _ _ _ _ _ _ rfl n0]
    | cons w r =>
      by_cases h10 : w.2 = [10]
      · rw [holesIn_end _ _ _ _ _ (w :: r) (show (w.2 == [10]) = true from beq_iff_eq.mpr h10) n0]
      · rw [holesIn_cons _ _ _ _ _ _ _ (Or.inl h10), natOf_wordy (of_decide_eq_false hw), st _ w r h10]
theorem hl_first (st : Stk tl) (h1 : 1 ≤ f.holes) (hn : Vbenah.numIn e 0 (f.holes - 1) ws = .ok (h, r)) (h2 : h ≤ f.holes - 1) : HlI f e tl nm (hlIn f e tl nm f.holes 0 0 ws) r [] h (0 + 2 ^ h) (f.holes - 1) := by
  have hk : h < f.holes := by omega
  refine ⟨?_, by rw [holes_plus (Nat.pow_pos (by decide)) hk, holes_zero], by rw [Nat.pow_succ]; have := Nat.pow_pos (n := h) (show 0 < 2 by decide); omega, hk, by omega⟩
  unfold hlIn
  obtain ⟨g, hg⟩ : ∃ g, f.holes = g + 1 := ⟨f.holes - 1, by omega⟩
  cases ws with
  | nil => cases hn
  | cons w r' =>
    rw [hg]
    rw [holesIn_cons _ _ _ _ _ _ _ (Or.inr rfl)]
    rw [numIn_cases] at hn
    cases q : VbenCore.natOf w.2 with
    | none => rw [q] at hn; cases hn
    | some m =>
      rw [q] at hn
      have hn : (if 0 ≤ m ∧ m ≤ f.holes - 1 then Except.ok (m, r') else .error w.1) = Except.ok (h, r) := hn
      split at hn
      · injection hn with hn
        injection hn with q1 q2
        subst q1
        subst q2
        show (match (if 0 ≤ m ∧ m < g + 1 then Vbenah.holesIn (g + 1) e g (m + 1) (0 + 2 ^ m) r' else .error w.1) with | .error p => Except.error p | .ok (m, r) => _) = _
        rw [if_pos ⟨Nat.zero_le _, by omega⟩]
        rfl
      · cases hn
theorem hl_fbad (h1 : 1 ≤ f.holes) {p : Nat} (hn : Vbenah.numIn e 0 (f.holes - 1) ws = .error p) : hlIn f e tl nm f.holes 0 0 ws = .error p := by
  unfold hlIn
  obtain ⟨g, hg⟩ : ∃ g, f.holes = g + 1 := ⟨f.holes - 1, by omega⟩
  cases ws with
  | nil =>
    injection hn with hn
    subst hn
    rw [hg]
    rfl
  | cons w r' =>
    have hg2 : f.holes - 1 = g := by omega
    rw [hg2] at hn
    rw [hg]
    rw [holesIn_cons _ _ _ _ _ _ _ (Or.inr rfl)]
    rw [numIn_cases] at hn
    cases q : VbenCore.natOf w.2 with
    | none => rw [q] at hn; injection hn with hn; subst hn; rfl
    | some m =>
      rw [q] at hn
      have hn : (if 0 ≤ m ∧ m ≤ g then Except.ok (m, r') else .error w.1) = Except.error p := hn
      split at hn
      · cases hn
      · rename_i hh
        injection hn with hn
        subst hn
        show (match (if 0 ≤ m ∧ m < g + 1 then Vbenah.holesIn (g + 1) e g (m + 1) (0 + 2 ^ m) r' else .error w.1) with | .error p => Except.error p | .ok (m, r) => _) = _
        rw [if_neg fun z => hh ⟨z.1, by omega⟩]
theorem ok_word {f : File} (o : Ok f []) (hl : f.words.length < 12) {nm hs : List Nat} {la n : Nat} (h1 : VbenCore.isName nm = true) (h2 : Vbenah.wordNo f nm = none) (h3 : Vbenah.holesOf f.holes n = hs ++ [la]) (h4 : n < 2 ^ f.holes) : Ok { f with words := f.words ++ [(nm, n)] } [] := by
  have ha : f.acts = [] := List.length_eq_zero_iff.mp o.len.symm
  refine ⟨?_, o.h1, o.ho, o.la, fun x hx => ?_, ?_, fun x hx => ?_, ?_, fun i x hx => ?_, fun n hn => o.cn_ n hn⟩
  · show (f.words ++ [(nm, n)]).length ≤ 12
    rw [List.length_append]
    exact hl
  · rcases List.mem_append.mp hx with m | m
    · exact o.nm x m
    · rw [List.mem_singleton.mp m]
      exact h1
  · show ((f.words ++ [(nm, n)]).map _).Nodup
    rw [List.map_append]
    refine nd_snoc o.nu fun m => ?_
    have := wordNo_none.mp h2
    rw [List.contains_iff_mem.mpr m] at this
    cases this
  · rcases List.mem_append.mp hx with m | m
    · exact o.mh x m
    · rw [List.mem_singleton.mp m]
      have : la ∈ Vbenah.holesOf f.holes n := by rw [h3]; simp
      exact ⟨h4, la, mem_holes.mp this⟩
  · show [] = f.acts.map _
    rw [ha]
    rfl
  · have hx : f.acts[i]? = some x := hx
    rw [ha] at hx
    cases hx
end
theorem wordLine_cons (f : File) (e : Nat) (tl : File → List Wd → Exc File) (w : Wd) (r : List Wd) : wlIn f e tl (w :: r) = if VbenCore.isName w.2 = true ∧ (Vbenah.wordNo f w.2).isNone = true then hlIn f e tl w.2 f.holes 0 0 r else .error w.1 := by
  unfold wlIn
  show (match (if VbenCore.isName w.2 = true ∧ (Vbenah.wordNo f w.2).isNone = true then (Vbenah.holesIn f.holes e f.holes 0 0 r >>= fun (m, r) => pure ({ f with words := f.words ++ [(w.2, m)] }, r)) else Except.error w.1) with | .error p => Except.error p | .ok (f', r) => tl f' r) = _
  split
  · rename_i p hp
    split at hp
    · rename_i h
      rw [if_pos h]
      unfold hlIn
      cases q : Vbenah.holesIn f.holes e f.holes 0 0 r with
      | error p' => rw [q] at hp; injection hp with hp; subst hp; rfl
      | ok x => rw [q] at hp; cases hp
    · rename_i h
      rw [if_neg h]
      injection hp with hp
      subst hp
      rfl
  · rename_i f' r' hp
    split at hp
    · rename_i h
      rw [if_pos h]
      unfold hlIn
      cases q : Vbenah.holesIn f.holes e f.holes 0 0 r with
      | error p' => rw [q] at hp; cases hp
      | ok x =>
        rw [q] at hp
        obtain ⟨m, r2⟩ := x
        injection hp with hp
        injection hp with h1 h2
        subst h1
        subst h2
        rfl
    · cases hp
theorem isName_stop {b : List Nat} (h : ¬ wordy b) : VbenCore.isName b = false := Bool.eq_false_iff.mpr fun z => h (name_wordy z)
theorem wlIn_stop {f : File} {e : Nat} {tl : File → List Wd → Exc File} {ws : List Wd} (h : nextW ws = false) : wlIn f e tl ws = .error (VbenCore.placeOf e ws) := by
  cases ws with
  | nil => rfl
  | cons w r =>
    rw [wordLine_cons, if_neg fun z => by rw [isName_stop (of_decide_eq_false h)] at z; cases z.1]
    rfl
/-- a word more, and a new state -/
theorem RdX.word {K : PySem.W.Frag} {H0 C B H H4 : Hp} {z : RC} {y y' : SC} {f : File} {len at_ : Nat} {pcs : List Wd} {q L e a : Addr} {nm : List Nat} {n : Nat} (R : RdX K H0 C B H z y f [] len at_ pcs) (hq : TupN C q nm) (hL : LstN C L (Vbenah.holesOf f.holes n))
    (o : Ok { f with words := f.words ++ [(nm, n)] } []) (he : upd (upd H z.nl (.lst (z.ns.map V.ref ++ [.ref q]))) z.ml (.lst (z.ms.map V.ref ++ [.ref L])) e = none)
    (S : SOx K (upd (upd (upd H z.nl (.lst (z.ns.map V.ref ++ [.ref q]))) z.ml (.lst (z.ms.map V.ref ++ [.ref L]))) e (.lst [])) H4 a z.ml Vbenah.begin_ y') :
    RdX K H0 C (upd (upd (upd (upd H z.nl (.lst (z.ns.map V.ref ++ [.ref q]))) z.ml (.lst (z.ms.map V.ref ++ [.ref L]))) e (.lst [])) z.rx (.ins (He.ga K "Reader") z.dx (readerF z.pl len at_ z.fl a)))
      (upd H4 z.rx (.ins (He.ga K "Reader") z.dx (readerF z.pl len at_ z.fl a))) { z with ns := z.ns ++ [q], ms := z.ms ++ [L], sa := a } y' { f with words := f.words ++ [(nm, n)] } [] len at_ pcs := by
  have nd := R.nd
  have bh := R.bh
  have hnm : z.nl ≠ z.ml := fun h => by simp [h] at nd
  have hna : z.nl ≠ z.al := fun h => by simp [h] at nd
  have hma : z.ml ≠ z.al := fun h => by simp [h] at nd
  have hrx := bh _ _ R.bx
  have hfl := bh _ _ R.bf
  have hnl := bh _ _ R.bn
  have hml := bh _ _ R.bm
  have hal := bh _ _ R.ba
  have old : ∀ {b u}, H b = some u → b ≠ z.nl → b ≠ z.ml → upd (upd (upd H z.nl (.lst (z.ns.map V.ref ++ [.ref q]))) z.ml (.lst (z.ms.map V.ref ++ [.ref L]))) e (.lst []) b = some u := fun {b u} h1 h2 h3 => by
    have g : upd (upd H z.nl (.lst (z.ns.map V.ref ++ [.ref q]))) z.ml (.lst (z.ms.map V.ref ++ [.ref L])) b = some u := by
      rw [upd_ne h3, upd_ne h2]
      exact h1
    exact Same.new he _ _ g
  have rx3 := old hrx (ne_obj hrx hnl fun z => by cases z) (ne_obj hrx hml fun z => by cases z)
  have rn : ∀ {b u}, H b = some u → u ≠ .ins (He.ga K "Reader") z.dx (readerF z.pl len at_ z.fl z.sa) → b ≠ z.rx := fun h n => ne_obj h hrx n
  exact { R with
    h0 := fun b u h => by
      rw [upd_ne (ne_of_none h R.e1)]
      exact old (R.hh _ _ h) (ne_of_none h R.e3) (ne_of_none h R.e4)
    cb := fun b u h => by
      rw [upd_ne (ne_of_none h R.c1)]
      exact old (R.ch _ _ h) (ne_of_none h R.c3) (ne_of_none h R.c4)
    so := S.bput rx3 (fun _ z => by cases z) (fun _ _ _ _ _ => reader_ne_card)
    bx := upd_same
    bf := by
      rw [upd_ne (rn hfl file_ne_reader)]
      exact old hfl (ne_obj hfl hnl fun z => by cases z) (ne_obj hfl hml fun z => by cases z)
    bn := by
      show upd _ z.rx _ z.nl = _
      rw [upd_ne (rn hnl fun z => by cases z), List.map_append]
      refine Same.new he _ _ ?_
      rw [upd_ne hnm]
      exact upd_same
    bm := by
      show upd _ z.rx _ z.ml = _
      rw [upd_ne (rn hml fun z => by cases z), List.map_append]
      exact Same.new he _ _ upd_same
    ba := by
      rw [upd_ne (rn hal fun z => by cases z)]
      exact old hal (Ne.symm hna) (Ne.symm hma)
    pn := by
      show Paired (TupN C) (z.ns ++ [q]) ((f.words ++ [(nm, n)]).map _)
      rw [List.map_append]
      exact paired_snoc R.pn hq
    pm := by
      show Paired (LstN C) (z.ms ++ [L]) ((f.words ++ [(nm, n)]).map _)
      rw [List.map_append]
      exact paired_snoc R.pm hL
    ok := o }
def sp_Reader_word_line (K : PySem.W.Frag) : Sp := fun vs H Q E => ∃ (H0 C B : Hp) (z : RC) (y : SC) (f : File) (len at_ : Nat) (pcs : List (Nat × List Nat)) (tl : File → List Wd → Exc File), vs = [.ref z.rx] ∧ f.words.length < 12 ∧ Stk tl ∧
  RdX K H0 C B H z y f [] len at_ pcs ∧ (∀ p, wlIn f len tl (pcs.drop at_) = .error p → FaultW K H0 p E) ∧
  ∀ C' B' H' z' y' f' at', z'.rx = z.rx ∧ z'.ll = z.ll → RdX K H0 C' B' H' z' y' f' [] len at' pcs → at_ < at' → wlIn f len tl (pcs.drop at_) = tl f' (pcs.drop at') → Q .non H'
theorem len_Reader_word_line (K : PySem.W.Frag) : ∀ vs H Q E, sp_Reader_word_line K vs H Q E → vs.length = 1 := fun _ _ _ _ ⟨_, _, _, _, _, _, _, _, _, _, h, _⟩ => by rw [h]; rfl
structure WlI (K : PySem.W.Frag) (H0 C : Hp) (z : RC) (y : SC) (f : File) (len at0 : Nat) (pcs : List Wd) (tl : File → List Wd → Exc File) (nm : List Nat) (T : Exc File) (q L : Addr) (B : Hp) (at_ : Nat) (hs : List Nat) (la n g : Nat) (σ : L2.St) (H : Hp) : Prop where
  sl : σ = [some (.ref z.rx), some (.ref q), some (.ref L)]
  rd : RdX K H0 C B H z y f [] len at_ pcs
  bl : B L = some (.lst (nV (hs ++ [la])))
  cl : C L = none ∧ H0 L = none
  lo : z.off L
  at0 : at0 < at_
  hl : HlI f len tl nm T (pcs.drop at_) hs la n g
def WlW (K : PySem.W.Frag) (H0 C : Hp) (z : RC) (y : SC) (f : File) (len at0 : Nat) (pcs : List Wd) (tl : File → List Wd → Exc File) (nm : List Nat) (T : Exc File) (q L : Addr) (m : Nat) (σ : L2.St) (H : Hp) : Prop :=
  ∃ B at_ hs la n g, m = pcs.length - at_ ∧ WlI K H0 C z y f len at0 pcs tl nm T q L B at_ hs la n g σ H
theorem sc_Reader_word_line : FnScope (["self", "name", "holes"] : List Str) ["self"] (defScope s_Reader_word_line) := C8.fnScope_by (by decide +kernel)
theorem c_Reader_word_line (E : Env P w K mg base) : Met P w K mg base (L2.CX P w) 8 "Reader" "word_line" (sp_Reader_word_line K) := by
  have sc := sc_Reader_word_line
  refine mkMet (st := s_Reader_word_line) (E.top.d.def_ 95 (d := d_Reader_word_line) rfl) (E.cls 102) (E.meth 127) sc (fun _ _ _ _ _ _ us hl => match us, hl with | [_], _ => rfl) (len_Reader_word_line K) (fun cdv A outer s H vs Q X hr h => ⟨_, (pss_cons (ps_set (i := 1) sc.nd rfl (Or.inl rfl) (pe_m0 (c_Reader_row E) hr (by decide) (passX (takes_of rfl rfl rfl rfl)) (pv 0)))
    (pss_cons (ps_if (PW.pt (pw_or (pt_not (pt_val (pe_c (c_is_name E) hr (by decide) rfl pass0 (pa_cons (pv 1) pa_nil)))) (pw_or1 (pt_cmpR (opInD (K := K) (hu65 hr)) (pv 1) (peF (K := K) (peF (K := K) (pv 0) rfl) rfl) (by rfl))))) (pss_one (ps_expr (pe_m0 (c_Reader_fail E) hr (by decide) (passX (takes_of rfl rfl rfl rfl)) (pv 0)))) pss_nil)
    (pss_cons (ps_expr (pe_m0 (c_Reader_go_on E) hr (by decide) pass0 (pv 0)))
    (pss_cons (ps_set (i := 2) sc.nd rfl (Or.inl rfl) (pe_lst (pa_cons (pe_m (c_Reader_number_within E) hr (by decide) (passX (takes_of rfl rfl rfl rfl)) (pv 0) (pa_cons pe_int (pa_cons (pe_op op_sub (peF (K := K) (peF (K := K) (pv 0) rfl) rfl) pe_int) pa_nil))) pa_nil)))
    (pss_cons (ps_while (passes_of rfl) (pt_val (pe_m0 (c_Reader_is_word E) hr (by decide) pass0 (pv 0)))
    (pss_one (ps_expr (pe_bm PySem.F.plainAttrs_list PySem.F.slot_list_append PySem.F.type_list_append mt_append (pv 2) (pa_cons (pe_m (c_Reader_number_within E) hr (by decide) (passX (takes_of rfl rfl rfl rfl)) (pv 0) (pa_cons (pe_op op_add (pe_ix (ixL (K := K)) (pv 2) (pe_un un_neg pe_int) (fun _ _ => rfl)) pe_int) (pa_cons (pe_op op_sub (peF (K := K) (peF (K := K) (pv 0) rfl) rfl) pe_int) pa_nil))) pa_nil)))))
    (pss_cons (ps_expr (pe_bm PySem.F.plainAttrs_list PySem.F.slot_list_append PySem.F.type_list_append mt_append (peF (K := K) (peF (K := K) (pv 0) rfl) rfl) (pa_cons (pv 1) pa_nil)))
    (pss_cons (ps_expr (pe_bm PySem.F.plainAttrs_list PySem.F.slot_list_append PySem.F.type_list_append mt_append (peF (K := K) (peF (K := K) (pv 0) rfl) rfl) (pa_cons (pv 2) pa_nil)))
    (pss_one (ps_fld (pv 0) (pe_c (c_state_behind E) hr (by decide) rfl pass0 (pa_cons (peF (K := K) (peF (K := K) (pv 0) rfl) rfl) (pa_cons (pe_lst pa_nil) pa_nil))) rfl))))))))), ?_⟩)
  obtain ⟨H0, C, B, z, y, f, len, at_, pcs, tl, rfl, hwl, st, R, k0, k⟩ := h
  have bx := R.bh _ _ R.bx
  have bf := R.bh _ _ R.bf
  refine ⟨_, rfl, z.rx, z.dx, _, rfl, bx, rfl, H0, C, B, z, y, f, [], len, at_, pcs, rfl, R, fun hn => k0 _ (wlIn_stop hn), fun w r q hd hw hq => ?_⟩
  obtain ⟨hg, hr2, hl⟩ := drop_one hd
  have e := wordLine_cons f len tl w r
  rw [← hd, hr2] at e
  have h1 := R.ok.h1
  have ho := R.ok.ho
  have hz : wlIn f len tl (pcs.drop at_) = .error w.1 → FaultW K H0 (VbenCore.placeOf len (pcs.drop at_)) X := fun h => by
    have := k0 _ h
    rw [hd]
    exact this
  refine ⟨_, rfl, q, w.2, rfl, R.ch _ _ hq, R.lw w (mem_of_get hg), fun H1 s1 => ⟨_, rfl, ?_⟩⟩
  have R1 := R.same s1
  have bx1 := R1.bh _ _ R1.bx
  have bf1 := R1.bh _ _ R1.bf
  cases gn : VbenCore.isName w.2 with
  | false =>
    rw [if_neg fun z => by rw [gn] at z; cases z.1] at e
    exact if_t rfl (if_t rfl ⟨_, rfl, z.rx, z.dx, _, rfl, bx1, rfl, H0, C, B, z, y, f, [], len, at_, pcs, rfl, R1, hz e⟩)
  | true =>
    have pnH : Paired (TupN H1) z.ns (f.words.map (·.1)) := paired_same (fun _ _ q => R1.ch _ _ q) R1.pn
    have dNs : Dp K H1 (.ref z.nl) (.list ((f.words.map (·.1)).map dT1)) := .lst (SqL.of (R1.bh _ _ R1.bn)) (dpRefs (fun b x q => dpT (SqT.of q)) pnH)
    refine if_f rfl ⟨_, rfl, _, rfl, z.rx, _, z.dx, _, _, rfl, bx1, k_Reader E, n_Reader_file E, rfl, z.fl, _, z.fx, _, _, rfl, bf1, k_File E, n_File_names E, rfl, dT1 w.2, (f.words.map (fun x : List Nat × Nat => x.1)).map dT1, dpT (SqT.of (R1.ch _ _ hq)), dNs, deT1.shaped (by decide) _, (deL deT1).shaped (by decide) _, _, rfl, ?_⟩
    rw [any_eqv deT1]
    cases gw : Vbenah.wordNo f w.2 with
    | some i =>
      obtain ⟨g1, g2, g3⟩ := wordNo_some gw
      rw [if_neg fun z => by rw [gw] at z; cases z.2] at e
      exact if_t (List.contains_iff_mem.mpr (mem_of_get g1)) ⟨_, rfl, z.rx, z.dx, _, rfl, bx1, rfl, H0, C, B, z, y, f, [], len, at_, pcs, rfl, R1, hz e⟩
    | none =>
      rw [if_pos ⟨gn, by rw [gw]; rfl⟩] at e
      refine if_f (wordNo_none.mp gw) ⟨_, rfl, z.rx, z.dx, _, rfl, bx1, rfl, H0, C, B, z, y, f, [], len, at_, pcs, rfl, R1, hl, fun B2 H2 b2 R2 => ?_⟩
      have bx2 := R2.bh _ _ R2.bx
      have bf2 := R2.bh _ _ R2.bf
      have eh : ((f.holes : Nat) : Int) - 1 = ((f.holes - 1 : Nat) : Int) := by omega
      refine ⟨_, rfl, z.rx, z.dx, _, rfl, bx2, rfl, _, rfl, z.rx, _, z.dx, _, _, rfl, bx2, k_Reader E, n_Reader_file E, rfl, z.fl, _, z.fx, _, _, rfl, bf2, k_File E, n_File_holes E, rfl, (f.holes : Nat), 1, rfl, rfl, H0, C, B2, z, y, f, [], len, at_ + 1, pcs, 0, f.holes - 1, by rw [← eh]; rfl, by omega, R2, fun p e2 => k0 p (e.trans (hl_fbad h1 e2)), fun h r3 B3 H3 e3 l1 l2 hr3 hl3 b3 R3 _ => ⟨(show 1 ≤ sizeLine by decide), fun L nL => ?_⟩⟩
      have cL : C L = none ∧ H0 L = none := ⟨R3.ch.free nL, R3.hh.free nL⟩
      have R4 := R3.bnew (o := .lst [.int (h : Nat)]) nL
      have I0 := hl_first (nm := w.2) st h1 e3 l2
      rw [hr3] at I0
      rw [← e] at I0
      refine ⟨WlW K H0 C z y f len at_ pcs tl w.2 (wlIn f len tl (pcs.drop at_)) q L, ⟨_, _, at_ + 1 + 1, [], h, _, _, rfl, rfl, R4, upd_same, cL, R3.fresh nL, by omega, I0⟩, ?_⟩
      rintro m σ H' ⟨B', at', hs, la, n, g, hm, ⟨rfl, R', hB, hC, hoff, hat, I⟩⟩
      have bx' := R'.bh _ _ R'.bx
      have bf' := R'.bh _ _ R'.bf
      have hBH := R'.bh _ _ hB
      refine ⟨_, rfl, z.rx, z.dx, _, rfl, bx', rfl, H0, C, B', z, y, f, [], len, at', pcs, rfl, R', _, rfl, ?_⟩
      cases gN : nextW (pcs.drop at') with
      | true =>
        obtain ⟨w', r', hd', hw'⟩ := next_t gN
        refine if_t rfl ⟨fun σ' H'' => ∃ m', m' < m ∧ WlW K H0 C z y f len at_ pcs tl w.2 (wlIn f len tl (pcs.drop at_)) q L m' σ' H'', fun _ _ h => h, ?_⟩
        refine ⟨_, rfl, ty_lst hBH, _, rfl, z.rx, z.dx, _, rfl, bx', rfl, _, rfl, 1, rfl, L, _, -1, .int (la : Nat), rfl, rfl, SqL.of hBH, by rw [nV_snoc]; exact atI_last _ _, (la : Nat), 1, rfl, rfl, _, rfl, z.rx, _, z.dx, _, _, rfl, bx', k_Reader E, n_Reader_file E, rfl, z.fl, _, z.fx, _, _, rfl, bf', k_File E, n_File_holes E, rfl, (f.holes : Nat), 1, rfl, rfl, H0, C, B', z, y, f, [], len, at', pcs, la + 1, f.holes - 1, by rw [← eh]; rfl, by omega, R', fun p e2 => k0 p (I.bad st gN e2), fun h' r5 B5 H5 e5 l5 l6 hr5 hl5 b5 R5 _ => ?_⟩
        have hB5 : B5 L = some (.lst (nV (hs ++ [la]))) := b5 _ _ (by simpa using hoff.1) hB
        have I5 := I.step gN e5 l5 l6
        have hlen : (hs ++ [la]).length ≤ 16 := by
          have := holes_len f.holes n
          rw [I.ho] at this
          omega
        refine ⟨L, _, _, rfl, rfl, R5.bh _ _ hB5, by rw [nV_len]; exact sz_lt (by omega), ?_⟩
        have R6 := R5.bset (o' := .lst (nV (hs ++ [la]) ++ [.int (h' : Nat)])) hB5 hC (fun _ z => by cases z) (fun _ _ _ _ _ z => by cases z) hoff
        rw [hr5] at I5
        refine ⟨pcs.length - (at' + 1), by omega, _, at' + 1, hs ++ [la], h', _, _, rfl, rfl, R6, ?_, hC, hoff, by omega, I5⟩
        rw [upd_same, nV_snoc (hs ++ [la])]
      | false =>
        have hT := I.done st gN
        refine if_f rfl ?_
        obtain ⟨sC, RK⟩ := R'.know hB hoff
        have nd := RK.nd
        have hnm : z.nl ≠ z.ml := fun h => by simp [h] at nd
        have hnl := RK.bh _ _ RK.bn
        have hml := RK.bh _ _ RK.bm
        have la12 : z.ns.length = f.words.length := by rw [paired_len RK.pn, List.length_map]
        have lm12 : z.ms.length = f.words.length := by rw [paired_len RK.pm, mks_len]
        have bx6 : upd H' z.nl (.lst (z.ns.map V.ref ++ [.ref q])) z.rx = _ := (upd_ne (ne_obj bx' hnl fun z => by cases z)).trans bx'
        have bf6 : upd H' z.nl (.lst (z.ns.map V.ref ++ [.ref q])) z.fl = _ := (upd_ne (ne_obj bf' hnl fun z => by cases z)).trans bf'
        have bm6 : upd H' z.nl (.lst (z.ns.map V.ref ++ [.ref q])) z.ml = _ := (upd_ne (Ne.symm hnm)).trans hml
        have bx7 : upd (upd H' z.nl (.lst (z.ns.map V.ref ++ [.ref q]))) z.ml (.lst (z.ms.map V.ref ++ [.ref L])) z.rx = _ := (upd_ne (ne_obj bx' hml fun z => by cases z)).trans bx6
        have bf7 : upd (upd H' z.nl (.lst (z.ns.map V.ref ++ [.ref q]))) z.ml (.lst (z.ms.map V.ref ++ [.ref L])) z.fl = _ := (upd_ne (ne_obj bf' hml fun z => by cases z)).trans bf6
        refine ⟨_, rfl, z.rx, _, z.dx, _, _, rfl, bx', k_Reader E, n_Reader_file E, rfl, z.fl, _, z.fx, _, _, rfl, bf', k_File E, n_File_names E, rfl, ty_lst hnl, _, rfl, z.nl, _, _, rfl, rfl, hnl, by rw [List.length_map]; exact sz_lt (by omega), ?_⟩
        refine ⟨_, rfl, z.rx, _, z.dx, _, _, rfl, bx6, k_Reader E, n_Reader_file E, rfl, z.fl, _, z.fx, _, _, rfl, bf6, k_File E, n_File_marks E, rfl, ty_lst bm6, _, rfl, z.ml, _, _, rfl, rfl, bm6, by rw [List.length_map]; exact sz_lt (by omega), ?_⟩
        refine ⟨_, rfl, z.rx, _, z.dx, _, _, rfl, bx7, k_Reader E, n_Reader_file E, rfl, z.fl, _, z.fx, _, _, rfl, bf7, k_File E, n_File_marks E, rfl, Nat.zero_le _, fun e8 ne8 => ?_⟩
        have n4 : n < 2 ^ f.holes := Nat.lt_of_lt_of_le I.lt (Nat.pow_le_pow_right (by decide) I.lk)
        have okW := ok_word RK.ok hwl gn gw I.ho n4
        have cK : Same (upd C L (.lst (nV (hs ++ [la])))) (upd (upd (upd H' z.nl (.lst (z.ns.map V.ref ++ [.ref q]))) z.ml (.lst (z.ms.map V.ref ++ [.ref L]))) e8 (.lst [])) := fun b u h => by
          refine Same.new ne8 _ _ ?_
          rw [upd_ne (ne_of_none h RK.c4), upd_ne (ne_of_none h RK.c3)]
          exact RK.ch _ _ h
        have pmK : Paired (LstN (upd C L (.lst (nV (hs ++ [la]))))) (z.ms ++ [L]) (mks { f with words := f.words ++ [(w.2, n)] }) := by
          show Paired _ (z.ms ++ [L]) ((f.words ++ [(w.2, n)]).map _)
          rw [List.map_append]
          refine paired_snoc RK.pm ?_
          show upd C L _ L = some (.lst (nV (Vbenah.holesOf f.holes n)))
          rw [upd_same, I.ho]
        refine ⟨z.ml, e8, { f with words := f.words ++ [(w.2, n)] }, [], rfl, ⟨z.ms ++ [L], ?_, paired_same (fun _ _ q => cK _ _ q) pmK⟩, ⟨[], upd_same, .nil⟩, okW.nv, okW.mm, fun H9 a9 s9 S9 => ?_⟩
        · rw [List.map_append]
          exact Same.new ne8 _ _ upd_same
        obtain ⟨y9, S9⟩ := S9
        have RW := RK.word (q := q) (L := L) (nm := w.2) (n := n) (sC _ _ hq) (by rw [I.ho]; exact upd_same) okW ne8 S9
        exact ⟨_, rfl, z.rx, _, z.dx, _, rfl, s9 _ _ (Same.new ne8 _ _ bx7), k_Reader E, n_Reader_state E, (show 5 < 1000 by decide), k _ _ _ { z with ns := z.ns ++ [q], ms := z.ms ++ [L], sa := a9 } _ _ at' ⟨rfl, rfl⟩ RW hat hT⟩
end
end Bw
namespace Bw
open PySem PySem.Spec PyProof.Rows L2
open Vbenah (File State Card Act)
section
variable {P : Program} {w : World} {K : PySem.W.Frag} {mg : Str → Option Value} {base : Heap}
def StkA (tl : Vbenah.Act → List Wd → Exc File) : Prop := ∀ x w r, w.2 ≠ [10] → tl x (w :: r) = .error w.1
def wiIn (f : File) (e : Nat) (tl : Vbenah.Act → List Wd → Exc File) (nm : List Nat) (g : Nat) (l : List Nat) (ws : List Wd) : Exc File := match Vbenah.wordsIn f e g l ws with
  | .error p => .error p
  | .ok (l, r) => tl (.card nm l) r
def ncIn (f : File) (e : Nat) (tl : Vbenah.Act → List Wd → Exc File) : List Wd → Exc File
  | [] => .error e
  | x :: r => if VbenCore.isName x.2 = true ∧ (cn (Vbenah.now f)).contains x.2 = false then wiIn f e tl x.2 f.words.length [] r else .error x.1
theorem ncIn_cons (f : File) (e : Nat) (tl : Vbenah.Act → List Wd → Exc File) (x : Wd) (r : List Wd) : ncIn f e tl (x :: r) = if VbenCore.isName x.2 = true ∧ (cn (Vbenah.now f)).contains x.2 = false then wiIn f e tl x.2 f.words.length [] r else .error x.1 := rfl
theorem ncIn_stop {f : File} {e : Nat} {tl : Vbenah.Act → List Wd → Exc File} {ws : List Wd} (h : nextW ws = false) : ncIn f e tl ws = .error (VbenCore.placeOf e ws) := by
  cases ws with
  | nil => rfl
  | cons w r =>
    rw [ncIn_cons, if_neg fun z => by rw [isName_stop (of_decide_eq_false h)] at z; cases z.1]
    rfl
theorem wordsIn_end (f : File) (e g : Nat) (l : List Nat) (ws : List Wd) (h : Vbenah.ends ws = true) (hn : l.isEmpty = false) : Vbenah.wordsIn f e g l ws = .ok (l, ws) := by
  cases g with
  | zero => exact if_neg (by rw [hn]; exact Bool.false_ne_true)
  | succ g => exact if_pos ⟨h, hn⟩
theorem wordsIn_cons (f : File) (e g : Nat) (l : List Nat) (w : Wd) (r : List Wd) (h : w.2 ≠ [10] ∨ l = []) : Vbenah.wordsIn f e (g + 1) l (w :: r) = match Vbenah.wordNo f w.2 with
    | some i => if l.contains i = true then .error w.1 else Vbenah.wordsIn f e g (l ++ [i]) r
    | none => .error w.1 := by
  refine (show (if Vbenah.ends (w :: r) = true ∧ l.isEmpty = false then _ else _) = _ from if_neg ?_)
  rintro ⟨h1, h2⟩
  rcases h with h | h
  · have h1 : (w.2 == [10]) = true := h1
    exact h (beq_iff_eq.mp h1)
  · rw [h] at h2
    cases h2
structure NcI (f : File) (e : Nat) (tl : Vbenah.Act → List Wd → Exc File) (nm : List Nat) (T : Exc File) (ws : List Wd) (l : List Nat) (g : Nat) : Prop where
  eq : T = wiIn f e tl nm g l ws
  ne : l.isEmpty = false
  nd : l.Nodup
  lt : ∀ w ∈ l, w < f.words.length
  gk : f.words.length ≤ g + l.length
section
variable {f : File} {e : Nat} {tl : Vbenah.Act → List Wd → Exc File} {nm : List Nat} {T : Exc File} {ws r : List Wd} {l : List Nat} {g i : Nat}
theorem NcI.step (I : NcI f e tl nm T ws l g) (hw : nextW ws = true) (hn : Vbenah.wordIn f e ws = .ok (i, r)) (hi : i < f.words.length) (hc : l.contains i = false) : NcI f e tl nm T r (l ++ [i]) (g - 1) := by
  obtain ⟨w, r', rfl, hwd⟩ := next_t hw
  have hni : ¬ i ∈ l := fun m => by rw [List.contains_iff_mem.mpr m] at hc; cases hc
  have nd2 := nd_snoc I.nd hni
  have lt2 : ∀ w ∈ l ++ [i], w < f.words.length := fun w hw => by
    rcases List.mem_append.mp hw with m | m
    · exact I.lt w m
    · rw [List.mem_singleton.mp m]
      exact hi
  have hlen := nodup_len nd2 lt2
  rw [List.length_append] at hlen
  have hlen : l.length + 1 ≤ f.words.length := hlen
  have gk := I.gk
  obtain ⟨g', rfl⟩ : ∃ g', g = g' + 1 := ⟨g - 1, by omega⟩
  refine ⟨?_, by simp, nd2, lt2, by rw [List.length_append]; show _ ≤ g' + 1 - 1 + (l.length + 1); omega⟩
  rw [I.eq]
  unfold wiIn
  rw [wordsIn_cons _ _ _ _ _ _ (Or.inl hwd.1)]
  rw [wordIn_cons] at hn
  cases q : Vbenah.wordNo f w.2 with
  | none => rw [q] at hn; cases hn
  | some m =>
    rw [q] at hn
    injection hn with hn
    injection hn with q1 q2
    subst q1
    subst q2
    show (match (if l.contains m = true then Except.error w.1 else Vbenah.wordsIn f e g' (l ++ [m]) r') with | .error p => Except.error p | .ok (l, r) => tl (.card nm l) r) = _
    rw [hc]
    rfl
theorem NcI.bad1 (I : NcI f e tl nm T ws l g) (st : StkA tl) (hw : nextW ws = true) {p : Nat} (hn : Vbenah.wordIn f e ws = .error p) : T = .error p := by
  obtain ⟨w, r', rfl, hwd⟩ := next_t hw
  rw [wordIn_cons] at hn
  cases q : Vbenah.wordNo f w.2 with
  | some m => rw [q] at hn; cases hn
  | none =>
    rw [q] at hn
    injection hn with hn
    subst hn
    rw [I.eq]
    unfold wiIn
    cases g with
    | zero =>
      rw [show Vbenah.wordsIn f e 0 l (w :: r') = .ok (l, w :: r') from if_neg (by rw [I.ne]; exact Bool.false_ne_true)]
      exact st _ w r' hwd.1
    | succ g =>
      rw [wordsIn_cons _ _ _ _ _ _ (Or.inl hwd.1), q]
theorem NcI.bad2 (I : NcI f e tl nm T ws l g) (st : StkA tl) (hw : nextW ws = true) (hn : Vbenah.wordIn f e ws = .ok (i, r)) (hc : l.contains i = true) : T = .error (VbenCore.placeOf e ws) := by
  obtain ⟨w, r', rfl, hwd⟩ := next_t hw
  rw [wordIn_cons] at hn
  cases q : Vbenah.wordNo f w.2 with
  | none => rw [q] at hn; cases hn
  | some m =>
    rw [q] at hn
    injection hn with hn
    injection hn with q1 q2
    subst q1
    rw [I.eq]
    unfold wiIn
    cases g with
    | zero =>
      rw [show Vbenah.wordsIn f e 0 l (w :: r') = .ok (l, w :: r') from if_neg (by rw [I.ne]; exact Bool.false_ne_true)]
      exact st _ w r' hwd.1
    | succ g =>
      rw [wordsIn_cons _ _ _ _ _ _ (Or.inl hwd.1), q]
      show (match (if l.contains m = true then Except.error w.1 else Vbenah.wordsIn f e g (l ++ [m]) r') with | .error p => Except.error p | .ok (l, r) => tl (.card nm l) r) = _
      rw [hc]
      rfl
theorem NcI.done {xs : List NAct} (o : Ok f xs) (I : NcI f e tl nm T ws l g) (st : StkA tl) (hw : nextW ws = false) : T = tl (.card nm l) ws := by
  rw [I.eq]
  unfold wiIn
  cases ws with
  | nil => rw [wordsIn_end _ _ _ _ _ rfl I.ne]
  | cons w r =>
    by_cases h10 : w.2 = [10]
    · rw [wordsIn_end _ _ _ _ (w :: r) (show (w.2 == [10]) = true from beq_iff_eq.mpr h10) I.ne]
    · cases g with
      | zero => rw [show Vbenah.wordsIn f e 0 l (w :: r) = .ok (l, w :: r) from if_neg (by rw [I.ne]; exact Bool.false_ne_true)]
      | succ g =>
        rw [st _ w r h10, wordsIn_cons _ _ _ _ _ _ (Or.inl h10), wordNo_stop o (of_decide_eq_false hw)]
theorem nc_first (hn : Vbenah.wordIn f e ws = .ok (i, r)) (hi : i < f.words.length) : NcI f e tl nm (wiIn f e tl nm f.words.length [] ws) r [i] (f.words.length - 1) := by
  obtain ⟨g, hg⟩ : ∃ g, f.words.length = g + 1 := ⟨f.words.length - 1, by omega⟩
  refine ⟨?_, rfl, List.nodup_cons.mpr ⟨fun h => (nomatch h), List.nodup_nil⟩, fun w hw => by rw [List.mem_singleton.mp hw]; exact hi, by rw [hg]; exact Nat.le_refl _⟩
  unfold wiIn
  cases ws with
  | nil => cases hn
  | cons w r' =>
    rw [hg, wordsIn_cons _ _ _ _ _ _ (Or.inr rfl)]
    rw [wordIn_cons] at hn
    cases q : Vbenah.wordNo f w.2 with
    | none => rw [q] at hn; cases hn
    | some m =>
      rw [q] at hn
      injection hn with hn
      injection hn with q1 q2
      subst q1
      subst q2
      rfl
theorem nc_fbad {p : Nat} (hn : Vbenah.wordIn f e ws = .error p) : wiIn f e tl nm f.words.length [] ws = .error p := by
  unfold wiIn
  cases h : f.words.length with
  | zero =>
    have hw : f.words = [] := List.length_eq_zero_iff.mp h
    cases ws with
    | nil => injection hn with hn; subst hn; rfl
    | cons w r' =>
      rw [wordIn_cons] at hn
      have q : Vbenah.wordNo f w.2 = none := by
        unfold Vbenah.wordNo
        rw [hw]
        rfl
      rw [q] at hn
      injection hn with hn
      subst hn
      rfl
  | succ g =>
    cases ws with
    | nil => injection hn with hn; subst hn; rfl
    | cons w r' =>
      rw [wordsIn_cons _ _ _ _ _ _ (Or.inr rfl)]
      rw [wordIn_cons] at hn
      cases q : Vbenah.wordNo f w.2 with
      | some m => rw [q] at hn; cases hn
      | none => rw [q] at hn; injection hn with hn; subst hn; rfl
end
def sp_Reader_new_card (K : PySem.W.Frag) : Sp := fun vs H Q E => ∃ (H0 C B : Hp) (z : RC) (y : SC) (f : File) (xs : List NAct) (len at_ : Nat) (pcs : List (Nat × List Nat)) (tl : Vbenah.Act → List Wd → Exc File), vs = [.ref z.rx] ∧ (Vbenah.now f).cards.length < 20 ∧ StkA tl ∧
  RdX K H0 C B H z y f xs len at_ pcs ∧ (∀ p, ncIn f len tl (pcs.drop at_) = .error p → FaultW K H0 p E) ∧ ∀ x r, cardN x ≠ none → ncIn f len tl (pcs.drop at_) = tl x r → ActQ K H0 C z y f xs len at_ pcs Q x r
theorem len_Reader_new_card (K : PySem.W.Frag) : ∀ vs H Q E, sp_Reader_new_card K vs H Q E → vs.length = 1 := fun _ _ _ _ ⟨_, _, _, _, _, _, _, _, _, _, _, h, _⟩ => by rw [h]; rfl
structure NwI (K : PySem.W.Frag) (H0 C : Hp) (z : RC) (y : SC) (f : File) (xs : List NAct) (len at0 : Nat) (pcs : List Wd) (tl : Vbenah.Act → List Wd → Exc File) (nm : List Nat) (T : Exc File) (q L : Addr) (B : Hp) (at_ : Nat) (l : List Nat) (g : Nat) (σ : L2.St) (H : Hp) : Prop where
  sl : ∃ x, σ = [some (.ref z.rx), some (.ref q), some (.ref L), x]
  rd : RdX K H0 C B H z y f xs len at_ pcs
  bl : B L = some (.lst (nV l))
  cl : C L = none ∧ H0 L = none
  lo : z.off L
  at0 : at0 < at_
  hl : NcI f len tl nm T (pcs.drop at_) l g
def NwW (K : PySem.W.Frag) (H0 C : Hp) (z : RC) (y : SC) (f : File) (xs : List NAct) (len at0 : Nat) (pcs : List Wd) (tl : Vbenah.Act → List Wd → Exc File) (nm : List Nat) (T : Exc File) (q L : Addr) (m : Nat) (σ : L2.St) (H : Hp) : Prop :=
  ∃ B at_ l g, m = pcs.length - at_ ∧ NwI K H0 C z y f xs len at0 pcs tl nm T q L B at_ l g σ H
theorem sc_Reader_new_card : FnScope (["self", "name", "words", "word"] : List Str) ["self"] (defScope s_Reader_new_card) := C8.fnScope_by (by decide +kernel)
theorem c_Reader_new_card (E : Env P w K mg base) : Met P w K mg base (L2.CX P w) 6 "Reader" "new_card" (sp_Reader_new_card K) := by
  have sc := sc_Reader_new_card
  refine mkMet (st := s_Reader_new_card) (E.top.d.def_ 97 (d := d_Reader_new_card) rfl) (E.cls 102) (E.meth 129) sc (fun _ _ _ _ _ _ us hl => match us, hl with | [_], _ => rfl) (len_Reader_new_card K) (fun cdv A outer s H vs Q X hr h => ⟨_, (pss_cons (ps_set (i := 1) sc.nd rfl (Or.inl rfl) (pe_m0 (c_Reader_row E) hr (by decide) (passX (takes_of rfl rfl rfl rfl)) (pv 0)))
    (pss_cons (ps_if (PW.pt (pw_or (pt_not (pt_val (pe_c (c_is_name E) hr (by decide) rfl pass0 (pa_cons (pv 1) pa_nil)))) (pw_or1 (pt_cmpR op_ge (pe_c (c_card_number E) hr (by decide) rfl pass0 (pa_cons (peF (K := K) (pv 0) rfl) (pa_cons (pv 1) pa_nil))) pe_int (nomark _))))) (pss_one (ps_expr (pe_m0 (c_Reader_fail E) hr (by decide) (passX (takes_of rfl rfl rfl rfl)) (pv 0)))) pss_nil)
    (pss_cons (ps_expr (pe_m0 (c_Reader_go_on E) hr (by decide) pass0 (pv 0)))
    (pss_cons (ps_set (i := 2) sc.nd rfl (Or.inl rfl) (pe_lst (pa_cons (pe_m0 (c_Reader_word_number E) hr (by decide) (passX (takes_of rfl rfl rfl rfl)) (pv 0)) pa_nil)))
    (pss_cons (ps_expr (pe_m0 (c_Reader_go_on E) hr (by decide) pass0 (pv 0)))
    (pss_cons (ps_while (passes_of rfl) (pt_val (pe_m0 (c_Reader_is_word E) hr (by decide) pass0 (pv 0)))
    (pss_cons (ps_set (i := 3) sc.nd rfl (Or.inl rfl) (pe_m0 (c_Reader_word_number E) hr (by decide) (passX (takes_of rfl rfl rfl rfl)) (pv 0)))
    (pss_cons (ps_if (pt_cmpR (opIn (K := K)) (pv 3) (pv 2) (by rfl)) (pss_one (ps_expr (pe_m0 (c_Reader_fail E) hr (by decide) (passX (takes_of rfl rfl rfl rfl)) (pv 0)))) pss_nil)
    (pss_cons (ps_expr (pe_bm PySem.F.plainAttrs_list PySem.F.slot_list_append PySem.F.type_list_append mt_append (pv 2) (pa_cons (pv 3) pa_nil)))
    (pss_one (ps_expr (pe_m0 (c_Reader_go_on E) hr (by decide) pass0 (pv 0))))))))
    (pss_one (ps_ret (pe_tup (pa_cons (C8.pe_gc rfl (g_CARD E)) (pa_cons (pv 1) (pa_cons (pv 2) pa_nil)))))))))))), ?_⟩)
  obtain ⟨H0, C, B, z, y, f, xs, len, at_, pcs, tl, rfl, hcl, st, R, k0, k⟩ := h
  have bx := R.bh _ _ R.bx
  refine ⟨_, rfl, z.rx, z.dx, _, rfl, bx, rfl, H0, C, B, z, y, f, xs, len, at_, pcs, rfl, R, fun hn => k0 _ (ncIn_stop hn), fun w r q hd hw hq => ?_⟩
  obtain ⟨hg, hr2, hl⟩ := drop_one hd
  have e := ncIn_cons f len tl w r
  rw [← hd, hr2] at e
  have hz : ncIn f len tl (pcs.drop at_) = .error w.1 → FaultW K H0 (VbenCore.placeOf len (pcs.drop at_)) X := fun h => by
    have := k0 _ h
    rw [hd]
    exact this
  refine ⟨_, rfl, q, w.2, rfl, R.ch _ _ hq, R.lw w (mem_of_get hg), fun H1 s1 => ⟨_, rfl, ?_⟩⟩
  have R1 := R.same s1
  have bx1 := R1.bh _ _ R1.bx
  cases gn : VbenCore.isName w.2 with
  | false =>
    rw [if_neg fun z => by rw [gn] at z; cases z.1] at e
    exact if_t rfl (if_t rfl ⟨_, rfl, z.rx, z.dx, _, rfl, bx1, rfl, H0, C, B, z, y, f, xs, len, at_, pcs, rfl, R1, hz e⟩)
  | true =>
    refine if_f rfl ⟨_, rfl, z.rx, _, z.dx, _, _, rfl, bx1, k_Reader E, n_Reader_state E, rfl, _, rfl, z.sa, q, f, nat_ f xs xs.length, xs.length, w.2, rfl, R1.view, R1.ws, R1.ch _ _ hq, fun H2 s2 => ⟨_, 0, rfl, rfl, _, rfl, ?_⟩⟩
    have R2 := R1.same s2
    have bx2 := R2.bh _ _ R2.bx
    cases gc : cardOf (nat_ f xs xs.length).cards w.2 with
    | some c =>
      obtain ⟨i, e1, e2⟩ := cix_some gc
      have hcn : (cn (Vbenah.now f)).contains w.2 = true := by
        cases q : (cn (Vbenah.now f)).contains w.2 with
        | true => rfl
        | false =>
          rw [R.ok.now] at q
          rw [cardOf_no.mpr q] at gc
          cases gc
      rw [if_neg fun z => by rw [hcn] at z; cases z.2] at e
      rw [e1]
      exact if_t (decide_eq_true (by show (0 : Int) ≤ (i : Nat); omega)) ⟨_, rfl, z.rx, z.dx, _, rfl, bx2, rfl, H0, C, B, z, y, f, xs, len, at_, pcs, rfl, R2, hz e⟩
    | none =>
      have hcn : (cn (Vbenah.now f)).contains w.2 = false := by
        rw [R.ok.now]
        exact cardOf_no.mp gc
      rw [if_pos ⟨gn, hcn⟩] at e
      rw [cix_none gc]
      refine if_f rfl ⟨_, rfl, z.rx, z.dx, _, rfl, bx2, rfl, H0, C, B, z, y, f, xs, len, at_, pcs, rfl, R2, hl, fun B3 H3 b3 R3 => ?_⟩
      have bx3 := R3.bh _ _ R3.bx
      refine ⟨_, rfl, z.rx, z.dx, _, rfl, bx3, rfl, H0, C, B3, z, y, f, xs, len, at_ + 1, pcs, rfl, R3, fun p e2 => k0 p (e.trans (nc_fbad e2)), fun i r3 e3 hi hr3 hl3 => ⟨(show 1 ≤ sizeLine by decide), fun L nL => ?_⟩⟩
      have cL : C L = none ∧ H0 L = none := ⟨R3.ch.free nL, R3.hh.free nL⟩
      have R4 := R3.bnew (o := .lst [.int (i : Nat)]) nL
      have bx4 := R4.bh _ _ R4.bx
      have I0 := nc_first (tl := tl) (nm := w.2) e3 hi
      rw [hr3] at I0
      rw [← e] at I0
      refine ⟨_, rfl, z.rx, z.dx, _, rfl, bx4, rfl, H0, C, _, z, y, f, xs, len, at_ + 1, pcs, rfl, R4, hl3, fun B5 H5 b5 R5 => ?_⟩
      have hoL := R3.fresh nL
      refine ⟨NwW K H0 C z y f xs len at_ pcs tl w.2 (ncIn f len tl (pcs.drop at_)) q L, ⟨_, _, at_ + 1 + 1, [i], _, rfl, ⟨_, rfl⟩, R5, b5 _ _ (by simpa using hoL.1) upd_same, cL, hoL, by omega, I0⟩, ?_⟩
      rintro m σ H' ⟨B', at', l, g, hm, ⟨⟨x0, rfl⟩, R', hB, hC, hoff, hat, I⟩⟩
      have bx' := R'.bh _ _ R'.bx
      have hBH := R'.bh _ _ hB
      have hlen : l.length ≤ 12 := Nat.le_trans (nodup_len I.nd I.lt) R.ok.hn
      refine ⟨_, rfl, z.rx, z.dx, _, rfl, bx', rfl, H0, C, B', z, y, f, xs, len, at', pcs, rfl, R', _, rfl, ?_⟩
      cases gN : nextW (pcs.drop at') with
      | true =>
        refine if_t rfl ⟨fun σ' H'' => ∃ m', m' < m ∧ NwW K H0 C z y f xs len at_ pcs tl w.2 (ncIn f len tl (pcs.drop at_)) q L m' σ' H'', fun _ _ h => h, ?_⟩
        refine ⟨_, rfl, z.rx, z.dx, _, rfl, bx', rfl, H0, C, B', z, y, f, xs, len, at', pcs, rfl, R', fun p e2 => k0 p (I.bad1 st gN e2), fun j r5 e5 hj hr5 hl5 => ?_⟩
        refine ⟨_, rfl, _, rfl, L, _, rfl, Or.inl (SqL.of hBH), rfl, flat_nV _, _, rfl, ?_⟩
        rw [if_neg (by decide), inV_nV]
        cases gj : l.contains j with
        | true =>
          exact if_t rfl ⟨_, rfl, z.rx, z.dx, _, rfl, bx', rfl, H0, C, B', z, y, f, xs, len, at', pcs, rfl, R', k0 _ (I.bad2 st gN e5 gj)⟩
        | false =>
          have R6 := R'.bset (o' := .lst (nV l ++ [.int (j : Nat)])) hB hC (fun _ z => by cases z) (fun _ _ _ _ _ z => by cases z) hoff
          have bx6 := R6.bh _ _ R6.bx
          have I5 := I.step gN e5 hj gj
          rw [hr5] at I5
          refine if_f rfl ⟨_, rfl, ty_lst hBH, _, rfl, L, _, _, rfl, rfl, hBH, by rw [nV_len]; exact sz_lt (by omega), _, rfl, z.rx, z.dx, _, rfl, bx6, rfl, H0, C, _, z, y, f, xs, len, at', pcs, rfl, R6, hl5, fun B7 H7 b7 R7 => ?_⟩
          refine ⟨pcs.length - (at' + 1), by omega, B7, at' + 1, l ++ [j], _, rfl, ⟨_, rfl⟩, R7, ?_, hC, hoff, by omega, I5⟩
          rw [nV_snoc]
          exact b7 _ _ (by simpa using hoff.1) upd_same
      | false =>
        have hT := NcI.done R.ok I st gN
        obtain ⟨sC, RK⟩ := R'.know hB hoff
        refine if_f rfl ⟨_, rfl, _, rfl, (show 3 ≤ sizeLine by decide), fun T nT => ?_⟩
        have R8 := RK.cnew (o := .tup [.int 2, .ref q, .ref L]) nT
        have sC2 := RK.know' (o := .tup [.int 2, .ref q, .ref L]) nT
        refine k (.card w.2 l) (pcs.drop at') (by simp [cardN]) hT _ _ _ T at' ⟨hcl, hcn, ?_, I.lt, I.nd⟩ (fun n hn => ?_) (Same.trans sC sC2) R8 ⟨q, L, upd_same, sC2 _ _ (sC _ _ hq), sC2 _ _ upd_same⟩ rfl hat
        · have := I.ne
          cases l with
          | nil => cases this
          | cons a l => simp
        · cases hn
          exact gn
end
end Bw
namespace Bw
open PySem PySem.Spec PyProof.Rows L2
open Vbenah (File State Card Act)
section
variable {P : Program} {w : World} {K : PySem.W.Frag} {mg : Str → Option Value} {base : Heap}
def actK (f : File) (e : Nat) (tl : File → List Wd → Exc File) (k : Nat) (ws : List Wd) : Exc File :=
  if k = 0 then (match twoIn f e .under ws with
    | .error p => .error p
    | .ok (x, r) => tl (Vbenah.put f x) r)
  else if k = 1 then (match twoIn f e .apart ws with
    | .error p => .error p
    | .ok (x, r) => tl (Vbenah.put f x) r)
  else if k = 2 then ncIn f e (fun x r => tl (Vbenah.put f x) r) ws
  else match cdIn f e k ws with
    | .error p => .error p
    | .ok (x, r) => tl (Vbenah.put f x) r
def aIn (f : File) (e : Nat) (tl : File → List Wd → Exc File) (ws : List Wd) : Exc File := match kindIn f e ws with
  | .error p => .error p
  | .ok (k, ws) => actK f e tl k ws
theorem nat_append {f : File} {xs ys : List NAct} {i : Nat} (h : i ≤ xs.length) : nat_ f (xs ++ ys) i = nat_ f xs i := by
  unfold nat_
  rw [List.take_append_of_le_length h]
/-- an act more -/
theorem RdX.act {K : PySem.W.Frag} {H0 C B H H' : Hp} {z : RC} {y y' : SC} {f : File} {xs : List NAct} {len at_ : Nat} {pcs : List Wd} {T : Addr} {x : Vbenah.Act} {v : NAct} (R : RdX K H0 C B H z y f xs len at_ pcs) (S : SOx K B H' z.sa z.ml (ndone f xs.length (nat_ f xs xs.length) v) y')
    (hT : NActAt C T v) (o : Ok (Vbenah.put f x) (xs ++ [v])) :
    RdX K H0 C (upd B z.al (.lst (z.as.map V.ref ++ [.ref T]))) (upd H' z.al (.lst (z.as.map V.ref ++ [.ref T]))) { z with as := z.as ++ [T] } y' (Vbenah.put f x) (xs ++ [v]) len at_ pcs := by
  have nd := R.nd
  have hna : z.nl ≠ z.al := fun h => by simp [h] at nd
  have hma : z.ml ≠ z.al := fun h => by simp [h] at nd
  have st : ∀ {b o}, B b = some o → b ≠ z.al → upd B z.al (.lst (z.as.map V.ref ++ [.ref T])) b = some o := fun e n => by
    rw [upd_ne n]
    exact e
  have e : nat_ (Vbenah.put f x) (xs ++ [v]) (xs ++ [v]).length = ndone f xs.length (nat_ f xs xs.length) v := by
    rw [nat_congr (f := Vbenah.put f x) (g := f) rfl rfl, List.length_append, List.length_singleton, nat_succ (x := v) (by simp), nat_append (Nat.le_refl _)]
  exact { R with
    h0 := fun b o e => st (R.h0 _ _ e) (ne_of_none e R.e5)
    cb := fun b o e => st (R.cb _ _ e) (ne_of_none e R.c5)
    so := by
      rw [e]
      exact S.bput R.ba (fun _ z => by cases z) (fun _ _ _ _ _ z => by cases z)
    bx := st R.bx (ne_obj R.bx R.ba fun z => by cases z)
    bf := st R.bf (ne_obj R.bf R.ba fun z => by cases z)
    bn := st R.bn hna
    bm := st R.bm hma
    ba := by
      show upd B z.al _ z.al = _
      rw [upd_same, List.map_append]
      rfl
    pa := paired_snoc R.pa hT
    ok := o }
def sp_Reader_read_act (K : PySem.W.Frag) : Sp := fun vs H Q E => ∃ (H0 C B : Hp) (z : RC) (y : SC) (f : File) (xs : List NAct) (len at_ : Nat) (pcs : List (Nat × List Nat)) (tl : File → List Wd → Exc File), vs = [.ref z.rx] ∧ Stk tl ∧
  RdX K H0 C B H z y f xs len at_ pcs ∧ (∀ p, aIn f len tl (pcs.drop at_) = .error p → FaultW K H0 p E) ∧
  ∀ C' B' H' z' y' f' xs' at', z'.rx = z.rx ∧ z'.ll = z.ll → RdX K H0 C' B' H' z' y' f' xs' len at' pcs → at_ < at' → aIn f len tl (pcs.drop at_) = tl f' (pcs.drop at') → Q .non H'
theorem len_Reader_read_act (K : PySem.W.Frag) : ∀ vs H Q E, sp_Reader_read_act K vs H Q E → vs.length = 1 := fun _ _ _ _ ⟨_, _, _, _, _, _, _, _, _, _, _, h, _⟩ => by rw [h]; rfl
theorem sc_Reader_read_act : FnScope (["self", "kind", "act"] : List Str) ["self"] (defScope s_Reader_read_act) := C8.fnScope_by (by decide +kernel)
theorem c_Reader_read_act (E : Env P w K mg base) : Met P w K mg base (L2.CX P w) 7 "Reader" "read_act" (sp_Reader_read_act K) := by
  have sc := sc_Reader_read_act
  refine mkMet (st := s_Reader_read_act) (E.top.d.def_ 100 (d := d_Reader_read_act) rfl) (E.cls 102) (E.meth 132) sc (fun _ _ _ _ _ _ us hl => match us, hl with | [_], _ => rfl) (len_Reader_read_act K) (fun cdv A outer s H vs Q X hr h => ⟨_, (pss_cons (ps_set (i := 1) sc.nd rfl (Or.inl rfl) (pe_m0 (c_Reader_act_kind E) hr (by decide) (passX (takes_of rfl rfl rfl rfl)) (pv 0)))
    (pss_cons (ps_if (pt_cmpR (opIn (K := K)) (pv 1) (pe_tup (pa_cons (C8.pe_gc rfl (g_UNDER E)) (pa_cons (C8.pe_gc rfl (g_APART E)) pa_nil))) (by rfl)) (pss_one (ps_set (i := 2) sc.nd rfl (Or.inl rfl) (pe_m (c_Reader_act_of_words E) hr (by decide) (passX (takes_of rfl rfl rfl rfl)) (pv 0) (pa_cons (pv 1) pa_nil)))) (pss_one (ps_if (pt_cmpR op_eq (pv 1) (C8.pe_gc rfl (g_CARD E)) (nomark _)) (pss_one (ps_set (i := 2) sc.nd rfl (Or.inl rfl) (pe_m0 (c_Reader_new_card E) hr (by decide) (passX (takes_of rfl rfl rfl rfl)) (pv 0)))) (pss_one (ps_set (i := 2) sc.nd rfl (Or.inl rfl) (pe_m (c_Reader_act_of_card E) hr (by decide) (passX (takes_of rfl rfl rfl rfl)) (pv 0) (pa_cons (pv 1) pa_nil)))))))
    (pss_cons (ps_expr (pe_c (c_do_act E) hr (by decide) rfl pass0 (pa_cons (peF (K := K) (pv 0) rfl) (pa_cons (pv 2) (pa_cons (pe_callB (clen (K := K)) rfl (fr_len E) (by decide +kernel) (pa_cons (peF (K := K) (peF (K := K) (pv 0) rfl) rfl) pa_nil)) pa_nil)))))
    (pss_one (ps_expr (pe_bm PySem.F.plainAttrs_list PySem.F.slot_list_append PySem.F.type_list_append mt_append (peF (K := K) (peF (K := K) (pv 0) rfl) rfl) (pa_cons (pv 2) pa_nil))))))), ?_⟩)
  obtain ⟨H0, C, B, z, y, f, xs, len, at_, pcs, tl, rfl, st, R, k0, k⟩ := h
  have bx := R.bh _ _ R.bx
  refine ⟨_, rfl, z.rx, z.dx, _, rfl, bx, rfl, H0, C, B, z, y, f, xs, len, at_, pcs, rfl, R, fun p e => k0 p ?_, fun kd r B1 H1 e hk6 hla hcl hr b1 R1 => ?_⟩
  · unfold aIn
    rw [e]
  have eA : aIn f len tl (pcs.drop at_) = actK f len tl kd (pcs.drop (at_ + 1)) := by
    unfold aIn
    rw [e, ← hr]
  refine ⟨_, rfl, (show 2 ≤ sizeLine by decide), fun T0 nT0 => ⟨T0, _, rfl, Or.inr (SqT.of upd_same), rfl, rfl, _, rfl, ?_⟩⟩
  have R2 := R1.same (Same.new (o := .tup [.int 0, .int 1]) nT0)
  have bx2 := R2.bh _ _ R2.bx
  rw [if_neg (by decide)]
  have two : ∀ mk : Nat → Nat → Vbenah.Act, (kd = 0 ∧ mk = .under ∨ kd = 1 ∧ mk = .apart) → actK f len tl kd (pcs.drop (at_ + 1)) = (match twoIn f len mk (pcs.drop (at_ + 1)) with
    | .error p => .error p
    | .ok (x, r) => tl (Vbenah.put f x) r) := fun mk h => by
    rcases h with ⟨rfl, rfl⟩ | ⟨rfl, rfl⟩ <;> rfl
  rcases (show (kd = 0 ∨ kd = 1) ∨ kd = 2 ∨ (kd = 3 ∨ kd = 4 ∨ kd = 5) by omega) with hk | hk | hk
  · obtain ⟨mk, hmk⟩ : ∃ mk : Nat → Nat → Vbenah.Act, kd = 0 ∧ mk = .under ∨ kd = 1 ∧ mk = .apart := by
      rcases hk with h | h
      · exact ⟨_, Or.inl ⟨h, rfl⟩⟩
      · exact ⟨_, Or.inr ⟨h, rfl⟩⟩
    rw [two mk hmk] at eA
    refine if_t (by rcases hk with rfl | rfl <;> rfl) ⟨_, rfl, z.rx, z.dx, _, rfl, bx2, rfl, _, rfl, H0, C, B1, z, y, f, xs, len, at_ + 1, pcs, kd, mk, rfl, hmk, hla, R2, fun p e2 => k0 p (by rw [eA, e2]), fun x rP e2 CP BP HP T atP mA cA sP RP hA hrP hatP => ?_⟩
    rw [e2] at eA
    have eT : aIn f len tl (pcs.drop at_) = tl (Vbenah.put f x) rP := eA
    have rP : rP = pcs.drop atP := hrP
    obtain ⟨y0, hn0⟩ : ∃ y0, nameA (f.acts.filterMap cardN) x = y0 := ⟨_, rfl⟩
    have hw0 := nwf_of (ns := f.acts.filterMap cardN) rfl rfl R.ok.hn mA
    have hidx : ∀ c, cI x = some c → ∃ n, (f.acts.filterMap cardN)[c]? = some n ∧ (cn (Vbenah.now f))[c]? = some n := fun c e => by
      have hc := may_idx mA e
      rw [← cn_len] at hc
      have g : (cn (Vbenah.now f))[c]? = some (cn (Vbenah.now f))[c] := List.getElem?_eq_getElem hc
      refine ⟨_, ?_, g⟩
      generalize (cn (Vbenah.now f))[c] = n at g
      rw [show Vbenah.now f = Vbenah.at_ f f.acts.length from rfl, at_names, List.take_length] at g
      exact g
    have hm0 := may_n (R.ok.ws (Nat.le_refl f.acts.length)).pp (at_ac R.ok _ (Nat.le_refl _)) (at_nodup R.ok _ (Nat.le_refl _)) hidx mA
    have okP := R.ok.put hla mA cA
    rw [hn0] at hA hw0 hm0 okP
    have hm0 : nmay f.words.length (nat_ f xs xs.length) y0 = true := by
      rw [← R.ok.now]
      exact hm0
    have bxP := RP.bh _ _ RP.bx
    have bfP := RP.bh _ _ RP.bf
    have baP := RP.bh _ _ RP.ba
    have lx := R.ok.len
    have lt : (z.as.map V.ref).length = xs.length := by rw [List.length_map, paired_len RP.pa]
    refine ⟨_, rfl, z.rx, _, z.dx, _, _, rfl, bxP, k_Reader E, n_Reader_state E, rfl, _, rfl, _, rfl, z.rx, _, z.dx, _, _, rfl, bxP, k_Reader E, n_Reader_file E, rfl, z.fl, _, z.fx, _, _, rfl, bfP, k_File E, n_File_acts E, rfl, z.al, _, rfl, Or.inl (SqL.of baP), z.sa, z.ml, T, BP, f, nat_ f xs xs.length, xs.length, (z.as.map V.ref).length, y0, rfl, ⟨y, RP.so⟩, RP.marks, RP.ws, by omega, hA.same RP.cb, hw0, hm0, fun HQ SQ => ?_⟩
    obtain ⟨yQ, SQ⟩ := SQ
    rw [lt] at SQ
    have sQ := SQ.sm
    refine ⟨_, rfl, z.rx, _, z.dx, _, _, rfl, sQ _ _ RP.bx, k_Reader E, n_Reader_file E, rfl, z.fl, _, z.fx, _, _, rfl, sQ _ _ RP.bf, k_File E, n_File_acts E, rfl, ty_lst (sQ _ _ RP.ba), _, rfl, z.al, _, _, rfl, rfl, sQ _ _ RP.ba, by rw [lt]; exact sz_lt (by omega), ?_⟩
    exact k CP _ _ { z with as := z.as ++ [T] } yQ _ _ atP ⟨rfl, rfl⟩ (RP.act SQ hA okP) (by omega) (eT.trans (by rw [rP]))
  · subst hk
    have eA : aIn f len tl (pcs.drop at_) = ncIn f len (fun x r => tl (Vbenah.put f x) r) (pcs.drop (at_ + 1)) := eA
    refine if_f rfl ⟨_, rfl, rfl, _, rfl, if_t rfl ⟨_, rfl, z.rx, z.dx, _, rfl, bx2, rfl, H0, C, B1, z, y, f, xs, len, at_ + 1, pcs, (fun x r => tl (Vbenah.put f x) r), rfl, hcl rfl, fun x w r h => st _ w r h, R2, fun p e2 => k0 p (eA.trans e2), fun x rP hcard e2 CP BP HP T atP mA cA sP RP hA hrP hatP => ?_⟩⟩
    have eT : aIn f len tl (pcs.drop at_) = tl (Vbenah.put f x) rP := eA.trans e2
    have rP : rP = pcs.drop atP := hrP
    obtain ⟨y0, hn0⟩ : ∃ y0, nameA (f.acts.filterMap cardN) x = y0 := ⟨_, rfl⟩
    have hw0 := nwf_of (ns := f.acts.filterMap cardN) rfl rfl R.ok.hn mA
    have hidx : ∀ c, cI x = some c → ∃ n, (f.acts.filterMap cardN)[c]? = some n ∧ (cn (Vbenah.now f))[c]? = some n := fun c e => by
      have hc := may_idx mA e
      rw [← cn_len] at hc
      have g : (cn (Vbenah.now f))[c]? = some (cn (Vbenah.now f))[c] := List.getElem?_eq_getElem hc
      refine ⟨_, ?_, g⟩
      generalize (cn (Vbenah.now f))[c] = n at g
      rw [show Vbenah.now f = Vbenah.at_ f f.acts.length from rfl, at_names, List.take_length] at g
      exact g
    have hm0 := may_n (R.ok.ws (Nat.le_refl f.acts.length)).pp (at_ac R.ok _ (Nat.le_refl _)) (at_nodup R.ok _ (Nat.le_refl _)) hidx mA
    have okP := R.ok.put hla mA cA
    rw [hn0] at hA hw0 hm0 okP
    have hm0 : nmay f.words.length (nat_ f xs xs.length) y0 = true := by
      rw [← R.ok.now]
      exact hm0
    have bxP := RP.bh _ _ RP.bx
    have bfP := RP.bh _ _ RP.bf
    have baP := RP.bh _ _ RP.ba
    have lx := R.ok.len
    have lt : (z.as.map V.ref).length = xs.length := by rw [List.length_map, paired_len RP.pa]
    refine ⟨_, rfl, z.rx, _, z.dx, _, _, rfl, bxP, k_Reader E, n_Reader_state E, rfl, _, rfl, _, rfl, z.rx, _, z.dx, _, _, rfl, bxP, k_Reader E, n_Reader_file E, rfl, z.fl, _, z.fx, _, _, rfl, bfP, k_File E, n_File_acts E, rfl, z.al, _, rfl, Or.inl (SqL.of baP), z.sa, z.ml, T, BP, f, nat_ f xs xs.length, xs.length, (z.as.map V.ref).length, y0, rfl, ⟨y, RP.so⟩, RP.marks, RP.ws, by omega, hA.same RP.cb, hw0, hm0, fun HQ SQ => ?_⟩
    obtain ⟨yQ, SQ⟩ := SQ
    rw [lt] at SQ
    have sQ := SQ.sm
    refine ⟨_, rfl, z.rx, _, z.dx, _, _, rfl, sQ _ _ RP.bx, k_Reader E, n_Reader_file E, rfl, z.fl, _, z.fx, _, _, rfl, sQ _ _ RP.bf, k_File E, n_File_acts E, rfl, ty_lst (sQ _ _ RP.ba), _, rfl, z.al, _, _, rfl, rfl, sQ _ _ RP.ba, by rw [lt]; exact sz_lt (by omega), ?_⟩
    exact k CP _ _ { z with as := z.as ++ [T] } yQ _ _ atP ⟨rfl, rfl⟩ (RP.act SQ hA okP) (by omega) (eT.trans (by rw [rP]))
  · have eA : aIn f len tl (pcs.drop at_) = (match cdIn f len kd (pcs.drop (at_ + 1)) with
    | .error p => .error p
    | .ok (x, r) => tl (Vbenah.put f x) r) := by
      rw [eA]
      rcases hk with rfl | rfl | rfl <;> rfl
    refine if_f (by rcases hk with rfl | rfl | rfl <;> rfl) ⟨_, rfl, rfl, _, rfl, if_f (by rcases hk with rfl | rfl | rfl <;> rfl) ⟨_, rfl, z.rx, z.dx, _, rfl, bx2, rfl, _, rfl, H0, C, B1, z, y, f, xs, len, at_ + 1, pcs, kd, rfl, hk, hla, R2, fun p e2 => k0 p (by rw [eA, e2]), fun x rP e2 CP BP HP T atP mA cA sP RP hA hrP hatP => ?_⟩⟩
    rw [e2] at eA
    have eT : aIn f len tl (pcs.drop at_) = tl (Vbenah.put f x) rP := eA
    have rP : rP = pcs.drop atP := hrP
    obtain ⟨y0, hn0⟩ : ∃ y0, nameA (f.acts.filterMap cardN) x = y0 := ⟨_, rfl⟩
    have hw0 := nwf_of (ns := f.acts.filterMap cardN) rfl rfl R.ok.hn mA
    have hidx : ∀ c, cI x = some c → ∃ n, (f.acts.filterMap cardN)[c]? = some n ∧ (cn (Vbenah.now f))[c]? = some n := fun c e => by
      have hc := may_idx mA e
      rw [← cn_len] at hc
      have g : (cn (Vbenah.now f))[c]? = some (cn (Vbenah.now f))[c] := List.getElem?_eq_getElem hc
      refine ⟨_, ?_, g⟩
      generalize (cn (Vbenah.now f))[c] = n at g
      rw [show Vbenah.now f = Vbenah.at_ f f.acts.length from rfl, at_names, List.take_length] at g
      exact g
    have hm0 := may_n (R.ok.ws (Nat.le_refl f.acts.length)).pp (at_ac R.ok _ (Nat.le_refl _)) (at_nodup R.ok _ (Nat.le_refl _)) hidx mA
    have okP := R.ok.put hla mA cA
    rw [hn0] at hA hw0 hm0 okP
    have hm0 : nmay f.words.length (nat_ f xs xs.length) y0 = true := by
      rw [← R.ok.now]
      exact hm0
    have bxP := RP.bh _ _ RP.bx
    have bfP := RP.bh _ _ RP.bf
    have baP := RP.bh _ _ RP.ba
    have lx := R.ok.len
    have lt : (z.as.map V.ref).length = xs.length := by rw [List.length_map, paired_len RP.pa]
    refine ⟨_, rfl, z.rx, _, z.dx, _, _, rfl, bxP, k_Reader E, n_Reader_state E, rfl, _, rfl, _, rfl, z.rx, _, z.dx, _, _, rfl, bxP, k_Reader E, n_Reader_file E, rfl, z.fl, _, z.fx, _, _, rfl, bfP, k_File E, n_File_acts E, rfl, z.al, _, rfl, Or.inl (SqL.of baP), z.sa, z.ml, T, BP, f, nat_ f xs xs.length, xs.length, (z.as.map V.ref).length, y0, rfl, ⟨y, RP.so⟩, RP.marks, RP.ws, by omega, hA.same RP.cb, hw0, hm0, fun HQ SQ => ?_⟩
    obtain ⟨yQ, SQ⟩ := SQ
    rw [lt] at SQ
    have sQ := SQ.sm
    refine ⟨_, rfl, z.rx, _, z.dx, _, _, rfl, sQ _ _ RP.bx, k_Reader E, n_Reader_file E, rfl, z.fl, _, z.fx, _, _, rfl, sQ _ _ RP.bf, k_File E, n_File_acts E, rfl, ty_lst (sQ _ _ RP.ba), _, rfl, z.al, _, _, rfl, rfl, sQ _ _ RP.ba, by rw [lt]; exact sz_lt (by omega), ?_⟩
    exact k CP _ _ { z with as := z.as ++ [T] } yQ _ _ atP ⟨rfl, rfl⟩ (RP.act SQ hA okP) (by omega) (eT.trans (by rw [rP]))
end
end Bw
namespace Bw
open PySem PySem.Spec PyProof.Rows L2
open Vbenah (File State Card Act)
section
variable {P : Program} {w : World} {K : PySem.W.Frag} {mg : Str → Option Value} {base : Heap}
/-! data of acts -/
def dA : NAct → PyData
  | .under a b => .tuple [.int 0, dN1 a, dN1 b]
  | .apart a b => .tuple [.int 1, dN1 a, dN1 b]
  | .card n ws => .tuple [.int 2, dT1 n, dL1 ws]
  | .add n w => .tuple [.int 3, dT1 n, dN1 w]
  | .grow n => .tuple [.int 4, dT1 n]
  | .notch n h => .tuple [.int 5, dT1 n, dN1 h]
theorem dpA {K : PySem.W.Frag} {H : Hp} {b : Addr} {y : NAct} (h : NActAt H b y) : Dp K H (.ref b) (dA y) := by
  cases y with
  | under i j => exact .tup (SqT.of h) (.cons (.int _) (.cons (.int _) (.cons (.int _) .nil)))
  | apart i j => exact .tup (SqT.of h) (.cons (.int _) (.cons (.int _) (.cons (.int _) .nil)))
  | card n ws =>
    obtain ⟨p, q, h1, h2, h3⟩ := h
    exact .tup (SqT.of h1) (.cons (.int _) (.cons (dpT (SqT.of h2)) (.cons (dpL (SqL.of h3)) .nil)))
  | add n w =>
    obtain ⟨p, h1, h2⟩ := h
    exact .tup (SqT.of h1) (.cons (.int _) (.cons (dpT (SqT.of h2)) (.cons (.int _) .nil)))
  | grow n =>
    obtain ⟨p, h1, h2⟩ := h
    exact .tup (SqT.of h1) (.cons (.int _) (.cons (dpT (SqT.of h2)) .nil))
  | notch n w =>
    obtain ⟨p, h1, h2⟩ := h
    exact .tup (SqT.of h1) (.cons (.int _) (.cons (dpT (SqT.of h2)) (.cons (.int _) .nil)))
theorem dA_ok (y : NAct) : (dA y).canLay0 = true ∧ (dA y).depth ≤ 2 := by
  have a := deAllLay deN
  have b : ∀ l : List Nat, PyData.depthAll (l.map dN1) = 0 := fun l => Nat.le_zero.mp (deAllDep deN l)
  cases y <;> refine ⟨?_, ?_⟩ <;> simp only [dA, PyData.canLay0, PyData.canLayAll0, PyData.depth, PyData.depthAll, a, b, Bool.and_self] <;> decide
theorem dAs_shaped (l : List NAct) : SeqAt.shaped (.list (l.map dA)) = true := by
  have h1 : PyData.canLayAll0 (l.map dA) = true := by
    induction l with
    | nil => simp only [List.map_nil, PyData.canLayAll0]
    | cons x l ih => simp only [List.map_cons, PyData.canLayAll0, (dA_ok x).1, ih, Bool.and_self]
  have h2 : PyData.depthAll (l.map dA) ≤ 2 := by
    clear h1
    induction l with
    | nil => simp only [List.map_nil, PyData.depthAll, Nat.zero_le]
    | cons x l ih =>
      have := (dA_ok x).2
      simp only [List.map_cons, PyData.depthAll]
      omega
  have e1 : (PyData.list (l.map dA)).canLay0 = true := by simp only [PyData.canLay0, h1]
  have e2 : (PyData.list (l.map dA)).depth ≤ 64 := by
    simp only [PyData.depth]
    omega
  show ((PyData.list (l.map dA)).canLay0 && decide ((PyData.list (l.map dA)).depth ≤ 64)) = true
  rw [e1, decide_eq_true e2]
  rfl
theorem dAs_eqv (l : List NAct) : PyData.eqv (.list (l.map dA)) (.list []) = l.isEmpty := by
  cases l <;> simp [PyData.eqv, PyData.eqvAll]
def lIn (f : File) (e : Nat) (tl : File → List Wd → Exc File) (ws : List Wd) : Exc File := match VbenCore.must e [10] ws with
  | .error p => .error p
  | .ok ws => if VbenCore.ahead (Vbenah.W "word") ws = true ∧ f.acts.isEmpty = true ∧ f.words.length < 12 then wlIn f e tl (ws.drop 1) else aIn f e tl ws
def sp_Reader_read_line (K : PySem.W.Frag) : Sp := fun vs H Q E => ∃ (H0 C B : Hp) (z : RC) (y : SC) (f : File) (xs : List NAct) (len at_ : Nat) (pcs : List (Nat × List Nat)) (tl : File → List Wd → Exc File), vs = [.ref z.rx] ∧ Stk tl ∧
  RdX K H0 C B H z y f xs len at_ pcs ∧ (∀ p, lIn f len tl (pcs.drop at_) = .error p → FaultW K H0 p E) ∧
  ∀ C' B' H' z' y' f' xs' at', z'.rx = z.rx ∧ z'.ll = z.ll → RdX K H0 C' B' H' z' y' f' xs' len at' pcs → at_ < at' → lIn f len tl (pcs.drop at_) = tl f' (pcs.drop at') → Q .non H'
theorem len_Reader_read_line (K : PySem.W.Frag) : ∀ vs H Q E, sp_Reader_read_line K vs H Q E → vs.length = 1 := fun _ _ _ _ ⟨_, _, _, _, _, _, _, _, _, _, _, h, _⟩ => by rw [h]; rfl
theorem sc_Reader_read_line : FnScope (["self"] : List Str) ["self"] (defScope s_Reader_read_line) := C8.fnScope_by (by decide +kernel)
theorem c_Reader_read_line (E : Env P w K mg base) : Met P w K mg base (L2.CX P w) 9 "Reader" "read_line" (sp_Reader_read_line K) := by
  have sc := sc_Reader_read_line
  refine mkMet (st := s_Reader_read_line) (E.top.d.def_ 101 (d := d_Reader_read_line) rfl) (E.cls 102) (E.meth 133) sc (fun _ _ _ _ _ _ us hl => match us, hl with | [_], _ => rfl) (len_Reader_read_line K) (fun cdv A outer s H vs Q X hr h => ⟨_, (pss_cons (ps_expr (pe_m0 (c_Reader_line_end E) hr (by decide) (passX (takes_of rfl rfl rfl rfl)) (pv 0)))
    (pss_one (ps_if (PW.pt (pw_and (pt_val (pe_m (c_Reader_is_just E) hr (by decide) pass0 (pv 0) (pa_cons pe_str pa_nil))) (pw_and (pt_cmpR (opEqD (K := K) hr.units) (peF (K := K) (peF (K := K) (pv 0) rfl) rfl) (pe_lst pa_nil) (nomark _)) (pw_and1 (pt_cmpR op_lt (pe_callB (clen (K := K)) rfl (fr_len E) (by decide +kernel) (pa_cons (peF (K := K) (peF (K := K) (pv 0) rfl) rfl) pa_nil)) (C8.pe_gc rfl (g_MOST_WORDS E)) (nomark _)))))) (pss_cons (ps_expr (pe_m0 (c_Reader_go_on E) hr (by decide) pass0 (pv 0)))
    (pss_one (ps_expr (pe_m0 (c_Reader_word_line E) hr (by decide) (passX (takes_of rfl rfl rfl rfl)) (pv 0))))) (pss_one (ps_expr (pe_m0 (c_Reader_read_act E) hr (by decide) (passX (takes_of rfl rfl rfl rfl)) (pv 0))))))), ?_⟩)
  obtain ⟨H0, C, B, z, y, f, xs, len, at_, pcs, tl, rfl, st, R, k0, k⟩ := h
  have bx := R.bh _ _ R.bx
  refine ⟨_, rfl, z.rx, z.dx, _, rfl, bx, rfl, H0, C, B, z, y, f, xs, len, at_, pcs, rfl, R, fun p e => k0 p ?_, fun r B1 H1 e hr hl b1 R1 => ?_⟩
  · unfold lIn
    rw [e]
  have bx1 := R1.bh _ _ R1.bx
  have eL : lIn f len tl (pcs.drop at_) = if VbenCore.ahead (Vbenah.W "word") (pcs.drop (at_ + 1)) = true ∧ f.acts.isEmpty = true ∧ f.words.length < 12 then wlIn f len tl ((pcs.drop (at_ + 1)).drop 1) else aIn f len tl (pcs.drop (at_ + 1)) := by
    unfold lIn
    rw [e, ← hr]
  refine ⟨_, rfl, z.rx, z.dx, _, rfl, bx1, rfl, H0, C, B1, z, y, f, xs, len, at_ + 1, pcs, "word", Vbenah.W "word", rfl, R1, wb8, by decide, by decide, fun H2 s2 => ⟨_, rfl, ?_⟩⟩
  have R2 := R1.same s2
  have bx2 := R2.bh _ _ R2.bx
  cases g1 : VbenCore.ahead (Vbenah.W "word") (pcs.drop (at_ + 1)) with
  | false =>
    rw [if_neg fun z => by rw [g1] at z; cases z.1] at eL
    exact if_f rfl (if_f rfl ⟨_, rfl, z.rx, z.dx, _, rfl, bx2, rfl, H0, C, B1, z, y, f, xs, len, at_ + 1, pcs, tl, rfl, st, R2, fun p e2 => k0 p (eL.trans e2), fun C' B' H' z' y' f' xs' at' hz R' hat eT => k C' B' H' z' y' f' xs' at' hz R' (by omega) (eL.trans eT)⟩)
  | true =>
    have dAs : ∀ {H' : Hp}, Same H2 H' → Dp K H' (.ref z.al) (.list (xs.map dA)) := fun s => .lst (SqL.of (s _ _ (R2.bh _ _ R2.ba))) (dpRefs (fun b x q => dpA q) (paired_same (fun _ _ q => (q.same R2.ch).same s) R2.pa))
    refine if_t rfl ⟨_, rfl, z.rx, _, z.dx, _, _, rfl, bx2, k_Reader E, n_Reader_file E, rfl, z.fl, _, z.fx, _, _, rfl, R2.bh _ _ R2.bf, k_File E, n_File_acts E, rfl, Nat.zero_le _, fun L nL => ⟨.list (xs.map dA), .list [], dAs (Same.new nL), .lst (SqL.of upd_same) .nil, dAs_shaped xs, by decide, _, rfl, ?_⟩⟩
    have R3 := R2.same (Same.new (o := .lst []) nL)
    have bx3 := R3.bh _ _ R3.bx
    have he : f.acts.isEmpty = xs.isEmpty := by
      have := R.ok.len
      cases h1 : f.acts <;> cases h2 : xs <;> simp [h1, h2] at this ⊢
    rw [dAs_eqv]
    cases g2 : xs.isEmpty with
    | false =>
      rw [if_neg fun z => by rw [he, g2] at z; cases z.2.1] at eL
      exact if_f rfl (if_f rfl ⟨_, rfl, z.rx, z.dx, _, rfl, bx3, rfl, H0, C, B1, z, y, f, xs, len, at_ + 1, pcs, tl, rfl, st, R3, fun p e2 => k0 p (eL.trans e2), fun C' B' H' z' y' f' xs' at' hz R' hat eT => k C' B' H' z' y' f' xs' at' hz R' (by omega) (eL.trans eT)⟩)
    | true =>
      have ln : (z.ns.map V.ref).length = f.words.length := by rw [List.length_map, paired_len R3.pn, List.length_map]
      refine if_t rfl ⟨_, rfl, z.rx, _, z.dx, _, _, rfl, bx3, k_Reader E, n_Reader_file E, rfl, z.fl, _, z.fx, _, _, rfl, R3.bh _ _ R3.bf, k_File E, n_File_names E, rfl, z.nl, _, rfl, Or.inl (SqL.of (R3.bh _ _ R3.bn)), _, 12, rfl, rfl, _, rfl, ?_⟩
      rw [ln]
      by_cases g3 : f.words.length < 12
      · rw [if_pos ⟨g1, by rw [he, g2], g3⟩] at eL
        obtain ⟨w', r', hd', _⟩ := ahead_t g1
        obtain ⟨_, _, hl'⟩ := drop_one hd'
        rw [List.drop_drop] at eL
        have hx : xs = [] := List.isEmpty_iff.mp g2
        subst hx
        refine if_t (decide_eq_true (by show ((f.words.length : Nat) : Int) < 12; omega)) ⟨_, rfl, z.rx, z.dx, _, rfl, bx3, rfl, H0, C, B1, z, y, f, [], len, at_ + 1, pcs, rfl, R3, hl', fun B4 H4 b4 R4 => ?_⟩
        have bx4 := R4.bh _ _ R4.bx
        exact ⟨_, rfl, z.rx, z.dx, _, rfl, bx4, rfl, H0, C, B4, z, y, f, len, at_ + 1 + 1, pcs, tl, rfl, g3, st, R4, fun p e2 => k0 p (eL.trans e2), fun C' B' H' z' y' f' at' hz R' hat eT => k C' B' H' z' y' f' [] at' hz R' (by omega) (eL.trans eT)⟩
      · rw [if_neg fun z => g3 z.2.2] at eL
        exact if_f (decide_eq_false (by show ¬ ((f.words.length : Nat) : Int) < 12; omega)) ⟨_, rfl, z.rx, z.dx, _, rfl, bx3, rfl, H0, C, B1, z, y, f, xs, len, at_ + 1, pcs, tl, rfl, st, R3, fun p e2 => k0 p (eL.trans e2), fun C' B' H' z' y' f' xs' at' hz R' hat eT => k C' B' H' z' y' f' xs' at' hz R' (by omega) (eL.trans eT)⟩
end
end Bw
namespace Bw
open PySem PySem.Spec PyProof.Rows L2
open Vbenah (File State Card Act)
section
variable {P : Program} {w : World} {K : PySem.W.Frag} {mg : Str → Option Value} {base : Heap}
theorem cut_len : ∀ (t : List Nat) (p : Nat), (VbenCore.cut p t).length ≤ 2 * t.length + 1 ∧ ∀ w ∈ VbenCore.cut p t, w.2.length ≤ t.length
  | [], p => ⟨Nat.le_refl _, fun w hw => by rw [List.mem_singleton.mp hw]; exact Nat.zero_le _⟩
  | c :: r, p => by
    obtain ⟨h1, h2⟩ := cut_len r (p + 1)
    unfold VbenCore.cut
    by_cases g1 : c = 32
    · rw [if_pos g1]
      refine ⟨by simp; omega, fun w hw => ?_⟩
      rcases List.mem_cons.mp hw with e | m
      · rw [e]
        exact Nat.zero_le _
      · have := h2 w m
        simp
        omega
    · rw [if_neg g1]
      by_cases g2 : c = 10
      · rw [if_pos g2]
        refine ⟨by simp; omega, fun w hw => ?_⟩
        rcases List.mem_cons.mp hw with e | m
        · rw [e]
          exact Nat.zero_le _
        · rcases List.mem_cons.mp m with e | m
          · rw [e]
            simp
          · have := h2 w m
            simp
            omega
      · rw [if_neg g2]
        obtain ⟨v, l, e⟩ := cut_head r (p + 1)
        rw [e] at h1 h2 ⊢
        refine ⟨by simp at h1 ⊢; omega, fun w hw => ?_⟩
        rcases List.mem_cons.mp hw with e | m
        · rw [e]
          have := h2 _ List.mem_cons_self
          simp at this ⊢
          omega
        · have := h2 w (List.mem_cons_of_mem _ m)
          simp
          omega
def sp_Reader_init (K : PySem.W.Frag) : Sp := fun vs H Q _ => ∃ (H0 : Hp) (x dx tx fa L : Addr) (l : List V) (t : List Nat) (f : File) (xs : List NAct), vs = [.ref x, .ref tx, .ref fa] ∧ H x = some (.ins (He.ga K "Reader") dx []) ∧ Same H0 H ∧ H0 x = none ∧ LstN H0 tx t ∧ t.length ≤ 2000 ∧ H0 L = some (.lst l) ∧ FileAt K (less [L] H0) fa f xs ∧ Ok f xs ∧
  ∀ C B H' z y, z.rx = x ∧ z.ll = L → RdX K H0 C B H' z y f xs t.length 0 (VbenCore.cut 0 t) → Q .non H'
theorem len_Reader_init (K : PySem.W.Frag) : ∀ vs H Q E, sp_Reader_init K vs H Q E → vs.length = 3 := fun _ _ _ _ ⟨_, _, _, _, _, _, _, _, _, _, h, _⟩ => by rw [h]; rfl
theorem sc_Reader_init : FnScope (["self", "text", "file"] : List Str) ["self", "text", "file"] (defScope s_Reader_init) := C8.fnScope_by (by decide +kernel)
theorem c_Reader_init (E : Env P w K mg base) : Mak P w K mg base 8 "Reader" (sp_Reader_init K) := by
  have sc := sc_Reader_init
  refine mkMak (st := s_Reader_init) (E.top.d.def_ 83 (d := d_Reader_init) rfl) (E.glo 83) (E.mkr 103) sc (fun _ _ _ _ _ _ us hl => match us, hl with | [_, _, _], _ => rfl) (len_Reader_init K) (fun cdv A outer s H vs Q X hr h => ⟨_, PSs.nox ((pss_cons (ps_fld (pv 0) (pe_c (c_pieces_of E) hr (by decide) rfl pass0 (pa_cons (pv 1) pa_nil)) rfl)
    (pss_cons (ps_fld (pv 0) (pe_callB (clen (K := K)) rfl (fr_len E) (by decide +kernel) (pa_cons (pv 1) pa_nil)) rfl)
    (pss_cons (ps_fld (pv 0) pe_int rfl)
    (pss_cons (ps_fld (pv 0) (pe_k (c_File_init E) hr (by decide) rfl (pa_cons (peF (K := K) (pv 2) rfl) (pa_cons (pe_callTy (clist (K := K)) rfl (fr_list E) (by decide +kernel) (pa_cons (peF (K := K) (pv 2) rfl) pa_nil)) (pa_cons (pe_callTy (clist (K := K)) rfl (fr_list E) (by decide +kernel) (pa_cons (peF (K := K) (pv 2) rfl) pa_nil)) (pa_cons (pe_callTy (clist (K := K)) rfl (fr_list E) (by decide +kernel) (pa_cons (peF (K := K) (pv 2) rfl) pa_nil)) pa_nil))))) rfl)
    (pss_one (ps_fld (pv 0) (pe_c (c_state_behind E) hr (by decide) rfl pass0 (pa_cons (peF (K := K) (peF (K := K) (pv 0) rfl) rfl) (pa_cons (peF (K := K) (peF (K := K) (pv 0) rfl) rfl) pa_nil))) rfl))))))), ?_⟩)
  obtain ⟨H0, x, dx, tx, fa, L, l0, t, f, xs, rfl, hx, s0, nx, hT, hl, hL, hF, o, k⟩ := h
  obtain ⟨dy, na, ma, al, q1, ⟨ns, q2, f3⟩, ⟨ms, q4, f5⟩, ⟨as, q6, f7⟩⟩ := hF
  have f1 := less_sub _ _ q1
  have f2 := less_sub _ _ q2
  have f4 := less_sub _ _ q4
  have f6 := less_sub _ _ q6
  refine ⟨_, rfl, tx, t, rfl, s0 _ _ hT, hl, fun H1 pl ps s1 npl e1 pp => ⟨_, rfl, x, _, dx, _, rfl, s1 _ _ hx, k_Reader E, n_Reader_pieces E, (show 0 < 1000 by decide), ?_⟩⟩
  have hx1 := s1 _ _ hx
  -- what stays
  have gx : less [x] H1 x = none := less_in (List.mem_singleton.mpr rfl)
  have g01 : Same H0 (less [x] H1) := fun b u e => by
    rw [less_out (by simpa using ne_of_none e nx)]
    exact s1 _ _ (s0 _ _ e)
  have g1 : Same (less [x] H1) H1 := less_sub
  have gk : ∀ {b u}, H1 b = some u → u ≠ .ins (He.ga K "Reader") dx [] → less [x] H1 b = some u := fun e n => by
    rw [less_out (by simpa using ne_obj e hx1 n)]
    exact e
  have gpl := gk e1 (fun z => by cases z)
  have gpp : Paired (PieceAt (less [x] H1)) ps (VbenCore.cut 0 t) := paired_same (fun b w q => by
    obtain ⟨c, q1, q2⟩ := q
    exact ⟨c, gk q1 (fun z => by cases z), gk q2 (fun z => by cases z)⟩) pp
  have gL := g01 _ _ hL
  have plL : pl ≠ L := fun z => by
    rw [z, s0 _ _ hL] at npl
    cases npl
  generalize less [x] H1 = G at *
  have lpl : less [L] G pl = some (.lst (ps.map V.ref)) := by
    rw [less_out (by simpa using plL)]
    exact gpl
  have lpp : Paired (PieceAt (less [L] G)) ps (VbenCore.cut 0 t) := paired_same (fun b w q => by
    obtain ⟨c, q1, q2⟩ := q
    exact ⟨c, by rw [less_out (by simpa using ne_obj q1 gL fun z => by cases z)]; exact q1, by rw [TupN, less_out (by simpa using ne_obj q2 gL fun z => by cases z)]; exact q2⟩) gpp
  have g2 := Same.put (o := .ins (He.ga K "Reader") dx [("pieces", .ref pl)]) g1 gx
  refine ⟨_, rfl, tx, _, rfl, Or.inl (SqL.of (g2 _ _ (g01 _ _ hT))), _, rfl, x, _, dx, _, rfl, upd_same, k_Reader E, n_Reader_length E, (show 1 < 1000 by decide), ?_⟩
  rw [nV_len]
  have g3 := Same.put (o := .ins (He.ga K "Reader") dx [("pieces", .ref pl), ("length", .int (t.length : Nat))]) g2 gx
  refine ⟨_, rfl, x, _, dx, _, rfl, upd_same, k_Reader E, n_Reader_at E, (show 2 < 1000 by decide), ?_⟩
  have g4 := Same.put (o := .ins (He.ga K "Reader") dx [("pieces", .ref pl), ("length", .int (t.length : Nat)), ("at", .int 0)]) g3 gx
  have hx4 : upd (upd (upd H1 x (.ins (He.ga K "Reader") dx [("pieces", .ref pl)])) x (.ins (He.ga K "Reader") dx [("pieces", .ref pl), ("length", .int (t.length : Nat))])) x (.ins (He.ga K "Reader") dx [("pieces", .ref pl), ("length", .int (t.length : Nat)), ("at", .int 0)]) x = some (.ins (He.ga K "Reader") dx [("pieces", .ref pl), ("length", .int (t.length : Nat)), ("at", .int 0)]) := upd_same
  refine ⟨_, rfl, fa, _, dy, _, _, rfl, g4 _ _ (g01 _ _ f1), k_File E, n_File_holes E, rfl, _, rfl, fa, _, dy, _, _, rfl, g4 _ _ (g01 _ _ f1), k_File E, n_File_names E, rfl, na, _, rfl, Or.inl (SqL.of (g4 _ _ (g01 _ _ f2))), fun nl nnl => ?_⟩
  have g5 := Same.trans g4 (Same.new (o := .lst (ns.map V.ref)) nnl)
  refine ⟨_, rfl, fa, _, dy, _, _, rfl, g5 _ _ (g01 _ _ f1), k_File E, n_File_marks E, rfl, ma, _, rfl, Or.inl (SqL.of (g5 _ _ (g01 _ _ f4))), fun ml nml => ?_⟩
  have g6 := Same.trans g5 (Same.new (o := .lst (ms.map V.ref)) nml)
  refine ⟨_, rfl, fa, _, dy, _, _, rfl, g6 _ _ (g01 _ _ f1), k_File E, n_File_acts E, rfl, al, _, rfl, Or.inl (SqL.of (g6 _ _ (g01 _ _ f6))), fun al' nal => ?_⟩
  have g7 := Same.trans g6 (Same.new (o := .lst (as.map V.ref)) nal)
  have n5 := Same.new (o := .lst (ns.map V.ref)) nnl _ _ hx4
  have n6 := Same.new (o := .lst (ms.map V.ref)) nml _ _ n5
  have n7 := Same.new (o := .lst (as.map V.ref)) nal _ _ n6
  have l5 := upd_same (H := upd (upd (upd H1 x (.ins (He.ga K "Reader") dx [("pieces", .ref pl)])) x (.ins (He.ga K "Reader") dx [("pieces", .ref pl), ("length", .int (t.length : Nat))])) x (.ins (He.ga K "Reader") dx [("pieces", .ref pl), ("length", .int (t.length : Nat)), ("at", .int 0)])) (a := nl) (o := HO.lst (ns.map V.ref))
  have l5b := Same.new (o := .lst (ms.map V.ref)) nml _ _ l5
  have l5c := Same.new (o := .lst (as.map V.ref)) nal _ _ l5b
  have enm : nl ≠ ml := ne_of_none l5 nml
  have ena : nl ≠ al' := ne_of_none l5b nal
  have l6 := Same.new (o := .lst (as.map V.ref)) nal _ _ (upd_same (H := upd (upd (upd (upd H1 x (.ins (He.ga K "Reader") dx [("pieces", .ref pl)])) x (.ins (He.ga K "Reader") dx [("pieces", .ref pl), ("length", .int (t.length : Nat))])) x (.ins (He.ga K "Reader") dx [("pieces", .ref pl), ("length", .int (t.length : Nat)), ("at", .int 0)])) nl (.lst (ns.map V.ref))) (a := ml) (o := HO.lst (ms.map V.ref)))
  have ema : ml ≠ al' := ne_of_none upd_same nal
  have nnG := g4.free nnl
  have nmG := g5.free nml
  have naG := g6.free nal
  intro fl fx nfl nfx nef
  have nfG := g7.free nfl
  refine ⟨fl, fx, _, _, _, _, rfl, upd_same, fun H8 b8 e8 => ⟨rfl, ?_⟩⟩
  have s8 := smB nfl nfx b8
  have g8 := Same.trans g7 s8
  have hx8 := s8 _ _ n7
  refine ⟨_, rfl, x, _, dx, _, rfl, hx8, k_Reader E, n_Reader_file E, (show 3 < 1000 by decide), ?_⟩
  have l8n := s8 _ _ l5c
  have l8m := s8 _ _ l6
  have l8a := s8 _ _ upd_same
  have g9 := Same.put (o := .ins (He.ga K "Reader") dx [("pieces", .ref pl), ("length", .int (t.length : Nat)), ("at", .int 0), ("file", .ref fl)]) g8 gx
  have st : ∀ {b u}, H8 b = some u → b ≠ x → upd H8 x (.ins (He.ga K "Reader") dx [("pieces", .ref pl), ("length", .int (t.length : Nat)), ("at", .int 0), ("file", .ref fl)]) b = some u := fun e n => by
    rw [upd_ne n]
    exact e
  have xn : x ≠ nl := fun z => by rw [z] at hx8; rw [hx8] at l8n; cases l8n
  have xm : x ≠ ml := fun z => by rw [z] at hx8; rw [hx8] at l8m; cases l8m
  have xa : x ≠ al' := fun z => by rw [z] at hx8; rw [hx8] at l8a; cases l8a
  have xf : x ≠ fl := ne_of_none n7 nfl
  have l9n := st l8n (Ne.symm xn)
  have l9m := st l8m (Ne.symm xm)
  have l9a := st l8a (Ne.symm xa)
  have l9f := st e8 (Ne.symm xf)
  have l9x : upd H8 x (.ins (He.ga K "Reader") dx [("pieces", .ref pl), ("length", .int (t.length : Nat)), ("at", .int 0), ("file", .ref fl)]) x = some (.ins (He.ga K "Reader") dx [("pieces", .ref pl), ("length", .int (t.length : Nat)), ("at", .int 0), ("file", .ref fl)]) := upd_same
  have ep : putF ("file" : Str) (.ref fl) ([("pieces", .ref pl), ("length", .int (t.length : Nat)), ("at", .int 0)] : List (Str × V)) = ([("pieces", .ref pl), ("length", .int (t.length : Nat)), ("at", .int 0), ("file", .ref fl)] : List (Str × V)) := rfl
  rw [ep]
  revert l9n l9m l9a l9f l9x g9
  generalize upd H8 x (.ins (He.ga K "Reader") dx [("pieces", .ref pl), ("length", .int (t.length : Nat)), ("at", .int 0), ("file", .ref fl)]) = H9
  intro g9 l9n l9m l9a l9f l9x
  have g09 := Same.trans g01 g9
  refine ⟨_, rfl, x, _, dx, _, _, rfl, l9x, k_Reader E, n_Reader_file E, rfl, fl, _, fx, _, _, rfl, l9f, k_File E, n_File_marks E, rfl, _, rfl, x, _, dx, _, _, rfl, l9x, k_Reader E, n_Reader_file E, rfl, fl, _, fx, _, _, rfl, l9f, k_File E, n_File_acts E, rfl, ml, al', f, xs, rfl, ⟨ms, l9m, paired_same (fun _ _ q => g09 _ _ (less_sub _ _ q)) f5⟩, ⟨as, l9a, paired_same (fun _ _ q => (q.same less_sub).same g09) f7⟩, o.nv, o.mm, fun H10 sa s10 S => ?_⟩
  obtain ⟨y, S⟩ := S
  refine ⟨_, rfl, x, _, dx, _, rfl, s10 _ _ l9x, k_Reader E, n_Reader_state E, (show 4 < 1000 by decide), ?_⟩
  have gC : Same (less [L] G) (less [x, fl, nl, ml, al', L] H9) := fun b u e => by
    have hbL := less_not e
    have e := less_sub _ _ e
    rw [less_out]
    · exact g9 _ _ e
    · intro m
      simp only [List.mem_cons, List.not_mem_nil, or_false] at m
      rcases m with m | m | m | m | m | m <;> subst m
      · rw [gx] at e; cases e
      · rw [nfG] at e; cases e
      · rw [nnG] at e; cases e
      · rw [nmG] at e; cases e
      · rw [naG] at e; cases e
      · exact hbL (by simp)
  have g0C := Same.trans (Same.less (S := [L]) g01) gC
  have hcl := cut_len t 0
  refine k (less [x, fl, nl, ml, al', L] H9) (upd H9 x (.ins (He.ga K "Reader") dx (readerF pl t.length 0 fl sa))) _ ⟨x, dx, pl, fl, fx, nl, ml, al', sa, ps, ns, ms, as, L⟩ y ⟨rfl, rfl⟩ ?_
  have st2 : ∀ {b u}, H9 b = some u → b ≠ x → upd H9 x (.ins (He.ga K "Reader") dx (readerF pl t.length 0 fl sa)) b = some u := fun e n => by
    rw [upd_ne n]
    exact e
  exact {
    h0 := Same.put g09 nx
    cb := fun b u e => by
      have hb : b ≠ x := fun z => by
        rw [z, less_in (by simp)] at e
        cases e
      exact st2 (less_sub _ _ e) hb
    so := S.bput l9x (fun _ z => by cases z) (fun _ _ _ _ _ z => by
      injection z with _ _ z
      injection z with z _
      injection z with z _
      exact absurd z (by decide))
    bx := upd_same
    bf := st2 l9f (Ne.symm xf)
    cp := gC _ _ lpl
    bn := st2 l9n (Ne.symm xn)
    bm := st2 l9m (Ne.symm xm)
    ba := st2 l9a (Ne.symm xa)
    pp := paired_same (fun _ _ q => q.same gC) lpp
    pn := paired_same (fun _ _ q => g0C _ _ q) f3
    pm := paired_same (fun _ _ q => g0C _ _ q) f5
    pa := paired_same (fun _ _ q => q.same g0C) f7
    c1 := less_in (by simp)
    c2 := less_in (by simp)
    c3 := less_in (by simp)
    c4 := less_in (by simp)
    c5 := less_in (by simp)
    c6 := less_in (by simp)
    e1 := nx
    e2 := g01.free nfG
    e3 := g01.free nnG
    e4 := g01.free nmG
    e5 := g01.free naG
    e6 := ⟨_, hL⟩
    nd := by simp [enm, ena, ema]
    le := Nat.zero_le _
    l2 := by have := hcl.1; omega
    lw := fun w hw => by have := hcl.2 w hw; omega
    ok := o }
end
end Bw
namespace Bw
open PySem PySem.Spec PyProof.Rows L2
open Vbenah (File State Card Act)
section
variable {P : Program} {w : World} {K : PySem.W.Frag} {mg : Str → Option Value} {base : Heap}
/-! #### the specification's reading, step by step -/
theorem two_eq (f : File) (e : Nat) (mk : Nat → Nat → Vbenah.Act) (ws : List Wd) : (Vbenah.wordIn f e ws >>= fun x => Vbenah.wordIn f e x.2 >>= fun y => Vbenah.ask f (VbenCore.placeOf e x.2) (mk x.1 y.1) y.2) = twoIn f e mk ws := by
  unfold twoIn
  cases h1 : Vbenah.wordIn f e ws with
  | error p => rfl
  | ok x =>
    obtain ⟨a, ws1⟩ := x
    show (Vbenah.wordIn f e ws1 >>= fun y => Vbenah.ask f (VbenCore.placeOf e ws1) (mk a y.1) y.2) = _
    cases h2 : Vbenah.wordIn f e ws1 with
    | error p =>
      rw [show (Except.ok (a, ws1) : Exc (Nat × List Wd)) = Except.ok (a, ws1) from rfl]
      show _ = (match Vbenah.wordIn f e ws1 with | .error p => Except.error p | .ok (b, r) => Vbenah.ask f (VbenCore.placeOf e ws1) (mk a b) r)
      rw [h2]
      rfl
    | ok y =>
      show _ = (match Vbenah.wordIn f e ws1 with | .error p => Except.error p | .ok (b, r) => Vbenah.ask f (VbenCore.placeOf e ws1) (mk a b) r)
      rw [h2]
      rfl
theorem kind_w : kindNo (Vbenah.W "under") = some 0 ∧ kindNo (Vbenah.W "apart") = some 1 ∧ kindNo (Vbenah.W "card") = some 2 ∧ kindNo (Vbenah.W "add") = some 3 ∧ kindNo (Vbenah.W "grow") = some 4 ∧ kindNo (Vbenah.W "notch") = some 5 := by decide +kernel
theorem w_ne : Vbenah.W "apart" ≠ Vbenah.W "under" ∧ Vbenah.W "card" ≠ Vbenah.W "under" ∧ Vbenah.W "card" ≠ Vbenah.W "apart" ∧ Vbenah.W "add" ≠ Vbenah.W "under" ∧ Vbenah.W "add" ≠ Vbenah.W "apart" ∧ Vbenah.W "add" ≠ Vbenah.W "card" ∧
  Vbenah.W "grow" ≠ Vbenah.W "under" ∧ Vbenah.W "grow" ≠ Vbenah.W "apart" ∧ Vbenah.W "grow" ≠ Vbenah.W "card" ∧ Vbenah.W "grow" ≠ Vbenah.W "add" ∧ Vbenah.W "notch" ≠ Vbenah.W "under" ∧ Vbenah.W "notch" ≠ Vbenah.W "apart" ∧ Vbenah.W "notch" ≠ Vbenah.W "card" ∧ Vbenah.W "notch" ≠ Vbenah.W "add" ∧ Vbenah.W "notch" ≠ Vbenah.W "grow" := by decide +kernel
def thenA (f : File) (tl : File → List Wd → Exc File) : Exc (Vbenah.Act × List Wd) → Exc File
  | .error p => .error p
  | .ok (x, r) => tl (Vbenah.put f x) r
theorem aIn_of {f : File} {e k : Nat} {tl : File → List Wd → Exc File} {w : Wd} {ws : List Wd} (h80 : ¬ 80 ≤ f.acts.length) (hk : kindNo w.2 = some k) (h2 : k ≠ 2) : aIn f e tl (w :: ws) = actK f e tl k ws := by
  unfold aIn
  rw [kindIn_cons, hk]
  show (match (if 80 ≤ f.acts.length ∨ (k = 2 ∧ 20 ≤ (Vbenah.now f).cards.length) then Except.error w.1 else Except.ok (k, ws)) with | .error p => Except.error p | .ok (k, ws) => actK f e tl k ws) = _
  rw [if_neg fun h => h.elim h80 fun h => h2 h.1]
theorem act_eq (f : File) (e : Nat) (tl : File → List Wd → Exc File) (ws : List Wd) : thenA f tl (Vbenah.actIn f e ws) = aIn f e tl ws := by
  obtain ⟨k0, k1, k2, k3, k4, k5⟩ := kind_w
  obtain ⟨n1, n2, n3, n4, n5, n6, n7, n8, n9, n10, n11, n12, n13, n14, n15⟩ := w_ne
  cases ws with
  | nil => rfl
  | cons w ws =>
    by_cases h80 : 80 ≤ f.acts.length
    · have e1 : Vbenah.actIn f e (w :: ws) = .error w.1 := if_pos h80
      rw [e1]
      unfold aIn
      rw [kindIn_cons]
      cases kindNo w.2 with
      | none => rfl
      | some k =>
        show _ = (match (if 80 ≤ f.acts.length ∨ (k = 2 ∧ 20 ≤ (Vbenah.now f).cards.length) then Except.error w.1 else Except.ok (k, ws)) with | .error p => Except.error p | .ok (k, ws) => actK f e tl k ws)
        rw [if_pos (Or.inl h80)]
        rfl
    · by_cases hu : w.2 = Vbenah.W "under"
      · rw [aIn_of h80 (by rw [hu, k0]) (by decide)]
        have e1 : Vbenah.actIn f e (w :: ws) = (Vbenah.wordIn f e ws >>= fun x => Vbenah.wordIn f e x.2 >>= fun y => Vbenah.ask f (VbenCore.placeOf e x.2) (if w.2 = Vbenah.W "under" then .under x.1 y.1 else .apart x.1 y.1) y.2) := (if_neg h80).trans (if_pos (Or.inl hu))
        simp only [if_pos hu] at e1
        rw [e1, two_eq f e .under ws]
        rfl
      · by_cases ha : w.2 = Vbenah.W "apart"
        · rw [aIn_of h80 (by rw [ha, k1]) (by decide)]
          have e1 : Vbenah.actIn f e (w :: ws) = (Vbenah.wordIn f e ws >>= fun x => Vbenah.wordIn f e x.2 >>= fun y => Vbenah.ask f (VbenCore.placeOf e x.2) (if w.2 = Vbenah.W "under" then .under x.1 y.1 else .apart x.1 y.1) y.2) := (if_neg h80).trans (if_pos (Or.inr ha))
          simp only [if_neg hu] at e1
          rw [e1, two_eq f e .apart ws]
          rfl
        · have h2 : ¬ (w.2 = Vbenah.W "under" ∨ w.2 = Vbenah.W "apart") := fun h => h.elim hu ha
          by_cases hc : w.2 = Vbenah.W "card"
          · by_cases h20 : 20 ≤ (Vbenah.now f).cards.length
            · have e1 : Vbenah.actIn f e (w :: ws) = .error w.1 := (if_neg h80).trans ((if_neg h2).trans ((if_pos hc).trans (if_pos h20)))
              rw [e1]
              unfold aIn
              rw [kindIn_cons, hc, k2]
              show _ = (match (if 80 ≤ f.acts.length ∨ (2 = 2 ∧ 20 ≤ (Vbenah.now f).cards.length) then Except.error w.1 else Except.ok (2, ws)) with | .error p => Except.error p | .ok (k, ws) => actK f e tl k ws)
              rw [if_pos (Or.inr ⟨rfl, h20⟩)]
              rfl
            · have e1 : Vbenah.actIn f e (w :: ws) = (match ws with
                | [] => .error e
                | x :: r => if VbenCore.isName x.2 = true ∧ (((Vbenah.now f).cards.map fun c => c.name).contains x.2) = false then (Vbenah.wordsIn f e f.words.length [] r >>= fun y => pure (.card x.2 y.1, y.2)) else .error x.1) := (if_neg h80).trans ((if_neg h2).trans ((if_pos hc).trans (if_neg h20)))
              have e2 : aIn f e tl (w :: ws) = actK f e tl 2 ws := by
                unfold aIn
                rw [kindIn_cons, hc, k2]
                show (match (if 80 ≤ f.acts.length ∨ (2 = 2 ∧ 20 ≤ (Vbenah.now f).cards.length) then Except.error w.1 else Except.ok (2, ws)) with | .error p => Except.error p | .ok (k, ws) => actK f e tl k ws) = _
                rw [if_neg fun h => h.elim h80 fun h => h20 h.2]
              rw [e2]
              rw [e1]
              cases ws with
              | nil => rfl
              | cons x r =>
                show thenA f tl (if VbenCore.isName x.2 = true ∧ (cn (Vbenah.now f)).contains x.2 = false then _ else _) = (if VbenCore.isName x.2 = true ∧ (cn (Vbenah.now f)).contains x.2 = false then wiIn f e _ x.2 f.words.length [] r else .error x.1)
                by_cases hn : VbenCore.isName x.2 = true ∧ (cn (Vbenah.now f)).contains x.2 = false
                · rw [if_pos hn, if_pos hn]
                  unfold wiIn
                  cases Vbenah.wordsIn f e f.words.length [] r with
                  | error p => rfl
                  | ok y => rfl
                · rw [if_neg hn, if_neg hn]
                  rfl
          · by_cases hd : w.2 = Vbenah.W "add"
            · rw [aIn_of h80 (by rw [hd, k3]) (by decide)]
              have e1 : Vbenah.actIn f e (w :: ws) = (Vbenah.cardIn f e ws >>= fun c => Vbenah.wordIn f e c.2 >>= fun x => Vbenah.ask f (VbenCore.placeOf e c.2) (.add c.1 x.1) x.2) := (if_neg h80).trans ((if_neg h2).trans ((if_neg hc).trans (if_pos hd)))
              rw [e1]
              show _ = thenA f tl (cdIn f e 3 ws)
              congr 1
              unfold cdIn
              cases Vbenah.cardIn f e ws with
              | error p => rfl
              | ok c =>
                obtain ⟨c, ws1⟩ := c
                show (Vbenah.wordIn f e ws1 >>= fun x => Vbenah.ask f (VbenCore.placeOf e ws1) (.add c x.1) x.2) = (match Vbenah.wordIn f e ws1 with | .error p => .error p | .ok (x, r) => Vbenah.ask f (VbenCore.placeOf e ws1) (.add c x) r)
                cases Vbenah.wordIn f e ws1 <;> rfl
            · by_cases hg : w.2 = Vbenah.W "grow"
              · rw [aIn_of h80 (by rw [hg, k4]) (by decide)]
                have e1 : Vbenah.actIn f e (w :: ws) = (Vbenah.cardIn f e ws >>= fun c => pure (.grow c.1, c.2)) := (if_neg h80).trans ((if_neg h2).trans ((if_neg hc).trans ((if_neg hd).trans (if_pos hg))))
                rw [e1]
                show _ = thenA f tl (cdIn f e 4 ws)
                congr 1
                unfold cdIn
                cases Vbenah.cardIn f e ws <;> rfl
              · by_cases hh : w.2 = Vbenah.W "notch"
                · rw [aIn_of h80 (by rw [hh, k5]) (by decide)]
                  have e1 : Vbenah.actIn f e (w :: ws) = (Vbenah.cardIn f e ws >>= fun c => Vbenah.numIn e 0 (f.holes - 1) c.2 >>= fun x => pure (.notch c.1 x.1, x.2)) := (if_neg h80).trans ((if_neg h2).trans ((if_neg hc).trans ((if_neg hd).trans ((if_neg hg).trans (if_pos hh)))))
                  rw [e1]
                  show _ = thenA f tl (cdIn f e 5 ws)
                  congr 1
                  unfold cdIn
                  cases Vbenah.cardIn f e ws with
                  | error p => rfl
                  | ok c =>
                    obtain ⟨c, ws1⟩ := c
                    show (Vbenah.numIn e 0 (f.holes - 1) ws1 >>= fun x => pure (Vbenah.Act.notch c x.1, x.2)) = (match Vbenah.numIn e 0 (f.holes - 1) ws1 with | .error p => .error p | .ok (h, r) => .ok (Vbenah.Act.notch c h, r))
                    cases Vbenah.numIn e 0 (f.holes - 1) ws1 <;> rfl
                · have e1 : Vbenah.actIn f e (w :: ws) = .error w.1 := (if_neg h80).trans ((if_neg h2).trans ((if_neg hc).trans ((if_neg hd).trans ((if_neg hg).trans (if_neg hh)))))
                  rw [e1]
                  unfold aIn
                  have hk : kindNo w.2 = none := by
                    unfold kindNo
                    rw [List.findIdx?_eq_none_iff]
                    intro x hx
                    refine beq_eq_false_iff_ne.mpr fun z => ?_
                    simp only [abytes, List.mem_cons, List.not_mem_nil, or_false] at hx
                    rw [z] at hx
                    rcases hx with h | h | h | h | h | h
                    · exact hu h
                    · exact ha h
                    · exact hc h
                    · exact hd h
                    · exact hg h
                    · exact hh h
                  rw [kindIn_cons, hk]
                  rfl
theorem lines_stk (e g : Nat) : Stk fun f ws => Vbenah.linesIn e g f ws := fun f w r h => by
  cases g with
  | zero => rfl
  | succ g =>
    show (if (w :: r).isEmpty = true then _ else (VbenCore.must e [10] (w :: r) >>= _)) = _
    rw [if_neg (by simp), must_cons, if_neg h]
    rfl
theorem lines_succ (e g : Nat) (f : File) (ws : List Wd) (h : ws ≠ []) : Vbenah.linesIn e (g + 1) f ws = lIn f e (fun f ws => Vbenah.linesIn e g f ws) ws := by
  have he : ¬ ws.isEmpty = true := fun z => h (List.isEmpty_iff.mp z)
  have e1 : Vbenah.linesIn e (g + 1) f ws = (VbenCore.must e [10] ws >>= fun ws => if VbenCore.ahead (Vbenah.W "word") ws = true ∧ f.acts.isEmpty = true ∧ f.words.length < Vbenah.WORDS then (Vbenah.wordLine f e (ws.drop 1) >>= fun x => Vbenah.linesIn e g x.1 x.2)
    else (Vbenah.actIn f e ws >>= fun x => Vbenah.linesIn e g (Vbenah.put f x.1) x.2)) := if_neg he
  rw [e1]
  unfold lIn
  cases VbenCore.must e [10] ws with
  | error p => rfl
  | ok ws =>
    show (if VbenCore.ahead (Vbenah.W "word") ws = true ∧ f.acts.isEmpty = true ∧ f.words.length < 12 then _ else _) = (if VbenCore.ahead (Vbenah.W "word") ws = true ∧ f.acts.isEmpty = true ∧ f.words.length < 12 then _ else _)
    by_cases hc : VbenCore.ahead (Vbenah.W "word") ws = true ∧ f.acts.isEmpty = true ∧ f.words.length < 12
    · rw [if_pos hc, if_pos hc]
      unfold wlIn
      cases Vbenah.wordLine f e (ws.drop 1) <;> rfl
    · rw [if_neg hc, if_neg hc, ← act_eq]
      cases Vbenah.actIn f e ws <;> rfl
theorem readFile_eq (t : List Nat) : Vbenah.readFile t = match headIn t.length (VbenCore.cut 0 t) with
    | .error p => .error p
    | .ok (h, ws) => Vbenah.linesIn t.length (ws.length + 1) { Vbenah.start with holes := h } ws := by
  have e1 : Vbenah.readFile t = (VbenCore.must t.length (Vbenah.W "holes") (VbenCore.cut 0 t) >>= fun ws => Vbenah.numIn t.length 1 Vbenah.HOLES ws >>= fun x => Vbenah.linesIn t.length (x.2.length + 1) { Vbenah.start with holes := x.1 } x.2) := rfl
  rw [e1]
  unfold headIn
  cases VbenCore.must t.length (Vbenah.W "holes") (VbenCore.cut 0 t) with
  | error p => rfl
  | ok ws =>
    show (Vbenah.numIn t.length 1 16 ws >>= _) = (match Vbenah.numIn t.length 1 16 ws with | .error p => _ | .ok (h, ws) => _)
    cases Vbenah.numIn t.length 1 16 ws <;> rfl
theorem FaultW.up {K : PySem.W.Frag} {H H' : Hp} {p : Nat} {E : XK} (h : FaultW K H p E) (s : Same H H') : FaultW K H' p E := fun d G s2 e => h d G (Same.trans s s2) e
/-- the reader's file, none of its lists the foreign one -/
theorem RdX.fileAt {K : PySem.W.Frag} {H0 C B H : Hp} {z : RC} {y : SC} {f : File} {xs : List NAct} {len at_ : Nat} {pcs : List Wd} (R : RdX K H0 C B H z y f xs len at_ pcs) : FileAt K (less [z.ll] H) z.fl f xs := by
  obtain ⟨o, e6⟩ := R.e6
  have n : ∀ {b u}, H0 b = none → H b = some u → less [z.ll] H b = some u := fun h e => by
    rw [less_out (fun m => by rw [List.mem_singleton.mp m, e6] at h; cases h)]
    exact e
  have sC : Same C (less [z.ll] H) := same_less R.ch R.c6
  exact ⟨z.fx, z.nl, z.ml, z.al, n R.e2 (R.bh _ _ R.bf), ⟨z.ns, n R.e3 (R.bh _ _ R.bn), paired_same (fun _ _ q => sC _ _ q) R.pn⟩, ⟨z.ms, n R.e4 (R.bh _ _ R.bm), paired_same (fun _ _ q => sC _ _ q) R.pm⟩, ⟨z.as, n R.e5 (R.bh _ _ R.ba), paired_same (fun _ _ q => q.same sC) R.pa⟩⟩
def sp_read_file (K : PySem.W.Frag) : Sp := fun vs H Q E => ∃ (p L : Addr) (l : List V) (t : List Nat), vs = [.ref p] ∧ LstN H p t ∧ t.length ≤ 2000 ∧ H L = some (.lst l) ∧ (∀ q, Vbenah.readFile t = .error q → FaultW K H q E) ∧
  ∀ H' a g ys, Vbenah.readFile t = .ok g → Same H H' → H a = none → FileAt K (less [L] H') a g ys → Ok g ys → Q (.ref a) H'
theorem len_read_file (K : PySem.W.Frag) : ∀ vs H Q E, sp_read_file K vs H Q E → vs.length = 1 := fun _ _ _ _ ⟨_, _, _, _, h, _⟩ => by rw [h]; rfl
def RfW (K : PySem.W.Frag) (H0 : Hp) (x p L : Addr) (t : List Nat) (m : Nat) (σ : L2.St) (H : Hp) : Prop := ∃ C B z y f xs at_ g, m = (VbenCore.cut 0 t).length - at_ ∧ σ = [some (.ref p), some (.ref x)] ∧ z.rx = x ∧ z.ll = L ∧ RdX K H0 C B H z y f xs t.length at_ (VbenCore.cut 0 t) ∧
  Vbenah.readFile t = Vbenah.linesIn t.length g f ((VbenCore.cut 0 t).drop at_) ∧ ((VbenCore.cut 0 t).drop at_).length < g
theorem sc_read_file : FnScope (["text", "reader"] : List Str) ["text"] (defScope s_read_file) := C8.fnScope_by (by decide +kernel)
theorem c_read_file (E : Env P w K mg base) : Cal P w K mg base (L2.CX P w) 10 "read_file" (sp_read_file K) := by
  have sc := sc_read_file
  refine mkCal (st := s_read_file) (E.top.d.def_ 20 (d := d_read_file) rfl) (E.glo 20) sc (fun _ _ _ _ _ _ us hl => match us, hl with | [_], _ => rfl) (len_read_file K) (fun cdv A outer s H vs Q X hr h => ⟨_, (pss_cons (ps_set (i := 1) sc.nd rfl (Or.inl rfl) (pe_k (c_Reader_init E) hr (by decide) rfl (pa_cons (pv 0) (pa_cons (pe_c0 (c_first_file E) hr (by decide) rfl pass0) pa_nil))))
    (pss_cons (ps_expr (pe_m0 (c_Reader_head E) hr (by decide) (passX (takes_of rfl rfl rfl rfl)) (pv 1)))
    (pss_cons (ps_while (passes_of rfl) (pt_not (pt_val (pe_m0 (c_Reader_is_over E) hr (by decide) pass0 (pv 1))))
    (pss_one (ps_expr (pe_m0 (c_Reader_read_line E) hr (by decide) (passX (takes_of rfl rfl rfl rfl)) (pv 1)))))
    (pss_one (ps_ret (peF (K := K) (pv 1) rfl)))))), ?_⟩)
  obtain ⟨p, L, l0, t, rfl, hp, hl, hL, k0, k⟩ := h
  refine ⟨_, rfl, rfl, fun H1 fa s1 nfa hF => fun x dx nx nd ne => ⟨H1, x, dx, p, fa, L, l0, t, Vbenah.start, [], rfl, upd_same, smk nx nd, nx, s1 _ _ hp, hl, s1 _ _ hL, hF.same (fun b o e => by
    rw [less_out (fun m => fresh_off hL (by rw [List.mem_singleton.mp m] at e; exact e))]
    exact fresh_sub _ _ e), ok_start, fun C B H2 z y hz R => ⟨rfl, ?_⟩⟩⟩
  obtain ⟨hz, hzl⟩ := hz
  subst hz
  have bx := R.bh _ _ R.bx
  have hE := readFile_eq t
  refine ⟨_, rfl, z.rx, z.dx, _, rfl, bx, rfl, H1, C, B, z, y, t.length, 0, VbenCore.cut 0 t, rfl, R, fun q e => (k0 q ?_).up s1, fun h r B3 H3 e3 hr R3 => ?_⟩
  · rw [List.drop_zero] at e
    rw [hE, e]
  rw [List.drop_zero] at e3
  rw [e3] at hE
  have hE : Vbenah.readFile t = Vbenah.linesIn t.length (r.length + 1) { Vbenah.start with holes := h } r := hE
  subst hr
  refine ⟨RfW K H1 z.rx p L t, ⟨_, C, B3, z, y, _, [], 2, _, rfl, rfl, rfl, hzl, R3, hE, Nat.lt_succ_self _⟩, ?_⟩
  rintro m σ H' ⟨C', B', z', y', f', xs', at', g, hm, rfl, hz, hzL, R', hT, hg⟩
  have bx' := R'.bh _ _ R'.bx
  rw [hz] at bx'
  obtain ⟨g, rfl⟩ : ∃ g', g = g' + 1 := ⟨g - 1, by omega⟩
  refine ⟨_, rfl, z.rx, z'.dx, _, rfl, bx', rfl, H1, C', B', z', y', f', xs', t.length, at', VbenCore.cut 0 t, by rw [hz], R', _, rfl, ?_⟩
  by_cases h : at' = (VbenCore.cut 0 t).length
  · rw [h, List.drop_length] at hT
    have hT : Vbenah.readFile t = .ok f' := hT
    exact if_f (by rw [beq_iff_eq.mpr h]; rfl) ⟨_, rfl, z.rx, _, z'.dx, _, _, rfl, bx', k_Reader E, n_Reader_file E, rfl, k H' z'.fl f' xs' hT (Same.trans s1 R'.hh) (s1.free R'.e2) (hzL ▸ R'.fileAt) R'.ok⟩
  · have hlt : at' < (VbenCore.cut 0 t).length := by
      have := R'.le
      omega
    have hne : (VbenCore.cut 0 t).drop at' ≠ [] := fun z => by
      have := congrArg List.length z
      rw [List.length_drop] at this
      simp at this
      omega
    rw [lines_succ _ _ _ _ hne] at hT
    refine if_t (by rw [beq_eq_false_iff_ne.mpr h]; rfl) ⟨fun σ' H'' => ∃ m', m' < m ∧ RfW K H1 z.rx p L t m' σ' H'', fun _ _ h => h, ?_⟩
    refine ⟨_, rfl, z.rx, z'.dx, _, rfl, bx', rfl, H1, C', B', z', y', f', xs', t.length, at', VbenCore.cut 0 t, _, by rw [hz], lines_stk t.length g, R', fun q e => (k0 q (hT.trans e)).up s1, fun C5 B5 H5 z5 y5 f5 xs5 at5 hz5 R5 hat eT => ?_⟩
    have hle := R5.le
    refine ⟨(VbenCore.cut 0 t).length - at5, by omega, C5, B5, z5, y5, f5, xs5, at5, g, rfl, rfl, hz5.1.trans hz, hz5.2.trans hzL, R5, hT.trans eT, ?_⟩
    rw [List.length_drop] at hg ⊢
    omega
def tlA (f : File) (r : List Wd) : Exc File := match r with
  | [] => .ok f
  | w :: _ => .error w.1
theorem readAct_eq (f : File) (t : List Nat) : aIn f t.length tlA (VbenCore.cut 0 t) = match Vbenah.readAct f t with
    | .error p => .error p
    | .ok x => .ok (Vbenah.put f x) := by
  rw [← act_eq]
  have e1 : Vbenah.readAct f t = (Vbenah.actIn f t.length (VbenCore.cut 0 t) >>= fun x => match x.2 with
    | [] => pure x.1
    | w :: _ => .error w.1) := rfl
  rw [e1]
  cases Vbenah.actIn f t.length (VbenCore.cut 0 t) with
  | error p => rfl
  | ok x =>
    obtain ⟨x, r⟩ := x
    cases r <;> rfl
def sp_with_act (K : PySem.W.Frag) : Sp := fun vs H Q E => ∃ (fa p L : Addr) (l : List V) (f : File) (xs : List NAct) (t : List Nat), vs = [.ref fa, .ref p] ∧ H L = some (.lst l) ∧ FileAt K (less [L] H) fa f xs ∧ Ok f xs ∧ LstN H p t ∧ t.length ≤ 2000 ∧ (∀ q, Vbenah.readAct f t = .error q → FaultW K H q E) ∧
  ∀ H' a x ys, Vbenah.readAct f t = .ok x → Same H H' → H a = none → FileAt K (less [L] H') a (Vbenah.put f x) ys → Ok (Vbenah.put f x) ys → Q (.ref a) H'
theorem len_with_act (K : PySem.W.Frag) : ∀ vs H Q E, sp_with_act K vs H Q E → vs.length = 2 := fun _ _ _ _ ⟨_, _, _, _, _, _, _, h, _⟩ => by rw [h]; rfl
theorem sc_with_act : FnScope (["file", "text", "reader"] : List Str) ["file", "text"] (defScope s_with_act) := C8.fnScope_by (by decide +kernel)
theorem c_with_act (E : Env P w K mg base) : Cal P w K mg base (L2.CX P w) 10 "with_act" (sp_with_act K) := by
  have sc := sc_with_act
  refine mkCal (st := s_with_act) (E.top.d.def_ 21 (d := d_with_act) rfl) (E.glo 21) sc (fun _ _ _ _ _ _ us hl => match us, hl with | [_, _], _ => rfl) (len_with_act K) (fun cdv A outer s H vs Q X hr h => ⟨_, (pss_cons (ps_set (i := 2) sc.nd rfl (Or.inl rfl) (pe_k (c_Reader_init E) hr (by decide) rfl (pa_cons (pv 1) (pa_cons (pv 0) pa_nil))))
    (pss_cons (ps_expr (pe_m0 (c_Reader_read_act E) hr (by decide) (passX (takes_of rfl rfl rfl rfl)) (pv 2)))
    (pss_cons (ps_if (pt_not (pt_val (pe_m0 (c_Reader_is_over E) hr (by decide) pass0 (pv 2)))) (pss_one (ps_expr (pe_m0 (c_Reader_fail E) hr (by decide) (passX (takes_of rfl rfl rfl rfl)) (pv 2)))) pss_nil)
    (pss_one (ps_ret (peF (K := K) (pv 2) rfl)))))), ?_⟩)
  obtain ⟨fa, p, L, l0, f, xs, t, rfl, hL, hF, o, hp, hl, k0, k⟩ := h
  refine ⟨_, rfl, _, rfl, fun x dx nx nd ne => ⟨H, x, dx, p, fa, L, l0, t, f, xs, rfl, upd_same, smk nx nd, nx, hp, hl, hL, hF, o, fun C B H2 z y hz R => ⟨rfl, ?_⟩⟩⟩
  obtain ⟨hz, hzl⟩ := hz
  subst hz
  have bx := R.bh _ _ R.bx
  have hE := readAct_eq f t
  refine ⟨_, rfl, z.rx, z.dx, _, rfl, bx, rfl, H, C, B, z, y, f, xs, t.length, 0, VbenCore.cut 0 t, tlA, rfl, fun _ _ _ _ => rfl, R, fun q e => k0 q ?_, fun C5 B5 H5 z5 y5 f5 xs5 at5 hz R5 hat eT => ?_⟩
  · rw [List.drop_zero, hE] at e
    cases h : Vbenah.readAct f t with
    | error q' => rw [h] at e; injection e with e; rw [e]
    | ok x => rw [h] at e; cases e
  rw [List.drop_zero, hE] at eT
  have bx5 := R5.bh _ _ R5.bx
  obtain ⟨hz, hz6⟩ := hz
  rw [hz] at bx5
  refine ⟨_, rfl, z.rx, z5.dx, _, rfl, bx5, rfl, H, C5, B5, z5, y5, f5, xs5, t.length, at5, VbenCore.cut 0 t, by rw [hz], R5, _, rfl, ?_⟩
  by_cases h : at5 = (VbenCore.cut 0 t).length
  · rw [h, List.drop_length] at eT
    refine if_f (by rw [beq_iff_eq.mpr h]; rfl) ⟨_, rfl, z.rx, _, z5.dx, _, _, rfl, bx5, k_Reader E, n_Reader_file E, rfl, ?_⟩
    cases hR : Vbenah.readAct f t with
    | error q' => rw [hR] at eT; cases eT
    | ok x =>
      rw [hR] at eT
      have eT : Except.ok (Vbenah.put f x) = (Except.ok f5 : Exc File) := eT
      injection eT with eT
      have hA := R5.fileAt
      rw [hz6, hzl] at hA
      have hO := R5.ok
      rw [← eT] at hA hO
      exact k H5 z5.fl x xs5 hR R5.hh R5.e2 hA hO
  · have hlt : at5 < (VbenCore.cut 0 t).length := by
      have := R5.le
      omega
    have hd : (VbenCore.cut 0 t).drop at5 = (VbenCore.cut 0 t)[at5] :: (VbenCore.cut 0 t).drop (at5 + 1) := List.drop_eq_getElem_cons hlt
    refine if_t (by rw [beq_eq_false_iff_ne.mpr h]; rfl) ⟨_, rfl, z.rx, z5.dx, _, rfl, bx5, rfl, H, C5, B5, z5, y5, f5, xs5, t.length, at5, VbenCore.cut 0 t, by rw [hz], R5, k0 _ ?_⟩
    rw [hd] at eT ⊢
    cases hR : Vbenah.readAct f t with
    | error q' =>
      rw [hR] at eT
      have eT : Except.error q' = (Except.error ((VbenCore.cut 0 t)[at5]).1 : Exc File) := eT
      injection eT with eT
      rw [eT]
      rfl
    | ok x => rw [hR] at eT; cases eT
end
end Bw
namespace Bw
open PySem PySem.Spec PyProof.Rows L2
open Vbenah (File State Card Act)
section
variable {P : Program} {w : World} {K : PySem.W.Frag} {mg : Str → Option Value} {base : Heap}
/-! #### the calls -/
/-- a call that only tells -/
def spNum (K : PySem.W.Frag) (P : File → List Nat → Prop) (A : File → List Nat → List Int) : Sp := fun vs H Q _ => ∃ (d np rp : Addr) (f : File) (xs : List NAct) (ns : List Nat), vs = [.ref d, .ref np, .ref rp] ∧ DeskV K H d f xs ∧ Ok f xs ∧ LstN H np ns ∧ P f ns ∧
  ∀ H' q, Same H H' → H q = none → H' q = some (.lst ((A f ns).map V.int)) → Q (.ref q) H'
theorem spNum_len {K : PySem.W.Frag} {P : File → List Nat → Prop} {A : File → List Nat → List Int} : ∀ vs H Q E, spNum K P A vs H Q E → vs.length = 3 := fun _ _ _ _ ⟨_, _, _, _, _, _, h, _⟩ => by rw [h]; rfl
def P0 : File → List Nat → Prop := fun _ ns => ns = []
def Pk : File → List Nat → Prop := fun f ns => ∃ k, ns = [k] ∧ k ≤ f.acts.length
def Pkw : File → List Nat → Prop := fun f ns => ∃ k w, ns = [k, w] ∧ k ≤ f.acts.length ∧ w < f.words.length
def Pkc : File → List Nat → Prop := fun f ns => ∃ k c, ns = [k, c] ∧ k ≤ f.acts.length ∧ c < (Vbenah.at_ f k).cards.length
def Pkwc : File → List Nat → Prop := fun f ns => ∃ k w c, ns = [k, w, c] ∧ k ≤ f.acts.length ∧ w < f.words.length ∧ c < (Vbenah.at_ f k).cards.length
def Pkww : File → List Nat → Prop := fun f ns => ∃ k w b, ns = [k, w, b] ∧ k ≤ f.acts.length ∧ w < f.words.length ∧ b < f.words.length
def Pa : File → List Nat → Prop := fun f ns => ∃ k, ns = [k] ∧ k < f.acts.length
def Pn : File → List Nat → Prop := fun f ns => ∃ k, ns = [k] ∧ k + 1 < f.acts.length
def a1 (g : Nat → List Int) : List Nat → List Int
  | [k] => g k
  | _ => []
def a2 (g : Nat → Nat → List Int) : List Nat → List Int
  | [k, w] => g k w
  | _ => []
def a3 (g : Nat → Nat → Nat → List Int) : List Nat → List Int
  | [k, w, c] => g k w c
  | _ => []
theorem ints_nV (l : List Nat) : (VbenCore.ints l).map V.int = nV l := by
  unfold VbenCore.ints
  rw [List.map_map]
  rfl
theorem lr_nV (l : List Nat) : (Vbenah.listRow l).map V.int = nV (l.length :: l) := by
  unfold Vbenah.listRow
  rw [List.map_cons, ints_nV]
  rfl
theorem ncards_eq {f : File} {xs : List NAct} (o : Ok f xs) (k : Nat) : ncards (xs.take k) = (Vbenah.at_ f k).cards.length := by
  rw [← cn_len, at_names, o.xe, ← List.map_take]
  unfold ncards
  generalize f.acts.filterMap cardN = ns
  induction f.acts.take k with
  | nil => rfl
  | cons x l ih =>
    cases x with
    | card n ws => exact congrArg (· + 1) ih
    | _ => exact ih
theorem ncards_all {f : File} {xs : List NAct} (o : Ok f xs) : ncards xs = (Vbenah.now f).cards.length := by
  have := ncards_eq o f.acts.length
  rw [List.take_of_length_le (by rw [o.len]; exact Nat.le_refl _)] at this
  exact this
theorem Ok.wsk {f : File} {xs : List NAct} (o : Ok f xs) {k : Nat} (hk : k ≤ f.acts.length) : WS f (nat_ f xs k) k := by
  rw [← o.at_ k hk]
  exact o.ws hk
theorem Ok.ack {f : File} {xs : List NAct} (o : Ok f xs) {k : Nat} (hk : k ≤ f.acts.length) : Ac (nat_ f xs k).pairs := by
  rw [← o.at_ k hk]
  exact at_ac o k hk
abbrev sp_told_call (K : PySem.W.Frag) : Sp := spNum K P0 fun f _ => VbenCore.ints [f.holes, f.words.length, f.acts.length, (Vbenah.now f).cards.length]
abbrev len_told_call (K : PySem.W.Frag) := spNum_len (K := K) (P := P0) (A := fun f _ => VbenCore.ints [f.holes, f.words.length, f.acts.length, (Vbenah.now f).cards.length])
theorem sc_told_call : FnScope (["desk", "numbers", "row"] : List Str) ["desk", "numbers", "row"] (defScope s_told_call) := C8.fnScope_by (by decide +kernel)
theorem c_told_call (E : Env P w K mg base) : Cal P w K mg base CX0 2 "told_call" (sp_told_call K) := by
  have sc := sc_told_call
  refine mkCal (st := s_told_call) (E.top.d.def_ 59 (d := d_told_call) rfl) (E.glo 59) sc (fun _ _ _ _ _ _ us hl => match us, hl with | [_, _, _], _ => rfl) (len_told_call K) (fun cdv A outer s H vs Q X hr h => ⟨_, PSs.nox ((pss_one (ps_ret (pe_c (c_told E) hr (by decide) rfl pass0 (pa_cons (peF (K := K) (pv 0) rfl) pa_nil))))), ?_⟩)
  obtain ⟨d, np, rp, f, xs, ns, rfl, ⟨dx, a, h1, hF⟩, o, hn, rfl, k⟩ := h
  refine ⟨_, rfl, d, _, dx, _, _, rfl, h1, k_Desk E, n_Desk_file E, rfl, a, f, xs, rfl, hF, o.nv.ln, fun H' q s nq e => k H' q s nq ?_⟩
  rw [ints_nV, ← ncards_all o, ← o.len]
  exact e
abbrev sp_above_call (K : PySem.W.Frag) : Sp := spNum K Pkw fun f ns => a2 (fun k w => Vbenah.listRow (Vbenah.above (Vbenah.at_ f k).pairs f.words.length w)) ns
abbrev len_above_call (K : PySem.W.Frag) := spNum_len (K := K) (P := Pkw) (A := fun f ns => a2 (fun k w => Vbenah.listRow (Vbenah.above (Vbenah.at_ f k).pairs f.words.length w)) ns)
theorem sc_above_call : FnScope (["desk", "numbers", "row"] : List Str) ["desk", "numbers", "row"] (defScope s_above_call) := C8.fnScope_by (by decide +kernel)
theorem c_above_call (E : Env P w K mg base) : Cal P w K mg base CX0 9 "above_call" (sp_above_call K) := by
  have sc := sc_above_call
  refine mkCal (st := s_above_call) (E.top.d.def_ 60 (d := d_above_call) rfl) (E.glo 60) sc (fun _ _ _ _ _ _ us hl => match us, hl with | [_, _, _], _ => rfl) (len_above_call K) (fun cdv A outer s H vs Q X hr h => ⟨_, PSs.nox ((pss_one (ps_ret (pe_c (c_listed E) hr (by decide) rfl pass0 (pa_cons (pe_c (c_above E) hr (by decide) rfl pass0 (pa_cons (pe_c (c_state_at E) hr (by decide) rfl pass0 (pa_cons (pv 0) (pa_cons (pe_ix (ixL (K := K)) (pv 1) pe_int (fun _ _ => rfl)) pa_nil))) (pa_cons (pe_ix (ixL (K := K)) (pv 1) pe_int (fun _ _ => rfl)) pa_nil))) pa_nil))))), ?_⟩)
  obtain ⟨d, np, rp, f, xs, ns, rfl, hD, o, hn, ⟨n, w', rfl, hk, hw⟩, k⟩ := h
  have hW := o.wsk hk
  refine ⟨_, rfl, _, rfl, np, _, 0, .int (n : Nat), rfl, rfl, SqL.of hn, rfl, d, f, xs, n, rfl, hD, o.nv, o.mm, by rw [o.len]; exact hk, fun H1 a s1 S => ⟨_, rfl, np, _, 1, .int (w' : Nat), rfl, rfl, SqL.of (s1 _ _ hn), rfl, a, f, nat_ f xs n, n, w', rfl, S, hW, fun H2 p s2 e2 => ⟨p, _, rfl, e2, Nat.le_trans (abv_len _ _ _) (Nat.le_trans hW.hn (by decide)), fun H3 q s3 nq e3 => k H3 q (Same.trans s1 (Same.trans s2 s3)) ((Same.trans s1 s2).free nq) ?_⟩⟩⟩
  show H3 q = some (.lst ((Vbenah.listRow (Vbenah.above (Vbenah.at_ f n).pairs f.words.length w')).map V.int))
  rw [lr_nV, o.at_ n hk, above_eq hW.pp (o.ack hk) hw]
  exact e3
abbrev sp_below_call (K : PySem.W.Frag) : Sp := spNum K Pkw fun f ns => a2 (fun k w => Vbenah.listRow ((List.range f.words.length).filter fun x => Vbenah.isUnder (Vbenah.at_ f k).pairs f.words.length x w)) ns
abbrev len_below_call (K : PySem.W.Frag) := spNum_len (K := K) (P := Pkw) (A := fun f ns => a2 (fun k w => Vbenah.listRow ((List.range f.words.length).filter fun x => Vbenah.isUnder (Vbenah.at_ f k).pairs f.words.length x w)) ns)
theorem sc_below_call : FnScope (["desk", "numbers", "row"] : List Str) ["desk", "numbers", "row"] (defScope s_below_call) := C8.fnScope_by (by decide +kernel)
theorem c_below_call (E : Env P w K mg base) : Cal P w K mg base CX0 9 "below_call" (sp_below_call K) := by
  have sc := sc_below_call
  refine mkCal (st := s_below_call) (E.top.d.def_ 61 (d := d_below_call) rfl) (E.glo 61) sc (fun _ _ _ _ _ _ us hl => match us, hl with | [_, _, _], _ => rfl) (len_below_call K) (fun cdv A outer s H vs Q X hr h => ⟨_, PSs.nox ((pss_one (ps_ret (pe_c (c_listed E) hr (by decide) rfl pass0 (pa_cons (pe_c (c_below E) hr (by decide) rfl pass0 (pa_cons (pe_c (c_state_at E) hr (by decide) rfl pass0 (pa_cons (pv 0) (pa_cons (pe_ix (ixL (K := K)) (pv 1) pe_int (fun _ _ => rfl)) pa_nil))) (pa_cons (pe_ix (ixL (K := K)) (pv 1) pe_int (fun _ _ => rfl)) pa_nil))) pa_nil))))), ?_⟩)
  obtain ⟨d, np, rp, f, xs, ns, rfl, hD, o, hn, ⟨n, w', rfl, hk, hw⟩, k⟩ := h
  have hW := o.wsk hk
  refine ⟨_, rfl, _, rfl, np, _, 0, .int (n : Nat), rfl, rfl, SqL.of hn, rfl, d, f, xs, n, rfl, hD, o.nv, o.mm, by rw [o.len]; exact hk, fun H1 a s1 S => ⟨_, rfl, np, _, 1, .int (w' : Nat), rfl, rfl, SqL.of (s1 _ _ hn), rfl, a, f, nat_ f xs n, n, w', rfl, S, hW, fun H2 p s2 e2 => ⟨p, _, rfl, e2, Nat.le_trans (by unfold blw; exact Nat.le_trans (List.length_filter_le _ _) (by rw [List.length_range]; exact hW.hn)) (show 12 ≤ 100000 by decide), fun H3 q s3 nq e3 => k H3 q (Same.trans s1 (Same.trans s2 s3)) ((Same.trans s1 s2).free nq) ?_⟩⟩⟩
  show H3 q = some (.lst ((Vbenah.listRow ((List.range f.words.length).filter fun x => Vbenah.isUnder (Vbenah.at_ f n).pairs f.words.length x w')).map V.int))
  rw [lr_nV, o.at_ n hk, ← below_eq hW.pp (o.ack hk)]
  exact e3
abbrev sp_posted_call (K : PySem.W.Frag) : Sp := spNum K Pkw fun f ns => a2 (fun k w => Vbenah.listRow (Vbenah.holesOf f.holes (Vbenah.posted f (Vbenah.at_ f k).pairs w))) ns
abbrev len_posted_call (K : PySem.W.Frag) := spNum_len (K := K) (P := Pkw) (A := fun f ns => a2 (fun k w => Vbenah.listRow (Vbenah.holesOf f.holes (Vbenah.posted f (Vbenah.at_ f k).pairs w))) ns)
theorem sc_posted_call : FnScope (["desk", "numbers", "row"] : List Str) ["desk", "numbers", "row"] (defScope s_posted_call) := C8.fnScope_by (by decide +kernel)
theorem c_posted_call (E : Env P w K mg base) : Cal P w K mg base CX0 9 "posted_call" (sp_posted_call K) := by
  have sc := sc_posted_call
  refine mkCal (st := s_posted_call) (E.top.d.def_ 62 (d := d_posted_call) rfl) (E.glo 62) sc (fun _ _ _ _ _ _ us hl => match us, hl with | [_, _, _], _ => rfl) (len_posted_call K) (fun cdv A outer s H vs Q X hr h => ⟨_, PSs.nox ((pss_one (ps_ret (pe_c (c_listed E) hr (by decide) rfl pass0 (pa_cons (pe_c (c_posted E) hr (by decide) rfl pass0 (pa_cons (pe_c (c_state_at E) hr (by decide) rfl pass0 (pa_cons (pv 0) (pa_cons (pe_ix (ixL (K := K)) (pv 1) pe_int (fun _ _ => rfl)) pa_nil))) (pa_cons (pe_ix (ixL (K := K)) (pv 1) pe_int (fun _ _ => rfl)) pa_nil))) pa_nil))))), ?_⟩)
  obtain ⟨d, np, rp, f, xs, ns, rfl, hD, o, hn, ⟨n, w', rfl, hk, hw⟩, k⟩ := h
  have hW := o.wsk hk
  refine ⟨_, rfl, _, rfl, np, _, 0, .int (n : Nat), rfl, rfl, SqL.of hn, rfl, d, f, xs, n, rfl, hD, o.nv, o.mm, by rw [o.len]; exact hk, fun H1 a s1 S => ⟨_, rfl, np, _, 1, .int (w' : Nat), rfl, rfl, SqL.of (s1 _ _ hn), rfl, a, f, nat_ f xs n, n, w', rfl, S, hW, hw, fun H2 p s2 e2 => ⟨p, _, rfl, e2, Nat.le_trans (holes_len _ _) (Nat.le_trans hW.ho (by decide)), fun H3 q s3 nq e3 => k H3 q (Same.trans s1 (Same.trans s2 s3)) ((Same.trans s1 s2).free nq) ?_⟩⟩⟩
  show H3 q = some (.lst ((Vbenah.listRow (Vbenah.holesOf f.holes (Vbenah.posted f (Vbenah.at_ f n).pairs w'))).map V.int))
  rw [lr_nV, o.at_ n hk]
  exact e3
def cardAns (f : File) (k c : Nat) : List Int := Vbenah.listRow (Vbenah.cardAt (Vbenah.at_ f k) c).words ++ Vbenah.listRow (Vbenah.holesOf f.holes (Vbenah.cardAt (Vbenah.at_ f k) c).notches)
abbrev sp_card_call (K : PySem.W.Frag) : Sp := spNum K Pkc fun f ns => a2 (cardAns f) ns
abbrev len_card_call (K : PySem.W.Frag) := spNum_len (K := K) (P := Pkc) (A := fun f ns => a2 (cardAns f) ns)
theorem nk_keys (l : List (Nat × Nat)) : (nk l).map (·.1) = (zs (l.map (·.1))).map (Sum.inl : Int → Key) := by
  unfold nk
  rw [List.map_map, List.map_map, List.map_map]
  rfl
theorem cwf_holes {f : File} {c : Card} (h : CWF f c) (x : Nat) : x ∈ c.by_.map (·.1) ↔ x ∈ Vbenah.holesOf f.holes c.notches := by
  rw [h.ks, mem_holes]
/-- a card of a state, seen -/
theorem SV.card {K : PySem.W.Frag} {H : Hp} {a : Addr} {f : File} {s : State} {c : Nat} (S : SV K H a f s) (hc : c < s.cards.length) : ∃ (dx ma la ca : Addr) (bs : List Addr) (cb : Addr), H a = some (.ins (He.ga K "State") dx (stateF ma la ca)) ∧ H ca = some (.lst (bs.map V.ref)) ∧ bs[c]? = some cb ∧ CardAt K H cb (Vbenah.cardAt s c) ∧ Vbenah.cardAt s c ∈ s.cards ∧ bs.length = s.cards.length := by
  obtain ⟨dx, ma, la, ca, h1, h2, h3, bs, h4, h5⟩ := S
  have e : s.cards[c]? = some s.cards[c] := List.getElem?_eq_getElem hc
  obtain ⟨cb, g1, g2⟩ := paired_get h5 e
  rw [cardAt_get e]
  exact ⟨dx, ma, la, ca, bs, cb, h1, h4, g1, g2, List.getElem_mem hc, paired_len h5⟩
theorem sc_card_call : FnScope (["desk", "numbers", "row", "card"] : List Str) ["desk", "numbers", "row"] (defScope s_card_call) := C8.fnScope_by (by decide +kernel)
theorem c_card_call (E : Env P w K mg base) : Cal P w K mg base CX0 9 "card_call" (sp_card_call K) := by
  have sc := sc_card_call
  refine mkCal (st := s_card_call) (E.top.d.def_ 63 (d := d_card_call) rfl) (E.glo 63) sc (fun _ _ _ _ _ _ us hl => match us, hl with | [_, _, _], _ => rfl) (len_card_call K) (fun cdv A outer s H vs Q X hr h => ⟨_, PSs.nox ((pss_cons (ps_set (i := 3) sc.nd rfl (Or.inl rfl) (pe_ix (ixL (K := K)) (peF (K := K) (pe_c (c_state_at E) hr (by decide) rfl pass0 (pa_cons (pv 0) (pa_cons (pe_ix (ixL (K := K)) (pv 1) pe_int (fun _ _ => rfl)) pa_nil))) rfl) (pe_ix (ixL (K := K)) (pv 1) pe_int (fun _ _ => rfl)) (fun _ _ => rfl)))
    (pss_one (ps_ret (pe_op op_cat (pe_c (c_listed E) hr (by decide) rfl pass0 (pa_cons (peF (K := K) (pv 3) rfl) pa_nil)) (pe_c (c_listed E) hr (by decide) rfl pass0 (pa_cons (pe_callB (call_sortedDI rfl) rfl (fr_sorted E) (by decide +kernel) (pa_cons (peF (K := K) (pv 3) rfl) pa_nil)) pa_nil))))))), ?_⟩)
  obtain ⟨d, np, rp, f, xs, ns, rfl, hD, o, hn, ⟨n, c, rfl, hk, hc⟩, k⟩ := h
  have hW := o.wsk hk
  rw [o.at_ n hk] at hc
  refine ⟨_, rfl, _, rfl, np, _, 0, .int (n : Nat), rfl, rfl, SqL.of hn, rfl, d, f, xs, n, rfl, hD, o.nv, o.mm, by rw [o.len]; exact hk, fun H1 a s1 S => ?_⟩
  obtain ⟨dx, ma, la, ca, bs, cb, h1, h4, g1, ⟨dc, pn, wi, ni, c1, c2, c3, c4⟩, hm, _⟩ := S.card hc
  obtain ⟨w1, w2, w3⟩ := hW.cw _ hm
  have hb := hW.hb
  have nl := holes_len f.holes (Vbenah.cardAt (nat_ f xs n) c).notches
  have ho := hW.ho
  refine ⟨a, _, dx, _, _, rfl, h1, k_State E, n_State_cards E, rfl, _, rfl, np, _, 1, .int (c : Nat), rfl, rfl, SqL.of (s1 _ _ hn), rfl, ca, _, (c : Nat), .ref cb, rfl, rfl, SqL.of h4, atI_nat (get_ref g1), ?_⟩
  refine ⟨_, rfl, cb, _, dc, _, _, rfl, c1, k_Card E, n_Card_words E, rfl, wi, _, rfl, c3, Nat.le_trans w1 (by omega), fun H2 q2 s2 nq2 e2 => ?_⟩
  refine ⟨_, rfl, cb, _, dc, _, _, rfl, s2 _ _ c1, k_Card E, n_Card_notches E, rfl, ni, _, zs ((Vbenah.cardAt (nat_ f xs n) c).by_.map (·.1)), rfl, .inl (s2 _ _ c4), nk_keys _, ?_, fun ys r pm srt nr => ?_⟩
  · rw [List.length_map, List.length_map]
    have := cwf_len w3 ho
    omega
  · have e3 := sorted_nats (l := Vbenah.holesOf f.holes (Vbenah.cardAt (nat_ f xs n) c).notches) pm srt w3.nd (asc_holes _ _) (cwf_holes w3)
    rw [e3]
    have s3 := Same.trans s2 (Same.new (o := .lst (nV (Vbenah.holesOf f.holes (Vbenah.cardAt (nat_ f xs n) c).notches))) nr)
    refine ⟨r, _, rfl, upd_same, by omega, fun H4 q4 s4 nq4 e4 => ⟨q2, q4, _, _, rfl, rfl, s4 _ _ (Same.new nr _ _ e2), e4, ?_, fun L nL => k _ L (Same.trans s1 (Same.trans s3 (Same.trans s4 (Same.new nL)))) ((Same.trans s1 (Same.trans s3 s4)).free nL) ?_⟩⟩
    · rw [nV_len, nV_len, List.length_cons, List.length_cons]
      exact sz_le (by omega)
    · rw [upd_same]
      show _ = some (HO.lst ((cardAns f n c).map V.int))
      unfold cardAns
      rw [List.map_append, lr_nV, lr_nV, o.at_ n hk]
abbrev sp_lacks_call (K : PySem.W.Frag) : Sp := spNum K Pkc fun f ns => a2 (fun k c => Vbenah.listRow (Vbenah.lacks f (Vbenah.at_ f k) (Vbenah.cardAt (Vbenah.at_ f k) c))) ns
abbrev len_lacks_call (K : PySem.W.Frag) := spNum_len (K := K) (P := Pkc) (A := fun f ns => a2 (fun k c => Vbenah.listRow (Vbenah.lacks f (Vbenah.at_ f k) (Vbenah.cardAt (Vbenah.at_ f k) c))) ns)
theorem lacks_len (f : File) (s : State) (c : Card) : (Vbenah.lacks f s c).length ≤ f.holes := by
  unfold Vbenah.lacks
  refine Nat.le_trans (List.length_filter_le _ _) ?_
  rw [List.length_range]
  exact Nat.le_refl _
theorem sc_lacks_call : FnScope (["desk", "numbers", "row", "state"] : List Str) ["desk", "numbers", "row"] (defScope s_lacks_call) := C8.fnScope_by (by decide +kernel)
theorem c_lacks_call (E : Env P w K mg base) : Cal P w K mg base CX0 9 "lacks_call" (sp_lacks_call K) := by
  have sc := sc_lacks_call
  refine mkCal (st := s_lacks_call) (E.top.d.def_ 67 (d := d_lacks_call) rfl) (E.glo 67) sc (fun _ _ _ _ _ _ us hl => match us, hl with | [_, _, _], _ => rfl) (len_lacks_call K) (fun cdv A outer s H vs Q X hr h => ⟨_, PSs.nox ((pss_cons (ps_set (i := 3) sc.nd rfl (Or.inl rfl) (pe_c (c_state_at E) hr (by decide) rfl pass0 (pa_cons (pv 0) (pa_cons (pe_ix (ixL (K := K)) (pv 1) pe_int (fun _ _ => rfl)) pa_nil))))
    (pss_one (ps_ret (pe_c (c_listed E) hr (by decide) rfl pass0 (pa_cons (pe_c (c_lacks E) hr (by decide) rfl pass0 (pa_cons (pv 3) (pa_cons (pe_ix (ixL (K := K)) (peF (K := K) (pv 3) rfl) (pe_ix (ixL (K := K)) (pv 1) pe_int (fun _ _ => rfl)) (fun _ _ => rfl)) pa_nil))) pa_nil)))))), ?_⟩)
  obtain ⟨d, np, rp, f, xs, ns, rfl, hD, o, hn, ⟨n, c, rfl, hk, hc⟩, k⟩ := h
  have hW := o.wsk hk
  have ho := hW.ho
  rw [o.at_ n hk] at hc
  refine ⟨_, rfl, _, rfl, np, _, 0, .int (n : Nat), rfl, rfl, SqL.of hn, rfl, d, f, xs, n, rfl, hD, o.nv, o.mm, by rw [o.len]; exact hk, fun H1 a s1 S => ?_⟩
  obtain ⟨dx, ma, la, ca, bs, cb, h1, h4, g1, hC, hm, _⟩ := S.card hc
  have ll := lacks_len f (nat_ f xs n) (Vbenah.cardAt (nat_ f xs n) c)
  refine ⟨_, rfl, _, rfl, a, _, dx, _, _, rfl, h1, k_State E, n_State_cards E, rfl, _, rfl, np, _, 1, .int (c : Nat), rfl, rfl, SqL.of (s1 _ _ hn), rfl, ca, _, (c : Nat), .ref cb, rfl, rfl, SqL.of h4, atI_nat (get_ref g1), a, cb, f, nat_ f xs n, n, _, rfl, S, hW, hC, hm, fun H2 p s2 e2 => ⟨p, _, rfl, e2, by omega, fun H3 q s3 nq e3 => k H3 q (Same.trans s1 (Same.trans s2 s3)) ((Same.trans s1 s2).free nq) ?_⟩⟩
  show H3 q = some (.lst ((Vbenah.listRow (Vbenah.lacks f (Vbenah.at_ f n) (Vbenah.cardAt (Vbenah.at_ f n) c))).map V.int))
  rw [lr_nV, o.at_ n hk]
  exact e3
def nestAns (f : File) (k : Nat) : List Int := match Vbenah.unnested f (Vbenah.at_ f k) with
  | none => [1]
  | some x => VbenCore.ints [0, x.1, x.2]
abbrev sp_nest (K : PySem.W.Frag) : Sp := spNum K Pk fun f ns => a1 (nestAns f) ns
abbrev len_nest (K : PySem.W.Frag) := spNum_len (K := K) (P := Pk) (A := fun f ns => a1 (nestAns f) ns)
theorem sc_nest : FnScope (["desk", "numbers", "row", "pair"] : List Str) ["desk", "numbers", "row"] (defScope s_nest) := C8.fnScope_by (by decide +kernel)
theorem c_nest (E : Env P w K mg base) : Cal P w K mg base CX0 9 "nest" (sp_nest K) := by
  have sc := sc_nest
  refine mkCal (st := s_nest) (E.top.d.def_ 68 (d := d_nest) rfl) (E.glo 68) sc (fun _ _ _ _ _ _ us hl => match us, hl with | [_, _, _], _ => rfl) (len_nest K) (fun cdv A outer s H vs Q X hr h => ⟨_, PSs.nox ((pss_cons (ps_set (i := 3) sc.nd rfl (Or.inl rfl) (pe_c (c_bad_pair E) hr (by decide) rfl pass0 (pa_cons (pe_c (c_state_at E) hr (by decide) rfl pass0 (pa_cons (pv 0) (pa_cons (pe_ix (ixL (K := K)) (pv 1) pe_int (fun _ _ => rfl)) pa_nil))) pa_nil)))
    (pss_cons (ps_if (pt_cmpR op_isN (pv 3) pe_non (nomark _)) (pss_one (ps_ret (pe_lst (pa_cons pe_int pa_nil)))) pss_nil)
    (pss_one (ps_ret (pe_lst (pa_cons pe_int (pa_cons (pe_ix (ixT (K := K)) (pv 3) pe_int (fun _ _ => rfl)) (pa_cons (pe_ix (ixT (K := K)) (pv 3) pe_int (fun _ _ => rfl)) pa_nil))))))))), ?_⟩)
  obtain ⟨d, np, rp, f, xs, ns, rfl, hD, o, hn, ⟨n, rfl, hk⟩, k⟩ := h
  have hW := o.wsk hk
  have k : ∀ (H' : Hp) (q : Addr), Same H H' → H q = none → H' q = some (.lst ((nestAns f n).map V.int)) → Q (.ref q) H' := k
  unfold nestAns at k
  rw [o.at_ n hk] at k
  refine ⟨_, rfl, _, rfl, np, _, 0, .int (n : Nat), rfl, rfl, SqL.of hn, rfl, d, f, xs, n, rfl, hD, o.nv, o.mm, by rw [o.len]; exact hk, fun H1 a s1 S => ⟨a, f, nat_ f xs n, n, rfl, S, hW, fun H2 e s2 => ?_, fun H2 p x e s2 hp => ?_⟩⟩
  · rw [e] at k
    exact ⟨_, rfl, rfl, _, rfl, if_t rfl ⟨(show 1 ≤ sizeLine by decide), fun L nL => k _ L (Same.trans s1 (Same.trans s2 (Same.new nL))) ((Same.trans s1 s2).free nL) upd_same⟩⟩
  · rw [e] at k
    exact ⟨_, rfl, rfl, _, rfl, if_f rfl ⟨_, rfl, p, _, 0, .int (x.1 : Nat), rfl, rfl, SqT.of hp, rfl, _, rfl, p, _, 1, .int (x.2 : Nat), rfl, rfl, SqT.of hp, rfl, (show 3 ≤ sizeLine by decide), fun L nL => k _ L (Same.trans s1 (Same.trans s2 (Same.new nL))) ((Same.trans s1 s2).free nL) upd_same⟩⟩
def mixAns (f : File) (k w : Nat) : List Int := match Vbenah.mixers f (Vbenah.at_ f k) w with
  | none => [0]
  | some l => 1 :: Vbenah.listRow l
abbrev sp_mixers_call (K : PySem.W.Frag) : Sp := spNum K Pkw fun f ns => a2 (mixAns f) ns
abbrev len_mixers_call (K : PySem.W.Frag) := spNum_len (K := K) (P := Pkw) (A := fun f ns => a2 (mixAns f) ns)
theorem one_lr (l : List Nat) : (1 :: Vbenah.listRow l).map V.int = nV (1 :: l.length :: l) := by
  rw [List.map_cons, lr_nV]
  rfl
theorem marks_some {f : File} {xs : List NAct} (o : Ok f xs) {w : Nat} (hw : w < f.words.length) : ∃ h, h < f.holes ∧ Vbenah.bit (Vbenah.marksOf f w) h = true := by
  have := (o.mh f.words[w] (List.getElem_mem hw)).2
  unfold Vbenah.marksOf
  rw [List.getElem?_eq_getElem hw]
  exact this
theorem sc_mixers_call : FnScope (["desk", "numbers", "row"] : List Str) ["desk", "numbers", "row"] (defScope s_mixers_call) := C8.fnScope_by (by decide +kernel)
theorem c_mixers_call (E : Env P w K mg base) : Cal P w K mg base CX0 9 "mixers_call" (sp_mixers_call K) := by
  have sc := sc_mixers_call
  refine mkCal (st := s_mixers_call) (E.top.d.def_ 70 (d := d_mixers_call) rfl) (E.glo 70) sc (fun _ _ _ _ _ _ us hl => match us, hl with | [_, _, _], _ => rfl) (len_mixers_call K) (fun cdv A outer s H vs Q X hr h => ⟨_, PSs.nox ((pss_one (ps_ret (pe_c (c_row_or_none E) hr (by decide) rfl pass0 (pa_cons (pe_c (c_mixers E) hr (by decide) rfl pass0 (pa_cons (pe_c (c_state_at E) hr (by decide) rfl pass0 (pa_cons (pv 0) (pa_cons (pe_ix (ixL (K := K)) (pv 1) pe_int (fun _ _ => rfl)) pa_nil))) (pa_cons (pe_ix (ixL (K := K)) (pv 1) pe_int (fun _ _ => rfl)) pa_nil))) pa_nil))))), ?_⟩)
  obtain ⟨d, np, rp, f, xs, ns, rfl, hD, o, hn, ⟨n, w', rfl, hk, hw⟩, k⟩ := h
  have hW := o.wsk hk
  have k : ∀ (H' : Hp) (q : Addr), Same H H' → H q = none → H' q = some (.lst ((mixAns f n w').map V.int)) → Q (.ref q) H' := k
  unfold mixAns at k
  rw [o.at_ n hk] at k
  refine ⟨_, rfl, _, rfl, np, _, 0, .int (n : Nat), rfl, rfl, SqL.of hn, rfl, d, f, xs, n, rfl, hD, o.nv, o.mm, by rw [o.len]; exact hk, fun H1 a s1 S => ⟨_, rfl, np, _, 1, .int (w' : Nat), rfl, rfl, SqL.of (s1 _ _ hn), rfl, a, f, nat_ f xs n, n, w', rfl, S, hW, hw, marks_some o hw, fun H2 e s2 => ?_, fun H2 p l e s2 hp hl => ?_⟩⟩
  · rw [e] at k
    exact Or.inl ⟨rfl, fun H3 q s3 nq e3 => k H3 q (Same.trans s1 (Same.trans s2 s3)) ((Same.trans s1 s2).free nq) e3⟩
  · rw [e] at k
    refine Or.inr ⟨p, l, rfl, hp, by omega, fun H3 q s3 nq e3 => k H3 q (Same.trans s1 (Same.trans s2 s3)) ((Same.trans s1 s2).free nq) ?_⟩
    show H3 q = some (.lst ((1 :: Vbenah.listRow l).map V.int))
    rw [one_lr]
    exact e3
def wayAns (f : File) (k a b : Nat) : List Int := match Vbenah.stepsUp (Vbenah.at_ f k).pairs f.words.length a b with
  | none => [0]
  | some n => 1 :: Vbenah.listRow (Vbenah.wayUp (Vbenah.at_ f k).pairs f.words.length n a b)
abbrev sp_way (K : PySem.W.Frag) : Sp := spNum K Pkww fun f ns => a3 (wayAns f) ns
abbrev len_way (K : PySem.W.Frag) := spNum_len (K := K) (P := Pkww) (A := fun f ns => a3 (wayAns f) ns)
theorem sc_way : FnScope (["desk", "numbers", "row"] : List Str) ["desk", "numbers", "row"] (defScope s_way) := C8.fnScope_by (by decide +kernel)
theorem c_way (E : Env P w K mg base) : Cal P w K mg base CX0 9 "way" (sp_way K) := by
  have sc := sc_way
  refine mkCal (st := s_way) (E.top.d.def_ 72 (d := d_way) rfl) (E.glo 72) sc (fun _ _ _ _ _ _ us hl => match us, hl with | [_, _, _], _ => rfl) (len_way K) (fun cdv A outer s H vs Q X hr h => ⟨_, PSs.nox ((pss_one (ps_ret (pe_c (c_row_or_none E) hr (by decide) rfl pass0 (pa_cons (pe_c (c_way_up E) hr (by decide) rfl pass0 (pa_cons (pe_c (c_state_at E) hr (by decide) rfl pass0 (pa_cons (pv 0) (pa_cons (pe_ix (ixL (K := K)) (pv 1) pe_int (fun _ _ => rfl)) pa_nil))) (pa_cons (pe_ix (ixL (K := K)) (pv 1) pe_int (fun _ _ => rfl)) (pa_cons (pe_ix (ixL (K := K)) (pv 1) pe_int (fun _ _ => rfl)) pa_nil)))) pa_nil))))), ?_⟩)
  obtain ⟨d, np, rp, f, xs, ns, rfl, hD, o, hn, ⟨n, w', b', rfl, hk, hw, hb⟩, k⟩ := h
  have hW := o.wsk hk
  have k : ∀ (H' : Hp) (q : Addr), Same H H' → H q = none → H' q = some (.lst ((wayAns f n w' b').map V.int)) → Q (.ref q) H' := k
  unfold wayAns at k
  rw [o.at_ n hk] at k
  refine ⟨_, rfl, _, rfl, np, _, 0, .int (n : Nat), rfl, rfl, SqL.of hn, rfl, d, f, xs, n, rfl, hD, o.nv, o.mm, by rw [o.len]; exact hk, fun H1 a s1 S => ⟨_, rfl, np, _, 1, .int (w' : Nat), rfl, rfl, SqL.of (s1 _ _ hn), rfl, _, rfl, np, _, 2, .int (b' : Nat), rfl, rfl, SqL.of (s1 _ _ hn), rfl, a, f, nat_ f xs n, n, w', b', rfl, S, hW, hw, hb, fun H2 e s2 => ?_, fun H2 p m e s2 hp hl => ?_⟩⟩
  · rw [e] at k
    exact Or.inl ⟨rfl, fun H3 q s3 nq e3 => k H3 q (Same.trans s1 (Same.trans s2 s3)) ((Same.trans s1 s2).free nq) e3⟩
  · rw [e] at k
    refine Or.inr ⟨p, _, rfl, hp, by omega, fun H3 q s3 nq e3 => k H3 q (Same.trans s1 (Same.trans s2 s3)) ((Same.trans s1 s2).free nq) ?_⟩
    show H3 q = some (.lst ((1 :: Vbenah.listRow _).map V.int))
    rw [one_lr]
    exact e3
end
end Bw
namespace Bw
open PySem PySem.Spec PyProof.Rows L2
open Vbenah (File State Card Act)
section
variable {P : Program} {w : World} {K : PySem.W.Frag} {mg : Str → Option Value} {base : Heap}
abbrev sp_falls_call (K : PySem.W.Frag) : Sp := spNum K Pkw fun f ns => a2 (fun k w => Vbenah.listRow (Vbenah.cardsWith f k fun c => Vbenah.fallsFor f (Vbenah.cardAt (Vbenah.at_ f k) c) w)) ns
abbrev len_falls_call (K : PySem.W.Frag) := spNum_len (K := K) (P := Pkw) (A := fun f ns => a2 (fun k w => Vbenah.listRow (Vbenah.cardsWith f k fun c => Vbenah.fallsFor f (Vbenah.cardAt (Vbenah.at_ f k) c) w)) ns)
theorem rng_get {n i : Nat} (h : i < n) : (List.range n)[i]? = some i := by
  rw [List.getElem?_eq_getElem (by rw [List.length_range]; exact h), List.getElem_range]
theorem sc_falls_call : FnScope (["desk", "numbers", "row", "state", "number", "card"] : List Str) ["desk", "numbers", "row"] (defScope s_falls_call) := C8.fnScope_by (by decide +kernel)
theorem c_falls_call (E : Env P w K mg base) : Cal P w K mg base CX0 9 "falls_call" (sp_falls_call K) := by
  have sc := sc_falls_call
  refine mkCal (st := s_falls_call) (E.top.d.def_ 64 (d := d_falls_call) rfl) (E.glo 64) sc (fun _ _ _ _ _ _ us hl => match us, hl with | [_, _, _], _ => rfl) (len_falls_call K) (fun cdv A outer s H vs Q X hr h => ⟨_, PSs.nox ((pss_cons (ps_set (i := 3) sc.nd rfl (Or.inr rfl) (pe_c (c_state_at E) hr (by decide) rfl pass0 (pa_cons (pv 0) (pa_cons (pe_ix (ixL (K := K)) (pv 1) pe_int (fun _ _ => rfl)) pa_nil))))
    (pss_one (ps_ret (pe_c (c_listed E) hr (by decide) rfl pass0 (pa_cons (pe_lc (own := [("number", 4), ("card", 5)]) (g := (gTup K 2 (gCons (gName 4) (gCons (gName 5) gNil)))) rfl sc.nd (pi_enum (by rfl) (fr_enumerate E) (pa_cons (peF (K := K) (pv 3) rfl) pa_nil)) (blkOk_by (own := [("number", 4), ("card", 5)]) (N := ["desk", "numbers", "row", "state", "number", "card"]) (sc := defScope s_falls_call) (by decide +kernel)) (fun _ _ _ _ _ => pg_tup rfl (pgs_cons (pg_name (i := 4) sc.nd rfl (Or.inl rfl)) (pgs_cons (pg_name (i := 5) sc.nd rfl (Or.inl rfl)) pgs_nil))) (fun _ _ _ _ _ => (pts_one (pt_val (pe_c (c_falls E) hr (by decide) rfl pass0 (pa_cons (pv 3) (pa_cons (pe_ix (ixL (K := K)) (pv 1) pe_int (fun _ _ => rfl)) (pa_cons (pv 5) pa_nil))))))) (fun _ _ _ _ _ => (pv 4))) pa_nil)))))), ?_⟩)
  obtain ⟨d, np, rp, f, xs, ns, rfl, hD, o, hn, ⟨n, w', rfl, hk, hw⟩, k⟩ := h
  have hW := o.wsk hk
  have hcl := hW.cl
  have hb := hW.hb
  refine ⟨_, rfl, _, rfl, np, _, 0, .int (n : Nat), rfl, rfl, SqL.of hn, rfl, d, f, xs, n, rfl, hD, o.nv, o.mm, by rw [o.len]; exact hk, fun H1 a s1 S => ?_⟩
  obtain ⟨dx, ma, la, ca, h1, h2, h3, bs, h4, h5⟩ := S
  have S : SV K H1 a f (nat_ f xs n) := ⟨dx, ma, la, ca, h1, h2, h3, bs, h4, h5⟩
  refine ⟨_, rfl, a, _, dx, _, _, rfl, h1, k_State E, n_State_cards E, rfl, ca, _, rfl, SqL.of h4, fun D hD2 => ?_⟩
  refine lc_it (walk_refsE h5) (CL H1 D isN (List.range (nat_ f xs n).cards.length) fun i => if Vbenah.fallsFor f (Vbenah.cardAt (nat_ f xs n) i) w' = true then some i else none) (CL.start hD2) (fun i H2 hi p => p.same.seq (SqL.of h4)) (fun i v H2 H3 hi p yy => ?_) fun H2 p => ?_
  · obtain ⟨T, cb, x, rfl, nT, rfl, hx, hF⟩ := yy
    have hi2 : i < (nat_ f xs n).cards.length := hi
    have s2 : Same H1 (upd H2 T (.tup [.int (i : Nat), .ref cb])) := Same.trans p.same (Same.new nT)
    obtain ⟨w1, w2, w3⟩ := hW.cw x (mem_of_get hx)
    refine ⟨T, _, rfl, SqT.of upd_same, rfl, _, _, rfl, _, _, rfl, rfl, rfl, _, rfl, _, rfl, np, _, 1, .int (w' : Nat), rfl, rfl, SqL.of (s2 _ _ (s1 _ _ hn)), rfl, _, rfl, a, cb, f, nat_ f xs n, n, w', x, rfl, S.same s2, hW, hw, hF.same s2, w3, fun H4 s4 => ⟨_, rfl, ?_⟩⟩
    have hx2 := cardAt_get hx
    refine ite2 (fun hc => ?_) fun hc => ?_
    · exact ⟨_, rfl, CL.put p (Same.trans (Same.new nT) s4) (rng_get hi2) (if_pos (by rw [hx2]; exact hc)) (by rw [List.length_range]; omega) isN_mono fun _ _ => rfl⟩
    · exact CL.skip p (Same.trans (Same.new nT) s4) (rng_get hi2) (if_neg fun z => hc (by rw [hx2] at z; exact z))
  · have p2 : CL H1 D isN (List.range (nat_ f xs n).cards.length) (fun i => if Vbenah.fallsFor f (Vbenah.cardAt (nat_ f xs n) i) w' = true then some i else none) (List.range (nat_ f xs n).cards.length).length H2 := by
      rw [List.length_range]
      exact p
    obtain ⟨B, vs, q1, q2, q3, q4, q5⟩ := p2.fin
    rw [filterMap_filter' fun i => Vbenah.fallsFor f (Vbenah.cardAt (nat_ f xs n) i) w'] at q5
    rw [paired_isN q5] at q4
    refine ⟨D, _, rfl, q4, Nat.le_trans (List.length_filter_le _ _) (by rw [List.length_range]; omega), fun H3 q s3 nq e3 => k H3 q (Same.trans s1 (Same.trans (Same.trans q1 q2) s3)) ((Same.trans s1 (Same.trans q1 q2)).free nq) ?_⟩
    show H3 q = some (.lst ((Vbenah.listRow (Vbenah.cardsWith f n fun i => Vbenah.fallsFor f (Vbenah.cardAt (Vbenah.at_ f n) i) w')).map V.int))
    unfold Vbenah.cardsWith
    rw [lr_nV, o.at_ n hk]
    exact e3
abbrev sp_wants_call (K : PySem.W.Frag) : Sp := spNum K Pkw fun f ns => a2 (fun k w => Vbenah.listRow (Vbenah.cardsWith f k fun c => Vbenah.wanted f (Vbenah.at_ f k).pairs (Vbenah.cardAt (Vbenah.at_ f k) c) w)) ns
abbrev len_wants_call (K : PySem.W.Frag) := spNum_len (K := K) (P := Pkw) (A := fun f ns => a2 (fun k w => Vbenah.listRow (Vbenah.cardsWith f k fun c => Vbenah.wanted f (Vbenah.at_ f k).pairs (Vbenah.cardAt (Vbenah.at_ f k) c) w)) ns)
theorem sc_wants_call : FnScope (["desk", "numbers", "row", "state", "number", "card"] : List Str) ["desk", "numbers", "row"] (defScope s_wants_call) := C8.fnScope_by (by decide +kernel)
theorem c_wants_call (E : Env P w K mg base) : Cal P w K mg base CX0 9 "wants_call" (sp_wants_call K) := by
  have sc := sc_wants_call
  refine mkCal (st := s_wants_call) (E.top.d.def_ 65 (d := d_wants_call) rfl) (E.glo 65) sc (fun _ _ _ _ _ _ us hl => match us, hl with | [_, _, _], _ => rfl) (len_wants_call K) (fun cdv A outer s H vs Q X hr h => ⟨_, PSs.nox ((pss_cons (ps_set (i := 3) sc.nd rfl (Or.inr rfl) (pe_c (c_state_at E) hr (by decide) rfl pass0 (pa_cons (pv 0) (pa_cons (pe_ix (ixL (K := K)) (pv 1) pe_int (fun _ _ => rfl)) pa_nil))))
    (pss_one (ps_ret (pe_c (c_listed E) hr (by decide) rfl pass0 (pa_cons (pe_lc (own := [("number", 4), ("card", 5)]) (g := (gTup K 2 (gCons (gName 4) (gCons (gName 5) gNil)))) rfl sc.nd (pi_enum (by rfl) (fr_enumerate E) (pa_cons (peF (K := K) (pv 3) rfl) pa_nil)) (blkOk_by (own := [("number", 4), ("card", 5)]) (N := ["desk", "numbers", "row", "state", "number", "card"]) (sc := defScope s_wants_call) (by decide +kernel)) (fun _ _ _ _ _ => pg_tup rfl (pgs_cons (pg_name (i := 4) sc.nd rfl (Or.inl rfl)) (pgs_cons (pg_name (i := 5) sc.nd rfl (Or.inl rfl)) pgs_nil))) (fun _ _ _ _ _ => (pts_one (pt_val (pe_c (c_is_wanted E) hr (by decide) rfl pass0 (pa_cons (pv 3) (pa_cons (pe_ix (ixL (K := K)) (pv 1) pe_int (fun _ _ => rfl)) (pa_cons (pv 5) pa_nil))))))) (fun _ _ _ _ _ => (pv 4))) pa_nil)))))), ?_⟩)
  obtain ⟨d, np, rp, f, xs, ns, rfl, hD, o, hn, ⟨n, w', rfl, hk, hw⟩, k⟩ := h
  have hW := o.wsk hk
  have hcl := hW.cl
  have hb := hW.hb
  refine ⟨_, rfl, _, rfl, np, _, 0, .int (n : Nat), rfl, rfl, SqL.of hn, rfl, d, f, xs, n, rfl, hD, o.nv, o.mm, by rw [o.len]; exact hk, fun H1 a s1 S => ?_⟩
  obtain ⟨dx, ma, la, ca, h1, h2, h3, bs, h4, h5⟩ := S
  have S : SV K H1 a f (nat_ f xs n) := ⟨dx, ma, la, ca, h1, h2, h3, bs, h4, h5⟩
  refine ⟨_, rfl, a, _, dx, _, _, rfl, h1, k_State E, n_State_cards E, rfl, ca, _, rfl, SqL.of h4, fun D hD2 => ?_⟩
  refine lc_it (walk_refsE h5) (CL H1 D isN (List.range (nat_ f xs n).cards.length) fun i => if Vbenah.wanted f (nat_ f xs n).pairs (Vbenah.cardAt (nat_ f xs n) i) w' = true then some i else none) (CL.start hD2) (fun i H2 hi p => p.same.seq (SqL.of h4)) (fun i v H2 H3 hi p yy => ?_) fun H2 p => ?_
  · obtain ⟨T, cb, x, rfl, nT, rfl, hx, hF⟩ := yy
    have hi2 : i < (nat_ f xs n).cards.length := hi
    have s2 : Same H1 (upd H2 T (.tup [.int (i : Nat), .ref cb])) := Same.trans p.same (Same.new nT)
    obtain ⟨w1, w2, w3⟩ := hW.cw x (mem_of_get hx)
    refine ⟨T, _, rfl, SqT.of upd_same, rfl, _, _, rfl, _, _, rfl, rfl, rfl, _, rfl, _, rfl, np, _, 1, .int (w' : Nat), rfl, rfl, SqL.of (s2 _ _ (s1 _ _ hn)), rfl, _, rfl, a, cb, f, nat_ f xs n, n, w', x, rfl, S.same s2, hW, hF.same s2, mem_of_get hx, fun H4 s4 => ⟨_, rfl, ?_⟩⟩
    have hx2 := cardAt_get hx
    refine ite2 (fun hc => ?_) fun hc => ?_
    · exact ⟨_, rfl, CL.put p (Same.trans (Same.new nT) s4) (rng_get hi2) (if_pos (by rw [hx2]; exact hc)) (by rw [List.length_range]; omega) isN_mono fun _ _ => rfl⟩
    · exact CL.skip p (Same.trans (Same.new nT) s4) (rng_get hi2) (if_neg fun z => hc (by rw [hx2] at z; exact z))
  · have p2 : CL H1 D isN (List.range (nat_ f xs n).cards.length) (fun i => if Vbenah.wanted f (nat_ f xs n).pairs (Vbenah.cardAt (nat_ f xs n) i) w' = true then some i else none) (List.range (nat_ f xs n).cards.length).length H2 := by
      rw [List.length_range]
      exact p
    obtain ⟨B, vs, q1, q2, q3, q4, q5⟩ := p2.fin
    rw [filterMap_filter' fun i => Vbenah.wanted f (nat_ f xs n).pairs (Vbenah.cardAt (nat_ f xs n) i) w'] at q5
    rw [paired_isN q5] at q4
    refine ⟨D, _, rfl, q4, Nat.le_trans (List.length_filter_le _ _) (by rw [List.length_range]; omega), fun H3 q s3 nq e3 => k H3 q (Same.trans s1 (Same.trans (Same.trans q1 q2) s3)) ((Same.trans s1 (Same.trans q1 q2)).free nq) ?_⟩
    show H3 q = some (.lst ((Vbenah.listRow (Vbenah.cardsWith f n fun i => Vbenah.wanted f (Vbenah.at_ f n).pairs (Vbenah.cardAt (Vbenah.at_ f n) i) w')).map V.int))
    unfold Vbenah.cardsWith
    rw [lr_nV, o.at_ n hk]
    exact e3
abbrev sp_needs (K : PySem.W.Frag) : Sp := spNum K Pk fun f ns => a1 (fun k => Vbenah.listRow ((Vbenah.at_ f k).cards.map fun c => (Vbenah.lacks f (Vbenah.at_ f k) c).length)) ns
abbrev len_needs (K : PySem.W.Frag) := spNum_len (K := K) (P := Pk) (A := fun f ns => a1 (fun k => Vbenah.listRow ((Vbenah.at_ f k).cards.map fun c => (Vbenah.lacks f (Vbenah.at_ f k) c).length)) ns)
theorem sc_needs : FnScope (["desk", "numbers", "row", "state", "card"] : List Str) ["desk", "numbers", "row"] (defScope s_needs) := C8.fnScope_by (by decide +kernel)
theorem c_needs (E : Env P w K mg base) : Cal P w K mg base CX0 9 "needs" (sp_needs K) := by
  have sc := sc_needs
  refine mkCal (st := s_needs) (E.top.d.def_ 75 (d := d_needs) rfl) (E.glo 75) sc (fun _ _ _ _ _ _ us hl => match us, hl with | [_, _, _], _ => rfl) (len_needs K) (fun cdv A outer s H vs Q X hr h => ⟨_, PSs.nox ((pss_cons (ps_set (i := 3) sc.nd rfl (Or.inr rfl) (pe_c (c_state_at E) hr (by decide) rfl pass0 (pa_cons (pv 0) (pa_cons (pe_ix (ixL (K := K)) (pv 1) pe_int (fun _ _ => rfl)) pa_nil))))
    (pss_one (ps_ret (pe_c (c_listed E) hr (by decide) rfl pass0 (pa_cons (pe_lc (own := [("card", 4)]) (g := (gName 4)) rfl sc.nd (pi_list (peF (K := K) (pv 3) rfl)) (blkOk_by (own := [("card", 4)]) (N := ["desk", "numbers", "row", "state", "card"]) (sc := defScope s_needs) (by decide +kernel)) (fun _ _ _ _ _ => pg_name (i := 4) sc.nd rfl (Or.inl rfl)) (fun _ _ _ _ _ => pts_nil) (fun _ _ _ _ _ => (pe_callB (clen (K := K)) rfl (fr_len E) (by decide +kernel) (pa_cons (pe_c (c_lacks E) hr (by decide) rfl pass0 (pa_cons (pv 3) (pa_cons (pv 4) pa_nil))) pa_nil)))) pa_nil)))))), ?_⟩)
  obtain ⟨d, np, rp, f, xs, ns, rfl, hD, o, hn, ⟨n, rfl, hk⟩, k⟩ := h
  have hW := o.wsk hk
  have hcl := hW.cl
  have hb := hW.hb
  refine ⟨_, rfl, _, rfl, np, _, 0, .int (n : Nat), rfl, rfl, SqL.of hn, rfl, d, f, xs, n, rfl, hD, o.nv, o.mm, by rw [o.len]; exact hk, fun H1 a s1 S => ?_⟩
  obtain ⟨dx, ma, la, ca, h1, h2, h3, bs, h4, h5⟩ := S
  have S : SV K H1 a f (nat_ f xs n) := ⟨dx, ma, la, ca, h1, h2, h3, bs, h4, h5⟩
  refine ⟨_, rfl, a, _, dx, _, _, rfl, h1, k_State E, n_State_cards E, rfl, ca, rfl, ⟨_, SqL.of h4⟩, fun D hD2 => ?_⟩
  refine lc_it (walk_refs h5) (CL H1 D isN (nat_ f xs n).cards fun c => some (Vbenah.lacks f (nat_ f xs n) c).length) (CL.start hD2) (fun i H2 hi p => p.same.seq (SqL.of h4)) (fun i v H2 H3 hi p yy => ?_) fun H2 p => ?_
  · obtain ⟨rfl, cb, x, rfl, hx, hF⟩ := yy
    refine ⟨rfl, yes_ ⟨_, rfl, _, rfl, a, cb, f, nat_ f xs n, n, x, rfl, S.same p.same, hW, hF.same p.same, mem_of_get hx, fun H4 q s4 e4 => ⟨q, _, rfl, Or.inl (SqL.of e4), ?_⟩⟩⟩
    rw [nV_len]
    exact CL.put p s4 hx rfl (by omega) isN_mono fun _ _ => rfl
  · obtain ⟨B, vs, q1, q2, q3, q4, q5⟩ := p.fin
    rw [filterMap_some'] at q5
    rw [paired_isN q5] at q4
    refine ⟨D, _, rfl, q4, by rw [List.length_map]; omega, fun H3 q s3 nq e3 => k H3 q (Same.trans s1 (Same.trans (Same.trans q1 q2) s3)) ((Same.trans s1 (Same.trans q1 q2)).free nq) ?_⟩
    show H3 q = some (.lst ((Vbenah.listRow ((Vbenah.at_ f n).cards.map fun c => (Vbenah.lacks f (Vbenah.at_ f n) c).length)).map V.int))
    rw [lr_nV, o.at_ n hk]
    exact e3
theorem text_eq {f : File} {xs : List NAct} (o : Ok f xs) : ntext f xs = Vbenah.fileText f := by
  unfold ntext Vbenah.fileText
  congr 3
  rw [o.xe, List.map_map]
  refine List.map_congr_left fun x hx => ?_
  show VbenCore.between [32] (actWs f (nameA (f.acts.filterMap cardN) x)) = Vbenah.actText f x
  unfold Vbenah.actText
  rw [cardNames_eq]
  cases x <;> rfl
abbrev sp_text (K : PySem.W.Frag) : Sp := spNum K P0 fun f _ => 0 :: VbenCore.ints (Vbenah.fileText f)
abbrev len_text (K : PySem.W.Frag) := spNum_len (K := K) (P := P0) (A := fun f _ => 0 :: VbenCore.ints (Vbenah.fileText f))
theorem sc_text : FnScope (["desk", "numbers", "row"] : List Str) ["desk", "numbers", "row"] (defScope s_text) := C8.fnScope_by (by decide +kernel)
theorem c_text (E : Env P w K mg base) : Cal P w K mg base CX0 5 "text" (sp_text K) := by
  have sc := sc_text
  refine mkCal (st := s_text) (E.top.d.def_ 56 (d := d_text) rfl) (E.glo 56) sc (fun _ _ _ _ _ _ us hl => match us, hl with | [_, _, _], _ => rfl) (len_text K) (fun cdv A outer s H vs Q X hr h => ⟨_, PSs.nox ((pss_one (ps_ret (pe_op op_cat (pe_lst (pa_cons pe_int pa_nil)) (pe_c (c_text_of E) hr (by decide) rfl pass0 (pa_cons (peF (K := K) (pv 0) rfl) pa_nil)))))), ?_⟩)
  obtain ⟨d, np, rp, f, xs, ns, rfl, ⟨dx, a, h1, hF⟩, o, hn, rfl, k⟩ := h
  refine ⟨(show 1 ≤ sizeLine by decide), fun L nL => ⟨_, rfl, d, _, dx, _, _, rfl, Same.new nL _ _ h1, k_Desk E, n_Desk_file E, rfl, a, f, xs, rfl, hF.same (Same.new nL), o.fb, fun H1 q s1 e1 hl => ⟨L, q, _, _, rfl, rfl, s1 _ _ upd_same, e1, ?_, fun L2 nL2 => k _ L2 (Same.trans (Same.new nL) (Same.trans s1 (Same.new nL2))) ((Same.trans (Same.new (o := .lst [.int 0]) nL) s1).free nL2) ?_⟩⟩⟩
  · rw [nV_len]
    exact Nat.le_trans (Nat.add_le_add_left hl _) (by decide)
  · rw [upd_same, text_eq o]
    show some (HO.lst ([V.int 0] ++ nV (Vbenah.fileText f))) = some (HO.lst ((0 :: VbenCore.ints (Vbenah.fileText f)).map V.int))
    rw [List.map_cons, ints_nV]
    rfl
/-- a call that may change the file -/
def spDo (K : PySem.W.Frag) (P : File → List Nat → Prop) (G : File → List NAct → List Nat → File × List NAct) (A : File → List Nat → List Int) : Sp := fun vs H Q _ => ∃ (d np rp L : Addr) (l : List V) (f : File) (xs : List NAct) (ns : List Nat), vs = [.ref d, .ref np, .ref rp] ∧ H L = some (.lst l) ∧ DeskV K (less [L] H) d f xs ∧ Ok f xs ∧ LstN H np ns ∧ P f ns ∧
  ∀ H' q, But [d] H H' → DeskV K (less [L] H') d (G f xs ns).1 (G f xs ns).2 → Ok (G f xs ns).1 (G f xs ns).2 → H' q = some (.lst ((A f ns).map V.int)) → H q = none → Q (.ref q) H'
theorem spDo_len {K : PySem.W.Frag} {P : File → List Nat → Prop} {G : File → List NAct → List Nat → File × List NAct} {A : File → List Nat → List Int} : ∀ vs H Q E, spDo K P G A vs H Q E → vs.length = 3 := fun _ _ _ _ ⟨_, _, _, _, _, _, _, _, h, _⟩ => by rw [h]; rfl
abbrev sp_clear (K : PySem.W.Frag) : Sp := spDo K P0 (fun _ _ _ => (Vbenah.start, [])) fun _ _ => [0]
abbrev len_clear (K : PySem.W.Frag) := spDo_len (K := K) (P := P0) (G := fun _ _ _ => (Vbenah.start, [])) (A := fun _ _ => [0])
theorem file_ne_desk {C D d e : Addr} {a b c g v : V} : HO.ins C d (fileF a b c g) ≠ HO.ins D e [("file", v)] := fun z => by
  injection z with _ _ z
  injection z with z _
  injection z with z _
  exact absurd z (by decide)
/-- another file on the desk -/
theorem DeskV.put {K : PySem.W.Frag} {H : Hp} {d dx a b : Addr} {f g : File} {xs ys : List NAct} (h : H d = some (.ins (He.ga K "Desk") dx [("file", .ref a)])) (hF : FileAt K H b g ys) : DeskV K (upd H d (.ins (He.ga K "Desk") dx [("file", .ref b)])) d g ys := by
  obtain ⟨dy, na, ma, al, f1, ⟨ns, f2, f3⟩, ⟨ms, f4, f5⟩, ⟨as, f6, f7⟩⟩ := hF
  have st : ∀ {b' o}, H b' = some o → o ≠ .ins (He.ga K "Desk") dx [("file", .ref a)] → upd H d (.ins (He.ga K "Desk") dx [("file", .ref b)]) b' = some o := fun e n => by
    rw [upd_ne (ne_obj e h n)]
    exact e
  have sA : ∀ {b' y}, NActAt H b' y → NActAt (upd H d (.ins (He.ga K "Desk") dx [("file", .ref b)])) b' y := fun {b' y} q => by
    cases y with
    | under i j => exact st q (fun z => by cases z)
    | apart i j => exact st q (fun z => by cases z)
    | card n ws =>
      obtain ⟨p, r, h1, h2, h3⟩ := q
      exact ⟨p, r, st h1 (fun z => by cases z), st h2 (fun z => by cases z), st h3 (fun z => by cases z)⟩
    | add n w =>
      obtain ⟨p, h1, h2⟩ := q
      exact ⟨p, st h1 (fun z => by cases z), st h2 (fun z => by cases z)⟩
    | grow n =>
      obtain ⟨p, h1, h2⟩ := q
      exact ⟨p, st h1 (fun z => by cases z), st h2 (fun z => by cases z)⟩
    | notch n w =>
      obtain ⟨p, h1, h2⟩ := q
      exact ⟨p, st h1 (fun z => by cases z), st h2 (fun z => by cases z)⟩
  exact ⟨dx, b, upd_same, dy, na, ma, al, st f1 file_ne_desk, ⟨ns, st f2 (fun z => by cases z), paired_same (fun _ _ q => st q (fun z => by cases z)) f3⟩, ⟨ms, st f4 (fun z => by cases z), paired_same (fun _ _ q => st q (fun z => by cases z)) f5⟩,
    ⟨as, st f6 (fun z => by cases z), paired_same (fun _ _ q => sA q) f7⟩⟩
theorem but_one {H H' : Hp} {d : Addr} {o : HO} (s : Same H H') : But [d] H (upd H' d o) := fun b u hb e => by
  rw [upd_ne (by simpa using hb)]
  exact s _ _ e
theorem upd_free {H : Hp} {d b : Addr} {o : HO} (h : upd H d o b = none) : H b = none := by
  by_cases e : b = d
  · rw [e, upd_same] at h
    cases h
  · rw [upd_ne e] at h
    exact h
theorem But.more {H H1 H2 : Hp} {d : Addr} (b : But [d] H H1) (s : Same H1 H2) : But [d] H H2 := fun c u hc e => s _ _ (b _ _ hc e)
theorem sc_clear : FnScope (["desk", "numbers", "row"] : List Str) ["desk", "numbers", "row"] (defScope s_clear) := C8.fnScope_by (by decide +kernel)
theorem c_clear (E : Env P w K mg base) : Cal P w K mg base CX0 4 "clear" (sp_clear K) := by
  have sc := sc_clear
  refine mkCal (st := s_clear) (E.top.d.def_ 53 (d := d_clear) rfl) (E.glo 53) sc (fun _ _ _ _ _ _ us hl => match us, hl with | [_, _, _], _ => rfl) (len_clear K) (fun cdv A outer s H vs Q X hr h => ⟨_, PSs.nox ((pss_cons (ps_fld (pv 0) (pe_c0 (c_first_file E) hr (by decide) rfl pass0) rfl)
    (pss_one (ps_ret (pe_lst (pa_cons pe_int pa_nil)))))), ?_⟩)
  obtain ⟨d, np, rp, L0, l0, f, xs, ns, rfl, hL, ⟨dx, a, q1, hF⟩, o, hn, rfl, k⟩ := h
  have h1 := less_sub _ _ q1
  have hdL : d ≠ L0 := ne_obj h1 hL fun z => by cases z
  refine ⟨rfl, fun H1 b s1 nb hF1 => ⟨_, rfl, d, _, dx, _, rfl, s1 _ _ h1, k_Desk E, n_Desk_file E, (show 1 < 1000 by decide), (show 1 ≤ sizeLine by decide), fun L nL => ?_⟩⟩
  have hF2 : FileAt K (less [L0] H1) b Vbenah.start [] := hF1.same fun b o e => by
    rw [less_out (fun m => fresh_off hL (by rw [List.mem_singleton.mp m] at e; exact e))]
    exact fresh_sub _ _ e
  have hdv := DeskV.put (f := f) (xs := xs) (Same.less s1 _ _ q1) hF2
  rw [← less_upd hdL] at hdv
  exact k _ L ((but_one s1).more (Same.new nL)) (hdv.same (Same.less (Same.new nL))) ok_start upd_same (s1.free (upd_free nL))
abbrev sp_undo (K : PySem.W.Frag) : Sp := spDo K Pk (fun f xs ns => (pre f (ns.headD 0), xs.take (ns.headD 0))) fun _ ns => a1 (fun k => [(k : Int)]) ns
abbrev len_undo (K : PySem.W.Frag) := spDo_len (K := K) (P := Pk) (G := fun f xs ns => (pre f (ns.headD 0), xs.take (ns.headD 0))) (A := fun _ ns => a1 (fun k => [(k : Int)]) ns)
theorem sc_undo : FnScope (["desk", "numbers", "row", "file"] : List Str) ["desk", "numbers", "row"] (defScope s_undo) := C8.fnScope_by (by decide +kernel)
theorem c_undo (E : Env P w K mg base) : Cal P w K mg base CX0 3 "undo" (sp_undo K) := by
  have sc := sc_undo
  refine mkCal (st := s_undo) (E.top.d.def_ 58 (d := d_undo) rfl) (E.glo 58) sc (fun _ _ _ _ _ _ us hl => match us, hl with | [_, _, _], _ => rfl) (len_undo K) (fun cdv A outer s H vs Q X hr h => ⟨_, PSs.nox ((pss_cons (ps_set (i := 3) sc.nd rfl (Or.inl rfl) (peF (K := K) (pv 0) rfl))
    (pss_cons (ps_fld (pv 0) (pe_k (c_File_init E) hr (by decide) rfl (pa_cons (peF (K := K) (pv 3) rfl) (pa_cons (peF (K := K) (pv 3) rfl) (pa_cons (peF (K := K) (pv 3) rfl) (pa_cons (pe_slice (slL (K := K)) (peF (K := K) (pv 3) rfl) po_none (po_some (pe_ix (ixL (K := K)) (pv 1) pe_int (fun _ _ => rfl)))) pa_nil))))) rfl)
    (pss_one (ps_ret (pe_lst (pa_cons (pe_ix (ixL (K := K)) (pv 1) pe_int (fun _ _ => rfl)) pa_nil))))))), ?_⟩)
  obtain ⟨d, np, rp, L0, l0, f, xs, ns, rfl, hL0, ⟨dx, a, q1, hF⟩, o, hn, ⟨n, rfl, hk⟩, k⟩ := h
  have h1 := less_sub _ _ q1
  have hdL : d ≠ L0 := ne_obj h1 hL0 fun z => by cases z
  obtain ⟨dy, na, ma, al, p1, f2, f3, ⟨as, p6, f7⟩⟩ := hF
  have f1 := less_sub _ _ p1
  have f6 := less_sub _ _ p6
  have las := paired_len f7
  have hkx : n ≤ xs.length := by rw [o.len]; exact hk
  refine ⟨_, rfl, d, _, dx, _, _, rfl, h1, k_Desk E, n_Desk_file E, rfl, ?_⟩
  refine ⟨_, rfl, a, _, dy, _, _, rfl, f1, k_File E, n_File_holes E, rfl, _, rfl, a, _, dy, _, _, rfl, f1, k_File E, n_File_names E, rfl, _, rfl, a, _, dy, _, _, rfl, f1, k_File E, n_File_marks E, rfl, _, rfl, a, _, dy, _, _, rfl, f1, k_File E, n_File_acts E, rfl, _, rfl, np, _, 0, .int (n : Nat), rfl, rfl, SqL.of hn, rfl, (n : Nat), rfl, al, _, rfl, SqL.of f6, fun L nL => ?_⟩
  rw [cut_take (by rw [List.length_map, las]; exact hkx), ← List.map_take] at *
  have s1 := Same.new (o := .lst ((as.take n).map V.ref)) nL
  intro x1 d1 nx1 nd1 ne1
  refine ⟨x1, d1, _, _, _, _, rfl, upd_same, fun H2 b2 e2 => ⟨rfl, ?_⟩⟩
  have s2 := smB nx1 nd1 b2
  have s12 := Same.trans s1 s2
  have nw : ∀ {b u}, H b = none → H2 b = some u → less [L0] H2 b = some u := fun hb e => by
    rw [less_out (fun m => by rw [List.mem_singleton.mp m, hL0] at hb; cases hb)]
    exact e
  have hF2 : FileAt K (less [L0] H2) x1 (pre f n) (xs.take n) := ⟨d1, na, ma, L, nw (s1.free nx1) e2, f2.same (Same.less s12), f3.same (Same.less s12), ⟨as.take n, nw nL (s2 _ _ upd_same), paired_take n (paired_same (fun _ _ q => q.same (Same.less s12)) f7)⟩⟩
  refine ⟨_, rfl, d, _, dx, _, rfl, s12 _ _ h1, k_Desk E, n_Desk_file E, (show 1 < 1000 by decide), ?_⟩
  have hnp : np ≠ d := ne_obj hn h1 fun z => by cases z
  have hn3 : upd H2 d (.ins (He.ga K "Desk") dx [("file", .ref x1)]) np = some (.lst (nV [n])) := by
    rw [upd_ne hnp]
    exact s12 _ _ hn
  refine ⟨_, rfl, np, _, 0, .int (n : Nat), rfl, rfl, SqL.of hn3, rfl, (show 1 ≤ sizeLine by decide), fun L3 nL3 => ?_⟩
  have hdv := DeskV.put (f := f) (xs := xs) (Same.less s12 _ _ q1) hF2
  rw [← less_upd hdL] at hdv
  exact k _ L3 ((but_one s12).more (Same.new nL3)) (hdv.same (Same.less (Same.new nL3))) (o.take n) upd_same (s12.free (upd_free nL3))
end
end Bw
namespace Bw
open PySem PySem.Spec PyProof.Rows L2
open Vbenah (File State Card Act)
section
variable {P : Program} {w : World} {K : PySem.W.Frag} {mg : Str → Option Value} {base : Heap}
theorem verd_at {f : File} {xs : List NAct} (o : Ok f xs) {n c w : Nat} (hk : n ≤ f.acts.length) : verd f (nat_ f (xs.take n)) (xs.take n).length c w = Vbenah.verdict f n c w := by
  have hx : n ≤ xs.length := by rw [o.len]; exact hk
  rw [take_len' hx, verd_congr (st' := Vbenah.at_ f) fun i hi => by rw [nat_take hi, o.at_ i (by omega)]]
  rfl
def kindsOf (f : File) (k w : Nat) : List Nat := (List.range (Vbenah.at_ f k).cards.length).map fun c => Vbenah.verdict f k c w
def judgeAns (f : File) (k w : Nat) : List Int := [1, 2, 3, 4].flatMap fun v => Vbenah.listRow (Vbenah.cardsWith f k fun c => Vbenah.verdict f k c w == v)
abbrev sp_judge (K : PySem.W.Frag) : Sp := spNum K Pkw fun f ns => a2 (judgeAns f) ns
abbrev len_judge (K : PySem.W.Frag) := spNum_len (K := K) (P := Pkw) (A := fun f ns => a2 (judgeAns f) ns)
theorem sc_judge : FnScope (["desk", "numbers", "row", "past", "number", "kinds", "found", "due", "kind"] : List Str) ["desk", "numbers", "row"] (defScope s_judge) := C8.fnScope_by (by decide +kernel)
theorem c_judge (E : Env P w K mg base) : Cal P w K mg base CX0 10 "judge" (sp_judge K) := by
  have sc := sc_judge
  refine mkCal (st := s_judge) (E.top.d.def_ 66 (d := d_judge) rfl) (E.glo 66) sc (fun _ _ _ _ _ _ us hl => match us, hl with | [_, _, _], _ => rfl) (len_judge K) (fun cdv A outer s H vs Q X hr h => ⟨_, PSs.nox ((pss_cons (ps_set (i := 3) sc.nd rfl (Or.inr rfl) (pe_c (c_past_at E) hr (by decide) rfl pass0 (pa_cons (pv 0) (pa_cons (pe_ix (ixL (K := K)) (pv 1) pe_int (fun _ _ => rfl)) pa_nil))))
    (pss_cons (ps_setLc (i := 5) (own := [("number", 4)]) (g := (gName 4)) rfl sc.nd rfl rfl (sw_true rfl rfl rfl (by decide +kernel)) (pi_range1 (by rfl) (fr_range E) (pa_cons (pe_callB (clen (K := K)) rfl (fr_len E) (by decide +kernel) (pa_cons (peF (K := K) (peF (K := K) (pv 3) rfl) rfl) pa_nil)) pa_nil)) (blkOk_by (own := [("number", 4)]) (N := ["desk", "numbers", "row", "past", "number", "kinds", "found", "due", "kind"]) (sc := defScope s_judge) (by decide +kernel)) (fun _ _ _ _ _ => pg_name (i := 4) sc.nd rfl (Or.inl rfl)) (fun _ _ _ _ _ => pts_nil) (fun _ _ _ _ _ => (pe_c (c_kind_of E) hr (by decide) rfl pass0 (pa_cons (pv 3) (pa_cons (pe_ix (ixL (K := K)) (pv 1) pe_int (fun _ _ => rfl)) (pa_cons (pv 4) pa_nil))))))
    (pss_cons (ps_set (i := 6) sc.nd rfl (Or.inl rfl) (pe_lst pa_nil))
    (pss_cons (ps_for PassesOwn.never rfl (pi_tup (pe_tup (pa_cons (C8.pe_gc rfl (g_RIGHT E)) (pa_cons (C8.pe_gc rfl (g_MISSED E)) (pa_cons (C8.pe_gc rfl (g_STALE E)) (pa_cons (C8.pe_gc rfl (g_MIXED E)) pa_nil)))))) (pg_name (i := 7) sc.nd rfl (Or.inr rfl))
    (pss_one (ps_expr (pe_bm PySem.F.plainAttrs_list PySem.F.slot_list_extend PySem.F.type_list_extend mt_extend (pv 6) (pa_cons (pe_c (c_listed E) hr (by decide) rfl pass0 (pa_cons (pe_lc (own := [("number", 4), ("kind", 8)]) (g := (gTup K 2 (gCons (gName 4) (gCons (gName 8) gNil)))) rfl sc.nd (pi_enum (by rfl) (fr_enumerate E) (pa_cons (pv 5) pa_nil)) (blkOk_by (own := [("number", 4), ("kind", 8)]) (N := ["desk", "numbers", "row", "past", "number", "kinds", "found", "due", "kind"]) (sc := defScope s_judge) (by decide +kernel)) (fun _ _ _ _ _ => pg_tup rfl (pgs_cons (pg_name (i := 4) sc.nd rfl (Or.inl rfl)) (pgs_cons (pg_name (i := 8) sc.nd rfl (Or.inl rfl)) pgs_nil))) (fun _ _ _ _ _ => (pts_one (pt_cmpR op_eq (pv 8) (pv 7) (nomark _)))) (fun _ _ _ _ _ => (pv 4))) pa_nil)) pa_nil)))))
    (pss_one (ps_ret (pv 6)))))))), ?_⟩)
  obtain ⟨d, np, rp, f, xs, ns, rfl, hD, o, hn, ⟨n, w', rfl, hk, hw⟩, k⟩ := h
  have hW := o.wsk hk
  have hcl := hW.cl
  have hb := hW.hb
  have hx : n ≤ xs.length := by rw [o.len]; exact hk
  refine ⟨_, rfl, _, rfl, np, _, 0, .int (n : Nat), rfl, rfl, SqL.of hn, rfl, d, f, xs, n, rfl, hD, o.nv, o.mm, hx, fun H1 p s1 hP => ?_⟩
  have hP0 := hP
  obtain ⟨dx, a, ev, kvs, h1, hS, h3, h4⟩ := hP
  obtain ⟨dy, ma, la, ca, g1, g2, g3, ⟨cs, g4, g5⟩⟩ := hS
  have eN : (nat_ f (xs.take n) (xs.take n).length).cards.length = (Vbenah.at_ f n).cards.length := by rw [take_len' hx, nat_take (Nat.le_refl n), o.at_ n hk]
  have ec : (cs.map V.ref).length = (Vbenah.at_ f n).cards.length := by rw [List.length_map, paired_len g5, eN]
  have hNl : (Vbenah.at_ f n).cards.length ≤ 500 := by rw [o.at_ n hk]; omega
  refine ⟨_, rfl, p, _, dx, _, _, rfl, h1, k_Past E, n_Past_state E, rfl, a, _, dy, _, _, rfl, g1, k_State E, n_State_cards E, rfl, ca, _, rfl, Or.inl (SqL.of g4), _, rfl, by omega, by rw [ec]; omega, fun D nD => ?_⟩
  rw [ec]
  refine lc_it walk_rngN (CL H1 D isN (List.range (Vbenah.at_ f n).cards.length) fun c => some (Vbenah.verdict f n c w')) (CL.start nD) (fun i H2 hi q => trivial) (fun i v H2 H3 hi q yy => ?_) fun H2 q => ?_
  · obtain ⟨rfl, rfl⟩ := yy
    have hi2 : i < (Vbenah.at_ f n).cards.length := hi
    refine ⟨rfl, yes_ ⟨_, rfl, _, rfl, np, _, 1, .int (w' : Nat), rfl, rfl, SqL.of (q.same _ _ (s1 _ _ hn)), rfl, _, rfl, p, f, xs.take n, w', i, rfl, hP0.same q.same, o.nv.take n, hw, by rw [eN]; exact hi2, fun H4 s4 => ?_⟩⟩
    rw [verd_at o hk]
    exact CL.put q s4 (rng_get hi2) rfl (by rw [List.length_range]; omega) isN_mono fun _ _ => rfl
  · have q2 : CL H1 D isN (List.range (Vbenah.at_ f n).cards.length) (fun c => some (Vbenah.verdict f n c w')) (List.range (Vbenah.at_ f n).cards.length).length H2 := by
      rw [List.length_range]
      exact q
    obtain ⟨B, vs, q1, q2, q3, q4, q5⟩ := q2.fin
    rw [filterMap_some'] at q5
    rw [paired_isN q5] at q4
    have q4 : LstN H2 D (kindsOf f n w') := q4
    have lk : (kindsOf f n w').length = (Vbenah.at_ f n).cards.length := by unfold kindsOf; rw [List.length_map, List.length_range]
    have s12 := Same.trans s1 (Same.trans q1 q2)
    refine ⟨Nat.zero_le _, fun L nL => ⟨(show 4 ≤ sizeLine by decide), fun T nT => ?_⟩⟩
    have nLH := nL
    have sL := Same.new (o := .lst []) nL
    have sT := Same.new (o := .tup [.int 1, .int 2, .int 3, .int 4]) nT
    refine ⟨T, rfl, ⟨_, SqT.of upd_same⟩, ?_⟩
    have hTt : upd (upd H2 L (.lst [])) T (.tup [.int 1, .int 2, .int 3, .int 4]) T = some (.tup (nV [1, 2, 3, 4])) := upd_same
    have hLL : upd (upd H2 L (.lst [])) T (.tup [.int 1, .int 2, .int 3, .int 4]) L = some (.lst []) := sT _ _ upd_same
    have hLT : L ≠ T := ne_of_none upd_same nT
    have s2T := Same.trans sL sT
    generalize upd (upd H2 L (.lst [])) T (.tup [.int 1, .int 2, .int 3, .int 4]) = H3 at *
    have hDT := s2T _ _ q4
    have hDL : D ≠ L := ne_of_none q4 nL
    let G : Nat → List Nat := fun v => (Vbenah.cardsWith f n fun c => Vbenah.verdict f n c w' == v)
    have gl : ∀ v, (G v).length ≤ 500 := fun v => Nat.le_trans (List.length_filter_le _ _) (by rw [List.length_range]; exact hNl)
    let F : Nat → List Nat := fun i => ([1, 2, 3, 4].take i).flatMap fun v => (G v).length :: G v
    have fl : ∀ i, i ≤ 4 → (F i).length ≤ 501 * i := fun i hi => by
      have : ∀ l : List Nat, (l.flatMap fun v => (G v).length :: G v).length ≤ 501 * l.length := fun l => by
        induction l with
        | nil => simp
        | cons x l ih =>
          have := gl x
          rw [List.flatMap_cons, List.length_append, List.length_cons, List.length_cons]
          omega
      refine Nat.le_trans (this _) (Nat.mul_le_mul_left _ ?_)
      rw [List.length_take]
      omega
    refine for_it (walk_numsT (K := K) (a := T) (l := [1, 2, 3, 4])) (fun i σ H' => ∃ x4 x7 x8, σ = [some (.ref d), some (.ref np), some (.ref rp), some (.ref p), x4, some (.ref D), some (.ref L), x7, x8] ∧ Same H2 H' ∧ H' T = some (.tup (nV [1, 2, 3, 4])) ∧ LstN H' D (kindsOf f n w') ∧ LstN H' L (F i))
      ⟨_, _, _, rfl, s2T, hTt, hDT, hLL⟩ (fun i σ H' hi ⟨_, _, _, _, _, e, _⟩ => SqT.of e) (fun i v σ H4 H5 hi ⟨x4, x7, x8, e, s4, eT, eD, eL⟩ yy => ?_) fun σ H4 ⟨x4, x7, x8, e, s4, eT, eD, eL⟩ => ?_
    · subst e
      obtain ⟨rfl, m, rfl, hm⟩ := yy
      have hi4 : i < 4 := hi
      refine ⟨_, rfl, ty_lst eL, _, rfl, D, _, rfl, SqL.of eD, fun D2 nD2 => ?_⟩
      refine lc_it (walk_numsE (l := kindsOf f n w')) (CL H5 D2 isN (List.range (kindsOf f n w').length) fun c => if (Vbenah.verdict f n c w' == m) = true then some c else none) (CL.start nD2) (fun j H6 hj r => r.same.seq (SqL.of eD)) (fun j v H6 H7 hj r yy => ?_) fun H6 r => ?_
      · obtain ⟨T2, kd, rfl, nT2, rfl, hkd⟩ := yy
        have hj2 : j < (kindsOf f n w').length := hj
        have ekd : kd = Vbenah.verdict f n j w' := by
          unfold kindsOf at hkd
          rw [List.getElem?_map, rng_get (by rw [← lk]; exact hj2)] at hkd
          exact (Option.some.inj hkd).symm
        refine ⟨T2, _, rfl, SqT.of upd_same, rfl, _, _, rfl, _, _, rfl, rfl, rfl, _, rfl, _, rfl, rfl, _, rfl, ite2 (fun hc => ?_) fun hc => ?_⟩
        · exact ⟨_, rfl, CL.put r (Same.new nT2) (rng_get hj2) (if_pos (by rw [← ekd]; exact (dN _ _).symm.trans hc)) (by rw [List.length_range]; omega) isN_mono fun _ _ => rfl⟩
        · exact CL.skip r (Same.new nT2) (rng_get hj2) (if_neg fun z => hc (by rw [← ekd] at z; exact (dN _ _).trans z))
      · have r2 : CL H5 D2 isN (List.range (kindsOf f n w').length) (fun c => if (Vbenah.verdict f n c w' == m) = true then some c else none) (List.range (kindsOf f n w').length).length H6 := by
          rw [List.length_range]
          exact r
        obtain ⟨B2, vs2, r1, r2, r3, r4, r5⟩ := r2.fin
        rw [filterMap_filter' fun c => Vbenah.verdict f n c w' == m, lk] at r5
        rw [paired_isN r5] at r4
        have r4 : LstN H6 D2 (G m) := r4
        have glm := gl m
        have flm := fl i (by omega)
        refine ⟨D2, _, rfl, r4, by omega, fun H7 q7 s7 nq7 e7 => ⟨L, q7, nV (F i), _, rfl, rfl, s7 _ _ (r2 _ _ (r1 _ _ eL)), e7, ?_, ?_⟩⟩
        · rw [nV_len, nV_len, List.length_cons]
          exact sz_le (by omega)
        · have s57 := Same.trans (Same.trans r1 r2) s7
          refine ⟨_, _, _, rfl, Same.put (Same.trans s4 s57) nLH, ?_, ?_, ?_⟩
          · rw [upd_ne (Ne.symm hLT)]
            exact s57 _ _ eT
          · rw [LstN, upd_ne hDL]
            exact s57 _ _ eD
          · rw [LstN, upd_same]
            show some (HO.lst (nV (F i) ++ nV ((G m).length :: G m))) = some (HO.lst (nV (F (i + 1))))
            have : F (i + 1) = F i ++ ((G m).length :: G m) := by
              show (([1, 2, 3, 4] : List Nat).take (i + 1)).flatMap _ = _
              rw [List.take_succ, hm, List.flatMap_append]
              simp [F]
            rw [this, nV_append]
    · subst e
      refine ⟨_, rfl, k H4 L (Same.trans s12 s4) (s12.free nLH) ?_⟩
      show H4 L = some (.lst ((judgeAns f n w').map V.int))
      have : (judgeAns f n w').map V.int = nV (F 4) := by
        show ([1, 2, 3, 4].flatMap fun v => Vbenah.listRow (G v)).map V.int = nV ([1, 2, 3, 4].flatMap fun v => (G v).length :: G v)
        rw [List.map_flatMap]
        show _ = (([1, 2, 3, 4] : List Nat).flatMap fun v => (G v).length :: G v).map _
        rw [List.map_flatMap]
        congr 1
        funext v
        exact lr_nV (G v)
      rw [this]
      exact eL
def whyAns (f : File) (k w c : Nat) : List Int := (Vbenah.verdict f k c w : Int) :: (((Vbenah.whyFalls f (Vbenah.cardAt (Vbenah.at_ f k) c) w).length : Int) :: (Vbenah.whyFalls f (Vbenah.cardAt (Vbenah.at_ f k) c) w).flatMap fun y => [(y.1 : Int), if Vbenah.bit (Vbenah.cardAt (Vbenah.at_ f k) c).notches y.1 = true then (y.2 : Int) else -1])
abbrev sp_why (K : PySem.W.Frag) : Sp := spNum K Pkwc fun f ns => a3 (whyAns f) ns
abbrev len_why (K : PySem.W.Frag) := spNum_len (K := K) (P := Pkwc) (A := fun f ns => a3 (whyAns f) ns)
/-- the act of a hole, or -1 -/
def whoI (c : Card) (h : Nat) : Int := if Vbenah.bit c.notches h = true then (((c.by_.find? fun x => x.1 == h).map fun x => x.2).getD 0 : Nat) else -1
theorem nk_who {f : File} {c : Card} (hc : CWF f c) {h : Nat} (hh : h < f.holes) : (valV (nk c.by_) (Sum.inl (h : Int))).getD (V.int (-1)) = V.int (whoI c h) := by
  rw [nk_dkv, valV_dkv, List.find?_map]
  unfold whoI
  have ks := hc.ks h
  cases e : c.by_.find? ((fun x : Nat × V => x.1 == h) ∘ fun p : Nat × Nat => (p.1, V.int (p.2 : Nat))) with
  | none =>
    have hn : ¬ h ∈ c.by_.map (·.1) := fun m => by
      obtain ⟨p, hp, e2⟩ := List.mem_map.mp m
      have := List.find?_eq_none.mp e p hp
      exact this (beq_iff_eq.mpr e2)
    rw [if_neg fun z => hn (ks.mpr ⟨hh, z⟩)]
    rfl
  | some p =>
    have hp := List.mem_of_find?_eq_some e
    have e2 : (p.1 == h) = true := by
      have := List.find?_some e
      exact this
    have hm : h ∈ c.by_.map (·.1) := List.mem_map.mpr ⟨p, hp, beq_iff_eq.mp e2⟩
    rw [if_pos (ks.mp hm).2]
    have e3 : c.by_.find? (fun x => x.1 == h) = some p := e
    rw [e3]
    rfl
theorem why_eq (f : File) (k w c : Nat) : whyAns f k w c = (Vbenah.verdict f k c w : Int) :: (((Vbenah.holesOf f.holes (Vbenah.marksOf f w)).length : Int) :: (Vbenah.holesOf f.holes (Vbenah.marksOf f w)).flatMap fun h : Nat => [(h : Int), whoI (Vbenah.cardAt (Vbenah.at_ f k) c) h]) := by
  unfold whyAns Vbenah.whyFalls
  rw [List.length_map, List.flatMap_map]
  rfl
theorem sc_why : FnScope (["desk", "numbers", "row", "acts", "word", "number", "past", "marks", "found", "hole"] : List Str) ["desk", "numbers", "row"] (defScope s_why) := C8.fnScope_by (by decide +kernel)
theorem c_why (E : Env P w K mg base) : Cal P w K mg base CX0 10 "why" (sp_why K) := by
  have sc := sc_why
  refine mkCal (st := s_why) (E.top.d.def_ 71 (d := d_why) rfl) (E.glo 71) sc (fun _ _ _ _ _ _ us hl => match us, hl with | [_, _, _], _ => rfl) (len_why K) (fun cdv A outer s H vs Q X hr h => ⟨_, PSs.nox ((pss_cons (ps_asg (pv 1) (pg_unl rfl (pgs_cons (pg_name (i := 3) sc.nd rfl (Or.inl rfl)) (pgs_cons (pg_name (i := 4) sc.nd rfl (Or.inl rfl)) (pgs_cons (pg_name (i := 5) sc.nd rfl (Or.inl rfl)) pgs_nil)))))
    (pss_cons (ps_set (i := 6) sc.nd rfl (Or.inl rfl) (pe_c (c_past_at E) hr (by decide) rfl pass0 (pa_cons (pv 0) (pa_cons (pv 3) pa_nil))))
    (pss_cons (ps_set (i := 7) sc.nd rfl (Or.inl rfl) (pe_ix (ixL (K := K)) (peF (K := K) (peF (K := K) (pv 6) rfl) rfl) (pv 4) (fun _ _ => rfl)))
    (pss_cons (ps_set (i := 8) sc.nd rfl (Or.inl rfl) (pe_lst (pa_cons (pe_c (c_kind_of E) hr (by decide) rfl pass0 (pa_cons (pv 6) (pa_cons (pv 4) (pa_cons (pv 5) pa_nil)))) (pa_cons (pe_callB (clen (K := K)) rfl (fr_len E) (by decide +kernel) (pa_cons (pv 7) pa_nil)) pa_nil))))
    (pss_cons (ps_for PassesOwn.never rfl (pi_list (pv 7)) (pg_name (i := 9) sc.nd rfl (Or.inl rfl))
    (pss_one (ps_expr (pe_bm PySem.F.plainAttrs_list PySem.F.slot_list_extend PySem.F.type_list_extend mt_extend (pv 8) (pa_cons (pe_lst (pa_cons (pv 9) (pa_cons (pe_dget2 (hu_of hr) (peF (K := K) (pe_ix (ixL (K := K)) (peF (K := K) (peF (K := K) (pv 6) rfl) rfl) (pv 5) (fun _ _ => rfl)) rfl) (pv 9) (pe_un un_neg pe_int) ⟨rfl, rfl, rfl, rfl⟩) pa_nil))) pa_nil)))))
    (pss_one (ps_ret (pv 8))))))))), ?_⟩)
  obtain ⟨d, np, rp, f, xs, ns, rfl, hD, o, hn, ⟨n, w', c, rfl, hk, hw, hc⟩, k⟩ := h
  have hW := o.wsk hk
  have ho := hW.ho
  have hx : n ≤ xs.length := by rw [o.len]; exact hk
  have k : ∀ (H' : Hp) (q : Addr), Same H H' → H q = none → H' q = some (.lst ((whyAns f n w' c).map V.int)) → Q (.ref q) H' := k
  rw [why_eq] at k
  refine ⟨_, rfl, np, _, rfl, SqL.of hn, rfl, _, _, rfl, _, _, rfl, _, _, rfl, rfl, ?_⟩
  refine ⟨_, rfl, _, rfl, d, f, xs, n, rfl, hD, o.nv, o.mm, hx, fun H1 p s1 hP => ?_⟩
  have hP0 := hP
  obtain ⟨dx, a, ev, kvs, h1, hS, h3, h4⟩ := hP
  have eS : nat_ f (xs.take n) (xs.take n).length = Vbenah.at_ f n := by rw [take_len' hx, nat_take (Nat.le_refl n), o.at_ n hk]
  rw [eS] at hS
  rw [← o.at_ n hk] at hW
  obtain ⟨dy, ma, la, ca, g1, ⟨ms, g2, g2'⟩, g3, ⟨cs, g4, g5⟩⟩ := hS
  obtain ⟨mb, hmb, hM⟩ := paired_get g2' (mks_at hw)
  have hcd : (Vbenah.at_ f n).cards[c]? = some (Vbenah.at_ f n).cards[c] := List.getElem?_eq_getElem hc
  have e0 : Vbenah.cardAt (Vbenah.at_ f n) c = (Vbenah.at_ f n).cards[c] := cardAt_get hcd
  rw [← e0] at hcd
  obtain ⟨cb, hcb, dc, pn, wi, ni, c1, c2, c3, c4⟩ := paired_get g5 hcd
  have hcw := (hW.cw _ (mem_of_get hcd)).2.2
  generalize hX : Vbenah.cardAt (Vbenah.at_ f n) c = X0 at *
  have lh := holes_len f.holes (Vbenah.marksOf f w')
  have hml : ∀ h ∈ Vbenah.holesOf f.holes (Vbenah.marksOf f w'), h < f.holes := fun h hh => (mem_holes.mp hh).1
  generalize hMs : Vbenah.holesOf f.holes (Vbenah.marksOf f w') = mk at *
  refine ⟨_, rfl, p, _, dx, _, _, rfl, h1, k_Past E, n_Past_state E, rfl, a, _, dy, _, _, rfl, g1, k_State E, n_State_marks E, rfl, _, rfl, ma, _, (w' : Nat), .ref mb, rfl, rfl, SqL.of g2, atI_nat (get_ref hmb), ?_⟩
  refine ⟨_, rfl, _, rfl, _, rfl, p, f, xs.take n, w', c, rfl, hP0, o.nv.take n, hw, by rw [eS]; exact hc, fun H2 s2 => ⟨_, rfl, mb, _, rfl, Or.inl (SqL.of (s2 _ _ hM)), (show 2 ≤ sizeLine by decide), fun L nL => ?_⟩⟩
  rw [verd_at o hk, nV_len]
  have sL := Same.new (o := .lst [.int (Vbenah.verdict f n c w' : Nat), .int (mk.length : Nat)]) nL
  have s1L := Same.trans s2 sL
  refine ⟨_, rfl, mb, rfl, ⟨_, SqL.of (s1L _ _ hM)⟩, ?_⟩
  let F : Nat → List Int := fun i => (Vbenah.verdict f n c w' : Int) :: ((mk.length : Int) :: (mk.take i).flatMap fun h : Nat => [(h : Int), whoI X0 h])
  have fl : ∀ i, (F i).length ≤ 2 + 2 * mk.length := fun i => by
    have : ∀ l : List Nat, (l.flatMap fun h : Nat => [(h : Int), whoI X0 h]).length = 2 * l.length := fun l => by
      induction l with
      | nil => rfl
      | cons x l ih =>
        simp only [List.flatMap_cons, List.length_append, List.length_cons, List.length_nil]
        omega
    show (_ :: _ :: _).length ≤ _
    rw [List.length_cons, List.length_cons, this, List.length_take]
    omega
  refine for_it (walk_nums (K := K) (a := mb) (l := mk)) (fun i σ H' => ∃ x9, σ = [some (.ref d), some (.ref np), some (.ref rp), some (.int (n : Nat)), some (.int (w' : Nat)), some (.int (c : Nat)), some (.ref p), some (.ref mb), some (.ref L), x9] ∧ Same H2 H' ∧ LstN H' mb mk ∧ H' L = some (.lst ((F i).map V.int)))
    ⟨_, rfl, sL, s1L _ _ hM, by rw [upd_same]; rfl⟩ (fun i σ H' hi ⟨_, _, _, e, _⟩ => SqL.of e) (fun i v σ H4 H5 hi ⟨x9, e, s4, eM, eL⟩ yy => ?_) fun σ H4 ⟨x9, e, s4, eM, eL⟩ => ?_
  · subst e
    obtain ⟨rfl, m, rfl, hm⟩ := yy
    have s25 := Same.trans s2 s4
    have hmh := hml m (mem_of_get hm)
    have flm := fl i
    refine ⟨_, rfl, ty_lst eL, _, rfl, _, rfl, p, _, dx, _, _, rfl, s25 _ _ h1, k_Past E, n_Past_state E, rfl, a, _, dy, _, _, rfl, s25 _ _ g1, k_State E, n_State_cards E, rfl, _, rfl, ca, _, (c : Nat), .ref cb, rfl, rfl, SqL.of (s25 _ _ g4), atI_nat (get_ref hcb), cb, _, dc, _, _, rfl, s25 _ _ c1, k_Card E, n_Card_notches E, rfl, ni, rfl, Or.inl ⟨_, Or.inl (s25 _ _ c4)⟩, _, rfl, 1, rfl, _, dgetN (s25 _ _ c4), (show 2 ≤ sizeLine by decide), fun L2 nL2 => ?_⟩
    have ew := nk_who hcw hmh
    have ew : (valV (nk X0.by_) (Sum.inl ((m : Nat) : Int))).getD (V.int (-1)) = V.int (whoI X0 m) := ew
    rw [ew]
    refine ⟨L, L2, _, _, rfl, rfl, Same.new nL2 _ _ eL, upd_same, ?_, ?_⟩
    · rw [List.length_map]
      exact sz_le (by show (F i).length + 2 ≤ 100000; omega)
    · refine ⟨_, rfl, Same.put (Same.trans s4 (Same.new nL2)) nL, ?_, ?_⟩
      · have hne : mb ≠ L := ne_of_none (s2 _ _ hM) nL
        rw [LstN, upd_ne hne]
        exact Same.new nL2 _ _ eM
      · rw [upd_same]
        show some (HO.lst ((F i).map V.int ++ [V.int (m : Nat), V.int (whoI X0 m)])) = some (HO.lst ((F (i + 1)).map V.int))
        have : F (i + 1) = F i ++ [((m : Nat) : Int), whoI X0 m] := by
          show _ :: _ :: (mk.take (i + 1)).flatMap _ = _
          rw [List.take_succ, hm, List.flatMap_append]
          simp [F]
        rw [this, List.map_append]
        rfl
  · subst e
    refine ⟨_, rfl, k H4 L (Same.trans s1 (Same.trans s2 s4)) ((Same.trans s1 s2).free nL) ?_⟩
    rw [eL]
    show some (HO.lst ((F mk.length).map V.int)) = _
    have : F mk.length = (Vbenah.verdict f n c w' : Int) :: ((mk.length : Int) :: mk.flatMap fun h : Nat => [(h : Int), whoI X0 h]) := by
      show _ :: _ :: (mk.take mk.length).flatMap _ = _
      rw [List.take_length]
    rw [this]
end
end Bw
namespace Bw
open Vbenah (File State Card)
/-! ### plain: changes -/
theorem verd_v {f : File} {xs : List NAct} (o : Ok f xs) {k c w : Nat} (hk : k ≤ f.acts.length) : verd f (nat_ f xs) k c w = Vbenah.verdict f k c w := by
  rw [verd_congr (st' := Vbenah.at_ f) fun i hi => by rw [o.at_ i (by omega)]]
  rfl
theorem chg_eq {f : File} {xs : List NAct} (o : Ok f xs) {k : Nat} (hk : k < f.acts.length) : chg f (nat_ f xs) k = (Vbenah.changes f k).map fun x => [x.1, x.2.1, x.2.2.1, x.2.2.2] := by
  unfold chg Vbenah.changes wcs
  rw [List.filterMap_flatMap, List.map_flatMap, ← o.at_ (k + 1) (by omega), ← o.at_ k (by omega)]
  congr 1
  funext w
  rw [List.filterMap_map, List.map_filterMap]
  congr 1
  funext c
  show (if (if c < (Vbenah.at_ f k).cards.length then verd f (nat_ f xs) k c w else 0) = verd f (nat_ f xs) (k + 1) c w then none else some [w, c, (if c < (Vbenah.at_ f k).cards.length then verd f (nat_ f xs) k c w else 0), verd f (nat_ f xs) (k + 1) c w]) =
    Option.map _ (if (if c < (Vbenah.at_ f k).cards.length then Vbenah.verdict f k c w else 0) = Vbenah.verdict f (k + 1) c w then none else some (w, c, (if c < (Vbenah.at_ f k).cards.length then Vbenah.verdict f k c w else 0), Vbenah.verdict f (k + 1) c w))
  rw [verd_v o (by omega), verd_v o (by omega)]
  generalize (if c < (Vbenah.at_ f k).cards.length then Vbenah.verdict f k c w else 0) = a
  by_cases h : a = Vbenah.verdict f (k + 1) c w
  · rw [if_pos h, if_pos h]
    rfl
  · rw [if_neg h, if_neg h]
    rfl
/-! ### plain: exchanged acts -/
def StA (f : File) : Vbenah.Act → Prop
  | .under a b => a < f.words.length ∧ b < f.words.length
  | .apart _ _ => True
  | .card _ ws => 1 ≤ ws.length ∧ (∀ w ∈ ws, w < f.words.length) ∧ ws.Nodup
  | .add _ w => w < f.words.length
  | .grow _ => True
  | .notch _ h => h < f.holes
structure Sw (f : File) (B : List Vbenah.Act) (ns : List (List Nat)) : Prop where
  st : ∀ x ∈ B, StA f x
  nq : B.filterMap cardN = ns
  nd : ns.Nodup
  l2 : ns.length ≤ 20
  ix : ∀ x ∈ B, ∀ c, cI x = some c → c < ns.length
  l8 : B.length ≤ 80
def wit (f : File) (B : List Vbenah.Act) : File := { f with acts := B }
theorem st_of {f : File} {s : State} {x : Vbenah.Act} (m : MayA f.words.length f.holes s x) : StA f x := by
  cases x with
  | under a b => exact ⟨m.1, m.2.1⟩
  | apart a b => trivial
  | card n ws => exact m.2.2
  | add c w => exact m.2.1
  | grow c => trivial
  | notch c h => exact m.2
theorem st_wf {f : File} {x : Vbenah.Act} {ns : List (List Nat)} (h12 : f.words.length ≤ 12) (m : StA f x) : nwf f (nameA ns x) := by
  cases x with
  | under a b => exact m
  | apart a b => trivial
  | card n ws => exact ⟨Nat.le_trans (nodup_len m.2.2 m.2.1) h12, m.2.1⟩
  | add c w => exact m
  | grow c => trivial
  | notch c h => exact m
theorem done_ac {f : File} {s : State} {t : Nat} {x : Vbenah.Act} (ih : Ac s.pairs) (pp : InN s.pairs f.words.length) (m : MayA f.words.length f.holes s x) : Ac (Vbenah.done f t s x).pairs := by
  cases x with
  | under a b =>
    obtain ⟨m1, m2, m3, m4, m5⟩ := m
    refine ih.put m3 fun z => ?_
    rw [under_eq pp ih m2] at m5
    have := List.contains_iff_mem.mpr ((mem_abv pp).mpr z)
    rw [m5] at this
    cases this
  | apart a b => exact ih.sub fun x hx => (List.mem_filter.mp hx).1
  | card n ws => exact ih
  | add c w => exact ih
  | grow c => exact ih
  | notch c h => exact ih
/-- an act that may be by its names may be by its numbers -/
theorem may_back {f : File} {s : State} {x : Vbenah.Act} {ns : List (List Nat)} (pp : InN s.pairs f.words.length) (ac : Ac s.pairs) (hp : ∃ r, ns = cn s ++ r) (nd : ns.Nodup) (st : StA f x) (h20 : ∀ n, cardN x = some n → s.cards.length < 20)
    (ix : ∀ c, cI x = some c → c < ns.length) (m : nmay f.words.length s (nameA ns x) = true) : MayA f.words.length f.holes s x := by
  obtain ⟨r, hr⟩ := hp
  have hu : (cn s).Nodup := by
    rw [hr] at nd
    exact (List.nodup_append.mp nd).1
  have key : ∀ c, c < ns.length → (cardOf s.cards (ns.getD c [])).isSome = true → c < s.cards.length ∧ cardOf s.cards (ns.getD c []) = some (Vbenah.cardAt s c) := fun c hc h => by
    have hg : ns[c]? = some ns[c] := List.getElem?_eq_getElem hc
    rw [getD_of hg] at h ⊢
    generalize ns[c] = n at *
    have hin : n ∈ cn s := by
      refine Classical.byContradiction fun hn => ?_
      have : (cn s).contains n = false := Bool.eq_false_iff.mpr fun z => hn (List.contains_iff_mem.mp z)
      rw [cardOf_no.mpr this] at h
      cases h
    obtain ⟨j, hj⟩ := List.mem_iff_getElem?.mp hin
    have hjl := lt_of_get hj
    have hj2 : ns[j]? = some n := by
      rw [hr, List.getElem?_append_left hjl]
      exact hj
    have e := nodup_at nd hg hj2
    subst e
    rw [cn_len] at hjl
    exact ⟨hjl, cardOf_get hu hj⟩
  cases x with
  | under a b =>
    have m : (a != b && (!s.pairs.contains (a, b) && !(abv s.pairs f.words.length b).contains a)) = true := m
    rw [Bool.and_eq_true, Bool.and_eq_true, bne_iff_ne, not_t, not_t, ← under_eq pp ac st.2] at m
    exact ⟨st.1, st.2, m.1, m.2.1, m.2.2⟩
  | apart a b => exact m
  | card n ws =>
    have m : (cardOf s.cards n).isNone = true := m
    exact ⟨h20 n rfl, cardOf_no.mp (Option.isNone_iff_eq_none.mp m), st⟩
  | add c w =>
    have m : (match cardOf s.cards (ns.getD c []) with | some c => !c.words.contains w | none => false) = true := m
    cases e : cardOf s.cards (ns.getD c []) with
    | none => rw [e] at m; cases m
    | some cd =>
      obtain ⟨h1, h2⟩ := key c (ix c rfl) (by rw [e]; rfl)
      rw [h2] at m
      exact ⟨h1, st, not_t.mp m⟩
  | grow c => exact (key c (ix c rfl) m).1
  | notch c h => exact ⟨(key c (ix c rfl) m).1, st⟩
theorem at_wit_names (f : File) (B : List Vbenah.Act) (i : Nat) : cn (Vbenah.at_ (wit f B) i) = (B.take i).filterMap cardN := at_names (wit f B) i
theorem sw_main {f : File} {B : List Vbenah.Act} {ns : List (List Nat)} (h12 : f.words.length ≤ 12) (h16 : f.holes ≤ 16) (S : Sw f B ns) (hm : nmays f (B.map (nameA ns))) : ∀ i, i ≤ B.length →
    Vbenah.at_ (wit f B) i = nat_ f (B.map (nameA ns)) i ∧ Ac (Vbenah.at_ (wit f B) i).pairs ∧ ∀ j x, j < i → B[j]? = some x → MayA f.words.length f.holes (Vbenah.at_ (wit f B) j) x
  | 0, _ => ⟨rfl, fun w ⟨_, _, h, _⟩ => (nomatch h), fun j x hj => absurd hj (Nat.not_lt_zero _)⟩
  | i + 1, hi => by
    obtain ⟨ih1, ih2, ih3⟩ := sw_main h12 h16 S hm i (by omega)
    have hx : B[i]? = some B[i] := List.getElem?_eq_getElem (by omega)
    generalize B[i] = x at hx
    have hxm := mem_of_get hx
    have hy : (B.map (nameA ns))[i]? = some (nameA ns x) := by rw [List.getElem?_map, hx]; rfl
    have hmay := hm i _ hy
    rw [← ih1] at hmay
    have nv : NV f (B.map (nameA ns)) := ⟨h12, h16, by rw [List.length_map]; have := S.l8; omega, fun y hy => by
      obtain ⟨z, hz, rfl⟩ := List.mem_map.mp hy
      exact st_wf h12 (S.st z hz)⟩
    have pp : InN (Vbenah.at_ (wit f B) i).pairs f.words.length := by
      rw [ih1]
      exact (ws_nat nv i (by rw [List.length_map]; omega)).pp
    have hsplit : ns = cn (Vbenah.at_ (wit f B) i) ++ (B.drop i).filterMap cardN := by
      rw [at_wit_names, ← List.filterMap_append, List.take_append_drop, S.nq]
    have hd : B.drop i = x :: B.drop (i + 1) := by
      have hl := lt_of_get hx
      rw [List.drop_eq_getElem_cons hl]
      rw [List.getElem?_eq_getElem hl] at hx
      rw [Option.some.inj hx]
    have m := may_back pp ih2 ⟨_, hsplit⟩ S.nd (S.st x hxm) (fun n hn => by
      have := S.l2
      have e := congrArg List.length hsplit
      rw [List.length_append, cn_len, hd, List.filterMap_cons, hn, List.length_cons] at e
      omega) (S.ix x hxm) hmay
    have hu : (cn (Vbenah.at_ (wit f B) i)).Nodup := by
      have := S.nd
      rw [hsplit] at this
      exact (List.nodup_append.mp this).1
    have e : Vbenah.at_ (wit f B) (i + 1) = Vbenah.done f i (Vbenah.at_ (wit f B) i) x := by
      rw [at_succ (f := wit f B) hx, done_congr (f := wit f B) (g := f) rfl rfl]
    refine ⟨?_, ?_, fun j z hj hz => ?_⟩
    · rw [e, nat_succ hy, ← ih1]
      refine done_nd hu fun c hc => ?_
      have h1 := S.ix x hxm c hc
      have h2 := may_idx m hc
      rw [← cn_len] at h2
      refine ⟨_, List.getElem?_eq_getElem h1, ?_⟩
      rw [← List.getElem?_eq_getElem h1, hsplit, List.getElem?_append_left h2]
    · rw [e]
      exact done_ac ih2 pp m
    · rcases Nat.lt_or_ge j i with g | g
      · exact ih3 j z g hz
      · have : j = i := by omega
        subst this
        rw [hx] at hz
        cases hz
        exact m
theorem ok_wit {f : File} {xs : List NAct} {B : List Vbenah.Act} {ns : List (List Nat)} (o : Ok f xs) (S : Sw f B ns) (hns : ∀ n ∈ ns, VbenCore.isName n = true) (h : ∀ i x, B[i]? = some x → MayA f.words.length f.holes (Vbenah.at_ (wit f B) i) x) : Ok (wit f B) (B.map (nameA ns)) :=
  ⟨o.hn, o.h1, o.ho, S.l8, o.nm, o.nu, o.mh, by rw [← S.nq]; rfl, h, fun n hn => hns n (by rw [← S.nq]; exact hn)⟩
/-- putting acts one behind another -/
theorem put_all : ∀ (l : List Vbenah.Act) (f : File), (∀ g, Vbenah.putAll f l = some g → g = wit f (f.acts ++ l)) ∧ ((Vbenah.putAll f l).isSome = true ↔ ∀ i x, l[i]? = some x → Vbenah.mayBe (wit f (f.acts ++ l.take i)) x = true)
  | [], f => ⟨fun g h => by
      rw [List.append_nil]
      exact (Option.some.inj h).symm, by simp [Vbenah.putAll]⟩
  | x :: l, f => by
    obtain ⟨i1, i2⟩ := put_all l (Vbenah.put f x)
    have e : Vbenah.putAll f (x :: l) = if Vbenah.mayBe f x = true then Vbenah.putAll (Vbenah.put f x) l else none := rfl
    have ef : wit f (f.acts ++ List.take 0 (x :: l)) = f := by
      rw [List.take_zero, List.append_nil]
      rfl
    have es : ∀ i, wit (Vbenah.put f x) ((Vbenah.put f x).acts ++ l.take i) = wit f (f.acts ++ (x :: l).take (i + 1)) := fun i => by
      show wit f ((f.acts ++ [x]) ++ l.take i) = _
      rw [List.append_assoc]
      rfl
    rw [e]
    by_cases hx : Vbenah.mayBe f x = true
    · rw [if_pos hx]
      refine ⟨fun g h => ?_, i2.trans ⟨fun h i y hy => ?_, fun h i y hy => ?_⟩⟩
      · rw [i1 g h]
        show wit f ((f.acts ++ [x]) ++ l) = _
        rw [List.append_assoc]
        rfl
      · cases i with
        | zero =>
          cases hy
          rw [ef]
          exact hx
        | succ i =>
          rw [← es]
          exact h i y (by simpa using hy)
      · rw [es]
        exact h (i + 1) y (by simpa using hy)
    · rw [if_neg hx]
      refine ⟨fun g h => (by cases h), ⟨fun h => (by cases h), fun h => ?_⟩⟩
      have := h 0 x rfl
      rw [ef] at this
      exact absurd this hx
/-! #### sorted pairs -/
def ltP (a b : Nat × Nat) : Bool := decide (a.1 < b.1 ∨ (a.1 = b.1 ∧ a.2 < b.2))
def leP (a b : Nat × Nat) : Prop := a.1 < b.1 ∨ (a.1 = b.1 ∧ a.2 ≤ b.2)
theorem ins_perm (x : Nat × Nat) : ∀ l, (VbenCore.insertBy ltP x l).Perm (x :: l)
  | [] => List.Perm.refl _
  | y :: l => by
    show (if ltP x y = true then x :: y :: l else y :: VbenCore.insertBy ltP x l).Perm _
    split
    · exact List.Perm.refl _
    · exact ((ins_perm x l).cons y).trans (List.Perm.swap x y l)
theorem ins_sorted (x : Nat × Nat) : ∀ l, l.Pairwise leP → (VbenCore.insertBy ltP x l).Pairwise leP
  | [], _ => List.pairwise_singleton _ _
  | y :: l, h => by
    obtain ⟨h1, h2⟩ := List.pairwise_cons.mp h
    show (if ltP x y = true then x :: y :: l else y :: VbenCore.insertBy ltP x l).Pairwise _
    by_cases g : ltP x y = true
    · rw [if_pos g]
      have g2 := of_decide_eq_true g
      refine List.pairwise_cons.mpr ⟨fun z hz => ?_, h⟩
      rcases List.mem_cons.mp hz with e | m
      · rw [e]
        unfold leP
        omega
      · have := h1 z m
        unfold leP at *
        omega
    · rw [if_neg g]
      have g2 : ¬ _ := fun z => g (decide_eq_true z)
      refine List.pairwise_cons.mpr ⟨fun z hz => ?_, ins_sorted x l h2⟩
      rcases List.mem_cons.mp ((ins_perm x l).mem_iff.mp hz) with e | m
      · rw [e]
        unfold leP
        omega
      · exact h1 z m
theorem sort_ok : ∀ (l a : List (Nat × Nat)), a.Pairwise leP → (l.foldl (fun a x => VbenCore.insertBy ltP x a) a).Pairwise leP ∧ (l.foldl (fun a x => VbenCore.insertBy ltP x a) a).Perm (l ++ a)
  | [], a, h => ⟨h, List.Perm.refl _⟩
  | x :: l, a, h => by
    obtain ⟨h1, h2⟩ := sort_ok l _ (ins_sorted x a h)
    refine ⟨h1, h2.trans ?_⟩
    exact ((ins_perm x a).append_left l).trans List.perm_middle
theorem sort_iff (l m : List (Nat × Nat)) : VbenCore.sortBy ltP l = VbenCore.sortBy ltP m ↔ l.Perm m := by
  obtain ⟨a1, a2⟩ := sort_ok l [] .nil
  obtain ⟨b1, b2⟩ := sort_ok m [] .nil
  rw [List.append_nil] at a2 b2
  constructor
  · intro h
    have h : l.foldl (fun a x => VbenCore.insertBy ltP x a) [] = m.foldl (fun a x => VbenCore.insertBy ltP x a) [] := h
    rw [h] at a2
    exact a2.symm.trans b2
  · intro h
    refine List.Perm.eq_of_pairwise (le := leP) (fun x y _ _ h1 h2 => ?_) a1 b1 (a2.trans (h.trans b2.symm))
    obtain ⟨a, b⟩ := x
    obtain ⟨c, d⟩ := y
    unfold leP at h1 h2
    simp only at h1 h2
    have : a = c := by omega
    have : b = d := by omega
    subst_vars
    rfl
theorem holes_inj {k a b : Nat} (ha : a < 2 ^ k) (hb : b < 2 ^ k) (h : Vbenah.holesOf k a = Vbenah.holesOf k b) : a = b := by
  refine Nat.eq_of_testBit_eq fun i => ?_
  rcases Nat.lt_or_ge i k with g | g
  · have e : i ∈ Vbenah.holesOf k a ↔ i ∈ Vbenah.holesOf k b := by rw [h]
    rw [mem_holes, mem_holes, bit_tb, bit_tb] at e
    rw [Bool.eq_iff_iff]
    exact ⟨fun z => (e.mp ⟨g, z⟩).2, fun z => (e.mpr ⟨g, z⟩).2⟩
  · have p : 2 ^ k ≤ 2 ^ i := Nat.pow_le_pow_right (by decide) g
    rw [Nat.testBit_lt_two_pow (by omega), Nat.testBit_lt_two_pow (by omega)]
theorem map_iff {α β γ : Type} {F : α → β} {G : α → γ} : ∀ (l m : List α), (∀ x ∈ l, ∀ y ∈ m, F x = F y ↔ G x = G y) → (l.map F = m.map F ↔ l.map G = m.map G)
  | [], [], _ => by simp
  | [], y :: m, _ => by simp
  | x :: l, [], _ => by simp
  | x :: l, y :: m, h => by
    have ih := map_iff l m fun a ha b hb => h a (List.mem_cons_of_mem _ ha) b (List.mem_cons_of_mem _ hb)
    have h0 := h x List.mem_cons_self y List.mem_cons_self
    rw [List.map_cons, List.map_cons, List.map_cons, List.map_cons, List.cons.injEq, List.cons.injEq, ih, h0]
theorem plain_iff {f : File} {s t : State} {a b : Nat} (hs : WS f s a) (ht : WS f t b) : Vbenah.plain t = Vbenah.plain s ↔ likeS f s t := by
  unfold Vbenah.plain likeS
  rw [Prod.mk.injEq]
  refine and_congr ((sort_iff t.pairs s.pairs).trans ⟨fun h => h.symm, fun h => h.symm⟩) ?_
  refine Iff.trans ?_ ⟨Eq.symm, Eq.symm⟩
  refine map_iff (F := fun c : Card => (c.name, c.words, c.notches)) (G := tld f) t.cards s.cards fun x hx y hy => ?_
  have l1 := (ht.cw x hx).2.2.lt
  have l2 := (hs.cw y hy).2.2.lt
  unfold tld
  rw [Prod.mk.injEq, Prod.mk.injEq, Prod.mk.injEq, Prod.mk.injEq]
  refine and_congr Iff.rfl (and_congr Iff.rfl ⟨fun h => by rw [h], fun h => holes_inj l1 l2 h⟩)
theorem like_names {f : File} {s t : State} (h : likeS f s t) : cn s = cn t := by
  have := congrArg (List.map fun x : List Nat × List Nat × List Nat => x.1) h.2
  rw [List.map_map, List.map_map] at this
  exact this
theorem nset_names {s : State} {n : List Nat} {g : Card → Card} (hg : ∀ x, (g x).name = x.name) : cn (nset s n g) = cn s := by
  unfold nset
  split
  · rename_i i hi
    split
    · rename_i c hc
      unfold cn
      show (s.cards.set i (g c)).map (·.name) = _
      rw [List.map_set, hg]
      refine set_id ?_
      rw [List.getElem?_map, hc]
      rfl
    · rfl
  · rfl
def ncN : NAct → Option (List Nat)
  | .card n _ => some n
  | _ => none
theorem ndone_names (f : File) (t : Nat) (s : State) (x : NAct) : cn (ndone f t s x) = cn s ++ (ncN x).toList := by
  cases x with
  | under a b => exact (List.append_nil _).symm
  | apart a b => exact (List.append_nil _).symm
  | card n ws =>
    show (s.cards ++ [ws.foldl (pw f s.pairs t) { name := n, words := [], notches := 0, by_ := [] }]).map (·.name) = s.cards.map (·.name) ++ [n]
    rw [List.map_append, List.map_singleton, (pw_words f s.pairs t ws _).2.1]
  | add n w => exact (nset_names (g := fun c => pw f s.pairs t c w) fun _ => rfl).trans (List.append_nil _).symm
  | grow n => exact (nset_names fun x => fold_cut_name f t s.pairs x.words x).trans (List.append_nil _).symm
  | notch n h => exact (nset_names (g := fun c => Vbenah.cut f t c (2 ^ h)) fun _ => rfl).trans (List.append_nil _).symm
theorem nat_names (f : File) (ys : List NAct) : ∀ i, i ≤ ys.length → cn (nat_ f ys i) = (ys.take i).filterMap ncN
  | 0, _ => rfl
  | i + 1, h => by
    have hx : ys[i]? = some ys[i] := List.getElem?_eq_getElem (by omega)
    rw [nat_succ hx, ndone_names, nat_names f ys i (by omega), List.take_succ, hx, List.filterMap_append]
    congr 1
theorem name_nc (ns : List (List Nat)) (l : List Vbenah.Act) : (l.map (nameA ns)).filterMap ncN = l.filterMap cardN := by
  rw [List.filterMap_map]
  congr 1
  funext x
  cases x <;> rfl
theorem aswap_map {α β : Type} (g : α → β) (l : List α) (k : Nat) : (aswap l k).map g = aswap (l.map g) k := by
  unfold aswap
  simp only [List.map_append, List.map_take, List.map_drop]
theorem aswap_at {α : Type} {l : List α} {k : Nat} {x y : α} (hx : l[k]? = some x) (hy : l[k + 1]? = some y) : l = l.take k ++ (x :: y :: l.drop (k + 2)) ∧ aswap l k = l.take k ++ (y :: x :: l.drop (k + 2)) := by
  have h1 := lt_of_get hx
  have h2 := lt_of_get hy
  refine ⟨?_, ?_⟩
  · conv => lhs; rw [← List.take_append_drop k l]
    rw [List.drop_eq_getElem_cons h1, List.drop_eq_getElem_cons h2]
    rw [List.getElem?_eq_getElem h1] at hx
    rw [List.getElem?_eq_getElem h2] at hy
    rw [Option.some.inj hx, Option.some.inj hy]
  · unfold aswap
    rw [drop_take1 hx, drop_take1 hy]
    rfl
theorem swap_eq {f : File} {xs : List NAct} (o : Ok f xs) {k : Nat} (hk : k + 1 < f.acts.length) : Vbenah.maySwap f k = true ↔ nmays f (nswap xs k) ∧ likeS f (nat_ f xs xs.length) (nat_ f (nswap xs k) xs.length) := by
  have hx : f.acts[k]? = some f.acts[k] := List.getElem?_eq_getElem (by omega)
  have hy : f.acts[k + 1]? = some f.acts[k + 1] := List.getElem?_eq_getElem hk
  generalize f.acts[k] = x at hx
  generalize f.acts[k + 1] = y at hy
  obtain ⟨eA, eB⟩ := aswap_at hx hy
  have lB : (aswap f.acts k).length = f.acts.length := aswap_len hk
  have eS : Vbenah.swapped f k = aswap f.acts k := rfl
  have eN : nswap xs k = (aswap f.acts k).map (nameA (f.acts.filterMap cardN)) := by rw [nswap_eq, o.xe, aswap_map]
  have lx := o.len
  have hmem : ∀ z ∈ aswap f.acts k, z ∈ f.acts := fun z hz => aswap_mem hz
  have nsN : (f.acts.filterMap cardN).Nodup := by
    have := at_nodup o f.acts.length (Nat.le_refl _)
    rw [at_names, List.take_length] at this
    exact this
  have ns20 : (f.acts.filterMap cardN).length ≤ 20 := by
    have := cards_le o f.acts.length (Nat.le_refl _)
    rw [← cn_len, at_names, List.take_length] at this
    exact this
  have idx : ∀ z ∈ f.acts, ∀ c, cI z = some c → c < (f.acts.filterMap cardN).length := fun z hz c e => by
    obtain ⟨i, hi⟩ := List.mem_iff_getElem?.mp hz
    obtain ⟨n, h1, _⟩ := o.idx hi c e
    exact lt_of_get h1
  have stA : ∀ z ∈ f.acts, StA f z := fun z hz => by
    obtain ⟨i, hi⟩ := List.mem_iff_getElem?.mp hz
    exact st_of (o.ok i z hi)
  -- what the specification asks
  have hM : Vbenah.maySwap f k = true ↔ (∀ i z, (aswap f.acts k)[i]? = some z → MayA f.words.length f.holes (Vbenah.at_ (wit f (aswap f.acts k)) i) z) ∧ Vbenah.plain (Vbenah.now (wit f (aswap f.acts k))) = Vbenah.plain (Vbenah.now f) := by
    obtain ⟨p1, p2⟩ := put_all (aswap f.acts k) { f with acts := [] }
    have hmb : ∀ i z, (aswap f.acts k)[i]? = some z → (Vbenah.mayBe (wit { f with acts := [] } ([] ++ (aswap f.acts k).take i)) z = true ↔ MayA f.words.length f.holes (Vbenah.at_ (wit f (aswap f.acts k)) i) z) := fun i z hz => by
      have hil := lt_of_get hz
      rw [List.nil_append, may_iff]
      have e1 : Vbenah.now (wit { f with acts := [] } ((aswap f.acts k).take i)) = Vbenah.at_ (wit f (aswap f.acts k)) i := now_pre (wit f (aswap f.acts k)) (show i ≤ (aswap f.acts k).length by omega)
      rw [e1]
      have hl : (wit { f with acts := [] } ((aswap f.acts k).take i)).acts.length < 80 := by
        show ((aswap f.acts k).take i).length < 80
        have := o.la
        rw [List.length_take]
        omega
      exact ⟨fun h => h.2, fun h => ⟨hl, h⟩⟩
    have p2 : (Vbenah.putAll { f with acts := [] } (aswap f.acts k)).isSome = true ↔ ∀ i z, (aswap f.acts k)[i]? = some z → MayA f.words.length f.holes (Vbenah.at_ (wit f (aswap f.acts k)) i) z :=
      p2.trans ⟨fun h i z hz => (hmb i z hz).mp (h i z hz), fun h i z hz => (hmb i z hz).mpr (h i z hz)⟩
    unfold Vbenah.maySwap
    rw [eS]
    cases e : Vbenah.putAll { f with acts := [] } (aswap f.acts k) with
    | none =>
      rw [e] at p2
      constructor
      · intro h
        cases h
      · intro h
        have := p2.mpr h.1
        cases this
    | some g =>
      rw [e] at p2
      have hg := p1 g e
      have hg : g = wit f (aswap f.acts k) := hg
      subst hg
      show (Vbenah.plain _ == Vbenah.plain _) = true ↔ _
      rw [beq_iff_eq]
      exact ⟨fun h => ⟨p2.mp rfl, h⟩, fun h => h.2⟩
  rw [hM]
  by_cases hc : cardN x = none ∨ cardN y = none
  · -- the cards' names stand in the same order
    have eNs : (aswap f.acts k).filterMap cardN = f.acts.filterMap cardN := by
      rw [eB]
      conv => rhs; rw [eA]
      rw [List.filterMap_append, List.filterMap_append]
      congr 1
      rcases hc with h | h
      · cases h2 : cardN y <;> simp [List.filterMap_cons, h, h2]
      · cases h2 : cardN x <;> simp [List.filterMap_cons, h, h2]
    have S : Sw f (aswap f.acts k) (f.acts.filterMap cardN) := ⟨fun z hz => stA z (hmem z hz), eNs, nsN, ns20, fun z hz => idx z (hmem z hz), by rw [lB]; exact o.la⟩
    have fin : (∀ i z, (aswap f.acts k)[i]? = some z → MayA f.words.length f.holes (Vbenah.at_ (wit f (aswap f.acts k)) i) z) → nmays f (nswap xs k) ∧ (Vbenah.plain (Vbenah.now (wit f (aswap f.acts k))) = Vbenah.plain (Vbenah.now f) ↔ likeS f (nat_ f xs xs.length) (nat_ f (nswap xs k) xs.length)) := fun h => by
      have oW := ok_wit o S o.cn_ h
      have hmm := oW.mm
      have hnow := oW.now
      rw [nat_congr (f := wit f (aswap f.acts k)) (g := f) rfl rfl] at hnow
      rw [← eN] at hnow hmm
      have hl : (nswap xs k).length = xs.length := by rw [eN, List.length_map, lB, lx]
      rw [hl] at hnow
      refine ⟨fun i z hz => ?_, ?_⟩
      · have := hmm i z hz
        rw [nat_congr (f := wit f (aswap f.acts k)) (g := f) rfl rfl] at this
        exact this
      · rw [hnow, o.now]
        have w1 : WS f (nat_ f xs xs.length) xs.length := ws_nat o.nv _ (Nat.le_refl _)
        have w2 := ws_nat oW.nv (nswap xs k).length (by rw [eN]; exact Nat.le_refl _)
        rw [nat_congr (f := wit f (aswap f.acts k)) (g := f) rfl rfl, ← eN, hl] at w2
        exact plain_iff w1 ⟨w2.hn, w2.ho, w2.pl, w2.cl, w2.pp, fun c hc => ⟨(w2.cw c hc).1, (w2.cw c hc).2.1, ⟨(w2.cw c hc).2.2.nd, (w2.cw c hc).2.2.ks, (w2.cw c hc).2.2.lt⟩⟩, w2.hb⟩
    constructor
    · rintro ⟨h1, h2⟩
      obtain ⟨q1, q2⟩ := fin h1
      exact ⟨q1, q2.mp h2⟩
    · rintro ⟨h1, h2⟩
      rw [eN] at h1
      have hall : ∀ i z, (aswap f.acts k)[i]? = some z → MayA f.words.length f.holes (Vbenah.at_ (wit f (aswap f.acts k)) i) z := fun i z hz => (sw_main o.hn o.ho S h1 _ (Nat.le_refl _)).2.2 i z (lt_of_get hz) hz
      exact ⟨hall, (fin hall).2.mpr h2⟩
  · -- two new cards: their order differs
    obtain ⟨m1, hm1⟩ := Option.ne_none_iff_exists'.mp fun z => hc (Or.inl z)
    obtain ⟨m2, hm2⟩ := Option.ne_none_iff_exists'.mp fun z => hc (Or.inr z)
    have e1 : f.acts.filterMap cardN = (f.acts.take k).filterMap cardN ++ (m1 :: m2 :: (f.acts.drop (k + 2)).filterMap cardN) := by
      conv => lhs; rw [eA]
      rw [List.filterMap_append]
      simp [List.filterMap_cons, hm1, hm2]
    have e2 : (aswap f.acts k).filterMap cardN = (f.acts.take k).filterMap cardN ++ (m2 :: m1 :: (f.acts.drop (k + 2)).filterMap cardN) := by
      rw [eB, List.filterMap_append]
      simp [List.filterMap_cons, hm1, hm2]
    have hne : m1 ≠ m2 := fun h => by
      rw [e1] at nsN
      have := (List.nodup_append.mp nsN).2.1
      have := (List.nodup_cons.mp this).1
      exact this (by rw [h]; exact List.mem_cons_self)
    have hdiff : (aswap f.acts k).filterMap cardN ≠ f.acts.filterMap cardN := fun h => by
      rw [e1, e2] at h
      have := List.append_cancel_left h
      injection this with h1 _
      exact hne h1.symm
    constructor
    · rintro ⟨_, h2⟩
      have h3 := congrArg (fun p : List (Nat × Nat) × List (List Nat × List Nat × Nat) => p.2.map fun x => x.1) h2
      have h4 : cn (Vbenah.now (wit f (aswap f.acts k))) = cn (Vbenah.now f) := by
        unfold Vbenah.plain at h3
        simp only [List.map_map] at h3
        exact h3
      rw [show Vbenah.now (wit f (aswap f.acts k)) = Vbenah.at_ (wit f (aswap f.acts k)) (aswap f.acts k).length from rfl, show Vbenah.now f = Vbenah.at_ f f.acts.length from rfl, at_wit_names, at_names, List.take_length, List.take_length] at h4
      exact absurd h4 hdiff
    · rintro ⟨_, h2⟩
      have h3 := like_names h2
      have hl : (nswap xs k).length = xs.length := by rw [eN, List.length_map, lB, lx]
      rw [nat_names f xs _ (Nat.le_refl _), nat_names f (nswap xs k) _ (by rw [hl]; exact Nat.le_refl _), List.take_length, ← hl, List.take_length, eN, o.xe, name_nc, name_nc] at h3
      exact absurd h3.symm hdiff
end Bw
namespace Bw
open PySem PySem.Spec PyProof.Rows L2
open Vbenah (File State Card Act)
section
variable {P : Program} {w : World} {K : PySem.W.Frag} {mg : Str → Option Value} {base : Heap}
def chgAns (f : File) (k : Nat) : List Int := ((Vbenah.changes f k).length : Int) :: (Vbenah.changes f k).flatMap fun x => VbenCore.ints [x.1, x.2.1, x.2.2.1, x.2.2.2]
abbrev sp_changes_call (K : PySem.W.Frag) : Sp := spNum K Pa fun f ns => a1 (chgAns f) ns
abbrev len_changes_call (K : PySem.W.Frag) := spNum_len (K := K) (P := Pa) (A := fun f ns => a1 (chgAns f) ns)
theorem chg_nV {f : File} {xs : List NAct} (o : Ok f xs) {k : Nat} (hk : k < f.acts.length) : (chgAns f k).map V.int = nV ((chg f (nat_ f xs) k).length :: (chg f (nat_ f xs) k).flatten) := by
  rw [chg_eq o hk, List.length_map]
  unfold chgAns
  rw [List.map_cons, List.map_flatMap]
  show V.int _ :: _ = V.int _ :: _
  congr 1
  generalize Vbenah.changes f k = l
  induction l with
  | nil => rfl
  | cons x l ih =>
    rw [List.flatMap_cons, ih, ints_nV, List.map_cons, List.flatten_cons]
    exact List.map_append.symm
theorem chg_four (f : File) (st : Nat → State) (k : Nat) : ∀ x ∈ chg f st k, x.length = 4 := fun x hx => by
  unfold chg at hx
  obtain ⟨y, _, hy⟩ := List.mem_filterMap.mp hx
  simp only at hy
  split at hy <;> split at hy <;> first | cases hy; done | (cases hy; rfl)
theorem four_len : ∀ (l : List (List Nat)), (∀ x ∈ l, x.length = 4) → l.flatten.length = 4 * l.length
  | [], _ => rfl
  | x :: l, h => by
    have := four_len l fun y hy => h y (List.mem_cons_of_mem _ hy)
    have := h x List.mem_cons_self
    rw [List.flatten_cons, List.length_append, List.length_cons]
    omega
theorem sc_changes_call : FnScope (["desk", "numbers", "row", "some", "found", "one"] : List Str) ["desk", "numbers", "row"] (defScope s_changes_call) := C8.fnScope_by (by decide +kernel)
theorem c_changes_call (E : Env P w K mg base) : Cal P w K mg base CX0 10 "changes_call" (sp_changes_call K) := by
  have sc := sc_changes_call
  refine mkCal (st := s_changes_call) (E.top.d.def_ 73 (d := d_changes_call) rfl) (E.glo 73) sc (fun _ _ _ _ _ _ us hl => match us, hl with | [_, _, _], _ => rfl) (len_changes_call K) (fun cdv A outer s H vs Q X hr h => ⟨_, PSs.nox ((pss_cons (ps_set (i := 3) sc.nd rfl (Or.inl rfl) (pe_c (c_changes E) hr (by decide) rfl pass0 (pa_cons (peF (K := K) (peF (K := K) (pv 0) rfl) rfl) (pa_cons (peF (K := K) (peF (K := K) (pv 0) rfl) rfl) (pa_cons (pe_ix (ixL (K := K)) (pv 1) pe_int (fun _ _ => rfl)) pa_nil)))))
    (pss_cons (ps_set (i := 4) sc.nd rfl (Or.inl rfl) (pe_lst (pa_cons (pe_callB (clen (K := K)) rfl (fr_len E) (by decide +kernel) (pa_cons (pv 3) pa_nil)) pa_nil)))
    (pss_cons (ps_for PassesOwn.never rfl (pi_list (pv 3)) (pg_name (i := 5) sc.nd rfl (Or.inl rfl))
    (pss_one (ps_expr (pe_bm PySem.F.plainAttrs_list PySem.F.slot_list_extend PySem.F.type_list_extend mt_extendT (pv 4) (pa_cons (pv 5) pa_nil)))))
    (pss_one (ps_ret (pv 4))))))), ?_⟩)
  obtain ⟨d, np, rp, f, xs, ns, rfl, ⟨dx, a, h1, dy, na, ma, al, f1, f2, f3, f4⟩, o, hn, ⟨n, rfl, hk⟩, k⟩ := h
  have k : ∀ (H' : Hp) (q : Addr), Same H H' → H q = none → H' q = some (.lst ((chgAns f n).map V.int)) → Q (.ref q) H' := k
  rw [chg_nV o hk] at k
  refine ⟨_, rfl, d, _, dx, _, _, rfl, h1, k_Desk E, n_Desk_file E, rfl, a, _, dy, _, _, rfl, f1, k_File E, n_File_marks E, rfl, _, rfl, d, _, dx, _, _, rfl, h1, k_Desk E, n_Desk_file E, rfl, a, _, dy, _, _, rfl, f1, k_File E, n_File_acts E, rfl, _, rfl, np, _, 0, .int (n : Nat), rfl, rfl, SqL.of hn, rfl, ma, al, f, xs, n, rfl, f3, f4, o.nv, o.mm, by rw [o.len]; exact hk, fun H1 r s1 hN hl => ?_⟩
  have h4 := chg_four f (nat_ f xs) n
  generalize chg f (nat_ f xs) n = cs at *
  obtain ⟨bs, e1, pr⟩ := hN
  refine ⟨_, rfl, r, _, rfl, Or.inl (SqL.of e1), (show 1 ≤ sizeLine by decide), fun L nL => ?_⟩
  have sL := Same.new (o := .lst [.int ((bs.map V.ref).length : Nat)]) nL
  refine ⟨_, rfl, r, rfl, ⟨_, SqL.of (sL _ _ e1)⟩, ?_⟩
  have hrl : r ≠ L := ne_of_none e1 nL
  refine for_it (walk_refs pr) (fun i σ H' => ∃ x5, σ = [some (.ref d), some (.ref np), some (.ref rp), some (.ref r), some (.ref L), x5] ∧ Same H1 H' ∧ H' r = some (.lst (bs.map V.ref)) ∧ H' L = some (.lst (nV (cs.length :: (cs.take i).flatten)))) ⟨_, rfl, sL, sL _ _ e1, by rw [upd_same, List.length_map, paired_len pr]; rfl⟩ (fun i σ H' hi ⟨_, _, _, e, _⟩ => SqL.of e) (fun i v σ H4 H5 hi ⟨x5, e, s4, eR, eL⟩ yy => ?_) fun σ H4 ⟨x5, e, s4, eR, eL⟩ => ?_
  · subst e
    obtain ⟨rfl, b, x, rfl, hx, hT⟩ := yy
    have hxl := h4 x (mem_of_get hx)
    have hfl := four_len (cs.take i) fun y hy => h4 y (List.mem_of_mem_take hy)
    have htl : (cs.take i).length ≤ cs.length := by rw [List.length_take]; omega
    refine ⟨_, rfl, ty_lst eL, _, rfl, L, b, _, _, rfl, rfl, eL, SqT.of (s4 _ _ hT), ?_, ?_⟩
    · rw [nV_len, nV_len, List.length_cons]
      exact sz_le (by omega)
    · refine ⟨_, rfl, Same.put s4 nL, ?_, ?_⟩
      · rw [upd_ne hrl]
        exact eR
      · rw [upd_same, List.take_succ, hx, List.flatten_append, ← nV_append]
        simp
  · subst e
    rw [List.take_length] at eL
    exact ⟨_, rfl, k H4 L (Same.trans s1 s4) (s1.free nL) eL⟩
def swapAns (f : File) (k : Nat) : List Int := [if Vbenah.maySwap f k = true then 1 else 0]
abbrev sp_swap (K : PySem.W.Frag) : Sp := spNum K Pn fun f ns => a1 (swapAns f) ns
abbrev len_swap (K : PySem.W.Frag) := spNum_len (K := K) (P := Pn) (A := fun f ns => a1 (swapAns f) ns)
theorem sc_swap : FnScope (["desk", "numbers", "row"] : List Str) ["desk", "numbers", "row"] (defScope s_swap) := C8.fnScope_by (by decide +kernel)
theorem c_swap (E : Env P w K mg base) : Cal P w K mg base CX0 9 "swap" (sp_swap K) := by
  have sc := sc_swap
  refine mkCal (st := s_swap) (E.top.d.def_ 74 (d := d_swap) rfl) (E.glo 74) sc (fun _ _ _ _ _ _ us hl => match us, hl with | [_, _, _], _ => rfl) (len_swap K) (fun cdv A outer s H vs Q X hr h => ⟨_, PSs.nox ((pss_one (ps_ret (pe_lst (pa_cons (pe_callTy call_int1 rfl (fr_int E) (by decide +kernel) (pa_cons (pe_c (c_may_swap E) hr (by decide) rfl pass0 (pa_cons (peF (K := K) (peF (K := K) (pv 0) rfl) rfl) (pa_cons (peF (K := K) (peF (K := K) (pv 0) rfl) rfl) (pa_cons (pe_ix (ixL (K := K)) (pv 1) pe_int (fun _ _ => rfl)) pa_nil)))) pa_nil)) pa_nil))))), ?_⟩)
  obtain ⟨d, np, rp, f, xs, ns, rfl, ⟨dx, a, h1, dy, na, ma, al, f1, f2, f3, f4⟩, o, hn, ⟨n, rfl, hk⟩, k⟩ := h
  have k : ∀ (H' : Hp) (q : Addr), Same H H' → H q = none → H' q = some (.lst ((swapAns f n).map V.int)) → Q (.ref q) H' := k
  refine ⟨_, rfl, d, _, dx, _, _, rfl, h1, k_Desk E, n_Desk_file E, rfl, a, _, dy, _, _, rfl, f1, k_File E, n_File_marks E, rfl, _, rfl, d, _, dx, _, _, rfl, h1, k_Desk E, n_Desk_file E, rfl, a, _, dy, _, _, rfl, f1, k_File E, n_File_acts E, rfl, _, rfl, np, _, 0, .int (n : Nat), rfl, rfl, SqL.of hn, rfl, ma, al, f, xs, n, rfl, f3, f4, o.nv, o.mm, by rw [o.len]; exact hk, fun H1 b s1 hb => Or.inr ⟨b, rfl, (show 1 ≤ sizeLine by decide), fun L nL => k _ L (Same.trans s1 (Same.new nL)) (s1.free nL) ?_⟩⟩
  rw [upd_same]
  have e : b = Vbenah.maySwap f n := Bool.eq_iff_iff.mpr (hb.trans (swap_eq o hk).symm)
  unfold swapAns
  rw [e]
  cases Vbenah.maySwap f n <;> rfl
/-- a call's answer, refused or not -/
def stp (f : File) (c : Vbenah.Call) : File × List Int := match Vbenah.run f c with
  | .ok r => r
  | .error e => (f, [e])
theorem stp_ok {f : File} {c : Vbenah.Call} {r : File × List Int} (h : Vbenah.run f c = .ok r) : stp f c = r := by
  unfold stp
  rw [h]
theorem stp_err {f : File} {c : Vbenah.Call} {e : Int} (h : Vbenah.run f c = .error e) : stp f c = (f, [e]) := by
  unfold stp
  rw [h]
/-- a call with a text -/
def spText (K : PySem.W.Frag) (c : List Int → Vbenah.Call) : Sp := fun vs H Q _ => ∃ (d np rp L : Addr) (l : List V) (f : File) (xs : List NAct) (row : List Int), vs = [.ref d, .ref np, .ref rp] ∧ H L = some (.lst l) ∧ DeskV K (less [L] H) d f xs ∧ Ok f xs ∧ H rp = some (.lst (row.map V.int)) ∧ row.length ≤ 2000 ∧
  ∀ H' q g ys ans, But [d] H H' → DeskV K (less [L] H') d g ys → Ok g ys → H' q = some (.lst (ans.map V.int)) → H q = none → stp f (c row) = (g, ans) → Q (.ref q) H'
theorem spText_len {K : PySem.W.Frag} {c : List Int → Vbenah.Call} : ∀ vs H Q E, spText K c vs H Q E → vs.length = 3 := fun _ _ _ _ ⟨_, _, _, _, _, _, _, _, h, _⟩ => by rw [h]; rfl
theorem textIn_no {t : List Int} (h : (t.all fun c => VbenCore.isBetween c 0 255) = false) : Vbenah.textIn t = .error (-1) := by
  unfold Vbenah.textIn VbenCore.bytesIn
  rw [if_neg fun z => by rw [h] at z; cases z.1]
theorem textIn_yes {t : List Int} (h : (t.all fun c => VbenCore.isBetween c 0 255) = true) (hl : t.length ≤ 2000) : Vbenah.textIn t = .ok (t.map Int.toNat) ∧ t.map V.int = nV (t.map Int.toNat) := by
  refine ⟨?_, ?_⟩
  · unfold Vbenah.textIn VbenCore.bytesIn
    rw [if_pos ⟨h, hl⟩]
  · show t.map V.int = (t.map Int.toNat).map fun n => V.int (n : Nat)
    rw [List.map_map]
    refine List.map_congr_left fun c hc => ?_
    have := List.all_eq_true.mp h c hc
    unfold VbenCore.isBetween at this
    rw [Bool.and_eq_true, decide_eq_true_iff, decide_eq_true_iff] at this
    show V.int c = V.int ((c.toNat : Nat) : Int)
    rw [Int.toNat_of_nonneg this.1]
theorem run_file (f : File) (t : List Int) : Vbenah.run f (.file t) = match Vbenah.textIn t with
    | .error e => .error e
    | .ok b => match Vbenah.readFile b with
      | .error p => .error (-1000 - (p : Int))
      | .ok g => .ok (g, VbenCore.ints [g.holes, g.words.length, g.acts.length, (Vbenah.now g).cards.length]) := by
  show (Vbenah.textIn t >>= fun b => match Vbenah.readFile b with
      | .error p => .error (-1000 - (p : Int))
      | .ok g => pure (g, VbenCore.ints [g.holes, g.words.length, g.acts.length, (Vbenah.now g).cards.length])) = _
  cases Vbenah.textIn t <;> rfl
theorem run_look (f : File) (t : List Int) : Vbenah.run f (.look t) = match Vbenah.textIn t with
    | .error e => .error e
    | .ok b => match Vbenah.readFile b with
      | .error p => .ok (f, [1, (p : Int)])
      | .ok _ => .ok (f, [0]) := by
  show (Vbenah.textIn t >>= fun b => match Vbenah.readFile b with
      | .error p => pure (f, [1, (p : Int)])
      | .ok _ => pure (f, [0])) = _
  cases Vbenah.textIn t <;> rfl
theorem run_act (f : File) (t : List Int) : Vbenah.run f (.act t) = match Vbenah.textIn t with
    | .error e => .error e
    | .ok b => match Vbenah.readAct f b with
      | .error p => .error (-1000 - (p : Int))
      | .ok x => .ok (Vbenah.put f x, [((f.acts.length + 1 : Nat) : Int)]) := by
  show (Vbenah.textIn t >>= fun b => match Vbenah.readAct f b with
      | .error p => .error (-1000 - (p : Int))
      | .ok x => pure (Vbenah.put f x, [((f.acts.length + 1 : Nat) : Int)])) = _
  cases Vbenah.textIn t <;> rfl
abbrev sp_put_file (K : PySem.W.Frag) : Sp := spText K .file
abbrev len_put_file (K : PySem.W.Frag) := spText_len (K := K) (c := .file)
theorem desk_of {K : PySem.W.Frag} {H : Hp} {d dx a : Addr} {f : File} {xs : List NAct} (h : H d = some (.ins (He.ga K "Desk") dx [("file", .ref a)])) (hF : FileAt K H a f xs) : DeskV K H d f xs := ⟨dx, a, h, hF⟩
theorem sc_put_file : FnScope (["desk", "numbers", "row", "fault"] : List Str) ["desk", "numbers", "row"] (defScope s_put_file) := C8.fnScope_by (by decide +kernel)
theorem c_put_file (E : Env P w K mg base) : Cal P w K mg base CX0 11 "put_file" (sp_put_file K) := by
  have sc := sc_put_file
  refine mkCal (st := s_put_file) (E.top.d.def_ 54 (d := d_put_file) rfl) (E.glo 54) sc (fun _ _ _ _ _ _ us hl => match us, hl with | [_, _, _], _ => rfl) (len_put_file K) (fun cdv A outer s H vs Q X hr h => ⟨_, PSs.nox ((pss_cons (ps_if (pt_not (pt_val (pe_c (c_are_bytes E) hr (by decide) rfl pass0 (pa_cons (pv 2) pa_nil)))) (pss_one (ps_ret (pe_lst (pa_cons (pe_un un_neg pe_int) pa_nil)))) pss_nil)
    (pss_cons (ps_try_as (i := 3) (tb := fun W => sFld K (tVar 0) (tCallS (sp_read_file K) (WE W) (tCons (tVar 2) tNil)) "file") (Wout := fun _ _ _ _ => False) rfl rfl sc.nd rfl rfl ⟨rfl, by decide, Or.inl (gF E)⟩ takes0
    (fun W pn xe tk _ => (pss_one (ps_fld (pv 0) (by exact (pe_cS (c_read_file E) hr (by decide) rfl tk (pa_cons (pv 2) pa_nil))) rfl)))
    (fun a oe cls d pn hz hf => (pss_one (ps_ret (pe_lst (pa_cons (pe_op op_sub (pe_un un_neg pe_int) (pe_xf (xfF E) (noF E) hz hf (pv 3))) pa_nil))))))
    (pss_one (ps_ret (pe_c (c_told E) hr (by decide) rfl pass0 (pa_cons (peF (K := K) (pv 0) rfl) pa_nil))))))), ?_⟩)
  obtain ⟨d, np, rp, L0, l0, f, xs, row, rfl, hL0, ⟨dx, a, q1, hF⟩, o, hr0, hl, k⟩ := h
  have h1 := less_sub _ _ q1
  have hdL : d ≠ L0 := ne_obj h1 hL0 fun z => by cases z
  refine ⟨_, rfl, rp, row, rfl, hr0, by omega, fun H1 s1 => ⟨_, rfl, ?_⟩⟩
  have hE := run_file f row
  have hD1 := s1 _ _ h1
  have hV1 : DeskV K (less [L0] H1) d f xs := ⟨dx, a, Same.less s1 _ _ q1, hF.same (Same.less s1)⟩
  cases hb : row.all fun c => VbenCore.isBetween c 0 255 with
  | false =>
    rw [textIn_no hb] at hE
    exact if_t rfl ⟨1, rfl, (show 1 ≤ sizeLine by decide), fun L nL => k _ L f xs [-1] (But.of (Same.trans s1 (Same.new nL))) (hV1.same (Same.less (Same.new nL))) o upd_same (s1.free nL) (stp_err hE)⟩
  | true =>
    obtain ⟨t1, t2⟩ := textIn_yes hb hl
    rw [t1] at hE
    have hE : Vbenah.run f (.file row) = match Vbenah.readFile (row.map Int.toNat) with
      | .error p => .error (-1000 - (p : Int))
      | .ok g => .ok (g, VbenCore.ints [g.holes, g.words.length, g.acts.length, (Vbenah.now g).cards.length]) := hE
    refine if_f rfl ⟨_, rfl, rp, L0, l0, row.map Int.toNat, rfl, by rw [LstN, ← t2]; exact s1 _ _ hr0, by rw [List.length_map]; exact hl, s1 _ _ hL0, fun p e dd H2 s2 hd => ?_, fun H2 b g ys e s2 nb hF2 ok2 => ?_⟩
    · rw [e] at hE
      have hD2 := s2 _ _ hD1
      refine ⟨true, xmF E, fun _ ea nea => ⟨1000, rfl, _, rfl, rfl, rfl, dd, _, .int (p : Nat), rfl, hd, rfl, (-1000 : Int), (p : Nat), rfl, rfl, (show 1 ≤ sizeLine by decide), fun L nL => ?_⟩, fun z => by cases z⟩
      exact k _ L f xs [-1000 - (p : Int)] (But.of (Same.trans s1 (Same.trans s2 (Same.new nL)))) ((hV1.same (Same.less s2)).same (Same.less (Same.new nL))) o upd_same ((Same.trans s1 s2).free nL) (stp_err hE)
    · rw [e] at hE
      have hD2 := s2 _ _ hD1
      refine ⟨_, rfl, d, _, dx, _, rfl, hD2, k_Desk E, n_Desk_file E, (show 1 < 1000 by decide), ?_⟩
      have hV3 := DeskV.put (f := f) (xs := xs) (Same.less s2 _ _ (Same.less s1 _ _ q1)) hF2
      rw [← less_upd hdL] at hV3
      have hV0 := hV3
      have b3 := but_one (d := d) (o := .ins (He.ga K "Desk") dx [("file", .ref b)]) (Same.trans s1 s2)
      obtain ⟨dx', b', e3, hF3⟩ := hV3
      rw [less_upd hdL, upd_same] at e3
      cases e3
      have hF3 := hF3.same less_sub
      refine ⟨_, rfl, d, _, dx, _, _, rfl, upd_same, k_Desk E, n_Desk_file E, rfl, b, g, ys, rfl, hF3, ok2.nv.ln, fun H4 q s4 nq e4 => k H4 q g ys _ (b3.more s4) (hV0.same (Same.less s4)) ok2 ?_ ((Same.trans s1 s2).free (upd_free nq)) (stp_ok hE)⟩
      rw [ints_nV, ← ncards_all ok2, ← ok2.len]
      exact e4
abbrev sp_look (K : PySem.W.Frag) : Sp := spText K .look
abbrev len_look (K : PySem.W.Frag) := spText_len (K := K) (c := .look)
theorem sc_look : FnScope (["desk", "numbers", "row", "fault"] : List Str) ["desk", "numbers", "row"] (defScope s_look) := C8.fnScope_by (by decide +kernel)
theorem c_look (E : Env P w K mg base) : Cal P w K mg base CX0 11 "look" (sp_look K) := by
  have sc := sc_look
  refine mkCal (st := s_look) (E.top.d.def_ 55 (d := d_look) rfl) (E.glo 55) sc (fun _ _ _ _ _ _ us hl => match us, hl with | [_, _, _], _ => rfl) (len_look K) (fun cdv A outer s H vs Q X hr h => ⟨_, PSs.nox ((pss_cons (ps_if (pt_not (pt_val (pe_c (c_are_bytes E) hr (by decide) rfl pass0 (pa_cons (pv 2) pa_nil)))) (pss_one (ps_ret (pe_lst (pa_cons (pe_un un_neg pe_int) pa_nil)))) pss_nil)
    (pss_cons (ps_try_as (i := 3) (tb := fun W => tDrop (tCallS (sp_read_file K) (WE W) (tCons (tVar 2) tNil))) (Wout := fun _ _ _ _ => False) rfl rfl sc.nd rfl rfl ⟨rfl, by decide, Or.inl (gF E)⟩ takes0
    (fun W pn xe tk _ => (pss_one (ps_expr (by exact (pe_cS (c_read_file E) hr (by decide) rfl tk (pa_cons (pv 2) pa_nil))))))
    (fun a oe cls d pn hz hf => (pss_one (ps_ret (pe_lst (pa_cons pe_int (pa_cons (pe_xf (xfF E) (noF E) hz hf (pv 3)) pa_nil)))))))
    (pss_one (ps_ret (pe_lst (pa_cons pe_int pa_nil))))))), ?_⟩)
  obtain ⟨d, np, rp, L0, l0, f, xs, row, rfl, hL0, ⟨dx, a, q1, hF⟩, o, hr0, hl, k⟩ := h
  have h1 := less_sub _ _ q1
  have hdL : d ≠ L0 := ne_obj h1 hL0 fun z => by cases z
  refine ⟨_, rfl, rp, row, rfl, hr0, by omega, fun H1 s1 => ⟨_, rfl, ?_⟩⟩
  have hE := run_look f row
  have hD1 := s1 _ _ h1
  have hV1 : DeskV K (less [L0] H1) d f xs := ⟨dx, a, Same.less s1 _ _ q1, hF.same (Same.less s1)⟩
  cases hb : row.all fun c => VbenCore.isBetween c 0 255 with
  | false =>
    rw [textIn_no hb] at hE
    exact if_t rfl ⟨1, rfl, (show 1 ≤ sizeLine by decide), fun L nL => k _ L f xs [-1] (But.of (Same.trans s1 (Same.new nL))) (hV1.same (Same.less (Same.new nL))) o upd_same (s1.free nL) (stp_err hE)⟩
  | true =>
    obtain ⟨t1, t2⟩ := textIn_yes hb hl
    rw [t1] at hE
    have hE : Vbenah.run f (.look row) = match Vbenah.readFile (row.map Int.toNat) with
      | .error p => .ok (f, [1, (p : Int)])
      | .ok _ => .ok (f, [0]) := hE
    refine if_f rfl ⟨_, rfl, rp, L0, l0, row.map Int.toNat, rfl, by rw [LstN, ← t2]; exact s1 _ _ hr0, by rw [List.length_map]; exact hl, s1 _ _ hL0, fun p e dd H2 s2 hd => ?_, fun H2 b g ys e s2 nb hF2 ok2 => ?_⟩
    · rw [e] at hE
      have hD2 := s2 _ _ hD1
      refine ⟨true, xmF E, fun _ ea nea => ⟨_, rfl, rfl, rfl, dd, _, .int (p : Nat), rfl, hd, rfl, (show 2 ≤ sizeLine by decide), fun L nL => ?_⟩, fun z => by cases z⟩
      exact k _ L f xs [1, (p : Int)] (But.of (Same.trans s1 (Same.trans s2 (Same.new nL)))) ((hV1.same (Same.less s2)).same (Same.less (Same.new nL))) o upd_same ((Same.trans s1 s2).free nL) (stp_ok hE)
    · rw [e] at hE
      have hD2 := s2 _ _ hD1
      exact ⟨(show 1 ≤ sizeLine by decide), fun L nL => k _ L f xs [0] (But.of (Same.trans s1 (Same.trans s2 (Same.new nL)))) ((hV1.same (Same.less s2)).same (Same.less (Same.new nL))) o upd_same ((Same.trans s1 s2).free nL) (stp_ok hE)⟩
abbrev sp_put_act (K : PySem.W.Frag) : Sp := spText K .act
abbrev len_put_act (K : PySem.W.Frag) := spText_len (K := K) (c := .act)
theorem sc_put_act : FnScope (["desk", "numbers", "row", "fault"] : List Str) ["desk", "numbers", "row"] (defScope s_put_act) := C8.fnScope_by (by decide +kernel)
theorem c_put_act (E : Env P w K mg base) : Cal P w K mg base CX0 11 "put_act" (sp_put_act K) := by
  have sc := sc_put_act
  refine mkCal (st := s_put_act) (E.top.d.def_ 57 (d := d_put_act) rfl) (E.glo 57) sc (fun _ _ _ _ _ _ us hl => match us, hl with | [_, _, _], _ => rfl) (len_put_act K) (fun cdv A outer s H vs Q X hr h => ⟨_, PSs.nox ((pss_cons (ps_if (pt_not (pt_val (pe_c (c_are_bytes E) hr (by decide) rfl pass0 (pa_cons (pv 2) pa_nil)))) (pss_one (ps_ret (pe_lst (pa_cons (pe_un un_neg pe_int) pa_nil)))) pss_nil)
    (pss_cons (ps_try_as (i := 3) (tb := fun W => sFld K (tVar 0) (tCallS (sp_with_act K) (WE W) (tCons (tFld K (tVar 0) "file") (tCons (tVar 2) tNil))) "file") (Wout := fun _ _ _ _ => False) rfl rfl sc.nd rfl rfl ⟨rfl, by decide, Or.inl (gF E)⟩ takes0
    (fun W pn xe tk _ => (pss_one (ps_fld (pv 0) (by exact (pe_cS (c_with_act E) hr (by decide) rfl tk (pa_cons (peF (K := K) (pv 0) rfl) (pa_cons (pv 2) pa_nil)))) rfl)))
    (fun a oe cls d pn hz hf => (pss_one (ps_ret (pe_lst (pa_cons (pe_op op_sub (pe_un un_neg pe_int) (pe_xf (xfF E) (noF E) hz hf (pv 3))) pa_nil))))))
    (pss_one (ps_ret (pe_lst (pa_cons (pe_callB (clen (K := K)) rfl (fr_len E) (by decide +kernel) (pa_cons (peF (K := K) (peF (K := K) (pv 0) rfl) rfl) pa_nil)) pa_nil))))))), ?_⟩)
  obtain ⟨d, np, rp, L0, l0, f, xs, row, rfl, hL0, ⟨dx, a, q1, hF⟩, o, hr0, hl, k⟩ := h
  have h1 := less_sub _ _ q1
  have hdL : d ≠ L0 := ne_obj h1 hL0 fun z => by cases z
  refine ⟨_, rfl, rp, row, rfl, hr0, by omega, fun H1 s1 => ⟨_, rfl, ?_⟩⟩
  have hE := run_act f row
  have hD1 := s1 _ _ h1
  have hV1 : DeskV K (less [L0] H1) d f xs := ⟨dx, a, Same.less s1 _ _ q1, hF.same (Same.less s1)⟩
  cases hb : row.all fun c => VbenCore.isBetween c 0 255 with
  | false =>
    rw [textIn_no hb] at hE
    exact if_t rfl ⟨1, rfl, (show 1 ≤ sizeLine by decide), fun L nL => k _ L f xs [-1] (But.of (Same.trans s1 (Same.new nL))) (hV1.same (Same.less (Same.new nL))) o upd_same (s1.free nL) (stp_err hE)⟩
  | true =>
    obtain ⟨t1, t2⟩ := textIn_yes hb hl
    rw [t1] at hE
    have hE : Vbenah.run f (.act row) = match Vbenah.readAct f (row.map Int.toNat) with
      | .error p => .error (-1000 - (p : Int))
      | .ok x => .ok (Vbenah.put f x, [((f.acts.length + 1 : Nat) : Int)]) := hE
    refine if_f rfl ⟨_, rfl, d, _, dx, _, _, rfl, hD1, k_Desk E, n_Desk_file E, rfl, _, rfl, a, rp, L0, l0, f, xs, row.map Int.toNat, rfl, s1 _ _ hL0, hF.same (Same.less s1), o, by rw [LstN, ← t2]; exact s1 _ _ hr0, by rw [List.length_map]; exact hl, fun p e dd H2 s2 hd => ?_, fun H2 b x ys e s2 nb hF2 ok2 => ?_⟩
    · rw [e] at hE
      have hD2 := s2 _ _ hD1
      refine ⟨true, xmF E, fun _ ea nea => ⟨1000, rfl, _, rfl, rfl, rfl, dd, _, .int (p : Nat), rfl, hd, rfl, (-1000 : Int), (p : Nat), rfl, rfl, (show 1 ≤ sizeLine by decide), fun L nL => ?_⟩, fun z => by cases z⟩
      exact k _ L f xs [-1000 - (p : Int)] (But.of (Same.trans s1 (Same.trans s2 (Same.new nL)))) ((hV1.same (Same.less s2)).same (Same.less (Same.new nL))) o upd_same ((Same.trans s1 s2).free nL) (stp_err hE)
    · rw [e] at hE
      have hD2 := s2 _ _ hD1
      refine ⟨_, rfl, d, _, dx, _, rfl, hD2, k_Desk E, n_Desk_file E, (show 1 < 1000 by decide), ?_⟩
      have hV3 := DeskV.put (f := f) (xs := xs) (Same.less s2 _ _ (Same.less s1 _ _ q1)) hF2
      rw [← less_upd hdL] at hV3
      have hV0 := hV3
      have b3 := but_one (d := d) (o := .ins (He.ga K "Desk") dx [("file", .ref b)]) (Same.trans s1 s2)
      obtain ⟨dx', b', e3, hF3⟩ := hV3
      rw [less_upd hdL, upd_same] at e3
      cases e3
      have hF3 := hF3.same less_sub
      obtain ⟨dy, na, ma, al, f1, f2, f3, ⟨as, f4, f5⟩⟩ := hF3
      have las : (as.map V.ref).length = f.acts.length + 1 := by
        rw [List.length_map, paired_len f5, ok2.len]
        show (f.acts ++ [x]).length = _
        rw [List.length_append]
        rfl
      refine ⟨_, rfl, d, _, dx, _, _, rfl, upd_same, k_Desk E, n_Desk_file E, rfl, b, _, dy, _, _, rfl, f1, k_File E, n_File_acts E, rfl, al, _, rfl, Or.inl (SqL.of f4), (show 1 ≤ sizeLine by decide), fun L nL => k _ L _ ys _ (b3.more (Same.new nL)) (hV0.same (Same.less (Same.new nL))) ok2 ?_ ((Same.trans s1 s2).free (upd_free nL)) (stp_ok hE)⟩
      rw [upd_same, las]
      rfl
end
end Bw
namespace Bw
open PySem PySem.Spec PyProof.Rows L2
open Vbenah (File State Card Act)
section
variable {P : Program} {w : World} {K : PySem.W.Frag} {mg : Str → Option Value} {base : Heap}
/-- what a call's numbers are -/
inductive Kd where
  | k | w | c | a | n
def Kd.code : Kd → Nat
  | .k => 107
  | .w => 119
  | .c => 99
  | .a => 97
  | .n => 110
def ref1 (f : File) (xs : List NAct) (k0 : Nat) : Kd → Int → Int
  | .k, n => refA xs n
  | .w, n => refW f n
  | .c, n => refC xs k0 n
  | .a, n => refN xs n 0
  | .n, n => refN xs n 1
def refBy (f : File) (xs : List NAct) (k0 : Nat) : List Kd → List Int → Int
  | kd :: ks, n :: ns => if ref1 f xs k0 kd n < 0 then ref1 f xs k0 kd n else refBy f xs k0 ks ns
  | _, _ => 0
theorem refBy_drop {f : File} {xs : List NAct} {k0 i : Nat} {ks : List Kd} {ns : List Int} {kd : Kd} {n : Int} (h1 : ks[i]? = some kd) (h2 : ns[i]? = some n) : refBy f xs k0 (ks.drop i) (ns.drop i) = if ref1 f xs k0 kd n < 0 then ref1 f xs k0 kd n else refBy f xs k0 (ks.drop (i + 1)) (ns.drop (i + 1)) := by
  have l1 := lt_of_get h1
  have l2 := lt_of_get h2
  rw [List.drop_eq_getElem_cons l1, List.drop_eq_getElem_cons l2]
  rw [List.getElem?_eq_getElem l1] at h1
  rw [List.getElem?_eq_getElem l2] at h2
  rw [Option.some.inj h1, Option.some.inj h2]
  rfl
def sp_refused_by (K : PySem.W.Frag) : Sp := fun vs H Q _ => ∃ (d np : Addr) (f : File) (xs : List NAct) (z : Str) (ks : List Kd) (ns : List Int), vs = [.ref d, .str z, .ref np] ∧ z.cps.toList = ks.map Kd.code ∧ ks.length = ns.length ∧ ks.length ≤ 10 ∧ (∀ i, ks[i]? = some .c → 0 < i ∧ ks[0]? = some .k) ∧
  DeskV K H d f xs ∧ xs.length ≤ 90 ∧ H np = some (.lst (ns.map V.int)) ∧ ∀ H', Same H H' → Q (.int (refBy f xs (ns.headD 0).toNat ks ns)) H'
theorem len_refused_by (K : PySem.W.Frag) : ∀ vs H Q E, sp_refused_by K vs H Q E → vs.length = 3 := fun _ _ _ _ ⟨_, _, _, _, _, _, _, h, _⟩ => by rw [h]; rfl
theorem sc_refused_by : FnScope (["desk", "kinds", "numbers", "kind", "number", "refused"] : List Str) ["desk", "kinds", "numbers"] (defScope s_refused_by) := C8.fnScope_by (by decide +kernel)
theorem c_refused_by (E : Env P w K mg base) : Cal P w K mg base CX0 3 "refused_by" (sp_refused_by K) := by
  have sc := sc_refused_by
  refine mkCal (st := s_refused_by) (E.top.d.def_ 50 (d := d_refused_by) rfl) (E.glo 50) sc (fun _ _ _ _ _ _ us hl => match us, hl with | [_, _, _], _ => rfl) (len_refused_by K) (fun cdv A outer s H vs Q X hr h => ⟨_, PSs.nox ((pss_cons (ps_for PassesOwn.never rfl (pi_zip (by rfl) (fr_zip E) (pa_cons (pe_callTy (call_listS rfl) rfl (fr_list E) (by decide +kernel) (pa_cons (pv 1) pa_nil)) (pa_cons (pv 2) pa_nil))) (pg_tup rfl (pgs_cons (pg_name (i := 3) sc.nd rfl (Or.inl rfl)) (pgs_cons (pg_name (i := 4) sc.nd rfl (Or.inl rfl)) pgs_nil)))
    (pss_cons (ps_set (i := 5) sc.nd rfl (Or.inl rfl) pe_int)
    (pss_cons (ps_if (pt_cmpR op_eq (pv 3) pe_str (nomark _)) (pss_one (ps_set (i := 5) sc.nd rfl (Or.inl rfl) (pe_c (c_refused_acts E) hr (by decide) rfl pass0 (pa_cons (pv 0) (pa_cons (pv 4) pa_nil))))) (pss_one (ps_if (pt_cmpR op_eq (pv 3) pe_str (nomark _)) (pss_one (ps_set (i := 5) sc.nd rfl (Or.inl rfl) (pe_c (c_refused_word E) hr (by decide) rfl pass0 (pa_cons (pv 0) (pa_cons (pv 4) pa_nil))))) (pss_one (ps_if (pt_cmpR op_eq (pv 3) pe_str (nomark _)) (pss_one (ps_set (i := 5) sc.nd rfl (Or.inl rfl) (pe_c (c_refused_card E) hr (by decide) rfl pass0 (pa_cons (pv 0) (pa_cons (pe_ix (ixL (K := K)) (pv 2) pe_int (fun _ _ => rfl)) (pa_cons (pv 4) pa_nil)))))) (pss_one (ps_set (i := 5) sc.nd rfl (Or.inl rfl) (pe_c (c_refused_act E) hr (by decide) rfl pass0 (pa_cons (pv 0) (pa_cons (pv 4) (pa_cons (pe_callTy call_int1 rfl (fr_int E) (by decide +kernel) (pa_cons (pe_cmpR op_eq (pv 3) pe_str (nomark _)) pa_nil)) pa_nil)))))))))))
    (pss_one (ps_if (pt_cmpR op_lt (pv 5) pe_int (nomark _)) (pss_one (ps_ret (pv 5))) pss_nil)))))
    (pss_one (ps_ret pe_int)))), ?_⟩)
  obtain ⟨d, np, f, xs, z, ks, ns, rfl, hz, hkn, hk10, hc0, hD, hln, hn, k⟩ := h
  have hzl : z.cps.size = ks.length := by
    have := congrArg List.length hz
    rw [Array.length_toList, List.length_map] at this
    exact this
  refine ⟨_, rfl, z, rfl, by rw [hzl]; exact sz_le (by omega), fun L nL => ?_⟩
  have sL := Same.new (o := .lst (sgns z)) nL
  have hgl : (sgns z).length = ks.length := by
    unfold sgns
    rw [List.length_map, hz, List.length_map]
  refine ⟨_, rfl, L, np, _, _, rfl, SqL.of upd_same, SqL.of (sL _ _ hn), ?_⟩
  refine for_it (walk_zip (n := ks.length) (xs := sgns z) (ys := ns.map V.int) (by rw [hgl, List.length_map, hkn, Nat.min_self])) (fun i σ H' => ∃ x3 x4 x5, σ = [some (.ref d), some (.str z), some (.ref np), x3, x4, x5] ∧ Same (upd H L (.lst (sgns z))) H' ∧
      refBy f xs (ns.headD 0).toNat ks ns = refBy f xs (ns.headD 0).toNat (ks.drop i) (ns.drop i) ∧ (0 < i → ks[0]? = some .k → ∀ n0, ns[0]? = some n0 → 0 ≤ refA xs n0)) ⟨_, _, _, rfl, Same.refl _, rfl, fun h => absurd h (Nat.lt_irrefl _)⟩
    (fun i σ H' hi ⟨_, _, _, _, s, _⟩ => ⟨SqL.of (s _ _ upd_same), SqL.of (s _ _ (sL _ _ hn))⟩) (fun i v σ H4 H5 hi ⟨x3, x4, x5, e, s4, hR, h0⟩ yy => ?_) fun σ H4 ⟨x3, x4, x5, e, s4, hR, h0⟩ => ?_
  · subst e
    obtain ⟨T, v1, v2, rfl, nT, rfl, g1, g2⟩ := yy
    have hi2 : i < ks.length := hi
    have hkd : ks[i]? = some ks[i] := List.getElem?_eq_getElem hi2
    generalize ks[i] = kd at hkd
    have hnn : ns[i]? = some (ns[i]'(by omega)) := List.getElem?_eq_getElem (by omega)
    generalize ns[i]'(by omega) = n at hnn
    have g1 : (sgns z)[i]? = some v1 := g1
    have g2 : (ns.map V.int)[i]? = some v2 := g2
    have e1 : v1 = .str ⟨#[kd.code]⟩ := by
      unfold sgns at g1
      rw [hz, List.map_map, List.getElem?_map, hkd] at g1
      exact (Option.some.inj g1).symm
    have e2 : v2 = .int n := by
      rw [List.getElem?_map, hnn] at g2
      exact (Option.some.inj g2).symm
    subst e1
    subst e2
    have s5 : Same H (upd H4 T (.tup [.str ⟨#[kd.code]⟩, .int n])) := Same.trans sL (Same.trans s4 (Same.new nT))
    have sT := Same.trans s4 (Same.new (o := .tup [.str ⟨#[kd.code]⟩, .int n]) nT)
    have hD5 := hD.same s5
    have hstep := refBy_drop (f := f) (xs := xs) (k0 := (ns.headD 0).toNat) hkd hnn
    rw [hstep] at hR
    have h0' : ¬ ref1 f xs (ns.headD 0).toNat kd n < 0 → 0 < i + 1 → ks[0]? = some .k → ∀ n0, ns[0]? = some n0 → 0 ≤ refA xs n0 := fun hr _ hk0 n0 hn0 => by
      rcases Nat.eq_zero_or_pos i with z0 | z0
      · subst z0
        rw [hk0] at hkd
        cases hkd
        rw [hn0] at hnn
        cases hnn
        exact Int.not_lt.mp hr
      · exact h0 z0 hk0 n0 hn0
    refine ⟨T, _, rfl, SqT.of upd_same, rfl, _, _, rfl, _, _, rfl, rfl, _, rfl, rfl, _, rfl, ?_⟩
    cases kd with
    | k =>
      refine if_t (by decide +kernel) ⟨_, rfl, _, rfl, d, f, xs, n, rfl, hD5, fun H6 s6 => ⟨_, rfl, _, 0, rfl, rfl, _, rfl, ite2 (fun hc => ?_) fun hc => ?_⟩⟩
      · refine ⟨_, rfl, ?_⟩
        have q := k _ (Same.trans s5 s6)
        rw [hR, if_pos (show ref1 f xs (ns.headD 0).toNat .k n < 0 from of_decide_eq_true hc)] at q
        exact q
      · have hc2 : ¬ ref1 f xs (ns.headD 0).toNat .k n < 0 := fun z => hc (decide_eq_true z)
        rw [if_neg hc2] at hR
        exact ⟨_, _, _, rfl, Same.trans sT s6, hR, h0' hc2⟩
    | w =>
      refine if_f (by decide +kernel) ⟨_, rfl, rfl, _, rfl, if_t (by decide +kernel) ⟨_, rfl, _, rfl, d, f, xs, n, rfl, hD5, fun H6 s6 => ⟨_, rfl, _, 0, rfl, rfl, _, rfl, ite2 (fun hc => ?_) fun hc => ?_⟩⟩⟩
      · refine ⟨_, rfl, ?_⟩
        have q := k _ (Same.trans s5 s6)
        rw [hR, if_pos (show ref1 f xs (ns.headD 0).toNat .w n < 0 from of_decide_eq_true hc)] at q
        exact q
      · have hc2 : ¬ ref1 f xs (ns.headD 0).toNat .w n < 0 := fun z => hc (decide_eq_true z)
        rw [if_neg hc2] at hR
        exact ⟨_, _, _, rfl, Same.trans sT s6, hR, h0' hc2⟩
    | c =>
      obtain ⟨hi0, hk0⟩ := hc0 i hkd
      have hn0 : ns[0]? = some (ns[0]'(by omega)) := List.getElem?_eq_getElem (by omega)
      generalize ns[0]'(by omega) = n0 at hn0
      have hA := h0 hi0 hk0 n0 hn0
      obtain ⟨q1, q2⟩ : 0 ≤ n0 ∧ n0 ≤ (xs.length : Int) := by
        unfold refA at hA
        split at hA
        · omega
        · split at hA
          · omega
          · omega
      have hh : (ns.headD 0).toNat = n0.toNat := by
        cases ns with
        | nil => cases hn0
        | cons a l => cases hn0; rfl
      have hnt : ((n0.toNat : Nat) : Int) = n0 := Int.toNat_of_nonneg q1
      refine if_f (by decide +kernel) ⟨_, rfl, rfl, _, rfl, if_f (by decide +kernel) ⟨_, rfl, rfl, _, rfl, if_t (by decide +kernel) ⟨_, rfl, _, rfl, np, _, 0, .int n0, rfl, rfl, SqL.of (s5 _ _ hn), atI_nat (i := 0) (by rw [List.getElem?_map, hn0]; rfl), _, rfl, d, f, xs, (ns.headD 0).toNat, n, by rw [hh, hnt], hD5, hln, by rw [hh]; omega, fun H6 s6 => ⟨_, rfl, _, 0, rfl, rfl, _, rfl, ite2 (fun hc => ?_) fun hc => ?_⟩⟩⟩⟩
      · refine ⟨_, rfl, ?_⟩
        have q := k _ (Same.trans s5 s6)
        rw [hR, if_pos (show ref1 f xs (ns.headD 0).toNat .c n < 0 from of_decide_eq_true hc)] at q
        exact q
      · have hc2 : ¬ ref1 f xs (ns.headD 0).toNat .c n < 0 := fun z => hc (decide_eq_true z)
        rw [if_neg hc2] at hR
        exact ⟨_, _, _, rfl, Same.trans sT s6, hR, h0' hc2⟩
    | a =>
      refine if_f (by decide +kernel) ⟨_, rfl, rfl, _, rfl, if_f (by decide +kernel) ⟨_, rfl, rfl, _, rfl, if_f (by decide +kernel) ⟨_, rfl, _, rfl, _, rfl, rfl, Or.inr ⟨_, rfl, d, f, xs, n, 0, by rw [show decide (V.str ⟨#[Kd.code .a]⟩ = V.str "n") = false from by decide +kernel]; rfl, hD5, fun H6 s6 => ⟨_, rfl, _, 0, rfl, rfl, _, rfl, ite2 (fun hc => ?_) fun hc => ?_⟩⟩⟩⟩⟩
      · refine ⟨_, rfl, ?_⟩
        have q := k _ (Same.trans s5 s6)
        rw [hR, if_pos (show ref1 f xs (ns.headD 0).toNat .a n < 0 from of_decide_eq_true hc)] at q
        exact q
      · have hc2 : ¬ ref1 f xs (ns.headD 0).toNat .a n < 0 := fun z => hc (decide_eq_true z)
        rw [if_neg hc2] at hR
        exact ⟨_, _, _, rfl, Same.trans sT s6, hR, h0' hc2⟩
    | n =>
      refine if_f (by decide +kernel) ⟨_, rfl, rfl, _, rfl, if_f (by decide +kernel) ⟨_, rfl, rfl, _, rfl, if_f (by decide +kernel) ⟨_, rfl, _, rfl, _, rfl, rfl, Or.inr ⟨_, rfl, d, f, xs, n, 1, by rw [show decide (V.str ⟨#[Kd.code .n]⟩ = V.str "n") = true from by decide +kernel]; rfl, hD5, fun H6 s6 => ⟨_, rfl, _, 0, rfl, rfl, _, rfl, ite2 (fun hc => ?_) fun hc => ?_⟩⟩⟩⟩⟩
      · refine ⟨_, rfl, ?_⟩
        have q := k _ (Same.trans s5 s6)
        rw [hR, if_pos (show ref1 f xs (ns.headD 0).toNat .n n < 0 from of_decide_eq_true hc)] at q
        exact q
      · have hc2 : ¬ ref1 f xs (ns.headD 0).toNat .n n < 0 := fun z => hc (decide_eq_true z)
        rw [if_neg hc2] at hR
        exact ⟨_, _, _, rfl, Same.trans sT s6, hR, h0' hc2⟩
  · subst e
    have q := k H4 (Same.trans sL s4)
    rw [hR, List.drop_length] at q
    exact q
end
end Bw
namespace Bw
open PySem PySem.Spec PyProof.Rows L2
open Vbenah (File State Card Act)
section
variable {P : Program} {w : World} {K : PySem.W.Frag} {mg : Str → Option Value} {base : Heap}
/-! #### a call's numbers by the specification -/
inductive IsC : Nat → List Int → List Int → Vbenah.Call → Prop where
  | clear  (row : List Int) : IsC 0 [] row .clear
  | file (row : List Int) : IsC 1 [] row (.file row)
  | look (row : List Int) : IsC 2 [] row (.look row)
  | text  (row : List Int) : IsC 3 [] row .text
  | act (row : List Int) : IsC 4 [] row (.act row)
  | undo (x0 : Int) (row : List Int) : IsC 5 [x0] row (.undo x0)
  | told  (row : List Int) : IsC 6 [] row .told
  | above (x0 : Int) (x1 : Int) (row : List Int) : IsC 7 [x0, x1] row (.above x0 x1)
  | below (x0 : Int) (x1 : Int) (row : List Int) : IsC 8 [x0, x1] row (.below x0 x1)
  | posted (x0 : Int) (x1 : Int) (row : List Int) : IsC 9 [x0, x1] row (.posted x0 x1)
  | card (x0 : Int) (x1 : Int) (row : List Int) : IsC 10 [x0, x1] row (.card x0 x1)
  | falls (x0 : Int) (x1 : Int) (row : List Int) : IsC 11 [x0, x1] row (.falls x0 x1)
  | wants (x0 : Int) (x1 : Int) (row : List Int) : IsC 12 [x0, x1] row (.wants x0 x1)
  | judge (x0 : Int) (x1 : Int) (row : List Int) : IsC 13 [x0, x1] row (.judge x0 x1)
  | lacks (x0 : Int) (x1 : Int) (row : List Int) : IsC 14 [x0, x1] row (.lacks x0 x1)
  | nest (x0 : Int) (row : List Int) : IsC 15 [x0] row (.nest x0)
  | mixers (x0 : Int) (x1 : Int) (row : List Int) : IsC 16 [x0, x1] row (.mixers x0 x1)
  | why (x0 : Int) (x1 : Int) (x2 : Int) (row : List Int) : IsC 17 [x0, x1, x2] row (.why x0 x1 x2)
  | way (x0 : Int) (x1 : Int) (x2 : Int) (row : List Int) : IsC 18 [x0, x1, x2] row (.way x0 x1 x2)
  | changes (x0 : Int) (row : List Int) : IsC 19 [x0] row (.changes x0)
  | swap (x0 : Int) (row : List Int) : IsC 20 [x0] row (.swap x0)
  | needs (x0 : Int) (row : List Int) : IsC 21 [x0] row (.needs x0)
section
variable {f : File} {xs : List NAct}
theorem acts_cases (o : Ok f xs) (k : Int) : (refA xs k < 0 ∧ Vbenah.actsTo f k = .error (refA xs k)) ∨ (refA xs k = 0 ∧ ∃ n : Nat, k = (n : Nat) ∧ n ≤ f.acts.length ∧ Vbenah.actsTo f k = .ok n) := by
  have e : Vbenah.actsTo f k = ((if VbenCore.isBetween k 0 80 = true then Except.ok k.toNat else .error (-3)) >>= fun k => if k ≤ f.acts.length then pure k else .error (-5)) := rfl
  have lx := o.len
  rw [e]
  unfold refA VbenCore.isBetween
  by_cases h : 0 ≤ k ∧ k ≤ 80
  · have hb : (decide ((0 : Int) ≤ k) && decide (k ≤ 80)) = true := by rw [decide_eq_true h.1, decide_eq_true h.2]; rfl
    rw [if_pos hb, if_neg fun z => z h]
    by_cases h2 : (xs.length : Int) < k
    · rw [if_pos h2]
      refine Or.inl ⟨by decide, ?_⟩
      show (if k.toNat ≤ f.acts.length then _ else _) = _
      rw [if_neg (by omega)]
    · rw [if_neg h2]
      refine Or.inr ⟨rfl, k.toNat, (Int.toNat_of_nonneg h.1).symm, by omega, ?_⟩
      show (if k.toNat ≤ f.acts.length then _ else _) = _
      rw [if_pos (by omega)]
      rfl
  · have hb : ¬ (decide ((0 : Int) ≤ k) && decide (k ≤ 80)) = true := fun z => h (by rw [Bool.and_eq_true, decide_eq_true_iff, decide_eq_true_iff] at z; exact z)
    rw [if_neg hb, if_pos h]
    exact Or.inl ⟨by decide, rfl⟩
theorem word_cases (f : File) (k : Int) : (refW f k < 0 ∧ Vbenah.wordAt f k = .error (refW f k)) ∨ (refW f k = 0 ∧ ∃ n : Nat, k = (n : Nat) ∧ n < f.words.length ∧ Vbenah.wordAt f k = .ok n) := by
  have e : Vbenah.wordAt f k = ((if VbenCore.isBetween k 0 11 = true then Except.ok k.toNat else .error (-3)) >>= fun k => if k < f.words.length then pure k else .error (-5)) := rfl
  rw [e]
  unfold refW VbenCore.isBetween
  by_cases h : 0 ≤ k ∧ k < 12
  · have hb : (decide ((0 : Int) ≤ k) && decide (k ≤ 11)) = true := by rw [decide_eq_true h.1, decide_eq_true (by omega)]; rfl
    rw [if_pos hb, if_neg fun z => z h]
    by_cases h2 : (f.words.length : Int) ≤ k
    · rw [if_pos h2]
      refine Or.inl ⟨by decide, ?_⟩
      show (if k.toNat < f.words.length then _ else _) = _
      rw [if_neg (by omega)]
    · rw [if_neg h2]
      refine Or.inr ⟨rfl, k.toNat, (Int.toNat_of_nonneg h.1).symm, by omega, ?_⟩
      show (if k.toNat < f.words.length then _ else _) = _
      rw [if_pos (by omega)]
      rfl
  · have hb : ¬ (decide ((0 : Int) ≤ k) && decide (k ≤ 11)) = true := fun z => h (by rw [Bool.and_eq_true, decide_eq_true_iff, decide_eq_true_iff] at z; exact ⟨z.1, by omega⟩)
    rw [if_neg hb, if_pos h]
    exact Or.inl ⟨by decide, rfl⟩
theorem card_cases (o : Ok f xs) (n : Nat) (k : Int) : (refC xs n k < 0 ∧ Vbenah.cardNo f n k = .error (refC xs n k)) ∨ (refC xs n k = 0 ∧ ∃ m : Nat, k = (m : Nat) ∧ m < (Vbenah.at_ f n).cards.length ∧ Vbenah.cardNo f n k = .ok m) := by
  have e : Vbenah.cardNo f n k = ((if VbenCore.isBetween k 0 19 = true then Except.ok k.toNat else .error (-3)) >>= fun k => if k < (Vbenah.at_ f n).cards.length then pure k else .error (-5)) := rfl
  rw [e]
  unfold refC VbenCore.isBetween
  rw [ncards_eq o]
  by_cases h : 0 ≤ k ∧ k < 20
  · have hb : (decide ((0 : Int) ≤ k) && decide (k ≤ 19)) = true := by rw [decide_eq_true h.1, decide_eq_true (by omega)]; rfl
    rw [if_pos hb, if_neg fun z => z h]
    by_cases h2 : ((Vbenah.at_ f n).cards.length : Int) ≤ k
    · rw [if_pos h2]
      refine Or.inl ⟨by decide, ?_⟩
      show (if k.toNat < (Vbenah.at_ f n).cards.length then _ else _) = _
      rw [if_neg (by omega)]
    · rw [if_neg h2]
      refine Or.inr ⟨rfl, k.toNat, (Int.toNat_of_nonneg h.1).symm, by omega, ?_⟩
      show (if k.toNat < (Vbenah.at_ f n).cards.length then _ else _) = _
      rw [if_pos (by omega)]
      rfl
  · have hb : ¬ (decide ((0 : Int) ≤ k) && decide (k ≤ 19)) = true := fun z => h (by rw [Bool.and_eq_true, decide_eq_true_iff, decide_eq_true_iff] at z; exact ⟨z.1, by omega⟩)
    rw [if_neg hb, if_pos h]
    exact Or.inl ⟨by decide, rfl⟩
theorem act_cases (o : Ok f xs) (m : Nat) (k : Int) {β : Type} (body : Nat → Vbenah.Res β) : (refN xs k m < 0 ∧ (Vbenah.ranged k 0 79 >>= fun k => if f.acts.length ≤ k + m then .error (-5) else body k) = .error (refN xs k m)) ∨
    (refN xs k m = 0 ∧ ∃ n : Nat, k = (n : Nat) ∧ n + m < f.acts.length ∧ (Vbenah.ranged k 0 79 >>= fun k => if f.acts.length ≤ k + m then .error (-5) else body k) = body n) := by
  have lx := o.len
  unfold Vbenah.ranged refN VbenCore.isBetween
  by_cases h : 0 ≤ k ∧ k < 80
  · have hb : (decide ((0 : Int) ≤ k) && decide (k ≤ 79)) = true := by rw [decide_eq_true h.1, decide_eq_true (by omega)]; rfl
    rw [if_pos hb, if_neg fun z => z h]
    by_cases h2 : (xs.length : Int) ≤ k + m
    · rw [if_pos h2]
      refine Or.inl ⟨by decide, ?_⟩
      show (if f.acts.length ≤ k.toNat + m then _ else _) = _
      rw [if_pos (by omega)]
    · rw [if_neg h2]
      refine Or.inr ⟨rfl, k.toNat, (Int.toNat_of_nonneg h.1).symm, by omega, ?_⟩
      show (if f.acts.length ≤ k.toNat + m then _ else _) = _
      rw [if_neg (by omega)]
  · have hb : ¬ (decide ((0 : Int) ≤ k) && decide (k ≤ 79)) = true := fun z => h (by rw [Bool.and_eq_true, decide_eq_true_iff, decide_eq_true_iff] at z; exact ⟨z.1, by omega⟩)
    rw [if_neg hb, if_pos h]
    exact Or.inl ⟨by decide, rfl⟩
def RunOk (f : File) (xs : List NAct) (ks : List Kd) (ns : List Int) (c : Vbenah.Call) (P : File → List Nat → Prop) (G : List Nat → File × List Int) : Prop :=
  (refBy f xs (ns.headD 0).toNat ks ns < 0 ∧ Vbenah.run f c = .error (refBy f xs (ns.headD 0).toNat ks ns)) ∨
    (¬ refBy f xs (ns.headD 0).toNat ks ns < 0 ∧ ∃ ms : List Nat, ns = ms.map (fun m : Nat => (m : Int)) ∧ P f ms ∧ Vbenah.run f c = .ok (G ms))
section
variable {f : File} {xs : List NAct} {n : Int} {k0 : Nat} {ks : List Kd} {ns : List Int}
theorem kN (h : refA xs n < 0) : refBy f xs k0 (.k :: ks) (n :: ns) = refA xs n := if_pos h
theorem kZ (h : refA xs n = 0) : refBy f xs k0 (.k :: ks) (n :: ns) = refBy f xs k0 ks ns := if_neg (show ¬ refA xs n < 0 by rw [h]; decide)
theorem wN (h : refW f n < 0) : refBy f xs k0 (.w :: ks) (n :: ns) = refW f n := if_pos h
theorem wZ (h : refW f n = 0) : refBy f xs k0 (.w :: ks) (n :: ns) = refBy f xs k0 ks ns := if_neg (show ¬ refW f n < 0 by rw [h]; decide)
theorem cN (h : refC xs k0 n < 0) : refBy f xs k0 (.c :: ks) (n :: ns) = refC xs k0 n := if_pos h
theorem cZ (h : refC xs k0 n = 0) : refBy f xs k0 (.c :: ks) (n :: ns) = refBy f xs k0 ks ns := if_neg (show ¬ refC xs k0 n < 0 by rw [h]; decide)
theorem aN (h : refN xs n 0 < 0) : refBy f xs k0 (.a :: ks) (n :: ns) = refN xs n 0 := if_pos h
theorem aZ (h : refN xs n 0 = 0) : refBy f xs k0 (.a :: ks) (n :: ns) = refBy f xs k0 ks ns := if_neg (show ¬ refN xs n 0 < 0 by rw [h]; decide)
theorem nN (h : refN xs n 1 < 0) : refBy f xs k0 (.n :: ks) (n :: ns) = refN xs n 1 := if_pos h
theorem nZ (h : refN xs n 1 = 0) : refBy f xs k0 (.n :: ks) (n :: ns) = refBy f xs k0 ks ns := if_neg (show ¬ refN xs n 1 < 0 by rw [h]; decide)
theorem zZ : ¬ refBy f xs k0 [] [] < 0 := Int.lt_irrefl 0
end
theorem run_k (o : Ok f xs) (k : Int) (c : Vbenah.Call) (body : Nat → File × List Int) (hc : Vbenah.run f c = (Vbenah.actsTo f k >>= fun k => .ok (body k))) : RunOk f xs [.k] [k] c Pk fun ms => body (ms.headD 0) := by
  rcases acts_cases o k with ⟨h1, h2⟩ | ⟨h1, n, h2, h3, h4⟩
  · exact Or.inl (by rw [kN h1, hc, h2]; exact ⟨h1, rfl⟩)
  · refine Or.inr ⟨by rw [kZ h1]; exact zZ, [n], by rw [h2]; rfl, ⟨n, rfl, h3⟩, ?_⟩
    rw [hc, h4]
    rfl
theorem run_kw (o : Ok f xs) (k w : Int) (c : Vbenah.Call) (body : Nat → Nat → List Int) (hc : Vbenah.run f c = (Vbenah.actsTo f k >>= fun k => Vbenah.wordAt f w >>= fun w => .ok (f, body k w))) : RunOk f xs [.k, .w] [k, w] c Pkw fun ms => (f, a2 body ms) := by
  rcases acts_cases o k with ⟨h1, h2⟩ | ⟨h1, n, h2, h3, h4⟩
  · exact Or.inl (by rw [kN h1, hc, h2]; exact ⟨h1, rfl⟩)
  · rcases word_cases f w with ⟨g1, g2⟩ | ⟨g1, m, g2, g3, g4⟩
    · refine Or.inl ?_
      rw [kZ h1, wN g1, hc, h4]
      exact ⟨g1, by show (Vbenah.wordAt f w >>= _) = _; rw [g2]; rfl⟩
    · refine Or.inr ⟨by rw [kZ h1, wZ g1]; exact zZ, [n, m], by rw [h2, g2]; rfl, ⟨n, m, rfl, h3, g3⟩, ?_⟩
      rw [hc, h4]
      show (Vbenah.wordAt f w >>= _) = _
      rw [g4]
      rfl
theorem run_kc (o : Ok f xs) (k w : Int) (c : Vbenah.Call) (body : Nat → Nat → List Int) (hc : Vbenah.run f c = (Vbenah.actsTo f k >>= fun k => Vbenah.cardNo f k w >>= fun w => .ok (f, body k w))) : RunOk f xs [.k, .c] [k, w] c Pkc fun ms => (f, a2 body ms) := by
  rcases acts_cases o k with ⟨h1, h2⟩ | ⟨h1, n, h2, h3, h4⟩
  · exact Or.inl (by rw [kN h1, hc, h2]; exact ⟨h1, rfl⟩)
  · have hk : (([k, w] : List Int).headD 0).toNat = n := by rw [h2]; rfl
    rcases card_cases o n w with ⟨g1, g2⟩ | ⟨g1, m, g2, g3, g4⟩
    · refine Or.inl ?_
      have g1' : refC xs (([k, w] : List Int).headD 0).toNat w < 0 := by rw [hk]; exact g1
      rw [kZ h1, cN g1', hc, h4]
      exact ⟨g1', by show (Vbenah.cardNo f n w >>= _) = _; rw [g2, hk]; rfl⟩
    · have g1' : refC xs (([k, w] : List Int).headD 0).toNat w = 0 := by rw [hk]; exact g1
      refine Or.inr ⟨by rw [kZ h1, cZ g1']; exact zZ, [n, m], by rw [h2, g2]; rfl, ⟨n, m, rfl, h3, g3⟩, ?_⟩
      rw [hc, h4]
      show (Vbenah.cardNo f n w >>= _) = _
      rw [g4]
      rfl
theorem run_kww (o : Ok f xs) (k w b : Int) (c : Vbenah.Call) (body : Nat → Nat → Nat → List Int) (hc : Vbenah.run f c = (Vbenah.actsTo f k >>= fun k => Vbenah.wordAt f w >>= fun w => Vbenah.wordAt f b >>= fun b => .ok (f, body k w b))) : RunOk f xs [.k, .w, .w] [k, w, b] c Pkww fun ms => (f, a3 body ms) := by
  rcases acts_cases o k with ⟨h1, h2⟩ | ⟨h1, n, h2, h3, h4⟩
  · exact Or.inl (by rw [kN h1, hc, h2]; exact ⟨h1, rfl⟩)
  · rcases word_cases f w with ⟨g1, g2⟩ | ⟨g1, m, g2, g3, g4⟩
    · refine Or.inl ?_
      rw [kZ h1, wN g1, hc, h4]
      exact ⟨g1, by show (Vbenah.wordAt f w >>= _) = _; rw [g2]; rfl⟩
    · rcases word_cases f b with ⟨e1, e2⟩ | ⟨e1, l, e2, e3, e4⟩
      · refine Or.inl ?_
        rw [kZ h1, wZ g1, wN e1, hc, h4]
        exact ⟨e1, by show (Vbenah.wordAt f w >>= _) = _; rw [g4]; show (Vbenah.wordAt f b >>= _) = _; rw [e2]; rfl⟩
      · refine Or.inr ⟨by rw [kZ h1, wZ g1, wZ e1]; exact zZ, [n, m, l], by rw [h2, g2, e2]; rfl, ⟨n, m, l, rfl, h3, g3, e3⟩, ?_⟩
        rw [hc, h4]
        show (Vbenah.wordAt f w >>= _) = _
        rw [g4]
        show (Vbenah.wordAt f b >>= _) = _
        rw [e4]
        rfl
theorem run_kwc (o : Ok f xs) (k w b : Int) (c : Vbenah.Call) (body : Nat → Nat → Nat → List Int) (hc : Vbenah.run f c = (Vbenah.actsTo f k >>= fun k => Vbenah.wordAt f w >>= fun w => Vbenah.cardNo f k b >>= fun b => .ok (f, body k w b))) : RunOk f xs [.k, .w, .c] [k, w, b] c Pkwc fun ms => (f, a3 body ms) := by
  rcases acts_cases o k with ⟨h1, h2⟩ | ⟨h1, n, h2, h3, h4⟩
  · exact Or.inl (by rw [kN h1, hc, h2]; exact ⟨h1, rfl⟩)
  · have hk : (([k, w, b] : List Int).headD 0).toNat = n := by rw [h2]; rfl
    rcases word_cases f w with ⟨g1, g2⟩ | ⟨g1, m, g2, g3, g4⟩
    · refine Or.inl ?_
      rw [kZ h1, wN g1, hc, h4]
      exact ⟨g1, by show (Vbenah.wordAt f w >>= _) = _; rw [g2]; rfl⟩
    · rcases card_cases o n b with ⟨e1, e2⟩ | ⟨e1, l, e2, e3, e4⟩
      · refine Or.inl ?_
        have e1' : refC xs (([k, w, b] : List Int).headD 0).toNat b < 0 := by rw [hk]; exact e1
        rw [kZ h1, wZ g1, cN e1', hc, h4]
        exact ⟨e1', by show (Vbenah.wordAt f w >>= _) = _; rw [g4]; show (Vbenah.cardNo f n b >>= _) = _; rw [e2, hk]; rfl⟩
      · have e1' : refC xs (([k, w, b] : List Int).headD 0).toNat b = 0 := by rw [hk]; exact e1
        refine Or.inr ⟨by rw [kZ h1, wZ g1, cZ e1']; exact zZ, [n, m, l], by rw [h2, g2, e2]; rfl, ⟨n, m, l, rfl, h3, g3, e3⟩, ?_⟩
        rw [hc, h4]
        show (Vbenah.wordAt f w >>= _) = _
        rw [g4]
        show (Vbenah.cardNo f n b >>= _) = _
        rw [e4]
        rfl
theorem run_a (o : Ok f xs) (k : Int) (c : Vbenah.Call) (body : Nat → List Int) (hc : Vbenah.run f c = (Vbenah.ranged k 0 79 >>= fun k => if f.acts.length ≤ k then .error (-5) else .ok (f, body k))) : RunOk f xs [.a] [k] c Pa fun ms => (f, a1 body ms) := by
  rcases act_cases o 0 k (fun k => .ok (f, body k)) with ⟨h1, h2⟩ | ⟨h1, n, h2, h3, h4⟩
  · exact Or.inl (by rw [aN h1, hc]; exact ⟨h1, h2⟩)
  · refine Or.inr ⟨by rw [aZ h1]; exact zZ, [n], by rw [h2]; rfl, ⟨n, rfl, h3⟩, ?_⟩
    rw [hc]
    exact h4
theorem run_n (o : Ok f xs) (k : Int) (c : Vbenah.Call) (body : Nat → List Int) (hc : Vbenah.run f c = (Vbenah.ranged k 0 79 >>= fun k => if f.acts.length ≤ k + 1 then .error (-5) else .ok (f, body k))) : RunOk f xs [.n] [k] c Pn fun ms => (f, a1 body ms) := by
  rcases act_cases o 1 k (fun k => .ok (f, body k)) with ⟨h1, h2⟩ | ⟨h1, n, h2, h3, h4⟩
  · exact Or.inl (by rw [nN h1, hc]; exact ⟨h1, h2⟩)
  · refine Or.inr ⟨by rw [nZ h1]; exact zZ, [n], by rw [h2]; rfl, ⟨n, rfl, h3⟩, ?_⟩
    rw [hc]
    exact h4
theorem nest_run (f : File) (k : Int) : Vbenah.run f (.nest k) = (Vbenah.actsTo f k >>= fun k => .ok (f, nestAns f k)) := by
  show (Vbenah.actsTo f k >>= fun k => _) = _
  congr 1
  funext n
  unfold nestAns
  cases Vbenah.unnested f (Vbenah.at_ f n) <;> rfl
theorem mixers_run (f : File) (k w : Int) : Vbenah.run f (.mixers k w) = (Vbenah.actsTo f k >>= fun k => Vbenah.wordAt f w >>= fun w => .ok (f, mixAns f k w)) := by
  show (Vbenah.actsTo f k >>= fun k => Vbenah.wordAt f w >>= fun w => _) = _
  congr 1
  funext n
  congr 1
  funext m
  unfold mixAns
  cases Vbenah.mixers f (Vbenah.at_ f n) m <;> rfl
theorem way_run (f : File) (k w b : Int) : Vbenah.run f (.way k w b) = (Vbenah.actsTo f k >>= fun k => Vbenah.wordAt f w >>= fun w => Vbenah.wordAt f b >>= fun b => .ok (f, wayAns f k w b)) := by
  show (Vbenah.actsTo f k >>= fun k => Vbenah.wordAt f w >>= fun w => Vbenah.wordAt f b >>= fun b => _) = _
  congr 1
  funext n
  congr 1
  funext m
  congr 1
  funext l
  unfold wayAns
  cases Vbenah.stepsUp (Vbenah.at_ f n).pairs f.words.length m l <;> rfl
end
theorem held_of {P : Program} {w : World} {K : PySem.W.Frag} {mg : Str → Option Value} {base : Heap} {j k : Nat} {x : Str} {sp : Sp} (c : Cal P w K mg base CX0 j x sp) (hg : mg x = some (.ref (He.ga K x))) (h : j ≤ k) : Held P w K mg base k (He.ga K x) sp := by
  obtain ⟨f, fd, ps, F, hm, kp, b⟩ := c.ex
  rw [hg] at hm
  cases hm
  exact ⟨fd, ps, F.mono h, kp, b⟩
theorem ints_of (ms : List Nat) : (ms.map (fun m : Nat => (m : Int))).map V.int = nV ms := by
  rw [List.map_map]
  rfl
def sp_answer (K : PySem.W.Frag) : Sp := fun vs H Q _ => ∃ (d np rp L : Addr) (l : List V) (f : File) (xs : List NAct) (w : Nat) (ns row : List Int) (c : Vbenah.Call), vs = [.ref d, .int (w : Nat), .ref np, .ref rp] ∧ H L = some (.lst l) ∧ DeskV K (less [L] H) d f xs ∧ Ok f xs ∧ H np = some (.lst (ns.map V.int)) ∧ H rp = some (.lst (row.map V.int)) ∧ row.length ≤ 2000 ∧ IsC w ns row c ∧
  ∀ H' q g ys ans, But [d] H H' → DeskV K (less [L] H') d g ys → Ok g ys → H' q = some (.lst (ans.map V.int)) → H q = none → stp f c = (g, ans) → Q (.ref q) H'
theorem len_answer (K : PySem.W.Frag) : ∀ vs H Q E, sp_answer K vs H Q E → vs.length = 4 := fun _ _ _ _ ⟨_, _, _, _, _, _, _, _, _, _, _, h, _⟩ => by rw [h]; rfl
theorem sc_answer : FnScope (["desk", "word", "numbers", "row", "refused", "deed"] : List Str) ["desk", "word", "numbers", "row"] (defScope s_answer) := C8.fnScope_by (by decide +kernel)
theorem c_answer (E : Env P w K mg base) : Cal P w K mg base CX0 12 "answer" (sp_answer K) := by
  have sc := sc_answer
  refine mkCal (st := s_answer) (E.top.d.def_ 76 (d := d_answer) rfl) (E.glo 76) sc (fun _ _ _ _ _ _ us hl => match us, hl with | [_, _, _, _], _ => rfl) (len_answer K) (fun cdv A outer s H vs Q X hr h => ⟨_, PSs.nox ((pss_cons (ps_set (i := 4) sc.nd rfl (Or.inl rfl) (pe_c (c_refused_by E) hr (by decide) rfl pass0 (pa_cons (pv 0) (pa_cons (pe_ix (ixT (K := K)) (C8.pe_gc rfl (g_KINDS E)) (pv 1) (fun _ _ => rfl)) (pa_cons (pv 2) pa_nil)))))
    (pss_cons (ps_if (pt_cmpR op_lt (pv 4) pe_int (nomark _)) (pss_one (ps_ret (pe_lst (pa_cons (pv 4) pa_nil)))) pss_nil)
    (pss_cons (ps_set (i := 5) sc.nd rfl (Or.inl rfl) (pe_ix (ixT (K := K)) (C8.pe_gc rfl (g_DEEDS E)) (pv 1) (fun _ _ => rfl)))
    (pss_one (ps_ret (pe_held (i := 5) hr rfl (Or.inl rfl) (pa_cons (pv 0) (pa_cons (pv 2) (pa_cons (pv 3) pa_nil)))))))))), ?_⟩)
  obtain ⟨d, np, rp, L0, l0, f, xs, w', ns, row, c, rfl, hL0, hD0, o, hn, hr0, hl, hC, k⟩ := h
  have hD := hD0.same less_sub
  have kinds := fun H => He.tupB_ok E.tups.2.2.1 H
  have deeds := fun H => He.tupB_ok E.tups.2.1 H
  have hln := o.nv.ln
  cases hC with
  | clear =>
    refine ⟨_, rfl, _, rfl, He.ga K "KINDS", _, 0, .str "", rfl, rfl, kinds H, rfl, _, rfl, d, np, f, xs, "", [], [], rfl, by decide +kernel, rfl, by decide, (fun i h => by cases h), hD, hln, hn, fun H1 s1 => ⟨_, rfl, _, 0, rfl, rfl, _, rfl, ?_⟩⟩
    have hD1 := hD0.same (Same.less s1)
    have hL1 := s1 _ _ hL0
    refine if_f rfl ⟨_, rfl, He.ga K "DEEDS", _, 0, .ref (He.ga K "clear"), rfl, rfl, deeds _, rfl, He.ga K "clear", sp_clear K, rfl, held_of (c_clear E) (E.glo 53) (by decide), _, rfl, _, rfl, _, rfl, ?_⟩
    exact ⟨d, np, rp, L0, l0, f, xs, [], rfl, hL1, hD1, o, s1 _ _ hn, rfl, fun H2 q b2 hD2 o2 e2 hq => k H2 q Vbenah.start [] [0] ((But.of s1).trans b2) hD2 o2 e2 (s1.free hq) (stp_ok rfl)⟩
  | file =>
    refine ⟨_, rfl, _, rfl, He.ga K "KINDS", _, 1, .str "", rfl, rfl, kinds H, rfl, _, rfl, d, np, f, xs, "", [], [], rfl, by decide +kernel, rfl, by decide, (fun i h => by cases h), hD, hln, hn, fun H1 s1 => ⟨_, rfl, _, 0, rfl, rfl, _, rfl, ?_⟩⟩
    have hD1 := hD0.same (Same.less s1)
    have hL1 := s1 _ _ hL0
    refine if_f rfl ⟨_, rfl, He.ga K "DEEDS", _, 1, .ref (He.ga K "put_file"), rfl, rfl, deeds _, rfl, He.ga K "put_file", sp_put_file K, rfl, held_of (c_put_file E) (E.glo 54) (by decide), _, rfl, _, rfl, _, rfl, ?_⟩
    exact ⟨d, np, rp, L0, l0, f, xs, row, rfl, hL1, hD1, o, s1 _ _ hr0, hl, fun H2 q g ys ans b2 hD2 o2 e2 hq hst => k H2 q g ys ans ((But.of s1).trans b2) hD2 o2 e2 (s1.free hq) hst⟩
  | look =>
    refine ⟨_, rfl, _, rfl, He.ga K "KINDS", _, 2, .str "", rfl, rfl, kinds H, rfl, _, rfl, d, np, f, xs, "", [], [], rfl, by decide +kernel, rfl, by decide, (fun i h => by cases h), hD, hln, hn, fun H1 s1 => ⟨_, rfl, _, 0, rfl, rfl, _, rfl, ?_⟩⟩
    have hD1 := hD0.same (Same.less s1)
    have hL1 := s1 _ _ hL0
    refine if_f rfl ⟨_, rfl, He.ga K "DEEDS", _, 2, .ref (He.ga K "look"), rfl, rfl, deeds _, rfl, He.ga K "look", sp_look K, rfl, held_of (c_look E) (E.glo 55) (by decide), _, rfl, _, rfl, _, rfl, ?_⟩
    exact ⟨d, np, rp, L0, l0, f, xs, row, rfl, hL1, hD1, o, s1 _ _ hr0, hl, fun H2 q g ys ans b2 hD2 o2 e2 hq hst => k H2 q g ys ans ((But.of s1).trans b2) hD2 o2 e2 (s1.free hq) hst⟩
  | text =>
    refine ⟨_, rfl, _, rfl, He.ga K "KINDS", _, 3, .str "", rfl, rfl, kinds H, rfl, _, rfl, d, np, f, xs, "", [], [], rfl, by decide +kernel, rfl, by decide, (fun i h => by cases h), hD, hln, hn, fun H1 s1 => ⟨_, rfl, _, 0, rfl, rfl, _, rfl, ?_⟩⟩
    have hD1 := hD0.same (Same.less s1)
    have hL1 := s1 _ _ hL0
    refine if_f rfl ⟨_, rfl, He.ga K "DEEDS", _, 3, .ref (He.ga K "text"), rfl, rfl, deeds _, rfl, He.ga K "text", sp_text K, rfl, held_of (c_text E) (E.glo 56) (by decide), _, rfl, _, rfl, _, rfl, ?_⟩
    exact ⟨d, np, rp, f, xs, [], rfl, hD.same s1, o, s1 _ _ hn, rfl, fun H2 q s2 nq e2 => k H2 q f xs _ (But.of (Same.trans s1 s2)) (hD1.same (Same.less s2)) o e2 (s1.free nq) (stp_ok rfl)⟩
  | act =>
    refine ⟨_, rfl, _, rfl, He.ga K "KINDS", _, 4, .str "", rfl, rfl, kinds H, rfl, _, rfl, d, np, f, xs, "", [], [], rfl, by decide +kernel, rfl, by decide, (fun i h => by cases h), hD, hln, hn, fun H1 s1 => ⟨_, rfl, _, 0, rfl, rfl, _, rfl, ?_⟩⟩
    have hD1 := hD0.same (Same.less s1)
    have hL1 := s1 _ _ hL0
    refine if_f rfl ⟨_, rfl, He.ga K "DEEDS", _, 4, .ref (He.ga K "put_act"), rfl, rfl, deeds _, rfl, He.ga K "put_act", sp_put_act K, rfl, held_of (c_put_act E) (E.glo 57) (by decide), _, rfl, _, rfl, _, rfl, ?_⟩
    exact ⟨d, np, rp, L0, l0, f, xs, row, rfl, hL1, hD1, o, s1 _ _ hr0, hl, fun H2 q g ys ans b2 hD2 o2 e2 hq hst => k H2 q g ys ans ((But.of s1).trans b2) hD2 o2 e2 (s1.free hq) hst⟩
  | undo x0 =>
    refine ⟨_, rfl, _, rfl, He.ga K "KINDS", _, 5, .str "k", rfl, rfl, kinds H, rfl, _, rfl, d, np, f, xs, "k", [.k], [x0], rfl, by decide +kernel, rfl, by decide, (fun i h => match i, h with | 0, h => by cases h | i + 1, _ => ⟨Nat.succ_pos _, rfl⟩), hD, hln, hn, fun H1 s1 => ⟨_, rfl, _, 0, rfl, rfl, _, rfl, ?_⟩⟩
    have hD1 := hD0.same (Same.less s1)
    have hL1 := s1 _ _ hL0
    rcases run_k o x0 (.undo x0) (fun n => ({ f with acts := f.acts.take n }, [(n : Int)])) rfl with ⟨g1, g2⟩ | ⟨g1, ms, g2, g3, g4⟩
    · exact if_t (decide_eq_true g1) ⟨_, rfl, (show 1 ≤ sizeLine by decide), fun L nL => k _ L f xs [_] (But.of (Same.trans s1 (Same.new nL))) (hD1.same (Same.less (Same.new nL))) o upd_same (s1.free nL) (stp_err g2)⟩
    · refine if_f (decide_eq_false g1) ⟨_, rfl, He.ga K "DEEDS", _, 5, .ref (He.ga K "undo"), rfl, rfl, deeds _, rfl, He.ga K "undo", sp_undo K, rfl, held_of (c_undo E) (E.glo 58) (by decide), _, rfl, _, rfl, _, rfl, ?_⟩
      have hn1 := s1 _ _ hn
      rw [g2, ints_of] at hn1
      obtain ⟨n, rfl, hk⟩ := g3
      exact ⟨d, np, rp, L0, l0, f, xs, [n], rfl, hL1, hD1, o, hn1, ⟨n, rfl, hk⟩, fun H2 q b2 hD2 o2 e2 hq => k H2 q (pre f n) (xs.take n) [(n : Int)] ((But.of s1).trans b2) hD2 o2 e2 (s1.free hq) (stp_ok g4)⟩
  | told =>
    refine ⟨_, rfl, _, rfl, He.ga K "KINDS", _, 6, .str "", rfl, rfl, kinds H, rfl, _, rfl, d, np, f, xs, "", [], [], rfl, by decide +kernel, rfl, by decide, (fun i h => by cases h), hD, hln, hn, fun H1 s1 => ⟨_, rfl, _, 0, rfl, rfl, _, rfl, ?_⟩⟩
    have hD1 := hD0.same (Same.less s1)
    have hL1 := s1 _ _ hL0
    refine if_f rfl ⟨_, rfl, He.ga K "DEEDS", _, 6, .ref (He.ga K "told_call"), rfl, rfl, deeds _, rfl, He.ga K "told_call", sp_told_call K, rfl, held_of (c_told_call E) (E.glo 59) (by decide), _, rfl, _, rfl, _, rfl, ?_⟩
    exact ⟨d, np, rp, f, xs, [], rfl, hD.same s1, o, s1 _ _ hn, rfl, fun H2 q s2 nq e2 => k H2 q f xs _ (But.of (Same.trans s1 s2)) (hD1.same (Same.less s2)) o e2 (s1.free nq) (stp_ok rfl)⟩
  | above x0 x1 =>
    refine ⟨_, rfl, _, rfl, He.ga K "KINDS", _, 7, .str "kw", rfl, rfl, kinds H, rfl, _, rfl, d, np, f, xs, "kw", [.k, .w], [x0, x1], rfl, by decide +kernel, rfl, by decide, (fun i h => match i, h with | 0, h => by cases h | i + 1, _ => ⟨Nat.succ_pos _, rfl⟩), hD, hln, hn, fun H1 s1 => ⟨_, rfl, _, 0, rfl, rfl, _, rfl, ?_⟩⟩
    have hD1 := hD0.same (Same.less s1)
    have hL1 := s1 _ _ hL0
    rcases run_kw o x0 x1 (.above x0 x1) (fun k w => Vbenah.listRow (Vbenah.above (Vbenah.at_ f k).pairs f.words.length w)) rfl with ⟨g1, g2⟩ | ⟨g1, ms, g2, g3, g4⟩
    · exact if_t (decide_eq_true g1) ⟨_, rfl, (show 1 ≤ sizeLine by decide), fun L nL => k _ L f xs [_] (But.of (Same.trans s1 (Same.new nL))) (hD1.same (Same.less (Same.new nL))) o upd_same (s1.free nL) (stp_err g2)⟩
    · refine if_f (decide_eq_false g1) ⟨_, rfl, He.ga K "DEEDS", _, 7, .ref (He.ga K "above_call"), rfl, rfl, deeds _, rfl, He.ga K "above_call", sp_above_call K, rfl, held_of (c_above_call E) (E.glo 60) (by decide), _, rfl, _, rfl, _, rfl, ?_⟩
      have hn1 := s1 _ _ hn
      rw [g2, ints_of] at hn1
      exact ⟨d, np, rp, f, xs, ms, rfl, hD.same s1, o, hn1, g3, fun H2 q s2 nq e2 => k H2 q f xs _ (But.of (Same.trans s1 s2)) (hD1.same (Same.less s2)) o e2 (s1.free nq) (stp_ok g4)⟩
  | below x0 x1 =>
    refine ⟨_, rfl, _, rfl, He.ga K "KINDS", _, 8, .str "kw", rfl, rfl, kinds H, rfl, _, rfl, d, np, f, xs, "kw", [.k, .w], [x0, x1], rfl, by decide +kernel, rfl, by decide, (fun i h => match i, h with | 0, h => by cases h | i + 1, _ => ⟨Nat.succ_pos _, rfl⟩), hD, hln, hn, fun H1 s1 => ⟨_, rfl, _, 0, rfl, rfl, _, rfl, ?_⟩⟩
    have hD1 := hD0.same (Same.less s1)
    have hL1 := s1 _ _ hL0
    rcases run_kw o x0 x1 (.below x0 x1) (fun k w => Vbenah.listRow ((List.range f.words.length).filter fun x => Vbenah.isUnder (Vbenah.at_ f k).pairs f.words.length x w)) rfl with ⟨g1, g2⟩ | ⟨g1, ms, g2, g3, g4⟩
    · exact if_t (decide_eq_true g1) ⟨_, rfl, (show 1 ≤ sizeLine by decide), fun L nL => k _ L f xs [_] (But.of (Same.trans s1 (Same.new nL))) (hD1.same (Same.less (Same.new nL))) o upd_same (s1.free nL) (stp_err g2)⟩
    · refine if_f (decide_eq_false g1) ⟨_, rfl, He.ga K "DEEDS", _, 8, .ref (He.ga K "below_call"), rfl, rfl, deeds _, rfl, He.ga K "below_call", sp_below_call K, rfl, held_of (c_below_call E) (E.glo 61) (by decide), _, rfl, _, rfl, _, rfl, ?_⟩
      have hn1 := s1 _ _ hn
      rw [g2, ints_of] at hn1
      exact ⟨d, np, rp, f, xs, ms, rfl, hD.same s1, o, hn1, g3, fun H2 q s2 nq e2 => k H2 q f xs _ (But.of (Same.trans s1 s2)) (hD1.same (Same.less s2)) o e2 (s1.free nq) (stp_ok g4)⟩
  | posted x0 x1 =>
    refine ⟨_, rfl, _, rfl, He.ga K "KINDS", _, 9, .str "kw", rfl, rfl, kinds H, rfl, _, rfl, d, np, f, xs, "kw", [.k, .w], [x0, x1], rfl, by decide +kernel, rfl, by decide, (fun i h => match i, h with | 0, h => by cases h | i + 1, _ => ⟨Nat.succ_pos _, rfl⟩), hD, hln, hn, fun H1 s1 => ⟨_, rfl, _, 0, rfl, rfl, _, rfl, ?_⟩⟩
    have hD1 := hD0.same (Same.less s1)
    have hL1 := s1 _ _ hL0
    rcases run_kw o x0 x1 (.posted x0 x1) (fun k w => Vbenah.listRow (Vbenah.holesOf f.holes (Vbenah.posted f (Vbenah.at_ f k).pairs w))) rfl with ⟨g1, g2⟩ | ⟨g1, ms, g2, g3, g4⟩
    · exact if_t (decide_eq_true g1) ⟨_, rfl, (show 1 ≤ sizeLine by decide), fun L nL => k _ L f xs [_] (But.of (Same.trans s1 (Same.new nL))) (hD1.same (Same.less (Same.new nL))) o upd_same (s1.free nL) (stp_err g2)⟩
    · refine if_f (decide_eq_false g1) ⟨_, rfl, He.ga K "DEEDS", _, 9, .ref (He.ga K "posted_call"), rfl, rfl, deeds _, rfl, He.ga K "posted_call", sp_posted_call K, rfl, held_of (c_posted_call E) (E.glo 62) (by decide), _, rfl, _, rfl, _, rfl, ?_⟩
      have hn1 := s1 _ _ hn
      rw [g2, ints_of] at hn1
      exact ⟨d, np, rp, f, xs, ms, rfl, hD.same s1, o, hn1, g3, fun H2 q s2 nq e2 => k H2 q f xs _ (But.of (Same.trans s1 s2)) (hD1.same (Same.less s2)) o e2 (s1.free nq) (stp_ok g4)⟩
  | card x0 x1 =>
    refine ⟨_, rfl, _, rfl, He.ga K "KINDS", _, 10, .str "kc", rfl, rfl, kinds H, rfl, _, rfl, d, np, f, xs, "kc", [.k, .c], [x0, x1], rfl, by decide +kernel, rfl, by decide, (fun i h => match i, h with | 0, h => by cases h | i + 1, _ => ⟨Nat.succ_pos _, rfl⟩), hD, hln, hn, fun H1 s1 => ⟨_, rfl, _, 0, rfl, rfl, _, rfl, ?_⟩⟩
    have hD1 := hD0.same (Same.less s1)
    have hL1 := s1 _ _ hL0
    rcases run_kc o x0 x1 (.card x0 x1) (cardAns f) rfl with ⟨g1, g2⟩ | ⟨g1, ms, g2, g3, g4⟩
    · exact if_t (decide_eq_true g1) ⟨_, rfl, (show 1 ≤ sizeLine by decide), fun L nL => k _ L f xs [_] (But.of (Same.trans s1 (Same.new nL))) (hD1.same (Same.less (Same.new nL))) o upd_same (s1.free nL) (stp_err g2)⟩
    · refine if_f (decide_eq_false g1) ⟨_, rfl, He.ga K "DEEDS", _, 10, .ref (He.ga K "card_call"), rfl, rfl, deeds _, rfl, He.ga K "card_call", sp_card_call K, rfl, held_of (c_card_call E) (E.glo 63) (by decide), _, rfl, _, rfl, _, rfl, ?_⟩
      have hn1 := s1 _ _ hn
      rw [g2, ints_of] at hn1
      exact ⟨d, np, rp, f, xs, ms, rfl, hD.same s1, o, hn1, g3, fun H2 q s2 nq e2 => k H2 q f xs _ (But.of (Same.trans s1 s2)) (hD1.same (Same.less s2)) o e2 (s1.free nq) (stp_ok g4)⟩
  | falls x0 x1 =>
    refine ⟨_, rfl, _, rfl, He.ga K "KINDS", _, 11, .str "kw", rfl, rfl, kinds H, rfl, _, rfl, d, np, f, xs, "kw", [.k, .w], [x0, x1], rfl, by decide +kernel, rfl, by decide, (fun i h => match i, h with | 0, h => by cases h | i + 1, _ => ⟨Nat.succ_pos _, rfl⟩), hD, hln, hn, fun H1 s1 => ⟨_, rfl, _, 0, rfl, rfl, _, rfl, ?_⟩⟩
    have hD1 := hD0.same (Same.less s1)
    have hL1 := s1 _ _ hL0
    rcases run_kw o x0 x1 (.falls x0 x1) (fun k w => Vbenah.listRow (Vbenah.cardsWith f k fun c => Vbenah.fallsFor f (Vbenah.cardAt (Vbenah.at_ f k) c) w)) rfl with ⟨g1, g2⟩ | ⟨g1, ms, g2, g3, g4⟩
    · exact if_t (decide_eq_true g1) ⟨_, rfl, (show 1 ≤ sizeLine by decide), fun L nL => k _ L f xs [_] (But.of (Same.trans s1 (Same.new nL))) (hD1.same (Same.less (Same.new nL))) o upd_same (s1.free nL) (stp_err g2)⟩
    · refine if_f (decide_eq_false g1) ⟨_, rfl, He.ga K "DEEDS", _, 11, .ref (He.ga K "falls_call"), rfl, rfl, deeds _, rfl, He.ga K "falls_call", sp_falls_call K, rfl, held_of (c_falls_call E) (E.glo 64) (by decide), _, rfl, _, rfl, _, rfl, ?_⟩
      have hn1 := s1 _ _ hn
      rw [g2, ints_of] at hn1
      exact ⟨d, np, rp, f, xs, ms, rfl, hD.same s1, o, hn1, g3, fun H2 q s2 nq e2 => k H2 q f xs _ (But.of (Same.trans s1 s2)) (hD1.same (Same.less s2)) o e2 (s1.free nq) (stp_ok g4)⟩
  | wants x0 x1 =>
    refine ⟨_, rfl, _, rfl, He.ga K "KINDS", _, 12, .str "kw", rfl, rfl, kinds H, rfl, _, rfl, d, np, f, xs, "kw", [.k, .w], [x0, x1], rfl, by decide +kernel, rfl, by decide, (fun i h => match i, h with | 0, h => by cases h | i + 1, _ => ⟨Nat.succ_pos _, rfl⟩), hD, hln, hn, fun H1 s1 => ⟨_, rfl, _, 0, rfl, rfl, _, rfl, ?_⟩⟩
    have hD1 := hD0.same (Same.less s1)
    have hL1 := s1 _ _ hL0
    rcases run_kw o x0 x1 (.wants x0 x1) (fun k w => Vbenah.listRow (Vbenah.cardsWith f k fun c => Vbenah.wanted f (Vbenah.at_ f k).pairs (Vbenah.cardAt (Vbenah.at_ f k) c) w)) rfl with ⟨g1, g2⟩ | ⟨g1, ms, g2, g3, g4⟩
    · exact if_t (decide_eq_true g1) ⟨_, rfl, (show 1 ≤ sizeLine by decide), fun L nL => k _ L f xs [_] (But.of (Same.trans s1 (Same.new nL))) (hD1.same (Same.less (Same.new nL))) o upd_same (s1.free nL) (stp_err g2)⟩
    · refine if_f (decide_eq_false g1) ⟨_, rfl, He.ga K "DEEDS", _, 12, .ref (He.ga K "wants_call"), rfl, rfl, deeds _, rfl, He.ga K "wants_call", sp_wants_call K, rfl, held_of (c_wants_call E) (E.glo 65) (by decide), _, rfl, _, rfl, _, rfl, ?_⟩
      have hn1 := s1 _ _ hn
      rw [g2, ints_of] at hn1
      exact ⟨d, np, rp, f, xs, ms, rfl, hD.same s1, o, hn1, g3, fun H2 q s2 nq e2 => k H2 q f xs _ (But.of (Same.trans s1 s2)) (hD1.same (Same.less s2)) o e2 (s1.free nq) (stp_ok g4)⟩
  | judge x0 x1 =>
    refine ⟨_, rfl, _, rfl, He.ga K "KINDS", _, 13, .str "kw", rfl, rfl, kinds H, rfl, _, rfl, d, np, f, xs, "kw", [.k, .w], [x0, x1], rfl, by decide +kernel, rfl, by decide, (fun i h => match i, h with | 0, h => by cases h | i + 1, _ => ⟨Nat.succ_pos _, rfl⟩), hD, hln, hn, fun H1 s1 => ⟨_, rfl, _, 0, rfl, rfl, _, rfl, ?_⟩⟩
    have hD1 := hD0.same (Same.less s1)
    have hL1 := s1 _ _ hL0
    rcases run_kw o x0 x1 (.judge x0 x1) (judgeAns f) rfl with ⟨g1, g2⟩ | ⟨g1, ms, g2, g3, g4⟩
    · exact if_t (decide_eq_true g1) ⟨_, rfl, (show 1 ≤ sizeLine by decide), fun L nL => k _ L f xs [_] (But.of (Same.trans s1 (Same.new nL))) (hD1.same (Same.less (Same.new nL))) o upd_same (s1.free nL) (stp_err g2)⟩
    · refine if_f (decide_eq_false g1) ⟨_, rfl, He.ga K "DEEDS", _, 13, .ref (He.ga K "judge"), rfl, rfl, deeds _, rfl, He.ga K "judge", sp_judge K, rfl, held_of (c_judge E) (E.glo 66) (by decide), _, rfl, _, rfl, _, rfl, ?_⟩
      have hn1 := s1 _ _ hn
      rw [g2, ints_of] at hn1
      exact ⟨d, np, rp, f, xs, ms, rfl, hD.same s1, o, hn1, g3, fun H2 q s2 nq e2 => k H2 q f xs _ (But.of (Same.trans s1 s2)) (hD1.same (Same.less s2)) o e2 (s1.free nq) (stp_ok g4)⟩
  | lacks x0 x1 =>
    refine ⟨_, rfl, _, rfl, He.ga K "KINDS", _, 14, .str "kc", rfl, rfl, kinds H, rfl, _, rfl, d, np, f, xs, "kc", [.k, .c], [x0, x1], rfl, by decide +kernel, rfl, by decide, (fun i h => match i, h with | 0, h => by cases h | i + 1, _ => ⟨Nat.succ_pos _, rfl⟩), hD, hln, hn, fun H1 s1 => ⟨_, rfl, _, 0, rfl, rfl, _, rfl, ?_⟩⟩
    have hD1 := hD0.same (Same.less s1)
    have hL1 := s1 _ _ hL0
    rcases run_kc o x0 x1 (.lacks x0 x1) (fun k c => Vbenah.listRow (Vbenah.lacks f (Vbenah.at_ f k) (Vbenah.cardAt (Vbenah.at_ f k) c))) rfl with ⟨g1, g2⟩ | ⟨g1, ms, g2, g3, g4⟩
    · exact if_t (decide_eq_true g1) ⟨_, rfl, (show 1 ≤ sizeLine by decide), fun L nL => k _ L f xs [_] (But.of (Same.trans s1 (Same.new nL))) (hD1.same (Same.less (Same.new nL))) o upd_same (s1.free nL) (stp_err g2)⟩
    · refine if_f (decide_eq_false g1) ⟨_, rfl, He.ga K "DEEDS", _, 14, .ref (He.ga K "lacks_call"), rfl, rfl, deeds _, rfl, He.ga K "lacks_call", sp_lacks_call K, rfl, held_of (c_lacks_call E) (E.glo 67) (by decide), _, rfl, _, rfl, _, rfl, ?_⟩
      have hn1 := s1 _ _ hn
      rw [g2, ints_of] at hn1
      exact ⟨d, np, rp, f, xs, ms, rfl, hD.same s1, o, hn1, g3, fun H2 q s2 nq e2 => k H2 q f xs _ (But.of (Same.trans s1 s2)) (hD1.same (Same.less s2)) o e2 (s1.free nq) (stp_ok g4)⟩
  | nest x0 =>
    refine ⟨_, rfl, _, rfl, He.ga K "KINDS", _, 15, .str "k", rfl, rfl, kinds H, rfl, _, rfl, d, np, f, xs, "k", [.k], [x0], rfl, by decide +kernel, rfl, by decide, (fun i h => match i, h with | 0, h => by cases h | i + 1, _ => ⟨Nat.succ_pos _, rfl⟩), hD, hln, hn, fun H1 s1 => ⟨_, rfl, _, 0, rfl, rfl, _, rfl, ?_⟩⟩
    have hD1 := hD0.same (Same.less s1)
    have hL1 := s1 _ _ hL0
    rcases run_k o x0 (.nest x0) (fun n => (f, (nestAns f) n)) (nest_run f x0) with ⟨g1, g2⟩ | ⟨g1, ms, g2, g3, g4⟩
    · exact if_t (decide_eq_true g1) ⟨_, rfl, (show 1 ≤ sizeLine by decide), fun L nL => k _ L f xs [_] (But.of (Same.trans s1 (Same.new nL))) (hD1.same (Same.less (Same.new nL))) o upd_same (s1.free nL) (stp_err g2)⟩
    · refine if_f (decide_eq_false g1) ⟨_, rfl, He.ga K "DEEDS", _, 15, .ref (He.ga K "nest"), rfl, rfl, deeds _, rfl, He.ga K "nest", sp_nest K, rfl, held_of (c_nest E) (E.glo 68) (by decide), _, rfl, _, rfl, _, rfl, ?_⟩
      have hn1 := s1 _ _ hn
      rw [g2, ints_of] at hn1
      obtain ⟨n, rfl, hk⟩ := g3
      exact ⟨d, np, rp, f, xs, [n], rfl, hD.same s1, o, hn1, ⟨n, rfl, hk⟩, fun H2 q s2 nq e2 => k H2 q f xs _ (But.of (Same.trans s1 s2)) (hD1.same (Same.less s2)) o e2 (s1.free nq) (stp_ok g4)⟩
  | mixers x0 x1 =>
    refine ⟨_, rfl, _, rfl, He.ga K "KINDS", _, 16, .str "kw", rfl, rfl, kinds H, rfl, _, rfl, d, np, f, xs, "kw", [.k, .w], [x0, x1], rfl, by decide +kernel, rfl, by decide, (fun i h => match i, h with | 0, h => by cases h | i + 1, _ => ⟨Nat.succ_pos _, rfl⟩), hD, hln, hn, fun H1 s1 => ⟨_, rfl, _, 0, rfl, rfl, _, rfl, ?_⟩⟩
    have hD1 := hD0.same (Same.less s1)
    have hL1 := s1 _ _ hL0
    rcases run_kw o x0 x1 (.mixers x0 x1) (mixAns f) (mixers_run f x0 x1) with ⟨g1, g2⟩ | ⟨g1, ms, g2, g3, g4⟩
    · exact if_t (decide_eq_true g1) ⟨_, rfl, (show 1 ≤ sizeLine by decide), fun L nL => k _ L f xs [_] (But.of (Same.trans s1 (Same.new nL))) (hD1.same (Same.less (Same.new nL))) o upd_same (s1.free nL) (stp_err g2)⟩
    · refine if_f (decide_eq_false g1) ⟨_, rfl, He.ga K "DEEDS", _, 16, .ref (He.ga K "mixers_call"), rfl, rfl, deeds _, rfl, He.ga K "mixers_call", sp_mixers_call K, rfl, held_of (c_mixers_call E) (E.glo 70) (by decide), _, rfl, _, rfl, _, rfl, ?_⟩
      have hn1 := s1 _ _ hn
      rw [g2, ints_of] at hn1
      exact ⟨d, np, rp, f, xs, ms, rfl, hD.same s1, o, hn1, g3, fun H2 q s2 nq e2 => k H2 q f xs _ (But.of (Same.trans s1 s2)) (hD1.same (Same.less s2)) o e2 (s1.free nq) (stp_ok g4)⟩
  | why x0 x1 x2 =>
    refine ⟨_, rfl, _, rfl, He.ga K "KINDS", _, 17, .str "kwc", rfl, rfl, kinds H, rfl, _, rfl, d, np, f, xs, "kwc", [.k, .w, .c], [x0, x1, x2], rfl, by decide +kernel, rfl, by decide, (fun i h => match i, h with | 0, h => by cases h | i + 1, _ => ⟨Nat.succ_pos _, rfl⟩), hD, hln, hn, fun H1 s1 => ⟨_, rfl, _, 0, rfl, rfl, _, rfl, ?_⟩⟩
    have hD1 := hD0.same (Same.less s1)
    have hL1 := s1 _ _ hL0
    rcases run_kwc o x0 x1 x2 (.why x0 x1 x2) (whyAns f) rfl with ⟨g1, g2⟩ | ⟨g1, ms, g2, g3, g4⟩
    · exact if_t (decide_eq_true g1) ⟨_, rfl, (show 1 ≤ sizeLine by decide), fun L nL => k _ L f xs [_] (But.of (Same.trans s1 (Same.new nL))) (hD1.same (Same.less (Same.new nL))) o upd_same (s1.free nL) (stp_err g2)⟩
    · refine if_f (decide_eq_false g1) ⟨_, rfl, He.ga K "DEEDS", _, 17, .ref (He.ga K "why"), rfl, rfl, deeds _, rfl, He.ga K "why", sp_why K, rfl, held_of (c_why E) (E.glo 71) (by decide), _, rfl, _, rfl, _, rfl, ?_⟩
      have hn1 := s1 _ _ hn
      rw [g2, ints_of] at hn1
      exact ⟨d, np, rp, f, xs, ms, rfl, hD.same s1, o, hn1, g3, fun H2 q s2 nq e2 => k H2 q f xs _ (But.of (Same.trans s1 s2)) (hD1.same (Same.less s2)) o e2 (s1.free nq) (stp_ok g4)⟩
  | way x0 x1 x2 =>
    refine ⟨_, rfl, _, rfl, He.ga K "KINDS", _, 18, .str "kww", rfl, rfl, kinds H, rfl, _, rfl, d, np, f, xs, "kww", [.k, .w, .w], [x0, x1, x2], rfl, by decide +kernel, rfl, by decide, (fun i h => match i, h with | 0, h => by cases h | i + 1, _ => ⟨Nat.succ_pos _, rfl⟩), hD, hln, hn, fun H1 s1 => ⟨_, rfl, _, 0, rfl, rfl, _, rfl, ?_⟩⟩
    have hD1 := hD0.same (Same.less s1)
    have hL1 := s1 _ _ hL0
    rcases run_kww o x0 x1 x2 (.way x0 x1 x2) (wayAns f) (way_run f x0 x1 x2) with ⟨g1, g2⟩ | ⟨g1, ms, g2, g3, g4⟩
    · exact if_t (decide_eq_true g1) ⟨_, rfl, (show 1 ≤ sizeLine by decide), fun L nL => k _ L f xs [_] (But.of (Same.trans s1 (Same.new nL))) (hD1.same (Same.less (Same.new nL))) o upd_same (s1.free nL) (stp_err g2)⟩
    · refine if_f (decide_eq_false g1) ⟨_, rfl, He.ga K "DEEDS", _, 18, .ref (He.ga K "way"), rfl, rfl, deeds _, rfl, He.ga K "way", sp_way K, rfl, held_of (c_way E) (E.glo 72) (by decide), _, rfl, _, rfl, _, rfl, ?_⟩
      have hn1 := s1 _ _ hn
      rw [g2, ints_of] at hn1
      exact ⟨d, np, rp, f, xs, ms, rfl, hD.same s1, o, hn1, g3, fun H2 q s2 nq e2 => k H2 q f xs _ (But.of (Same.trans s1 s2)) (hD1.same (Same.less s2)) o e2 (s1.free nq) (stp_ok g4)⟩
  | changes x0 =>
    refine ⟨_, rfl, _, rfl, He.ga K "KINDS", _, 19, .str "a", rfl, rfl, kinds H, rfl, _, rfl, d, np, f, xs, "a", [.a], [x0], rfl, by decide +kernel, rfl, by decide, (fun i h => match i, h with | 0, h => by cases h | i + 1, h => by cases h), hD, hln, hn, fun H1 s1 => ⟨_, rfl, _, 0, rfl, rfl, _, rfl, ?_⟩⟩
    have hD1 := hD0.same (Same.less s1)
    have hL1 := s1 _ _ hL0
    rcases run_a o x0 (.changes x0) (chgAns f) rfl with ⟨g1, g2⟩ | ⟨g1, ms, g2, g3, g4⟩
    · exact if_t (decide_eq_true g1) ⟨_, rfl, (show 1 ≤ sizeLine by decide), fun L nL => k _ L f xs [_] (But.of (Same.trans s1 (Same.new nL))) (hD1.same (Same.less (Same.new nL))) o upd_same (s1.free nL) (stp_err g2)⟩
    · refine if_f (decide_eq_false g1) ⟨_, rfl, He.ga K "DEEDS", _, 19, .ref (He.ga K "changes_call"), rfl, rfl, deeds _, rfl, He.ga K "changes_call", sp_changes_call K, rfl, held_of (c_changes_call E) (E.glo 73) (by decide), _, rfl, _, rfl, _, rfl, ?_⟩
      have hn1 := s1 _ _ hn
      rw [g2, ints_of] at hn1
      exact ⟨d, np, rp, f, xs, ms, rfl, hD.same s1, o, hn1, g3, fun H2 q s2 nq e2 => k H2 q f xs _ (But.of (Same.trans s1 s2)) (hD1.same (Same.less s2)) o e2 (s1.free nq) (stp_ok g4)⟩
  | swap x0 =>
    refine ⟨_, rfl, _, rfl, He.ga K "KINDS", _, 20, .str "n", rfl, rfl, kinds H, rfl, _, rfl, d, np, f, xs, "n", [.n], [x0], rfl, by decide +kernel, rfl, by decide, (fun i h => match i, h with | 0, h => by cases h | i + 1, h => by cases h), hD, hln, hn, fun H1 s1 => ⟨_, rfl, _, 0, rfl, rfl, _, rfl, ?_⟩⟩
    have hD1 := hD0.same (Same.less s1)
    have hL1 := s1 _ _ hL0
    rcases run_n o x0 (.swap x0) (swapAns f) rfl with ⟨g1, g2⟩ | ⟨g1, ms, g2, g3, g4⟩
    · exact if_t (decide_eq_true g1) ⟨_, rfl, (show 1 ≤ sizeLine by decide), fun L nL => k _ L f xs [_] (But.of (Same.trans s1 (Same.new nL))) (hD1.same (Same.less (Same.new nL))) o upd_same (s1.free nL) (stp_err g2)⟩
    · refine if_f (decide_eq_false g1) ⟨_, rfl, He.ga K "DEEDS", _, 20, .ref (He.ga K "swap"), rfl, rfl, deeds _, rfl, He.ga K "swap", sp_swap K, rfl, held_of (c_swap E) (E.glo 74) (by decide), _, rfl, _, rfl, _, rfl, ?_⟩
      have hn1 := s1 _ _ hn
      rw [g2, ints_of] at hn1
      exact ⟨d, np, rp, f, xs, ms, rfl, hD.same s1, o, hn1, g3, fun H2 q s2 nq e2 => k H2 q f xs _ (But.of (Same.trans s1 s2)) (hD1.same (Same.less s2)) o e2 (s1.free nq) (stp_ok g4)⟩
  | needs x0 =>
    refine ⟨_, rfl, _, rfl, He.ga K "KINDS", _, 21, .str "k", rfl, rfl, kinds H, rfl, _, rfl, d, np, f, xs, "k", [.k], [x0], rfl, by decide +kernel, rfl, by decide, (fun i h => match i, h with | 0, h => by cases h | i + 1, _ => ⟨Nat.succ_pos _, rfl⟩), hD, hln, hn, fun H1 s1 => ⟨_, rfl, _, 0, rfl, rfl, _, rfl, ?_⟩⟩
    have hD1 := hD0.same (Same.less s1)
    have hL1 := s1 _ _ hL0
    rcases run_k o x0 (.needs x0) (fun n => (f, (fun k => Vbenah.listRow ((Vbenah.at_ f k).cards.map fun c => (Vbenah.lacks f (Vbenah.at_ f k) c).length)) n)) rfl with ⟨g1, g2⟩ | ⟨g1, ms, g2, g3, g4⟩
    · exact if_t (decide_eq_true g1) ⟨_, rfl, (show 1 ≤ sizeLine by decide), fun L nL => k _ L f xs [_] (But.of (Same.trans s1 (Same.new nL))) (hD1.same (Same.less (Same.new nL))) o upd_same (s1.free nL) (stp_err g2)⟩
    · refine if_f (decide_eq_false g1) ⟨_, rfl, He.ga K "DEEDS", _, 21, .ref (He.ga K "needs"), rfl, rfl, deeds _, rfl, He.ga K "needs", sp_needs K, rfl, held_of (c_needs E) (E.glo 75) (by decide), _, rfl, _, rfl, _, rfl, ?_⟩
      have hn1 := s1 _ _ hn
      rw [g2, ints_of] at hn1
      obtain ⟨n, rfl, hk⟩ := g3
      exact ⟨d, np, rp, f, xs, [n], rfl, hD.same s1, o, hn1, ⟨n, rfl, hk⟩, fun H2 q s2 nq e2 => k H2 q f xs _ (But.of (Same.trans s1 s2)) (hD1.same (Same.less s2)) o e2 (s1.free nq) (stp_ok g4)⟩
end
end Bw
namespace Bw
open Vbenah (File State Card)
/-! ### plain: a row of numbers as calls -/
def nKs : List Nat := [0, 0, 0, 0, 0, 1, 0, 2, 2, 2, 2, 2, 2, 2, 2, 1, 2, 3, 3, 1, 1, 1]
def nK (w : Nat) : Nat := nKs.getD w 0
def tK (w : Nat) : Bool := ([1, 2, 4] : List Nat).contains w
theorem shape_cases {p : Int} {n k : Nat} (h : PyVbenah.shape p = some (n, k)) : ∃ w : Nat, p = (w : Nat) ∧ w < 22 ∧ n = nK w ∧ k = if tK w = true then 1 else 0 := by
  by_cases e0 : p = 0
  · subst e0
    have h : some (0, 0) = some (n, k) := h
    injection h with h
    injection h with h1 h2
    exact ⟨0, rfl, by decide, h1.symm, h2.symm⟩
  by_cases e1 : p = 1
  · subst e1
    have h : some (0, 1) = some (n, k) := h
    injection h with h
    injection h with h1 h2
    exact ⟨1, rfl, by decide, h1.symm, h2.symm⟩
  by_cases e2 : p = 2
  · subst e2
    have h : some (0, 1) = some (n, k) := h
    injection h with h
    injection h with h1 h2
    exact ⟨2, rfl, by decide, h1.symm, h2.symm⟩
  by_cases e3 : p = 3
  · subst e3
    have h : some (0, 0) = some (n, k) := h
    injection h with h
    injection h with h1 h2
    exact ⟨3, rfl, by decide, h1.symm, h2.symm⟩
  by_cases e4 : p = 4
  · subst e4
    have h : some (0, 1) = some (n, k) := h
    injection h with h
    injection h with h1 h2
    exact ⟨4, rfl, by decide, h1.symm, h2.symm⟩
  by_cases e5 : p = 5
  · subst e5
    have h : some (1, 0) = some (n, k) := h
    injection h with h
    injection h with h1 h2
    exact ⟨5, rfl, by decide, h1.symm, h2.symm⟩
  by_cases e6 : p = 6
  · subst e6
    have h : some (0, 0) = some (n, k) := h
    injection h with h
    injection h with h1 h2
    exact ⟨6, rfl, by decide, h1.symm, h2.symm⟩
  by_cases e7 : p = 7
  · subst e7
    have h : some (2, 0) = some (n, k) := h
    injection h with h
    injection h with h1 h2
    exact ⟨7, rfl, by decide, h1.symm, h2.symm⟩
  by_cases e8 : p = 8
  · subst e8
    have h : some (2, 0) = some (n, k) := h
    injection h with h
    injection h with h1 h2
    exact ⟨8, rfl, by decide, h1.symm, h2.symm⟩
  by_cases e9 : p = 9
  · subst e9
    have h : some (2, 0) = some (n, k) := h
    injection h with h
    injection h with h1 h2
    exact ⟨9, rfl, by decide, h1.symm, h2.symm⟩
  by_cases e10 : p = 10
  · subst e10
    have h : some (2, 0) = some (n, k) := h
    injection h with h
    injection h with h1 h2
    exact ⟨10, rfl, by decide, h1.symm, h2.symm⟩
  by_cases e11 : p = 11
  · subst e11
    have h : some (2, 0) = some (n, k) := h
    injection h with h
    injection h with h1 h2
    exact ⟨11, rfl, by decide, h1.symm, h2.symm⟩
  by_cases e12 : p = 12
  · subst e12
    have h : some (2, 0) = some (n, k) := h
    injection h with h
    injection h with h1 h2
    exact ⟨12, rfl, by decide, h1.symm, h2.symm⟩
  by_cases e13 : p = 13
  · subst e13
    have h : some (2, 0) = some (n, k) := h
    injection h with h
    injection h with h1 h2
    exact ⟨13, rfl, by decide, h1.symm, h2.symm⟩
  by_cases e14 : p = 14
  · subst e14
    have h : some (2, 0) = some (n, k) := h
    injection h with h
    injection h with h1 h2
    exact ⟨14, rfl, by decide, h1.symm, h2.symm⟩
  by_cases e15 : p = 15
  · subst e15
    have h : some (1, 0) = some (n, k) := h
    injection h with h
    injection h with h1 h2
    exact ⟨15, rfl, by decide, h1.symm, h2.symm⟩
  by_cases e16 : p = 16
  · subst e16
    have h : some (2, 0) = some (n, k) := h
    injection h with h
    injection h with h1 h2
    exact ⟨16, rfl, by decide, h1.symm, h2.symm⟩
  by_cases e17 : p = 17
  · subst e17
    have h : some (3, 0) = some (n, k) := h
    injection h with h
    injection h with h1 h2
    exact ⟨17, rfl, by decide, h1.symm, h2.symm⟩
  by_cases e18 : p = 18
  · subst e18
    have h : some (3, 0) = some (n, k) := h
    injection h with h
    injection h with h1 h2
    exact ⟨18, rfl, by decide, h1.symm, h2.symm⟩
  by_cases e19 : p = 19
  · subst e19
    have h : some (1, 0) = some (n, k) := h
    injection h with h
    injection h with h1 h2
    exact ⟨19, rfl, by decide, h1.symm, h2.symm⟩
  by_cases e20 : p = 20
  · subst e20
    have h : some (1, 0) = some (n, k) := h
    injection h with h
    injection h with h1 h2
    exact ⟨20, rfl, by decide, h1.symm, h2.symm⟩
  by_cases e21 : p = 21
  · subst e21
    have h : some (1, 0) = some (n, k) := h
    injection h with h
    injection h with h1 h2
    exact ⟨21, rfl, by decide, h1.symm, h2.symm⟩
  unfold PyVbenah.shape at h
  rw [if_neg e0, if_neg e1, if_neg e2, if_neg e3, if_neg e4, if_neg e5, if_neg e6, if_neg e7, if_neg e8, if_neg e9, if_neg e10, if_neg e11, if_neg e12, if_neg e13, if_neg e14, if_neg e15, if_neg e16, if_neg e17, if_neg e18, if_neg e19, if_neg e20, if_neg e21] at h
  cases h
theorem len_zero {l : List Int} (h : l.length = 0) : l = [] := List.length_eq_zero_iff.mp h
theorem len_one {l : List Int} (h : l.length = 1) : ∃ a, l = [a] := by
  match l, h with
  | [a], _ => exact ⟨a, rfl⟩
theorem len_two {l : List Int} (h : l.length = 2) : ∃ a b, l = [a, b] := by
  match l, h with
  | [a, b], _ => exact ⟨a, b, rfl⟩
theorem len_three {l : List Int} (h : l.length = 3) : ∃ a b c, l = [a, b, c] := by
  match l, h with
  | [a, b, c], _ => exact ⟨a, b, c, rfl⟩
theorem isC_of (w : Nat) (nums row : List Int) (hw : w < 22) (hn : nums.length = nK w) : ∃ c, IsC w nums row c ∧ Vbenah.decode (((w : Int) :: nums) :: (if tK w = true then [row] else [])) = some c := by
  match w, hw, hn with
  | 0, _, hn =>
    have e := len_zero hn
    subst e
    exact ⟨_, .clear row, rfl⟩
  | 1, _, hn =>
    have e := len_zero hn
    subst e
    exact ⟨_, .file row, rfl⟩
  | 2, _, hn =>
    have e := len_zero hn
    subst e
    exact ⟨_, .look row, rfl⟩
  | 3, _, hn =>
    have e := len_zero hn
    subst e
    exact ⟨_, .text row, rfl⟩
  | 4, _, hn =>
    have e := len_zero hn
    subst e
    exact ⟨_, .act row, rfl⟩
  | 5, _, hn =>
    obtain ⟨a, e⟩ := len_one hn
    subst e
    exact ⟨_, .undo a row, rfl⟩
  | 6, _, hn =>
    have e := len_zero hn
    subst e
    exact ⟨_, .told row, rfl⟩
  | 7, _, hn =>
    obtain ⟨a, b, e⟩ := len_two hn
    subst e
    exact ⟨_, .above a b row, rfl⟩
  | 8, _, hn =>
    obtain ⟨a, b, e⟩ := len_two hn
    subst e
    exact ⟨_, .below a b row, rfl⟩
  | 9, _, hn =>
    obtain ⟨a, b, e⟩ := len_two hn
    subst e
    exact ⟨_, .posted a b row, rfl⟩
  | 10, _, hn =>
    obtain ⟨a, b, e⟩ := len_two hn
    subst e
    exact ⟨_, .card a b row, rfl⟩
  | 11, _, hn =>
    obtain ⟨a, b, e⟩ := len_two hn
    subst e
    exact ⟨_, .falls a b row, rfl⟩
  | 12, _, hn =>
    obtain ⟨a, b, e⟩ := len_two hn
    subst e
    exact ⟨_, .wants a b row, rfl⟩
  | 13, _, hn =>
    obtain ⟨a, b, e⟩ := len_two hn
    subst e
    exact ⟨_, .judge a b row, rfl⟩
  | 14, _, hn =>
    obtain ⟨a, b, e⟩ := len_two hn
    subst e
    exact ⟨_, .lacks a b row, rfl⟩
  | 15, _, hn =>
    obtain ⟨a, e⟩ := len_one hn
    subst e
    exact ⟨_, .nest a row, rfl⟩
  | 16, _, hn =>
    obtain ⟨a, b, e⟩ := len_two hn
    subst e
    exact ⟨_, .mixers a b row, rfl⟩
  | 17, _, hn =>
    obtain ⟨a, b, c, e⟩ := len_three hn
    subst e
    exact ⟨_, .why a b c row, rfl⟩
  | 18, _, hn =>
    obtain ⟨a, b, c, e⟩ := len_three hn
    subst e
    exact ⟨_, .way a b c row, rfl⟩
  | 19, _, hn =>
    obtain ⟨a, e⟩ := len_one hn
    subst e
    exact ⟨_, .changes a row, rfl⟩
  | 20, _, hn =>
    obtain ⟨a, e⟩ := len_one hn
    subst e
    exact ⟨_, .swap a row, rfl⟩
  | 21, _, hn =>
    obtain ⟨a, e⟩ := len_one hn
    subst e
    exact ⟨_, .needs a row, rfl⟩
  | w + 22, hw, _ => exact absurd hw (by omega)
theorem whole_id (c : List (List Int)) : PyVbenah.whole c = c := by
  unfold PyVbenah.whole
  split <;> rfl
theorem call_cases {p : Int} {r t : List Int} {c : List (List Int)} (h : PyFlat.call PyVbenah.shape (p :: r) = some (c, t)) : ∃ w : Nat, p = (w : Nat) ∧ w < 22 ∧ nK w ≤ r.length ∧
    ((tK w = false ∧ c = [p :: r.take (nK w)] ∧ t = r.drop (nK w)) ∨ (tK w = true ∧ ∃ (m : Nat) (r2 : List Int), r.drop (nK w) = (m : Int) :: r2 ∧ m ≤ r2.length ∧ c = [p :: r.take (nK w), r2.take m] ∧ t = r2.drop m)) := by
  have h : (match PyVbenah.shape p with
    | none => none
    | some (n, k) => if r.length < n then none else match PyFlat.rows k (r.drop n) with
      | none => none
      | some (xs, t) => some ((p :: r.take n) :: xs, t)) = some (c, t) := h
  cases hs : PyVbenah.shape p with
  | none =>
    rw [hs] at h
    cases h
  | some q =>
    obtain ⟨n, k⟩ := q
    rw [hs] at h
    obtain ⟨w, e1, e2, e3, e4⟩ := shape_cases hs
    have h : (if r.length < n then none else match PyFlat.rows k (r.drop n) with | none => none | some (xs, t) => some ((p :: r.take n) :: xs, t)) = some (c, t) := h
    by_cases hl : r.length < n
    · rw [if_pos hl] at h
      cases h
    rw [if_neg hl] at h
    subst e3
    refine ⟨w, e1, e2, by omega, ?_⟩
    cases ht : tK w with
    | false =>
      rw [ht] at e4
      have e4 : k = 0 := e4
      subst e4
      have h : some ((p :: r.take (nK w)) :: ([] : List (List Int)), r.drop (nK w)) = some (c, t) := h
      injection h with h
      injection h with h1 h2
      exact Or.inl ⟨rfl, h1.symm, h2.symm⟩
    | true =>
      rw [ht] at e4
      have e4 : k = 1 := e4
      subst e4
      refine Or.inr ⟨rfl, ?_⟩
      cases hd : r.drop (nK w) with
      | nil =>
        rw [hd] at h
        cases h
      | cons m r2 =>
        rw [hd] at h
        by_cases hm : 0 ≤ m ∧ m.toNat ≤ r2.length
        · have hr : PyFlat.row (m :: r2) = some (r2.take m.toNat, r2.drop m.toNat) := if_pos hm
          have hrs : PyFlat.rows 1 (m :: r2) = some ([r2.take m.toNat], r2.drop m.toNat) := by
            unfold PyFlat.rows
            rw [hr]
            rfl
          rw [hrs] at h
          have h : some ((p :: r.take (nK w)) :: [r2.take m.toNat], r2.drop m.toNat) = some (c, t) := h
          injection h with h
          injection h with h1 h2
          exact ⟨m.toNat, r2, by rw [Int.toNat_of_nonneg hm.1], hm.2, h1.symm, h2.symm⟩
        · have hr : PyFlat.row (m :: r2) = none := if_neg hm
          have hrs : PyFlat.rows 1 (m :: r2) = none := by
            unfold PyFlat.rows
            rw [hr]
          rw [hrs] at h
          cases h
theorem calls_cons {g : Nat} {p : Int} {r : List Int} {raw : List (List (List Int))} (h : PyFlat.calls PyVbenah.shape g (p :: r) = some raw) : ∃ g' c t cs, g = g' + 1 ∧ PyFlat.call PyVbenah.shape (p :: r) = some (c, t) ∧ PyFlat.calls PyVbenah.shape g' t = some cs ∧ raw = c :: cs := by
  cases g with
  | zero => cases h
  | succ g =>
    have h : (match PyFlat.call PyVbenah.shape (p :: r) with | none => none | some (c, t) => match PyFlat.calls PyVbenah.shape g t with | none => none | some cs => some (c :: cs)) = some raw := h
    cases h1 : PyFlat.call PyVbenah.shape (p :: r) with
    | none =>
      rw [h1] at h
      cases h
    | some q =>
      obtain ⟨c, t⟩ := q
      rw [h1] at h
      have h : (match PyFlat.calls PyVbenah.shape g t with | none => none | some cs => some (c :: cs)) = some raw := h
      cases h2 : PyFlat.calls PyVbenah.shape g t with
      | none =>
        rw [h2] at h
        cases h
      | some cs =>
        rw [h2] at h
        exact ⟨g, c, t, cs, rfl, rfl, h2, (Option.some.inj h).symm⟩
theorem calls_nil (g : Nat) : PyFlat.calls PyVbenah.shape g [] = some [] := by
  cases g <;> rfl
/-- the answers of calls from a file -/
def ansOf (f : File) (cs : List (List (List Int))) : List Int := PyFlat.told (PyFlat.played VbenahNeutral.step f cs)
theorem answers_eq {l : List Int} {raw : List (List (List Int))} (h : PyFlat.calls PyVbenah.shape l.length l = some raw) : PyVbenah.answers l = ansOf Vbenah.start raw := by
  unfold PyVbenah.answers PyVbenah.calls
  rw [h]
  show PyFlat.told (PyFlat.played _ _ (raw.map PyVbenah.whole)) = _
  have e : raw.map PyVbenah.whole = raw := by
    conv => rhs; rw [← List.map_id raw]
    exact List.map_congr_left fun c _ => whole_id c
  rw [e]
  rfl
theorem ans_cons {f : File} {c : List (List Int)} {x : Vbenah.Call} {cs : List (List (List Int))} (h : Vbenah.decode c = some x) : ansOf f (c :: cs) = ((stp f x).2.length : Int) :: ((stp f x).2 ++ ansOf (stp f x).1 cs) := by
  have e : VbenahNeutral.step f c = stp f x := by
    show Vbenah.step f c = _
    unfold Vbenah.step
    rw [h]
    rfl
  unfold ansOf
  show PyFlat.told ((VbenahNeutral.step f c).2 :: PyFlat.played _ (VbenahNeutral.step f c).1 cs) = _
  rw [e]
  rfl
theorem asked_of {l : List Int} (h : PyVbenah.answers_asked l = true) : ∃ raw, PyFlat.calls PyVbenah.shape l.length l = some raw ∧ PyInside.calls PyVbenah.bound raw = true ∧ (PyVbenah.answers l).length ≤ 10000000 := by
  unfold PyVbenah.answers_asked at h
  cases hc : PyFlat.calls PyVbenah.shape l.length l with
  | none =>
    rw [hc] at h
    cases h
  | some raw =>
    rw [hc] at h
    have h : (!raw.isEmpty && PyFlat.atMost 100 raw && PyInside.calls PyVbenah.bound raw && VbenahNeutral.asked (raw.map PyVbenah.whole) && PyFlat.short 10000000 (PyVbenah.answers l)) = true := h
    simp only [Bool.and_eq_true] at h
    exact ⟨raw, rfl, h.1.1.2, of_decide_eq_true h.2⟩
theorem row_le {w : Nat} {nums row : List Int} (ht : tK w = true) (h : PyInside.call PyVbenah.bound [(w : Int) :: nums, row] = true) : row.length ≤ 2000 := by
  have hw : w = 1 ∨ w = 2 ∨ w = 4 := by
    have := List.contains_iff_mem.mp ht
    simpa using this
  have key : PyInside.lists [(-9223372036854775808, 9223372036854775807, 0, 2000)] [row] = true := by
    unfold PyInside.call at h
    have h : (PyInside.each (PyVbenah.bound (w : Int)).1 nums && PyInside.lists (PyVbenah.bound (w : Int)).2 [row]) = true := h
    rw [Bool.and_eq_true] at h
    rcases hw with rfl | rfl | rfl <;> exact h.2
  have key : (decide (0 ≤ row.length) && decide (row.length ≤ 2000) && row.all (PyInside.within (-9223372036854775808) 9223372036854775807) && true) = true := key
  simp only [Bool.and_eq_true, decide_eq_true_iff] at key
  exact key.1.1.2
theorem asked_cons {c : List (List Int)} {cs : List (List (List Int))} (h : PyInside.calls PyVbenah.bound (c :: cs) = true) : PyInside.call PyVbenah.bound c = true ∧ PyInside.calls PyVbenah.bound cs = true := by
  have h : (PyInside.call PyVbenah.bound c && PyInside.calls PyVbenah.bound cs) = true := h
  rwa [Bool.and_eq_true] at h
end Bw
namespace Bw
open PySem PySem.Spec PyProof.Rows L2
open Vbenah (File State Card Act)
section
variable {P : Program} {w : World} {K : PySem.W.Frag} {mg : Str → Option Value} {base : Heap}
theorem kind_str {K : PySem.W.Frag} {w : Nat} (hw : w < 22) : ∃ z : Str, (tv_KINDS.map (He.Dv.v K))[w]? = some (.str z) ∧ z.length = nK w ∧ z.length ≤ 10 := by
  match w, hw with
  | 0, _ => exact ⟨"", rfl, by decide +kernel, by decide +kernel⟩
  | 1, _ => exact ⟨"", rfl, by decide +kernel, by decide +kernel⟩
  | 2, _ => exact ⟨"", rfl, by decide +kernel, by decide +kernel⟩
  | 3, _ => exact ⟨"", rfl, by decide +kernel, by decide +kernel⟩
  | 4, _ => exact ⟨"", rfl, by decide +kernel, by decide +kernel⟩
  | 5, _ => exact ⟨"k", rfl, by decide +kernel, by decide +kernel⟩
  | 6, _ => exact ⟨"", rfl, by decide +kernel, by decide +kernel⟩
  | 7, _ => exact ⟨"kw", rfl, by decide +kernel, by decide +kernel⟩
  | 8, _ => exact ⟨"kw", rfl, by decide +kernel, by decide +kernel⟩
  | 9, _ => exact ⟨"kw", rfl, by decide +kernel, by decide +kernel⟩
  | 10, _ => exact ⟨"kc", rfl, by decide +kernel, by decide +kernel⟩
  | 11, _ => exact ⟨"kw", rfl, by decide +kernel, by decide +kernel⟩
  | 12, _ => exact ⟨"kw", rfl, by decide +kernel, by decide +kernel⟩
  | 13, _ => exact ⟨"kw", rfl, by decide +kernel, by decide +kernel⟩
  | 14, _ => exact ⟨"kc", rfl, by decide +kernel, by decide +kernel⟩
  | 15, _ => exact ⟨"k", rfl, by decide +kernel, by decide +kernel⟩
  | 16, _ => exact ⟨"kw", rfl, by decide +kernel, by decide +kernel⟩
  | 17, _ => exact ⟨"kwc", rfl, by decide +kernel, by decide +kernel⟩
  | 18, _ => exact ⟨"kww", rfl, by decide +kernel, by decide +kernel⟩
  | 19, _ => exact ⟨"a", rfl, by decide +kernel, by decide +kernel⟩
  | 20, _ => exact ⟨"n", rfl, by decide +kernel, by decide +kernel⟩
  | 21, _ => exact ⟨"k", rfl, by decide +kernel, by decide +kernel⟩
  | w + 22, hw => exact absurd hw (by omega)
theorem less_self {L : Addr} {H : Hp} {o : HO} : less [L] (upd H L o) = less [L] H := by
  funext b
  by_cases e : b = L
  · rw [less_in (by simp [e]), less_in (by simp [e])]
  · rw [less_out (by simpa using e), less_out (by simpa using e), upd_ne e]
/-- what answers promises -/
def sp_answers (K : PySem.W.Frag) : Sp := fun vs H Q _ => ∃ (a : Addr) (ns : List Int), vs = [.ref a] ∧ SqL K H a (ns.map V.int) ∧ PyVbenah.answers_asked ns = true ∧
  ∀ (H' : Hp) (p : Addr), H' p = some (.lst ((PyVbenah.answers ns).map V.int)) → Q (.ref p) H'
theorem len_answers (K : PySem.W.Frag) : ∀ vs H Q E, sp_answers K vs H Q E → vs.length = 1 := fun _ _ _ _ ⟨_, _, h, _⟩ => by rw [h]; rfl
def AnW (K : PySem.W.Frag) (H : Hp) (a d L : Addr) (ns : List Int) (m : Nat) (σ : L2.St) (H' : Hp) : Prop := ∃ (at_ : Nat) (f : File) (xs : List NAct) (fnd : List Int) (raw : List (List (List Int))) (g : Nat) (x4 x5 x6 x7 x8 : Option V),
  m = ns.length - at_ ∧ at_ ≤ ns.length ∧ σ = [some (.ref a), some (.ref d), some (.ref L), some (.int (at_ : Nat)), x4, x5, x6, x7, x8] ∧ Same H H' ∧ DeskV K (less [L] H') d f xs ∧ Ok f xs ∧ H' L = some (.lst (fnd.map V.int)) ∧
    PyFlat.calls PyVbenah.shape g (ns.drop at_) = some raw ∧ PyInside.calls PyVbenah.bound raw = true ∧ PyVbenah.answers ns = fnd ++ ansOf f raw
theorem sc_answers : FnScope (["calls", "desk", "found", "at", "word", "k", "numbers", "row", "some"] : List Str) ["calls"] (defScope s_answers) := C8.fnScope_by (by decide +kernel)
theorem b_answers (E : Env P w K mg base) : BodyT CX0 P w K mg base ["calls", "desk", "found", "at", "word", "k", "numbers", "row", "some"] "answers" s_answers (He.ga K "answers") 12 (sp_answers K) := by
  have sc := sc_answers
  refine fun cdv A outer s H vs Q X hr h => ⟨_, PSs.nox ((pss_cons (ps_set (i := 1) sc.nd rfl (Or.inl rfl) (pe_k0 (c_Desk_init E) hr (by decide) rfl))
    (pss_cons (ps_set (i := 2) sc.nd rfl (Or.inl rfl) (pe_lst pa_nil))
    (pss_cons (ps_set (i := 3) sc.nd rfl (Or.inr rfl) pe_int)
    (pss_cons (ps_while PassesOwn.never (pt_cmpR op_lt (pv 3) (pe_callB (clen (K := K)) rfl (fr_len E) (by decide +kernel) (pa_cons (pv 0) pa_nil)) (nomark _))
    (pss_cons (ps_set (i := 4) sc.nd rfl (Or.inl rfl) (pe_ix (ixL (K := K)) (pv 0) (pv 3) (fun _ _ => rfl)))
    (pss_cons (ps_setLc (i := 6) (own := [("k", 5)]) (g := (gName 5)) rfl sc.nd rfl rfl (sw_true rfl rfl rfl (by decide +kernel)) (pi_range1 (by rfl) (fr_range E) (pa_cons (pe_callB call_len_str rfl (fr_len E) (by decide +kernel) (pa_cons (pe_ix (ixT (K := K)) (C8.pe_gc rfl (g_KINDS E)) (pv 4) (fun _ _ => rfl)) pa_nil)) pa_nil)) (blkOk_by (own := [("k", 5)]) (N := ["calls", "desk", "found", "at", "word", "k", "numbers", "row", "some"]) (sc := defScope s_answers) (by decide +kernel)) (fun _ _ _ _ _ => pg_name (i := 5) sc.nd rfl (Or.inl rfl)) (fun _ _ _ _ _ => pts_nil) (fun _ _ _ _ _ => (pe_ix (ixL (K := K)) (pv 0) (pe_op op_add (pe_op op_add (pv 3) pe_int) (pv 5)) (fun _ _ => rfl))))
    (pss_cons (ps_set (i := 3) sc.nd rfl (Or.inr rfl) (pe_op op_add (pe_op op_add (pv 3) pe_int) (pe_callB (clen (K := K)) rfl (fr_len E) (by decide +kernel) (pa_cons (pv 6) pa_nil))))
    (pss_cons (ps_set (i := 7) sc.nd rfl (Or.inl rfl) (pe_lst pa_nil))
    (pss_cons (ps_if (pt_cmpR (opIn (K := K)) (pv 4) (C8.pe_gc rfl (g_WITH_TEXT E)) (by rfl)) (pss_cons (ps_set (i := 7) sc.nd rfl (Or.inl rfl) (pe_c (c_row_at E) hr (by decide) rfl pass0 (pa_cons (pv 0) (pa_cons (pv 3) pa_nil))))
    (pss_one (ps_set (i := 3) sc.nd rfl (Or.inr rfl) (pe_op op_add (pe_op op_add (pv 3) pe_int) (pe_callB (clen (K := K)) rfl (fr_len E) (by decide +kernel) (pa_cons (pv 7) pa_nil)))))) pss_nil)
    (pss_cons (ps_set (i := 8) sc.nd rfl (Or.inl rfl) (pe_c (c_answer E) hr (by decide) rfl pass0 (pa_cons (pv 1) (pa_cons (pv 4) (pa_cons (pv 6) (pa_cons (pv 7) pa_nil))))))
    (pss_cons (ps_expr (pe_bm PySem.F.plainAttrs_list PySem.F.slot_list_append PySem.F.type_list_append mt_append (pv 2) (pa_cons (pe_callB (clen (K := K)) rfl (fr_len E) (by decide +kernel) (pa_cons (pv 8) pa_nil)) pa_nil)))
    (pss_one (ps_expr (pe_bm PySem.F.plainAttrs_list PySem.F.slot_list_extend PySem.F.type_list_extend mt_extend (pv 2) (pa_cons (pv 8) pa_nil))))))))))))
    (pss_one (ps_ret (pv 2)))))))), ?_⟩
  obtain ⟨a, ns, rfl, ha, hask, k⟩ := h
  obtain ⟨raw0, hraw, hin, hshort⟩ := asked_of hask
  have kinds := fun H => He.tupB_ok E.tups.2.2.1 H
  have wtx := fun H => He.tupB_ok E.tups.2.2.2 H
  refine fun d dd nd ndd ned => ⟨d, dd, rfl, upd_same, fun H1 fa b1 nfa e1 hF1 => ⟨rfl, Nat.zero_le _, fun L nL => ?_⟩⟩
  have s1 := smB nd ndd b1
  have dL : d ≠ L := ne_of_none e1 nL
  have nLH : H L = none := s1.free nL
  have sL : Same H1 (upd H1 L (.lst [])) := Same.new nL
  have hD1 : DeskV K (less [L] (upd H1 L (.lst []))) d Vbenah.start [] := DeskV.same ⟨dd, fa, e1, hF1⟩ (same_less sL nL)
  refine ⟨AnW K H a d L ns, ⟨_, 0, Vbenah.start, [], [], raw0, ns.length, _, _, _, _, _, rfl, Nat.zero_le _, rfl, Same.trans s1 sL, hD1, ok_start, upd_same, hraw, hin, answers_eq hraw⟩, ?_⟩
  rintro m σ H' ⟨at_, f, xs, fnd, raw, g, x4, x5, x6, x7, x8, hm, hle, rfl, sH, hD, o, hL, hcalls, hin', heq⟩
  have haH := Same.seq sH ha
  refine ⟨_, rfl, _, rfl, a, _, rfl, Or.inl haH, (at_ : Nat), _, rfl, rfl, _, rfl, ?_⟩
  rw [List.length_map]
  by_cases hlt : at_ < ns.length
  · refine if_t (decide_eq_true (by show ((at_ : Nat) : Int) < (ns.length : Nat); omega)) ⟨fun σ' H'' => ∃ m', m' < m ∧ AnW K H a d L ns m' σ' H'', fun _ _ h => h, ?_⟩
    have hget : ns[at_]? = some ns[at_] := List.getElem?_eq_getElem hlt
    have hdr : ns.drop at_ = ns[at_] :: ns.drop (at_ + 1) := List.drop_eq_getElem_cons hlt
    generalize ns[at_] = p at hget hdr
    rw [hdr] at hcalls
    obtain ⟨g', c, t, cs, rfl, hcall, hcalls', rfl⟩ := calls_cons hcalls
    obtain ⟨w, rfl, hw, hnk, htx⟩ := call_cases hcall
    obtain ⟨hic, hics⟩ := asked_cons hin'
    rw [List.length_drop] at hnk
    have hnl : ((ns.drop (at_ + 1)).take (nK w)).length = nK w := by
      rw [List.length_take, List.length_drop]
      omega
    have hnn : ∀ j, j < nK w → ((ns.drop (at_ + 1)).take (nK w))[j]? = ns[at_ + 1 + j]? := fun j hj => by rw [List.getElem?_take_of_lt hj, List.getElem?_drop]
    have hdd : (ns.drop (at_ + 1)).drop (nK w) = ns.drop (at_ + 1 + nK w) := List.drop_drop
    rw [hdd] at htx
    generalize hnums : (ns.drop (at_ + 1)).take (nK w) = nums at *
    refine ⟨_, rfl, _, rfl, a, _, (at_ : Nat), .int (w : Nat), rfl, rfl, haH, atI_nat (by rw [List.getElem?_map, hget]; rfl), ?_⟩
    obtain ⟨z, hz1, hz2, hz3⟩ := kind_str (K := K) hw
    refine ⟨_, rfl, He.ga K "KINDS", _, (w : Nat), .str z, rfl, rfl, kinds H', atI_nat hz1, z, rfl, Nat.le_trans hz3 (by decide), (z.length : Nat), rfl, by omega, by omega, fun D nD => ?_⟩
    rw [hz2]
    refine lc_it walk_rngN (CL H' D (fun _ v z => v = V.int z) nums fun z => some z) (CL.start nD) (fun i H2 hi q => trivial) (fun j v H2 H3 hj q yy => ?_) fun H2 q => ?_
    · obtain ⟨rfl, rfl⟩ := yy
      have hj2 : j < nK w := hj
      have hzz : ns[at_ + 1 + j]? = some (ns[at_ + 1 + j]'(by omega)) := List.getElem?_eq_getElem (by omega)
      generalize ns[at_ + 1 + j]'(by omega) = y at hzz
      refine ⟨rfl, yes_ ⟨_, rfl, _, rfl, (at_ : Nat), 1, rfl, rfl, _, rfl, (at_ : Nat) + 1, (j : Nat), rfl, rfl, a, _, (at_ : Nat) + 1 + (j : Nat), .int y, rfl, rfl, q.same.seq haH, ?_, CL.put q (Same.refl _) (y := y) (x := y) (by rw [hnn j hj2, hzz]) rfl (by omega) (fun _ _ _ _ _ h => h) fun _ _ => rfl⟩⟩
      rw [show ((at_ : Nat) : Int) + 1 + (j : Nat) = ((at_ + 1 + j : Nat) : Int) by omega]
      exact atI_nat (by rw [List.getElem?_map, hzz]; rfl)
    · have q2 : CL H' D (fun _ v z => v = V.int z) nums (fun z => some z) nums.length H2 := by
        rw [hnl]
        exact q
      obtain ⟨B, vs, q1, q2, q3, q4, q5⟩ := q2.fin
      rw [filterMap_some' (fun z => z), List.map_id'] at q5
      have ev : ∀ {vs : List V} {l : List Int}, Paired (fun v z => v = V.int z) vs l → vs = l.map V.int := fun {vs l} pp => by
        induction pp with
        | nil => rfl
        | cons r t ih => rw [List.map_cons, ← ih, r]
      rw [ev q5] at q4
      have s2 := Same.trans q1 q2
      refine ⟨_, rfl, (at_ : Nat), 1, rfl, rfl, _, rfl, D, _, rfl, Or.inl (SqL.of q4), (at_ : Nat) + 1, _, rfl, rfl, ?_⟩
      have eAt : V.int (((at_ : Nat) : Int) + 1 + ((nums.map V.int).length : Nat)) = V.int ((at_ + 1 + nK w : Nat)) := by
        rw [List.length_map, hnl]
        congr 1
      have eAt : (fun i j : Int => V.int (i + j)) (((at_ : Nat) : Int) + 1) ((nums.map V.int).length : Nat) = V.int ((at_ + 1 + nK w : Nat)) := eAt
      rw [eAt]
      refine ⟨Nat.zero_le _, fun R nR => ?_⟩
      have sR := Same.new (o := .lst []) nR
      have sT := Same.trans s2 sR
      have ew : inV (.int (w : Nat)) (tv_WITH_TEXT.map (He.Dv.v K)) = tK w := inV_nV w [1, 2, 4]
      refine ⟨_, rfl, He.ga K "WITH_TEXT", _, rfl, Or.inr (wtx _), rfl, rfl, _, rfl, ?_⟩
      rw [if_neg (by decide), ew]
      rcases htx with ⟨ht, hc, ht2⟩ | ⟨ht, mm, r2, hr2, hml, hc, ht2⟩
      · obtain ⟨x, hC, hdec⟩ := isC_of w nums [] hw hnl
        rw [ht, if_neg Bool.false_ne_true, ← hc] at hdec
        refine if_f ht ?_
        have eD5 : upd H2 R (.lst []) D = some (.lst (nums.map V.int)) := sR _ _ q4
        have eR5 : upd H2 R (.lst []) R = some (.lst (([] : List Int).map V.int)) := upd_same
        have hrl : ([] : List Int).length ≤ 2000 := Nat.zero_le _
        have hcl : PyFlat.calls PyVbenah.shape g' (ns.drop (at_ + 1 + nK w)) = some cs := by
          rw [← ht2]
          exact hcalls'
        have hL5 := sT _ _ hL
        have hD5 := hD.same (Same.less sT)
        refine ⟨_, rfl, _, rfl, _, rfl, _, rfl, d, D, R, L, fnd.map V.int, f, xs, w, nums, [], x, rfl, hL5, hD5, o, eD5, eR5, hrl, hC, fun H6 q g6 ys ans b6 hD6 o6 e6 nq hst => ?_⟩
        have hL6 := b6 _ _ (by simpa using Ne.symm dL) hL5
        have qL : q ≠ L := fun z => by
          rw [z, hL5] at nq
          cases nq
        have sH6 : Same H H6 := fun b u e => b6 _ _ (by simpa using ne_of_none e nd) ((Same.trans sH sT) _ _ e)
        have ha2 := ans_cons (f := f) (cs := cs) hdec
        rw [hst] at ha2
        have ha2 : ansOf f (c :: cs) = (ans.length : Int) :: (ans ++ ansOf g6 cs) := ha2
        have heq2 : PyVbenah.answers ns = fnd ++ ((ans.length : Int) :: (ans ++ ansOf g6 cs)) := heq.trans (by rw [ha2])
        have hlen2 : fnd.length + 1 + ans.length ≤ 10000000 := by
          have h := congrArg List.length heq2
          rw [List.length_append, List.length_cons, List.length_append] at h
          omega
        have sz := sizeLine_eq
        refine ⟨_, rfl, ty_lst hL6, _, rfl, q, _, rfl, Or.inl (SqL.of e6), L, _, _, rfl, rfl, hL6, by rw [List.length_map]; omega, ?_⟩
        refine ⟨_, rfl, ty_lst upd_same, _, rfl, L, q, _, _, rfl, rfl, upd_same, (by rw [upd_ne qL]; exact e6), ?_, ?_⟩
        · rw [List.length_append, List.length_map, List.length_map, List.length_singleton]
          omega
        · refine ⟨ns.length - (at_ + 1 + nK w), by omega, at_ + 1 + nK w, g6, ys, fnd ++ ((ans.length : Int) :: ans), cs, g', _, _, _, _, _, rfl, by omega, rfl, Same.put (Same.put sH6 nLH) nLH, ?_, o6, ?_, ?_, hics, ?_⟩
          · rw [less_self, less_self]
            exact hD6
          · rw [upd_same, List.length_map, List.map_append, List.append_assoc]
            rfl
          · exact hcl
          · rw [heq2, List.append_assoc]
            rfl
      · have hd3 := congrArg List.length hr2
        rw [List.length_drop, List.length_cons] at hd3
        have hlt3 : at_ + 1 + nK w < ns.length := by omega
        have hdr3 : ns.drop (at_ + 1 + nK w) = ns[at_ + 1 + nK w] :: ns.drop (at_ + 1 + nK w + 1) := List.drop_eq_getElem_cons hlt3
        have hget3 : ns[at_ + 1 + nK w]? = some ns[at_ + 1 + nK w] := List.getElem?_eq_getElem hlt3
        rw [hdr3] at hr2
        injection hr2 with hr3 hr4
        rw [hr3] at hget3
        subst hr4
        rw [hc] at hic
        have hrl := row_le ht hic
        have hrl2 : ((ns.drop (at_ + 1 + nK w + 1)).take mm).length = mm := by
          rw [List.length_take]
          omega
        obtain ⟨x, hC, hdec⟩ := isC_of w nums ((ns.drop (at_ + 1 + nK w + 1)).take mm) hw hnl
        rw [ht, if_pos rfl, ← hc] at hdec
        rw [List.length_drop] at hml
        refine if_t ht ⟨_, rfl, _, rfl, a, ns, at_ + 1 + nK w, mm, rfl, sT.seq haH, hget3, by omega, by omega, fun H5 rr s5 nrr eR5 => ?_⟩
        refine ⟨_, rfl, ((at_ + 1 + nK w : Nat) : Int), 1, rfl, rfl, _, rfl, rr, _, rfl, Or.inl (SqL.of eR5), ((at_ + 1 + nK w : Nat) : Int) + 1, _, rfl, rfl, ?_⟩
        have eAt2 : V.int (((at_ + 1 + nK w : Nat) : Int) + 1 + ((((ns.drop (at_ + 1 + nK w + 1)).take mm).map V.int).length : Nat)) = V.int ((at_ + 1 + nK w + 1 + mm : Nat)) := by
          rw [List.length_map, hrl2]
          congr 1
        have eAt2 : (fun i j : Int => V.int (i + j)) (((at_ + 1 + nK w : Nat) : Int) + 1) ((((ns.drop (at_ + 1 + nK w + 1)).take mm).map V.int).length : Nat) = V.int ((at_ + 1 + nK w + 1 + mm : Nat)) := eAt2
        rw [eAt2]
        have sT := Same.trans sT s5
        have eD5 : H5 D = some (.lst (nums.map V.int)) := s5 _ _ (sR _ _ q4)
        have hcl : PyFlat.calls PyVbenah.shape g' (ns.drop (at_ + 1 + nK w + 1 + mm)) = some cs := by
          rw [← List.drop_drop, ← ht2]
          exact hcalls'
        have hL5 := sT _ _ hL
        have hD5 := hD.same (Same.less sT)
        refine ⟨_, rfl, _, rfl, _, rfl, _, rfl, d, D, rr, L, fnd.map V.int, f, xs, w, nums, ((ns.drop (at_ + 1 + nK w + 1)).take mm), x, rfl, hL5, hD5, o, eD5, eR5, hrl, hC, fun H6 q g6 ys ans b6 hD6 o6 e6 nq hst => ?_⟩
        have hL6 := b6 _ _ (by simpa using Ne.symm dL) hL5
        have qL : q ≠ L := fun z => by
          rw [z, hL5] at nq
          cases nq
        have sH6 : Same H H6 := fun b u e => b6 _ _ (by simpa using ne_of_none e nd) ((Same.trans sH sT) _ _ e)
        have ha2 := ans_cons (f := f) (cs := cs) hdec
        rw [hst] at ha2
        have ha2 : ansOf f (c :: cs) = (ans.length : Int) :: (ans ++ ansOf g6 cs) := ha2
        have heq2 : PyVbenah.answers ns = fnd ++ ((ans.length : Int) :: (ans ++ ansOf g6 cs)) := heq.trans (by rw [ha2])
        have hlen2 : fnd.length + 1 + ans.length ≤ 10000000 := by
          have h := congrArg List.length heq2
          rw [List.length_append, List.length_cons, List.length_append] at h
          omega
        have sz := sizeLine_eq
        refine ⟨_, rfl, ty_lst hL6, _, rfl, q, _, rfl, Or.inl (SqL.of e6), L, _, _, rfl, rfl, hL6, by rw [List.length_map]; omega, ?_⟩
        refine ⟨_, rfl, ty_lst upd_same, _, rfl, L, q, _, _, rfl, rfl, upd_same, (by rw [upd_ne qL]; exact e6), ?_, ?_⟩
        · rw [List.length_append, List.length_map, List.length_map, List.length_singleton]
          omega
        · refine ⟨ns.length - (at_ + 1 + nK w + 1 + mm), by omega, at_ + 1 + nK w + 1 + mm, g6, ys, fnd ++ ((ans.length : Int) :: ans), cs, g', _, _, _, _, _, rfl, by omega, rfl, Same.put (Same.put sH6 nLH) nLH, ?_, o6, ?_, ?_, hics, ?_⟩
          · rw [less_self, less_self]
            exact hD6
          · rw [upd_same, List.length_map, List.map_append, List.append_assoc]
            rfl
          · exact hcl
          · rw [heq2, List.append_assoc]
            rfl
  · have he : at_ = ns.length := by omega
    rw [he, List.drop_length, calls_nil] at hcalls
    cases hcalls
    have hn : ansOf f [] = [] := rfl
    rw [hn, List.append_nil] at heq
    refine if_f (decide_eq_false (by show ¬ ((at_ : Nat) : Int) < (ns.length : Nat); omega)) ⟨_, rfl, k H' L ?_⟩
    rw [heq]
    exact hL
end
end Bw
namespace Bw
open PySem PySem.Spec PyProof.Rows L2
open PySem.W (Codec WData OpenSpec)
/-- the row's call, from the promise of the def over a written part that the Hook gives -/
theorem walk_by {r : OpenSpec} {k : Nat} {q : Program} {loose : List Str} {XP : (Str → Option Value) → Heap → Prop} {YP : World → Heap → Prop} {d : DefRec} {ps : List Str}
    {sp : PySem.W.Frag → Sp} (hwell : r.wellSaid = true) (hlen : r.args.length = ps.length) (hr : Room k callerA)
    (F : ∀ (w : World) (mg : Str → Option Value) (fa : Addr) (h : Heap), YP w h → h.Ns mainGlobals mg → mg d.name = some (.ref fa) → ∃ (K : PySem.W.Frag) (fd : FuncData), K.In h ∧
      (∀ (s : Shared) (us : List Value), us.length = ps.length → BindsTo s fd ⟨us, []⟩ (ps.zip us)) ∧ ∀ base : Heap, K.In base → base.Ns mainGlobals mg → FnOk r.prog w K mg base CX0 k fa fd ps (sp K))
    (hsp : ∀ (K : PySem.W.Frag) (H : Hp) (xs : List V) (a : Codec.denoteAll r.args), Codec.withinAll r.args a = true → Codec.app r.args r.asked a = true →
      DwAll K H xs (Codec.encAll r.args a) → sp K xs H (fun v H' => Dw K H' v (r.ret.enc (Codec.app r.args r.f a))) fun _ _ _ => False) :
    PySem.W.WalkOS q loose XP YP r d [] (fun f vs => PySem.call f vs) := by
  intro w s0 s1 mg mb G Y fa o pm cd doc dV kV ho hd hcd hD hmg hg args vals as hpre hlay hrd hwl hlo
  obtain ⟨a, e1, e2⟩ := PySem.W.os_pre_some hpre
  obtain ⟨e3, hwi⟩ := Codec.encAll_of_decAll r.args args a e1
  subst e3
  obtain ⟨K, fd, KX, hb, hF⟩ := F w mg fa _ Y G.T.g hmg
  have hlen2 : (Codec.encAll r.args a).length = ps.length := by rw [encAll_len]; exact hlen
  have call := spec_call (R := []) (cl := PySem.classAt s0.heap) (d0 := r.ret.enc (Codec.app r.args r.f a)) KX G.T.g G.T.b G.T.builtins G.T.nolimit hg hwl (pl_encAll _ _) (layable_weight hlay) hr hF hb hlen2
    (fun H xs _ hS => hsp K H xs a hwi e2 hS) fun _ _ _ z => z
  refine PySem.W.enter_call (codeAny_mono call fun r' s' hq => ?_)
  obtain ⟨u, as', rfl, h1, h2, h3, h4⟩ := hq
  refine ⟨.inl ⟨u, _, as', rfl, fun _ => rfl, h1, ?_, fun z => Bool.noConfusion (show false = true from z)⟩, h2, h3, h4⟩
  exact (OpenSpec.post_iff hwell hwi _ _).mpr rfl
end Bw
namespace Bw
open PySem PySem.Spec PyProof.Rows L2
theorem all_ok {P : Program} {w : World} {K : PySem.W.Frag} {mg : Str → Option Value} {h : Heap} (T : Top K) (X : K.In h) (G : h.Ns mainGlobals mg) : ∃ fd : FuncData,
    (∀ (s : Shared) (us : List Value), us.length = (["calls"] : List Str).length → BindsTo s fd ⟨us, []⟩ ((["calls"] : List Str).zip us)) ∧
      ∀ base : Heap, K.In base → base.Ns mainGlobals mg → FnOk P w K mg base CX0 40 (He.ga K "answers") fd ["calls"] (sp_answers K) := by
  obtain ⟨fd, F⟩ := T.d.def_ 78 (d := d_answers) rfl
  have F : FnP K "answers" "answers" s_answers (He.ga K "answers") fd := F
  exact ⟨fd, fun s us hl => FunD.bindsA F (fun _ _ _ _ _ _ us hl => match us, hl with | [_], _ => rfl) s us hl, fun base hX hG => (FunD.ok F sc_answers (len_answers K) (b_answers ⟨T, hX, hG⟩)).mono (by decide)⟩
end Bw
open PySem PySem.W PyProof.Rows
set_option maxRecDepth 100000 in
set_option maxHeartbeats 8000000 in
theorem PySem.Challenge.cw_broaderwords_s01_answers_holds : PySem.Challenge.rw_broaderwords_s01_answers.Holds := by
  w_on
  refine HandSHeadRun.head_spec (r := PySem.Challenge.rw_broaderwords_s01_answers) (q := Bw.qv) (H := Bw.hkB) (ob := Bw.ob) (M := 12000) (loose := Bw.names) (d := HandSHeadRun.topDef PySem.Challenge.rw_broaderwords_s01_answers.prog 118) (kwd := []) Bw.ob_eq
    (by kernel_rfl) (fun s => by kernel_rfl) Bw.run (by kernel_rfl) (by kernel_rfl) (by kernel_rfl) os_shapes (by first | assumption | decide +kernel) (by decide +kernel) ⟨rfl, rfl, rfl, rfl, rfl, by decide +kernel⟩ ?hw ?hc
  case hw => exact ⟨[.list [.int 6]], by decide +kernel, by decide +kernel⟩
  case hc =>
    refine Bw.walk_by (r := PySem.Challenge.rw_broaderwords_s01_answers) (k := 40) (ps := ["calls"]) (sp := Bw.sp_answers) (by decide +kernel) rfl ⟨rfl, by decide, by decide⟩ ?F ?S
    case F =>
      intro w mg fa h Y G hmg0
      obtain ⟨K, X, T⟩ := Y
      have hmg : mg ("answers" : PySem.Str) = some (.ref fa) := by
        have e : (HandSHeadRun.topDef PySem.Challenge.rw_broaderwords_s01_answers.prog 118).name = ("answers" : PySem.Str) := by kernel_rfl
        rw [← e]
        exact hmg0
      have e := hmg.symm.trans (He.glo_ok X G (T.d.fact 78 (f := .glo "answers") rfl))
      cases e
      obtain ⟨fd, h1, h2⟩ := Bw.all_ok (P := PySem.Challenge.rw_broaderwords_s01_answers.prog) (w := w) T X G
      exact ⟨K, fd, X, h1, h2⟩
    case S =>
      intro K H xs a hwi hask hx
      cases hx with
      | cons h1 h2 =>
        cases h2
        cases h1 with
        | lst hs ha =>
          have e := L2.ints_dw a.1 _ ha
          subst e
          exact ⟨_, a.1, rfl, hs, hask, fun H' p hp => .lst (L2.SqL.of hp) (L2.dw_ints _)⟩
